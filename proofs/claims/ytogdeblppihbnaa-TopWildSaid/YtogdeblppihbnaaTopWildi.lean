/- Texts of the proof (SpHeap, SpHeap2, SpPuts, SpPuts2, SpAsks, SpDoH, SpBlk, DRob, DMod, DMod2, DSrt, DBin, DMap, SpRel, SpRel2, SpRel3, SpRel4, SpRel5, SpRel6, DSame, DFail, DInvM, LawTopWild, DAgg, DPair, DArgOp); no condition. -/
import Derived.Test.YtogdeblppihbnaaTopWildh
import Derived.Lib.SmallJoins
import Derived.Test.YtogdeblppihbnaaFc
import Derived.Deep.Slices
import Derived.OpenShut
set_option linter.unusedSimpArgs false
set_option linter.unusedVariables false
/- A heap as it stands in memory; what its methods do with it. -/
set_option linter.unusedVariables false
set_option linter.unusedSimpArgs false
namespace Go.Proofs.D.S
open Go Go.RowKit
variable {G G' G0 G1 : GH} {L R : List (Nat × Obj)}
/-- A heap: what it is made of, and where that lies. -/
structure HS where
  c : Cf
  tid : Nat
  sid : Nat
  mid : Nat
  mti : Nat
  oni : Nat
  mmi : Nat
  C : Nat
  sz : Nat → Nat
  g : Nat → Bool
  ms : List (Int × Int)
  es : List (V1 × V1)
  live : Int
  peak : Int
  mark : Int
  met : List Int
  on : List Bool
  mem : List Int
abbrev kA : VS := .agg [.int .i64]
def HS.cells (s : HS) : List Cell := cfC s.c ++ [.int .i64 s.c.G, .sl 2 s.tid 0 s.C, .sl 2 s.sid 0 s.ms.length, .map s.mid, .int .i64 s.live, .int .i64 s.peak, .int .i64 s.mark, .sl 1 s.mti 0 s.met.length, .sl 1 s.oni 0 s.on.length, .sl 1 s.mmi 0 s.mem.length]
def HS.X (s : HS) (hid : Nat) : List Nat := [hid, s.mid, s.mti, s.mmi]
structure HRaw (G : GH) (hid : Nat) (s : HS) : Prop where
  w : G.wf
  row : G.get hid = some (.row s.cells false)
  map : G.get s.mid = some (.map kA s.es)
  met : G.get s.mti = some (.row (cells eI s.met) false)
  mem : G.get s.mmi = some (.row (cells eU8 s.mem) false)
  h0 : 1 ≤ hid
  m0 : s.mid ≠ 0
  ne : hid ≠ s.mid ∧ hid ≠ s.mti ∧ hid ≠ s.mmi ∧ s.mid ≠ s.mti ∧ s.mid ≠ s.mmi ∧ s.mti ≠ s.mmi
  on : Sx (s.X hid) G eB s.oni 0 s.on
  on0 : s.oni ≠ 0
  eng : EngR (s.X hid) G s.tid s.sid s.C s.sz s.g s.ms
variable {hid : Nat} {s : HS}
theorem HRaw.ids (h : HRaw G hid s) : Ids G (s.X hid) := fun x hx => by
  simp only [HS.X, List.mem_cons, List.not_mem_nil, or_false] at hx
  rcases hx with rfl | rfl | rfl | rfl
  · exact wf_lt h.w h.row
  · exact wf_lt h.w h.map
  · exact wf_lt h.w h.met
  · exact wf_lt h.w h.mem
theorem HRaw.keep (h : HRaw G hid s) (k : Hp G G' R) : HRaw G' hid s :=
  ⟨k.wf, by rw [k.old _ (wf_lt h.w h.row)]; exact h.row, by rw [k.old _ (wf_lt h.w h.map)]; exact h.map, by rw [k.old _ (wf_lt h.w h.met)]; exact h.met, by rw [k.old _ (wf_lt h.w h.mem)]; exact h.mem, h.h0, h.m0, h.ne, h.on.keep k, h.on0, h.eng.keep k⟩
theorem HRaw.ld (h : HRaw G hid s) (k : Nat) : G.ld hid k = s.cells[k]? := ld_row (row_row h.row)
/-- Cells of the heap's own row are written. -/
theorem HRaw.sts (h : HRaw G hid s) {off : Nat} {new : List Cell} {s' : HS} (hl : off + new.length ≤ 18) (e : splice s.cells off new = s'.cells) (e1 : s'.mid = s.mid) (e2 : s'.mti = s.mti) (e3 : s'.mmi = s.mmi) (e4 : s'.es = s.es) (e5 : s'.met = s.met) (e6 : s'.mem = s.mem)
    (on : Sx (s.X hid) G eB s'.oni 0 s'.on) (on0 : s'.oni ≠ 0) (eng : EngR (s.X hid) G s'.tid s'.sid s'.C s'.sz s'.g s'.ms) :
    ∃ G', G.sts hid off new = some G' ∧ HRaw G' hid s' ∧ FrX (s.X hid) G G' := by
  have fr : FrX (s.X hid) G (G.set hid (some (.row s'.cells false))) := FrX.set (by simp [HS.X])
  have n := h.ne
  have eX : s'.X hid = s.X hid := by unfold HS.X; rw [e1, e2, e3]
  refine ⟨G.set hid (some (.row s'.cells false)), ?_, ⟨wf_set' h.w h.row, by rw [GH.get_set, if_pos rfl], ?_, ?_, ?_, h.h0, by rw [e1]; exact h.m0, by rw [e1, e2, e3]; exact n, by rw [eX]; exact on.fr fr h.w, on0, by rw [eX]; exact eng.fr fr h.w⟩, fr⟩
  · unfold GH.sts
    rw [own_row h.row, Option.bind_some, if_pos (by simp [HS.cells, cfC]; omega), e]
  · rw [e1, e4, GH.get_set, if_neg fun k => n.1 k.symm]; exact h.map
  · rw [e2, e5, GH.get_set, if_neg fun k => n.2.1 k.symm]; exact h.met
  · rw [e3, e6, GH.get_set, if_neg fun k => n.2.2.1 k.symm]; exact h.mem
theorem nb0 {n : Nat} (h : 1 ≤ n) : (!Nat.beq n 0) = true := by cases n with | zero => omega | succ n => rfl
theorem HRaw.slM (h : HRaw G hid s) : Sl G eI s.mti 0 s.met := .inr ⟨_, row_row h.met, by omega, by rw [List.drop_zero, List.take_length]⟩
theorem heap_Heap_pages.sp (h : HRaw G hid s) (hl : s.met.length ≤ 1000000) :
    ∃ id G', CW heap_Heap_pages.id [.c (.ptr hid 0)] G = some ([.c (.sl 1 id 0 s.met.length)], G') ∧ Hp G G' [rowE eB id (s.met.map fun n => decide (n > 0))] ∧ id ≠ 0 := by
  have hm : (1000000 : Nat) ≤ most := by unfold most; decide
  have hid0 : G.next ≠ 0 := by have := h.w.2; omega
  have l15 : ∀ {G2 : GH} {R : List (Nat × Obj)}, Hp G G2 R → G2.ld hid 15 = some (.sl 1 s.mti 0 s.met.length) := fun {G2 R} k => by rw [(h.keep k).ld]; rfl
  have h1 := (Hp.refl h.w).alloc (.row (reps s.met.length (eB false)) false)
  have e1 := l15 (Hp.refl h.w)
  have e2 := l15 h1
  rw [heap_Heap_pages.cw]
  unfold heap_Heap_pages.f
  rw [guardK_of (nb0 h.h0)]
  simp only [Nat.zero_add, e1, q_bs, q_I, q_B, q_P, q_S, q_M, q_c, q_a, q_gz, q_gs, q_gk, q_ct, q_cf, q_nt, q_nf, q_xt, q_xf, q_tt, q_ff, q_tf, q_ft, q_at, q_af]
  rw [guardD_of (by omega), Int.toNat_natCast]
  rw [show [Cell.bool false] = eB false from rfl, guardK_of (nb0 h.h0), e2]
  simp only [q_bs, q_I, q_B, q_P, q_S, q_M, q_c, q_a, q_gz, q_gs, q_gk, q_ct, q_cf, q_nt, q_nf, q_xt, q_xf, q_tt, q_ff, q_tf, q_ft, q_at, q_af]
  rw [reps_tab (e := eB)] at h1 ⊢
  refine ⟨G.next, ?_⟩
  generalize G.next = id at h1 hid0 ⊢
  generalize G.alloc (.row (cells eB (tab s.met.length fun _ => false)) false) = G1 at h1 ⊢
  have lp : ∀ (d i : Nat) (G2 : GH), i + d = s.met.length → Hp G G2 [rowE eB id (tab s.met.length fun j => if j < i then decide (s.met.getD j 0 > 0) else false)] →
      ∃ G', heap_Heap_pages.L15 machW CW id 0 s.met.length s.mti 0 s.met.length (s.met.length : Int) (i : Int) G2 = some ([.c (.sl 1 id 0 s.met.length)], G') ∧ Hp G G' [rowE eB id (s.met.map fun n => decide (n > 0))] ∧ id ≠ 0 := by
    intro d
    induction d with
    | zero =>
      intro i G2 hi k
      rw [heap_Heap_pages.L15_eq, condD_neg (by omega)]
      refine ⟨G2, rfl, ?_, hid0⟩
      rw [show (s.met.map fun n => decide (n > 0)) = tab s.met.length fun j => if j < i then decide (s.met.getD j 0 > 0) else false by
        apply List.ext_getElem
        · simp
        · intro j a b
          have hj : j < s.met.length := by simpa using a
          rw [tab_get, if_pos (by omega), List.getElem_map, getD_lt _ hj]]
      exact k
    | succ d ih =>
      intro i G2 hi k
      have him : i < s.met.length := by omega
      have r1 := (h.keep k).slM.ld i 0 him (by omega)
      rw [Nat.add_zero] at r1
      obtain ⟨G3, h3, e3⟩ := k.put (by rw [tab_len]; exact him) (decide (s.met.getD i 0 > 0)) (off := 0 + i * 1) (by omega) rfl
      rw [tab_put (F := fun j => decide (s.met.getD j 0 > 0)) (g := fun _ => false)] at h3
      rw [getD_lt _ him] at e3
      simp only [eB] at e3
      rw [heap_Heap_pages.L15_eq, condD_pos (by omega), guardD_of (by omega)]
      simp only [Int.toNat_natCast, r1, eI, List.getElem?_cons_zero, q_bs, q_I, q_B, q_P, q_S, q_M, q_c, q_a, q_gz, q_gs, q_gk, q_ct, q_cf, q_nt, q_nf, q_xt, q_xf, q_tt, q_ff, q_tf, q_ft, q_at, q_af]
      rw [guardD_of (by omega), e3, q_bs, i64w, wrap_id (by omega) (by omega), show (i : Int) + 1 = ((i + 1 : Nat) : Int) by omega]
      exact ih (i + 1) G3 (by omega) h3
  exact lp s.met.length 0 G1 (by omega) (by
    rw [show (tab s.met.length fun j => if j < 0 then decide (s.met.getD j 0 > 0) else false) = tab s.met.length fun _ => false from tab_congr fun j hj => by rw [if_neg (by omega)]]
    exact h1)
theorem HRaw.setMet (h : HRaw G hid s) {met' : List Int} (hl : met'.length = s.met.length) :
    HRaw (G.set s.mti (some (.row (cells eI met') false))) hid { s with met := met' } ∧ FrX (s.X hid) G (G.set s.mti (some (.row (cells eI met') false))) := by
  have fr : FrX (s.X hid) G (G.set s.mti (some (.row (cells eI met') false))) := FrX.set (by simp [HS.X])
  have n := h.ne
  refine ⟨⟨wf_set' h.w h.met, ?_, ?_, ?_, ?_, h.h0, h.m0, h.ne, h.on.fr fr h.w, h.on0, h.eng.fr fr h.w⟩, fr⟩
  · rw [GH.get_set, if_neg n.2.1, h.row]; simp only [HS.cells, hl]
  · rw [GH.get_set, if_neg n.2.2.2.1]; exact h.map
  · rw [GH.get_set, if_pos rfl]
  · rw [GH.get_set, if_neg fun k => n.2.2.2.2.2 k.symm]; exact h.mem
theorem HRaw.setMem (h : HRaw G hid s) {mem' : List Int} (hl : mem'.length = s.mem.length) :
    HRaw (G.set s.mmi (some (.row (cells eU8 mem') false))) hid { s with mem := mem' } ∧ FrX (s.X hid) G (G.set s.mmi (some (.row (cells eU8 mem') false))) := by
  have fr : FrX (s.X hid) G (G.set s.mmi (some (.row (cells eU8 mem') false))) := FrX.set (by simp [HS.X])
  have n := h.ne
  refine ⟨⟨wf_set' h.w h.mem, ?_, ?_, ?_, ?_, h.h0, h.m0, h.ne, h.on.fr fr h.w, h.on0, h.eng.fr fr h.w⟩, fr⟩
  · rw [GH.get_set, if_neg n.2.2.1, h.row]; simp only [HS.cells, hl]
  · rw [GH.get_set, if_neg n.2.2.2.2.1]; exact h.map
  · rw [GH.get_set, if_neg n.2.2.2.2.2]; exact h.met
  · rw [GH.get_set, if_pos rfl]
theorem HRaw.setMap (h : HRaw G hid s) (es' : List (V1 × V1)) :
    HRaw (G.set s.mid (some (.map kA es'))) hid { s with es := es' } ∧ FrX (s.X hid) G (G.set s.mid (some (.map kA es'))) := by
  have fr : FrX (s.X hid) G (G.set s.mid (some (.map kA es'))) := FrX.set (by simp [HS.X])
  have n := h.ne
  refine ⟨⟨wf_set' h.w h.map, ?_, ?_, ?_, ?_, h.h0, h.m0, h.ne, h.on.fr fr h.w, h.on0, h.eng.fr fr h.w⟩, fr⟩
  · rw [GH.get_set, if_neg n.1]; exact h.row
  · rw [GH.get_set, if_pos rfl]
  · rw [GH.get_set, if_neg fun k => n.2.2.2.1 k.symm]; exact h.met
  · rw [GH.get_set, if_neg fun k => n.2.2.2.2.1 k.symm]; exact h.mem
theorem HRaw.ents (h : HRaw G hid s) : G.ents kA s.mid = some s.es := by unfold GH.ents; rw [h.map]; simp
/-- How many meet each page, with one more or one less on some. -/
def metQ (met : List Int) (first behind by_ : Int) : List Int := tab met.length fun i => met.getD i 0 + if first ≤ (i : Int) ∧ (i : Int) < behind then by_ else 0
theorem metQ_len {met : List Int} {a b c : Int} : (metQ met a b c).length = met.length := by simp [metQ]
theorem heap_Heap_meets.sp (h : HRaw G hid s) (hl : s.met.length ≤ 1000000) (hb : ∀ x ∈ s.met, -1000000 ≤ x ∧ x ≤ 1000000) {a ch asked by_ : Int} (hpg : 1 ≤ s.c.Pg) (ha : 0 ≤ a ∧ a ≤ 65536) (hn : 0 ≤ ch ∧ ch ≤ 65536) (hby : -1 ≤ by_ ∧ by_ ≤ 1) :
    ∃ G', CW heap_Heap_meets.id [.c (.ptr hid 0), .agg [.int .i64 a, .int .i64 ch, .int .i64 asked], .c (.int .i64 by_)] G = some ([], G') ∧ HRaw G' hid { s with met := metQ s.met (pagesP s.c.Pg a ch).1 (pagesP s.c.Pg a ch).2 by_ } ∧ FrX (s.X hid) G G' := by
  have p0 : 0 ≤ (pagesP s.c.Pg a ch).1 ∧ (pagesP s.c.Pg a ch).1 ≤ 65536 := by
    have q0 := Int.ediv_nonneg ha.1 (show 0 ≤ s.c.Pg by omega)
    have q1 := Int.ediv_le_self s.c.Pg ha.1
    unfold pagesP
    split <;> exact ⟨q0, by dsimp only; omega⟩
  obtain ⟨f, ef⟩ : ∃ f : Nat, (pagesP s.c.Pg a ch).1 = (f : Int) := ⟨(pagesP s.c.Pg a ch).1.toNat, by omega⟩
  obtain ⟨bh, eb⟩ : ∃ b, (pagesP s.c.Pg a ch).2 = b := ⟨_, rfl⟩
  have e4 : G.ld hid 4 = some (.int .i64 s.c.Pg) := by rw [h.ld]; rfl
  have pp := pin_Pages.sp (G := G) hpg ha hn
  rw [heap_Heap_meets.cw]
  unfold heap_Heap_meets.f
  rw [guardK_of (nb0 h.h0)]
  simp only [Nat.zero_add, e4, q_bs, q_I, q_B, q_P, q_S, q_M, q_c, q_a, q_gz, q_gs, q_gk, q_ct, q_cf, q_nt, q_nf, q_xt, q_xf, q_tt, q_ff, q_tf, q_ft, q_at, q_af]
  rw [pp]
  simp only [q_bs, q_I, q_B, q_P, q_S, q_M, q_c, q_a, q_gz, q_gs, q_gk, q_ct, q_cf, q_nt, q_nf, q_xt, q_xf, q_tt, q_ff, q_tf, q_ft, q_at, q_af]
  rw [ef, eb]
  let F : Nat → Nat → Int := fun k i => s.met.getD i 0 + if (f : Int) ≤ (i : Int) ∧ (i : Int) < bh ∧ i < k then by_ else 0
  have lp : ∀ (d k : Nat) (G2 : GH), k + d = max k s.met.length → f ≤ k → HRaw G2 hid { s with met := tab s.met.length (F k) } → FrX (s.X hid) G G2 →
      ∃ G', heap_Heap_meets.L13 machW CW hid 0 by_ bh (k : Int) G2 = some ([], G') ∧ HRaw G' hid { s with met := metQ s.met (f : Int) bh by_ } ∧ FrX (s.X hid) G G' := by
    intro d
    induction d with
    | zero =>
      intro k G2 hk hfk h2 fr
      have e15 : G2.ld hid 15 = some (.sl 1 s.mti 0 s.met.length) := by rw [h2.ld]; simp [HS.cells, cfC]
      rw [heap_Heap_meets.L13_eq, guardK_of (nb0 h.h0)]
      simp only [Nat.zero_add, e15, q_bs, q_I, q_B, q_P, q_S, q_M, q_c, q_a, q_gz, q_gs, q_gk, q_ct, q_cf, q_nt, q_nf, q_xt, q_xf, q_tt, q_ff, q_tf, q_ft, q_at, q_af]
      rw [mn2_eq, condD_neg (by omega)]
      refine ⟨G2, rfl, ?_, fr⟩
      rw [show metQ s.met (f : Int) bh by_ = tab s.met.length (F k) from tab_congr fun i hi => by
        simp only [F]
        congr 1
        by_cases hx : (f : Int) ≤ (i : Int) ∧ (i : Int) < bh
        · rw [if_pos hx, if_pos ⟨hx.1, hx.2, by omega⟩]
        · rw [if_neg hx, if_neg fun y => hx ⟨y.1, y.2.1⟩]]
      exact h2
    | succ d ih =>
      intro k G2 hk hfk h2 fr
      have e15 : G2.ld hid 15 = some (.sl 1 s.mti 0 s.met.length) := by rw [h2.ld]; simp [HS.cells, cfC]
      have hkl : k < s.met.length := by omega
      rw [heap_Heap_meets.L13_eq, guardK_of (nb0 h.h0)]
      simp only [Nat.zero_add, e15, q_bs, q_I, q_B, q_P, q_S, q_M, q_c, q_a, q_gz, q_gs, q_gk, q_ct, q_cf, q_nt, q_nf, q_xt, q_xf, q_tt, q_ff, q_tf, q_ft, q_at, q_af]
      rw [mn2_eq]
      by_cases hkb : (k : Int) < bh
      · rw [condD_pos (by omega), guardK_of (nb0 h.h0)]
        rw [guardD_of (by omega)]
        have r1 := h2.slM.ld k 0 (by simpa using hkl) (by omega)
        simp only [Nat.zero_add, Nat.add_zero] at r1
        rw [tab_get (by simpa using hkl)] at r1
        have hF : F k k = s.met[k] := by simp only [F]; rw [if_neg (by omega), getD_lt _ hkl, Int.add_zero]
        rw [hF] at r1
        have hbk := hb _ (List.getElem_mem hkl)
        obtain ⟨h3, fr3⟩ := h2.setMet (met' := (tab s.met.length (F k)).set k (s.met[k] + by_)) (by simp)
        have e3 : G2.sts s.mti (k * 1) [.int .i64 (s.met[k] + by_)] = some (G2.set s.mti (some (.row (cells eI ((tab s.met.length (F k)).set k (s.met[k] + by_))) false))) := by
          unfold GH.sts
          rw [own_row h2.met, Option.bind_some, if_pos (by rw [cells_len]; simp; omega)]
          rw [show [Cell.int .i64 (s.met[k] + by_)] = eI (s.met[k] + by_) from rfl, cells_set (e := eI) _ k _ (by simpa using hkl)]
        simp only [Int.toNat_natCast, r1, eI, List.getElem?_cons_zero, q_bs, q_I, q_B, q_P, q_S, q_M, q_c, q_a, q_gz, q_gs, q_gk, q_ct, q_cf, q_nt, q_nf, q_xt, q_xf, q_tt, q_ff, q_tf, q_ft, q_at, q_af]
        rw [guardD_of (by omega), i64w, wrap_id (by omega) (by omega), e3, q_bs, i64w, wrap_id (by omega) (by omega), show (k : Int) + 1 = ((k + 1 : Nat) : Int) by omega]
        refine ih (k + 1) _ (by omega) (by omega) ?_ (fr.trans fr3)
        rw [show tab s.met.length (F (k + 1)) = (tab s.met.length (F k)).set k (s.met[k] + by_) by
          rw [tab_set]
          refine tab_congr fun i hi => ?_
          simp only [F]
          by_cases hik : i = k
          · subst hik; rw [if_pos rfl, if_pos ⟨by omega, hkb, by omega⟩, getD_lt _ hkl]
          · rw [if_neg hik]
            congr 1
            by_cases hx : (f : Int) ≤ (i : Int) ∧ (i : Int) < bh ∧ i < k
            · rw [if_pos hx, if_pos ⟨hx.1, hx.2.1, by omega⟩]
            · rw [if_neg hx, if_neg fun y => hx ⟨y.1, y.2.1, by omega⟩]]
        exact h3
      · rw [condD_neg (by omega)]
        refine ⟨G2, rfl, ?_, fr⟩
        rw [show metQ s.met (f : Int) bh by_ = tab s.met.length (F k) from tab_congr fun i hi => by
          simp only [F]
          congr 1
          by_cases hx : (f : Int) ≤ (i : Int) ∧ (i : Int) < bh
          · rw [if_pos hx, if_pos ⟨hx.1, hx.2, by omega⟩]
          · rw [if_neg hx, if_neg fun y => hx ⟨y.1, y.2.1⟩]]
        exact h2
  exact lp (max f s.met.length - f) f G (by omega) (Nat.le_refl _) (by
    rw [show tab s.met.length (F f) = s.met by
      conv => rhs; rw [← tab_list s.met 0]
      exact tab_congr fun i hi => by simp only [F]; rw [if_neg (by omega), Int.add_zero]]
    exact h) FrX.refl
end Go.Proofs.D.S
/- A block comes back, a block goes. -/
set_option linter.unusedVariables false
set_option linter.unusedSimpArgs false
namespace Go.Proofs.D.S
open Go Go.RowKit
variable {G G' G0 G1 : GH} {L R : List (Nat × Obj)}
variable {hid : Nat} {s : HS}
abbrev kv (a : Int) : V1 := .agg [.int .i64 a]
abbrev bv (a ch asked : Int) : V1 := .agg [.int .i64 a, .int .i64 ch, .int .i64 asked]
def HS.eng (s : HS) (tid sid : Nat) (g : Nat → Bool) (ms : List (Int × Int)) : HS := { s with tid := tid, sid := sid, g := g, ms := ms }
/-- The engine is put. -/
theorem HRaw.setEng (h : HRaw G hid s) {tid sid : Nat} {g : Nat → Bool} {ms : List (Int × Int)} (e : EngR (s.X hid) G tid sid s.C s.sz g ms) :
    ∃ G', G.sts hid 8 [.int .i64 s.c.G, .sl 2 tid 0 s.C, .sl 2 sid 0 ms.length] = some G' ∧ HRaw G' hid (s.eng tid sid g ms) ∧ FrX (s.X hid) G G' :=
  h.sts (s' := s.eng tid sid g ms) (by simp) rfl rfl rfl rfl rfl rfl rfl h.on h.on0 e
theorem HRaw.setLive (h : HRaw G hid s) (v : Int) : ∃ G', G.sts hid 12 [.int .i64 v] = some G' ∧ HRaw G' hid { s with live := v } ∧ FrX (s.X hid) G G' :=
  h.sts (s' := { s with live := v }) (by simp) rfl rfl rfl rfl rfl rfl rfl h.on h.on0 h.eng
theorem HRaw.setPeak (h : HRaw G hid s) (v : Int) : ∃ G', G.sts hid 13 [.int .i64 v] = some G' ∧ HRaw G' hid { s with peak := v } ∧ FrX (s.X hid) G G' :=
  h.sts (s' := { s with peak := v }) (by simp) rfl rfl rfl rfl rfl rfl rfl h.on h.on0 h.eng
theorem HRaw.setMark (h : HRaw G hid s) (v : Int) : ∃ G', G.sts hid 14 [.int .i64 v] = some G' ∧ HRaw G' hid { s with mark := v } ∧ FrX (s.X hid) G G' :=
  h.sts (s' := { s with mark := v }) (by simp) rfl rfl rfl rfl rfl rfl rfl h.on h.on0 h.eng
theorem HRaw.setOn (h : HRaw G hid s) {oni : Nat} {on : List Bool} (o : Sx (s.X hid) G eB oni 0 on) (o0 : oni ≠ 0) : ∃ G', G.sts hid 16 [.sl 1 oni 0 on.length] = some G' ∧ HRaw G' hid { s with oni := oni, on := on } ∧ FrX (s.X hid) G G' :=
  h.sts (s' := { s with oni := oni, on := on }) (by simp) rfl rfl rfl rfl rfl rfl rfl o o0 h.eng
/-- Numbers that are no matter to wrapping. -/
structure HSm (s : HS) : Prop where
  met : s.met.length ≤ 1000000
  mets : ∀ x ∈ s.met, -1000000 ≤ x ∧ x ≤ 1000000
  pg : 1 ≤ s.c.Pg
  live : -1000000 ≤ s.live ∧ s.live ≤ 1000000
theorem heap_Heap_back.sp (h : HRaw G hid s) (z : HSm s) {a ch asked : Int} (ha : 0 ≤ a ∧ a ≤ 65536) (hn : 0 ≤ ch ∧ ch ≤ 65536) {tid sid : Nat} {g : Nat → Bool} {ms : List (Int × Int)} (e : EngR (s.X hid) G tid sid s.C s.sz g ms) :
    ∃ G', CW heap_Heap_back.id [.c (.ptr hid 0), bv a ch asked, .agg [.int .i64 s.c.G, .sl 2 tid 0 s.C, .sl 2 sid 0 ms.length]] G = some ([], G') ∧
      HRaw G' hid { s.eng tid sid g ms with es := mapPut s.es (kv a) (bv a ch asked), met := metQ s.met (pagesP s.c.Pg a ch).1 (pagesP s.c.Pg a ch).2 1, live := s.live + ch } ∧ FrX (s.X hid) G G' := by
  obtain ⟨G1, e1, h1, f1⟩ := h.setEng e
  have l11 : G1.ld hid 11 = some (.map s.mid) := by rw [h1.ld]; rfl
  obtain ⟨h2, f2⟩ := h1.setMap (mapPut s.es (kv a) (bv a ch asked))
  obtain ⟨G3, e3, h3, f3⟩ := heap_Heap_meets.sp h2 z.met z.mets (a := a) (ch := ch) (asked := asked) (by_ := 1) z.pg ha hn (by omega)
  have l12 : G3.ld hid 12 = some (.int .i64 s.live) := by rw [h3.ld]; rfl
  obtain ⟨G4, e4, h4, f4⟩ := h3.setLive (s.live + ch)
  refine ⟨G4, ?_, h4, ((f1.trans f2).trans f3).trans f4⟩
  have en := h1.ents
  rw [heap_Heap_back.cw]
  unfold heap_Heap_back.f
  rw [guardK_of (nb0 h.h0)]
  simp only [Nat.zero_add]
  rw [e1, q_bs, guardK_of (nb0 h.h0), l11]
  simp only [q_bs, q_I, q_B, q_P, q_S, q_M, q_c, q_a, q_gz, q_gs, q_gk, q_ct, q_cf, q_nt, q_nf, q_xt, q_xf, q_tt, q_ff, q_tf, q_ft, q_at, q_af]
  rw [show G1.ents (.agg [.int .i64]) s.mid = some s.es from en, q_bs]
  have e3' : CW heap_Heap_meets.id [.c (.ptr hid 0), .agg [.int .i64 a, .int .i64 ch, .int .i64 asked], .c (.int .i64 1)] (G1.set s.mid (some (.map (.agg [.int .i64]) (mapPut s.es (.agg [.int .i64 a]) (.agg [.int .i64 a, .int .i64 ch, .int .i64 asked]))))) = some ([], G3) := e3
  rw [e3', q_bs, guardK_of (nb0 h.h0), l12]
  have zl := z.live
  simp only [q_bs, q_I, q_B, q_P, q_S, q_M, q_c, q_a, q_gz, q_gs, q_gk, q_ct, q_cf, q_nt, q_nf, q_xt, q_xf, q_tt, q_ff, q_tf, q_ft, q_at, q_af]
  rw [guardK_of (nb0 h.h0), i64w, wrap_id (by omega) (by omega), e4, q_bs]
theorem heap_Heap_gone.sp (h : HRaw G hid s) (z : HSm s) (so : SzOk s.C s.sz) {Gg k q i : Nat} (eG : s.c.G = (Gg : Int)) (hG : 1 ≤ Gg ∧ Gg * s.sz 0 ≤ 65536) (hk : k < s.C) (hi : i < s.ms.length) (hm : s.ms[i] = (((q * Gg : Nat) : Int), (k : Int))) (hq : q + 2 ^ k ≤ s.sz 0)
    {a ch asked : Int} (ea : a = ((q * Gg : Nat) : Int)) (ha : 0 ≤ a ∧ a ≤ 65536) (hn : 0 ≤ ch ∧ ch ≤ 65536) :
    ∃ (tid sid : Nat) (G' : GH), CW heap_Heap_gone.id [.c (.ptr hid 0), bv a ch asked] G = some ([], G') ∧
      HRaw G' hid { s.eng tid sid (useG false q (q + 2 ^ k - 1) s.g) (s.ms.take i ++ s.ms.drop (i + 1)) with es := mapDel s.es (kv a), met := metQ s.met (pagesP s.c.Pg a ch).1 (pagesP s.c.Pg a ch).2 (-1), live := s.live - ch } ∧ FrX (s.X hid) G G' := by
  obtain ⟨tid, sid, G0, r1, r2, r3⟩ := place_Release.sp h.w h.eng so h.ids hG hk hi hm hq
  have h0 := h.keep r2
  obtain ⟨G1, e1, h1, f1⟩ := h0.setEng r3
  have l11 : G1.ld hid 11 = some (.map s.mid) := by rw [h1.ld]; rfl
  obtain ⟨h2, f2⟩ := h1.setMap (mapDel s.es (kv a))
  obtain ⟨G3, e3, h3, f3⟩ := heap_Heap_meets.sp h2 z.met z.mets (a := a) (ch := ch) (asked := asked) (by_ := -1) z.pg ha hn (by omega)
  have l12 : G3.ld hid 12 = some (.int .i64 s.live) := by rw [h3.ld]; rfl
  obtain ⟨G4, e4, h4, f4⟩ := h3.setLive (s.live - ch)
  refine ⟨tid, sid, G4, ?_, h4, (((FrX.hp r2).trans f1).trans f2).trans (f3.trans f4)⟩
  have en := h1.ents
  have l8 : G.ld hid 8 = some (.int .i64 (Gg : Int)) := by rw [h.ld, ← eG]; rfl
  have l9 : G.ld hid 9 = some (.sl 2 s.tid 0 s.C) := by rw [h.ld]; rfl
  have l10 : G.ld hid 10 = some (.sl 2 s.sid 0 s.ms.length) := by rw [h.ld]; rfl
  have elen : (s.ms.take i ++ s.ms.drop (i + 1)).length = s.ms.length - 1 := by
    simp only [List.length_append, List.length_take, List.length_drop]; omega
  rw [elen, eG] at e1
  rw [heap_Heap_gone.cw]
  unfold heap_Heap_gone.f
  rw [guardK_of (nb0 h.h0)]
  simp only [Nat.zero_add, Nat.add_zero, Nat.reduceAdd, l8, l9, l10, q_bs, q_I, q_B, q_P, q_S, q_M, q_c, q_a, q_gz, q_gs, q_gk, q_ct, q_cf, q_nt, q_nf, q_xt, q_xf, q_tt, q_ff, q_tf, q_ft, q_at, q_af]
  rw [ea, r1]
  simp only [q_bs, q_I, q_B, q_P, q_S, q_M, q_c, q_a, q_gz, q_gs, q_gk, q_ct, q_cf, q_nt, q_nf, q_xt, q_xf, q_tt, q_ff, q_tf, q_ft, q_at, q_af, List.length_cons, List.length_nil, if_true, Nat.zero_add, Nat.reduceAdd]
  rw [guardK_of (nb0 h.h0), e1, q_bs, guardK_of (nb0 h.h0), l11]
  simp only [q_bs, q_I, q_B, q_P, q_S, q_M, q_c, q_a, q_gz, q_gs, q_gk, q_ct, q_cf, q_nt, q_nf, q_xt, q_xf, q_tt, q_ff, q_tf, q_ft, q_at, q_af]
  rw [show G1.ents (.agg [.int .i64]) s.mid = some s.es from en, q_bs]
  rw [ea] at e3
  have e3' : CW heap_Heap_meets.id [.c (.ptr hid 0), .agg [.int .i64 ((q * Gg : Nat) : Int), .int .i64 ch, .int .i64 asked], .c (.int .i64 (-1))] (G1.set s.mid (some (.map (.agg [.int .i64]) (mapDel s.es (.agg [.int .i64 ((q * Gg : Nat) : Int)]))))) = some ([], G3) := e3
  rw [e3', q_bs, guardK_of (nb0 h.h0), l12]
  have zl := z.live
  simp only [q_bs, q_I, q_B, q_P, q_S, q_M, q_c, q_a, q_gz, q_gs, q_gk, q_ct, q_cf, q_nt, q_nf, q_xt, q_xf, q_tt, q_ff, q_tf, q_ft, q_at, q_af]
  rw [guardK_of (nb0 h.h0), i64w, wrap_id (by omega) (by omega), e4, q_bs]
end Go.Proofs.D.S
/- A block is placed in a heap. -/
set_option linter.unusedVariables false
set_option linter.unusedSimpArgs false
namespace Go.Proofs.D.S
open Go Go.RowKit
variable {G G' G0 G1 : GH} {L R : List (Nat × Obj)}
variable {hid : Nat} {s : HS}
/-- A fresh page is filled. -/
theorem puts_fill {u2 u3 u4 : Int} {a1 a2 a3 b1 b3 n8 : Nat} {e0 : Int} {t1 t2 t3 d1 d2 d3 : Nat} {page pg : Nat} (hpg : 1 ≤ pg ∧ pg ≤ 65536) (ePg : s.c.Pg = (pg : Int)) (hsd : 0 ≤ s.c.Sd) (hlen : page * pg + pg ≤ s.mem.length) (hl : s.mem.length ≤ 65536) (u9 : Nat) :
    ∀ (d i : Nat) (G2 : GH), i + d = pg → HRaw G2 hid { s with mem := tab s.mem.length fun j => if j / pg = page ∧ j % pg < i then u8w (byteP s.c.Sd (page : Int) ((j % pg : Nat) : Int)) else s.mem.getD j 0 } → FrX (s.X hid) G G2 →
      ∃ G', heap_Heap_puts.L38 machW CW hid 0 u2 u3 u4 a1 a2 a3 (page : Int) b1 0 b3 (n8 : Int) (u9 : Int) (pg : Int) (i : Int) e0 t1 t2 t3 d1 d2 d3 G2 =
          heap_Heap_puts.L47 machW CW hid 0 u2 u3 u4 a1 a2 a3 b1 0 b3 (n8 : Int) (IntKind.i64.wrap ((u9 : Int) + 1)) e0 t1 t2 t3 d1 d2 d3 G' ∧
        HRaw G' hid { s with mem := fillP s.mem s.c.Sd (page : Int) s.c.Pg } ∧ FrX (s.X hid) G G' := by
  intro d
  induction d with
  | zero =>
    intro i G2 hi h fr
    rw [heap_Heap_puts.L38_eq, condD_neg (by omega)]
    refine ⟨G2, rfl, ?_, fr⟩
    rw [show fillP s.mem s.c.Sd (page : Int) s.c.Pg = tab s.mem.length fun j => if j / pg = page ∧ j % pg < i then u8w (byteP s.c.Sd (page : Int) ((j % pg : Nat) : Int)) else s.mem.getD j 0 from tab_congr fun j hj => by
      have hmod := Nat.mod_lt j (show 0 < pg by omega)
      rw [ePg, ← Int.natCast_ediv, ← Int.natCast_emod]
      by_cases hx : j / pg = page
      · rw [if_pos (by rw [hx]), if_pos ⟨hx, by omega⟩]
      · rw [if_neg (fun k => hx (Int.ofNat_inj.1 k)), if_neg (fun k => hx k.1)]]
    exact h
  | succ d ih =>
    intro i G2 hi h fr
    have hip : i < pg := by omega
    have hj : page * pg + i < s.mem.length := by omega
    have l17 : G2.ld hid 17 = some (.sl 1 s.mmi 0 s.mem.length) := by rw [h.ld]; simp [HS.cells, cfC]
    have l4 : G2.ld hid 4 = some (.int .i64 (pg : Int)) := by rw [h.ld, ← ePg]; rfl
    have l7 : G2.ld hid 7 = some (.int .i64 s.c.Sd) := by rw [h.ld]; rfl
    have hmd : (page * pg + i) / pg = page ∧ (page * pg + i) % pg = i := by
      constructor
      · rw [Nat.mul_comm, Nat.mul_add_div (by omega), Nat.div_eq_of_lt hip, Nat.add_zero]
      · rw [Nat.mul_comm, Nat.mul_add_mod, Nat.mod_eq_of_lt hip]
    obtain ⟨h3, fr3⟩ := h.setMem (mem' := (tab s.mem.length fun j => if j / pg = page ∧ j % pg < i then u8w (byteP s.c.Sd (page : Int) ((j % pg : Nat) : Int)) else s.mem.getD j 0).set (page * pg + i) (u8w (byteP s.c.Sd (page : Int) (i : Int)))) (by simp)
    have e3 : G2.sts s.mmi ((page * pg + i) * 1) [.int .u8 (u8w (byteP s.c.Sd (page : Int) (i : Int)))] = some (G2.set s.mmi (some (.row (cells eU8 ((tab s.mem.length fun j => if j / pg = page ∧ j % pg < i then u8w (byteP s.c.Sd (page : Int) ((j % pg : Nat) : Int)) else s.mem.getD j 0).set (page * pg + i) (u8w (byteP s.c.Sd (page : Int) (i : Int))))) false))) := by
      unfold GH.sts
      rw [own_row h.mem, Option.bind_some, if_pos (by rw [cells_len]; simp; omega)]
      rw [show [Cell.int .u8 (u8w (byteP s.c.Sd (page : Int) (i : Int)))] = eU8 (u8w (byteP s.c.Sd (page : Int) (i : Int))) from rfl, cells_set (e := eU8) _ _ _ (by simpa using hj)]
    have hpp : page * pg ≤ 65536 := by omega
    have ei : IntKind.i64.wrap (IntKind.i64.wrap ((page : Int) * (pg : Int)) + (i : Int)) = ((page * pg + i : Nat) : Int) := by
      rw [← Int.natCast_mul]
      simp only [i64w]
      generalize page * pg = A at *
      rw [wrap_id (a := (A : Int)) (by omega) (by omega), wrap_id (by omega) (by omega)]; omega
    rw [heap_Heap_puts.L38_eq, condD_pos (by omega), guardK_of (nb0 h.h0)]
    simp only [Nat.zero_add, l17, q_bs, q_I, q_B, q_P, q_S, q_M, q_c, q_a, q_gz, q_gs, q_gk, q_ct, q_cf, q_nt, q_nf, q_xt, q_xf, q_tt, q_ff, q_tf, q_ft, q_at, q_af]
    rw [guardK_of (nb0 h.h0), l4]
    simp only [q_bs, q_I, q_B, q_P, q_S, q_M, q_c, q_a, q_gz, q_gs, q_gk, q_ct, q_cf, q_nt, q_nf, q_xt, q_xf, q_tt, q_ff, q_tf, q_ft, q_at, q_af]
    rw [guardK_of (nb0 h.h0), l7]
    simp only [q_bs, q_I, q_B, q_P, q_S, q_M, q_c, q_a, q_gz, q_gs, q_gk, q_ct, q_cf, q_nt, q_nf, q_xt, q_xf, q_tt, q_ff, q_tf, q_ft, q_at, q_af]
    rw [junk_Byte.sp hsd (by omega) (by omega)]
    simp only [l17, l4, q_bs, q_I, q_B, q_P, q_S, q_M, q_c, q_a, q_gz, q_gs, q_gk, q_ct, q_cf, q_nt, q_nf, q_xt, q_xf, q_tt, q_ff, q_tf, q_ft, q_at, q_af]
    rw [guardD_of trivial, guardD_of trivial, ei, guardD_of (by omega), Int.toNat_natCast, e3, q_bs, i64w, wrap_id (by omega) (by omega), show (i : Int) + 1 = ((i + 1 : Nat) : Int) by omega]
    refine ih (i + 1) _ (by omega) ?_ (fr.trans fr3)
    rw [show (tab s.mem.length fun j => if j / pg = page ∧ j % pg < i + 1 then u8w (byteP s.c.Sd (page : Int) ((j % pg : Nat) : Int)) else s.mem.getD j 0) = (tab s.mem.length fun j => if j / pg = page ∧ j % pg < i then u8w (byteP s.c.Sd (page : Int) ((j % pg : Nat) : Int)) else s.mem.getD j 0).set (page * pg + i) (u8w (byteP s.c.Sd (page : Int) (i : Int))) by
      rw [tab_set]
      refine tab_congr fun j hj => ?_
      by_cases hji : j = page * pg + i
      · rw [if_pos hji, hji, hmd.1, hmd.2, if_pos ⟨rfl, by omega⟩]
      · rw [if_neg hji]
        by_cases hx : j / pg = page ∧ j % pg < i
        · rw [if_pos hx, if_pos ⟨hx.1, by omega⟩]
        · rw [if_neg hx, if_neg fun y => ?_]
          have hz : j % pg = i := by
            by_cases hq : j % pg < i
            · exact absurd ⟨y.1, hq⟩ hx
            · omega
          have := Nat.div_add_mod j pg
          rw [y.1, hz, Nat.mul_comm] at this
          exact hji this.symm]
    exact h3
def fillsP (c : Cf) (fr : List Int) (mem : List Int) : List Int := fr.foldl (fun mem p => fillP mem c.Sd p c.Pg) mem
theorem fillP_ln {mem : List Int} {a b c : Int} : (fillP mem a b c).length = mem.length := by simp [fillP]
theorem fillsP_len {c : Cf} : ∀ (fr mem : List Int), (fillsP c fr mem).length = mem.length
  | [], mem => rfl
  | p :: fr, mem => by
    show (fillsP c fr (fillP mem c.Sd p c.Pg)).length = _
    rw [fillsP_len fr, fillP_ln]
/-- All fresh pages are filled. -/
theorem puts_pages {u2 u3 u4 : Int} {a1 a2 a3 fid : Nat} {e0 : Int} {t1 t2 t3 d1 d2 d3 : Nat} {pg : Nat} {fr : List Int} (h : HRaw G hid s) (hpg : 1 ≤ pg ∧ pg ≤ 65536) (ePg : s.c.Pg = (pg : Int)) (hsd : 0 ≤ s.c.Sd) (hl : s.mem.length ≤ 65536) (sf : Sx (s.X hid) G eI fid 0 fr)
    (hfr : ∀ p ∈ fr, ∃ q : Nat, p = (q : Int) ∧ q * pg + pg ≤ s.mem.length) (hfl : fr.length ≤ 1000000) :
    ∀ (d k : Nat) (G2 : GH), k + d = fr.length → HRaw G2 hid { s with mem := fillsP s.c (fr.take k) s.mem } → FrX (s.X hid) G G2 →
      ∃ G', heap_Heap_puts.L47 machW CW hid 0 u2 u3 u4 a1 a2 a3 fid 0 fr.length (fr.length : Int) (k : Int) e0 t1 t2 t3 d1 d2 d3 G2 =
          heap_Heap_puts.L47 machW CW hid 0 u2 u3 u4 a1 a2 a3 fid 0 fr.length (fr.length : Int) (fr.length : Int) e0 t1 t2 t3 d1 d2 d3 G' ∧
        HRaw G' hid { s with mem := fillsP s.c fr s.mem } ∧ FrX (s.X hid) G G' := by
  intro d
  induction d with
  | zero =>
    intro k G2 hk h2 f2
    have : k = fr.length := by omega
    subst this
    rw [List.take_length] at h2
    exact ⟨G2, rfl, h2, f2⟩
  | succ d ih =>
    intro k G2 hk h2 f2
    have hkl : k < fr.length := by omega
    obtain ⟨q, hq, hq2⟩ := hfr _ (List.getElem_mem hkl)
    have r1 := (sf.fr f2 h.w).1.ld k 0 hkl (by omega)
    rw [Nat.add_zero] at r1
    have l4 : G2.ld hid 4 = some (.int .i64 (pg : Int)) := by rw [h2.ld, ← ePg]; rfl
    obtain ⟨G3, e3, h3, f3⟩ := puts_fill (G := G2) (s := { s with mem := fillsP s.c (fr.take k) s.mem }) (u2 := u2) (u3 := u3) (u4 := u4) (a1 := a1) (a2 := a2) (a3 := a3) (b1 := fid) (b3 := fr.length) (n8 := fr.length) (e0 := e0) (t1 := t1) (t2 := t2) (t3 := t3) (d1 := d1) (d2 := d2) (d3 := d3) (page := q) hpg ePg hsd (by dsimp only; rw [fillsP_len]; exact hq2) (by dsimp only; rw [fillsP_len]; exact hl) k pg 0 G2 (by omega) (by
      rw [show (tab (fillsP s.c (fr.take k) s.mem).length fun j => if j / pg = q ∧ j % pg < 0 then u8w (byteP s.c.Sd (q : Int) ((j % pg : Nat) : Int)) else (fillsP s.c (fr.take k) s.mem).getD j 0) = fillsP s.c (fr.take k) s.mem by
        conv => rhs; rw [← tab_list (fillsP s.c (fr.take k) s.mem) 0]
        exact tab_congr fun j hj => by rw [if_neg (by omega)]]
      exact h2) FrX.refl
    rw [heap_Heap_puts.L47_eq, condD_pos (by omega), guardD_of (by omega)]
    simp only [Int.toNat_natCast, r1, eI, List.getElem?_cons_zero, q_bs, q_I, q_B, q_P, q_S, q_M, q_c, q_a, q_gz, q_gs, q_gk, q_ct, q_cf, q_nt, q_nf, q_xt, q_xf, q_tt, q_ff, q_tf, q_ft, q_at, q_af]
    rw [guardK_of (nb0 h.h0)]
    simp only [Nat.zero_add, l4, q_bs, q_I, q_B, q_P, q_S, q_M, q_c, q_a, q_gz, q_gs, q_gk, q_ct, q_cf, q_nt, q_nf, q_xt, q_xf, q_tt, q_ff, q_tf, q_ft, q_at, q_af]
    rw [hq, show (0 : Int) = ((0 : Nat) : Int) from rfl, e3, i64w, wrap_id (by omega) (by omega), show (k : Int) + 1 = ((k + 1 : Nat) : Int) by omega]
    refine ih (k + 1) G3 (by omega) ?_ (f2.trans f3)
    rw [show fillsP s.c (fr.take (k + 1)) s.mem = fillP (fillsP s.c (fr.take k) s.mem) s.c.Sd (q : Int) s.c.Pg by
      unfold fillsP
      rw [List.take_add_one, List.getElem?_eq_getElem hkl, List.foldl_append, hq]; rfl]
    exact h3
end Go.Proofs.D.S
/- A block is placed in a heap: the whole. -/
set_option linter.unusedVariables false
set_option linter.unusedSimpArgs false
namespace Go.Proofs.D.S
open Go Go.RowKit
variable {G G' G0 G1 : GH} {L R : List (Nat × Obj)}
variable {hid : Nat} {s : HS}
theorem commitP_sm {on met x : List Bool} {fr : List Int} {a b m : Int} (h : commitP on met a b m = some (x, fr)) : x.length = on.length ∧ fr = freshP on a b on.length := by
  unfold commitP at h
  split at h
  · cases h
  · simp only [Option.some.injEq, Prod.mk.injEq] at h
    obtain ⟨h1, h2⟩ := h
    refine ⟨?_, h2.symm⟩
    rw [← h1]
    split
    · simp
    · simp [allP]
theorem heap_Heap_puts.sp (h : HRaw G hid s) (z : HSm s) (so : SzOk s.C s.sz) (ok : s.c.Ok) {e l k pg Gg : Nat} (ex : s.c.Ex e l) (hC : s.C = l + 1) (hk : k ≤ l) {ch asked : Int} (hch : ch = ((2 ^ (e + k) : Nat) : Int)) (eG : Gg = 2 ^ e) (hG : Gg * s.sz 0 = s.mem.length) (hmem : s.mem.length ≤ 65536)
    (ePg : s.c.Pg = (pg : Int)) (hpg : 1 ≤ pg) (hon : s.on.length * pg = s.mem.length) (hmet : s.met.length = s.on.length) (hfr : ∃ p, occ s.g k p = false) (hne : ∀ z, occ s.g k z = false → ∀ m ∈ s.ms, m.1 ≠ ((z * 2 ^ k * Gg : Nat) : Int)) (hml : s.ms.length + 1 ≤ 100000) :
    ∃ (q i : Nat) (at_ : Int), at_ = ((q * 2 ^ k * Gg : Nat) : Int) ∧ q < s.sz k ∧ occ s.g k q = false ∧ (∀ p, p < q → occ s.g k p = true) ∧
      i ≤ s.ms.length ∧ (∀ (p : Nat) (h : p < s.ms.length), p < i → s.ms[p].1 < at_) ∧ (∀ (p : Nat) (h : p < s.ms.length), i ≤ p → at_ < s.ms[p].1) ∧
      ((commitP s.on (s.met.map fun n => decide (n > 0)) (pagesP s.c.Pg at_ ch).1 (pagesP s.c.Pg at_ ch).2 s.c.P = none ∧
          ∃ G', CW heap_Heap_puts.id [.c (.ptr hid 0), .c (.int .i64 ch), .c (.int .i64 asked)] G = some ([.c (.int .i64 0), .c (.int .i64 6)], G') ∧ HRaw G' hid s ∧ FrX (s.X hid) G G') ∨
       (∃ on' fr, commitP s.on (s.met.map fun n => decide (n > 0)) (pagesP s.c.Pg at_ ch).1 (pagesP s.c.Pg at_ ch).2 s.c.P = some (on', fr) ∧
          ∃ (tid sid oni : Nat) (G' : GH), CW heap_Heap_puts.id [.c (.ptr hid 0), .c (.int .i64 ch), .c (.int .i64 asked)] G = some ([.c (.int .i64 at_), .c (.int .i64 0)], G') ∧
            HRaw G' hid { s.eng tid sid (useG true (q * 2 ^ k) (q * 2 ^ k + 2 ^ k - 1) s.g) (insM s.ms i (at_, (k : Int))) with oni := oni, on := on', mem := fillsP s.c fr s.mem, es := mapPut s.es (kv at_) (bv at_ ch asked), met := metQ s.met (pagesP s.c.Pg at_ ch).1 (pagesP s.c.Pg at_ ch).2 1, live := s.live + ch, peak := max s.peak (s.live + ch), mark := max s.mark (at_ + ch) } ∧ FrX (s.X hid) G G')) := by
  have f := ok.facts
  have zl := z.live
  have hg1 : 1 ≤ Gg := by rw [eG]; exact Nat.two_pow_pos e
  have eGc : s.c.G = (Gg : Int) := by rw [ex.hG, eG]
  obtain ⟨q, i, tid, sid, G1, p1, p2, p3, p4, p5, p6, p7, p8, p9⟩ := place_Place.sp h.w h.eng so h.ids (Gg := Gg) (k := k) ⟨hg1, by omega⟩ (by omega) hfr hne hml
  have hpk := so.pw k (by omega)
  have hchn : ch = ((2 ^ k * Gg : Nat) : Int) := by rw [hch, eG, Nat.pow_add, Nat.mul_comm]
  have hend : q * 2 ^ k * Gg + 2 ^ k * Gg ≤ s.mem.length := by
    have h1 : (q + 1) * 2 ^ k ≤ s.sz 0 := by rw [← hpk]; exact Nat.mul_le_mul_right _ p4
    have h2 := Nat.mul_le_mul_right Gg h1
    rw [Nat.mul_comm (s.sz 0), hG, Nat.add_mul, Nat.one_mul, Nat.add_mul] at h2
    exact h2
  obtain ⟨A, eA⟩ : ∃ A, q * 2 ^ k * Gg = A := ⟨_, rfl⟩
  obtain ⟨Cn, eC⟩ : ∃ Cn, 2 ^ k * Gg = Cn := ⟨_, rfl⟩
  have hCn : 1 ≤ Cn := by rw [← eC]; exact Nat.mul_pos (Nat.two_pow_pos k) hg1
  rw [eA] at p1 p3 p8 p9 hend
  rw [eC] at hchn hend
  refine ⟨q, i, (A : Int), by rw [eA], p4, p5, p6, p7, p8, p9, ?_⟩
  have h1 := h.keep p2
  have sh := shiftS_pow (g := e) (l := l) hk
  rw [← hch] at sh
  have cl := class_Class.sp (G := G) ex (ch := ch) (by unfold R64; omega)
  rw [sh] at cl
  have hPg : s.c.Pg ≤ 65536 := f.2.2.2.2.1.2
  have pp := pin_Pages.sp (G := G1) (pg := s.c.Pg) (a := (A : Int)) (n := ch) (by omega) (by omega) (by omega)
  -- the pages
  have efb : pagesP s.c.Pg (A : Int) ch = (((A / pg : Nat) : Int), (((A + Cn - 1) / pg + 1 : Nat) : Int)) := by
    unfold pagesP
    rw [if_neg (by omega), ePg, hchn, ← Int.natCast_ediv, show (A : Int) + (Cn : Int) - 1 = ((A + Cn - 1 : Nat) : Int) by omega, ← Int.natCast_ediv]
    rfl
  have hb : (A + Cn - 1) / pg + 1 ≤ s.on.length := by
    have : (A + Cn - 1) / pg < s.on.length := (Nat.div_lt_iff_lt_mul (by omega)).2 (by rw [hon]; omega)
    exact this
  have hfb : A / pg ≤ (A + Cn - 1) / pg + 1 := by have := Nat.div_le_div_right (c := pg) (show A ≤ A + Cn - 1 by omega); omega
  obtain ⟨mid_, G2, m1, m2, m3⟩ := heap_Heap_pages.sp h1 z.met
  have h2 := h1.keep m2
  have onl : s.on.length ≤ 1000000 := by have := z.met; omega
  have cm := commit_Commit.sp h2.w (met := s.met.map fun n => decide (n > 0)) (mi := mid_) h2.on0 m3 h2.on.1 m2.sl0 (by simp [hmet]) (first := A / pg) (behind := (A + Cn - 1) / pg + 1) (mx := s.c.P) hfb hb (by omega)
  obtain ⟨oid, fid, on', fr, okb, G3, c1, c2, c3⟩ := cm
  have e1 := congrArg Prod.fst efb
  have e2 := congrArg Prod.snd efb
  dsimp only at e1 e2
  rw [← e1, ← e2] at c1 c3
  have h3 := h2.keep c2
  have f3 : FrX (s.X hid) G G3 := ((FrX.hp p2).trans (FrX.hp m2)).trans (FrX.hp c2)
  have l0 : G.ld hid 0 = some (.int .i64 s.c.G) := by rw [h.ld]; rfl
  have l1 : G.ld hid 1 = some (.int .i64 s.c.N) := by rw [h.ld]; rfl
  have l2 : G.ld hid 2 = some (.int .i64 s.c.M) := by rw [h.ld]; rfl
  have l3 : G.ld hid 3 = some (.int .i64 s.c.L) := by rw [h.ld]; rfl
  have l4 : G.ld hid 4 = some (.int .i64 s.c.Pg) := by rw [h.ld]; rfl
  have l5 : G.ld hid 5 = some (.int .i64 s.c.P) := by rw [h.ld]; rfl
  have l6 : G.ld hid 6 = some (.int .i64 s.c.H) := by rw [h.ld]; rfl
  have l7 : G.ld hid 7 = some (.int .i64 s.c.Sd) := by rw [h.ld]; rfl
  have l8 : G.ld hid 8 = some (.int .i64 (Gg : Int)) := by rw [h.ld, ← eGc]; rfl
  have l9 : G.ld hid 9 = some (.sl 2 s.tid 0 s.C) := by rw [h.ld]; rfl
  have l10 : G.ld hid 10 = some (.sl 2 s.sid 0 s.ms.length) := by rw [h.ld]; rfl
  have k4 : G1.ld hid 4 = some (.int .i64 s.c.Pg) := by rw [h1.ld]; rfl
  have k5 : G1.ld hid 5 = some (.int .i64 s.c.P) := by rw [h1.ld]; rfl
  have k16 : G1.ld hid 16 = some (.sl 1 s.oni 0 s.on.length) := by rw [h1.ld]; rfl
  have j5 : G2.ld hid 5 = some (.int .i64 s.c.P) := by rw [h2.ld]; rfl
  have j16 : G2.ld hid 16 = some (.sl 1 s.oni 0 s.on.length) := by rw [h2.ld]; rfl
  rw [cfC] at cl
  rw [hmet] at m1
  have start : CW heap_Heap_puts.id [.c (.ptr hid 0), .c (.int .i64 ch), .c (.int .i64 asked)] G = bif (!okb) then some ([.c (.int .i64 0), .c (.int .i64 6)], G3) else
      heap_Heap_puts.L47 machW CW hid 0 ch asked (A : Int) oid 0 on'.length fid 0 fr.length (fr.length : Int) 0 (Gg : Int) tid 0 s.C sid 0 (s.ms.length + 1) G3 := by
    rw [heap_Heap_puts.cw]
    unfold heap_Heap_puts.f
    rw [guardK_of (nb0 h.h0)]
    simp only [Nat.zero_add, Nat.add_zero, Nat.reduceAdd, l0, l1, l2, l3, l4, l5, l6, l7, q_bs, q_I, q_B, q_P, q_S, q_M, q_c, q_a, q_gz, q_gs, q_gk, q_ct, q_cf, q_nt, q_nf, q_xt, q_xf, q_tt, q_ff, q_tf, q_ft, q_at, q_af]
    rw [cl]
    simp only [q_bs, q_I, q_B, q_P, q_S, q_M, q_c, q_a, q_gz, q_gs, q_gk, q_ct, q_cf, q_nt, q_nf, q_xt, q_xf, q_tt, q_ff, q_tf, q_ft, q_at, q_af]
    rw [guardK_of (nb0 h.h0)]
    simp only [l8, l9, l10, q_bs, q_I, q_B, q_P, q_S, q_M, q_c, q_a, q_gz, q_gs, q_gk, q_ct, q_cf, q_nt, q_nf, q_xt, q_xf, q_tt, q_ff, q_tf, q_ft, q_at, q_af]
    rw [p1]
    simp only [q_bs, q_I, q_B, q_P, q_S, q_M, q_c, q_a, q_gz, q_gs, q_gk, q_ct, q_cf, q_nt, q_nf, q_xt, q_xf, q_tt, q_ff, q_tf, q_ft, q_at, q_af, List.length_cons, List.length_nil, if_true, Nat.zero_add, Nat.reduceAdd]
    rw [guardK_of (nb0 h.h0), k4]
    simp only [q_bs, q_I, q_B, q_P, q_S, q_M, q_c, q_a, q_gz, q_gs, q_gk, q_ct, q_cf, q_nt, q_nf, q_xt, q_xf, q_tt, q_ff, q_tf, q_ft, q_at, q_af]
    rw [pp]
    simp only [q_bs, q_I, q_B, q_P, q_S, q_M, q_c, q_a, q_gz, q_gs, q_gk, q_ct, q_cf, q_nt, q_nf, q_xt, q_xf, q_tt, q_ff, q_tf, q_ft, q_at, q_af]
    rw [guardK_of (nb0 h.h0), k16]
    simp only [q_bs, q_I, q_B, q_P, q_S, q_M, q_c, q_a, q_gz, q_gs, q_gk, q_ct, q_cf, q_nt, q_nf, q_xt, q_xf, q_tt, q_ff, q_tf, q_ft, q_at, q_af]
    rw [guardK_of (nb0 h.h0), k5]
    simp only [q_bs, q_I, q_B, q_P, q_S, q_M, q_c, q_a, q_gz, q_gs, q_gk, q_ct, q_cf, q_nt, q_nf, q_xt, q_xf, q_tt, q_ff, q_tf, q_ft, q_at, q_af]
    rw [m1]
    simp only [j16, j5, q_bs, q_I, q_B, q_P, q_S, q_M, q_c, q_a, q_gz, q_gs, q_gk, q_ct, q_cf, q_nt, q_nf, q_xt, q_xf, q_tt, q_ff, q_tf, q_ft, q_at, q_af]
    rw [guardD_of trivial, guardD_of trivial, c1]
    simp only [q_bs, q_I, q_B, q_P, q_S, q_M, q_c, q_a, q_gz, q_gs, q_gk, q_ct, q_cf, q_nt, q_nf, q_xt, q_xf, q_tt, q_ff, q_tf, q_ft, q_at, q_af]
  rw [start]
  cases okb with
  | false =>
    left
    rw [if_neg (by decide)] at c3
    exact ⟨c3, G3, rfl, h3, f3⟩
  | true =>
    right
    rw [if_pos rfl] at c3
    refine ⟨on', fr, c3, ?_⟩
    obtain ⟨hx, hfrs⟩ := commitP_sm c3
    have sf : Sx (s.X hid) G3 eI fid 0 fr := c2.sx (by simp) h2.ids
    have so3 : Sx (s.X hid) G3 eB oid 0 on' := c2.sx (by simp) h2.ids
    have oid0 : oid ≠ 0 := by
      rintro rfl
      rcases c2.ok _ (List.mem_cons_self ..) with ⟨_, b⟩ | ⟨_, b, _⟩
      · simp only [rowE, Obj.row.injEq, and_true] at b
        have hz : on'.length = 0 := by rw [cells_nil b]; rfl
        have hon1 : 1 ≤ s.on.length := Nat.le_trans (Nat.le_add_left 1 _) hb
        rw [← hx, hz] at hon1
        exact absurd hon1 (by decide)
      · simp at b
    have hfm : ∀ p ∈ fr, ∃ q : Nat, p = (q : Int) ∧ q * pg + pg ≤ s.mem.length := fun p hp => by
      rw [hfrs] at hp
      unfold freshP at hp
      obtain ⟨j, hj, rfl⟩ := List.mem_map.1 hp
      have hj2 := List.mem_range.1 (List.mem_filter.1 hj).1
      refine ⟨j, rfl, ?_⟩
      have := Nat.mul_le_mul_right pg (show j + 1 ≤ s.on.length from hj2)
      rw [hon, Nat.add_mul, Nat.one_mul] at this
      exact this
    have hfl : fr.length ≤ 1000000 := by rw [hfrs]; have := fresh_len s.on (pagesP s.c.Pg (A : Int) ch).1 (pagesP s.c.Pg (A : Int) ch).2 s.on.length; omega
    obtain ⟨G4, q4, h4, f4⟩ := puts_pages (u2 := ch) (u3 := asked) (u4 := (A : Int)) (a1 := oid) (a2 := 0) (a3 := on'.length) (e0 := (Gg : Int)) (t1 := tid) (t2 := 0) (t3 := s.C) (d1 := sid) (d2 := 0) (d3 := s.ms.length + 1) h3 ⟨hpg, by omega⟩ ePg f.2.2.2.2.2.2.2.1.1 hmem sf hfm hfl fr.length 0 G3 (by omega) h3 FrX.refl
    obtain ⟨G5, e5, h5, f5⟩ := h4.setOn (so3.fr f4 h3.w) oid0
    have eng5 := (((p3.keep m2).keep c2).fr f4 h3.w).fr f5 h4.w
    have z5 : HSm { s with mem := fillsP s.c fr s.mem, oni := oid, on := on' } := ⟨z.met, z.mets, z.pg, z.live⟩
    obtain ⟨G6, e6, h6, f6⟩ := heap_Heap_back.sp h5 z5 (a := (A : Int)) (ch := ch) (asked := asked) (by omega) (by omega) eng5
    have il : (insM s.ms i ((A : Int), (k : Int))).length = s.ms.length + 1 := by simp only [insM, List.length_append, List.length_take, List.length_cons, List.length_drop]; omega
    have r12 : G6.ld hid 12 = some (.int .i64 (s.live + ch)) := by rw [h6.ld]; rfl
    have r13 : G6.ld hid 13 = some (.int .i64 s.peak) := by rw [h6.ld]; rfl
    have r14 : G6.ld hid 14 = some (.int .i64 s.mark) := by rw [h6.ld]; rfl
    obtain ⟨G7, e7, h7, f7⟩ := h6.setPeak (max s.peak (s.live + ch))
    obtain ⟨G8, e8, h8, f8⟩ := h7.setMark (max s.mark ((A : Int) + ch))
    refine ⟨tid, sid, oid, G8, ?_, ?_, f3.trans (f4.trans (f5.trans (f6.trans (f7.trans f8))))⟩
    · have e6' : CW heap_Heap_back.id [.c (.ptr hid 0), .agg [.int .i64 (A : Int), .int .i64 ch, .int .i64 asked], .agg [.int .i64 (Gg : Int), .sl 2 tid 0 s.C, .sl 2 sid 0 (s.ms.length + 1)]] G5 = some ([], G6) := by
        rw [← il, ← eGc]; exact e6
      rw [show ((0 : Nat) : Int) = 0 from rfl] at q4
      rw [q_nt, q_cf, q4, heap_Heap_puts.L47_eq, condD_neg (by omega), guardK_of (nb0 h.h0)]
      simp only [Nat.zero_add]
      rw [e5, q_bs, e6', q_bs, guardK_of (nb0 h.h0), r13]
      simp only [q_bs, q_I, q_B, q_P, q_S, q_M, q_c, q_a, q_gz, q_gs, q_gk, q_ct, q_cf, q_nt, q_nf, q_xt, q_xf, q_tt, q_ff, q_tf, q_ft, q_at, q_af]
      rw [guardK_of (nb0 h.h0), r12]
      simp only [q_bs, q_I, q_B, q_P, q_S, q_M, q_c, q_a, q_gz, q_gs, q_gk, q_ct, q_cf, q_nt, q_nf, q_xt, q_xf, q_tt, q_ff, q_tf, q_ft, q_at, q_af]
      rw [guardK_of (nb0 h.h0), r14]
      simp only [q_bs, q_I, q_B, q_P, q_S, q_M, q_c, q_a, q_gz, q_gs, q_gk, q_ct, q_cf, q_nt, q_nf, q_xt, q_xf, q_tt, q_ff, q_tf, q_ft, q_at, q_af]
      rw [guardK_of (nb0 h.h0), mx2_eq, e7, q_bs, guardK_of (nb0 h.h0), mx2_eq, i64w, wrap_id (by omega) (by omega), e8, q_bs]
    · exact h8
end Go.Proofs.D.S
/- What asks for a block. -/
set_option linter.unusedVariables false
set_option linter.unusedSimpArgs false
namespace Go.Proofs.D.S
open Go Go.RowKit
variable {G G' G0 G1 : GH} {L R : List (Nat × Obj)}
variable {hid : Nat} {s : HS}
theorem heap_Heap_asks.bad {ch asked e : Int} (he : e ≠ 0) : CW heap_Heap_asks.id [.c (.ptr hid 0), .c (.int .i64 ch), .c (.int .i64 asked), .c (.int .i64 e)] G = some ([.agg [.int .i64 e, .int .i64 0, .int .i64 0, .int .u8 0, .int .i64 0, .int .i64 0, .int .i64 0, .int .i64 0]], G) := by
  rw [heap_Heap_asks.cw]
  unfold heap_Heap_asks.f
  rw [condN_pos he]
theorem heap_Heap_asks.good {ch asked a e : Int} (h : CW heap_Heap_puts.id [.c (.ptr hid 0), .c (.int .i64 ch), .c (.int .i64 asked)] G = some ([.c (.int .i64 a), .c (.int .i64 e)], G')) :
    CW heap_Heap_asks.id [.c (.ptr hid 0), .c (.int .i64 ch), .c (.int .i64 asked), .c (.int .i64 0)] G = some ([.agg [.int .i64 e, .int .i64 a, .int .i64 0, .int .u8 0, .int .i64 0, .int .i64 0, .int .i64 0, .int .i64 0]], G') := by
  rw [heap_Heap_asks.cw]
  unfold heap_Heap_asks.f
  rw [condN_neg rfl, h]
  simp only [q_bs, q_I, q_B, q_P, q_S, q_M, q_c, q_a, q_gz, q_gs, q_gk, q_ct, q_cf, q_nt, q_nf, q_xt, q_xf, q_tt, q_ff, q_tf, q_ft, q_at, q_af]
theorem HRaw.conf (h : HRaw G hid s) : G.ld hid 0 = some (.int .i64 s.c.G) ∧ G.ld hid 1 = some (.int .i64 s.c.N) ∧ G.ld hid 2 = some (.int .i64 s.c.M) ∧ G.ld hid 3 = some (.int .i64 s.c.L) ∧ G.ld hid 4 = some (.int .i64 s.c.Pg) ∧ G.ld hid 5 = some (.int .i64 s.c.P) ∧ G.ld hid 6 = some (.int .i64 s.c.H) ∧ G.ld hid 7 = some (.int .i64 s.c.Sd) := by
  refine ⟨?_, ?_, ?_, ?_, ?_, ?_, ?_, ?_⟩ <;> (rw [h.ld]; rfl)
theorem heap_Heap_aligned.sp (h : HRaw G hid s) (ok : s.c.Ok) (hl : -1000000000 ≤ s.live ∧ s.live ≤ 1000000000) {sz al : Int} (ha : R64 al) {G' : GH} {cs : List Cell} (hcs : cs.length = 8) {e0 a1 n2 b3 l4 p5 m6 g7 : Int} (ecs : cs = [.int .i64 e0, .int .i64 a1, .int .i64 n2, .int .u8 b3, .int .i64 l4, .int .i64 p5, .int .i64 m6, .int .i64 g7])
    (k : CW heap_Heap_asks.id [.c (.ptr hid 0), .c (.int .i64 (newS s.c.G s.c.N s.c.M s.live sz al).1), .c (.int .i64 sz), .c (.int .i64 (newS s.c.G s.c.N s.c.M s.live sz al).2)] G = some ([.agg cs], G')) :
    CW heap_Heap_aligned.id [.c (.ptr hid 0), .c (.int .i64 sz), .c (.int .i64 al)] G = some ([.agg cs], G') := by
  obtain ⟨l0, l1, l2, l3, l4', l5, l6, l7⟩ := h.conf
  have l12 : G.ld hid 12 = some (.int .i64 s.live) := by rw [h.ld]; rfl
  have ad := admit_New.sp (G := G) ok (live := s.live) (s := sz) (a := al) ha hl
  rw [cfC] at ad
  subst ecs
  rw [heap_Heap_aligned.cw]
  unfold heap_Heap_aligned.f
  rw [guardK_of (nb0 h.h0)]
  simp only [Nat.zero_add, Nat.add_zero, Nat.reduceAdd, l0, l1, l2, l3, l4', l5, l6, l7, q_bs, q_I, q_B, q_P, q_S, q_M, q_c, q_a, q_gz, q_gs, q_gk, q_ct, q_cf, q_nt, q_nf, q_xt, q_xf, q_tt, q_ff, q_tf, q_ft, q_at, q_af]
  rw [guardK_of (nb0 h.h0), l12]
  simp only [q_bs, q_I, q_B, q_P, q_S, q_M, q_c, q_a, q_gz, q_gs, q_gk, q_ct, q_cf, q_nt, q_nf, q_xt, q_xf, q_tt, q_ff, q_tf, q_ft, q_at, q_af]
  rw [ad]
  simp only [q_bs, q_I, q_B, q_P, q_S, q_M, q_c, q_a, q_gz, q_gs, q_gk, q_ct, q_cf, q_nt, q_nf, q_xt, q_xf, q_tt, q_ff, q_tf, q_ft, q_at, q_af]
  rw [k]
  simp only [q_bs, q_I, q_B, q_P, q_S, q_M, q_c, q_a, q_gz, q_gs, q_gk, q_ct, q_cf, q_nt, q_nf, q_xt, q_xf, q_tt, q_ff, q_tf, q_ft, q_at, q_af, List.length_cons, List.length_nil, if_true, Nat.zero_add, Nat.reduceAdd]
/-- Bytes of the heap's memory are written. -/
theorem HRaw.wr (h : HRaw G hid s) {a : Nat} {new : List Int} (hl : a + new.length ≤ s.mem.length) :
    ∃ G', G.sts s.mmi (a * 1) (cells eU8 new) = some G' ∧ HRaw G' hid { s with mem := s.mem.take a ++ new ++ s.mem.drop (a + new.length) } ∧ FrX (s.X hid) G G' := by
  have e : splice (cells eU8 s.mem) (a * 1) (cells eU8 new) = cells eU8 (s.mem.take a ++ new ++ s.mem.drop (a + new.length)) := by
    unfold splice
    rw [cells_take, show a * 1 + (cells eU8 new).length = (a + new.length) * 1 by rw [cells_len]; omega, cells_drop, cells_app, cells_app]
  obtain ⟨h1, f1⟩ := h.setMem (mem' := s.mem.take a ++ new ++ s.mem.drop (a + new.length)) (by simp only [List.length_append, List.length_take, List.length_drop]; omega)
  refine ⟨_, ?_, h1, f1⟩
  unfold GH.sts
  rw [own_row h.mem, Option.bind_some, if_pos (by rw [cells_len, cells_len]; omega), e]
theorem reps_u8 (n : Nat) : reps n [.int .u8 0] = cells eU8 (List.replicate n 0) := by
  unfold reps cells
  rw [List.flatMap_def, List.map_replicate]
theorem heap_Heap_calloc.sp (h : HRaw G hid s) (ok : s.c.Ok) (hl : -1000000000 ≤ s.live ∧ s.live ≤ 1000000000) {n sz : Int} (hn : R64 n) (hs : R64 sz) {G' : GH} {s' : HS} (h' : HRaw G' hid s') {e0 a1 n2 b3 l4 p5 m6 g7 : Int}
    (k : CW heap_Heap_asks.id [.c (.ptr hid 0), .c (.int .i64 (manyS s.c.G s.c.N s.c.M s.live n sz).1), .c (.int .i64 (productS s.c.N n sz).1), .c (.int .i64 (manyS s.c.G s.c.N s.c.M s.live n sz).2)] G = some ([.agg [.int .i64 e0, .int .i64 a1, .int .i64 n2, .int .u8 b3, .int .i64 l4, .int .i64 p5, .int .i64 m6, .int .i64 g7]], G'))
    (hz : e0 = 0 → 0 ≤ a1 ∧ 0 ≤ (manyS s.c.G s.c.N s.c.M s.live n sz).1 ∧ a1 + (manyS s.c.G s.c.N s.c.M s.live n sz).1 ≤ s'.mem.length) (hmm : s'.mem.length ≤ 65536) :
    ∃ G2, CW heap_Heap_calloc.id [.c (.ptr hid 0), .c (.int .i64 n), .c (.int .i64 sz)] G = some ([.agg [.int .i64 e0, .int .i64 a1, .int .i64 n2, .int .u8 b3, .int .i64 l4, .int .i64 p5, .int .i64 m6, .int .i64 g7]], G2) ∧
      HRaw G2 hid (if e0 = 0 then { s' with mem := s'.mem.take a1.toNat ++ List.replicate (manyS s.c.G s.c.N s.c.M s.live n sz).1.toNat 0 ++ s'.mem.drop (a1.toNat + (manyS s.c.G s.c.N s.c.M s.live n sz).1.toNat) } else s') ∧ FrX (s'.X hid) G' G2 := by
  obtain ⟨l0, l1, l2, l3, l4', l5, l6, l7⟩ := h.conf
  have l12 : G.ld hid 12 = some (.int .i64 s.live) := by rw [h.ld]; rfl
  have ad := admit_Many.sp (G := G) ok (live := s.live) (n := n) (s := sz) hn hs hl
  have pr := class_Product.sp (G := G) ok hn hs
  rw [cfC] at ad pr
  have l17 : G'.ld hid 17 = some (.sl 1 s'.mmi 0 s'.mem.length) := by rw [h'.ld]; rfl
  generalize (manyS s.c.G s.c.N s.c.M s.live n sz).1 = ch at *
  have start : CW heap_Heap_calloc.id [.c (.ptr hid 0), .c (.int .i64 n), .c (.int .i64 sz)] G =
      bif decide (e0 = 0) then (guardK (!Nat.beq hid 0) (guardK (decide (0 ≤ a1 ∧ a1 ≤ IntKind.i64.wrap (a1 + ch) ∧ IntKind.i64.wrap (a1 + ch) ≤ ((s'.mem.length : Nat) : Int))) (if Int.toNat (IntKind.i64.wrap (a1 + ch)) - Int.toNat a1 = 0 then some ([.agg [.int .i64 e0, .int .i64 a1, .int .i64 n2, .int .u8 b3, .int .i64 l4, .int .i64 p5, .int .i64 m6, .int .i64 g7]], G') else (G'.sts s'.mmi (Int.toNat a1 * 1) (reps (Int.toNat (IntKind.i64.wrap (a1 + ch)) - Int.toNat a1) [.int .u8 0])).bind fun q35 => some ([.agg [.int .i64 e0, .int .i64 a1, .int .i64 n2, .int .u8 b3, .int .i64 l4, .int .i64 p5, .int .i64 m6, .int .i64 g7]], q35)))) else some ([.agg [.int .i64 e0, .int .i64 a1, .int .i64 n2, .int .u8 b3, .int .i64 l4, .int .i64 p5, .int .i64 m6, .int .i64 g7]], G') := by
    rw [heap_Heap_calloc.cw]
    unfold heap_Heap_calloc.f
    rw [guardK_of (nb0 h.h0)]
    simp only [Nat.zero_add, Nat.add_zero, Nat.reduceAdd, l0, l1, l2, l3, l4', l5, l6, l7, q_bs, q_I, q_B, q_P, q_S, q_M, q_c, q_a, q_gz, q_gs, q_gk, q_ct, q_cf, q_nt, q_nf, q_xt, q_xf, q_tt, q_ff, q_tf, q_ft, q_at, q_af]
    rw [guardK_of (nb0 h.h0), l12]
    simp only [q_bs, q_I, q_B, q_P, q_S, q_M, q_c, q_a, q_gz, q_gs, q_gk, q_ct, q_cf, q_nt, q_nf, q_xt, q_xf, q_tt, q_ff, q_tf, q_ft, q_at, q_af]
    rw [ad]
    simp only [q_bs, q_I, q_B, q_P, q_S, q_M, q_c, q_a, q_gz, q_gs, q_gk, q_ct, q_cf, q_nt, q_nf, q_xt, q_xf, q_tt, q_ff, q_tf, q_ft, q_at, q_af]
    rw [guardK_of (nb0 h.h0)]
    simp only [Nat.zero_add, Nat.add_zero, Nat.reduceAdd, l0, l1, l2, l3, l4', l5, l6, l7, q_bs, q_I, q_B, q_P, q_S, q_M, q_c, q_a, q_gz, q_gs, q_gk, q_ct, q_cf, q_nt, q_nf, q_xt, q_xf, q_tt, q_ff, q_tf, q_ft, q_at, q_af]
    rw [pr]
    simp only [q_bs, q_I, q_B, q_P, q_S, q_M, q_c, q_a, q_gz, q_gs, q_gk, q_ct, q_cf, q_nt, q_nf, q_xt, q_xf, q_tt, q_ff, q_tf, q_ft, q_at, q_af]
    rw [k]
    simp only [q_bs, q_I, q_B, q_P, q_S, q_M, q_c, q_a, q_gz, q_gs, q_gk, q_ct, q_cf, q_nt, q_nf, q_xt, q_xf, q_tt, q_ff, q_tf, q_ft, q_at, q_af, List.length_cons, List.length_nil, if_true, Nat.zero_add, Nat.reduceAdd, l17, heap_Heap_calloc.J11_eq]
  rw [start]
  by_cases h0 : e0 = 0
  · obtain ⟨z1, z2, z3⟩ := hz h0
    rw [condD_pos h0, guardK_of (nb0 h.h0), i64w, wrap_id (by omega) (by omega), guardD_of (by omega), if_pos h0]
    have en : (a1 + ch).toNat - a1.toNat = ch.toNat := by omega
    rw [en]
    obtain ⟨G2, e2, h2, f2⟩ := h'.wr (a := a1.toNat) (new := List.replicate ch.toNat 0) (by rw [List.length_replicate]; omega)
    rw [List.length_replicate] at h2
    by_cases hc : ch.toNat = 0
    · rw [if_pos hc]
      refine ⟨G', rfl, ?_, FrX.refl⟩
      have : s'.mem.take a1.toNat ++ List.replicate ch.toNat 0 ++ s'.mem.drop (a1.toNat + ch.toNat) = s'.mem := by
        rw [hc, List.replicate_zero, List.append_nil, Nat.add_zero, List.take_append_drop]
      rw [this]; exact h'
    · rw [if_neg hc, reps_u8, e2]
      exact ⟨G2, rfl, h2, f2⟩
  · rw [condD_neg h0, if_neg h0]
    exact ⟨G', rfl, h', FrX.refl⟩
end Go.Proofs.D.S
/- A heap's calls that go to no block: Trim, Figures; its configuration. -/
set_option linter.unusedVariables false
set_option linter.unusedSimpArgs false
namespace Go.Proofs.D.S
open Go Go.RowKit
variable {G G' G0 G1 : GH} {L R : List (Nat × Obj)}
variable {hid : Nat} {s : HS}
theorem nbf {n : Nat} (h : 1 ≤ n) : Nat.beq n 0 = false := by cases n with | zero => omega | succ n => rfl
theorem heap_Heap_Do.figures (h : HRaw G hid s) (hl : s.on.length ≤ 1000000) {p sz a n b : Int} :
    CW heap_Heap_Do.id [.c (.ptr hid 0), .agg [.int .i64 10, .int .i64 p, .int .i64 sz, .int .i64 a, .int .i64 n, .int .u8 b]] G = some ([.agg [.int .i64 0, .int .i64 0, .int .i64 0, .int .u8 0, .int .i64 s.live, .int .i64 s.peak, .int .i64 s.mark, .int .i64 (cnt s.on : Nat)]], G) := by
  have l12 : G.ld hid 12 = some (.int .i64 s.live) := by rw [h.ld]; rfl
  have l13 : G.ld hid 13 = some (.int .i64 s.peak) := by rw [h.ld]; rfl
  have l14 : G.ld hid 14 = some (.int .i64 s.mark) := by rw [h.ld]; rfl
  have l16 : G.ld hid 16 = some (.sl 1 s.oni 0 s.on.length) := by rw [h.ld]; rfl
  have c := pin_Count.sp h.on.1 (by omega)
  rw [heap_Heap_Do.cw]
  unfold heap_Heap_Do.f
  rw [nbf h.h0, q_xf, q_cf, condD_neg (by decide), condD_neg (by decide), condD_neg (by decide), condD_neg (by decide), condD_neg (by decide), condD_neg (by decide), condD_neg (by decide), decide_eq_false (by decide), heap_Heap_Do.J56_eq, q_cf, condD_neg (by decide), condD_pos rfl, guardK_of (nb0 h.h0)]
  simp only [Nat.zero_add, l12, q_bs, q_I, q_B, q_P, q_S, q_M, q_c, q_a, q_gz, q_gs, q_gk, q_ct, q_cf, q_nt, q_nf, q_xt, q_xf, q_tt, q_ff, q_tf, q_ft, q_at, q_af]
  rw [guardK_of (nb0 h.h0), l13]
  simp only [q_bs, q_I, q_B, q_P, q_S, q_M, q_c, q_a, q_gz, q_gs, q_gk, q_ct, q_cf, q_nt, q_nf, q_xt, q_xf, q_tt, q_ff, q_tf, q_ft, q_at, q_af]
  rw [guardK_of (nb0 h.h0), l14]
  simp only [q_bs, q_I, q_B, q_P, q_S, q_M, q_c, q_a, q_gz, q_gs, q_gk, q_ct, q_cf, q_nt, q_nf, q_xt, q_xf, q_tt, q_ff, q_tf, q_ft, q_at, q_af]
  rw [guardK_of (nb0 h.h0), l16]
  simp only [q_bs, q_I, q_B, q_P, q_S, q_M, q_c, q_a, q_gz, q_gs, q_gk, q_ct, q_cf, q_nt, q_nf, q_xt, q_xf, q_tt, q_ff, q_tf, q_ft, q_at, q_af]
  rw [c]
  simp only [l12, l13, l14, q_bs, q_I, q_B, q_P, q_S, q_M, q_c, q_a, q_gz, q_gs, q_gk, q_ct, q_cf, q_nt, q_nf, q_xt, q_xf, q_tt, q_ff, q_tf, q_ft, q_at, q_af]
  rw [guardD_of trivial, guardD_of trivial, guardD_of trivial]
theorem heap_Heap_Do.trim (h : HRaw G hid s) (hl : s.on.length ≤ 1000000) (hm : s.met.length = s.on.length) {p sz a n b : Int} :
    ∃ oni G', CW heap_Heap_Do.id [.c (.ptr hid 0), .agg [.int .i64 9, .int .i64 p, .int .i64 sz, .int .i64 a, .int .i64 n, .int .u8 b]] G = some ([.agg [.int .i64 0, .int .i64 0, .int .i64 (goneP s.on (s.met.map fun n => decide (n > 0)) s.on.length : Nat), .int .u8 0, .int .i64 0, .int .i64 0, .int .i64 0, .int .i64 0]], G') ∧
      HRaw G' hid { s with oni := oni, on := trimP s.on (s.met.map fun n => decide (n > 0)) } ∧ FrX (s.X hid) G G' := by
  have l16 : G.ld hid 16 = some (.sl 1 s.oni 0 s.on.length) := by rw [h.ld]; rfl
  obtain ⟨mi, G1, m1, m2, m3⟩ := heap_Heap_pages.sp h (by omega)
  have h1 := h.keep m2
  have k16 : G1.ld hid 16 = some (.sl 1 s.oni 0 s.on.length) := by rw [h1.ld]; rfl
  obtain ⟨oid, G2, t1, t2, t3⟩ := commit_Trim.sp h1.w h1.on0 h1.on.1 m2.sl0 (by simp [hm]) (by omega)
  have h2 := h1.keep t2
  have hlen : (trimP s.on (s.met.map fun n => decide (n > 0))).length = s.on.length := by simp [trimP]
  obtain ⟨G3, e3, h3, f3⟩ := h2.setOn (t2.sx (List.mem_cons_self ..) h1.ids) t3
  rw [hlen] at e3
  rw [hm] at m1
  refine ⟨oid, G3, ?_, h3, ((FrX.hp m2).trans (FrX.hp t2)).trans f3⟩
  rw [heap_Heap_Do.cw]
  unfold heap_Heap_Do.f
  rw [nbf h.h0, q_xf, q_cf, condD_neg (by decide), condD_neg (by decide), condD_neg (by decide), condD_neg (by decide), condD_neg (by decide), condD_neg (by decide), condD_neg (by decide), decide_eq_false (by decide), heap_Heap_Do.J56_eq, q_cf, condD_pos rfl, guardK_of (nb0 h.h0)]
  simp only [Nat.zero_add, l16, q_bs, q_I, q_B, q_P, q_S, q_M, q_c, q_a, q_gz, q_gs, q_gk, q_ct, q_cf, q_nt, q_nf, q_xt, q_xf, q_tt, q_ff, q_tf, q_ft, q_at, q_af]
  rw [m1]
  simp only [k16, q_bs, q_I, q_B, q_P, q_S, q_M, q_c, q_a, q_gz, q_gs, q_gk, q_ct, q_cf, q_nt, q_nf, q_xt, q_xf, q_tt, q_ff, q_tf, q_ft, q_at, q_af]
  rw [guardD_of trivial, t1]
  simp only [q_bs, q_I, q_B, q_P, q_S, q_M, q_c, q_a, q_gz, q_gs, q_gk, q_ct, q_cf, q_nt, q_nf, q_xt, q_xf, q_tt, q_ff, q_tf, q_ft, q_at, q_af]
  rw [guardK_of (nb0 h.h0), e3, q_bs]
end Go.Proofs.D.S
/- A heap's calls to a block: those that neither move nor free it. -/
set_option linter.unusedVariables false
set_option linter.unusedSimpArgs false
namespace Go.Proofs.D.S
open Go Go.RowKit
variable {G G' G0 G1 : GH} {L R : List (Nat × Obj)}
variable {hid : Nat} {s : HS}
theorem HRaw.ents0 (h : HRaw G hid s) : G.ents0 (.agg [.int .i64]) s.mid = some s.es := by
  unfold GH.ents0
  rw [if_neg h.m0]; exact h.ents
abbrev opA (k p sz a n b : Int) : V1 := .agg [.int .i64 k, .int .i64 p, .int .i64 sz, .int .i64 a, .int .i64 n, .int .u8 b]
abbrev ansA (e a n b l p m g : Int) : V1 := .agg [.int .i64 e, .int .i64 a, .int .i64 n, .int .u8 b, .int .i64 l, .int .i64 p, .int .i64 m, .int .i64 g]
theorem heap_Heap_block.none (h : HRaw G hid s) {k p sz a n b : Int} (hm : mapGet s.es (kv p) = none) :
    CW heap_Heap_block.id [.c (.ptr hid 0), opA k p sz a n b] G = some ([ansA 8 0 0 0 0 0 0 0], G) := by
  have l11 : G.ld hid 11 = some (.map s.mid) := by rw [h.ld]; rfl
  rw [heap_Heap_block.cw]
  unfold heap_Heap_block.f
  rw [guardK_of (nb0 h.h0)]
  simp only [Nat.zero_add, l11, q_bs, q_I, q_B, q_P, q_S, q_M, q_c, q_a, q_gz, q_gs, q_gk, q_ct, q_cf, q_nt, q_nf, q_xt, q_xf, q_tt, q_ff, q_tf, q_ft, q_at, q_af]
  rw [h.ents0, q_bs, hm]
  simp only [Option.getD_none, Option.isSome_none, q_bs, q_I, q_B, q_P, q_S, q_M, q_c, q_a, q_gz, q_gs, q_gk, q_ct, q_cf, q_nt, q_nf, q_xt, q_xf, q_tt, q_ff, q_tf, q_ft, q_at, q_af, List.length_cons, List.length_nil, if_true, Nat.zero_add, Nat.reduceAdd]
theorem heap_Heap_block.usable (h : HRaw G hid s) {p sz a n b at_ ch asked : Int} (hm : mapGet s.es (kv p) = some (bv at_ ch asked)) :
    CW heap_Heap_block.id [.c (.ptr hid 0), opA 6 p sz a n b] G = some ([ansA 0 0 ch 0 0 0 0 0], G) := by
  have l11 : G.ld hid 11 = some (.map s.mid) := by rw [h.ld]; rfl
  rw [heap_Heap_block.cw]
  unfold heap_Heap_block.f
  rw [guardK_of (nb0 h.h0)]
  simp only [Nat.zero_add, l11, q_bs, q_I, q_B, q_P, q_S, q_M, q_c, q_a, q_gz, q_gs, q_gk, q_ct, q_cf, q_nt, q_nf, q_xt, q_xf, q_tt, q_ff, q_tf, q_ft, q_at, q_af]
  rw [h.ents0, q_bs, hm]
  simp only [Option.getD_some, Option.isSome_some, q_bs, q_I, q_B, q_P, q_S, q_M, q_c, q_a, q_gz, q_gs, q_gk, q_ct, q_cf, q_nt, q_nf, q_xt, q_xf, q_tt, q_ff, q_tf, q_ft, q_at, q_af, List.length_cons, List.length_nil, if_true, Nat.zero_add, Nat.reduceAdd]
  rw [condD_neg (by decide), condD_neg (by decide), condD_pos trivial]
theorem heap_Heap_block.bound (h : HRaw G hid s) {k p sz a n b at_ ch asked : Int} (hk : k = 7 ∨ k = 8) (hm : mapGet s.es (kv p) = some (bv at_ ch asked)) (hn : n < 0 ∨ n ≥ ch) :
    CW heap_Heap_block.id [.c (.ptr hid 0), opA k p sz a n b] G = some ([ansA 9 0 0 0 0 0 0 0], G) := by
  have l11 : G.ld hid 11 = some (.map s.mid) := by rw [h.ld]; rfl
  rw [heap_Heap_block.cw]
  unfold heap_Heap_block.f
  rw [guardK_of (nb0 h.h0)]
  simp only [Nat.zero_add, l11, q_bs, q_I, q_B, q_P, q_S, q_M, q_c, q_a, q_gz, q_gs, q_gk, q_ct, q_cf, q_nt, q_nf, q_xt, q_xf, q_tt, q_ff, q_tf, q_ft, q_at, q_af]
  rw [h.ents0, q_bs, hm]
  simp only [Option.getD_some, Option.isSome_some, q_bs, q_I, q_B, q_P, q_S, q_M, q_c, q_a, q_gz, q_gs, q_gk, q_ct, q_cf, q_nt, q_nf, q_xt, q_xf, q_tt, q_ff, q_tf, q_ft, q_at, q_af, List.length_cons, List.length_nil, if_true, Nat.zero_add, Nat.reduceAdd]
  rw [condD_neg (by omega), condD_neg (by omega), condD_neg (by omega)]
  by_cases h1 : n < 0
  · rw [condD_pos h1, heap_Heap_block.J31_eq, q_ct]
  · rw [condD_neg h1, decide_eq_true (by omega), heap_Heap_block.J31_eq, q_ct]
theorem heap_Heap_block.load (h : HRaw G hid s) {p sz a b ch asked : Int} {n at_ : Nat} (hm : mapGet s.es (kv p) = some (bv (at_ : Int) ch asked)) (hn : (n : Int) < ch) (hi : at_ + n < s.mem.length) (hl : s.mem.length ≤ 65536) :
    CW heap_Heap_block.id [.c (.ptr hid 0), opA 7 p sz a (n : Int) b] G = some ([ansA 0 0 0 s.mem[at_ + n] 0 0 0 0], G) := by
  have l11 : G.ld hid 11 = some (.map s.mid) := by rw [h.ld]; rfl
  have l17 : G.ld hid 17 = some (.sl 1 s.mmi 0 s.mem.length) := by rw [h.ld]; rfl
  have sm : Sl G eU8 s.mmi 0 s.mem := .inr ⟨_, row_row h.mem, by omega, by rw [List.drop_zero, List.take_length]⟩
  have r := sm.ld (at_ + n) 0 hi (by omega)
  rw [Nat.zero_add, Nat.add_zero] at r
  rw [heap_Heap_block.cw]
  unfold heap_Heap_block.f
  rw [guardK_of (nb0 h.h0)]
  simp only [Nat.zero_add, l11, q_bs, q_I, q_B, q_P, q_S, q_M, q_c, q_a, q_gz, q_gs, q_gk, q_ct, q_cf, q_nt, q_nf, q_xt, q_xf, q_tt, q_ff, q_tf, q_ft, q_at, q_af]
  rw [h.ents0, q_bs, hm]
  simp only [Option.getD_some, Option.isSome_some, q_bs, q_I, q_B, q_P, q_S, q_M, q_c, q_a, q_gz, q_gs, q_gk, q_ct, q_cf, q_nt, q_nf, q_xt, q_xf, q_tt, q_ff, q_tf, q_ft, q_at, q_af, List.length_cons, List.length_nil, if_true, Nat.zero_add, Nat.reduceAdd]
  rw [condD_neg (by omega), condD_neg (by omega), condD_neg (by omega), condD_neg (by omega), decide_eq_false (by omega), heap_Heap_block.J31_eq, q_cf, condD_pos rfl, guardK_of (nb0 h.h0)]
  simp only [Nat.zero_add, l17, q_bs, q_I, q_B, q_P, q_S, q_M, q_c, q_a, q_gz, q_gs, q_gk, q_ct, q_cf, q_nt, q_nf, q_xt, q_xf, q_tt, q_ff, q_tf, q_ft, q_at, q_af]
  rw [i64w, wrap_id (by omega) (by omega), guardD_of (by omega), show ((at_ : Int) + (n : Int)).toNat = at_ + n by omega, r]
  simp only [eU8, List.getElem?_cons_zero, q_bs, q_I, q_B, q_P, q_S, q_M, q_c, q_a, q_gz, q_gs, q_gk, q_ct, q_cf, q_nt, q_nf, q_xt, q_xf, q_tt, q_ff, q_tf, q_ft, q_at, q_af]
theorem heap_Heap_block.store (h : HRaw G hid s) {p sz a b ch asked : Int} {n at_ : Nat} (hm : mapGet s.es (kv p) = some (bv (at_ : Int) ch asked)) (hn : (n : Int) < ch) (hi : at_ + n < s.mem.length) (hl : s.mem.length ≤ 65536) :
    ∃ G', CW heap_Heap_block.id [.c (.ptr hid 0), opA 8 p sz a (n : Int) b] G = some ([ansA 0 0 0 0 0 0 0 0], G') ∧ HRaw G' hid { s with mem := s.mem.set (at_ + n) b } ∧ FrX (s.X hid) G G' := by
  have l11 : G.ld hid 11 = some (.map s.mid) := by rw [h.ld]; rfl
  have l17 : G.ld hid 17 = some (.sl 1 s.mmi 0 s.mem.length) := by rw [h.ld]; rfl
  obtain ⟨G', e, h2, f2⟩ := h.wr (a := at_ + n) (new := [b]) (by simp; omega)
  refine ⟨G', ?_, ?_, f2⟩
  · rw [heap_Heap_block.cw]
    unfold heap_Heap_block.f
    rw [guardK_of (nb0 h.h0)]
    simp only [Nat.zero_add, l11, q_bs, q_I, q_B, q_P, q_S, q_M, q_c, q_a, q_gz, q_gs, q_gk, q_ct, q_cf, q_nt, q_nf, q_xt, q_xf, q_tt, q_ff, q_tf, q_ft, q_at, q_af]
    rw [h.ents0, q_bs, hm]
    simp only [Option.getD_some, Option.isSome_some, q_bs, q_I, q_B, q_P, q_S, q_M, q_c, q_a, q_gz, q_gs, q_gk, q_ct, q_cf, q_nt, q_nf, q_xt, q_xf, q_tt, q_ff, q_tf, q_ft, q_at, q_af, List.length_cons, List.length_nil, if_true, Nat.zero_add, Nat.reduceAdd]
    rw [condD_neg (by omega), condD_neg (by omega), condD_neg (by omega), condD_neg (by omega), decide_eq_false (by omega), heap_Heap_block.J31_eq, q_cf, condD_neg (by omega), guardK_of (nb0 h.h0)]
    simp only [Nat.zero_add, l17, q_bs, q_I, q_B, q_P, q_S, q_M, q_c, q_a, q_gz, q_gs, q_gk, q_ct, q_cf, q_nt, q_nf, q_xt, q_xf, q_tt, q_ff, q_tf, q_ft, q_at, q_af]
    rw [i64w, wrap_id (by omega) (by omega), guardD_of (by omega), show ((at_ : Int) + (n : Int)).toNat = at_ + n by omega]
    rw [show [Cell.int .u8 b] = cells eU8 [b] by simp [cells, eU8], e, q_bs]
  · rw [show s.mem.set (at_ + n) b = s.mem.take (at_ + n) ++ [b] ++ s.mem.drop (at_ + n + [b].length) by
      rw [List.set_eq_take_append_cons_drop, if_pos hi]; simp]
    exact h2
theorem heap_Heap_block.free (h : HRaw G hid s) {p sz a n b at_ ch asked : Int} (hm : mapGet s.es (kv p) = some (bv at_ ch asked)) (k : CW heap_Heap_gone.id [.c (.ptr hid 0), bv at_ ch asked] G = some ([], G')) :
    CW heap_Heap_block.id [.c (.ptr hid 0), opA 5 p sz a n b] G = some ([ansA 0 0 0 0 0 0 0 0], G') := by
  have l11 : G.ld hid 11 = some (.map s.mid) := by rw [h.ld]; rfl
  rw [heap_Heap_block.cw]
  unfold heap_Heap_block.f
  rw [guardK_of (nb0 h.h0)]
  simp only [Nat.zero_add, l11, q_bs, q_I, q_B, q_P, q_S, q_M, q_c, q_a, q_gz, q_gs, q_gk, q_ct, q_cf, q_nt, q_nf, q_xt, q_xf, q_tt, q_ff, q_tf, q_ft, q_at, q_af]
  rw [h.ents0, q_bs, hm]
  simp only [Option.getD_some, Option.isSome_some, q_bs, q_I, q_B, q_P, q_S, q_M, q_c, q_a, q_gz, q_gs, q_gk, q_ct, q_cf, q_nt, q_nf, q_xt, q_xf, q_tt, q_ff, q_tf, q_ft, q_at, q_af, List.length_cons, List.length_nil, if_true, Nat.zero_add, Nat.reduceAdd]
  rw [condD_neg (by decide), condD_pos trivial, k, q_bs]
theorem heap_Heap_block.realloc (h : HRaw G hid s) {p sz a n b at_ ch asked : Int} (hm : mapGet s.es (kv p) = some (bv at_ ch asked)) {e0 a1 n2 b3 l4 p5 m6 g7 : Int} (k : CW heap_Heap_realloc.id [.c (.ptr hid 0), bv at_ ch asked, .c (.int .i64 sz)] G = some ([ansA e0 a1 n2 b3 l4 p5 m6 g7], G')) :
    CW heap_Heap_block.id [.c (.ptr hid 0), opA 4 p sz a n b] G = some ([ansA e0 a1 n2 b3 l4 p5 m6 g7], G') := by
  have l11 : G.ld hid 11 = some (.map s.mid) := by rw [h.ld]; rfl
  rw [heap_Heap_block.cw]
  unfold heap_Heap_block.f
  rw [guardK_of (nb0 h.h0)]
  simp only [Nat.zero_add, l11, q_bs, q_I, q_B, q_P, q_S, q_M, q_c, q_a, q_gz, q_gs, q_gk, q_ct, q_cf, q_nt, q_nf, q_xt, q_xf, q_tt, q_ff, q_tf, q_ft, q_at, q_af]
  rw [h.ents0, q_bs, hm]
  simp only [Option.getD_some, Option.isSome_some, q_bs, q_I, q_B, q_P, q_S, q_M, q_c, q_a, q_gz, q_gs, q_gk, q_ct, q_cf, q_nt, q_nf, q_xt, q_xf, q_tt, q_ff, q_tf, q_ft, q_at, q_af, List.length_cons, List.length_nil, if_true, Nat.zero_add, Nat.reduceAdd]
  rw [condD_pos trivial, k, q_bs]
  simp only [q_bs, q_I, q_B, q_P, q_S, q_M, q_c, q_a, q_gz, q_gs, q_gk, q_ct, q_cf, q_nt, q_nf, q_xt, q_xf, q_tt, q_ff, q_tf, q_ft, q_at, q_af, List.length_cons, List.length_nil, if_true, Nat.zero_add, Nat.reduceAdd]
end Go.Proofs.D.S
/- There is always room: the lowest place of a class lies below its ceiling while sums allow. -/
set_option linter.unusedVariables false
namespace Go.Proofs.D.S
open Go Go.RowKit
/-- A block of a class, aligned, below its ceiling. -/
def Bin (g l u : Nat) (b : Blk) : Prop := ∃ k a : Nat, k ≤ l ∧ b.ch = ((2 ^ (g + k) : Nat) : Int) ∧ b.at_ = ((a * 2 ^ (g + k) : Nat) : Int) ∧ a < tP l u k * (2 + k)
def chSum (bl : List Blk) : Int := (bl.map Blk.ch).sum
theorem chSum_cons (b : Blk) (bl : List Blk) : chSum (b :: bl) = b.ch + chSum bl := rfl
/-- Sums over places. -/
def sumTo (f : Nat → Nat) : Nat → Nat
  | 0 => 0
  | m + 1 => sumTo f m + f m
theorem sumTo_mono {f h : Nat → Nat} (m : Nat) (k : ∀ j, j < m → f j ≤ h j) : sumTo f m ≤ sumTo h m := by
  induction m with
  | zero => exact Nat.le_refl _
  | succ m ih => exact Nat.add_le_add (ih fun j hj => k j (by omega)) (k m (by omega))
theorem sumTo_add (f h : Nat → Nat) (m : Nat) : sumTo (fun j => f j + h j) m = sumTo f m + sumTo h m := by
  induction m with
  | zero => rfl
  | succ m ih => simp only [sumTo]; omega
theorem leastN_sum (g k t m : Nat) : leastN g k t m = sumTo (fun j => 2 ^ (g + ofP k t j)) m := by
  induction m with
  | zero => rfl
  | succ m ih => simp only [leastN, sumTo, ih]
/-- A stretch of places. -/
theorem sumTo_run (f : Nat → Nat) (p : Nat → Bool) (lo cnt B m : Nat) (hp : ∀ j, p j = true → lo ≤ j ∧ j < lo + cnt) (hB : ∀ j, p j = true → f j ≤ B) :
    sumTo (fun j => if p j = true then f j else 0) m ≤ (min m (lo + cnt) - lo) * B := by
  induction m with
  | zero => simp [sumTo]
  | succ m ih =>
    simp only [sumTo]
    by_cases h : p m = true
    · obtain ⟨h1, h2⟩ := hp m h
      have h3 := hB m h
      rw [if_pos h]
      rw [Nat.min_eq_left (by omega)] at ih ⊢
      rw [show m + 1 - lo = (m - lo) + 1 by omega, Nat.succ_mul]
      omega
    · rw [if_neg h]
      refine Nat.le_trans ih (Nat.mul_le_mul_right _ ?_)
      omega
/-- Which places a block lies over. -/
def ovB (n : Int) (b : Blk) (j : Nat) : Bool := over ((j : Int) * n) n b.at_ b.ch
section
variable {g l u : Nat}
/-- One block: the places that it lies over need no more than it is. -/
theorem block_sum (hu : 1 ≤ u) {k : Nat} (hk : k ≤ l) {b : Blk} (hb : Bin g l u b) (m : Nat) :
    ((sumTo (fun j => if ovB ((2 ^ (g + k) : Nat) : Int) b j = true then 2 ^ (g + ofP k (tP l u k) j) else 0) m : Nat) : Int) ≤ b.ch := by
  obtain ⟨kb, a, hkb, hch, hat, ha⟩ := hb
  have z := Nat.two_pow_pos (g + k)
  have zb := Nat.two_pow_pos (g + kb)
  have ov : ∀ j, ovB ((2 ^ (g + k) : Nat) : Int) b j = true → j * 2 ^ (g + k) < (a + 1) * 2 ^ (g + kb) ∧ a * 2 ^ (g + kb) < (j + 1) * 2 ^ (g + k) := by
    intro j h
    unfold ovB over at h
    simp only [Bool.and_eq_true, decide_eq_true_eq] at h
    rw [hch, hat, ← Int.natCast_mul] at h
    rw [Nat.succ_mul, Nat.succ_mul]
    omega
  rw [hch]
  apply Int.ofNat_le.2
  rcases Nat.le_total kb k with hle | hle
  · -- it lies in one place
    have e : 2 ^ (g + k) = 2 ^ (k - kb) * 2 ^ (g + kb) := by rw [← Nat.pow_add, show k - kb + (g + kb) = g + k by omega]
    have zr := Nat.two_pow_pos (k - kb)
    have loc : ∀ j, ovB ((2 ^ (g + k) : Nat) : Int) b j = true → j = a / 2 ^ (k - kb) := by
      intro j h
      obtain ⟨h1, h2⟩ := ov j h
      rw [e, ← Nat.mul_assoc] at h1 h2
      have h3 := Nat.lt_of_mul_lt_mul_right h1
      have h4 := Nat.lt_of_mul_lt_mul_right h2
      symm
      apply Nat.div_eq_of_lt_le
      · omega
      · exact h4
    have h := sumTo_run (fun j => 2 ^ (g + ofP k (tP l u k) j)) (ovB ((2 ^ (g + k) : Nat) : Int) b) (a / 2 ^ (k - kb)) 1 (2 ^ (g + kb)) m (fun j hj => by rw [loc j hj]; omega) (fun j hj => by
      obtain ⟨h1, h2⟩ := ov j hj
      obtain ⟨o1, o2, o3⟩ := ofP_spec (k := k) (t := tP l u k) (j := j) (tP_pos hu)
      refine Nat.pow_le_pow_right (by decide) ?_
      rcases Nat.lt_or_ge kb (ofP k (tP l u k) j) with hlt | hge
      · exfalso
        have h5 := o2 kb hlt
        have h6 : tP l u kb * 2 ^ (g + kb) = tP l u k * 2 ^ (g + k) := by rw [tP_half hkb, tP_half hk]
        have h7 : tP l u k * (2 + kb) * 2 ^ (g + k) ≤ j * 2 ^ (g + k) := Nat.mul_le_mul_right _ h5
        have h8 : (a + 1) * 2 ^ (g + kb) ≤ tP l u kb * (2 + kb) * 2 ^ (g + kb) := Nat.mul_le_mul_right _ ha
        have h9 : tP l u kb * (2 + kb) * 2 ^ (g + kb) = tP l u k * (2 + kb) * 2 ^ (g + k) := by
          rw [Nat.mul_assoc, Nat.mul_comm (2 + kb), ← Nat.mul_assoc, h6, Nat.mul_assoc, Nat.mul_comm _ (2 + kb), ← Nat.mul_assoc]
        omega
      · omega)
    refine Nat.le_trans h ?_
    have h2 : min m (a / 2 ^ (k - kb) + 1) - a / 2 ^ (k - kb) ≤ 1 := by omega
    calc _ ≤ 1 * 2 ^ (g + kb) := Nat.mul_le_mul_right _ h2
      _ = 2 ^ (g + kb) := Nat.one_mul _
  · -- it is of whole places
    have e : 2 ^ (g + kb) = 2 ^ (kb - k) * 2 ^ (g + k) := by rw [← Nat.pow_add, show kb - k + (g + k) = g + kb by omega]
    have h := sumTo_run (fun j => 2 ^ (g + ofP k (tP l u k) j)) (ovB ((2 ^ (g + k) : Nat) : Int) b) (a * 2 ^ (kb - k)) (2 ^ (kb - k)) (2 ^ (g + k)) m (fun j hj => by
      obtain ⟨h1, h2⟩ := ov j hj
      rw [e, ← Nat.mul_assoc] at h1 h2
      have h3 := Nat.lt_of_mul_lt_mul_right h1
      have h4 := Nat.lt_of_mul_lt_mul_right h2
      rw [Nat.succ_mul] at h3
      omega) (fun j _ => Nat.pow_le_pow_right (by decide) (by unfold ofP; omega))
    refine Nat.le_trans h ?_
    rw [e]
    have zr := Nat.two_pow_pos (kb - k)
    exact Nat.mul_le_mul_right _ (by omega)
/-- Places that are not free need no more than what is live. -/
theorem places_sum (hu : 1 ≤ u) {k : Nat} (hk : k ≤ l) (m : Nat) : ∀ {bl : List Blk}, (∀ b ∈ bl, Bin g l u b) →
    ((sumTo (fun j => if freeB bl ((j : Int) * ((2 ^ (g + k) : Nat) : Int)) ((2 ^ (g + k) : Nat) : Int) = false then 2 ^ (g + ofP k (tP l u k) j) else 0) m : Nat) : Int) ≤ chSum bl
  | [], _ => by
    have : sumTo (fun j => if freeB [] ((j : Int) * ((2 ^ (g + k) : Nat) : Int)) ((2 ^ (g + k) : Nat) : Int) = false then 2 ^ (g + ofP k (tP l u k) j) else 0) m = 0 := by
      induction m with
      | zero => rfl
      | succ m ih => simp only [sumTo, ih]; simp [freeB]
    rw [this]; simp [chSum]
  | b :: bl, h => by
    have h1 := block_sum hu hk (h b (by simp)) m
    have h2 := places_sum hu hk m (bl := bl) fun x hx => h x (by simp [hx])
    have h3 : sumTo (fun j => if freeB (b :: bl) ((j : Int) * ((2 ^ (g + k) : Nat) : Int)) ((2 ^ (g + k) : Nat) : Int) = false then 2 ^ (g + ofP k (tP l u k) j) else 0) m ≤
        sumTo (fun j => (if ovB ((2 ^ (g + k) : Nat) : Int) b j = true then 2 ^ (g + ofP k (tP l u k) j) else 0) + (if freeB bl ((j : Int) * ((2 ^ (g + k) : Nat) : Int)) ((2 ^ (g + k) : Nat) : Int) = false then 2 ^ (g + ofP k (tP l u k) j) else 0)) m := by
      refine sumTo_mono m fun j _ => ?_
      have e : freeB (b :: bl) ((j : Int) * ((2 ^ (g + k) : Nat) : Int)) ((2 ^ (g + k) : Nat) : Int) = (!ovB ((2 ^ (g + k) : Nat) : Int) b j && freeB bl ((j : Int) * ((2 ^ (g + k) : Nat) : Int)) ((2 ^ (g + k) : Nat) : Int)) := rfl
      rw [e]
      cases ovB ((2 ^ (g + k) : Nat) : Int) b j <;> cases freeB bl ((j : Int) * ((2 ^ (g + k) : Nat) : Int)) ((2 ^ (g + k) : Nat) : Int) <;> simp
    rw [sumTo_add] at h3
    rw [chSum_cons]
    have h4 := Int.ofNat_le.2 h3
    rw [Int.natCast_add] at h4
    omega
theorem low_sum (hu : 1 ≤ u) {k : Nat} (hk : k ≤ l) {m : Nat} {bl : List Blk} (hb : ∀ b ∈ bl, Bin g l u b) (hm : ∀ j : Nat, j < m → freeB bl ((j : Int) * ((2 ^ (g + k) : Nat) : Int)) ((2 ^ (g + k) : Nat) : Int) = false) :
    ((leastN g k (tP l u k) m : Nat) : Int) ≤ chSum bl := by
  have h := places_sum hu hk m hb
  have e : sumTo (fun j => 2 ^ (g + ofP k (tP l u k) j)) m ≤ sumTo (fun j => if freeB bl ((j : Int) * ((2 ^ (g + k) : Nat) : Int)) ((2 ^ (g + k) : Nat) : Int) = false then 2 ^ (g + ofP k (tP l u k) j) else 0) m :=
    sumTo_mono m fun j hj => by rw [if_pos (hm j hj)]; exact Nat.le_refl _
  rw [leastN_sum]
  have := Int.ofNat_le.2 e
  omega
/-- There is room, below the ceiling, and all below it is needed. -/
theorem room {c : Cf} (tp : c.Tp g l u) {k : Nat} (hk : k ≤ l) {bl : List Blk} (hb : ∀ b ∈ bl, Bin g l u b) (hs : chSum bl + ((2 ^ (g + k) : Nat) : Int) ≤ c.M) :
    ∃ j : Nat, lowJ c.H bl ((2 ^ (g + k) : Nat) : Int) = some j ∧ j < tP l u k * (2 + k) ∧ ((leastN g k (tP l u k) j : Nat) : Int) ≤ chSum bl := by
  have z := Nat.two_pow_pos (g + k)
  have hL := tp.ex.hL
  have f := tp.ok.facts
  obtain ⟨_, cH, _⟩ := tp.ok.ceil (k := (k : Int)) (by omega) (by omega)
  rw [tp.ceil hk] at cH
  have hfull := leastN_full g k (tP l u k) (tP_pos tp.hu)
  have hM2 : c.M = ((tP l u k * 2 ^ (g + 1 + k) : Nat) : Int) := by
    rw [tp.full hk, show g + 1 + k = g + k + 1 by omega, Nat.pow_succ, Nat.mul_comm 2, Nat.mul_assoc]
  cases e : lowJ c.H bl ((2 ^ (g + k) : Nat) : Int) with
  | none =>
    exfalso
    have h := (lowJ_none (by omega) (by omega)).1 e
    have h2 := low_sum tp.hu hk (m := tP l u k * (2 + k)) hb fun j hj => h j (by
      have : (j + 1) * 2 ^ (g + k) ≤ tP l u k * (2 + k) * 2 ^ (g + k) := Nat.mul_le_mul_right _ hj
      rw [Nat.succ_mul] at this
      rw [← Int.natCast_mul]; omega)
    rw [hfull, ← hM2] at h2
    omega
  | some j =>
    obtain ⟨h1, h2, h3⟩ := (lowJ_some (by omega) (by omega)).1 e
    have h4 := low_sum tp.hu hk (m := j) hb h3
    refine ⟨j, rfl, ?_, h4⟩
    rcases Nat.lt_or_ge j (tP l u k * (2 + k)) with h5 | h5
    · exact h5
    · exfalso
      have h6 := leastN_mono g k (tP l u k) h5
      rw [hfull] at h6
      have h7 := Int.ofNat_le.2 h6
      rw [← hM2] at h7
      omega
/-- A block that is placed so is one of those again. -/
theorem Bin.new {k j : Nat} (hk : k ≤ l) (hj : j < tP l u k * (2 + k)) (asked : Int) : Bin g l u ⟨(j : Int) * ((2 ^ (g + k) : Nat) : Int), ((2 ^ (g + k) : Nat) : Int), asked⟩ :=
  ⟨k, j, hk, rfl, by rw [Int.natCast_mul], hj⟩
end
end Go.Proofs.D.S
/- The reference's model, as plain values. -/
set_option linter.unusedVariables false
namespace Go.Proofs.D.S
open Go Go.RowKit
structure Mod where
  c : Cf
  bl : List Blk
  live : Int
  peak : Int
  mark : Int
  on : List Bool
  mem : List Int
/-- A class's size is charged, or there is an error. -/
theorem charge_new {c : Cf} {g l : Nat} (ex : c.Ex g l) (live s a : Int) : ((newS c.G c.N c.M live s a).2 ≠ 0 ∧ (newS c.G c.N c.M live s a).1 = 0) ∨ ((newS c.G c.N c.M live s a).2 = 0 ∧ live + (newS c.G c.N c.M live s a).1 ≤ c.M ∧ ∃ k : Nat, k ≤ l ∧ (newS c.G c.N c.M live s a).1 = ((2 ^ (g + k) : Nat) : Int)) := by
  unfold newS
  by_cases h : (chargeS c.G c.N s a).2 = 0
  · rw [if_pos h]
    by_cases h2 : live + (chargeS c.G c.N s a).1 > c.M
    · rw [if_pos h2]; exact .inl ⟨by decide, rfl⟩
    · rw [if_neg h2]
      refine .inr ⟨rfl, by dsimp only; omega, ?_⟩
      rw [ex.hG, ex.hN] at h ⊢
      obtain ⟨k, h1, h2, h3, _⟩ := chargeS_ok h (by omega)
      exact ⟨k - g, by omega, by rw [h3]; congr 2; omega⟩
  · rw [if_neg h]; exact .inl ⟨h, rfl⟩
theorem charge_many {c : Cf} {g l : Nat} (ex : c.Ex g l) (live n s : Int) : ((manyS c.G c.N c.M live n s).2 ≠ 0 ∧ (manyS c.G c.N c.M live n s).1 = 0) ∨ ((manyS c.G c.N c.M live n s).2 = 0 ∧ live + (manyS c.G c.N c.M live n s).1 ≤ c.M ∧ ∃ k : Nat, k ≤ l ∧ (manyS c.G c.N c.M live n s).1 = ((2 ^ (g + k) : Nat) : Int)) := by
  unfold manyS
  by_cases h : (productS c.N n s).2 = 0
  · rw [if_pos h]; exact charge_new ex _ _ _
  · rw [if_neg h]; exact .inl ⟨h, rfl⟩
/-- A memory is of whole pages. -/
theorem Cf.Ok.pages {c : Cf} (h : c.Ok) : ∃ np : Nat, c.H = (np : Int) * c.Pg := by
  obtain ⟨⟨g, l, p, q, e1, e2, e3, e4, e5, e6, e7, e8, e9⟩, h1, h2, h3, h4⟩ := h
  have z : 2 ^ max (g + l) p = 2 ^ p * 2 ^ (max (g + l) p - p) := by rw [← Nat.pow_add]; congr 1; omega
  have m2 : c.M / 2 = ((q * 2 ^ max (g + l) p : Nat) : Int) := by
    rw [e7, Nat.pow_succ, ← Nat.mul_assoc]; omega
  refine ⟨(2 + l) * (q * 2 ^ (max (g + l) p - p)), ?_⟩
  have hM : c.M = 2 * (c.M / 2) := by rw [e7, Nat.pow_succ, ← Nat.mul_assoc]; omega
  have : c.H = (2 + (l : Int)) * (c.M / 2) := by rw [h1, e3, Int.add_mul]; omega
  rw [this, m2, e4, z]
  push_cast
  simp only [Int.mul_assoc, Int.mul_comm, Int.mul_left_comm]
/-- What Lowest tells lies within. -/
theorem lowR_in {H n : Int} {l : List Blk} (hn : 1 ≤ n) (hH : 0 ≤ H) (h : (lowR H l n).2 = true) : 0 ≤ (lowR H l n).1 ∧ (lowR H l n).1 + n ≤ H ∧ freeB l (lowR H l n).1 n = true ∧ ∃ j : Nat, lowJ H l n = some j ∧ (lowR H l n).1 = (j : Int) * n := by
  unfold lowR at h ⊢
  cases e : lowJ H l n with
  | none => rw [e] at h; cases h
  | some j =>
    obtain ⟨h1, h2, h3⟩ := (lowJ_some hn hH).1 e
    exact ⟨Int.mul_nonneg (by omega) (by omega), h1, h2, j, rfl, rfl⟩
def errA (e : Int) : AnsV := ⟨e, 0, 0, 0, 0, 0, 0, 0⟩
/-- A place for so much, over these blocks. -/
def placeM (m : Mod) (l : List Blk) (n asked : Int) : Mod × Int × Int :=
  if (lowR m.c.H l n).2 = true then
    match commitP m.on (metP m.c.Pg m.on.length l) (pagesP m.c.Pg (lowR m.c.H l n).1 n).1 (pagesP m.c.Pg (lowR m.c.H l n).1 n).2 m.c.P with
    | none => (m, 0, 6)
    | some (on', fr) => (⟨m.c, putB l ⟨(lowR m.c.H l n).1, n, asked⟩, chSum (putB l ⟨(lowR m.c.H l n).1, n, asked⟩), max m.peak (chSum (putB l ⟨(lowR m.c.H l n).1, n, asked⟩)), max m.mark ((lowR m.c.H l n).1 + n), on', fr.foldl (fun mem p => fillP mem m.c.Sd p m.c.Pg) m.mem⟩, (lowR m.c.H l n).1, 0)
  else (m, 0, 7)
def giveM (m : Mod) (o : OpV) : Mod × AnsV :=
  let r := if o.k = 2 then manyS m.c.G m.c.N m.c.M m.live o.n o.s else newS m.c.G m.c.N m.c.M m.live o.s (if o.k = 3 then o.a else 1)
  let s := if o.k = 2 then wrap64 (o.n * o.s) else o.s
  if r.2 = 0 then
    let q := placeM m m.bl r.1 s
    if q.2.2 = 0 then ((if o.k = 2 then { q.1 with mem := zeroP q.1.mem q.2.1 r.1 } else q.1), ⟨0, q.2.1, 0, 0, 0, 0, 0, 0⟩) else (m, errA q.2.2)
  else (m, errA r.2)
def ofM (m : Mod) (o : OpV) (A : Nat) (b : Blk) : Mod × AnsV :=
  let rest := m.bl.take A ++ m.bl.drop (A + 1)
  if o.k = 4 then
    let r := newS m.c.G m.c.N m.c.M (m.live - b.ch) o.s 1
    if r.2 = 0 then
      let q := placeM m rest r.1 o.s
      if q.2.2 = 0 then ({ q.1 with mem := q.1.mem.take q.2.1.toNat ++ (m.mem.drop b.at_.toNat).take (min r.1 b.ch).toNat ++ q.1.mem.drop (q.2.1 + min r.1 b.ch).toNat }, ⟨0, q.2.1, 0, 0, 0, 0, 0, 0⟩) else (m, errA q.2.2)
    else (m, errA r.2)
  else if o.k = 5 then ({ m with bl := rest, live := m.live - b.ch }, errA 0)
  else if o.k = 6 then (m, ⟨0, 0, b.ch, 0, 0, 0, 0, 0⟩)
  else if o.n < 0 ∨ o.n ≥ b.ch then (m, errA 9)
  else if o.k = 7 then (m, ⟨0, 0, 0, m.mem.getD (b.at_ + o.n).toNat 0, 0, 0, 0, 0⟩)
  else ({ m with mem := m.mem.set (b.at_ + o.n).toNat o.b }, errA 0)
def doM (m : Mod) (o : OpV) : Mod × AnsV :=
  if o.k = 1 ∨ o.k = 2 ∨ o.k = 3 then giveM m o
  else if o.k = 9 then ({ m with on := trimP m.on (metP m.c.Pg m.on.length m.bl) }, ⟨0, 0, goneP m.on (metP m.c.Pg m.on.length m.bl) m.on.length, 0, 0, 0, 0, 0⟩)
  else if o.k = 10 then (m, ⟨0, 0, 0, 0, m.live, m.peak, m.mark, cnt m.on⟩)
  else if o.k = 4 ∨ o.k = 5 ∨ o.k = 6 ∨ o.k = 7 ∨ o.k = 8 then
    match findB m.bl o.p with
    | some A => ofM m o A (m.bl.getD A ⟨0, 0, 0⟩)
    | none => (m, errA 8)
  else (m, errA 2)
/-- A block that lies in the memory. -/
def BlkIn (H : Int) (l : List Blk) : Prop := ∀ b ∈ l, 0 ≤ b.at_ ∧ 1 ≤ b.ch ∧ b.at_ + b.ch ≤ H
structure Mod.Ok (m : Mod) : Prop where
  c : m.c.Ok
  bl : BlkIn m.c.H m.bl
  live : m.live = chSum m.bl
  lim : m.live ≤ m.c.M
  peak : 0 ≤ m.peak ∧ m.peak ≤ 65536
  mark : 0 ≤ m.mark ∧ m.mark ≤ 65536
  on : (m.on.length : Int) * m.c.Pg = m.c.H
  mem : (m.mem.length : Int) = m.c.H
theorem chSum_app (a b : List Blk) : chSum (a ++ b) = chSum a + chSum b := by simp [chSum]
theorem chSum_put (b : Blk) : ∀ l : List Blk, chSum (putB l b) = b.ch + chSum l
  | [] => rfl
  | x :: l => by
    unfold putB
    split
    · rfl
    · rw [chSum_cons, chSum_cons, chSum_put b l]; omega
theorem chSum_len {H : Int} : ∀ {l : List Blk}, BlkIn H l → (l.length : Int) ≤ chSum l
  | [], _ => by decide
  | b :: l, h => by
    have := chSum_len (l := l) fun x hx => h x (by simp [hx])
    have := h b (by simp)
    rw [chSum_cons, List.length_cons]; omega
theorem fillP_len (mem : List Int) (a b c : Int) : (fillP mem a b c).length = mem.length := by unfold fillP; rw [tab_len]
theorem fills_len (a c : Int) : ∀ (fr : List Int) (mem : List Int), (fr.foldl (fun mem p => fillP mem a p c) mem).length = mem.length
  | [], _ => rfl
  | p :: fr, mem => by rw [List.foldl_cons, fills_len a c fr, fillP_len]
theorem zeroP_len (mem : List Int) (a b : Int) : (zeroP mem a b).length = mem.length := by unfold zeroP; rw [tab_len]
theorem commitP_some {on met : List Bool} {f b mx : Int} {on' : List Bool} {fr : List Int} (h : commitP on met f b mx = some (on', fr)) : on'.length = on.length ∧ fr = freshP on f b on.length := by
  unfold commitP at h
  split at h
  · cases h
  · cases h
    refine ⟨?_, rfl⟩
    split
    · rw [tab_len]
    · unfold allP; rw [tab_len]
theorem putB_in {H : Int} {l : List Blk} {b : Blk} (h : BlkIn H l) (hb : 0 ≤ b.at_ ∧ 1 ≤ b.ch ∧ b.at_ + b.ch ≤ H) : BlkIn H (putB l b) := by
  intro x hx
  rcases (putB_mem b l x).1 hx with rfl | hx
  · exact hb
  · exact h x hx
end Go.Proofs.D.S
/- The model stays in order. -/
set_option linter.unusedVariables false
namespace Go.Proofs.D.S
open Go Go.RowKit
/-- The model with a block placed. -/
def setM (m : Mod) (l : List Blk) (a n asked : Int) (on' : List Bool) (fr : List Int) : Mod :=
  ⟨m.c, putB l ⟨a, n, asked⟩, chSum (putB l ⟨a, n, asked⟩), max m.peak (chSum (putB l ⟨a, n, asked⟩)), max m.mark (a + n), on', fr.foldl (fun mem p => fillP mem m.c.Sd p m.c.Pg) m.mem⟩
theorem placeM_cases (m : Mod) (l : List Blk) {n asked : Int} (hn : 1 ≤ n) (hH : 0 ≤ m.c.H) :
    (lowR m.c.H l n).2 = false ∧ placeM m l n asked = (m, 0, 7) ∨ placeM m l n asked = (m, 0, 6) ∨
      ∃ (j : Nat) (on' : List Bool) (fr : List Int), lowJ m.c.H l n = some j ∧ 0 ≤ (j : Int) * n ∧ (j : Int) * n + n ≤ m.c.H ∧ freeB l ((j : Int) * n) n = true ∧ on'.length = m.on.length ∧
        commitP m.on (metP m.c.Pg m.on.length l) (pagesP m.c.Pg ((j : Int) * n) n).1 (pagesP m.c.Pg ((j : Int) * n) n).2 m.c.P = some (on', fr) ∧
        placeM m l n asked = (setM m l ((j : Int) * n) n asked on' fr, (j : Int) * n, 0) := by
  unfold placeM
  by_cases h : (lowR m.c.H l n).2 = true
  · rw [if_pos h]
    obtain ⟨a0, a1, a2, j, hj, ea⟩ := lowR_in hn hH h
    rw [ea] at a0 a1 a2 ⊢
    cases hc : commitP m.on (metP m.c.Pg m.on.length l) (pagesP m.c.Pg ((j : Int) * n) n).1 (pagesP m.c.Pg ((j : Int) * n) n).2 m.c.P with
    | none => exact .inr (.inl rfl)
    | some p =>
      obtain ⟨on', fr⟩ := p
      exact .inr (.inr ⟨j, on', fr, hj, a0, a1, a2, (commitP_some hc).1, hc, rfl⟩)
  · rw [if_neg h]; exact .inl ⟨by simpa using h, rfl⟩
theorem placeM_ok {m : Mod} (ok : m.Ok) {l : List Blk} {n asked : Int} (hn : 1 ≤ n) (hl : BlkIn m.c.H l) (hs : chSum l + n ≤ m.c.M) (h : (placeM m l n asked).2.2 = 0) :
    (placeM m l n asked).1.Ok ∧ (placeM m l n asked).1.c = m.c ∧ 0 ≤ (placeM m l n asked).2.1 ∧ (placeM m l n asked).2.1 + n ≤ m.c.H := by
  have f := ok.c.facts
  rcases placeM_cases m l (asked := asked) hn (by omega) with ⟨_, e⟩ | e | ⟨j, on', fr, _, h0, h1, _, ho, _, e⟩
  · rw [e] at h; simp at h
  · rw [e] at h; simp at h
  · rw [e]
    have hp := chSum_put ⟨(j : Int) * n, n, asked⟩ l
    have hll := chSum_len hl
    refine ⟨⟨ok.c, putB_in hl ⟨h0, hn, h1⟩, rfl, ?_, ?_, ?_, ?_, ?_⟩, rfl, h0, h1⟩
    · show chSum (putB l _) ≤ m.c.M; rw [hp]; dsimp only; omega
    · have := ok.peak
      show 0 ≤ max m.peak (chSum (putB l _)) ∧ max m.peak (chSum (putB l _)) ≤ 65536
      rw [hp]; dsimp only; omega
    · have := ok.mark
      show 0 ≤ max m.mark ((j : Int) * n + n) ∧ max m.mark ((j : Int) * n + n) ≤ 65536
      omega
    · show (on'.length : Int) * m.c.Pg = m.c.H
      rw [ho]; exact ok.on
    · show ((fr.foldl (fun mem p => fillP mem m.c.Sd p m.c.Pg) m.mem).length : Int) = m.c.H
      rw [fills_len]; exact ok.mem
/-- All but one. -/
theorem chSum_rest {l : List Blk} {A : Nat} (h : A < l.length) : chSum (l.take A ++ l.drop (A + 1)) + l[A].ch = chSum l := by
  have e : l = l.take A ++ l[A] :: l.drop (A + 1) := by rw [← List.drop_eq_getElem_cons h, List.take_append_drop]
  have : chSum l = chSum (l.take A ++ l[A] :: l.drop (A + 1)) := congrArg chSum e
  rw [this, chSum_app, chSum_app, chSum_cons]; omega
theorem BlkIn.rest {H : Int} {l : List Blk} (h : BlkIn H l) (A : Nat) : BlkIn H (l.take A ++ l.drop (A + 1)) := by
  intro b hb
  rcases List.mem_append.1 hb with hb | hb
  · exact h b (List.mem_of_mem_take hb)
  · exact h b (List.mem_of_mem_drop hb)
theorem findB_lt : ∀ {l : List Blk} {a : Int} {i : Nat}, findB l a = some i → ∃ h : i < l.length, l[i].at_ = a
  | [], a, i, h => by cases h
  | x :: l, a, i, h => by
    unfold findB at h
    by_cases e : x.at_ = a
    · rw [if_pos e] at h; cases h; exact ⟨by simp, e⟩
    · rw [if_neg e] at h
      obtain ⟨j, hj, rfl⟩ := Option.map_eq_some_iff.1 h
      obtain ⟨h1, h2⟩ := findB_lt hj
      exact ⟨by simpa using h1, by simpa using h2⟩
theorem giveM_ok {m : Mod} (ok : m.Ok) (o : OpV) : (giveM m o).1.Ok ∧ (giveM m o).1.c = m.c := by
  obtain ⟨g, l, ex⟩ := ok.c.exs
  unfold giveM
  dsimp only
  have hr : ∀ r : Int × Int, (r.2 ≠ 0 ∧ r.1 = 0) ∨ (r.2 = 0 ∧ m.live + r.1 ≤ m.c.M ∧ ∃ k : Nat, k ≤ l ∧ r.1 = ((2 ^ (g + k) : Nat) : Int)) →
      ∀ s : Int, (if r.2 = 0 then (if (placeM m m.bl r.1 s).2.2 = 0 then ((if o.k = 2 then { (placeM m m.bl r.1 s).1 with mem := zeroP (placeM m m.bl r.1 s).1.mem (placeM m m.bl r.1 s).2.1 r.1 } else (placeM m m.bl r.1 s).1), (⟨0, (placeM m m.bl r.1 s).2.1, 0, 0, 0, 0, 0, 0⟩ : AnsV)) else (m, errA (placeM m m.bl r.1 s).2.2)) else (m, errA r.2)).1.Ok ∧
        (if r.2 = 0 then (if (placeM m m.bl r.1 s).2.2 = 0 then ((if o.k = 2 then { (placeM m m.bl r.1 s).1 with mem := zeroP (placeM m m.bl r.1 s).1.mem (placeM m m.bl r.1 s).2.1 r.1 } else (placeM m m.bl r.1 s).1), (⟨0, (placeM m m.bl r.1 s).2.1, 0, 0, 0, 0, 0, 0⟩ : AnsV)) else (m, errA (placeM m m.bl r.1 s).2.2)) else (m, errA r.2)).1.c = m.c := by
    intro r hr s
    rcases hr with ⟨h, _⟩ | ⟨h, hM, k, hk, he⟩
    · rw [if_neg h]; exact ⟨ok, rfl⟩
    · rw [if_pos h]
      have z := Nat.two_pow_pos (g + k)
      by_cases hq : (placeM m m.bl r.1 s).2.2 = 0
      · rw [if_pos hq]
        obtain ⟨k1, k2, k3, k4⟩ := placeM_ok ok (by omega) ok.bl (by rw [← ok.live]; exact hM) hq
        by_cases h2 : o.k = 2
        · simp only [if_pos h2]
          exact ⟨⟨k1.c, k1.bl, k1.live, k1.lim, k1.peak, k1.mark, k1.on, by dsimp only; rw [zeroP_len]; exact k1.mem⟩, k2⟩
        · simp only [if_neg h2]; exact ⟨k1, k2⟩
      · rw [if_neg hq]; exact ⟨ok, rfl⟩
  refine hr _ ?_ _
  by_cases h2 : o.k = 2
  · rw [if_pos h2]; exact charge_many ex _ _ _
  · rw [if_neg h2]; exact charge_new ex _ _ _
theorem ofM_ok {m : Mod} (ok : m.Ok) (o : OpV) {A : Nat} (hA : A < m.bl.length) : (ofM m o A m.bl[A]).1.Ok ∧ (ofM m o A m.bl[A]).1.c = m.c := by
  obtain ⟨g, l, ex⟩ := ok.c.exs
  have hb := ok.bl _ (List.getElem_mem hA)
  have hrest := chSum_rest hA
  have hin := ok.bl.rest A
  have hlen := chSum_len hin
  have f := ok.c.facts
  have hmem := ok.mem
  have hlive := ok.live
  have hlim := ok.lim
  unfold ofM
  dsimp only
  by_cases h4 : o.k = 4
  · rw [if_pos h4]
    rcases charge_new ex (m.live - m.bl[A].ch) o.s 1 with ⟨h, _⟩ | ⟨h, hM, k, hk, he⟩
    · rw [if_neg h]; exact ⟨ok, rfl⟩
    · rw [if_pos h]
      have z := Nat.two_pow_pos (g + k)
      by_cases hq : (placeM m (m.bl.take A ++ m.bl.drop (A + 1)) (newS m.c.G m.c.N m.c.M (m.live - m.bl[A].ch) o.s 1).1 o.s).2.2 = 0
      · rw [if_pos hq]
        obtain ⟨k1, k2, k3, k4⟩ := placeM_ok ok (by omega) hin (by omega) hq
        have km : ((placeM m (m.bl.take A ++ m.bl.drop (A + 1)) (newS m.c.G m.c.N m.c.M (m.live - m.bl[A].ch) o.s 1).1 o.s).1.mem.length : Int) = m.c.H := k1.mem.trans (congrArg Cf.H k2)
        refine ⟨⟨k1.c, k1.bl, k1.live, k1.lim, k1.peak, k1.mark, k1.on, ?_⟩, k2⟩
        dsimp only
        rw [k2]
        generalize placeM m (m.bl.take A ++ m.bl.drop (A + 1)) (newS m.c.G m.c.N m.c.M (m.live - m.bl[A].ch) o.s 1).1 o.s = q at *
        generalize (newS m.c.G m.c.N m.c.M (m.live - m.bl[A].ch) o.s 1).1 = r at *
        simp only [List.length_append, List.length_take, List.length_drop]
        omega
      · rw [if_neg hq]; exact ⟨ok, rfl⟩
  · rw [if_neg h4]
    by_cases h5 : o.k = 5
    · rw [if_pos h5]
      exact ⟨⟨ok.c, hin, by dsimp only; omega, by dsimp only; omega, ok.peak, ok.mark, ok.on, ok.mem⟩, rfl⟩
    · rw [if_neg h5]
      split
      · exact ⟨ok, rfl⟩
      · split
        · exact ⟨ok, rfl⟩
        · split
          · exact ⟨ok, rfl⟩
          · exact ⟨⟨ok.c, ok.bl, ok.live, ok.lim, ok.peak, ok.mark, ok.on, by dsimp only; rw [List.length_set]; exact ok.mem⟩, rfl⟩
theorem doM_ok {m : Mod} (ok : m.Ok) (o : OpV) : (doM m o).1.Ok ∧ (doM m o).1.c = m.c := by
  unfold doM
  split
  · exact giveM_ok ok o
  · split
    · exact ⟨⟨ok.c, ok.bl, ok.live, ok.lim, ok.peak, ok.mark, by dsimp only; unfold trimP; rw [tab_len]; exact ok.on, ok.mem⟩, rfl⟩
    · split
      · exact ⟨ok, rfl⟩
      · split
        · cases h : findB m.bl o.p with
          | none => exact ⟨ok, rfl⟩
          | some A =>
            obtain ⟨hA, _⟩ := findB_lt h
            dsimp only
            rw [getD_lt _ hA]
            exact ofM_ok ok o hA
        · exact ⟨ok, rfl⟩
/-- The model that begins. -/
def newM (c : Cf) : Mod := ⟨c, [], 0, 0, 0, tab (c.H / c.Pg).toNat fun _ => false, tab c.H.toNat fun _ => 0⟩
theorem newM_ok {c : Cf} (ok : c.Ok) : (newM c).Ok := by
  have f := ok.facts
  obtain ⟨np, hnp⟩ := ok.pages
  have e : c.H / c.Pg = np := by rw [hnp, Int.mul_ediv_cancel _ (by omega)]
  refine ⟨ok, (fun b hb => (by cases hb)), rfl, (by show (0 : Int) ≤ c.M; omega), (by show (0 : Int) ≤ 0 ∧ (0 : Int) ≤ 65536; omega), (by show (0 : Int) ≤ 0 ∧ (0 : Int) ≤ 65536; omega), ?_, ?_⟩
  · show ((tab (c.H / c.Pg).toNat fun _ => false).length : Int) * c.Pg = c.H
    rw [tab_len, e, Int.toNat_natCast, hnp]
  · show ((tab c.H.toNat fun _ => (0 : Int)).length : Int) = c.H
    rw [tab_len]; omega
end Go.Proofs.D.S
/- Blocks that lie apart. -/
set_option linter.unusedVariables false
namespace Go.Proofs.D.S
open Go Go.RowKit
/-- Blocks that lie apart, rising. -/
def Srt (l : List Blk) : Prop := l.Pairwise fun a b => a.at_ + a.ch ≤ b.at_
theorem putB_perm (b : Blk) : ∀ l : List Blk, (putB l b).Perm (b :: l)
  | [] => .refl _
  | x :: l => by
    unfold putB
    split
    · exact .refl _
    · exact ((putB_perm b l).cons x).trans (.swap _ _ _)
theorem over_false {a n b m : Int} (h : over a n b m = false) : b + m ≤ a ∨ a + n ≤ b := by
  unfold over at h
  by_cases h1 : a < b + m
  · right
    rw [decide_eq_true h1, Bool.true_and] at h
    have := of_decide_eq_false h
    omega
  · left; omega
theorem freeB_apart {l : List Blk} {a n : Int} (h : freeB l a n = true) : ∀ b ∈ l, b.at_ + b.ch ≤ a ∨ a + n ≤ b.at_ := by
  intro b hb
  have := List.all_eq_true.1 h b hb
  simp only [Bool.not_eq_true'] at this
  exact over_false this
theorem srt_put {a n asked : Int} (hn : 1 ≤ n) : ∀ {l : List Blk}, Srt l → (∀ b ∈ l, 1 ≤ b.ch) → freeB l a n = true → Srt (putB l ⟨a, n, asked⟩)
  | [], _, _, _ => by unfold putB Srt; simp
  | x :: l, s, hc, f => by
    obtain ⟨s1, s2⟩ := List.pairwise_cons.1 s
    have hx := freeB_apart f x (by simp)
    have cx := hc x (by simp)
    unfold putB
    by_cases h : x.at_ > a
    · rw [if_pos h]
      refine List.pairwise_cons.2 ⟨fun b hb => ?_, s⟩
      dsimp only
      rcases List.mem_cons.1 hb with rfl | hb
      · omega
      · have := s1 b hb; omega
    · rw [if_neg h]
      have f2 : freeB l a n = true := by
        unfold freeB at f ⊢
        rw [List.all_cons, Bool.and_eq_true] at f
        exact f.2
      have h2 : x.at_ + x.ch ≤ a := by omega
      refine List.pairwise_cons.2 ⟨fun b hb => ?_, srt_put hn s2 (fun b hb => hc b (by simp [hb])) f2⟩
      rcases (putB_mem _ _ _).1 hb with rfl | hb
      · exact h2
      · exact s1 b hb
theorem Srt.put {a n asked : Int} {l : List Blk} (s : Srt l) (hn : 1 ≤ n) (h : ∀ b ∈ l, 1 ≤ b.ch) (f : freeB l a n = true) : Srt (putB l ⟨a, n, asked⟩) := srt_put hn s h f
theorem Srt.rest {l : List Blk} (s : Srt l) (A : Nat) : Srt (l.take A ++ l.drop (A + 1)) := by
  have e : (l.take A ++ l.drop (A + 1)).Sublist l := by
    have h2 : (l.drop (A + 1)).Sublist (l.drop A) := by
      rw [← List.drop_drop]; exact List.drop_sublist _ _
    have h := (List.Sublist.refl (l.take A)).append h2
    rwa [List.take_append_drop] at h
  exact s.sublist e
theorem rest_perm {l : List Blk} {A : Nat} (h : A < l.length) : l.Perm (l[A] :: (l.take A ++ l.drop (A + 1))) := by
  have e : l = l.take A ++ l[A] :: l.drop (A + 1) := by rw [← List.drop_eq_getElem_cons h, List.take_append_drop]
  have p : (l.take A ++ l[A] :: l.drop (A + 1)).Perm (l[A] :: (l.take A ++ l.drop (A + 1))) := List.perm_middle
  rw [← e] at p
  exact p
theorem sum_perm {a b : List Int} (p : a.Perm b) : a.sum = b.sum := by
  induction p with
  | nil => rfl
  | cons x _ ih => rw [List.sum_cons, List.sum_cons, ih]
  | swap x y l => simp only [List.sum_cons]; omega
  | trans _ _ h1 h2 => exact h1.trans h2
theorem chSum_perm {a b : List Blk} (p : a.Perm b) : chSum a = chSum b := by
  unfold chSum; exact sum_perm (p.map Blk.ch)
/-- One block begins there, at most. -/
theorem findB_mem : ∀ {l : List Blk} {b : Blk}, Srt l → (∀ b ∈ l, 1 ≤ b.ch) → b ∈ l → ∃ A, ∃ h : A < l.length, findB l b.at_ = some A ∧ l[A] = b
  | [], b, _, _, h => by cases h
  | x :: l, b, s, hc, h => by
    obtain ⟨s1, s2⟩ := List.pairwise_cons.1 s
    rcases List.mem_cons.1 h with rfl | h
    · exact ⟨0, by simp, by unfold findB; rw [if_pos rfl], rfl⟩
    · obtain ⟨A, hA, e1, e2⟩ := findB_mem s2 (fun y hy => hc y (by simp [hy])) h
      have c1 := s1 b h
      have c2 := hc x (by simp)
      exact ⟨A + 1, by simpa using hA, by unfold findB; rw [if_neg (by omega), e1]; rfl, by simpa using e2⟩
end Go.Proofs.D.S
/- Blocks below their ceilings: what the model places lies there. -/
set_option linter.unusedVariables false
namespace Go.Proofs.D.S
open Go Go.RowKit
theorem Bin.in {c : Cf} {g l u : Nat} (tp : c.Tp g l u) {b : Blk} (h : Bin g l u b) : inC c g l b = true := by
  obtain ⟨k, a, hk, hch, hat, ha⟩ := h
  unfold inC
  rw [hch, shiftS_pow hk]
  have e := tp.ceil hk
  have h1 : (a + 1) * 2 ^ (g + k) ≤ tP l u k * (2 + k) * 2 ^ (g + k) := Nat.mul_le_mul_right _ ha
  rw [Nat.succ_mul] at h1
  have h2 : ¬ b.at_ > c.ceil (k : Int) - ((2 ^ (g + k) : Nat) : Int) := by rw [e, hat]; omega
  rw [decide_eq_false h2]; rfl
theorem Bin.ok {c : Cf} {g l u : Nat} (tp : c.Tp g l u) {b : Blk} (h : Bin g l u b) : 0 ≤ b.at_ ∧ b.at_ ≤ 65536 ∧ 1 ≤ b.ch ∧ b.ch ≤ 65536 := by
  obtain ⟨k, a, hk, hch, hat, ha⟩ := h
  have z := Nat.two_pow_pos (g + k)
  have hs := tp.small hk
  have h1 : (a + 1) * 2 ^ (g + k) ≤ tP l u k * (2 + k) * 2 ^ (g + k) := Nat.mul_le_mul_right _ ha
  rw [Nat.succ_mul] at h1
  rw [hch, hat]; omega
theorem Bin.all {c : Cf} {g l u : Nat} (tp : c.Tp g l u) {bl : List Blk} (h : ∀ b ∈ bl, Bin g l u b) : bl.all (inC c g l) = true ∧ BlkOk bl := by
  refine ⟨List.all_eq_true.2 fun b hb => (h b hb).in tp, fun b hb => ?_⟩
  have := (h b hb).ok tp
  omega
theorem chargeS_ne7 (G N s a : Int) : (chargeS G N s a).2 ≠ 7 := by
  unfold chargeS
  by_cases h1 : (logS a).2 = false ∨ a > N
  · rw [if_pos h1]; show (3 : Int) ≠ 7; decide
  · rw [if_neg h1]
    by_cases h2 : s < 0 ∨ s > N
    · rw [if_pos h2]; show (4 : Int) ≠ 7; decide
    · rw [if_neg h2]; show (0 : Int) ≠ 7; decide
theorem newS_ne7 (G N M live s a : Int) : (newS G N M live s a).2 ≠ 7 := by
  unfold newS
  by_cases h : (chargeS G N s a).2 = 0
  · rw [if_pos h]
    by_cases h2 : live + (chargeS G N s a).1 > M
    · rw [if_pos h2]; show (5 : Int) ≠ 7; decide
    · rw [if_neg h2]; show (0 : Int) ≠ 7; decide
  · rw [if_neg h]; exact chargeS_ne7 _ _ _ _
theorem manyS_ne7 (G N M live n s : Int) : (manyS G N M live n s).2 ≠ 7 := by
  unfold manyS
  by_cases h : (productS N n s).2 = 0
  · rw [if_pos h]; exact newS_ne7 _ _ _ _ _ _
  · rw [if_neg h]
    unfold productS
    by_cases h1 : n < 0 ∨ s < 0
    · rw [if_pos h1]; show (2 : Int) ≠ 7; decide
    · rw [if_neg h1]
      by_cases h2 : n * s > N
      · rw [if_pos h2]; show (4 : Int) ≠ 7; decide
      · rw [if_neg h2]; show (0 : Int) ≠ 7; decide
/-- What was put in is found. -/
theorem findB_put {n a asked : Int} (hn : 1 ≤ n) : ∀ (l : List Blk), (∀ b ∈ l, 1 ≤ b.ch) → freeB l a n = true → ∃ (i : Nat) (b : Blk), findB (putB l ⟨a, n, asked⟩) a = some i ∧ (putB l ⟨a, n, asked⟩)[i]? = some b ∧ b.ch = n
  | [], _, _ => ⟨0, ⟨a, n, asked⟩, by simp [putB, findB], rfl, rfl⟩
  | x :: l, h, f => by
    unfold freeB at f
    rw [List.all_cons, Bool.and_eq_true] at f
    have hx := h x (by simp)
    have ne : x.at_ ≠ a := by
      intro e
      have := f.1
      unfold over at this
      rw [e, decide_eq_true (show a < a + x.ch by omega), decide_eq_true (show a < a + n by omega)] at this
      exact absurd this (by decide)
    by_cases hg : x.at_ > a
    · have e : putB (x :: l) ⟨a, n, asked⟩ = ⟨a, n, asked⟩ :: x :: l := by simp only [putB, if_pos hg]
      rw [e]
      exact ⟨0, ⟨a, n, asked⟩, by simp [findB], rfl, rfl⟩
    · have e : putB (x :: l) ⟨a, n, asked⟩ = x :: putB l ⟨a, n, asked⟩ := by simp only [putB, if_neg hg]
      rw [e]
      obtain ⟨i, b, h1, h2, h3⟩ := findB_put (asked := asked) hn l (fun b hb => h b (by simp [hb])) f.2
      refine ⟨i + 1, b, ?_, by simpa using h2, h3⟩
      unfold findB
      rw [if_neg ne, h1]; rfl
variable {g l u : Nat}
theorem placeM_bin {m : Mod} (tp : m.c.Tp g l u) (ok : m.Ok) {bl : List Blk} (hin : BlkIn m.c.H bl) (hb : ∀ b ∈ bl, Bin g l u b) {k : Nat} (hk : k ≤ l) (hs : chSum bl + ((2 ^ (g + k) : Nat) : Int) ≤ m.c.M) (asked : Int) :
    (placeM m bl ((2 ^ (g + k) : Nat) : Int) asked).2.2 ≠ 7 ∧ ((placeM m bl ((2 ^ (g + k) : Nat) : Int) asked).2.2 = 0 →
      (∀ b ∈ (placeM m bl ((2 ^ (g + k) : Nat) : Int) asked).1.bl, Bin g l u b) ∧ ∃ (j i : Nat) (b : Blk), (placeM m bl ((2 ^ (g + k) : Nat) : Int) asked).2.1 = ((j * 2 ^ (g + k) : Nat) : Int) ∧ (((j + 1) * 2 ^ (g + k) : Nat) : Int) ≤ m.c.H ∧ ((leastN g k (tP l u k) j : Nat) : Int) ≤ chSum bl ∧
        findB (placeM m bl ((2 ^ (g + k) : Nat) : Int) asked).1.bl (placeM m bl ((2 ^ (g + k) : Nat) : Int) asked).2.1 = some i ∧ (placeM m bl ((2 ^ (g + k) : Nat) : Int) asked).1.bl[i]? = some b ∧ b.ch = ((2 ^ (g + k) : Nat) : Int)) := by
  have z := Nat.two_pow_pos (g + k)
  have f := ok.c.facts
  obtain ⟨j, hj1, hj2, hj3⟩ := room tp hk hb hs
  have hfree := (lowJ_some (by omega) (by omega)).1 hj1
  rcases placeM_cases m bl (n := ((2 ^ (g + k) : Nat) : Int)) (asked := asked) (by omega) (by omega) with ⟨e, _⟩ | e | ⟨j', on', fr, h1, h2, h3, h4, _, _, e⟩
  · unfold lowR at e; rw [hj1] at e; cases e
  · rw [e]; exact ⟨by dsimp only; decide, fun h => absurd h (by dsimp only; decide)⟩
  · rw [hj1] at h1
    cases h1
    rw [e]
    refine ⟨by dsimp only; decide, fun _ => ⟨?_, ?_⟩⟩
    · intro b hbm
      rcases (putB_mem _ _ _).1 hbm with rfl | hbm
      · exact Bin.new hk hj2 asked
      · exact hb b hbm
    · obtain ⟨i, b, q1, q2, q3⟩ := findB_put (asked := asked) (show 1 ≤ ((2 ^ (g + k) : Nat) : Int) by omega) bl (fun b hb => (hin b hb).2.1) h4
      refine ⟨j, i, b, by dsimp only; rw [Int.natCast_mul], ?_, hj3, q1, q2, q3⟩
      rw [← Int.natCast_mul] at h3
      rw [Nat.succ_mul, Int.natCast_add]
      exact h3
/-- What is to be shown of a step. -/
def GoodStep (g l u : Nat) (m : Mod) (o : OpV) (r : Mod × AnsV) : Prop :=
  r.2.err ≠ 7 ∧ (∀ b ∈ r.1.bl, Bin g l u b) ∧ ((o.k = 1 ∨ o.k = 2 ∨ o.k = 3) → r.2.err = 0 → ∃ (k j i : Nat) (b : Blk), k ≤ l ∧ r.2.at_ = ((j * 2 ^ (g + k) : Nat) : Int) ∧ (((j + 1) * 2 ^ (g + k) : Nat) : Int) ≤ m.c.H ∧ ((leastN g k (tP l u k) j : Nat) : Int) ≤ chSum m.bl ∧
    findB r.1.bl r.2.at_ = some i ∧ r.1.bl[i]? = some b ∧ b.ch = ((2 ^ (g + k) : Nat) : Int))
theorem giveM_good {m : Mod} (tp : m.c.Tp g l u) (ok : m.Ok) (hb : ∀ b ∈ m.bl, Bin g l u b) (o : OpV) (ho : o.k = 1 ∨ o.k = 2 ∨ o.k = 3) : GoodStep g l u m o (giveM m o) := by
  unfold giveM
  dsimp only
  have hr : ∀ r : Int × Int, r.2 ≠ 7 → ((r.2 ≠ 0 ∧ r.1 = 0) ∨ (r.2 = 0 ∧ m.live + r.1 ≤ m.c.M ∧ ∃ k : Nat, k ≤ l ∧ r.1 = ((2 ^ (g + k) : Nat) : Int))) →
      ∀ s : Int, GoodStep g l u m o (if r.2 = 0 then (if (placeM m m.bl r.1 s).2.2 = 0 then ((if o.k = 2 then { (placeM m m.bl r.1 s).1 with mem := zeroP (placeM m m.bl r.1 s).1.mem (placeM m m.bl r.1 s).2.1 r.1 } else (placeM m m.bl r.1 s).1), (⟨0, (placeM m m.bl r.1 s).2.1, 0, 0, 0, 0, 0, 0⟩ : AnsV)) else (m, errA (placeM m m.bl r.1 s).2.2)) else (m, errA r.2)) := by
    intro r h7 hr s
    rcases hr with ⟨h, _⟩ | ⟨h, hM, k, hk, he⟩
    · rw [if_neg h]; exact ⟨h7, hb, fun _ h0 => absurd h0 h⟩
    · rw [if_pos h, he]
      rw [ok.live, he] at hM
      obtain ⟨p7, pz⟩ := placeM_bin tp ok ok.bl hb hk hM s
      by_cases hq : (placeM m m.bl ((2 ^ (g + k) : Nat) : Int) s).2.2 = 0
      · rw [if_pos hq]
        obtain ⟨b1, j, i, b, q1, q2, q3, q4, q5, q6⟩ := pz hq
        have eb : (if o.k = 2 then { (placeM m m.bl ((2 ^ (g + k) : Nat) : Int) s).1 with mem := zeroP (placeM m m.bl ((2 ^ (g + k) : Nat) : Int) s).1.mem (placeM m m.bl ((2 ^ (g + k) : Nat) : Int) s).2.1 ((2 ^ (g + k) : Nat) : Int) } else (placeM m m.bl ((2 ^ (g + k) : Nat) : Int) s).1 : Mod).bl = (placeM m m.bl ((2 ^ (g + k) : Nat) : Int) s).1.bl := by split <;> rfl
        refine ⟨by show (0 : Int) ≠ 7; decide, ?_, fun _ _ => ⟨k, j, i, b, hk, q1, q2, q3, ?_, ?_, q6⟩⟩
        · dsimp only; rw [eb]; exact b1
        · dsimp only; rw [eb]; exact q4
        · dsimp only; rw [eb]; exact q5
      · rw [if_neg hq]; exact ⟨p7, hb, fun _ h0 => absurd h0 hq⟩
  refine hr _ ?_ ?_ _
  · by_cases h2 : o.k = 2
    · rw [if_pos h2]; exact manyS_ne7 _ _ _ _ _ _
    · rw [if_neg h2]; exact newS_ne7 _ _ _ _ _ _
  · by_cases h2 : o.k = 2
    · rw [if_pos h2]; exact charge_many tp.ex _ _ _
    · rw [if_neg h2]; exact charge_new tp.ex _ _ _
theorem ofM_good {m : Mod} (tp : m.c.Tp g l u) (ok : m.Ok) (hb : ∀ b ∈ m.bl, Bin g l u b) (o : OpV) (ho : ¬ (o.k = 1 ∨ o.k = 2 ∨ o.k = 3)) {A : Nat} (hA : A < m.bl.length) : GoodStep g l u m o (ofM m o A m.bl[A]) := by
  have hrest := chSum_rest hA
  have hbr : ∀ b ∈ m.bl.take A ++ m.bl.drop (A + 1), Bin g l u b := by
    intro b h
    rcases List.mem_append.1 h with h | h
    · exact hb b (List.mem_of_mem_take h)
    · exact hb b (List.mem_of_mem_drop h)
  have z0 : (0 : Int) ≠ 7 := by decide
  unfold ofM
  dsimp only
  by_cases h4 : o.k = 4
  · rw [if_pos h4]
    rcases charge_new tp.ex (m.live - m.bl[A].ch) o.s 1 with ⟨h, _⟩ | ⟨h, hM, k, hk, he⟩
    · rw [if_neg h]; exact ⟨newS_ne7 _ _ _ _ _ _, hb, fun h => absurd h ho⟩
    · rw [if_pos h, he]
      have hl := ok.live
      rw [he] at hM
      obtain ⟨p7, pz⟩ := placeM_bin tp ok (ok.bl.rest A) hbr hk (by omega) o.s
      by_cases hq : (placeM m (m.bl.take A ++ m.bl.drop (A + 1)) ((2 ^ (g + k) : Nat) : Int) o.s).2.2 = 0
      · rw [if_pos hq]; exact ⟨z0, (pz hq).1, fun h => absurd h ho⟩
      · rw [if_neg hq]; exact ⟨p7, hb, fun h => absurd h ho⟩
  · rw [if_neg h4]
    by_cases h5 : o.k = 5
    · rw [if_pos h5]; exact ⟨z0, hbr, fun h => absurd h ho⟩
    · rw [if_neg h5]
      split
      · exact ⟨z0, hb, fun h => absurd h ho⟩
      · split
        · exact ⟨by show (9 : Int) ≠ 7; decide, hb, fun h => absurd h ho⟩
        · split
          · exact ⟨z0, hb, fun h => absurd h ho⟩
          · exact ⟨z0, hb, fun h => absurd h ho⟩
theorem doM_good {m : Mod} (tp : m.c.Tp g l u) (ok : m.Ok) (hb : ∀ b ∈ m.bl, Bin g l u b) (o : OpV) : GoodStep g l u m o (doM m o) := by
  have z0 : (0 : Int) ≠ 7 := by decide
  unfold doM
  by_cases ho : o.k = 1 ∨ o.k = 2 ∨ o.k = 3
  · rw [if_pos ho]; exact giveM_good tp ok hb o ho
  · rw [if_neg ho]
    split
    · exact ⟨z0, hb, fun h => absurd h ho⟩
    · split
      · exact ⟨z0, hb, fun h => absurd h ho⟩
      · split
        · cases h : findB m.bl o.p with
          | none => exact ⟨by show (8 : Int) ≠ 7; decide, hb, fun h => absurd h ho⟩
          | some A =>
            obtain ⟨hA, _⟩ := findB_lt h
            dsimp only
            rw [getD_lt _ hA]
            exact ofM_good tp ok hb o ho hA
        · exact ⟨by show (2 : Int) ≠ 7; decide, hb, fun h => absurd h ho⟩
end Go.Proofs.D.S
/- Maps as rows of pairs. -/
set_option linter.unusedVariables false
namespace Go.Proofs.D.S
open Go
section
variable {κ β : Type}
/-- No key twice. -/
def NoDup (l : List (κ × β)) : Prop := l.Pairwise fun a b => a.1 ≠ b.1
theorem NoDup.perm {l l' : List (κ × β)} (d : NoDup l) (p : l.Perm l') : NoDup l' := (p.pairwise_iff (R := fun a b : κ × β => a.1 ≠ b.1) (fun {a b} h => Ne.symm h)).1 d
end
section
variable {κ β : Type} [DecidableEq κ]
def aGet : List (κ × β) → κ → Option β
  | [], _ => none
  | (a, b) :: l, k => if a = k then some b else aGet l k
def aPut : List (κ × β) → κ → β → List (κ × β)
  | [], k, x => [(k, x)]
  | (a, b) :: l, k, x => if a = k then (k, x) :: l else (a, b) :: aPut l k x
def aDel : List (κ × β) → κ → List (κ × β)
  | [], _ => []
  | (a, b) :: l, k => if a = k then l else (a, b) :: aDel l k
def encM (ek : κ → V1) (ev : β → V1) (l : List (κ × β)) : List (V1 × V1) := l.map fun x => (ek x.1, ev x.2)
variable {ek : κ → V1} {ev : β → V1}
theorem mapGet_enc (hk : ∀ a b, ek a = ek b → a = b) (k : κ) : ∀ l : List (κ × β), mapGet (encM ek ev l) (ek k) = (aGet l k).map ev
  | [] => rfl
  | (a, b) :: l => by
    show (if ek a = ek k then some (ev b) else mapGet (encM ek ev l) (ek k)) = (if a = k then some b else aGet l k).map ev
    by_cases h : a = k
    · rw [if_pos (by rw [h]), if_pos h]; rfl
    · rw [if_neg (fun e => h (hk _ _ e)), if_neg h, mapGet_enc hk k l]
theorem mapPut_enc (hk : ∀ a b, ek a = ek b → a = b) (k : κ) (x : β) : ∀ l : List (κ × β), mapPut (encM ek ev l) (ek k) (ev x) = encM ek ev (aPut l k x)
  | [] => rfl
  | (a, b) :: l => by
    show (if ek a = ek k then (ek k, ev x) :: encM ek ev l else (ek a, ev b) :: mapPut (encM ek ev l) (ek k) (ev x)) = encM ek ev (if a = k then (k, x) :: l else (a, b) :: aPut l k x)
    by_cases h : a = k
    · rw [if_pos (by rw [h]), if_pos h]; rfl
    · rw [if_neg (fun e => h (hk _ _ e)), if_neg h, mapPut_enc hk k x l]; rfl
theorem mapDel_enc (hk : ∀ a b, ek a = ek b → a = b) (k : κ) : ∀ l : List (κ × β), mapDel (encM ek ev l) (ek k) = encM ek ev (aDel l k)
  | [] => rfl
  | (a, b) :: l => by
    show (if ek a = ek k then encM ek ev l else (ek a, ev b) :: mapDel (encM ek ev l) (ek k)) = encM ek ev (if a = k then l else (a, b) :: aDel l k)
    by_cases h : a = k
    · rw [if_pos (by rw [h]), if_pos h]
    · rw [if_neg (fun e => h (hk _ _ e)), if_neg h, mapDel_enc hk k l]; rfl
theorem aGet_mem {k : κ} {x : β} : ∀ {l : List (κ × β)}, aGet l k = some x → (k, x) ∈ l
  | [], h => by cases h
  | (a, b) :: l, h => by
    unfold aGet at h
    by_cases e : a = k
    · rw [if_pos e] at h; cases h; subst e; simp
    · rw [if_neg e] at h; exact List.mem_cons_of_mem _ (aGet_mem h)
theorem aGet_of {k : κ} {x : β} : ∀ {l : List (κ × β)}, NoDup l → (k, x) ∈ l → aGet l k = some x
  | [], _, h => by cases h
  | (a, b) :: l, d, h => by
    obtain ⟨d1, d2⟩ := List.pairwise_cons.1 d
    unfold aGet
    rcases List.mem_cons.1 h with e | h
    · cases e; rw [if_pos rfl]
    · rw [if_neg (d1 _ h)]; exact aGet_of d2 h
theorem aGet_none {k : κ} : ∀ {l : List (κ × β)}, aGet l k = none ↔ ∀ x ∈ l, x.1 ≠ k
  | [] => by simp [aGet]
  | (a, b) :: l => by
    unfold aGet
    by_cases e : a = k
    · rw [if_pos e]; simp [e]
    · rw [if_neg e, aGet_none]; simp [e]
theorem aPut_new {k : κ} {x : β} : ∀ {l : List (κ × β)}, aGet l k = none → aPut l k x = l ++ [(k, x)]
  | [], _ => rfl
  | (a, b) :: l, h => by
    unfold aGet at h
    by_cases e : a = k
    · rw [if_pos e] at h; cases h
    · rw [if_neg e] at h
      unfold aPut
      rw [if_neg e, aPut_new h]; rfl
theorem aDel_perm {k : κ} {x : β} : ∀ {l : List (κ × β)}, aGet l k = some x → l.Perm ((k, x) :: aDel l k)
  | [], h => by cases h
  | (a, b) :: l, h => by
    unfold aGet at h
    unfold aDel
    by_cases e : a = k
    · rw [if_pos e] at h; cases h; subst e; rw [if_pos rfl]
    · rw [if_neg e] at h
      rw [if_neg e]
      exact ((aDel_perm h).cons (a, b)).trans (.swap _ _ _)
theorem aDel_none {k : κ} : ∀ {l : List (κ × β)}, aGet l k = none → aDel l k = l
  | [], _ => rfl
  | (a, b) :: l, h => by
    unfold aGet at h
    by_cases e : a = k
    · rw [if_pos e] at h; cases h
    · rw [if_neg e] at h
      unfold aDel
      rw [if_neg e, aDel_none h]
theorem NoDup.del {l : List (κ × β)} (d : NoDup l) (k : κ) : NoDup (aDel l k) := by
  cases h : aGet l k with
  | none => rw [aDel_none h]; exact d
  | some x => exact (List.pairwise_cons.1 (d.perm (aDel_perm h))).2
theorem aDel_ne {l : List (κ × β)} (d : NoDup l) {k : κ} {y : κ × β} (h : y ∈ aDel l k) : y.1 ≠ k ∧ y ∈ l := by
  cases e : aGet l k with
  | none => rw [aDel_none e] at h; exact ⟨aGet_none.1 e y h, h⟩
  | some x =>
    have p := aDel_perm e
    obtain ⟨d1, _⟩ := List.pairwise_cons.1 (d.perm p)
    exact ⟨fun e2 => d1 _ h e2.symm, p.mem_iff.2 (List.mem_cons_of_mem _ h)⟩
theorem aGet_del {l : List (κ × β)} (d : NoDup l) (k k' : κ) : aGet (aDel l k) k' = if k' = k then none else aGet l k' := by
  by_cases h : k' = k
  · rw [if_pos h, h]; exact aGet_none.2 fun y hy => (aDel_ne d hy).1
  · rw [if_neg h]
    cases e : aGet l k' with
    | none => exact aGet_none.2 fun y hy => aGet_none.1 e y (aDel_ne d hy).2
    | some x =>
      refine aGet_of (d.del k) ?_
      have hm := aGet_mem e
      cases e2 : aGet l k with
      | none => rw [aDel_none e2]; exact hm
      | some z =>
        rcases List.mem_cons.1 ((aDel_perm e2).mem_iff.1 hm) with e3 | e3
        · cases e3; exact absurd rfl h
        · exact e3
theorem aGet_put (k : κ) (x : β) (k' : κ) : ∀ l : List (κ × β), aGet (aPut l k x) k' = if k' = k then some x else aGet l k'
  | [] => by
    unfold aPut aGet
    by_cases h : k = k'
    · rw [if_pos h, if_pos h.symm]
    · rw [if_neg h, if_neg (fun e => h e.symm)]; rfl
  | (a, b) :: l => by
    unfold aPut
    by_cases h : a = k
    · rw [if_pos h]
      unfold aGet
      by_cases h2 : k = k'
      · rw [if_pos h2, if_pos h2.symm]
      · rw [if_neg h2, if_neg (fun e => h2 e.symm), if_neg (fun e => h2 (h.symm.trans e))]
    · rw [if_neg h]
      unfold aGet
      by_cases h2 : a = k'
      · rw [if_pos h2, if_neg (fun e => h (h2.trans e)), if_pos h2]
      · rw [if_neg h2, aGet_put k x k' l, if_neg h2]
theorem noDup_put {k : κ} {x : β} : ∀ {l : List (κ × β)}, NoDup l → NoDup (aPut l k x)
  | [], _ => by unfold aPut; exact List.pairwise_cons.2 ⟨by simp, List.Pairwise.nil⟩
  | (a, b) :: l, d => by
    obtain ⟨d1, d2⟩ := List.pairwise_cons.1 d
    unfold aPut
    by_cases h : a = k
    · rw [if_pos h]; exact List.pairwise_cons.2 ⟨fun y hy => by have := d1 y hy; rw [h] at this; exact this, d2⟩
    · rw [if_neg h]
      refine List.pairwise_cons.2 ⟨fun y hy => ?_, noDup_put d2⟩
      intro e
      have hd : aGet (aPut l k x) y.1 = some y.2 := aGet_of (noDup_put d2) (show (y.1, y.2) ∈ aPut l k x from hy)
      rw [aGet_put] at hd
      by_cases h2 : y.1 = k
      · exact h (e.trans h2)
      · rw [if_neg h2] at hd
        exact d1 _ (aGet_mem hd) e
theorem NoDup.put {k : κ} {x : β} {l : List (κ × β)} (d : NoDup l) : NoDup (aPut l k x) := noDup_put d
end
end Go.Proofs.D.S
/- How a heap tells its blocks. -/
set_option linter.unusedVariables false
set_option linter.unusedSimpArgs false
namespace Go.Proofs.D.S
open Go Go.RowKit
/-- A charge's class. -/
def clsOf (e : Nat) (ch : Int) : Int := ((Nat.log2 ch.toNat - e : Nat) : Int)
def mkB (e : Nat) (b : Blk) : Int × Int := (b.at_, clsOf e b.ch)
theorem clsOf_pow {e k : Nat} : clsOf e ((2 ^ (e + k) : Nat) : Int) = (k : Int) := by
  unfold clsOf
  rw [Int.toNat_natCast, Nat.log2_two_pow, Nat.add_sub_cancel_left]
/-- Does a block hold this granule? -/
def covB (e q : Nat) (b : Blk) : Bool := decide (b.at_ ≤ ((q * 2 ^ e : Nat) : Int)) && decide (((q * 2 ^ e : Nat) : Int) < b.at_ + b.ch)
def vB (b : Blk) : V1 := bv b.at_ b.ch b.asked
def alB (bl : List Blk) : List (Int × Blk) := bl.map fun b => (b.at_, b)
def cntM (pg : Int) (bl : List Blk) (i : Nat) : Int := ((bl.countP fun b => over ((i : Int) * pg) pg b.at_ b.ch : Nat) : Int)
structure HBl (s : HS) (e l u : Nat) (bl : List Blk) : Prop where
  ms : s.ms = bl.map (mkB e)
  es : ∃ al, s.es = encM kv vB al ∧ al.Perm (alB bl)
  met : s.met = tab s.met.length (cntM s.c.Pg bl)
  g : ∀ q, s.g q = (decide (s.sz 0 ≤ q) || bl.any (covB e q))
  srt : Srt bl
  bin : ∀ b ∈ bl, Bin e l u b
structure HCf (s : HS) (e l u : Nat) : Prop where
  tp : s.c.Tp e l u
  C : s.C = l + 1
  so : SzOk s.C s.sz
  sz : 2 ^ e * s.sz 0 = s.mem.length
  mem : (s.mem.length : Int) = s.c.H
  on : (s.on.length : Int) * s.c.Pg = s.c.H
  met : s.met.length = s.on.length
  mm : s.mmi ≠ 0
theorem kv_inj : ∀ a b : Int, kv a = kv b → a = b := fun a b h => by cases h; rfl
section
variable {s : HS} {e l u : Nat} {bl : List Blk}
theorem Bin.form {b : Blk} (h : Bin e l u b) : ∃ k q : Nat, k ≤ l ∧ b.ch = ((2 ^ (e + k) : Nat) : Int) ∧ b.at_ = ((q * 2 ^ k * 2 ^ e : Nat) : Int) := by
  obtain ⟨k, a, h1, h2, h3, _⟩ := h
  exact ⟨k, a, h1, h2, by rw [h3, Nat.mul_assoc, ← Nat.pow_add, Nat.add_comm k e]⟩
theorem HBl.ch1 (h : HBl s e l u bl) : ∀ b ∈ bl, 1 ≤ b.ch := fun b hb => by
  obtain ⟨k, q, _, e1, _⟩ := (h.bin b hb).form
  have := Nat.two_pow_pos (e + k)
  rw [e1]; omega
theorem alB_nodup (srt : Srt bl) (h1 : ∀ b ∈ bl, 1 ≤ b.ch) : NoDup (alB bl) := by
  unfold NoDup alB
  rw [List.pairwise_map]
  refine List.Pairwise.imp_of_mem ?_ srt
  intro a b ha hb h
  have := h1 a ha
  dsimp only; omega
theorem alB_get (srt : Srt bl) (h1 : ∀ b ∈ bl, 1 ≤ b.ch) {al : List (Int × Blk)} (p : al.Perm (alB bl)) (a : Int) : aGet al a = (findB bl a).bind fun i => bl[i]? := by
  have nd : NoDup al := (alB_nodup srt h1).perm p.symm
  cases hf : findB bl a with
  | none =>
    refine aGet_none.2 fun x hx hxa => ?_
    obtain ⟨b, hb, rfl⟩ := List.mem_map.1 (p.mem_iff.1 hx)
    obtain ⟨A, hA, e1, _⟩ := findB_mem srt h1 hb
    dsimp only at hxa
    rw [hxa, hf] at e1; cases e1
  | some i =>
    obtain ⟨hi, ha⟩ := findB_lt hf
    rw [Option.bind_some, List.getElem?_eq_getElem hi]
    exact aGet_of nd (p.mem_iff.2 (List.mem_map.2 ⟨bl[i], List.getElem_mem hi, by rw [ha]⟩))
theorem HBl.get (h : HBl s e l u bl) (a : Int) : mapGet s.es (kv a) = ((findB bl a).bind fun i => bl[i]?).map vB := by
  obtain ⟨al, e1, p⟩ := h.es
  rw [e1, mapGet_enc kv_inj, alB_get h.srt h.ch1 p]
/-- Pages that are met. -/
theorem HBl.pages (h : HBl s e l u bl) : (s.met.map fun n => decide (n > 0)) = metP s.c.Pg s.met.length bl := by
  rw [h.met]
  unfold metP
  apply List.ext_getElem
  · simp
  · intro i a b
    rw [List.getElem_map, tab_get, tab_get]
    unfold cntM
    rw [Bool.eq_iff_iff, decide_eq_true_eq, List.any_eq_true]
    have := List.countP_pos_iff (p := fun b => over ((i : Int) * s.c.Pg) s.c.Pg b.at_ b.ch) (l := bl)
    rw [show (((bl.countP fun b => over ((i : Int) * s.c.Pg) s.c.Pg b.at_ b.ch : Nat) : Int) > 0) ↔ 0 < bl.countP fun b => over ((i : Int) * s.c.Pg) s.c.Pg b.at_ b.ch by omega, this]
theorem pages_over {pg a n : Int} (hpg : 1 ≤ pg) (hn : 1 ≤ n) (i : Nat) : ((pagesP pg a n).1 ≤ (i : Int) ∧ (i : Int) < (pagesP pg a n).2) ↔ over ((i : Int) * pg) pg a n = true := by
  unfold pagesP over
  rw [if_neg (by omega)]
  simp only [Bool.and_eq_true, decide_eq_true_eq]
  have h1 : a / pg ≤ (i : Int) ↔ a < ((i : Int) + 1) * pg := by
    rw [← Int.lt_add_one_iff, Int.ediv_lt_iff_lt_mul (by omega)]
  have h2 : (i : Int) ≤ (a + n - 1) / pg ↔ (i : Int) * pg ≤ a + n - 1 := Int.le_ediv_iff_mul_le (by omega)
  rw [Int.add_mul, Int.one_mul] at h1
  omega
theorem cnt_put (pg : Int) (i : Nat) (b : Blk) (bl : List Blk) : cntM pg (b :: bl) i = cntM pg bl i + if over ((i : Int) * pg) pg b.at_ b.ch = true then 1 else 0 := by
  unfold cntM
  rw [List.countP_cons]
  split <;> simp
theorem cnt_perm {pg : Int} {i : Nat} {a b : List Blk} (p : a.Perm b) : cntM pg a i = cntM pg b i := by
  unfold cntM; rw [p.countP_eq]
theorem met_add {pg : Int} (hpg : 1 ≤ pg) {b : Blk} (hb : 1 ≤ b.ch) {bl bl' : List Blk} (p : bl'.Perm (b :: bl)) (n : Nat) : metQ (tab n (cntM pg bl)) (pagesP pg b.at_ b.ch).1 (pagesP pg b.at_ b.ch).2 1 = tab n (cntM pg bl') := by
  unfold metQ
  rw [tab_len]
  refine tab_congr fun i hi => ?_
  rw [tab_getD _ hi, cnt_perm p, cnt_put]
  congr 1
  by_cases h : over ((i : Int) * pg) pg b.at_ b.ch = true
  · rw [if_pos h, if_pos ((pages_over hpg hb i).2 h)]
  · rw [if_neg h, if_neg fun x => h ((pages_over hpg hb i).1 x)]
theorem met_sub {pg : Int} (hpg : 1 ≤ pg) {b : Blk} (hb : 1 ≤ b.ch) {bl bl' : List Blk} (p : bl.Perm (b :: bl')) (n : Nat) : metQ (tab n (cntM pg bl)) (pagesP pg b.at_ b.ch).1 (pagesP pg b.at_ b.ch).2 (-1) = tab n (cntM pg bl') := by
  unfold metQ
  rw [tab_len]
  refine tab_congr fun i hi => ?_
  rw [tab_getD _ hi, cnt_perm p, cnt_put]
  by_cases h : over ((i : Int) * pg) pg b.at_ b.ch = true
  · rw [if_pos h, if_pos ((pages_over hpg hb i).2 h)]; omega
  · rw [if_neg h, if_neg fun x => h ((pages_over hpg hb i).1 x)]; omega
/-- A block's granules. -/
theorem cov_iff {k q0 q : Nat} {b : Blk} (ha : b.at_ = ((q0 * 2 ^ e : Nat) : Int)) (hc : b.ch = ((2 ^ (e + k) : Nat) : Int)) : covB e q b = true ↔ q0 ≤ q ∧ q ≤ q0 + 2 ^ k - 1 := by
  have z := Nat.two_pow_pos e
  have zk := Nat.two_pow_pos k
  unfold covB
  rw [Bool.and_eq_true, decide_eq_true_eq, decide_eq_true_eq, ha, hc, Nat.pow_add, Nat.mul_comm (2 ^ e) (2 ^ k)]
  have h1 : q0 * 2 ^ e ≤ q * 2 ^ e ↔ q0 ≤ q := Nat.mul_le_mul_right_iff z
  have h2 : q * 2 ^ e < (q0 + 2 ^ k) * 2 ^ e ↔ q < q0 + 2 ^ k := Nat.mul_lt_mul_right z
  rw [Nat.add_mul] at h2
  omega
/-- A place is free just if no granule of it is live. -/
theorem HBl.free (h : HBl s e l u bl) (c : HCf s e l u) {k p : Nat} (hk : k ≤ l) : occ s.g k p = false ↔ (p < s.sz k ∧ freeB bl ((p : Int) * ((2 ^ (e + k) : Nat) : Int)) ((2 ^ (e + k) : Nat) : Int) = true) := by
  have z := Nat.two_pow_pos e
  have zk := Nat.two_pow_pos k
  have hpw := c.so.pw k (by rw [c.C]; omega)
  have ep : (p : Int) * ((2 ^ (e + k) : Nat) : Int) = ((p * 2 ^ k * 2 ^ e : Nat) : Int) := by rw [← Int.natCast_mul, Nat.pow_add, Nat.mul_comm (2 ^ e), Nat.mul_assoc]
  rw [occ_false, ep]
  constructor
  · intro f
    constructor
    · have h1 := f (p * 2 ^ k + 2 ^ k - 1) (by omega) (by omega)
      rw [h.g, Bool.or_eq_false_iff] at h1
      have h2 := of_decide_eq_false h1.1
      rw [← hpw] at h2
      have h3 : p * 2 ^ k < s.sz k * 2 ^ k := by omega
      exact Nat.lt_of_mul_lt_mul_right h3
    · refine List.all_eq_true.2 fun b hb => ?_
      obtain ⟨kb, a, hkb, hch, hat⟩ := (h.bin b hb).form
      have zb := Nat.two_pow_pos kb
      cases ho : over ((p * 2 ^ k * 2 ^ e : Nat) : Int) ((2 ^ (e + k) : Nat) : Int) b.at_ b.ch with
      | false => rfl
      | true =>
        exfalso
        unfold over at ho
        rw [Bool.and_eq_true, decide_eq_true_eq, decide_eq_true_eq, hch, hat, Nat.pow_add, Nat.pow_add, Nat.mul_comm (2 ^ e), Nat.mul_comm (2 ^ e)] at ho
        obtain ⟨o1, o2⟩ := ho
        rw [← Int.natCast_add, Int.ofNat_lt, ← Nat.add_mul] at o1 o2
        have o3 := Nat.lt_of_mul_lt_mul_right o1
        have o4 := Nat.lt_of_mul_lt_mul_right o2
        have key : ∀ q, p * 2 ^ k ≤ q → q < p * 2 ^ k + 2 ^ k → a * 2 ^ kb ≤ q → q < a * 2 ^ kb + 2 ^ kb → False := fun q q1 q2 q3 q4 => by
          have h1 := f q q1 q2
          rw [h.g, Bool.or_eq_false_iff] at h1
          have h2 := List.any_eq_false.1 h1.2 b hb
          exact h2 ((cov_iff hat hch).2 ⟨q3, by omega⟩)
        by_cases hle : p * 2 ^ k ≤ a * 2 ^ kb
        · exact key (a * 2 ^ kb) hle o4 (Nat.le_refl _) (by omega)
        · exact key (p * 2 ^ k) (Nat.le_refl _) (by omega) (by omega) o3
  · rintro ⟨hp, hf⟩ q q1 q2
    rw [h.g, Bool.or_eq_false_iff]
    have h1 : (p + 1) * 2 ^ k ≤ s.sz k * 2 ^ k := Nat.mul_le_mul_right _ hp
    rw [hpw, Nat.add_mul, Nat.one_mul] at h1
    refine ⟨decide_eq_false (by omega), List.any_eq_false.2 fun b hb hc => ?_⟩
    obtain ⟨kb, a, hkb, hch, hat⟩ := (h.bin b hb).form
    have zb := Nat.two_pow_pos kb
    obtain ⟨c1, c2⟩ := (cov_iff hat hch).1 hc
    have hx := List.all_eq_true.1 hf b hb
    simp only [Bool.not_eq_true'] at hx
    have ho : over ((p * 2 ^ k * 2 ^ e : Nat) : Int) ((2 ^ (e + k) : Nat) : Int) b.at_ b.ch = true := by
      unfold over
      rw [Bool.and_eq_true, decide_eq_true_eq, decide_eq_true_eq, hch, hat, Nat.pow_add, Nat.pow_add, Nat.mul_comm (2 ^ e), Nat.mul_comm (2 ^ e)]
      rw [← Int.natCast_add, ← Int.natCast_add, Int.ofNat_lt, Int.ofNat_lt, ← Nat.add_mul, ← Nat.add_mul]
      exact ⟨Nat.mul_lt_mul_of_pos_right (by omega) z, Nat.mul_lt_mul_of_pos_right (by omega) z⟩
    rw [ho] at hx; cases hx
/-- Where a mark goes in, its block does. -/
theorem ins_map {i : Nat} {b : Blk} (hi : i ≤ bl.length) (h1 : ∀ (p : Nat) (h : p < (bl.map (mkB e)).length), p < i → (bl.map (mkB e))[p].1 < b.at_) (h2 : ∀ (p : Nat) (h : p < (bl.map (mkB e)).length), i ≤ p → b.at_ < (bl.map (mkB e))[p].1) :
    insM (bl.map (mkB e)) i (mkB e b) = (putB bl b).map (mkB e) := by
  have e1 : putB bl b = bl.take i ++ b :: bl.drop i := by
    rw [putB_take bl b i (fun j hj x hx => ?_) hi]
    · congr 1
      by_cases hl : i < bl.length
      · rw [List.drop_eq_getElem_cons hl]
        have := h2 i (by simpa using hl) (Nat.le_refl _)
        simp only [List.getElem_map, mkB] at this
        simp only [putB]
        rw [if_pos this]
      · rw [List.drop_eq_nil_of_le (by omega)]; rfl
    · obtain ⟨hj2, rfl⟩ := List.getElem?_eq_some_iff.1 hx
      have := h1 j (by simpa using hj2) hj
      simp only [List.getElem_map, mkB] at this
      omega
  rw [e1]
  unfold insM
  rw [List.map_append, List.map_cons, List.map_take, List.map_drop]
/-- A block is put. -/
theorem HBl.put (h : HBl s e l u bl) (c : HCf s e l u) {k p : Nat} (hk : k ≤ l) {b : Blk} (hat : b.at_ = ((p * 2 ^ k * 2 ^ e : Nat) : Int)) (hch : b.ch = ((2 ^ (e + k) : Nat) : Int)) (hb : Bin e l u b) (hfr : freeB bl b.at_ b.ch = true) {i : Nat} (hi : i ≤ s.ms.length)
    (h1 : ∀ (p : Nat) (h : p < s.ms.length), p < i → s.ms[p].1 < b.at_) (h2 : ∀ (p : Nat) (h : p < s.ms.length), i ≤ p → b.at_ < s.ms[p].1) {s' : HS} (ec : s'.c = s.c) (ez : s'.sz = s.sz)
    (ems : s'.ms = insM s.ms i (b.at_, (k : Int))) (ees : s'.es = mapPut s.es (kv b.at_) (vB b)) (emet : s'.met = metQ s.met (pagesP s.c.Pg b.at_ b.ch).1 (pagesP s.c.Pg b.at_ b.ch).2 1) (eg : s'.g = useG true (p * 2 ^ k) (p * 2 ^ k + 2 ^ k - 1) s.g) :
    HBl s' e l u (putB bl b) := by
  have z := Nat.two_pow_pos (e + k)
  have hch1 : 1 ≤ b.ch := by omega
  have perm := putB_perm b bl
  have f := c.tp.ok.facts
  obtain ⟨al, e1, pa⟩ := h.es
  have em : (b.at_, (k : Int)) = mkB e b := by unfold mkB; rw [hch, clsOf_pow]
  refine ⟨?_, ⟨aPut al b.at_ b, ?_, ?_⟩, ?_, fun q => ?_, ?_, ?_⟩
  · rw [ems, em]
    have hm := h.ms
    rw [hm, List.length_map] at hi
    have key : ∀ ms : List (Int × Int), ms = bl.map (mkB e) → (∀ (p : Nat) (h : p < ms.length), p < i → ms[p].1 < b.at_) → (∀ (p : Nat) (h : p < ms.length), i ≤ p → b.at_ < ms[p].1) → insM ms i (mkB e b) = (putB bl b).map (mkB e) := by
      rintro ms rfl k1 k2
      exact ins_map hi k1 k2
    exact key _ hm h1 h2
  · rw [ees, e1, mapPut_enc kv_inj]
  · have hn : aGet al b.at_ = none := by
      refine aGet_none.2 fun x hx hxa => ?_
      obtain ⟨y, hy, rfl⟩ := List.mem_map.1 (pa.mem_iff.1 hx)
      have c1 := h.ch1 y hy
      rcases freeB_apart hfr y hy with h3 | h3 <;> (dsimp only at hxa; omega)
    rw [aPut_new hn]
    refine (List.perm_append_comm).trans ?_
    unfold alB
    exact (pa.cons (b.at_, b)).trans ((perm.map fun b : Blk => (b.at_, b)).symm)
  · rw [emet, ec, metQ_len]
    have hm := h.met
    generalize s.met.length = n at hm ⊢
    rw [hm]
    exact met_add (by omega) hch1 perm n
  · rw [eg, ez]
    unfold useG
    have e2 : (putB bl b).any (covB e q) = (covB e q b || bl.any (covB e q)) := by
      rw [perm.any_eq]; rfl
    rw [e2]
    by_cases hc : covB e q b = true
    · rw [if_pos ((cov_iff hat hch).1 hc), hc]; simp
    · rw [if_neg fun x => hc ((cov_iff hat hch).2 x), h.g q]
      rw [Bool.not_eq_true] at hc
      rw [hc, Bool.false_or]
  · have := h.srt.put (asked := b.asked) hch1 h.ch1 hfr
    exact this
  · intro x hx
    rcases (putB_mem _ _ _).1 hx with rfl | hx
    · exact hb
    · exact h.bin x hx
/-- A block goes. -/
theorem HBl.del (h : HBl s e l u bl) (c : HCf s e l u) {A : Nat} (hA : A < bl.length) {k p : Nat} (hat : bl[A].at_ = ((p * 2 ^ k * 2 ^ e : Nat) : Int)) (hch : bl[A].ch = ((2 ^ (e + k) : Nat) : Int)) (hk : k ≤ l) {s' : HS} (ec : s'.c = s.c) (ez : s'.sz = s.sz)
    (ems : s'.ms = s.ms.take A ++ s.ms.drop (A + 1)) (ees : s'.es = mapDel s.es (kv bl[A].at_)) (emet : s'.met = metQ s.met (pagesP s.c.Pg bl[A].at_ bl[A].ch).1 (pagesP s.c.Pg bl[A].at_ bl[A].ch).2 (-1)) (eg : s'.g = useG false (p * 2 ^ k) (p * 2 ^ k + 2 ^ k - 1) s.g) :
    HBl s' e l u (bl.take A ++ bl.drop (A + 1)) := by
  have hc1 := h.ch1 _ (List.getElem_mem hA)
  have perm := rest_perm hA
  have f := c.tp.ok.facts
  obtain ⟨al, e1, pa⟩ := h.es
  have nd : NoDup al := (alB_nodup h.srt h.ch1).perm pa.symm
  have hg : aGet al bl[A].at_ = some bl[A] := aGet_of nd (pa.mem_iff.2 (List.mem_map.2 ⟨bl[A], List.getElem_mem hA, rfl⟩))
  have hap : ∀ x ∈ bl.take A ++ bl.drop (A + 1), x.at_ + x.ch ≤ bl[A].at_ ∨ bl[A].at_ + bl[A].ch ≤ x.at_ := by
    intro x hx
    have sr := h.srt
    unfold Srt at sr
    rcases List.mem_append.1 hx with hx | hx
    · obtain ⟨i, hi, rfl⟩ := List.getElem_of_mem hx
      rw [List.length_take] at hi
      rw [List.getElem_take]
      exact .inl (List.pairwise_iff_getElem.1 sr i A (by omega) hA (by omega))
    · obtain ⟨i, hi, rfl⟩ := List.getElem_of_mem hx
      rw [List.length_drop] at hi
      rw [List.getElem_drop]
      exact .inr (List.pairwise_iff_getElem.1 sr A (A + 1 + i) hA (by omega) (by omega))
  refine ⟨?_, ⟨aDel al bl[A].at_, ?_, ?_⟩, ?_, fun q => ?_, h.srt.rest A, ?_⟩
  · rw [ems, h.ms, List.map_append, List.map_take, List.map_drop]
  · rw [ees, e1, mapDel_enc kv_inj]
  · have p1 := aDel_perm hg
    have p2 := (perm.map fun b : Blk => (b.at_, b))
    rw [List.map_cons] at p2
    exact ((p1.symm.trans pa).trans p2).cons_inv
  · rw [emet, ec, metQ_len]
    have hm := h.met
    generalize s.met.length = n at hm ⊢
    rw [hm]
    exact met_sub (by omega) hc1 perm n
  · rw [eg, ez]
    unfold useG
    have e2 : bl.any (covB e q) = (covB e q bl[A] || (bl.take A ++ bl.drop (A + 1)).any (covB e q)) := by
      rw [perm.any_eq]; rfl
    by_cases hc : covB e q bl[A] = true
    · have hr := (cov_iff hat hch).1 hc
      rw [if_pos hr]
      symm
      rw [Bool.or_eq_false_iff]
      have zk := Nat.two_pow_pos k
      constructor
      · refine decide_eq_false ?_
        have b1 := (h.bin _ (List.getElem_mem hA)).ok c.tp
        have hin : p * 2 ^ k + 2 ^ k ≤ s.sz 0 := by
          obtain ⟨kk, a, hkk, hcc, haa, ha⟩ := h.bin _ (List.getElem_mem hA)
          have hH := (c.tp.ok.ceil (k := (kk : Int)) (by omega) (by rw [c.tp.ex.hL]; omega)).2.1
          rw [c.tp.ceil hkk, ← c.mem, ← c.sz] at hH
          have t1 : (a + 1) * 2 ^ (e + kk) ≤ tP l u kk * (2 + kk) * 2 ^ (e + kk) := Nat.mul_le_mul_right _ ha
          rw [Nat.add_mul, Nat.one_mul] at t1
          have t2 : p * 2 ^ k * 2 ^ e + 2 ^ (e + k) ≤ 2 ^ e * s.sz 0 := by
            have t3 := hat.symm.trans haa
            have t4 := hch.symm.trans hcc
            generalize tP l u kk * (2 + kk) * 2 ^ (e + kk) = T at *
            omega
          rw [Nat.pow_add, Nat.mul_comm (2 ^ e) (2 ^ k), ← Nat.add_mul, Nat.mul_comm (2 ^ e)] at t2
          exact Nat.le_of_mul_le_mul_right t2 (Nat.two_pow_pos e)
        omega
      · refine List.any_eq_false.2 fun x hx hcx => ?_
        have a1 := hap x hx
        have c1 := h.ch1 x (perm.mem_iff.2 (List.mem_cons_of_mem _ hx))
        unfold covB at hc hcx
        rw [Bool.and_eq_true, decide_eq_true_eq, decide_eq_true_eq] at hc hcx
        omega
    · rw [if_neg fun x => hc ((cov_iff hat hch).2 x), h.g q, e2]
      rw [Bool.not_eq_true] at hc
      rw [hc, Bool.false_or]
  · intro x hx
    exact h.bin x (perm.mem_iff.2 (List.mem_cons_of_mem _ hx))
/-- It went and came back. -/
theorem HBl.again (h : HBl s e l u bl) (c : HCf s e l u) {A : Nat} (hA : A < bl.length) {s' : HS} (ec : s'.c = s.c) (ez : s'.sz = s.sz) (ems : s'.ms = s.ms) (eg : s'.g = s.g)
    (ees : s'.es = mapPut (mapDel s.es (kv bl[A].at_)) (kv bl[A].at_) (vB bl[A])) (emet : s'.met = metQ (metQ s.met (pagesP s.c.Pg bl[A].at_ bl[A].ch).1 (pagesP s.c.Pg bl[A].at_ bl[A].ch).2 (-1)) (pagesP s.c.Pg bl[A].at_ bl[A].ch).1 (pagesP s.c.Pg bl[A].at_ bl[A].ch).2 1) : HBl s' e l u bl := by
  have hc1 := h.ch1 _ (List.getElem_mem hA)
  have perm := rest_perm hA
  have f := c.tp.ok.facts
  obtain ⟨al, e1, pa⟩ := h.es
  have nd : NoDup al := (alB_nodup h.srt h.ch1).perm pa.symm
  have hg : aGet al bl[A].at_ = some bl[A] := aGet_of nd (pa.mem_iff.2 (List.mem_map.2 ⟨bl[A], List.getElem_mem hA, rfl⟩))
  refine ⟨ems.trans h.ms, ⟨aPut (aDel al bl[A].at_) bl[A].at_ bl[A], ?_, ?_⟩, ?_, fun q => by rw [eg, ez]; exact h.g q, h.srt, h.bin⟩
  · rw [ees, e1, mapDel_enc kv_inj, mapPut_enc kv_inj]
  · rw [aPut_new (by rw [aGet_del nd, if_pos rfl])]
    exact (List.perm_append_comm).trans ((aDel_perm hg).symm.trans pa)
  · rw [emet, ec, metQ_len, metQ_len]
    have hm := h.met
    generalize s.met.length = n at hm ⊢
    rw [hm, met_sub (by omega) hc1 perm n]
    exact met_add (by omega) hc1 perm n
end
end Go.Proofs.D.S
/- A block is placed in a heap, as the model places it. -/
set_option linter.unusedVariables false
set_option linter.unusedSimpArgs false
namespace Go.Proofs.D.S
open Go Go.RowKit
variable {G G' G0 G1 : GH} {hid : Nat} {s : HS} {e l u : Nat} {bl : List Blk} {m : Mod}
/-- What a heap and its model have alike, but for blocks. -/
structure HEq (s : HS) (m : Mod) : Prop where
  c : m.c = s.c
  peak : m.peak = s.peak
  mark : m.mark = s.mark
  on : m.on = s.on
  mem : m.mem = s.mem
theorem HCf.pgs (c : HCf s e l u) : ∃ pg : Nat, s.c.Pg = (pg : Int) ∧ 1 ≤ pg ∧ s.on.length * pg = s.mem.length := by
  have f := c.tp.ok.facts
  refine ⟨s.c.Pg.toNat, by omega, by omega, ?_⟩
  have h1 := c.on
  have h2 := c.mem
  have e1 : s.c.Pg = ((s.c.Pg.toNat : Nat) : Int) := by omega
  rw [e1, ← h2, ← Int.natCast_mul] at h1
  exact_mod_cast h1
theorem HCf.onl (c : HCf s e l u) : s.on.length ≤ 65536 := by
  obtain ⟨pg, e1, h1, h2⟩ := c.pgs
  have f := c.tp.ok.facts
  have hm := c.mem
  have := Nat.le_mul_of_pos_right s.on.length h1
  omega
theorem HBl.len (h : HBl s e l u bl) : (bl.length : Int) ≤ chSum bl := by
  have : ∀ {bl : List Blk}, (∀ b ∈ bl, 1 ≤ b.ch) → (bl.length : Int) ≤ chSum bl := by
    intro bl
    induction bl with
    | nil => intro _; decide
    | cons b bl ih =>
      intro h
      have h1 := ih fun x hx => h x (by simp [hx])
      have h2 := h b (by simp)
      rw [chSum_cons, List.length_cons]; omega
  exact this h.ch1
theorem HBl.sm (h : HBl s e l u bl) (c : HCf s e l u) (hl : s.live = chSum bl) (hM : chSum bl ≤ s.c.M) : HSm s := by
  have f := c.tp.ok.facts
  have hlen := h.len
  have ho := c.onl
  refine ⟨by rw [c.met]; omega, fun x hx => ?_, by omega, by omega⟩
  rw [h.met] at hx
  unfold tab at hx
  obtain ⟨i, _, rfl⟩ := List.mem_map.1 hx
  have := List.countP_le_length (p := fun b => over ((i : Int) * s.c.Pg) s.c.Pg b.at_ b.ch) (l := bl)
  unfold cntM
  omega
theorem puts_M (raw : HRaw G hid s) (c : HCf s e l u) (hb : HBl s e l u bl) (eq : HEq s m) (hl : s.live = chSum bl) {k : Nat} (hk : k ≤ l) (hM : chSum bl + ((2 ^ (e + k) : Nat) : Int) ≤ s.c.M) (asked : Int) :
    (placeM m bl ((2 ^ (e + k) : Nat) : Int) asked).2.2 ≠ 7 ∧ ∃ (G' : GH) (s' : HS), CW heap_Heap_puts.id [.c (.ptr hid 0), .c (.int .i64 ((2 ^ (e + k) : Nat) : Int)), .c (.int .i64 asked)] G = some ([.c (.int .i64 (placeM m bl ((2 ^ (e + k) : Nat) : Int) asked).2.1), .c (.int .i64 (placeM m bl ((2 ^ (e + k) : Nat) : Int) asked).2.2)], G') ∧
      HRaw G' hid s' ∧ FrX (s.X hid) G G' ∧ s'.X hid = s.X hid ∧ ((placeM m bl ((2 ^ (e + k) : Nat) : Int) asked).2.2 ≠ 0 → s' = s) ∧
      ((placeM m bl ((2 ^ (e + k) : Nat) : Int) asked).2.2 = 0 → HCf s' e l u ∧ HBl s' e l u (placeM m bl ((2 ^ (e + k) : Nat) : Int) asked).1.bl ∧ HEq s' (placeM m bl ((2 ^ (e + k) : Nat) : Int) asked).1 ∧ s'.live = (placeM m bl ((2 ^ (e + k) : Nat) : Int) asked).1.live ∧ s'.live = chSum (placeM m bl ((2 ^ (e + k) : Nat) : Int) asked).1.bl ∧
        0 ≤ (placeM m bl ((2 ^ (e + k) : Nat) : Int) asked).2.1 ∧ (placeM m bl ((2 ^ (e + k) : Nat) : Int) asked).2.1 + ((2 ^ (e + k) : Nat) : Int) ≤ s.mem.length ∧ s'.mem.length = s.mem.length) := by
  have f := c.tp.ok.facts
  have z := Nat.two_pow_pos (e + k)
  have ze := Nat.two_pow_pos e
  have hmem := c.mem
  have ho := c.onl
  have sm := hb.sm c hl (by omega)
  obtain ⟨pg, ePg, hpg, hon⟩ := c.pgs
  have hpw := c.so.pw k (by rw [c.C]; omega)
  obtain ⟨j, hj1, hj2, _⟩ := room c.tp hk hb.bin hM
  have fit : ∀ p : Nat, p < s.sz k ↔ (p : Int) * ((2 ^ (e + k) : Nat) : Int) + ((2 ^ (e + k) : Nat) : Int) ≤ s.c.H := by
    intro p
    rw [← Int.natCast_mul, ← Int.natCast_add, ← hmem, ← c.sz, ← hpw, Int.ofNat_le]
    have e1 : p * 2 ^ (e + k) + 2 ^ (e + k) = (p + 1) * (2 ^ k * 2 ^ e) := by rw [Nat.add_mul, Nat.one_mul, Nat.pow_add, Nat.mul_comm (2 ^ e)]
    have e2 : 2 ^ e * (s.sz k * 2 ^ k) = s.sz k * (2 ^ k * 2 ^ e) := by rw [Nat.mul_comm, Nat.mul_assoc]
    rw [e1, e2]
    have z2 : 0 < 2 ^ k * 2 ^ e := Nat.mul_pos (Nat.two_pow_pos k) ze
    rw [Nat.mul_le_mul_right_iff z2]
    omega
  obtain ⟨hjH, hjf, _⟩ := (lowJ_some (by omega) (by omega)).1 hj1
  have hl2 := hb.len
  have hml : s.ms.length = bl.length := by rw [hb.ms, List.length_map]
  have at_eq : ∀ q : Nat, ((q * 2 ^ k * 2 ^ e : Nat) : Int) = (q : Int) * ((2 ^ (e + k) : Nat) : Int) := fun q => by rw [← Int.natCast_mul, Nat.pow_add, Nat.mul_comm (2 ^ e), Nat.mul_assoc]
  obtain ⟨q, i, at_, ea, q1, q2, q3, i1, i2, i3, body⟩ := heap_Heap_puts.sp (asked := asked) raw sm c.so c.tp.ok (e := e) (l := l) (k := k) (pg := pg) (Gg := 2 ^ e) c.tp.ex c.C hk (ch := ((2 ^ (e + k) : Nat) : Int)) rfl rfl c.sz (by omega) ePg hpg hon c.met
    ⟨j, (hb.free c hk).2 ⟨(fit j).2 hjH, hjf⟩⟩ (fun z hz m hm hx => by
      obtain ⟨_, fr⟩ := (hb.free c hk).1 hz
      rw [hb.ms] at hm
      obtain ⟨b, hbm, rfl⟩ := List.mem_map.1 hm
      have c1 := hb.ch1 b hbm
      rw [at_eq] at hx
      rcases freeB_apart fr b hbm with h3 | h3 <;> (simp only [mkB] at hx; omega)) (by omega)
  rw [at_eq] at ea
  obtain ⟨q4, q5⟩ := (hb.free c hk).1 q2
  have hlow : lowJ s.c.H bl ((2 ^ (e + k) : Nat) : Int) = some q := (lowJ_some (by omega) (by omega)).2 ⟨(fit q).1 q1, q5, fun p hp => by
    have h1 := q3 p hp
    cases h2 : freeB bl ((p : Int) * ((2 ^ (e + k) : Nat) : Int)) ((2 ^ (e + k) : Nat) : Int) with
    | false => rfl
    | true => rw [(hb.free c hk).2 ⟨by omega, h2⟩] at h1; cases h1⟩
  have hqj : q = j := by rw [hlow] at hj1; cases hj1; rfl
  have hR : lowR m.c.H bl ((2 ^ (e + k) : Nat) : Int) = (at_, true) := by unfold lowR; rw [eq.c, hlow, ea]
  have hpgs := hb.pages
  have hmet := c.met
  rw [hpgs, hmet] at body
  have hq0 : 0 ≤ at_ := by rw [ea]; exact Int.mul_nonneg (by omega) (by omega)
  have hqH := (fit q).1 q1
  rw [← ea] at hqH q5
  have perm := putB_perm ⟨at_, ((2 ^ (e + k) : Nat) : Int), asked⟩ bl
  rcases body with ⟨h1, G', h2, h3, h4⟩ | ⟨on', fr, h1, tid, sid, oni, G', h2, h3, h4⟩
  · have ep : placeM m bl ((2 ^ (e + k) : Nat) : Int) asked = (m, 0, 6) := by
      unfold placeM
      rw [hR, if_pos rfl, eq.c, eq.on, h1]
    rw [ep]
    exact ⟨(show (6 : Int) ≠ 7 by decide), G', s, h2, h3, h4, rfl, fun _ => rfl, fun h => absurd h (show ¬ (6 : Int) = 0 by decide)⟩
  · have ep : placeM m bl ((2 ^ (e + k) : Nat) : Int) asked = (⟨m.c, putB bl ⟨at_, ((2 ^ (e + k) : Nat) : Int), asked⟩, chSum (putB bl ⟨at_, ((2 ^ (e + k) : Nat) : Int), asked⟩), max m.peak (chSum (putB bl ⟨at_, ((2 ^ (e + k) : Nat) : Int), asked⟩)), max m.mark (at_ + ((2 ^ (e + k) : Nat) : Int)), on', fr.foldl (fun mem p => fillP mem m.c.Sd p m.c.Pg) m.mem⟩, at_, 0) := by
      unfold placeM
      rw [hR, if_pos rfl, eq.c, eq.on, h1]
    have hcs : chSum (putB bl ⟨at_, ((2 ^ (e + k) : Nat) : Int), asked⟩) = s.live + ((2 ^ (e + k) : Nat) : Int) := by
      rw [chSum_perm perm, chSum_cons, hl]; exact Int.add_comm _ _
    have onl : on'.length = s.on.length := (commitP_some h1).1
    have fl : (fillsP s.c fr s.mem).length = s.mem.length := fillsP_len fr s.mem
    rw [ep]
    refine ⟨(show (0 : Int) ≠ 7 by decide), G', _, h2, h3, h4, rfl, fun h => absurd rfl h, fun _ => ⟨⟨c.tp, c.C, c.so, ?_, ?_, ?_, ?_, c.mm⟩, ?_, ⟨eq.c, ?_, ?_, rfl, ?_⟩, ?_, ?_, hq0, by rw [hmem]; exact hqH, fl⟩⟩
    · show 2 ^ e * s.sz 0 = (fillsP s.c fr s.mem).length
      rw [fl]; exact c.sz
    · show ((fillsP s.c fr s.mem).length : Int) = s.c.H
      rw [fl]; exact c.mem
    · show (on'.length : Int) * s.c.Pg = s.c.H
      rw [onl]; exact c.on
    · show (metQ s.met _ _ 1).length = on'.length
      rw [metQ_len, onl]; exact c.met
    · exact hb.put c (k := k) (p := q) hk (b := ⟨at_, ((2 ^ (e + k) : Nat) : Int), asked⟩) (by show at_ = _; rw [ea, at_eq]) rfl (by
        have := Bin.new (g := e) (u := u) hk hj2 asked
        rw [← hqj, ← ea] at this
        exact this) q5 i1 i2 i3 rfl rfl rfl rfl rfl rfl
    · show max m.peak (chSum _) = max s.peak (s.live + _)
      rw [eq.peak, hcs]
    · show max m.mark _ = max s.mark _
      rw [eq.mark]
    · show fr.foldl (fun mem p => fillP mem m.c.Sd p m.c.Pg) m.mem = fillsP s.c fr s.mem
      rw [eq.c, eq.mem]; rfl
    · show s.live + _ = chSum _
      rw [hcs]
    · show s.live + _ = chSum _
      rw [hcs]
end Go.Proofs.D.S
/- A heap and its model: what asks, what goes. -/
set_option linter.unusedVariables false
set_option linter.unusedSimpArgs false
namespace Go.Proofs.D.S
open Go Go.RowKit
variable {G G' G0 G1 : GH} {hid : Nat} {s : HS} {e l u : Nat} {bl : List Blk} {m : Mod}
/-- A heap, and what it is told by. -/
structure HM (G : GH) (hid : Nat) (s : HS) (e l u : Nat) (m : Mod) : Prop where
  raw : HRaw G hid s
  cf : HCf s e l u
  bl : HBl s e l u m.bl
  eq : HEq s m
  live : m.live = s.live
  ok : m.Ok
def HDo (G : GH) (hid : Nat) (s : HS) (e l u : Nat) (x : Option Res) (r : Mod × AnsV) : Prop :=
  ∃ (G' : GH) (s' : HS), x = some ([.agg (eAns r.2)], G') ∧ HM G' hid s' e l u r.1 ∧ FrX (s.X hid) G G' ∧ s'.X hid = s.X hid
theorem HM.tp (h : HM G hid s e l u m) : m.c.Tp e l u := by rw [h.eq.c]; exact h.cf.tp
theorem HM.keep {R : List (Nat × Obj)} (h : HM G hid s e l u m) (k : Hp G G' R) : HM G' hid s e l u m := ⟨h.raw.keep k, h.cf, h.bl, h.eq, h.live, h.ok⟩
theorem HM.setMem (h : HM G hid s e l u m) {mem' : List Int} (hl : mem'.length = s.mem.length) (r : HRaw G' hid { s with mem := mem' }) : HM G' hid { s with mem := mem' } e l u { m with mem := mem' } :=
  ⟨r, ⟨h.cf.tp, h.cf.C, h.cf.so, by show _ = mem'.length; rw [hl]; exact h.cf.sz, by show (mem'.length : Int) = _; rw [hl]; exact h.cf.mem, h.cf.on, h.cf.met, h.cf.mm⟩, ⟨h.bl.ms, h.bl.es, h.bl.met, h.bl.g, h.bl.srt, h.bl.bin⟩, ⟨h.eq.c, h.eq.peak, h.eq.mark, h.eq.on, rfl⟩, h.live,
    ⟨h.ok.c, h.ok.bl, h.ok.live, h.ok.lim, h.ok.peak, h.ok.mark, h.ok.on, by show (mem'.length : Int) = m.c.H; rw [hl, h.eq.c]; exact h.cf.mem⟩⟩
theorem HM.small (h : HM G hid s e l u m) : -1000000000 ≤ s.live ∧ s.live ≤ 1000000000 := by
  have f := h.cf.tp.ok.facts
  have l1 := h.live
  have l2 := h.ok.lim
  have l3 := h.ok.live
  have l4 := h.bl.len
  rw [h.eq.c] at l2
  omega
theorem placeM_at {m : Mod} {l : List Blk} {n asked : Int} (hn : 1 ≤ n) (hH : 0 ≤ m.c.H) (h : (placeM m l n asked).2.2 ≠ 0) : (placeM m l n asked).2.1 = 0 := by
  rcases placeM_cases m l (asked := asked) hn hH with ⟨_, e⟩ | e | ⟨j, on', fr, _, _, _, _, _, _, e⟩
  · rw [e]
  · rw [e]
  · rw [e] at h; exact absurd rfl h
def giveR (m : Mod) (r : Int × Int) (asked : Int) : Mod × AnsV :=
  if r.2 = 0 then (if (placeM m m.bl r.1 asked).2.2 = 0 then ((placeM m m.bl r.1 asked).1, ⟨0, (placeM m m.bl r.1 asked).2.1, 0, 0, 0, 0, 0, 0⟩) else (m, errA (placeM m m.bl r.1 asked).2.2)) else (m, errA r.2)
theorem asks_M (h : HM G hid s e l u m) {r : Int × Int} (hr : (r.2 ≠ 0 ∧ r.1 = 0) ∨ (r.2 = 0 ∧ m.live + r.1 ≤ m.c.M ∧ ∃ k : Nat, k ≤ l ∧ r.1 = ((2 ^ (e + k) : Nat) : Int))) (asked : Int) :
    HDo G hid s e l u (CW heap_Heap_asks.id [.c (.ptr hid 0), .c (.int .i64 r.1), .c (.int .i64 asked), .c (.int .i64 r.2)] G) (giveR m r asked) := by
  unfold giveR
  rcases hr with ⟨h1, _⟩ | ⟨h1, hM, k, hk, he⟩
  · rw [if_neg h1]
    exact ⟨G, s, heap_Heap_asks.bad h1, h, FrX.refl, rfl⟩
  · rw [if_pos h1, h1, he]
    have z := Nat.two_pow_pos (e + k)
    have hl := h.ok.live
    rw [he, h.ok.live, h.eq.c] at hM
    obtain ⟨n7, G', s', e1, r1, f1, x1, bad, good⟩ := puts_M h.raw h.cf h.bl h.eq (by rw [← h.live]; exact hl) hk hM asked
    have hf := h.ok.c.facts
    by_cases hq : (placeM m m.bl ((2 ^ (e + k) : Nat) : Int) asked).2.2 = 0
    · rw [if_pos hq]
      obtain ⟨c1, b1, q1, l1, l2, a1, a2, a3⟩ := good hq
      rw [hq] at e1
      obtain ⟨k1, k2, _, _⟩ := placeM_ok h.ok (asked := asked) (show 1 ≤ ((2 ^ (e + k) : Nat) : Int) by omega) h.ok.bl (by rw [h.eq.c]; exact hM) hq
      exact ⟨G', s', heap_Heap_asks.good e1, ⟨r1, c1, b1, q1, l1.symm, k1⟩, f1, x1⟩
    · rw [if_neg hq]
      have := bad hq
      subst this
      have ha := placeM_at (show 1 ≤ ((2 ^ (e + k) : Nat) : Int) by omega) (by omega) hq
      rw [ha] at e1
      exact ⟨G', s', heap_Heap_asks.good e1, ⟨r1, h.cf, h.bl, h.eq, h.live, h.ok⟩, f1, rfl⟩
theorem zeroP_eq {mem : List Int} {a n : Int} (h0 : 0 ≤ a) (h1 : 0 ≤ n) (h2 : a + n ≤ mem.length) : zeroP mem a n = mem.take a.toNat ++ List.replicate n.toNat 0 ++ mem.drop (a.toNat + n.toNat) := by
  apply List.ext_getElem
  · rw [zeroP_len]; simp only [List.length_append, List.length_take, List.length_replicate, List.length_drop]; omega
  · intro i i1 i2
    rw [zeroP_len] at i1
    rw [show (zeroP mem a n)[i] = if a ≤ (i : Int) ∧ (i : Int) < a + n then 0 else mem.getD i 0 from tab_get (by rw [tab_len]; exact i1)]
    by_cases hx : a ≤ (i : Int) ∧ (i : Int) < a + n
    · rw [if_pos hx, List.getElem_append_left (by simp only [List.length_append, List.length_take, List.length_replicate]; omega), List.getElem_append_right (by simp only [List.length_take]; omega), List.getElem_replicate]
    · rw [if_neg hx, getD_lt _ i1]
      by_cases hy : (i : Int) < a
      · rw [List.getElem_append_left (by simp only [List.length_append, List.length_take, List.length_replicate]; omega), List.getElem_append_left (by simp only [List.length_take]; omega), List.getElem_take]
      · rw [List.getElem_append_right (by simp only [List.length_append, List.length_take, List.length_replicate]; omega), List.getElem_drop]
        congr 1
        simp only [List.length_append, List.length_take, List.length_replicate]; omega
theorem aligned_M (h : HM G hid s e l u m) {o : OpV} {al : Int} (hk : o.k ≠ 2) (hal : al = if o.k = 3 then o.a else 1) (ha : R64 al) :
    HDo G hid s e l u (CW heap_Heap_aligned.id [.c (.ptr hid 0), .c (.int .i64 o.s), .c (.int .i64 al)] G) (giveM m o) := by
  have eg : giveM m o = giveR m (newS m.c.G m.c.N m.c.M m.live o.s al) o.s := by
    unfold giveM giveR
    simp only [if_neg hk, ← hal]
  rw [eg]
  obtain ⟨G', s', e1, x⟩ := asks_M h (charge_new h.tp.ex m.live o.s al) o.s
  refine ⟨G', s', ?_, x⟩
  rw [h.eq.c, h.live] at e1 ⊢
  exact heap_Heap_aligned.sp h.raw h.cf.tp.ok h.small ha (by simp) rfl e1
theorem manyS_prod {G N M live n s : Int} (h : (manyS G N M live n s).2 = 0) (hN : N ≤ 65536) : (productS N n s).1 = wrap64 (n * s) := by
  unfold manyS at h
  by_cases hp : (productS N n s).2 = 0
  · unfold productS at hp ⊢
    by_cases h1 : n < 0 ∨ s < 0
    · rw [if_pos h1] at hp; cases hp
    · rw [if_neg h1] at hp ⊢
      by_cases h2 : n * s > N
      · rw [if_pos h2] at hp; cases hp
      · rw [if_neg h2]
        have : 0 ≤ n * s := Int.mul_nonneg (by omega) (by omega)
        rw [wrap_id (by omega) (by omega)]
  · rw [if_neg hp] at h; exact absurd h hp
theorem calloc_M (h : HM G hid s e l u m) {o : OpV} (hk : o.k = 2) (hn : R64 o.n) (hs : R64 o.s) :
    HDo G hid s e l u (CW heap_Heap_calloc.id [.c (.ptr hid 0), .c (.int .i64 o.n), .c (.int .i64 o.s)] G) (giveM m o) := by
  have fs := h.cf.tp.ok.facts
  have cm := charge_many h.tp.ex m.live o.n o.s
  obtain ⟨G', s', e1, h1, f1, x1⟩ := asks_M h cm (productS s.c.N o.n o.s).1
  have ec := h.eq.c
  have el := h.live
  have hmem : s'.mem.length ≤ 65536 := by
    have a := h1.cf.mem
    have b := h1.cf.tp.ok.facts
    omega
  have eg : giveM m o = if (giveR m (manyS m.c.G m.c.N m.c.M m.live o.n o.s) (productS s.c.N o.n o.s).1).2.err = 0 then ({ (giveR m (manyS m.c.G m.c.N m.c.M m.live o.n o.s) (productS s.c.N o.n o.s).1).1 with mem := zeroP (giveR m (manyS m.c.G m.c.N m.c.M m.live o.n o.s) (productS s.c.N o.n o.s).1).1.mem (giveR m (manyS m.c.G m.c.N m.c.M m.live o.n o.s) (productS s.c.N o.n o.s).1).2.at_ (manyS m.c.G m.c.N m.c.M m.live o.n o.s).1 }, (giveR m (manyS m.c.G m.c.N m.c.M m.live o.n o.s) (productS s.c.N o.n o.s).1).2) else giveR m (manyS m.c.G m.c.N m.c.M m.live o.n o.s) (productS s.c.N o.n o.s).1 := by
    unfold giveM giveR
    simp only [if_pos hk]
    by_cases h2 : (manyS m.c.G m.c.N m.c.M m.live o.n o.s).2 = 0
    · have hp := manyS_prod h2 (by rw [ec]; omega)
      rw [ec] at hp
      simp only [if_pos h2]
      rw [hp]
      by_cases hq : (placeM m m.bl (manyS m.c.G m.c.N m.c.M m.live o.n o.s).1 (wrap64 (o.n * o.s))).2.2 = 0
      · simp only [if_pos hq, if_true]
      · simp only [if_neg hq, errA]
    · simp only [if_neg h2, errA]
  have hz : (giveR m (manyS m.c.G m.c.N m.c.M m.live o.n o.s) (productS s.c.N o.n o.s).1).2.err = 0 → 0 ≤ (giveR m (manyS m.c.G m.c.N m.c.M m.live o.n o.s) (productS s.c.N o.n o.s).1).2.at_ ∧ 0 ≤ (manyS m.c.G m.c.N m.c.M m.live o.n o.s).1 ∧ (giveR m (manyS m.c.G m.c.N m.c.M m.live o.n o.s) (productS s.c.N o.n o.s).1).2.at_ + (manyS m.c.G m.c.N m.c.M m.live o.n o.s).1 ≤ s'.mem.length := by
    have hH : (s'.mem.length : Int) = (giveR m (manyS m.c.G m.c.N m.c.M m.live o.n o.s) (productS s.c.N o.n o.s).1).1.c.H := by rw [h1.eq.c]; exact h1.cf.mem
    intro hz
    rw [hH]
    unfold giveR at hz ⊢
    rcases cm with ⟨c1, _⟩ | ⟨c1, c2, k, c3, c4⟩
    · rw [if_neg c1] at hz; exact absurd hz c1
    · rw [if_pos c1] at hz ⊢
      have z := Nat.two_pow_pos (e + k)
      by_cases hq : (placeM m m.bl (manyS m.c.G m.c.N m.c.M m.live o.n o.s).1 (productS s.c.N o.n o.s).1).2.2 = 0
      · rw [if_pos hq] at hz ⊢
        obtain ⟨k1, k2, k3, k4⟩ := placeM_ok h.ok (by omega) h.ok.bl (by rw [← h.ok.live]; exact c2) hq
        rw [k2]
        exact ⟨k3, by omega, k4⟩
      · rw [if_neg hq] at hz; exact absurd hz hq
  rw [eg]
  generalize giveR m (manyS m.c.G m.c.N m.c.M m.live o.n o.s) (productS s.c.N o.n o.s).1 = X at *
  rw [ec, el] at hz e1 ⊢
  obtain ⟨G2, e2, h2, f2⟩ := heap_Heap_calloc.sp h.raw h.cf.tp.ok h.small hn hs h1.raw e1 hz hmem
  have fr : FrX (s.X hid) G G2 := f1.trans (by rw [← x1]; exact f2)
  by_cases h0 : X.2.err = 0
  · obtain ⟨z1, z2, z3⟩ := hz h0
    rw [if_pos h0]
    rw [if_pos h0, ← zeroP_eq z1 z2 z3] at h2
    refine ⟨G2, { s' with mem := zeroP s'.mem X.2.at_ (manyS s.c.G s.c.N s.c.M s.live o.n o.s).1 }, e2, ?_, fr, x1⟩
    dsimp only
    rw [h1.eq.mem]
    exact h1.setMem (zeroP_len _ _ _) h2
  · rw [if_neg h0]
    rw [if_neg h0] at h2
    exact ⟨G2, s', e2, ⟨h2, h1.cf, h1.bl, h1.eq, h1.live, h1.ok⟩, fr, x1⟩
/-- A heap without a block. -/
def goneS (s : HS) (b : Blk) (A k q tid sid : Nat) : HS :=
  { s.eng tid sid (useG false (q * 2 ^ k) (q * 2 ^ k + 2 ^ k - 1) s.g) (s.ms.take A ++ s.ms.drop (A + 1)) with es := mapDel s.es (kv b.at_), met := metQ s.met (pagesP s.c.Pg b.at_ b.ch).1 (pagesP s.c.Pg b.at_ b.ch).2 (-1), live := s.live - b.ch }
theorem gone_M (raw : HRaw G hid s) (c : HCf s e l u) (hb : HBl s e l u bl) (hl : s.live = chSum bl) (hM : chSum bl ≤ s.c.M) {A : Nat} (hA : A < bl.length) :
    ∃ (k q tid sid : Nat) (G' : GH), CW heap_Heap_gone.id [.c (.ptr hid 0), vB bl[A]] G = some ([], G') ∧ HRaw G' hid (goneS s bl[A] A k q tid sid) ∧ FrX (s.X hid) G G' ∧ HCf (goneS s bl[A] A k q tid sid) e l u ∧ HBl (goneS s bl[A] A k q tid sid) e l u (bl.take A ++ bl.drop (A + 1)) := by
  have f := c.tp.ok.facts
  have sm := hb.sm c hl hM
  have hmem := c.mem
  have hin := hb.bin _ (List.getElem_mem hA)
  have bok := hin.ok c.tp
  obtain ⟨k, a, hk, hch, hat0, ha⟩ := hin
  have hat : bl[A].at_ = ((a * 2 ^ k * 2 ^ e : Nat) : Int) := by rw [hat0, Nat.mul_assoc, ← Nat.pow_add, Nat.add_comm k e]
  have hms : s.ms = bl.map (mkB e) := hb.ms
  have hi : A < s.ms.length := by rw [hms, List.length_map]; exact hA
  have hm : s.ms[A] = (((a * 2 ^ k * 2 ^ e : Nat) : Int), (k : Int)) := by
    have : ∀ ms (h : A < ms.length), ms = bl.map (mkB e) → ms[A] = mkB e bl[A] := by rintro ms h rfl; simp
    rw [this _ hi hms]
    unfold mkB
    rw [hch, clsOf_pow, hat]
  have hq : a * 2 ^ k + 2 ^ k ≤ s.sz 0 := by
    have hH := (c.tp.ok.ceil (k := (k : Int)) (by omega) (by rw [c.tp.ex.hL]; omega)).2.1
    rw [c.tp.ceil hk, ← c.mem, ← c.sz] at hH
    have t1 : (a + 1) * 2 ^ (e + k) ≤ tP l u k * (2 + k) * 2 ^ (e + k) := Nat.mul_le_mul_right _ ha
    have t2 : (a + 1) * 2 ^ (e + k) ≤ 2 ^ e * s.sz 0 := by
      generalize tP l u k * (2 + k) * 2 ^ (e + k) = T at *
      omega
    rw [Nat.pow_add, Nat.mul_comm (2 ^ e) (2 ^ k), ← Nat.mul_assoc, Nat.mul_comm (2 ^ e)] at t2
    have t3 := Nat.le_of_mul_le_mul_right t2 (Nat.two_pow_pos e)
    rw [Nat.add_mul, Nat.one_mul] at t3
    exact t3
  obtain ⟨tid, sid, G', e1, r1, f1⟩ := heap_Heap_gone.sp (asked := bl[A].asked) raw sm c.so (Gg := 2 ^ e) (k := k) (q := a * 2 ^ k) (i := A) c.tp.ex.hG ⟨Nat.two_pow_pos e, by rw [c.sz]; omega⟩ (by rw [c.C]; omega) hi hm hq hat (by omega) (by omega : 0 ≤ bl[A].ch ∧ bl[A].ch ≤ 65536)
  refine ⟨k, a, tid, sid, G', e1, r1, f1, ⟨c.tp, c.C, c.so, c.sz, c.mem, c.on, by show (metQ s.met _ _ (-1)).length = _; rw [metQ_len]; exact c.met, c.mm⟩, hb.del c hA hat hch hk rfl rfl rfl rfl rfl rfl⟩
end Go.Proofs.D.S
/- A heap and its model: a block is asked for anew; every call. -/
set_option linter.unusedVariables false
set_option linter.unusedSimpArgs false
namespace Go.Proofs.D.S
open Go Go.RowKit
variable {G G' G0 G1 : GH} {hid : Nat} {s : HS} {e l u : Nat} {bl : List Blk} {m : Mod}
theorem HRaw.slMem (h : HRaw G hid s) : Sl G eU8 s.mmi 0 s.mem := .inr ⟨_, row_row h.mem, by omega, by rw [List.drop_zero, List.take_length]⟩
theorem realloc_M (h : HM G hid s e l u m) {o : OpV} (ho : o.k = 4) {A : Nat} (hA : A < m.bl.length) :
    HDo G hid s e l u (CW heap_Heap_realloc.id [.c (.ptr hid 0), vB m.bl[A], .c (.int .i64 o.s)] G) (ofM m o A m.bl[A]) := by
  have f := h.cf.tp.ok.facts
  have hsm := h.small
  have hmem := h.cf.mem
  have hin := h.bl.bin _ (List.getElem_mem hA)
  have bok := hin.ok h.cf.tp
  have hbin := h.ok.bl _ (List.getElem_mem hA)
  rw [h.eq.c, ← hmem] at hbin
  have ec := h.eq.c
  have elv := h.live
  have hl := h.ok.live
  have hlim := h.ok.lim
  have hrest := chSum_rest hA
  have hrl := chSum_len (h.ok.bl.rest A)
  have ad := admit_Anew.sp (G := G) h.cf.tp.ok (live := s.live) (old := m.bl[A].ch) (s := o.s) (by omega)
  rw [cfC] at ad
  have cr := charge_new h.cf.tp.ex (s.live - m.bl[A].ch) o.s 1
  obtain ⟨l0, l1, l2, l3, l4, l5, l6, l7⟩ := h.raw.conf
  have ldc : ∀ {G' : GH} {R : List (Nat × Obj)}, Hp G G' R → ∀ k, G'.ld hid k = s.cells[k]? := fun k j => (h.raw.keep k).ld j
  have l12 : G.ld hid 12 = some (.int .i64 s.live) := by rw [h.raw.ld]; rfl
  have l17 : G.ld hid 17 = some (.sl 1 s.mmi 0 s.mem.length) := by rw [h.raw.ld]; rfl
  have l8 : G.ld hid 8 = some (.int .i64 s.c.G) := by rw [h.raw.ld]; rfl
  have l9 : G.ld hid 9 = some (.sl 2 s.tid 0 s.C) := by rw [h.raw.ld]; rfl
  have l10 : G.ld hid 10 = some (.sl 2 s.sid 0 s.ms.length) := by rw [h.raw.ld]; rfl
  have hof : ofM m o A m.bl[A] = if (newS s.c.G s.c.N s.c.M (s.live - m.bl[A].ch) o.s 1).2 = 0 then
      (if (placeM m (m.bl.take A ++ m.bl.drop (A + 1)) (newS s.c.G s.c.N s.c.M (s.live - m.bl[A].ch) o.s 1).1 o.s).2.2 = 0 then
        ({ (placeM m (m.bl.take A ++ m.bl.drop (A + 1)) (newS s.c.G s.c.N s.c.M (s.live - m.bl[A].ch) o.s 1).1 o.s).1 with mem := (placeM m (m.bl.take A ++ m.bl.drop (A + 1)) (newS s.c.G s.c.N s.c.M (s.live - m.bl[A].ch) o.s 1).1 o.s).1.mem.take (placeM m (m.bl.take A ++ m.bl.drop (A + 1)) (newS s.c.G s.c.N s.c.M (s.live - m.bl[A].ch) o.s 1).1 o.s).2.1.toNat ++ (m.mem.drop m.bl[A].at_.toNat).take (min (newS s.c.G s.c.N s.c.M (s.live - m.bl[A].ch) o.s 1).1 m.bl[A].ch).toNat ++ (placeM m (m.bl.take A ++ m.bl.drop (A + 1)) (newS s.c.G s.c.N s.c.M (s.live - m.bl[A].ch) o.s 1).1 o.s).1.mem.drop ((placeM m (m.bl.take A ++ m.bl.drop (A + 1)) (newS s.c.G s.c.N s.c.M (s.live - m.bl[A].ch) o.s 1).1 o.s).2.1 + min (newS s.c.G s.c.N s.c.M (s.live - m.bl[A].ch) o.s 1).1 m.bl[A].ch).toNat }, ⟨0, (placeM m (m.bl.take A ++ m.bl.drop (A + 1)) (newS s.c.G s.c.N s.c.M (s.live - m.bl[A].ch) o.s 1).1 o.s).2.1, 0, 0, 0, 0, 0, 0⟩)
      else (m, errA (placeM m (m.bl.take A ++ m.bl.drop (A + 1)) (newS s.c.G s.c.N s.c.M (s.live - m.bl[A].ch) o.s 1).1 o.s).2.2)) else (m, errA (newS s.c.G s.c.N s.c.M (s.live - m.bl[A].ch) o.s 1).2) := by
    unfold ofM
    rw [if_pos ho, ec, elv]
  rw [hof]
  clear hof
  unfold vB
  rw [heap_Heap_realloc.cw]
  unfold heap_Heap_realloc.f
  rw [guardK_of (nb0 h.raw.h0)]
  simp only [Nat.zero_add, Nat.add_zero, Nat.reduceAdd, l0, l1, l2, l3, l4, l5, l6, l7, q_bs, q_I, q_B, q_P, q_S, q_M, q_c, q_a, q_gz, q_gs, q_gk, q_ct, q_cf, q_nt, q_nf, q_xt, q_xf, q_tt, q_ff, q_tf, q_ft, q_at, q_af]
  rw [guardK_of (nb0 h.raw.h0), l12]
  simp only [q_bs, q_I, q_B, q_P, q_S, q_M, q_c, q_a, q_gz, q_gs, q_gk, q_ct, q_cf, q_nt, q_nf, q_xt, q_xf, q_tt, q_ff, q_tf, q_ft, q_at, q_af]
  rw [ad]
  simp only [q_bs, q_I, q_B, q_P, q_S, q_M, q_c, q_a, q_gz, q_gs, q_gk, q_ct, q_cf, q_nt, q_nf, q_xt, q_xf, q_tt, q_ff, q_tf, q_ft, q_at, q_af]
  generalize hr : newS s.c.G s.c.N s.c.M (s.live - m.bl[A].ch) o.s 1 = r at *
  rcases cr with ⟨c1, _⟩ | ⟨c1, c2, k, hk, he⟩
  · rw [if_neg c1, condN_pos c1]
    exact ⟨G, s, rfl, h, FrX.refl, rfl⟩
  · rw [if_pos c1, condN_neg c1, guardK_of (nb0 h.raw.h0), l17]
    simp only [q_bs, q_I, q_B, q_P, q_S, q_M, q_c, q_a, q_gz, q_gs, q_gk, q_ct, q_cf, q_nt, q_nf, q_xt, q_xf, q_tt, q_ff, q_tf, q_ft, q_at, q_af]
    have z := Nat.two_pow_pos (e + k)
    obtain ⟨a, ea⟩ : ∃ a : Nat, m.bl[A].at_ = (a : Int) := ⟨m.bl[A].at_.toNat, by omega⟩
    obtain ⟨n, en⟩ : ∃ n : Nat, min m.bl[A].ch r.1 = (n : Int) := ⟨(min m.bl[A].ch r.1).toNat, by omega⟩
    have en2 : min r.1 m.bl[A].ch = (n : Int) := by omega
    have hn1 : 1 ≤ n := by omega
    have han : a + n ≤ s.mem.length := by omega
    have hnr : (n : Int) ≤ r.1 := by omega
    rw [mn2_eq, en, ea, i64w, wrap_id (by omega) (by omega), guardD_of (by omega), guardK_of (nb0 h.raw.h0)]
    have et : ((a : Int) + (n : Int)).toNat - (a : Int).toNat = n := by omega
    simp only [l8, l9, l10, q_bs, q_I, q_B, q_P, q_S, q_M, q_c, q_a, q_gz, q_gs, q_gk, q_ct, q_cf, q_nt, q_nf, q_xt, q_xf, q_tt, q_ff, q_tf, q_ft, q_at, q_af]
    rw [et, Int.toNat_natCast]
    have xl : ((s.mem.drop a).take n).length = n := by simp only [List.length_take, List.length_drop]; omega
    have sl0 := h.raw.slMem.sub (k := 1) a n han
    rw [Nat.zero_add] at sl0
    have mm0 := h.cf.mm
    obtain ⟨cid, G1, k1, k2, k3⟩ := slices_Clone_byte_byte.sp h.raw.w mm0 sl0 (by omega)
    rw [xl] at k1
    rw [Nat.zero_add, k1]
    have j8 : G1.ld hid 8 = some (.int .i64 s.c.G) := by rw [ldc k2]; rfl
    have j9 : G1.ld hid 9 = some (.sl 2 s.tid 0 s.C) := by rw [ldc k2]; rfl
    have j10 : G1.ld hid 10 = some (.sl 2 s.sid 0 s.ms.length) := by rw [ldc k2]; rfl
    simp only [j8, j9, j10, q_bs, q_I, q_B, q_P, q_S, q_M, q_c, q_a, q_gz, q_gs, q_gk, q_ct, q_cf, q_nt, q_nf, q_xt, q_xf, q_tt, q_ff, q_tf, q_ft, q_at, q_af]
    rw [guardD_of trivial]
    have h1 := h.keep k2
    have sx1 : Sx (s.X hid) G1 eU8 cid 0 ((s.mem.drop a).take n) := k2.sx (List.mem_cons_self ..) h.raw.ids
    obtain ⟨kk, q, tid, sid, G2, g1, g2, g3, g4, g5⟩ := gone_M h1.raw h1.cf h1.bl (by omega) (by rw [← hl, ← ec]; exact hlim) hA
    unfold vB at g1
    rw [ea] at g1
    rw [g1]
    simp only [q_bs, q_I, q_B, q_P, q_S, q_M, q_c, q_a, q_gz, q_gs, q_gk, q_ct, q_cf, q_nt, q_nf, q_xt, q_xf, q_tt, q_ff, q_tf, q_ft, q_at, q_af]
    have eq2 : HEq (goneS s m.bl[A] A kk q tid sid) m := ⟨h.eq.c, h.eq.peak, h.eq.mark, h.eq.on, h.eq.mem⟩
    have gl : (goneS s m.bl[A] A kk q tid sid).live = chSum (m.bl.take A ++ m.bl.drop (A + 1)) := by show s.live - m.bl[A].ch = _; omega
    have gM : chSum (m.bl.take A ++ m.bl.drop (A + 1)) + ((2 ^ (e + k) : Nat) : Int) ≤ (goneS s m.bl[A] A kk q tid sid).c.M := by
      show _ ≤ s.c.M; rw [← he]; omega
    obtain ⟨n7, G3, s3, p1, p2, p3, p4, bad, good⟩ := puts_M g2 g4 g5 eq2 gl hk gM o.s
    have fr3 : FrX (s.X hid) G1 G3 := g3.trans p3
    have frA : FrX (s.X hid) G G3 := (FrX.hp k2).trans fr3
    have sx3 := sx1.fr fr3 k2.wf
    rw [← he] at p1 bad good
    have pl := placeM_ok h.ok (l := m.bl.take A ++ m.bl.drop (A + 1)) (n := r.1) (asked := o.s) (by omega) (h.ok.bl.rest A) (by rw [ec, he]; exact gM)
    have pat := placeM_at (m := m) (l := m.bl.take A ++ m.bl.drop (A + 1)) (n := r.1) (asked := o.s) (by omega) (by rw [ec]; omega)
    rw [heap_Heap_asks.good p1]
    simp only [q_bs, q_I, q_B, q_P, q_S, q_M, q_c, q_a, q_gz, q_gs, q_gk, q_ct, q_cf, q_nt, q_nf, q_xt, q_xf, q_tt, q_ff, q_tf, q_ft, q_at, q_af, List.length_cons, List.length_nil, if_true, Nat.zero_add, Nat.reduceAdd]
    generalize hQ : placeM m (m.bl.take A ++ m.bl.drop (A + 1)) r.1 o.s = Q at *
    by_cases hq : Q.2.2 = 0
    · obtain ⟨c3, b3, q3, lv3, lv4, a3, a4, ml⟩ := good hq
      obtain ⟨k1', k2', k3', k4'⟩ := pl hq
      have gml : (goneS s m.bl[A] A kk q tid sid).mem.length = s.mem.length := rfl
      rw [gml] at ml a4
      rw [if_pos hq, condN_neg hq, guardK_of (nb0 h.raw.h0)]
      have m17 : G3.ld hid 17 = some (.sl 1 s3.mmi 0 s3.mem.length) := by rw [p2.ld]; rfl
      obtain ⟨b, eb⟩ : ∃ b : Nat, Q.2.1 = (b : Int) := ⟨Q.2.1.toNat, by omega⟩
      rw [eb] at a3 a4 ⊢
      simp only [m17, q_bs, q_I, q_B, q_P, q_S, q_M, q_c, q_a, q_gz, q_gs, q_gk, q_ct, q_cf, q_nt, q_nf, q_xt, q_xf, q_tt, q_ff, q_tf, q_ft, q_at, q_af, Int.toNat_natCast]
      rw [guardD_of (by omega), if_neg (by omega)]
      have hml : s.mem.length - b ≥ n := by omega
      have hmin : min n (s3.mem.length - b) = n := by omega
      rw [hmin]
      have ld3 := sx3.1.lds (k := 1) xl.symm
      rw [if_neg (by omega)] at ld3
      rw [ld3]
      simp only [q_bs, q_I, q_B, q_P, q_S, q_M, q_c, q_a, q_gz, q_gs, q_gk, q_ct, q_cf, q_nt, q_nf, q_xt, q_xf, q_tt, q_ff, q_tf, q_ft, q_at, q_af]
      obtain ⟨G4, e4, h4, f4⟩ := p2.wr (a := b) (new := (s.mem.drop a).take n) (by rw [xl]; omega)
      rw [Nat.zero_add, e4]
      simp only [q_bs, q_I, q_B, q_P, q_S, q_M, q_c, q_a, q_gz, q_gs, q_gk, q_ct, q_cf, q_nt, q_nf, q_xt, q_xf, q_tt, q_ff, q_tf, q_ft, q_at, q_af]
      rw [heap_Heap_realloc.J24_eq]
      have hm3 : HM G3 hid s3 e l u Q.1 := ⟨p2, c3, b3, q3, lv3.symm, k1'⟩
      have eX : s3.X hid = s.X hid := p4
      have hfin := hm3.setMem (mem' := s3.mem.take b ++ (s.mem.drop a).take n ++ s3.mem.drop (b + ((s.mem.drop a).take n).length)) (by simp only [List.length_append, List.length_take, List.length_drop]; omega) h4
      refine ⟨G4, { s3 with mem := s3.mem.take b ++ (s.mem.drop a).take n ++ s3.mem.drop (b + ((s.mem.drop a).take n).length) }, by rw [hq], ?_, frA.trans (by rw [← eX]; exact f4), eX⟩
      have e5 : ((b : Int) + min r.1 m.bl[A].ch).toNat = b + ((s.mem.drop a).take n).length := by rw [xl, en2]; omega
      dsimp only
      rw [e5, en2, Int.toNat_natCast, q3.mem, h.eq.mem]
      exact hfin
    · have := bad hq
      subst this
      have eng3 : EngR (s.X hid) G3 s.tid s.sid s.C s.sz s.g s.ms := h1.raw.eng.fr fr3 h1.raw.w
      have zz := g5.sm g4 gl (by have := gM; omega)
      obtain ⟨G4, b1, b2, b3⟩ := heap_Heap_back.sp p2 zz (a := m.bl[A].at_) (ch := m.bl[A].ch) (asked := m.bl[A].asked) (by omega) (by omega) (g := s.g) (ms := s.ms) (tid := s.tid) (sid := s.sid) eng3
      rw [if_neg hq, condN_pos hq]
      have b1' : CW heap_Heap_back.id [.c (.ptr hid 0), .agg [.int .i64 (a : Int), .int .i64 m.bl[A].ch, .int .i64 m.bl[A].asked], .agg [.int .i64 s.c.G, .sl 2 s.tid 0 s.C, .sl 2 s.sid 0 s.ms.length]] G3 = some ([], G4) := by rw [← ea]; exact b1
      rw [b1']
      simp only [q_bs, q_I, q_B, q_P, q_S, q_M, q_c, q_a, q_gz, q_gs, q_gk, q_ct, q_cf, q_nt, q_nf, q_xt, q_xf, q_tt, q_ff, q_tf, q_ft, q_at, q_af]
      have at0 := pat hq
      rw [at0]
      refine ⟨G4, _, rfl, ⟨b2, ⟨h.cf.tp, h.cf.C, h.cf.so, h.cf.sz, h.cf.mem, h.cf.on, ?_, h.cf.mm⟩, ?_, ⟨h.eq.c, h.eq.peak, h.eq.mark, h.eq.on, h.eq.mem⟩, ?_, h.ok⟩, frA.trans b3, rfl⟩
      · show (metQ (metQ s.met _ _ (-1)) _ _ 1).length = _
        rw [metQ_len, metQ_len]; exact h.cf.met
      · exact h.bl.again h.cf hA rfl rfl rfl rfl rfl rfl
      · show m.live = s.live - m.bl[A].ch + m.bl[A].ch
        omega
end Go.Proofs.D.S
/- A heap and its model: every call. -/
set_option linter.unusedVariables false
set_option linter.unusedSimpArgs false
namespace Go.Proofs.D.S
open Go Go.RowKit
variable {G G' G0 G1 : GH} {hid : Nat} {s : HS} {e l u : Nat} {bl : List Blk} {m : Mod}
theorem heap_Heap_Do.blk (h0 : 1 ≤ hid) {o : OpV} (hk : 4 ≤ o.k ∧ o.k ≤ 8) {x : AnsV} (k : CW heap_Heap_block.id [.c (.ptr hid 0), .agg (eOp o)] G = some ([.agg (eAns x)], G')) :
    CW heap_Heap_Do.id [.c (.ptr hid 0), .agg (eOp o)] G = some ([.agg (eAns x)], G') := by
  have k2 : ∀ t : Bool, t = true → heap_Heap_Do.J56 machW CW hid 0 o.k t o.k o.p o.s o.a o.n o.b 0 0 0 0 0 0 0 0 G = some ([.agg (eAns x)], G') := by
    rintro t rfl
    rw [heap_Heap_Do.J56_eq, q_ct, k]
    simp only [q_bs, q_I, q_B, q_P, q_S, q_M, q_c, q_a, q_gz, q_gs, q_gk, q_ct, q_cf, q_nt, q_nf, q_xt, q_xf, q_tt, q_ff, q_tf, q_ft, q_at, q_af, List.length_cons, List.length_nil, if_true, Nat.zero_add, Nat.reduceAdd]
  rw [heap_Heap_Do.cw]
  unfold heap_Heap_Do.f
  rw [nbf h0, q_xf, q_cf, condD_neg (by omega), condD_neg (by omega), condD_neg (by omega)]
  by_cases k4 : o.k = 4
  · rw [condD_pos k4]; exact k2 _ (decide_eq_true k4)
  rw [condD_neg k4]
  by_cases k5 : o.k = 5
  · rw [condD_pos k5]; exact k2 _ (decide_eq_true k5)
  rw [condD_neg k5]
  by_cases k6 : o.k = 6
  · rw [condD_pos k6]; exact k2 _ (decide_eq_true k6)
  rw [condD_neg k6]
  by_cases k7 : o.k = 7
  · rw [condD_pos k7]; exact k2 _ (decide_eq_true k7)
  rw [condD_neg k7]
  exact k2 _ (decide_eq_true (by omega))
theorem block_M (h : HM G hid s e l u m) {o : OpV} (hk : 4 ≤ o.k ∧ o.k ≤ 8) {A : Nat} (hA : A < m.bl.length) (hp : findB m.bl o.p = some A) :
    HDo G hid s e l u (CW heap_Heap_block.id [.c (.ptr hid 0), .agg (eOp o)] G) (ofM m o A m.bl[A]) := by
  have f := h.cf.tp.ok.facts
  have hmem := h.cf.mem
  have hb := h.ok.bl _ (List.getElem_mem hA)
  have hm0 : mapGet s.es (kv o.p) = some (vB m.bl[A]) := by rw [h.bl.get, hp, Option.bind_some, List.getElem?_eq_getElem hA]; rfl
  have hm : mapGet s.es (kv o.p) = some (bv m.bl[A].at_ m.bl[A].ch m.bl[A].asked) := hm0
  rw [h.eq.c, ← hmem] at hb
  obtain ⟨k, p, sz, a, n, b⟩ := o
  dsimp only at hk hm hp ⊢
  by_cases k4 : k = 4
  · subst k4
    obtain ⟨G', s', e1, x⟩ := realloc_M h (o := ⟨4, p, sz, a, n, b⟩) rfl hA
    exact ⟨G', s', heap_Heap_block.realloc h.raw hm e1, x⟩
  by_cases k5 : k = 5
  · subst k5
    obtain ⟨kk, q, tid, sid, G', g1, g2, g3, g4, g5⟩ := gone_M h.raw h.cf h.bl (by rw [← h.live]; exact h.ok.live) (by rw [← h.ok.live, ← h.eq.c]; exact h.ok.lim) hA
    refine ⟨G', goneS s m.bl[A] A kk q tid sid, ?_, ⟨g2, g4, ?_, ?_, ?_, (ofM_ok h.ok ⟨5, p, sz, a, n, b⟩ hA).1⟩, g3, rfl⟩
    · rw [heap_Heap_block.free h.raw hm g1]; unfold ofM; rfl
    · have : (ofM m ⟨5, p, sz, a, n, b⟩ A m.bl[A]).1.bl = m.bl.take A ++ m.bl.drop (A + 1) := by unfold ofM; rfl
      rw [this]; exact g5
    · have : (ofM m ⟨5, p, sz, a, n, b⟩ A m.bl[A]).1 = { m with bl := m.bl.take A ++ m.bl.drop (A + 1), live := m.live - m.bl[A].ch } := by unfold ofM; rfl
      rw [this]; exact ⟨h.eq.c, h.eq.peak, h.eq.mark, h.eq.on, h.eq.mem⟩
    · have : (ofM m ⟨5, p, sz, a, n, b⟩ A m.bl[A]).1 = { m with bl := m.bl.take A ++ m.bl.drop (A + 1), live := m.live - m.bl[A].ch } := by unfold ofM; rfl
      rw [this]; show m.live - m.bl[A].ch = s.live - m.bl[A].ch; rw [h.live]
  by_cases k6 : k = 6
  · subst k6
    have : ofM m ⟨6, p, sz, a, n, b⟩ A m.bl[A] = (m, ⟨0, 0, m.bl[A].ch, 0, 0, 0, 0, 0⟩) := by unfold ofM; rfl
    rw [this]
    exact ⟨G, s, heap_Heap_block.usable h.raw hm, h, FrX.refl, rfl⟩
  have k78 : k = 7 ∨ k = 8 := by omega
  by_cases hn : n < 0 ∨ n ≥ m.bl[A].ch
  · have : ofM m ⟨k, p, sz, a, n, b⟩ A m.bl[A] = (m, errA 9) := by
      unfold ofM
      dsimp only
      rw [if_neg k4, if_neg k5, if_neg k6, if_pos hn]
    rw [this]
    exact ⟨G, s, heap_Heap_block.bound h.raw k78 hm hn, h, FrX.refl, rfl⟩
  obtain ⟨at_, ea⟩ : ∃ at_ : Nat, m.bl[A].at_ = (at_ : Int) := ⟨m.bl[A].at_.toNat, by omega⟩
  obtain ⟨nn, en⟩ : ∃ nn : Nat, n = (nn : Int) := ⟨n.toNat, by omega⟩
  subst en
  rw [ea] at hm
  have hi : at_ + nn < s.mem.length := by omega
  have et : ((at_ : Int) + (nn : Int)).toNat = at_ + nn := by omega
  by_cases k7 : k = 7
  · subst k7
    have : ofM m ⟨7, p, sz, a, (nn : Int), b⟩ A m.bl[A] = (m, ⟨0, 0, 0, s.mem[at_ + nn], 0, 0, 0, 0⟩) := by
      unfold ofM
      dsimp only
      rw [if_neg k4, if_neg k5, if_neg k6, if_neg hn, if_pos rfl, ea, et, h.eq.mem, getD_lt _ hi]
    rw [this]
    exact ⟨G, s, heap_Heap_block.load h.raw hm (by omega) hi (by omega), h, FrX.refl, rfl⟩
  · have k8 : k = 8 := by omega
    subst k8
    obtain ⟨G', e1, h1, f1⟩ := heap_Heap_block.store h.raw hm (p := p) (sz := sz) (a := a) (b := b) (n := nn) (by omega) hi (by omega)
    have : ofM m ⟨8, p, sz, a, (nn : Int), b⟩ A m.bl[A] = ({ m with mem := s.mem.set (at_ + nn) b }, errA 0) := by
      unfold ofM
      dsimp only
      rw [if_neg k4, if_neg k5, if_neg k6, if_neg hn, if_neg k7, ea, et, h.eq.mem]
    rw [this]
    exact ⟨G', _, e1, h.setMem (by simp) h1, f1, rfl⟩
theorem heap_Heap_Do.sp (h : HM G hid s e l u m) (o : OpV) (hs : R64 o.s) (ha : R64 o.a) (hn : R64 o.n) : HDo G hid s e l u (CW heap_Heap_Do.id [.c (.ptr hid 0), .agg (eOp o)] G) (doM m o) := by
  have h0 := h.raw.h0
  have hol := h.cf.onl
  unfold doM
  by_cases k1 : o.k = 1
  · rw [if_pos (.inl k1)]
    obtain ⟨G', s', e1, x⟩ := aligned_M h (o := o) (al := 1) (by omega) (by rw [if_neg (by omega)]) (by unfold R64; omega)
    refine ⟨G', s', ?_, x⟩
    rw [heap_Heap_Do.cw]
    unfold heap_Heap_Do.f
    rw [nbf h0, q_xf, q_cf, condD_pos k1, e1]
    simp only [q_bs, q_I, q_B, q_P, q_S, q_M, q_c, q_a, q_gz, q_gs, q_gk, q_ct, q_cf, q_nt, q_nf, q_xt, q_xf, q_tt, q_ff, q_tf, q_ft, q_at, q_af, List.length_cons, List.length_nil, if_true, Nat.zero_add, Nat.reduceAdd]
  by_cases k2 : o.k = 2
  · rw [if_pos (.inr (.inl k2))]
    obtain ⟨G', s', e1, x⟩ := calloc_M h k2 hn hs
    refine ⟨G', s', ?_, x⟩
    rw [heap_Heap_Do.cw]
    unfold heap_Heap_Do.f
    rw [nbf h0, q_xf, q_cf, condD_neg k1, condD_pos k2, e1]
    simp only [q_bs, q_I, q_B, q_P, q_S, q_M, q_c, q_a, q_gz, q_gs, q_gk, q_ct, q_cf, q_nt, q_nf, q_xt, q_xf, q_tt, q_ff, q_tf, q_ft, q_at, q_af, List.length_cons, List.length_nil, if_true, Nat.zero_add, Nat.reduceAdd]
  by_cases k3 : o.k = 3
  · rw [if_pos (.inr (.inr k3))]
    obtain ⟨G', s', e1, x⟩ := aligned_M h (o := o) (al := o.a) (by omega) (by rw [if_pos k3]) ha
    refine ⟨G', s', ?_, x⟩
    rw [heap_Heap_Do.cw]
    unfold heap_Heap_Do.f
    rw [nbf h0, q_xf, q_cf, condD_neg k1, condD_neg k2, condD_pos k3, e1]
    simp only [q_bs, q_I, q_B, q_P, q_S, q_M, q_c, q_a, q_gz, q_gs, q_gk, q_ct, q_cf, q_nt, q_nf, q_xt, q_xf, q_tt, q_ff, q_tf, q_ft, q_at, q_af, List.length_cons, List.length_nil, if_true, Nat.zero_add, Nat.reduceAdd]
  rw [if_neg (by omega)]
  by_cases k9 : o.k = 9
  · rw [if_pos k9]
    obtain ⟨k, p, sz, a, n, b⟩ := o
    dsimp only at k9
    subst k9
    obtain ⟨oni, G', e1, h1, f1⟩ := heap_Heap_Do.trim h.raw (by omega) h.cf.met (p := p) (sz := sz) (a := a) (n := n) (b := b)
    have hpg := h.bl.pages
    rw [h.cf.met] at hpg
    rw [hpg] at e1 h1
    have b1 := h.ok.bl
    have b2 := h.ok.lim
    have b3 := h.ok.mem
    rw [h.eq.c] at b1 b2 b3
    rw [h.eq.c, h.eq.on]
    have tl : (trimP s.on (metP s.c.Pg s.on.length m.bl)).length = s.on.length := by unfold trimP; rw [tab_len]
    refine ⟨G', { s with oni := oni, on := trimP s.on (metP s.c.Pg s.on.length m.bl) }, e1, ⟨h1, ⟨h.cf.tp, h.cf.C, h.cf.so, h.cf.sz, h.cf.mem, ?_, ?_, h.cf.mm⟩, ⟨h.bl.ms, h.bl.es, h.bl.met, h.bl.g, h.bl.srt, h.bl.bin⟩, ⟨rfl, h.eq.peak, h.eq.mark, rfl, h.eq.mem⟩, h.live, ⟨h.cf.tp.ok, b1, h.ok.live, b2, h.ok.peak, h.ok.mark, ?_, b3⟩⟩, f1, rfl⟩
    · show (((trimP s.on _).length : Nat) : Int) * s.c.Pg = _
      rw [tl]; exact h.cf.on
    · show s.met.length = (trimP s.on _).length
      rw [tl]; exact h.cf.met
    · show (((trimP s.on _).length : Nat) : Int) * s.c.Pg = s.c.H
      rw [tl]; exact h.cf.on
  rw [if_neg k9]
  by_cases k10 : o.k = 10
  · rw [if_pos k10]
    obtain ⟨k, p, sz, a, n, b⟩ := o
    dsimp only at k10
    subst k10
    refine ⟨G, s, ?_, h, FrX.refl, rfl⟩
    rw [heap_Heap_Do.figures h.raw (by omega), h.live, h.eq.peak, h.eq.mark, h.eq.on]
  rw [if_neg k10]
  by_cases k48 : 4 ≤ o.k ∧ o.k ≤ 8
  · rw [if_pos (by omega)]
    cases hf : findB m.bl o.p with
    | none =>
      have hm : mapGet s.es (kv o.p) = none := by rw [h.bl.get, hf]; rfl
      exact ⟨G, s, heap_Heap_Do.blk h0 k48 (heap_Heap_block.none h.raw hm), h, FrX.refl, rfl⟩
    | some A =>
      obtain ⟨hA, _⟩ := findB_lt hf
      dsimp only
      rw [getD_lt _ hA]
      obtain ⟨G', s', e1, x⟩ := block_M h k48 hA hf
      exact ⟨G', s', heap_Heap_Do.blk h0 k48 e1, x⟩
  · rw [if_neg (by omega)]
    refine ⟨G, s, ?_, h, FrX.refl, rfl⟩
    rw [heap_Heap_Do.cw]
    unfold heap_Heap_Do.f
    rw [nbf h0, q_xf, q_cf, condD_neg k1, condD_neg k2, condD_neg k3, condD_neg (by omega), condD_neg (by omega), condD_neg (by omega), condD_neg (by omega), heap_Heap_Do.J56_eq, decide_eq_false (show ¬ o.k = 8 by omega), q_cf, condD_neg k9, condD_neg k10]
    rfl
end Go.Proofs.D.S
/- A heap begins; its blocks are told. -/
set_option linter.unusedVariables false
set_option linter.unusedSimpArgs false
namespace Go.Proofs.D.S
open Go Go.RowKit
variable {G G' G0 G1 : GH} {hid : Nat} {s : HS} {e l u : Nat} {bl : List Blk} {m : Mod}
theorem heap_Heap_Blocks.sp (h : HM G hid s e l u m) : ∃ id G', CW heap_Heap_Blocks.id [.c (.ptr hid 0)] G = some ([.c (.sl 3 id 0 m.bl.length)], G') ∧ Hp G G' [rowE eBlk id m.bl] := by
  have hm : (1000000001 : Nat) ≤ most := by unfold most; decide
  have hlen : m.bl.length ≤ 100000 := by
    have := h.raw.eng.len
    rw [h.bl.ms, List.length_map] at this
    exact this
  have hms : s.ms.length = m.bl.length := by rw [h.bl.ms, List.length_map]
  have l10 : G.ld hid 10 = some (.sl 2 s.sid 0 m.bl.length) := by rw [h.raw.ld, ← hms]; rfl
  have mget : ∀ i (hi : i < s.ms.length), s.ms[i].1 = (m.bl[i]'(by omega)).at_ := by
    have : ∀ ms (h : ms = m.bl.map (mkB e)) i (hi : i < ms.length) (h2 : i < m.bl.length), ms[i].1 = (m.bl[i]'h2).at_ := by rintro ms rfl i hi h2; simp [mkB]
    intro i hi
    exact this _ h.bl.ms i hi (by omega)
  have lp : ∀ (d i : Nat) (oid : Nat) (G2 : GH), i + d = m.bl.length → Hp G G2 [rowE eBlk oid (m.bl.take i)] →
      ∃ id G', heap_Heap_Blocks.L21 machW CW hid 0 oid 0 i s.sid 0 m.bl.length (m.bl.length : Int) (i : Int) G2 = some ([.c (.sl 3 id 0 m.bl.length)], G') ∧ Hp G G' [rowE eBlk id m.bl] := by
    intro d
    induction d with
    | zero =>
      intro i oid G2 hi k
      have : i = m.bl.length := by omega
      subst this
      rw [heap_Heap_Blocks.L21_eq, condD_neg (by omega)]
      rw [List.take_length] at k
      exact ⟨oid, G2, rfl, k⟩
    | succ d ih =>
      intro i oid G2 hi k
      have hib : i < m.bl.length := by omega
      have r2 := h.raw.keep k
      have sd2 := r2.eng.sd.1
      have g0 := sd2.ld i 0 (by omega) (by omega)
      have g1 := sd2.ld i 1 (by omega) (by omega)
      simp only [Nat.zero_add, Nat.add_zero] at g0 g1
      have l11 : G2.ld hid 11 = some (.map s.mid) := by rw [r2.ld]; rfl
      obtain ⟨A, hA, a1, a2⟩ := findB_mem h.bl.srt h.bl.ch1 (List.getElem_mem hib)
      have hg : mapGet s.es (kv m.bl[i].at_) = some (vB m.bl[i]) := by rw [h.bl.get, a1, Option.bind_some, List.getElem?_eq_getElem hA, a2]; rfl
      have hg' : mapGet s.es (.agg [.int .i64 m.bl[i].at_]) = some (.agg [.int .i64 m.bl[i].at_, .int .i64 m.bl[i].ch, .int .i64 m.bl[i].asked]) := hg
      obtain ⟨oid', G3, h3, hoid, fo, key⟩ := k.app1F (S := Res) m.bl[i] (n := i) (by simp; omega) (by simp; omega)
      rw [heap_Heap_Blocks.L21_eq, condD_pos (by omega), guardD_of (by omega)]
      simp only [Nat.zero_add, Nat.add_zero, Int.toNat_natCast, g0, g1, eMk, List.getElem?_cons_zero, List.getElem?_cons_succ, q_bs, q_I, q_B, q_P, q_S, q_M, q_c, q_a, q_gz, q_gs, q_gk, q_ct, q_cf, q_nt, q_nf, q_xt, q_xf, q_tt, q_ff, q_tf, q_ft, q_at, q_af]
      rw [guardK_of (nb0 h.raw.h0), l11]
      simp only [q_bs, q_I, q_B, q_P, q_S, q_M, q_c, q_a, q_gz, q_gs, q_gk, q_ct, q_cf, q_nt, q_nf, q_xt, q_xf, q_tt, q_ff, q_tf, q_ft, q_at, q_af]
      rw [r2.ents0, q_bs, mget i (by omega), hg']
      simp only [Option.getD_some, q_bs, q_I, q_B, q_P, q_S, q_M, q_c, q_a, q_gz, q_gs, q_gk, q_ct, q_cf, q_nt, q_nf, q_xt, q_xf, q_tt, q_ff, q_tf, q_ft, q_at, q_af, List.length_cons, List.length_nil, if_true, Nat.zero_add, Nat.reduceAdd]
      simp only [eBlk] at key
      rw [key, i64w, wrap_id (by omega) (by omega), show (i : Int) + 1 = ((i + 1 : Nat) : Int) by omega]
      rw [show m.bl.take i ++ [m.bl[i]] = m.bl.take (i + 1) by rw [List.take_add_one, List.getElem?_eq_getElem hib]; rfl] at h3
      exact ih (i + 1) oid' G3 (by omega) h3
  rw [heap_Heap_Blocks.cw]
  unfold heap_Heap_Blocks.f
  rw [nbf h.raw.h0, q_xf, q_cf, q_nf, q_gk]
  simp only [Nat.zero_add, Nat.reduceAdd, l10, q_bs, q_I, q_B, q_P, q_S, q_M, q_c, q_a, q_gz, q_gs, q_gk, q_ct, q_cf, q_nt, q_nf, q_xt, q_xf, q_tt, q_ff, q_tf, q_ft, q_at, q_af]
  exact lp m.bl.length 0 0 G (by omega) ((Hp.refl h.raw.w).nil0 (e := eBlk))
theorem heap_New.no (w : G.wf) {r : Rw} (hr : (ofC r).2 ≠ 0) : ∃ G', CW heap_New.id [.agg (rwC r)] G = some ([.c (.ptr 0 0), .c (.int .i64 (ofC r).2)], G') ∧ Hp G G' [] := by
  obtain ⟨G1, e1, h1⟩ := conf_Of.sp r w
  refine ⟨G1, ?_, h1⟩
  rw [heap_New.cw]
  unfold heap_New.f
  rw [e1]
  simp only [q_bs, q_I, q_B, q_P, q_S, q_M, q_c, q_a, q_gz, q_gs, q_gk, q_ct, q_cf, q_nt, q_nf, q_xt, q_xf, q_tt, q_ff, q_tf, q_ft, q_at, q_af, List.length_cons, List.length_nil, if_true, Nat.zero_add, Nat.reduceAdd]
  rw [condN_pos hr]
/-- Places of a class. -/
def szN (l u k : Nat) : Nat := (2 + l) * u * 2 ^ (l - k)
theorem Cf.Tp.szH {c : Cf} (tp : c.Tp e l u) : c.H = ((2 ^ e * szN l u 0 : Nat) : Int) := by
  have h1 := tp.ceil (k := l) (Nat.le_refl _)
  have h2 := (tp.ok.ceil (k := (l : Int)) (by omega) (by rw [tp.ex.hL]; omega)).1
  have h3 : c.H = c.M + c.L * (c.M / 2) := tp.ok.hH
  rw [tp.ex.hL, ← h2, h1] at h3
  rw [h3]
  congr 1
  unfold tP szN
  rw [Nat.sub_self, Nat.pow_zero, Nat.mul_one, Nat.sub_zero, Nat.pow_add, Nat.mul_comm u, Nat.mul_comm (2 ^ e) (2 ^ l), ← Nat.mul_assoc, Nat.mul_comm]
theorem szN_ok {c : Cf} (tp : c.Tp e l u) : SzOk (l + 1) (szN l u) ∧ ∀ k, k < l + 1 → 1 ≤ szN l u k := by
  have f := tp.ok.facts
  have hl : l ≤ 16 := by have := tp.ex.hgl; omega
  have hs := tp.szH
  have z := Nat.two_pow_pos e
  have h0 : szN l u 0 ≤ 2 ^ e * szN l u 0 := Nat.le_mul_of_pos_left _ z
  refine ⟨⟨⟨by omega, by omega⟩, fun k hk => ?_, fun k hk => ?_, by omega⟩, fun k hk => ?_⟩
  · unfold szN
    rw [show l - k = (l - (k + 1)) + 1 by omega, Nat.pow_succ, ← Nat.mul_assoc, Nat.mul_comm]
  · unfold szN
    rw [Nat.mul_assoc, ← Nat.pow_add, show l - k + k = l - 0 by omega]
  · unfold szN
    exact Nat.mul_pos (Nat.mul_pos (by omega) tp.hu) (Nat.two_pow_pos _)
theorem heap_New.sp (w : G.wf) {r : Rw} (hr : (ofC r).2 = 0) : ∃ (hid : Nat) (s : HS) (e l u : Nat) (G' : GH), CW heap_New.id [.agg (rwC r)] G = some ([.c (.ptr hid 0), .c (.int .i64 0)], G') ∧ Hp G G' [] ∧ HM G' hid s e l u (newM (ofC r).1) ∧ ∀ x ∈ s.X hid, G.next ≤ x := by
  have hmost : (1000000001 : Nat) ≤ most := by unfold most; decide
  have ok := ofC_ok hr
  obtain ⟨G1, e1, h1⟩ := conf_Of.sp r w
  rw [hr] at e1
  generalize (ofC r).1 = c at *
  have f := ok.facts
  obtain ⟨e, l, u, tp⟩ := ok.tp
  obtain ⟨np, hnp⟩ := ok.pages
  have eHP : c.H / c.Pg = (np : Int) := by rw [hnp, Int.mul_ediv_cancel _ (by omega)]
  obtain ⟨so, hpos⟩ := szN_ok tp
  have hsH := tp.szH
  have hl16 : l ≤ 16 := by have := tp.ex.hgl; omega
  have ze := Nat.two_pow_pos e
  have hnpl : (np : Int) ≤ c.H := by
    have := Int.mul_le_mul_of_nonneg_left (show (1 : Int) ≤ c.Pg by omega) (show (0 : Int) ≤ (np : Int) by omega)
    rw [hnp]; omega
  have q1 : binD .quo .i64 c.H c.Pg = some (np : Int) := by
    rw [binD_quo (by omega), Int.tdiv_eq_ediv_of_nonneg (by omega), eHP, i64w, wrap_id (by omega) (by omega)]
  have q2 : binD .quo .i64 c.H c.G = some ((szN l u 0 : Nat) : Int) := by
    have hs0 : szN l u 0 ≤ 65536 := so.top
    rw [binD_quo (by omega), Int.tdiv_eq_ediv_of_nonneg (by omega), hsH, tp.ex.hG, Int.natCast_mul, Int.mul_ediv_cancel_left _ (by omega), i64w, wrap_id (by omega) (by omega)]
  rw [heap_New.cw]
  unfold heap_New.f
  rw [e1]
  simp only [q_bs, q_I, q_B, q_P, q_S, q_M, q_c, q_a, q_gz, q_gs, q_gk, q_ct, q_cf, q_nt, q_nf, q_xt, q_xf, q_tt, q_ff, q_tf, q_ft, q_at, q_af, List.length_cons, List.length_nil, if_true, Nat.zero_add, Nat.reduceAdd]
  rw [condN_neg trivial, q1]
  simp only [q_bs, q_I, q_B, q_P, q_S, q_M, q_c, q_a, q_gz, q_gs, q_gk, q_ct, q_cf, q_nt, q_nf, q_xt, q_xf, q_tt, q_ff, q_tf, q_ft, q_at, q_af]
  rw [guardD_of (by omega), guardD_of (by omega), guardD_of (by omega), q2]
  simp only [q_bs, q_I, q_B, q_P, q_S, q_M, q_c, q_a, q_gz, q_gs, q_gk, q_ct, q_cf, q_nt, q_nf, q_xt, q_xf, q_tt, q_ff, q_tf, q_ft, q_at, q_af]
  have hl1 : IntKind.i64.wrap (c.L + 1) = ((l + 1 : Nat) : Int) := by rw [i64w, wrap_id (by omega) (by omega), tp.ex.hL]; rfl
  obtain ⟨M, eM⟩ : ∃ M : Nat, c.H = (M : Int) := ⟨c.H.toNat, by omega⟩
  have hMs : M = 2 ^ e * szN l u 0 := by rw [eM] at hsH; exact_mod_cast hsH
  rw [hl1, Int.toNat_natCast, eM, Int.toNat_natCast]
  rw [show [Cell.int IntKind.i64 0] = eI 0 from rfl, reps_tab (e := eI) np 0, show [Cell.bool false] = eB false from rfl, reps_tab (e := eB) np false, show [Cell.int IntKind.u8 0] = eU8 0 from rfl, reps_tab (e := eU8) M 0]
  simp only [GH.next_alloc]
  have hw := h1.wf.2
  have hn := h1.nx
  have k1 := h1.alloc (.map kA [])
  have k2 := k1.alloc (.row (cells eI (tab np fun _ => 0)) false)
  have k3 := k2.alloc (.row (cells eB (tab np fun _ => false)) false)
  have k4 := k3.alloc (.row (cells eU8 (tab M fun _ => 0)) false)
  obtain ⟨row, erow⟩ : ∃ row : List Cell, row = [Cell.int .i64 c.G, .int .i64 c.N, .int .i64 c.M, .int .i64 c.L, .int .i64 c.Pg, .int .i64 c.P, .int .i64 (M : Int), .int .i64 c.Sd, .int .i64 0, .sl 2 0 0 0, .sl 2 0 0 0, .map G1.next, .int .i64 0, .int .i64 0, .int .i64 0, .sl 1 (G1.next + 1) 0 np, .sl 1 (G1.next + 1 + 1) 0 np, .sl 1 (G1.next + 1 + 1 + 1) 0 M] := ⟨_, rfl⟩
  rw [← erow]
  have k5 := k4.alloc (.row row false)
  simp only [GH.next_alloc] at k2 k3 k4 k5
  generalize hG5 : ((((G1.alloc (.map kA [])).alloc (.row (cells eI (tab np fun _ => 0)) false)).alloc (.row (cells eB (tab np fun _ => false)) false)).alloc (.row (cells eU8 (tab M fun _ => 0)) false)).alloc (.row row false) = G5 at k5 ⊢
  have hnx5 : G5.next = G1.next + 5 := by rw [← hG5]; rfl
  generalize G1.next = n at *
  obtain ⟨X, eX⟩ : ∃ X : List Nat, X = [n + 1 + 1 + 1 + 1, n, n + 1, n + 1 + 1 + 1] := ⟨_, rfl⟩
  have hX : Ids G5 X := fun x hx => by rw [eX] at hx; simp only [List.mem_cons, List.not_mem_nil, or_false] at hx; omega
  obtain ⟨tid, G6, p1, p2, p3⟩ := place_New.sp k5.wf so (by omega) hpos hX (Gg := 2 ^ e) rfl (by rw [← hMs]; omega)
  have k6 := k5.trans0 p2
  rw [tp.ex.hG, p1]
  simp only [q_bs, q_I, q_B, q_P, q_S, q_M, q_c, q_a, q_gz, q_gs, q_gk, q_ct, q_cf, q_nt, q_nf, q_xt, q_xf, q_tt, q_ff, q_tf, q_ft, q_at, q_af, List.length_cons, List.length_nil, if_true, Nat.zero_add, Nat.reduceAdd]
  rw [guardK_of (nb0 (by omega))]
  obtain ⟨s, es⟩ : ∃ s : HS, s = ⟨c, tid, 0, n, n + 1, n + 1 + 1, n + 1 + 1 + 1, l + 1, szN l u, fun q => decide (szN l u 0 ≤ q), [], [], 0, 0, 0, tab np fun _ => 0, tab np fun _ => false, tab M fun _ => 0⟩ := ⟨_, rfl⟩
  have g6 : G6.get (n + 1 + 1 + 1 + 1) = some (.row row false) := k6.get (List.mem_cons_self ..) (by omega)
  have sts : G6.sts (n + 1 + 1 + 1 + 1) 8 [.int .i64 ((2 ^ e : Nat) : Int), .sl 2 tid 0 (l + 1), .sl 2 0 0 0] = some (G6.set (n + 1 + 1 + 1 + 1) (some (.row s.cells false))) := by
    unfold GH.sts
    rw [own_row g6, Option.bind_some, if_pos (by rw [erow]; simp)]
    congr 4
    rw [erow, es]
    unfold HS.cells cfC splice
    simp only [tab_len, List.length_nil, eM, tp.ex.hG]
    rfl
  have eXs : s.X (n + 1 + 1 + 1 + 1) = X := by rw [es, eX]; rfl
  have fr : FrX X G6 (G6.set (n + 1 + 1 + 1 + 1) (some (.row s.cells false))) := FrX.set (by rw [eX]; simp)
  refine ⟨n + 1 + 1 + 1 + 1, s, e, l, u, G6.set (n + 1 + 1 + 1 + 1) (some (.row s.cells false)), ?_, k6.nil.set0 (by omega) g6, ⟨⟨wf_set' k6.wf g6, by rw [GH.get_set, if_pos rfl], ?_, ?_, ?_, by omega, ?_, ?_, ?_, ?_, ?_⟩, ⟨?_, ?_, ?_, ?_, ?_, ?_, ?_, ?_⟩, ⟨?_, ?_, ?_, ?_, ?_, ?_⟩, ⟨?_, ?_, ?_, ?_, ?_⟩, ?_, newM_ok ok⟩, ?_⟩
  · rw [sts]; rfl
  · rw [GH.get_set, es, if_neg (show ¬ n = n + 1 + 1 + 1 + 1 by omega)]; exact k6.get (id := n) (by simp) (by omega)
  · rw [GH.get_set, es, if_neg (show ¬ n + 1 = n + 1 + 1 + 1 + 1 by omega)]; exact k6.get (id := n + 1) (by simp) (by omega)
  · rw [GH.get_set, es, if_neg (show ¬ n + 1 + 1 + 1 = n + 1 + 1 + 1 + 1 by omega)]; exact k6.get (id := n + 1 + 1 + 1) (by simp) (by omega)
  · rw [es]; show n ≠ 0; omega
  · rw [es]; show _ ≠ n ∧ _ ≠ n + 1 ∧ _ ≠ n + 1 + 1 + 1 ∧ n ≠ n + 1 ∧ n ≠ n + 1 + 1 + 1 ∧ n + 1 ≠ n + 1 + 1 + 1; omega
  · rw [eXs, es]
    refine Sx.fr (G := G6) ⟨k6.sl (e := eB) (by simp), .inr ?_⟩ (by rw [es] at fr; exact fr) k6.wf
    rw [eX]; simp only [List.mem_cons, List.not_mem_nil, or_false]; omega
  · rw [es]; show n + 1 + 1 ≠ 0; omega
  · rw [eXs]
    have := p3.fr fr p2.wf
    rw [es] at this ⊢
    exact this
  · rw [es]; exact tp
  · rw [es]
  · rw [es]; exact so
  · rw [es]; show 2 ^ e * szN l u 0 = (tab M fun _ => (0 : Int)).length; rw [tab_len, hMs]
  · rw [es]; show (((tab M fun _ => (0 : Int)).length : Nat) : Int) = c.H; rw [tab_len, eM]
  · rw [es]; show (((tab np fun _ => false).length : Nat) : Int) * c.Pg = c.H; rw [tab_len, hnp]
  · rw [es]; show (tab np fun _ => (0 : Int)).length = (tab np fun _ => false).length; rw [tab_len, tab_len]
  · rw [es]; show n + 1 + 1 + 1 ≠ 0; omega
  · rw [es]; rfl
  · rw [es]; exact ⟨[], rfl, .refl _⟩
  · rw [es]; show (tab np fun _ => (0 : Int)) = tab (tab np fun _ => (0 : Int)).length _; rw [tab_len]; rfl
  · intro q; rw [es]; show decide _ = (decide _ || false); rw [Bool.or_false]
  · exact List.Pairwise.nil
  · intro b hb; cases hb
  · rw [es]; rfl
  · rw [es]; rfl
  · rw [es]; rfl
  · rw [es]; show (tab (c.H / c.Pg).toNat fun _ => false) = tab np fun _ => false; rw [eHP, Int.toNat_natCast]
  · rw [es]; show (tab c.H.toNat fun _ => (0 : Int)) = tab M fun _ => 0; rw [eM, Int.toNat_natCast]
  · rw [es]; rfl
  · intro x hx
    rw [eXs, eX] at hx
    simp only [List.mem_cons, List.not_mem_nil, or_false] at hx
    omega
end Go.Proofs.D.S
/- What may not differ, plainly: the program's own reader. -/
set_option linter.unusedVariables false
namespace Go.Proofs.D.S
open Go Go.RowKit
section
variable {κ β γ : Type} [DecidableEq κ]
variable {f : β → γ}
end
/-- A block: how much is charged, up to where it is nought, which bytes else are known. -/
structure PB where
  (ch no : Int)
  tl : List Int
end Go.Proofs.D.S
/- Calls that fail change nothing. -/
set_option linter.unusedVariables false
namespace Go.Proofs.D.S
open Go Go.RowKit
theorem giveM_fail (m : Mod) (o : OpV) (h : (giveM m o).2.err ≠ 0) : (giveM m o).1 = m := by
  unfold giveM at h ⊢
  dsimp only at h ⊢
  generalize (if o.k = 2 then manyS m.c.G m.c.N m.c.M m.live o.n o.s else newS m.c.G m.c.N m.c.M m.live o.s (if o.k = 3 then o.a else 1)) = r at h ⊢
  generalize (if o.k = 2 then wrap64 (o.n * o.s) else o.s) = s at h ⊢
  by_cases h1 : r.2 = 0
  · rw [if_pos h1] at h ⊢
    by_cases h2 : (placeM m m.bl r.1 s).2.2 = 0
    · rw [if_pos h2] at h; exact absurd rfl h
    · rw [if_neg h2]
  · rw [if_neg h1]
theorem ofM_fail (m : Mod) (o : OpV) (A : Nat) (b : Blk) (h : (ofM m o A b).2.err ≠ 0) : (ofM m o A b).1 = m := by
  unfold ofM at h ⊢
  dsimp only at h ⊢
  by_cases h4 : o.k = 4
  · rw [if_pos h4] at h ⊢
    by_cases h1 : (newS m.c.G m.c.N m.c.M (m.live - b.ch) o.s 1).2 = 0
    · rw [if_pos h1] at h ⊢
      by_cases h2 : (placeM m (m.bl.take A ++ m.bl.drop (A + 1)) (newS m.c.G m.c.N m.c.M (m.live - b.ch) o.s 1).1 o.s).2.2 = 0
      · rw [if_pos h2] at h; exact absurd rfl h
      · rw [if_neg h2]
    · rw [if_neg h1]
  · rw [if_neg h4] at h ⊢
    by_cases h5 : o.k = 5
    · rw [if_pos h5] at h; exact absurd rfl h
    · rw [if_neg h5] at h ⊢
      by_cases h6 : o.k = 6
      · rw [if_pos h6]
      · rw [if_neg h6] at h ⊢
        by_cases h7 : o.n < 0 ∨ o.n ≥ b.ch
        · rw [if_pos h7]
        · rw [if_neg h7] at h ⊢
          by_cases h8 : o.k = 7
          · rw [if_pos h8]
          · rw [if_neg h8] at h; exact absurd rfl h
theorem doM_fail (m : Mod) (o : OpV) (h : (doM m o).2.err ≠ 0) : (doM m o).1 = m := by
  unfold doM at h ⊢
  by_cases h1 : o.k = 1 ∨ o.k = 2 ∨ o.k = 3
  · rw [if_pos h1] at h ⊢; exact giveM_fail m o h
  · rw [if_neg h1] at h ⊢
    by_cases h9 : o.k = 9
    · rw [if_pos h9] at h; exact absurd rfl h
    · rw [if_neg h9] at h ⊢
      by_cases h10 : o.k = 10
      · rw [if_pos h10]
      · rw [if_neg h10] at h ⊢
        by_cases h4 : o.k = 4 ∨ o.k = 5 ∨ o.k = 6 ∨ o.k = 7 ∨ o.k = 8
        · rw [if_pos h4] at h ⊢
          cases e : findB m.bl o.p with
          | none => rfl
          | some A => rw [e] at h; exact ofM_fail m o A _ h
        · rw [if_neg h4]
end Go.Proofs.D.S
/- What a heap's figures are bounded by. -/
set_option linter.unusedVariables false
namespace Go.Proofs.D.S
open Go Go.RowKit
theorem cnt_mono : ∀ {a b : List Bool}, a.length = b.length → (∀ i : Nat, a.getD i false = true → b.getD i false = true) → cnt a ≤ cnt b
  | [], [], _, _ => Nat.le_refl _
  | x :: a, y :: b, hl, h => by
    have ih := cnt_mono (a := a) (b := b) (by simpa using hl) fun i hi => by have := h (i + 1); simpa using this (by simpa using hi)
    have h0 := h 0
    simp only [List.getD_cons_zero] at h0
    unfold cnt
    cases x <;> cases y <;> simp_all <;> omega
  | [], _ :: _, hl, _ => by simp at hl
  | _ :: _, [], hl, _ => by simp at hl
/-- Only the first few may be true. -/
theorem cnt_first : ∀ {a : List Bool} {n : Nat}, (∀ i : Nat, a.getD i false = true → i < n) → cnt a ≤ n
  | [], n, _ => Nat.zero_le _
  | x :: a, 0, h => by
    have h0 := h 0
    have hx : x = false := by cases x with
      | false => rfl
      | true => exact absurd (h0 rfl) (by omega)
    have := cnt_first (a := a) (n := 0) fun i hi => absurd (h (i + 1) (by simpa using hi)) (by omega)
    subst hx
    unfold cnt; simp; omega
  | x :: a, n + 1, h => by
    have := cnt_first (a := a) (n := n) fun i hi => by have := h (i + 1) (by simpa using hi); omega
    unfold cnt
    cases x <;> simp <;> omega
structure Fig (m : Mod) (B : Int) : Prop where
  lp : m.live ≤ m.peak
  pM : m.peak ≤ m.c.M
  mar : m.mark ≤ B
  pg : ∀ i : Nat, m.on.getD i false = true → ((i : Int) + 1) * m.c.Pg ≤ B
  cp : (cnt m.on : Int) ≤ m.c.P
theorem Fig.mono {m : Mod} {B B' : Int} (h : Fig m B) (hB : B ≤ B') : Fig m B' := ⟨h.lp, h.pM, Int.le_trans h.mar hB, fun i hi => Int.le_trans (h.pg i hi) hB, h.cp⟩
theorem tab_false {n i : Nat} {f : Nat → Bool} (h : (tab n f).getD i false = true) : i < n ∧ f i = true := by
  by_cases hi : i < n
  · rw [tab_getD _ hi] at h; exact ⟨hi, h⟩
  · rw [List.getD_eq_getElem?_getD, List.getElem?_eq_none (by rw [tab_len]; omega)] at h; cases h
/-- Ceilings are of whole pages. -/
theorem Cf.Ok.ceilPg {c : Cf} (h : c.Ok) {k : Int} (h0 : 0 ≤ k) (h1 : k ≤ c.L) : ∃ x : Int, c.ceil k = x * c.Pg := by
  have e := (h.ceil h0 h1).1
  obtain ⟨⟨g, l, p, q, e1, e2, e3, e4, e5, e6, e7, e8, e9⟩, _⟩ := h
  have z : 2 ^ max (g + l) p = 2 ^ (max (g + l) p - p) * 2 ^ p := by rw [← Nat.pow_add]; congr 1; omega
  have m2 : c.M / 2 = ((q * 2 ^ max (g + l) p : Nat) : Int) := by
    rw [e7, Nat.pow_succ, ← Nat.mul_assoc]; omega
  have hM : c.M = 2 * (c.M / 2) := by rw [e7, Nat.pow_succ, ← Nat.mul_assoc]; omega
  refine ⟨(2 + k) * ((q * 2 ^ (max (g + l) p - p) : Nat) : Int), ?_⟩
  have : c.ceil k = (2 + k) * (c.M / 2) := by rw [e, Int.add_mul]; omega
  rw [this, m2, z, e4, ← Nat.mul_assoc]
  push_cast
  simp only [Int.mul_assoc]
/-- What is on behind a commit. -/
theorem commitP_on {on met on' : List Bool} {f b mx : Int} {fr : List Int} (hl : met.length = on.length) (h : commitP on met f b mx = some (on', fr)) :
    (cnt on' : Int) ≤ mx ∧ ∀ i : Nat, on'.getD i false = true → on.getD i false = true ∨ (f ≤ (i : Int) ∧ (i : Int) < b) := by
  have hall : ∀ i : Nat, (allP on f b).getD i false = true → on.getD i false = true ∨ (f ≤ (i : Int) ∧ (i : Int) < b) := by
    intro i hi
    unfold allP at hi
    obtain ⟨_, h2⟩ := tab_false hi
    rcases Bool.or_eq_true_iff.1 h2 with h3 | h3
    · exact .inl h3
    · unfold these at h3
      simp only [Bool.and_eq_true, decide_eq_true_eq] at h3
      exact .inr ⟨by omega, by omega⟩
  unfold commitP at h
  split at h
  · cases h
  · rename_i hn
    simp only [Option.some.injEq, Prod.mk.injEq] at h
    obtain ⟨rfl, _⟩ := h
    by_cases hc : (cnt (allP on f b) : Int) > mx
    · rw [if_pos hc]
      constructor
      · have : cnt (tab on.length fun i => (allP on f b).getD i false && (needP met f b).getD i false) ≤ cnt (needP met f b) := by
          refine cnt_mono (by unfold needP; rw [tab_len, tab_len, hl]) fun i hi => ?_
          obtain ⟨_, h2⟩ := tab_false hi
          exact (Bool.and_eq_true_iff.1 h2).2
        omega
      · intro i hi
        obtain ⟨_, h2⟩ := tab_false hi
        exact hall i (Bool.and_eq_true_iff.1 h2).1
    · rw [if_neg hc]
      exact ⟨by omega, hall⟩
section
variable {g l u : Nat}
theorem placeM_fig {m : Mod} {B : Int} (tp : m.c.Tp g l u) (ok : m.Ok) (fg : Fig m B) {bl : List Blk} (hb : ∀ b ∈ bl, Bin g l u b) {k : Nat} (hk : k ≤ l) (hs : chSum bl + ((2 ^ (g + k) : Nat) : Int) ≤ m.c.M) {asked : Int} (hB : m.c.ceil (k : Int) ≤ B)
    (h : (placeM m bl ((2 ^ (g + k) : Nat) : Int) asked).2.2 = 0) : Fig (placeM m bl ((2 ^ (g + k) : Nat) : Int) asked).1 B := by
  have z := Nat.two_pow_pos (g + k)
  have f := ok.c.facts
  obtain ⟨j, hj1, hj2, _⟩ := room tp hk hb hs
  rcases placeM_cases m bl (n := ((2 ^ (g + k) : Nat) : Int)) (asked := asked) (by omega) (by omega) with ⟨_, e⟩ | e | ⟨j', on', fr, h1, h2, h3, h4, ho, hc, e⟩
  · rw [e] at h; exact absurd h (by show ¬ (7 : Int) = 0; decide)
  · rw [e] at h; exact absurd h (by show ¬ (6 : Int) = 0; decide)
  · rw [hj1] at h1
    cases h1
    rw [e]
    have hend : (j : Int) * ((2 ^ (g + k) : Nat) : Int) + ((2 ^ (g + k) : Nat) : Int) ≤ m.c.ceil (k : Int) := by
      rw [tp.ceil hk, ← Int.natCast_mul, ← Int.natCast_add, Int.ofNat_le]
      have : (j + 1) * 2 ^ (g + k) ≤ tP l u k * (2 + k) * 2 ^ (g + k) := Nat.mul_le_mul_right _ hj2
      rw [Nat.add_mul, Nat.one_mul] at this
      exact this
    have hcs := chSum_put ⟨(j : Int) * ((2 ^ (g + k) : Nat) : Int), ((2 ^ (g + k) : Nat) : Int), asked⟩ bl
    dsimp only at hcs
    have hpM := fg.pM
    have hmk := fg.mar
    obtain ⟨c1, c2⟩ := commitP_on (by unfold metP; rw [tab_len]) hc
    refine ⟨?_, ?_, ?_, fun i hi => ?_, c1⟩
    · show chSum _ ≤ max m.peak (chSum _); omega
    · show max m.peak (chSum _) ≤ m.c.M; omega
    · show max m.mark _ ≤ B; omega
    · rcases c2 i hi with h5 | ⟨h5, h6⟩
      · exact fg.pg i h5
      · obtain ⟨x, hx⟩ := ok.c.ceilPg (k := (k : Int)) (by omega) (by rw [tp.ex.hL]; omega)
        show ((i : Int) + 1) * m.c.Pg ≤ B
        unfold pagesP at h6
        rw [if_neg (by omega)] at h6
        dsimp only at h6
        have h7 : (i : Int) ≤ ((j : Int) * ((2 ^ (g + k) : Nat) : Int) + ((2 ^ (g + k) : Nat) : Int) - 1) / m.c.Pg := by omega
        have h8 := (Int.le_ediv_iff_mul_le (show 0 < m.c.Pg by omega)).1 h7
        have h9 : (i : Int) * m.c.Pg < x * m.c.Pg := by rw [← hx]; omega
        have h10 := Int.lt_of_mul_lt_mul_right h9 (by omega)
        have h11 : ((i : Int) + 1) * m.c.Pg ≤ x * m.c.Pg := Int.mul_le_mul_of_nonneg_right (by omega) (by omega)
        omega
/-- Figures stay bounded. -/
theorem doM_fig {m : Mod} {B : Int} (tp : m.c.Tp g l u) (ok : m.Ok) (hb : ∀ b ∈ m.bl, Bin g l u b) (fg : Fig m B) (o : OpV) (hB : ∀ k : Nat, k ≤ l → (∃ b ∈ (doM m o).1.bl, b.ch = ((2 ^ (g + k) : Nat) : Int)) → m.c.ceil (k : Int) ≤ B) : Fig (doM m o).1 B := by
  have f := ok.c.facts
  have here : ∀ (bl : List Blk), (∀ b ∈ bl, Bin g l u b) → ∀ (k : Nat) (asked : Int), k ≤ l → chSum bl + ((2 ^ (g + k) : Nat) : Int) ≤ m.c.M → (placeM m bl ((2 ^ (g + k) : Nat) : Int) asked).2.2 = 0 → ∃ b ∈ (placeM m bl ((2 ^ (g + k) : Nat) : Int) asked).1.bl, b.ch = ((2 ^ (g + k) : Nat) : Int) := by
    intro bl hbl k asked hk hs h
    have z := Nat.two_pow_pos (g + k)
    rcases placeM_cases m bl (n := ((2 ^ (g + k) : Nat) : Int)) (asked := asked) (by omega) (by omega) with ⟨_, e⟩ | e | ⟨j', on', fr, h1, h2, h3, h4, ho, hc, e⟩
    · rw [e] at h; exact absurd h (by show ¬ (7 : Int) = 0; decide)
    · rw [e] at h; exact absurd h (by show ¬ (6 : Int) = 0; decide)
    · rw [e]; exact ⟨_, (putB_mem _ _ _).2 (.inl rfl), rfl⟩
  by_cases he : (doM m o).2.err ≠ 0
  · rw [doM_fail m o he]; exact fg
  have he : (doM m o).2.err = 0 := by omega
  unfold doM at hB he ⊢
  by_cases h1 : o.k = 1 ∨ o.k = 2 ∨ o.k = 3
  · rw [if_pos h1] at hB he ⊢
    unfold giveM at hB he ⊢
    dsimp only at hB he ⊢
    have hr : ((if o.k = 2 then manyS m.c.G m.c.N m.c.M m.live o.n o.s else newS m.c.G m.c.N m.c.M m.live o.s (if o.k = 3 then o.a else 1)).2 ≠ 0 ∧ (if o.k = 2 then manyS m.c.G m.c.N m.c.M m.live o.n o.s else newS m.c.G m.c.N m.c.M m.live o.s (if o.k = 3 then o.a else 1)).1 = 0) ∨ ((if o.k = 2 then manyS m.c.G m.c.N m.c.M m.live o.n o.s else newS m.c.G m.c.N m.c.M m.live o.s (if o.k = 3 then o.a else 1)).2 = 0 ∧ m.live + (if o.k = 2 then manyS m.c.G m.c.N m.c.M m.live o.n o.s else newS m.c.G m.c.N m.c.M m.live o.s (if o.k = 3 then o.a else 1)).1 ≤ m.c.M ∧ ∃ k : Nat, k ≤ l ∧ (if o.k = 2 then manyS m.c.G m.c.N m.c.M m.live o.n o.s else newS m.c.G m.c.N m.c.M m.live o.s (if o.k = 3 then o.a else 1)).1 = ((2 ^ (g + k) : Nat) : Int)) := by
      by_cases h2 : o.k = 2
      · simp only [if_pos h2]; exact charge_many tp.ex _ _ _
      · simp only [if_neg h2]; exact charge_new tp.ex _ _ _
    generalize (if o.k = 2 then manyS m.c.G m.c.N m.c.M m.live o.n o.s else newS m.c.G m.c.N m.c.M m.live o.s (if o.k = 3 then o.a else 1)) = r at *
    generalize (if o.k = 2 then wrap64 (o.n * o.s) else o.s) = s at *
    rcases hr with ⟨h2, _⟩ | ⟨h2, h3, k, hk, h4⟩
    · rw [if_neg h2] at he; exact absurd he h2
    · rw [if_pos h2, h4] at hB he ⊢
      rw [ok.live, h4] at h3
      by_cases hq : (placeM m m.bl ((2 ^ (g + k) : Nat) : Int) s).2.2 = 0
      · rw [if_pos hq] at hB he ⊢
        have hbl := here m.bl hb k s hk h3 hq
        have fgp := placeM_fig tp ok fg hb hk h3 (asked := s) (hB k hk (by
          dsimp only
          by_cases h2 : o.k = 2
          · rw [if_pos h2]; exact hbl
          · rw [if_neg h2]; exact hbl)) hq
        by_cases h2 : o.k = 2
        · simp only [if_pos h2]; exact ⟨fgp.lp, fgp.pM, fgp.mar, fgp.pg, fgp.cp⟩
        · simp only [if_neg h2]; exact fgp
      · rw [if_neg hq] at he; exact absurd he hq
  · rw [if_neg h1] at hB he ⊢
    by_cases h9 : o.k = 9
    · rw [if_pos h9]
      refine ⟨fg.lp, fg.pM, fg.mar, fun i hi => ?_, ?_⟩
      · obtain ⟨_, h2⟩ := tab_false hi
        exact fg.pg i (Bool.and_eq_true_iff.1 h2).1
      · have : cnt (trimP m.on (metP m.c.Pg m.on.length m.bl)) ≤ cnt m.on := cnt_mono (by unfold trimP; rw [tab_len]) fun i hi => by
          obtain ⟨_, h2⟩ := tab_false hi
          exact (Bool.and_eq_true_iff.1 h2).1
        have h2 := fg.cp
        show (cnt (trimP m.on (metP m.c.Pg m.on.length m.bl)) : Int) ≤ m.c.P
        omega
    · rw [if_neg h9] at hB he ⊢
      by_cases h10 : o.k = 10
      · rw [if_pos h10]; exact fg
      · rw [if_neg h10] at hB he ⊢
        by_cases h48 : o.k = 4 ∨ o.k = 5 ∨ o.k = 6 ∨ o.k = 7 ∨ o.k = 8
        · rw [if_pos h48] at hB he ⊢
          cases hf : findB m.bl o.p with
          | none => dsimp only; exact fg
          | some A =>
            rw [hf] at hB he
            obtain ⟨hA, _⟩ := findB_lt hf
            dsimp only at hB he ⊢
            rw [getD_lt _ hA] at hB he ⊢
            have hrest := chSum_rest hA
            have hbr : ∀ b ∈ m.bl.take A ++ m.bl.drop (A + 1), Bin g l u b := by
              intro b h
              rcases List.mem_append.1 h with h | h
              · exact hb b (List.mem_of_mem_take h)
              · exact hb b (List.mem_of_mem_drop h)
            have hl := ok.live
            have hc1 := (ok.bl _ (List.getElem_mem hA)).2.1
            unfold ofM at hB he ⊢
            dsimp only at hB he ⊢
            by_cases h4 : o.k = 4
            · rw [if_pos h4] at hB he ⊢
              have cr := charge_new tp.ex (m.live - m.bl[A].ch) o.s 1
              generalize newS m.c.G m.c.N m.c.M (m.live - m.bl[A].ch) o.s 1 = r at *
              rcases cr with ⟨h2, _⟩ | ⟨h2, h3, k, hk, h5⟩
              · rw [if_neg h2] at he; exact absurd he h2
              · rw [if_pos h2, h5] at hB he ⊢
                rw [h5] at h3
                by_cases hq : (placeM m (m.bl.take A ++ m.bl.drop (A + 1)) ((2 ^ (g + k) : Nat) : Int) o.s).2.2 = 0
                · rw [if_pos hq] at hB he ⊢
                  have hbl := here _ hbr k o.s hk (by omega) hq
                  have fgp := placeM_fig tp ok fg hbr hk (by omega) (asked := o.s) (hB k hk hbl) hq
                  exact ⟨fgp.lp, fgp.pM, fgp.mar, fgp.pg, fgp.cp⟩
                · rw [if_neg hq] at he; exact absurd he hq
            · rw [if_neg h4]
              by_cases h5 : o.k = 5
              · rw [if_pos h5]
                have h6 := fg.lp
                exact ⟨by dsimp only; omega, fg.pM, fg.mar, fg.pg, fg.cp⟩
              · rw [if_neg h5]
                split
                · exact fg
                · split
                  · exact fg
                  · split
                    · exact fg
                    · exact ⟨fg.lp, fg.pM, fg.mar, fg.pg, fg.cp⟩
        · rw [if_neg h48]; exact fg
theorem fig_new {c : Cf} (ok : c.Ok) {B : Int} (hB : 0 ≤ B) : Fig (newM c) B := by
  have f := ok.facts
  refine ⟨Int.le_refl _, by show (0 : Int) ≤ c.M; omega, hB, fun i hi => ?_, ?_⟩
  · obtain ⟨_, h2⟩ := tab_false hi
    cases h2
  · have : cnt (tab (c.H / c.Pg).toNat fun _ => false) ≤ 0 := cnt_first fun i hi => by
      obtain ⟨_, h2⟩ := tab_false hi
      cases h2
    show (cnt (tab (c.H / c.Pg).toNat fun _ => false) : Int) ≤ c.P
    omega
/-- An error says nothing else. -/
theorem doM_ans (m : Mod) (o : OpV) (h : (doM m o).2.err ≠ 0) : (doM m o).2 = errA (doM m o).2.err := by
  unfold doM at h ⊢
  by_cases h1 : o.k = 1 ∨ o.k = 2 ∨ o.k = 3
  · rw [if_pos h1] at h ⊢
    unfold giveM at h ⊢
    dsimp only at h ⊢
    generalize (if o.k = 2 then manyS m.c.G m.c.N m.c.M m.live o.n o.s else newS m.c.G m.c.N m.c.M m.live o.s (if o.k = 3 then o.a else 1)) = r at *
    generalize (if o.k = 2 then wrap64 (o.n * o.s) else o.s) = s at *
    by_cases h2 : r.2 = 0
    · rw [if_pos h2] at h ⊢
      by_cases h3 : (placeM m m.bl r.1 s).2.2 = 0
      · rw [if_pos h3] at h; exact absurd rfl h
      · rw [if_neg h3]; rfl
    · rw [if_neg h2]; rfl
  · rw [if_neg h1] at h ⊢
    by_cases h9 : o.k = 9
    · rw [if_pos h9] at h; exact absurd rfl h
    · rw [if_neg h9] at h ⊢
      by_cases h10 : o.k = 10
      · rw [if_pos h10] at h; exact absurd rfl h
      · rw [if_neg h10] at h ⊢
        by_cases h48 : o.k = 4 ∨ o.k = 5 ∨ o.k = 6 ∨ o.k = 7 ∨ o.k = 8
        · rw [if_pos h48] at h ⊢
          cases hf : findB m.bl o.p with
          | none => rfl
          | some A =>
            rw [hf] at h
            dsimp only at h ⊢
            generalize m.bl.getD A ⟨0, 0, 0⟩ = b at *
            unfold ofM at h ⊢
            dsimp only at h ⊢
            by_cases h4 : o.k = 4
            · rw [if_pos h4] at h ⊢
              by_cases h2 : (newS m.c.G m.c.N m.c.M (m.live - b.ch) o.s 1).2 = 0
              · rw [if_pos h2] at h ⊢
                by_cases h3 : (placeM m (m.bl.take A ++ m.bl.drop (A + 1)) (newS m.c.G m.c.N m.c.M (m.live - b.ch) o.s 1).1 o.s).2.2 = 0
                · rw [if_pos h3] at h; exact absurd rfl h
                · rw [if_neg h3]; rfl
              · rw [if_neg h2]; rfl
            · rw [if_neg h4] at h ⊢
              by_cases h5 : o.k = 5
              · rw [if_pos h5]; rfl
              · rw [if_neg h5] at h ⊢
                by_cases h6 : o.k = 6
                · rw [if_pos h6] at h; exact absurd rfl h
                · rw [if_neg h6] at h ⊢
                  by_cases h7 : o.n < 0 ∨ o.n ≥ b.ch
                  · rw [if_pos h7]; rfl
                  · rw [if_neg h7] at h ⊢
                    by_cases h8 : o.k = 7
                    · rw [if_pos h8] at h; exact absurd rfl h
                    · rw [if_neg h8]; rfl
        · rw [if_neg h48]; rfl
/-- Where an answer says a block is, it lies in the memory. -/
theorem doM_at {m : Mod} (tp : m.c.Tp g l u) (ok : m.Ok) (o : OpV) : 0 ≤ (doM m o).2.at_ ∧ (doM m o).2.at_ ≤ m.c.H := by
  have f := ok.c.facts
  by_cases he : (doM m o).2.err ≠ 0
  · rw [doM_ans m o he]; exact ⟨Int.le_refl _, by show (0 : Int) ≤ m.c.H; omega⟩
  have he : (doM m o).2.err = 0 := by omega
  have z0 : 0 ≤ (0 : Int) ∧ (0 : Int) ≤ m.c.H := ⟨by omega, by omega⟩
  unfold doM at he ⊢
  by_cases h1 : o.k = 1 ∨ o.k = 2 ∨ o.k = 3
  · rw [if_pos h1] at he ⊢
    unfold giveM at he ⊢
    dsimp only at he ⊢
    have hr : ((if o.k = 2 then manyS m.c.G m.c.N m.c.M m.live o.n o.s else newS m.c.G m.c.N m.c.M m.live o.s (if o.k = 3 then o.a else 1)).2 ≠ 0 ∧ (if o.k = 2 then manyS m.c.G m.c.N m.c.M m.live o.n o.s else newS m.c.G m.c.N m.c.M m.live o.s (if o.k = 3 then o.a else 1)).1 = 0) ∨ ((if o.k = 2 then manyS m.c.G m.c.N m.c.M m.live o.n o.s else newS m.c.G m.c.N m.c.M m.live o.s (if o.k = 3 then o.a else 1)).2 = 0 ∧ m.live + (if o.k = 2 then manyS m.c.G m.c.N m.c.M m.live o.n o.s else newS m.c.G m.c.N m.c.M m.live o.s (if o.k = 3 then o.a else 1)).1 ≤ m.c.M ∧ ∃ k : Nat, k ≤ l ∧ (if o.k = 2 then manyS m.c.G m.c.N m.c.M m.live o.n o.s else newS m.c.G m.c.N m.c.M m.live o.s (if o.k = 3 then o.a else 1)).1 = ((2 ^ (g + k) : Nat) : Int)) := by
      by_cases h2 : o.k = 2
      · simp only [if_pos h2]; exact charge_many tp.ex _ _ _
      · simp only [if_neg h2]; exact charge_new tp.ex _ _ _
    generalize (if o.k = 2 then manyS m.c.G m.c.N m.c.M m.live o.n o.s else newS m.c.G m.c.N m.c.M m.live o.s (if o.k = 3 then o.a else 1)) = r at *
    generalize (if o.k = 2 then wrap64 (o.n * o.s) else o.s) = s at *
    rcases hr with ⟨h2, _⟩ | ⟨h2, h3, k, hk, h4⟩
    · rw [if_neg h2] at he; exact absurd he h2
    · rw [if_pos h2] at he ⊢
      have z := Nat.two_pow_pos (g + k)
      by_cases hq : (placeM m m.bl r.1 s).2.2 = 0
      · rw [if_pos hq]
        obtain ⟨_, _, k3, k4⟩ := placeM_ok ok (by omega) ok.bl (by rw [← ok.live]; exact h3) hq
        exact ⟨k3, by dsimp only; omega⟩
      · rw [if_neg hq] at he; exact absurd he hq
  · rw [if_neg h1] at he ⊢
    by_cases h9 : o.k = 9
    · rw [if_pos h9]; exact z0
    · rw [if_neg h9] at he ⊢
      by_cases h10 : o.k = 10
      · rw [if_pos h10]; exact z0
      · rw [if_neg h10] at he ⊢
        by_cases h48 : o.k = 4 ∨ o.k = 5 ∨ o.k = 6 ∨ o.k = 7 ∨ o.k = 8
        · rw [if_pos h48] at he ⊢
          cases hf : findB m.bl o.p with
          | none => exact z0
          | some A =>
            rw [hf] at he
            obtain ⟨hA, _⟩ := findB_lt hf
            dsimp only at he ⊢
            rw [getD_lt _ hA] at he ⊢
            have hrest := chSum_rest hA
            have hl := ok.live
            unfold ofM at he ⊢
            dsimp only at he ⊢
            by_cases h4 : o.k = 4
            · rw [if_pos h4] at he ⊢
              have cr := charge_new tp.ex (m.live - m.bl[A].ch) o.s 1
              generalize newS m.c.G m.c.N m.c.M (m.live - m.bl[A].ch) o.s 1 = r at *
              rcases cr with ⟨h2, _⟩ | ⟨h2, h3, k, hk, h5⟩
              · rw [if_neg h2] at he; exact absurd he h2
              · rw [if_pos h2] at he ⊢
                have z := Nat.two_pow_pos (g + k)
                by_cases hq : (placeM m (m.bl.take A ++ m.bl.drop (A + 1)) r.1 o.s).2.2 = 0
                · rw [if_pos hq]
                  obtain ⟨_, _, k3, k4⟩ := placeM_ok ok (by omega) (ok.bl.rest A) (by omega) hq
                  exact ⟨k3, by dsimp only; omega⟩
                · rw [if_neg hq] at he; exact absurd he hq
            · rw [if_neg h4]
              by_cases h5 : o.k = 5
              · rw [if_pos h5]; exact z0
              · rw [if_neg h5]
                split
                · exact z0
                · split
                  · exact z0
                  · split
                    · exact z0
                    · exact z0
        · rw [if_neg h48]; exact z0
end
end Go.Proofs.D.S
/- TopWild: whatever is asked, the law answers yes. -/
set_option linter.unusedVariables false
set_option linter.unusedSimpArgs false
namespace Go.Proofs.D.S
open Go Go.RowKit
theorem hodmantop_TopWild.law {G : GH} (hG : Beg G) (r : Rw) {id : Nat} {ops : List OpV} (hs : Sl G eOp id 0 ops) (hb : ∀ o ∈ ops, R64 o.s ∧ R64 o.a ∧ R64 o.n) : OkT (CW hodmantop_TopWild.id [.agg (rwC r), .c (.sl 6 id 0 ops.length)] G) := by
  obtain ⟨G1, e1, f1⟩ := hodmantop_begun.sp hG
  rw [hodmantop_TopWild.cw]
  unfold hodmantop_TopWild.f
  simp only [e1, q_bs, q_I, q_B, q_P, q_S, q_M, q_c, q_a, q_gz, q_gs, q_gk, q_ct, q_cf, q_nt, q_nf, q_xt, q_xf, q_tt, q_ff, q_tf, q_ft, q_at, q_af]
  by_cases h20 : (ops.length : Int) > 20
  · rw [condD_pos h20]; exact ⟨_, rfl⟩
  rw [condD_neg h20]
  have sl1 : Sl G1 eOp id 0 ops := f1.sl _ _ _ _ hs
  have hw := f1.wf
  by_cases hr : (ofC r).2 = 0
  · obtain ⟨hid, s0, g, l, u, G4, e4, h4, hm4, hnew⟩ := heap_New.sp hw hr
    simp only [rwC] at e4
    rw [e4]
    simp only [q_bs, q_I, q_B, q_P, q_S, q_M, q_c, q_a, q_gz, q_gs, q_gk, q_ct, q_cf, q_nt, q_nf, q_xt, q_xf, q_tt, q_ff, q_tf, q_ft, q_at, q_af]
    obtain ⟨G5, e5, h5⟩ := conf_Of.sp r h4.wf
    simp only [rwC] at e5
    rw [e5, hr]
    have ok := ofC_ok hr
    have tp : (ofC r).1.Tp g l u := hm4.tp
    generalize (ofC r).1 = C at *
    have hid0 := hm4.raw.h0
    have hm5 := hm4.keep h5
    have sO : Sx (s0.X hid) G5 eOp id 0 ops := ⟨(sl1.keep h4).keep h5, by
      rcases sl1 with h | ⟨cs, h, _⟩
      · exact .inl h
      · refine .inr fun hx => ?_
        have h1 := hnew _ hx
        unfold GH.row at h
        have : id < G1.next := by
          cases hg : G1.get id with
          | none => rw [hg] at h; cases h
          | some o => exact wf_lt hw hg
        omega⟩
    have w5 := h5.wf
    have fs := ok.facts
    have hc0 : s0.c = C := hm4.eq.c.symm
    simp only [cfC, q_bs, q_I, q_B, q_P, q_S, q_M, q_c, q_a, q_gz, q_gs, q_gk, q_ct, q_cf, q_nt, q_nf, q_xt, q_xf, q_tt, q_ff, q_tf, q_ft, q_at, q_af, List.length_cons, List.length_nil, if_true]
    generalize hX : s0.X hid = X at *
    have cl : ∀ k : Nat, k ≤ l → C.ceil (k : Int) ≤ C.H := fun k hk => (ok.ceil (k := (k : Int)) (by omega) (by rw [tp.ex.hL]; omega)).2.1
    have lp : ∀ (d i : Nat) (m : Mod) (s : HS) (G7 : GH), i + d = ops.length → FrX X G5 G7 → HM G7 hid s g l u m → s.X hid = X → m.c = C → Fig m C.H →
        OkT (hodmantop_TopWild.L50 machW CW id 0 ops.length hid 0 (i : Int) C.G C.N C.M C.L C.Pg C.P C.H C.Sd G7) := by
      intro d
      induction d with
      | zero =>
        intro i m s G7 hi fr hm hsX hc fg
        rw [hodmantop_TopWild.L50_eq, condD_neg (by omega)]
        have fgr := heap_Heap_Do.figures hm.raw (by have := hm.cf.onl; omega) (p := 0) (sz := 0) (a := 0) (n := 0) (b := 0)
        rw [fgr]
        simp only [q_bs, q_I, q_B, q_P, q_S, q_M, q_c, q_a, q_gz, q_gs, q_gk, q_ct, q_cf, q_nt, q_nf, q_xt, q_xf, q_tt, q_ff, q_tf, q_ft, q_at, q_af, List.length_cons, List.length_nil, if_true]
        have h1 := fg.lp
        have h2 := fg.pM
        have h3 := fg.mar
        have h4 := fg.cp
        rw [hm.live, hm.eq.peak] at h1
        rw [hm.eq.peak, hc] at h2
        rw [hm.eq.mark] at h3
        rw [hm.eq.on, hc] at h4
        rw [condD_pos trivial, condD_pos h1, condD_pos h2, condD_pos h3, condD_pos h4]
        obtain ⟨bid, G8, e8, h8⟩ := heap_Heap_Blocks.sp hm
        rw [e8]
        simp only [q_bs, q_I, q_B, q_P, q_S, q_M, q_c, q_a, q_gz, q_gs, q_gk, q_ct, q_cf, q_nt, q_nf, q_xt, q_xf, q_tt, q_ff, q_tf, q_ft, q_at, q_af]
        obtain ⟨w1, w2⟩ := Bin.all tp hm.bl.bin
        have hlen := hm.bl.len
        have hlim := hm.ok.lim
        have hl2 := hm.ok.live
        rw [hc] at hlim
        have cw := ceil_Within.sp tp h8.sl0 w2 (by omega)
        rw [cfC] at cw
        rw [cw, w1]
        simp only [q_bs, q_I, q_B, q_P, q_S, q_M, q_c, q_a, q_gz, q_gs, q_gk, q_ct, q_cf, q_nt, q_nf, q_xt, q_xf, q_tt, q_ff, q_tf, q_ft, q_at, q_af]
        exact ⟨_, rfl⟩
      | succ d ih =>
        intro i m s G7 hi fr hm hsX hc fg
        have hil : i < ops.length := by omega
        have zi : decide (0 ≤ (i : Int) ∧ (i : Int) < ((ops.length : Nat) : Int)) = true := decide_eq_true (by omega)
        have s7 := (sO.fr fr w5).1
        obtain ⟨rs, ra, rn⟩ := hb _ (List.getElem_mem hil)
        have q0 := s7.ld i 0 hil (by omega)
        have q1 := s7.ld i 1 hil (by omega)
        have q2 := s7.ld i 2 hil (by omega)
        have q3 := s7.ld i 3 hil (by omega)
        have q4 := s7.ld i 4 hil (by omega)
        have q5 := s7.ld i 5 hil (by omega)
        generalize ops[i] = o at *
        obtain ⟨G8, s', e8, hm8, f8, x8⟩ := heap_Heap_Do.sp hm o rs ra rn
        rw [hsX] at f8 x8
        have tpm : m.c.Tp g l u := by rw [hc]; exact tp
        obtain ⟨okd, hcd⟩ := doM_ok hm.ok o
        have fg8 : Fig (doM m o).1 C.H := doM_fig tpm hm.ok hm.bl.bin fg o fun k hk _ => by rw [hc]; exact cl k hk
        obtain ⟨n7, _, _⟩ := doM_good tpm hm.ok hm.bl.bin o
        obtain ⟨a1, a2⟩ := doM_at tpm hm.ok o
        rw [hc] at a2
        have ans := doM_ans m o
        have go := ih (i + 1) (doM m o).1 s' G8 (by omega) (fr.trans f8) hm8 x8 (hcd.trans hc) fg8
        rw [hodmantop_TopWild.L50_eq, condD_pos (by omega), zi, q_gk]
        simp only [Int.toNat_natCast, q0, q1, q2, q3, q4, q5, q_bs, q_I, q_B, q_P, q_S, q_M, q_c, q_a, q_gz, q_gs, q_gk, q_ct, q_cf, q_nt, q_nf, q_xt, q_xf, q_tt, q_ff, q_tf, q_ft, q_at, q_af]
        rw [e8]
        generalize (doM m o).2 = A at *
        simp only [q_bs, q_I, q_B, q_P, q_S, q_M, q_c, q_a, q_gz, q_gs, q_gk, q_ct, q_cf, q_nt, q_nf, q_xt, q_xf, q_tt, q_ff, q_tf, q_ft, q_at, q_af, List.length_cons, List.length_nil, if_true]
        rw [condD_neg n7]
        have fin : OkT (hodmantop_TopWild.J43 machW CW id 0 ops.length hid 0 (i : Int) (decide (A.at_ > C.H)) C.G C.N C.M C.L C.Pg C.P C.H C.Sd G8) := by
          rw [hodmantop_TopWild.J43_eq, decide_eq_false (show ¬ A.at_ > C.H by omega), q_cf, i64w, wrap_id (by omega) (by omega)]
          exact go
        by_cases he : A.err = 0
        · rw [condN_neg he, condD_neg (by omega)]
          exact fin
        · rw [condN_pos he]
          have ea := ans he
          have e1 : A.at_ = 0 := by rw [ea]; rfl
          have e2 : A.n = 0 := by rw [ea]; rfl
          have e3 : A.byte = 0 := by rw [ea]; rfl
          have e4 : A.live = 0 := by rw [ea]; rfl
          have e5 : A.peak = 0 := by rw [ea]; rfl
          have e6 : A.mark = 0 := by rw [ea]; rfl
          have e7 : A.pages = 0 := by rw [ea]; rfl
          simp only [decide_true]
          rw [decide_eq_true e1, decide_eq_true e2, decide_eq_true e3, decide_eq_true e4, decide_eq_true e5, decide_eq_true e6, decide_eq_true e7]
          simp only [Bool.and_self, q_bs, q_I, q_B, q_P, q_S, q_M, q_c, q_a, q_gz, q_gs, q_gk, q_ct, q_cf, q_nt, q_nf, q_xt, q_xf, q_tt, q_ff, q_tf, q_ft, q_at, q_af, Bool.not_true]
          rw [condD_neg (by omega)]
          exact fin
    have J0 : OkT (hodmantop_TopWild.J22 machW CW id 0 ops.length hid 0 false C.G C.N C.M C.L C.Pg C.P C.H C.Sd G5) := by
      rw [hodmantop_TopWild.J22_eq, q_cf, nbf hid0, q_xf, q_cf]
      exact lp ops.length 0 (newM C) s0 G5 (by omega) FrX.refl hm5 hX rfl (fig_new ok (by omega))
    rw [condN_neg trivial, nbf hid0]
    simp only [decide_true, q_bs, q_I, q_B, q_P, q_S, q_M, q_c, q_a, q_gz, q_gs, q_gk, q_ct, q_cf, q_nt, q_nf, q_xt, q_xf, q_tt, q_ff, q_tf, q_ft, q_at, q_af]
    exact J0
  · obtain ⟨G4, e4, h4⟩ := heap_New.no hw hr
    simp only [rwC] at e4
    rw [e4]
    simp only [q_bs, q_I, q_B, q_P, q_S, q_M, q_c, q_a, q_gz, q_gs, q_gk, q_ct, q_cf, q_nt, q_nf, q_xt, q_xf, q_tt, q_ff, q_tf, q_ft, q_at, q_af]
    obtain ⟨G5, e5, h5⟩ := conf_Of.sp r h4.wf
    simp only [rwC] at e5
    rw [e5]
    simp only [cfC, q_bs, q_I, q_B, q_P, q_S, q_M, q_c, q_a, q_gz, q_gs, q_gk, q_ct, q_cf, q_nt, q_nf, q_xt, q_xf, q_tt, q_ff, q_tf, q_ft, q_at, q_af, List.length_cons, List.length_nil, if_true]
    have J0 : ∀ a b c d e f g h : Int, OkT (hodmantop_TopWild.J22 machW CW id 0 ops.length 0 0 false a b c d e f g h G5) := fun a b c d e f g h => by
      rw [hodmantop_TopWild.J22_eq, q_cf]
      exact ⟨_, rfl⟩
    rw [condN_neg trivial, decide_eq_false hr]
    exact J0 _ _ _ _ _ _ _ _
end Go.Proofs.D.S
/- A struct of six whole numbers that comes in by value: it reads as six numbers of 64 bits. -/
namespace Go.Proofs.D
open Go Go.Joins Go.ChangeShapes Go.WideShapes Go.RowKit Go.Deep
section
variable {H : Type} {enc : TypeId × Value → H} {P : Program} {w : World} {base : Nat} {spare : Nat → Bool} {held : Bool}

theorem ints6 {r : Reach} {b0 : Nat} {t u : TypeId} {f0 f1 f2 f3 f4 f5 : Field} {v : Value} {d : DataW H} {p : List MemPlace} (hs : P.underlying t = some (.struct #[f0, f1, f2, f3, f4, f5])) (hone : oneCellFields P #[f0, f1, f2, f3, f4, f5] = true) (hC : P.cellsOf t = 6)
    (hu : P.underlying u = some (.int .i64)) (hf0 : f0.type = u) (hf1 : f1.type = u) (hf2 : f2.type = u) (hf3 : f3.type = u) (hf4 : f4.type = u) (hf5 : f5.type = u)
    (hv : Value.okWide P w r b0 t v) (h : DataW.Trod enc P w base spare held t v d p) :
    ∃ (a0 a1 a2 a3 a4 a5 : Int), v = .agg #[.int .i64 a0, .int .i64 a1, .int .i64 a2, .int .i64 a3, .int .i64 a4, .int .i64 a5] ∧
      (Lit.int .i64 a0).wf = true ∧ (Lit.int .i64 a1).wf = true ∧ (Lit.int .i64 a2).wf = true ∧ (Lit.int .i64 a3).wf = true ∧ (Lit.int .i64 a4).wf = true ∧ (Lit.int .i64 a5).wf = true := by
  obtain ⟨cs, rfl, hsz⟩ := okWide_struct hs hv
  obtain ⟨l⟩ := cs
  match l, hsz.trans hC with
  | [c0, c1, c2, c3, c4, c5], _ =>
    obtain ⟨fuel, hf⟩ := h
    obtain ⟨xs, n, _, hx, _, hlen, hg⟩ := DataW.trod_struct hs hf
    obtain ⟨o0, k0⟩ := hone_of hone 0 f0 rfl
    obtain ⟨o1, k1⟩ := hone_of hone 1 f1 rfl
    obtain ⟨o2, k2⟩ := hone_of hone 2 f2 rfl
    obtain ⟨o3, k3⟩ := hone_of hone 3 f3 rfl
    obtain ⟨o4, k4⟩ := hone_of hone 4 f4 rfl
    obtain ⟨o5, k5⟩ := hone_of hone 5 f5 rfl
    match xs, hlen with
    | [y0, y1, y2, y3, y4, y5], _ =>
      have g0 : DataW.trod enc P w base spare held n f0.type [c0] = some y0 := by simpa [Value.cells, o0, k0] using hg 0 f0 rfl
      have g1 : DataW.trod enc P w base spare held n f1.type [c1] = some y1 := by simpa [Value.cells, o1, k1] using hg 1 f1 rfl
      have g2 : DataW.trod enc P w base spare held n f2.type [c2] = some y2 := by simpa [Value.cells, o2, k2] using hg 2 f2 rfl
      have g3 : DataW.trod enc P w base spare held n f3.type [c3] = some y3 := by simpa [Value.cells, o3, k3] using hg 3 f3 rfl
      have g4 : DataW.trod enc P w base spare held n f4.type [c4] = some y4 := by simpa [Value.cells, o4, k4] using hg 4 f4 rfl
      have g5 : DataW.trod enc P w base spare held n f5.type [c5] = some y5 := by simpa [Value.cells, o5, k5] using hg 5 f5 rfl
      obtain ⟨a0, e0, _, w0⟩ := DataW.trod_int (by rw [hf0]; exact hu) g0
      obtain ⟨a1, e1, _, w1⟩ := DataW.trod_int (by rw [hf1]; exact hu) g1
      obtain ⟨a2, e2, _, w2⟩ := DataW.trod_int (by rw [hf2]; exact hu) g2
      obtain ⟨a3, e3, _, w3⟩ := DataW.trod_int (by rw [hf3]; exact hu) g3
      obtain ⟨a4, e4, _, w4⟩ := DataW.trod_int (by rw [hf4]; exact hu) g4
      obtain ⟨a5, e5, _, w5⟩ := DataW.trod_int (by rw [hf5]; exact hu) g5
      simp only [List.cons.injEq, and_true] at e0 e1 e2 e3 e4 e5
      subst e0 e1 e2 e3 e4 e5
      exact ⟨a0, a1, a2, a3, a4, a5, rfl, w0, w1, w2, w3, w4, w5⟩
end
theorem agg6_rel {φ : Phi} {a0 a1 a2 a3 a4 a5 : Int} : V1Rel φ (.agg (S.rwC ⟨a0, a1, a2, a3, a4, a5⟩)) (.agg #[.int .i64 a0, .int .i64 a1, .int .i64 a2, .int .i64 a3, .int .i64 a4, .int .i64 a5]) :=
  ⟨_, rfl, R2.cons rfl (R2.cons rfl (R2.cons rfl (R2.cons rfl (R2.cons rfl (R2.cons rfl R2.nil)))))⟩
end Go.Proofs.D
/- A slice of pairs of bytes that a law is given. -/
set_option linter.unusedVariables false
namespace Go.Proofs.D
open Go Go.ChangeShapes Go.WideShapes Go.RowKit Go.Deep
namespace S
end S
end Go.Proofs.D
/- A slice of calls that a law is given: structs of six whole numbers. -/
namespace Go.Proofs.D
open Go Go.Joins Go.ChangeShapes Go.WideShapes Go.RowKit Go.Deep
instance : Inhabited S.OpV := ⟨⟨0, 0, 0, 0, 0, 0⟩⟩
theorem arg_ops {H : Type} {enc : TypeId × Value → H} {P : Program} {W : World} {base : Nat} {held : Bool} {t e : TypeId} {f0 f1 f2 f3 f4 f5 : Field} {v : Value} {d : DataW H} {p : List MemPlace}
    (ht : P.underlying t = some (.slice e)) (hs : P.underlying e = some (.struct #[f0, f1, f2, f3, f4, f5])) (hone : oneCellFields P #[f0, f1, f2, f3, f4, f5] = true) (hc : P.cellsOf e = 6)
    (u0 : P.underlying f0.type = some (.int .i64)) (u1 : P.underlying f1.type = some (.int .i64)) (u2 : P.underlying f2.type = some (.int .i64)) (u3 : P.underlying f3.type = some (.int .i64)) (u4 : P.underlying f4.type = some (.int .i64)) (u5 : P.underlying f5.type = some (.int .u8))
    (hv : Value.okWide P W .any base t v) (h : DataW.Trod enc P W 0 (fun _ => true) held t v d p) :
    ∃ a n cap zs, v = .slice a n cap ∧ IsArg W a n cap 6 (S.cells S.eOp zs) ∧ zs.length = n ∧ ∀ z ∈ zs, S.R64 z.s ∧ S.R64 z.a ∧ S.R64 z.n := by
  obtain ⟨a, n, cap, rfl⟩ := okWide_slice ht hv
  have hsp : ∀ x, a = some x → x.spot = none := by
    rintro x rfl
    simp only [Value.okWide, ht, Cell.okWide, Cell.ok] at hv
    exact hv.2.2.2.1
  obtain ⟨fuel, hf⟩ := h
  rcases open_slice ht hf with ⟨hcs, _⟩ | ⟨x, l, c, m, k, D, Pl, hcs, _, hl, _, hm, _, hx⟩
  · simp [Value.cells] at hcs
    obtain ⟨rfl, rfl, rfl⟩ := hcs
    exact ⟨_, _, _, [], rfl, .inl ⟨rfl, rfl, rfl, rfl⟩, rfl, fun z hz => (by cases hz)⟩
  · simp [Value.cells] at hcs
    obtain ⟨rfl, rfl, rfl⟩ := hcs
    have hm : m = cap := by simpa using hm
    subst hm
    have each : ∀ i, i < m → ∃ q : S.OpV, (S.R64 q.s ∧ S.R64 q.a ∧ S.R64 q.n) ∧ ∀ j y, (S.eOp q)[j]? = some y → ∃ v, W.cell? (x.add (i * 6 + j)) = some v ∧ ∀ φ, CRel φ y v := by
      intro i hi
      obtain ⟨cs', h1, h2⟩ := hx i hi
      rw [hc] at h1
      obtain ⟨_, hlen, hcell⟩ := World.cells?_some h1
      obtain ⟨xs, k', _, _, _, hxl, hg⟩ := DataW.trod_struct hs h2
      obtain ⟨o0, k0⟩ := hone_of hone 0 f0 rfl
      obtain ⟨o1, k1⟩ := hone_of hone 1 f1 rfl
      obtain ⟨o2, k2⟩ := hone_of hone 2 f2 rfl
      obtain ⟨o3, k3⟩ := hone_of hone 3 f3 rfl
      obtain ⟨o4, k4⟩ := hone_of hone 4 f4 rfl
      obtain ⟨o5, k5⟩ := hone_of hone 5 f5 rfl
      match xs, hxl, cs', hlen with
      | [y0, y1, y2, y3, y4, y5], _, [c0, c1, c2, c3, c4, c5], _ =>
        have g0 : DataW.trod enc P W 0 (fun _ => true) held k' f0.type [c0] = some y0 := by simpa [o0, k0] using hg 0 f0 rfl
        have g1 : DataW.trod enc P W 0 (fun _ => true) held k' f1.type [c1] = some y1 := by simpa [o1, k1] using hg 1 f1 rfl
        have g2 : DataW.trod enc P W 0 (fun _ => true) held k' f2.type [c2] = some y2 := by simpa [o2, k2] using hg 2 f2 rfl
        have g3 : DataW.trod enc P W 0 (fun _ => true) held k' f3.type [c3] = some y3 := by simpa [o3, k3] using hg 3 f3 rfl
        have g4 : DataW.trod enc P W 0 (fun _ => true) held k' f4.type [c4] = some y4 := by simpa [o4, k4] using hg 4 f4 rfl
        have g5 : DataW.trod enc P W 0 (fun _ => true) held k' f5.type [c5] = some y5 := by simpa [o5, k5] using hg 5 f5 rfl
        obtain ⟨a0, e0, _, _⟩ := DataW.trod_int u0 g0
        obtain ⟨a1, e1, _, _⟩ := DataW.trod_int u1 g1
        obtain ⟨a2, e2, _, w2⟩ := DataW.trod_int u2 g2
        obtain ⟨a3, e3, _, w3⟩ := DataW.trod_int u3 g3
        obtain ⟨a4, e4, _, w4⟩ := DataW.trod_int u4 g4
        obtain ⟨a5, e5, _, _⟩ := DataW.trod_int u5 g5
        simp only [List.cons.injEq, and_true] at e0 e1 e2 e3 e4 e5
        subst e0 e1 e2 e3 e4 e5
        refine ⟨⟨a0, a1, a2, a3, a4, a5⟩, ⟨S.wf64 w2, S.wf64 w3, S.wf64 w4⟩, fun j y hy => ?_⟩
        have hj : j < 6 := (List.getElem?_eq_some_iff.1 hy).1
        have cj := hcell j hj
        rw [add_add] at cj
        match j, hj, hy, cj with
        | 0, _, hy, cj => exact ⟨_, by simpa using cj, fun φ => by simp at hy; subst hy; rfl⟩
        | 1, _, hy, cj => exact ⟨_, by simpa using cj, fun φ => by simp at hy; subst hy; rfl⟩
        | 2, _, hy, cj => exact ⟨_, by simpa using cj, fun φ => by simp at hy; subst hy; rfl⟩
        | 3, _, hy, cj => exact ⟨_, by simpa using cj, fun φ => by simp at hy; subst hy; rfl⟩
        | 4, _, hy, cj => exact ⟨_, by simpa using cj, fun φ => by simp at hy; subst hy; rfl⟩
        | 5, _, hy, cj => exact ⟨_, by simpa using cj, fun φ => by simp at hy; subst hy; rfl⟩
    obtain ⟨q, hq⟩ := choose_lt each
    refine ⟨_, _, _, (List.range n).map q, rfl, .inr ⟨x, rfl, hsp x rfl, hl, ?_, fun i hi => ?_, fun i y hy => ?_⟩, by simp, fun z hz => ?_⟩
    · rw [S.cells_len]; simp
    · obtain ⟨v, hv, _⟩ := (hq (i / 6) (by omega)).2 (i % 6) _ (List.getElem?_eq_getElem (by show i % 6 < 6; omega))
      rw [show i / 6 * 6 + i % 6 = i by omega] at hv
      exact ⟨v, hv⟩
    · have hi : i < n * 6 := by
        have := (List.getElem?_eq_some_iff.1 hy).1
        rw [S.cells_len] at this; simpa using this
      have hd : i / 6 < ((List.range n).map q).length := by simp; omega
      have := S.cells_get (e := S.eOp) ((List.range n).map q) (i / 6) (i % 6) hd (by omega)
      rw [show i / 6 * 6 + i % 6 = i by omega, hy] at this
      rw [List.getElem_map, List.getElem_range] at this
      obtain ⟨v, hv, hr⟩ := (hq (i / 6) (by omega)).2 (i % 6) y this.symm
      rw [show i / 6 * 6 + i % 6 = i by omega] at hv
      exact ⟨v, hv, hr⟩
    · obtain ⟨i, hi, rfl⟩ := List.mem_map.1 hz
      exact (hq i (by have := List.mem_range.1 hi; omega)).1
end Go.Proofs.D
