/- Texts of the proof (SpFair, SpClient, SpDo, SpAll, LawFairCharge); no condition. -/
import Derived.Test.YtdanddamihficaaFairChargei
set_option linter.unusedSimpArgs false
set_option linter.unusedVariables false
/- A modest client: the program's own May; and clients made of numbers. -/
set_option linter.unusedVariables false
set_option linter.unusedSimpArgs false
namespace Go.Proofs.D.S
open Go Go.RowKit
variable {G G0 : GH} {L : List (Nat × Obj)}
abbrev eKc (n : Int) : V1 := .agg [.int .i64 n]
abbrev eIc (n : Int) : V1 := .c (.int .i64 n)
theorem eKc_inj (a b : Int) (h : eKc a = eKc b) : a = b := by
  have h : V1.agg [.int .i64 a] = V1.agg [.int .i64 b] := h
  injection h with h; injection h with h _; injection h
theorem eIc_inj (a b : Int) (h : eIc a = eIc b) : a = b := by
  have h : V1.c (.int .i64 a) = V1.c (.int .i64 b) := h
  injection h with h; injection h
theorem getD_eIc (o : Option Int) : (o.map eIc).getD (.c (.int .i64 0)) = eIc (o.getD 0) := by cases o <;> rfl
theorem isSome_map' {α β : Type} (f : α → β) (o : Option α) : (o.map f).isSome = o.isSome := by cases o <;> rfl
/-- What a client is, as it lies. -/
abbrev faR (fid mid : Nat) (c : Cf) (all : Int) : Nat × Obj := (fid, .row [.int .i64 c.G, .int .i64 c.N, .int .i64 c.M, .int .i64 c.L, .int .i64 c.Pg, .int .i64 c.P, .int .i64 c.H, .int .i64 c.Sd, .map mid, .int .i64 all] false)
abbrev faM (mid : Nat) (held : List (Int × Int)) : Nat × Obj := (mid, .map (.agg [.int .i64]) (encM eKc eIc held))
/-- What a step of a client's leaves. -/
def FaOut (G0 : GH) (L : List (Nat × Obj)) (fid mid : Nat) (c : Cf) (r : Option Fa) (x : Option Res) : Prop :=
  ∃ G' f', x = some ([.c (.bool r.isSome)], G') ∧ Hp G0 G' (faR fid mid c f'.all :: faM mid f'.held :: L) ∧ (∀ f, r = some f → f' = f)
theorem fair_client_asks.sp {fid mid : Nat} {c : Cf} (ok : c.Ok) {f : Fa} (h : Hp G0 G (faR fid mid c f.all :: faM mid f.held :: L)) (ha : 0 ≤ f.all ∧ f.all ≤ c.M / 2) (n : Int) {s : Int} (hs : R64 s) :
    FaOut G0 L fid mid c (f.asks c n s) (CW fair_client_asks.id [.c (.ptr fid 0), .c (.int .i64 n), .c (.int .i64 s)] G) := by
  have fs := ok.facts
  have hp := h.ne
  have ld := fun off => h.ld (off := off) hp
  rw [fair_client_asks.cw]
  unfold fair_client_asks.f
  rw [calc_Mul.sp hs (by unfold R64; omega)]
  simp only [guardN hp, ld, q_bs, q_I, q_B, q_P, q_S, q_M, q_c, q_a, q_gz, q_gs, q_gk, q_ct, q_cf, q_nt, q_nf, q_xt, q_xf, q_tt, q_ff, q_tf, q_ft, q_at, q_af, Nat.zero_add]
  have no : ¬ (1 ≤ s ∧ s ≤ c.N ∧ c.G ≤ 2 * s ∧ s ≤ c.M / 2 - f.all) → FaOut G0 L fid mid c (f.asks c n s) (fair_client_asks.J7 machW CW fid 0 n s true G) := by
    intro hn
    unfold Fa.asks
    rw [if_neg hn, fair_client_asks.J7_eq, q_ct]
    exact ⟨G, f, rfl, h, fun f h => by cases h⟩
  by_cases h1 : s < 1
  · rw [condD_pos h1]; exact no (by omega)
  rw [condD_neg h1]
  by_cases h2 : s > c.N
  · rw [condD_pos h2]; exact no (by omega)
  rw [condD_neg h2]
  have hm : mulS s 2 = (s * 2, true) := by unfold mulS; rw [if_pos (by unfold R64; omega)]
  rw [hm]
  dsimp only
  rw [q_nt, q_cf]
  by_cases h3 : s * 2 < c.G
  · rw [condD_pos h3]; exact no (by omega)
  rw [condD_neg h3, i64w, i64w, Int.tdiv_eq_ediv_of_nonneg (by omega), wrap_id (a := c.M / 2) (by omega) (by omega), wrap_id (by omega) (by omega)]
  by_cases h4 : s > c.M / 2 - f.all
  · rw [decide_eq_true h4]; exact no (by omega)
  · rw [decide_eq_false h4, fair_client_asks.J7_eq, q_cf]
    have hy : 1 ≤ s ∧ s ≤ c.N ∧ c.G ≤ 2 * s ∧ s ≤ c.M / 2 - f.all := by omega
    have hm := (h.pick 1)
    obtain ⟨m0, m1, _⟩ := Hp.ents (ks := .agg [.int .i64]) hm
    have h5 := (hm.set (o' := .map (.agg [.int .i64]) (encM eKc eIc (aPut f.held n s))) m0).pick 1
    rw [← mapPut_enc eKc_inj] at h5
    have ld5 := fun off => h5.ld (off := off) hp
    simp only [guardN hp, ld, q_bs, q_I, q_B, q_P, q_S, q_M, q_c, q_a, q_gz, q_gs, q_gk, q_ct, q_cf, q_nt, q_nf, q_xt, q_xf, q_tt, q_ff, q_tf, q_ft, q_at, q_af, Nat.zero_add, m1, ld5, i64w, wrap_id (a := f.all + s) (by omega) (by omega)]
    obtain ⟨G6, h6, e6⟩ := h5.sts (off := 9) (new := [.int .i64 (f.all + s)]) hp (by simp)
    rw [e6, q_bs]
    unfold Fa.asks
    rw [if_pos hy]
    refine ⟨G6, ⟨aPut f.held n s, f.all + s⟩, rfl, ?_, fun f' e => by cases e; rfl⟩
    rw [mapPut_enc eKc_inj] at h6
    exact h6
theorem fair_client_goes.sp {fid mid : Nat} {c : Cf} (ok : c.Ok) {f : Fa} (h : Hp G0 G (faR fid mid c f.all :: faM mid f.held :: L)) (n : Int) (ha : ∀ s, aGet f.held n = some s → R64 (f.all - s)) :
    FaOut G0 L fid mid c (f.goes n) (CW fair_client_goes.id [.c (.ptr fid 0), .c (.int .i64 n)] G) := by
  have hp := h.ne
  have ld := fun off => h.ld (off := off) hp
  have hm := (h.pick 1)
  obtain ⟨m0, m1, m2⟩ := Hp.ents (ks := .agg [.int .i64]) hm
  rw [fair_client_goes.cw]
  unfold fair_client_goes.f
  simp only [guardN hp, ld, q_bs, q_I, q_B, q_P, q_S, q_M, q_c, q_a, q_gz, q_gs, q_gk, q_ct, q_cf, q_nt, q_nf, q_xt, q_xf, q_tt, q_ff, q_tf, q_ft, q_at, q_af, Nat.zero_add, m2]
  rw [show V1.agg [Cell.int .i64 n] = eKc n from rfl, mapGet_enc eKc_inj, getD_eIc, isSome_map']
  simp only [q_bs, q_I, q_B, q_P, q_S, q_M, q_c, q_a, q_gz, q_gs, q_gk, q_ct, q_cf, q_nt, q_nf, q_xt, q_xf, q_tt, q_ff, q_tf, q_ft, q_at, q_af]
  unfold Fa.goes
  cases e : aGet f.held n with
  | none =>
    rw [Option.isSome_none, q_nf, q_ct]
    exact ⟨G, f, rfl, h, fun f h => by cases h⟩
  | some s =>
    rw [Option.isSome_some, q_nt, q_cf, m1, q_bs]
    have h5 := (hm.set (o' := .map (.agg [.int .i64]) (encM eKc eIc (aDel f.held n))) m0).pick 1
    rw [← mapDel_enc eKc_inj] at h5
    have ld5 := fun off => h5.ld (off := off) hp
    rw [ld5]
    have := ha s e
    unfold R64 at this
    simp only [q_bs, q_I, q_B, q_P, q_S, q_M, q_c, q_a, q_gz, q_gs, q_gk, q_ct, q_cf, q_nt, q_nf, q_xt, q_xf, q_tt, q_ff, q_tf, q_ft, q_at, q_af, i64w, Option.getD_some, wrap_id (a := f.all - s) (by omega) (by omega)]
    obtain ⟨G6, h6, e6⟩ := h5.sts (off := 9) (new := [.int .i64 (f.all - s)]) hp (by simp)
    rw [e6, q_bs]
    refine ⟨G6, ⟨aDel f.held n, f.all - s⟩, rfl, ?_, fun f' e => by cases e; rfl⟩
    rw [mapDel_enc eKc_inj] at h6
    exact h6
theorem fair_client_does.sp {fid mid : Nat} {c : Cf} (ok : c.Ok) {f : Fa} {i : Int} (iv : FInv c f i) (h : Hp G0 G (faR fid mid c f.all :: faM mid f.held :: L)) {o : OpV} (hs : R64 o.s) (hn : R64 o.n) :
    FaOut G0 L fid mid c (f.does c i o) (CW fair_client_does.id [.c (.ptr fid 0), .c (.int .i64 i), .agg (eOp o)] G) := by
  have fs := ok.facts
  have hp := h.ne
  have ld := fun off => h.ld (off := off) hp
  have hm := (h.pick 1)
  obtain ⟨m0, m1, m2⟩ := Hp.ents (ks := .agg [.int .i64]) hm
  have a0 := iv.pos
  have a1 := iv.le
  have gr : ∀ s, aGet f.held o.p = some s → R64 (f.all - s) := fun s e => by
    have := iv.keys _ (aGet_mem e)
    dsimp only at this
    unfold R64; omega
  rw [fair_client_does.cw]
  unfold fair_client_does.f
  simp only [guardN hp, ld, q_bs, q_I, q_B, q_P, q_S, q_M, q_c, q_a, q_gz, q_gs, q_gk, q_ct, q_cf, q_nt, q_nf, q_xt, q_xf, q_tt, q_ff, q_tf, q_ft, q_at, q_af, Nat.zero_add, m2]
  rw [show V1.agg [Cell.int .i64 o.p] = eKc o.p from rfl, mapGet_enc eKc_inj, getD_eIc, isSome_map']
  simp only [q_bs, q_I, q_B, q_P, q_S, q_M, q_c, q_a, q_gz, q_gs, q_gk, q_ct, q_cf, q_nt, q_nf, q_xt, q_xf, q_tt, q_ff, q_tf, q_ft, q_at, q_af]
  unfold Fa.does
  by_cases k1 : o.k = 1
  · rw [condD_pos k1, if_pos k1]
    obtain ⟨G1, f1, e1, h1, g1⟩ := fair_client_asks.sp ok h ⟨a0, a1⟩ i hs
    rw [e1]
    simp only [q_bs, q_I, q_B, q_P, q_S, q_M, q_c, q_a, q_gz, q_gs, q_gk, q_ct, q_cf, q_nt, q_nf, q_xt, q_xf, q_tt, q_ff, q_tf, q_ft, q_at, q_af]
    exact ⟨G1, f1, rfl, h1, g1⟩
  rw [condD_neg k1, if_neg k1]
  by_cases k2 : o.k = 2
  · rw [condD_pos k2, if_pos k2, class_Product.sp ok hn hs]
    simp only [q_bs, q_I, q_B, q_P, q_S, q_M, q_c, q_a, q_gz, q_gs, q_gk, q_ct, q_cf, q_nt, q_nf, q_xt, q_xf, q_tt, q_ff, q_tf, q_ft, q_at, q_af]
    by_cases z : (productS c.N o.n o.s).2 = 0
    · rw [condD_pos z, if_pos z]
      have hr : R64 (productS c.N o.n o.s).1 := by
        unfold productS at z ⊢
        by_cases c1 : o.n < 0 ∨ o.s < 0
        · rw [if_pos c1] at z; simp at z
        · rw [if_neg c1] at z ⊢
          by_cases c2 : o.n * o.s > c.N
          · rw [if_pos c2] at z; simp at z
          · rw [if_neg c2]
            have := Int.mul_nonneg (show 0 ≤ o.n by omega) (show 0 ≤ o.s by omega)
            unfold R64; dsimp only; omega
      obtain ⟨G1, f1, e1, h1, g1⟩ := fair_client_asks.sp ok h ⟨a0, a1⟩ i hr
      rw [e1]
      simp only [q_bs, q_I, q_B, q_P, q_S, q_M, q_c, q_a, q_gz, q_gs, q_gk, q_ct, q_cf, q_nt, q_nf, q_xt, q_xf, q_tt, q_ff, q_tf, q_ft, q_at, q_af]
      exact ⟨G1, f1, rfl, h1, g1⟩
    · rw [condD_neg z, if_neg z]
      exact ⟨G, f, rfl, h, fun f h => by cases h⟩
  rw [condD_neg k2, if_neg k2]
  by_cases k4 : o.k = 4
  · rw [condD_pos k4, if_pos k4]
    obtain ⟨G1, f1, e1, h1, g1⟩ := fair_client_goes.sp ok h o.p gr
    rw [e1]
    simp only [q_bs, q_I, q_B, q_P, q_S, q_M, q_c, q_a, q_gz, q_gs, q_gk, q_ct, q_cf, q_nt, q_nf, q_xt, q_xf, q_tt, q_ff, q_tf, q_ft, q_at, q_af]
    cases z : f.goes o.p with
    | none =>
      rw [Option.isSome_none, q_cf]
      exact ⟨G1, f1, rfl, h1, fun f h => by cases h⟩
    | some f2 =>
      have e2 := g1 f2 z
      subst e2
      obtain ⟨iv2, _⟩ := iv.goes z
      rw [Option.isSome_some, q_ct, Option.bind_some]
      obtain ⟨G3, f3, e3, h3, g3⟩ := fair_client_asks.sp ok h1 ⟨iv2.pos, iv2.le⟩ i hs
      rw [e3]
      simp only [q_bs, q_I, q_B, q_P, q_S, q_M, q_c, q_a, q_gz, q_gs, q_gk, q_ct, q_cf, q_nt, q_nf, q_xt, q_xf, q_tt, q_ff, q_tf, q_ft, q_at, q_af]
      exact ⟨G3, f3, rfl, h3, g3⟩
  rw [condD_neg k4, if_neg k4]
  by_cases k5 : o.k = 5
  · rw [condD_pos k5, if_pos k5]
    obtain ⟨G1, f1, e1, h1, g1⟩ := fair_client_goes.sp ok h o.p gr
    rw [e1]
    simp only [q_bs, q_I, q_B, q_P, q_S, q_M, q_c, q_a, q_gz, q_gs, q_gk, q_ct, q_cf, q_nt, q_nf, q_xt, q_xf, q_tt, q_ff, q_tf, q_ft, q_at, q_af]
    exact ⟨G1, f1, rfl, h1, g1⟩
  rw [condD_neg k5, if_neg k5]
  by_cases k6 : o.k = 6
  · rw [condD_pos k6, if_pos k6]
    cases z : aGet f.held o.p with
    | none => exact ⟨G, f, rfl, h, fun f h => by cases h⟩
    | some s => exact ⟨G, f, rfl, h, fun f' h => by cases h; rfl⟩
  rw [condD_neg k6, if_neg k6]
  have mid : ∀ t : Bool, t = decide (o.k = 7 ∨ o.k = 8) → FaOut G0 L fid mid c (if o.k = 7 ∨ o.k = 8 then (match aGet f.held o.p with | some s => if 0 ≤ o.n ∧ o.n < s then some f else none | none => none) else if o.k = 9 ∨ o.k = 10 then some f else none)
      (fair_client_does.J44 machW CW ((aGet f.held o.p).getD 0) (aGet f.held o.p).isSome o.k t o.k o.p o.s o.a o.n o.b G) := by
    intro t ht
    subst ht
    rw [fair_client_does.J44_eq]
    by_cases k7 : o.k = 7 ∨ o.k = 8
    · rw [condD_pos k7, if_pos k7]
      cases z : aGet f.held o.p with
      | none =>
        rw [Option.isSome_none, q_cf]
        exact ⟨G, f, rfl, h, fun f h => by cases h⟩
      | some s =>
        rw [Option.isSome_some, q_ct]
        dsimp only
        by_cases z1 : o.n ≥ 0
        · rw [condD_pos z1]
          by_cases z2 : o.n < s
          · rw [if_pos ⟨z1, z2⟩]
            exact ⟨G, f, by rw [Option.getD_some, decide_eq_true z2]; rfl, h, fun f' h => by cases h; rfl⟩
          · rw [if_neg (fun h => z2 h.2)]
            exact ⟨G, f, by rw [Option.getD_some, decide_eq_false z2]; rfl, h, fun f' h => by cases h⟩
        · rw [condD_neg z1, if_neg (fun h => z1 h.1)]
          exact ⟨G, f, rfl, h, fun f' h => by cases h⟩
    · rw [condD_neg k7, if_neg k7]
      have last : ∀ t : Bool, t = decide (o.k = 9 ∨ o.k = 10) → FaOut G0 L fid mid c (if o.k = 9 ∨ o.k = 10 then some f else none) (fair_client_does.J42 machW CW t G) := by
        intro t ht
        subst ht
        rw [fair_client_does.J42_eq]
        by_cases k9 : o.k = 9 ∨ o.k = 10
        · rw [condD_pos k9, if_pos k9]; exact ⟨G, f, rfl, h, fun f' h => by cases h; rfl⟩
        · rw [condD_neg k9, if_neg k9]; exact ⟨G, f, rfl, h, fun f' h => by cases h⟩
      by_cases k9 : o.k = 9
      · rw [condD_pos k9]; exact last _ (by rw [decide_eq_true k9, decide_eq_true (.inl k9)])
      · rw [condD_neg k9]; exact last _ (by simp only [k9, false_or])
  by_cases k7 : o.k = 7
  · rw [condD_pos k7]; exact mid _ (by rw [decide_eq_true k7, decide_eq_true (.inl k7)])
  · rw [condD_neg k7]; exact mid _ (by simp only [k7, false_or])
theorem FInv.does {c : Cf} (ok : c.Ok) {f f' : Fa} {i : Int} (iv : FInv c f i) (hi : 0 ≤ i) {o : OpV} (e : f.does c i o = some f') : FInv c f' (i + 1) := by
  unfold Fa.does at e
  by_cases k1 : o.k = 1
  · rw [if_pos k1] at e; exact (iv.asks hi e).1
  rw [if_neg k1] at e
  by_cases k2 : o.k = 2
  · rw [if_pos k2] at e
    split at e
    · exact (iv.asks hi e).1
    · cases e
  rw [if_neg k2] at e
  by_cases k4 : o.k = 4
  · rw [if_pos k4] at e
    obtain ⟨f1, g1, g2⟩ := Option.bind_eq_some_iff.1 e
    exact ((iv.goes g1).1.asks hi g2).1
  rw [if_neg k4] at e
  by_cases k5 : o.k = 5
  · rw [if_pos k5] at e; exact (iv.goes e).1.mono (by omega)
  rw [if_neg k5] at e
  by_cases k6 : o.k = 6
  · rw [if_pos k6] at e
    split at e
    · cases e; exact iv.mono (by omega)
    · cases e
  rw [if_neg k6] at e
  by_cases k7 : o.k = 7 ∨ o.k = 8
  · rw [if_pos k7] at e
    split at e
    · split at e
      · cases e; exact iv.mono (by omega)
      · cases e
    · cases e
  rw [if_neg k7] at e
  split at e
  · cases e; exact iv.mono (by omega)
  · cases e
theorem fair_May.sp (h : Hp G0 G L) {c : Cf} (ok : c.Ok) {pi po : Nat} {ops : List OpV} (so : Rd G0 L eOp pi po ops) (hin : ∀ o ∈ ops, R64 o.s ∧ R64 o.n) (hl : ops.length ≤ 1000000000) :
    ∃ G', CW fair_May.id [.agg (cfC c), .c (.sl 6 pi po ops.length)] G = some ([.c (.bool (fa0.may c 0 ops))], G') ∧ Hp G0 G' L := by
  rw [fair_May.cw]
  unfold fair_May.f
  dsimp only
  have h1 := (h.alloc (.map (.agg [.int .i64]) (encM eKc eIc fa0.held)))
  generalize hG1 : G.alloc (.map (.agg [.int .i64]) (encM eKc eIc fa0.held)) = G1 at *
  have hG1' : G.alloc (.map (.agg [.int .i64]) []) = G1 := hG1
  rw [hG1']
  have h2 : Hp G0 _ (faR G1.next G.next c fa0.all :: faM G.next fa0.held :: L) := h1.alloc _
  generalize hG2 : G1.alloc (faR G1.next G.next c fa0.all).2 = G2 at *
  have hG2' : G1.alloc (.row [.int .i64 c.G, .int .i64 c.N, .int .i64 c.M, .int .i64 c.L, .int .i64 c.Pg, .int .i64 c.P, .int .i64 c.H, .int .i64 c.Sd, .map G.next, .int .i64 0] false) = G2 := hG2
  rw [hG2']
  generalize G1.next = fid at *
  generalize G.next = mid at *
  have lp : ∀ (d i : Nat) (f : Fa) (G3 : GH), i + d = ops.length → Hp G0 G3 (faR fid mid c f.all :: faM mid f.held :: L) → FInv c f (i : Int) → f.may c i (ops.drop i) = fa0.may c 0 ops →
      ∃ G', fair_May.L21 machW CW fid 0 pi po ops.length ((ops.length : Nat) : Int) (i : Int) G3 = some ([.c (.bool (fa0.may c 0 ops))], G') ∧ Hp G0 G' L := by
    intro d
    induction d with
    | zero =>
      intro i f G3 hi h3 iv e
      rw [List.drop_of_length_le (by omega)] at e
      rw [fair_May.L21_eq, condD_neg (by omega), ← e]
      exact ⟨G3, rfl, h3.tl.tl⟩
    | succ d ih =>
      intro i f G3 hi h3 iv e
      have hil : i < ops.length := by omega
      have ed : ops.drop i = ops[i] :: ops.drop (i + 1) := List.drop_eq_getElem_cons hil
      have zi : decide (0 ≤ (i : Int) ∧ (i : Int) < ((ops.length : Nat) : Int)) = true := decide_eq_true (by omega)
      have so3 := so _ h3.tl.tl
      have ho := hin _ (List.getElem_mem hil)
      rw [fair_May.L21_eq, condD_pos (by omega)]
      simp only [zi, Int.toNat_natCast, so3.ld i 0 hil (by omega), so3.ld i 1 hil (by omega), so3.ld i 2 hil (by omega), so3.ld i 3 hil (by omega), so3.ld i 4 hil (by omega), so3.ld i 5 hil (by omega), q_bs, q_I, q_B, q_P, q_S, q_M, q_c, q_a, q_gz, q_gs, q_gk, q_ct, q_cf, q_nt, q_nf, q_xt, q_xf, q_tt, q_ff, q_tf, q_ft, q_at, q_af]
      obtain ⟨G4, f4, e4, h4, g4⟩ := fair_client_does.sp ok iv h3 (o := ops[i]) ho.1 ho.2
      rw [e4]
      simp only [q_bs, q_I, q_B, q_P, q_S, q_M, q_c, q_a, q_gz, q_gs, q_gk, q_ct, q_cf, q_nt, q_nf, q_xt, q_xf, q_tt, q_ff, q_tf, q_ft, q_at, q_af]
      rw [ed] at e
      simp only [Fa.may] at e
      cases z : f.does c (i : Int) ops[i] with
      | none =>
        rw [z] at e
        dsimp only at e
        rw [Option.isSome_none, q_nf, q_ct, ← e]
        exact ⟨G4, rfl, h4.tl.tl⟩
      | some f5 =>
        rw [z] at e
        dsimp only at e
        have e5 := g4 f5 z
        subst e5
        rw [Option.isSome_some, q_nt, q_cf, i64w, wrap_id (by omega) (by omega)]
        exact ih (i + 1) f4 G4 (by omega) h4 (iv.does ok (by omega) z) e
  exact lp ops.length 0 fa0 G2 (by omega) h2 (FInv.zero ok) (by rw [List.drop_zero])
end Go.Proofs.D.S
/- Clients made of numbers. -/
set_option linter.unusedVariables false
set_option linter.unusedSimpArgs false
namespace Go.Proofs.D.S
open Go Go.RowKit
variable {G G0 : GH} {L : List (Nat × Obj)}
/-- A call's numbers, as a client makes them. -/
def OpCl (o : OpV) : Prop := R64 o.s ∧ R64 o.a ∧ R64 o.n ∧ 0 ≤ o.b ∧ o.b ≤ 255
theorem r64w (x : Int) : R64 (IntKind.i64.wrap x) := by rw [i64w]; exact wrap_range x
/-- What a client's making comes to. -/
def ClOut (G0 : GH) (L : List (Nat × Obj)) (A : Int) (x : Option Res) : Prop :=
  ∃ (oid : Nat) (ops : List OpV) (G' : GH), x = some ([.c (.sl 6 oid 0 ops.length)], G') ∧ Hp G0 G' (rowE eOp oid ops :: L) ∧ (∀ o ∈ ops, OpCl o) ∧ (ops.length : Int) ≤ A
/-- Where it stands. -/
structure ClSt (G0 : GH) (L : List (Nat × Obj)) (G : GH) (pid lid lo n : Nat) (j : Int) (sid : Nat) (sz : List (Int × Int)) (oid : Nat) (ops : List OpV) (vid : Nat) (lv : List Int) (A i : Int) : Prop where
  h : Hp G0 G (pk pid lid lo n j :: (sid, .map (.c (.int .i64)) (encM eIc eIc sz)) :: rowE eOp oid ops :: rowE eI vid lv :: L)
  j : 0 ≤ j ∧ j ≤ n
  o : ∀ o ∈ ops, OpCl o
  l : (ops.length : Int) = i
  v : (lv.length : Int) ≤ i
  i : 0 ≤ i ∧ i ≤ A
section
variable {lid lo n : Nat} {xs : List Int} (p : PkOk G0 L lid lo n xs) {c : Cf} {A : Int} (hA : A ≤ 1000000)
include p hA
theorem hodmanlaw23_Client.sp0 {d : Nat} (ih : ∀ (G : GH) (pid : Nat) (j : Int) (sid : Nat) (sz : List (Int × Int)) (oid : Nat) (ops : List OpV) (vid : Nat) (lv : List Int) (i sum : Int), i + d = A →
      ClSt G0 L G pid lid lo n j sid sz oid ops vid lv A i → ClOut G0 L A (hodmanlaw23_Client.L109 machW CW A pid 0 oid 0 ops.length vid 0 lv.length sid sum i c.G c.N c.M c.L c.Pg c.P c.H c.Sd G))
    {pid : Nat} {j : Int} {sid : Nat} {sz : List (Int × Int)} {oid : Nat} {ops : List OpV} {vid : Nat} {lv : List Int} {i sum : Int} (hi : i + (d + 1 : Nat) = A)
    (s : ClSt G0 L G pid lid lo n j sid sz oid ops vid lv A i) : ClOut G0 L A (hodmanlaw23_Client.L109 machW CW A pid 0 oid 0 ops.length vid 0 lv.length sid sum i c.G c.N c.M c.L c.Pg c.P c.H c.Sd G) := by
  have hm : (1000000001 : Nat) ≤ most := by unfold most; decide
  have hj := s.j
  have hii := s.i
  have hl := s.l
  have hv := s.v
  have pL : ∀ x y z : Nat × Obj, PkOk G0 (x :: y :: z :: L) lid lo n xs := fun x y z => ((p.cons _).cons _).cons _
  -- behind what is done: the next one
  have nxt : ∀ (G : GH) (j : Int) (sz : List (Int × Int)) (oid : Nat) (ops : List OpV) (vid : Nat) (lv : List Int) (sum : Int), ClSt G0 L G pid lid lo n j sid sz oid ops vid lv A (i + 1) →
      ClOut G0 L A (hodmanlaw23_Client.J106 machW CW A pid 0 oid 0 ops.length vid 0 lv.length sid sum i c.G c.N c.M c.L c.Pg c.P c.H c.Sd G) := by
    intro G j sz oid ops vid lv sum s
    rw [hodmanlaw23_Client.J106_eq, i64w, wrap_id (by omega) (by omega)]
    exact ih G pid j sid sz oid ops vid lv (i + 1) sum (by omega) s
  -- what is live behind it
  have fin : ∀ (t : Bool) (G : GH) (j : Int) (sz : List (Int × Int)) (oid : Nat) (ops : List OpV) (vid : Nat) (lv : List Int) (sum v : Int), Hp G0 G (pk pid lid lo n j :: (sid, .map (.c (.int .i64)) (encM eIc eIc sz)) :: rowE eOp oid ops :: rowE eI vid lv :: L) → (0 ≤ j ∧ j ≤ n) → (∀ o ∈ ops, OpCl o) → (ops.length : Int) = i + 1 → (lv.length : Int) ≤ i →
      ClOut G0 L A (hodmanlaw23_Client.J92 machW CW A pid 0 oid 0 ops.length vid 0 lv.length sid sum i v t c.G c.N c.M c.L c.Pg c.P c.H c.Sd G) := by
    intro t G j sz oid ops vid lv sum v h hj ho hl hv
    rw [hodmanlaw23_Client.J92_eq]
    cases t with
    | false =>
      rw [q_cf]
      exact nxt G j sz oid ops vid lv sum ⟨h, hj, ho, by omega, by omega, by omega⟩
    | true =>
      rw [q_ct]
      obtain ⟨vid2, G2, h2, k2⟩ := Hp.app1 (S := Res) (e := eI) (h.pick 3) i (n := lv.length) rfl (by omega)
      rw [k2]
      dsimp only
      have h3 := (h2.back 3).pick 1
      obtain ⟨m0, m1, _⟩ := Hp.ents (ks := .c (.int .i64)) h3
      rw [m1, q_bs]
      have h4 := (h3.set (o' := .map (.c (.int .i64)) (encM eIc eIc (aPut sz i v))) m0).back 1
      rw [← mapPut_enc eIc_inj] at h4
      have e : (lv ++ [i]).length = lv.length + 1 := by simp
      rw [← e]
      refine nxt _ j (aPut sz i v) oid ops vid2 (lv ++ [i]) _ ⟨?_, hj, ho, by omega, by rw [e]; omega, by omega⟩
      rw [← mapPut_enc eIc_inj]
      exact h4
  have fin2 : ∀ (o : OpV) (G : GH) (j : Int) (sz : List (Int × Int)) (oid : Nat) (ops : List OpV) (vid : Nat) (lv : List Int) (sum v : Int), Hp G0 G (pk pid lid lo n j :: (sid, .map (.c (.int .i64)) (encM eIc eIc sz)) :: rowE eOp oid ops :: rowE eI vid lv :: L) → (0 ≤ j ∧ j ≤ n) → (∀ o ∈ ops, OpCl o) → (ops.length : Int) = i + 1 → (lv.length : Int) ≤ i →
      ClOut G0 L A (hodmanlaw23_Client.J93 machW CW A pid 0 oid 0 ops.length vid 0 lv.length sid sum i v c.G c.N c.M c.L c.Pg c.P c.H c.Sd o.k o.p o.s o.a o.n o.b G) := by
    intro o G j sz oid ops vid lv sum v h hj ho hl hv
    rw [hodmanlaw23_Client.J93_eq]
    by_cases k1 : o.k = 1
    · rw [condD_pos k1]; exact fin true G j sz oid ops vid lv sum v h hj ho hl hv
    rw [condD_neg k1]
    by_cases k2 : o.k = 2
    · rw [condD_pos k2]; exact fin true G j sz oid ops vid lv sum v h hj ho hl hv
    rw [condD_neg k2]
    exact fin _ G j sz oid ops vid lv sum v h hj ho hl hv
  -- what stays of what is live
  have rest : ∀ (d x : Nat) (o : OpV) (G : GH) (j : Int) (sz : List (Int × Int)) (oid : Nat) (ops : List OpV) (vid : Nat) (lv : List Int) (uid : Nat) (rs : List Int) (sum k v : Int), x + d = lv.length → rs.length ≤ x →
      Hp G0 G (rowE eI uid rs :: pk pid lid lo n j :: (sid, .map (.c (.int .i64)) (encM eIc eIc sz)) :: rowE eOp oid ops :: rowE eI vid lv :: L) → (0 ≤ j ∧ j ≤ n) → (∀ o ∈ ops, OpCl o) → (ops.length : Int) = i + 1 → (lv.length : Int) ≤ i →
      ClOut G0 L A (hodmanlaw23_Client.L77 machW CW A pid 0 oid 0 ops.length vid 0 lv.length sid sum i k v uid 0 rs.length (x : Int) c.G c.N c.M c.L c.Pg c.P c.H c.Sd o.k o.p o.s o.a o.n o.b G) := by
    intro d
    induction d with
    | zero =>
      intro x o G j sz oid ops vid lv uid rs sum k v hx hr h hj ho hl hv
      rw [hodmanlaw23_Client.L77_eq, condD_neg (by omega)]
      exact fin2 o G j sz oid ops uid rs sum v ((h.back 3).sub (by simp [bk])) hj ho hl (by omega)
    | succ d ihd =>
      intro x o G j sz oid ops vid lv uid rs sum k v hx hr h hj ho hl hv
      have hxl : x < lv.length := by omega
      have zi : decide (0 ≤ (x : Int) ∧ (x : Int) < ((lv.length : Nat) : Int)) = true := decide_eq_true (by omega)
      have sv := h.sl (e := eI) (id := vid) (xs := lv) (by simp)
      have r0 := sv.ld x 0 hxl (by omega)
      rw [Nat.add_zero] at r0
      rw [hodmanlaw23_Client.L77_eq, condD_pos (by omega)]
      simp only [zi, Int.toNat_natCast, r0, q_bs, q_I, q_B, q_P, q_S, q_M, q_c, q_a, q_gz, q_gs, q_gk, q_ct, q_cf, q_nt, q_nf, q_xt, q_xf, q_tt, q_ff, q_tf, q_ft, q_at, q_af]
      have go : ∀ (G : GH) (uid : Nat) (rs : List Int), rs.length ≤ x + 1 → Hp G0 G (rowE eI uid rs :: pk pid lid lo n j :: (sid, .map (.c (.int .i64)) (encM eIc eIc sz)) :: rowE eOp oid ops :: rowE eI vid lv :: L) →
          ClOut G0 L A (hodmanlaw23_Client.J74 machW CW A pid 0 oid 0 ops.length vid 0 lv.length sid sum i k v uid 0 rs.length (x : Int) c.G c.N c.M c.L c.Pg c.P c.H c.Sd o.k o.p o.s o.a o.n o.b G) := by
        intro G uid rs hr h
        rw [hodmanlaw23_Client.J74_eq, i64w, wrap_id (by omega) (by omega)]
        exact ihd (x + 1) o G j sz oid ops vid lv uid rs sum k v (by omega) hr h hj ho hl hv
      by_cases hk : lv[x] = k
      · rw [decide_eq_true hk, q_nt, q_cf]; exact go G uid rs (by omega) h
      · rw [decide_eq_false hk, q_nf, q_ct]
        obtain ⟨uid2, G2, h2, k2⟩ := h.app1 (S := Res) lv[x] (n := rs.length) rfl (by omega)
        rw [k2]
        dsimp only
        have e : (rs ++ [lv[x]]).length = rs.length + 1 := by simp
        rw [← e]
        exact go G2 uid2 _ (by rw [e]; omega) h2
  -- a call is told
  have told : ∀ (o : OpV) (G : GH) (j sum k v : Int), OpCl o → Hp G0 G (pk pid lid lo n j :: (sid, .map (.c (.int .i64)) (encM eIc eIc sz)) :: rowE eOp oid ops :: rowE eI vid lv :: L) → (0 ≤ j ∧ j ≤ n) →
      ClOut G0 L A (hodmanlaw23_Client.J95 machW CW A pid 0 oid 0 ops.length vid 0 lv.length sid sum i k v c.G c.N c.M c.L c.Pg c.P c.H c.Sd o.k o.p o.s o.a o.n o.b G) := by
    intro o G j sum k v hoc h hj
    rw [hodmanlaw23_Client.J95_eq]
    dsimp only
    obtain ⟨oid2, G2, h2, k2⟩ := Hp.app1 (S := Res) (e := eOp) (h.pick 2) o (n := ops.length) rfl (by omega)
    rw [k2]
    dsimp only
    have h3 := h2.back 2
    have e : (ops ++ [o]).length = ops.length + 1 := by simp
    rw [← e]
    have ho2 : ∀ x ∈ ops ++ [o], OpCl x := by
      intro x hx
      rcases List.mem_append.1 hx with hx | hx
      · exact s.o x hx
      · simp at hx; subst hx; exact hoc
    have mid : ∀ t : Bool, ClOut G0 L A (hodmanlaw23_Client.J85 machW CW A pid 0 oid2 0 (ops ++ [o]).length vid 0 lv.length sid sum i k v t c.G c.N c.M c.L c.Pg c.P c.H c.Sd o.k o.p o.s o.a o.n o.b G2) := by
      intro t
      rw [hodmanlaw23_Client.J85_eq]
      cases t with
      | false => rw [q_cf]; exact fin2 o G2 j sz oid2 _ vid lv sum v h3 hj ho2 (by rw [e]; omega) (by omega)
      | true =>
        rw [q_ct]
        obtain ⟨_, _, m2⟩ := Hp.ents (ks := .c (.int .i64)) (h3.pick 1)
        rw [m2, q_bs, show (V1.c (.int .i64 k)) = eIc k from rfl, mapGet_enc eIc_inj, getD_eIc]
        simp only [q_bs, q_I, q_B, q_P, q_S, q_M, q_c, q_a, q_gz, q_gs, q_gk, q_ct, q_cf, q_nt, q_nf, q_xt, q_xf, q_tt, q_ff, q_tf, q_ft, q_at, q_af]
        exact rest lv.length 0 o G2 j sz oid2 _ vid lv 0 [] _ k v (by omega) (by simp) h3.nil0 hj ho2 (by rw [e]; omega) (by omega)
    by_cases k5 : o.k = 5
    · rw [condD_pos k5]; exact mid true
    · rw [condD_neg k5]; exact mid _
  have R : ∀ {x : Int}, -1000 ≤ x → x ≤ 100000 → R64 x := fun a b => by unfold R64; omega
  -- which call
  have kind : ∀ (G : GH) (j sum k t v : Int), R64 v → Hp G0 G (pk pid lid lo n j :: (sid, .map (.c (.int .i64)) (encM eIc eIc sz)) :: rowE eOp oid ops :: rowE eI vid lv :: L) → (0 ≤ j ∧ j ≤ n) →
      ClOut G0 L A (hodmanlaw23_Client.J96 machW CW A pid 0 oid 0 ops.length vid 0 lv.length sid sum i k t v c.G c.N c.M c.L c.Pg c.P c.H c.Sd 1 0 0 0 0 0 G) := by
    intro G j sum k t v hv h hj
    rw [hodmanlaw23_Client.J96_eq]
    by_cases z : t < 7
    · rw [condD_pos z]; exact told ⟨1, 0, v, 0, 0, 0⟩ G j sum k v ⟨hv, R (by dsimp only; omega) (by dsimp only; omega), R (by dsimp only; omega) (by dsimp only; omega), (by dsimp only; omega), (by dsimp only; omega)⟩ h hj
    rw [condD_neg z]
    by_cases z : t = 7
    · rw [condD_pos z]; exact told ⟨2, 0, v, 0, 1, 0⟩ G j sum k v ⟨hv, R (by dsimp only; omega) (by dsimp only; omega), R (by dsimp only; omega) (by dsimp only; omega), (by dsimp only; omega), (by dsimp only; omega)⟩ h hj
    rw [condD_neg z]
    by_cases z : t < 10
    · rw [condD_pos z]; exact told ⟨4, k, v, 0, 0, 0⟩ G j sum k v ⟨hv, R (by dsimp only; omega) (by dsimp only; omega), R (by dsimp only; omega) (by dsimp only; omega), (by dsimp only; omega), (by dsimp only; omega)⟩ h hj
    rw [condD_neg z]
    by_cases z : t < 13
    · rw [condD_pos z]; exact told ⟨5, k, 0, 0, 0, 0⟩ G j sum k v ⟨R (by dsimp only; omega) (by dsimp only; omega), R (by dsimp only; omega) (by dsimp only; omega), R (by dsimp only; omega) (by dsimp only; omega), (by dsimp only; omega), (by dsimp only; omega)⟩ h hj
    rw [condD_neg z]
    obtain ⟨_, _, m2⟩ := Hp.ents (ks := .c (.int .i64)) (h.pick 1)
    by_cases z : t = 13
    · rw [condD_pos z, m2, q_bs, show (V1.c (.int .i64 k)) = eIc k from rfl, mapGet_enc eIc_inj, getD_eIc]
      obtain ⟨v1, j1, G1, e1, k1, a1, b1, c1, d1, f1, _⟩ := hodmanplay_Picks_Num.sp h (pL _ _ _) hj.1 hj.2 ((aGet sz k).getD 0)
      simp only [q_bs, q_I, q_B, q_P, q_S, q_M, q_c, q_a, q_gz, q_gs, q_gk, q_ct, q_cf, q_nt, q_nf, q_xt, q_xf, q_tt, q_ff, q_tf, q_ft, q_at, q_af]
      rw [e1]
      simp only [q_bs, q_I, q_B, q_P, q_S, q_M, q_c, q_a, q_gz, q_gs, q_gk, q_ct, q_cf, q_nt, q_nf, q_xt, q_xf, q_tt, q_ff, q_tf, q_ft, q_at, q_af]
      exact told ⟨7, k, 0, 0, v1, 0⟩ G1 j1 sum k v ⟨R (by dsimp only; omega) (by dsimp only; omega), R (by dsimp only; omega) (by dsimp only; omega), R (by dsimp only; omega) (by dsimp only; omega), (by dsimp only; omega), (by dsimp only; omega)⟩ k1 ⟨by omega, f1⟩
    rw [condD_neg z]
    by_cases z : t = 14
    · rw [condD_pos z, m2, q_bs, show (V1.c (.int .i64 k)) = eIc k from rfl, mapGet_enc eIc_inj, getD_eIc]
      obtain ⟨v1, j1, G1, e1, k1, a1, b1, c1, d1, f1, _⟩ := hodmanplay_Picks_Num.sp h (pL _ _ _) hj.1 hj.2 ((aGet sz k).getD 0)
      obtain ⟨v2, j2, G2, e2, k2, a2, b2, c2, d2, f2, _⟩ := hodmanplay_Picks_Num.sp k1 (pL _ _ _) (by omega) f1 256
      simp only [q_bs, q_I, q_B, q_P, q_S, q_M, q_c, q_a, q_gz, q_gs, q_gk, q_ct, q_cf, q_nt, q_nf, q_xt, q_xf, q_tt, q_ff, q_tf, q_ft, q_at, q_af]
      rw [e1]
      simp only [q_bs, q_I, q_B, q_P, q_S, q_M, q_c, q_a, q_gz, q_gs, q_gk, q_ct, q_cf, q_nt, q_nf, q_xt, q_xf, q_tt, q_ff, q_tf, q_ft, q_at, q_af]
      rw [e2]
      simp only [q_bs, q_I, q_B, q_P, q_S, q_M, q_c, q_a, q_gz, q_gs, q_gk, q_ct, q_cf, q_nt, q_nf, q_xt, q_xf, q_tt, q_ff, q_tf, q_ft, q_at, q_af]
      have w8 : IntKind.u8.wrap v2 = v2 := by
        have : IntKind.u8.wrap v2 = v2 % 256 := by simp [IntKind.wrap, IntKind.signed, IntKind.bits]
        rw [this]; omega
      rw [w8]
      exact told ⟨8, k, 0, 0, v1, v2⟩ G2 j2 sum k v ⟨R (by dsimp only; omega) (by dsimp only; omega), R (by dsimp only; omega) (by dsimp only; omega), R (by dsimp only; omega) (by dsimp only; omega), a2, b2⟩ k2 ⟨by omega, f2⟩
    rw [condD_neg z]
    obtain ⟨v1, j1, G1, e1, k1, a1, b1, c1, d1, f1, _⟩ := hodmanplay_Picks_Num.sp h (pL _ _ _) hj.1 hj.2 2
    rw [e1]
    simp only [q_bs, q_I, q_B, q_P, q_S, q_M, q_c, q_a, q_gz, q_gs, q_gk, q_ct, q_cf, q_nt, q_nf, q_xt, q_xf, q_tt, q_ff, q_tf, q_ft, q_at, q_af]
    exact told ⟨IntKind.i64.wrap (9 + v1), 0, 0, 0, 0, 0⟩ G1 j1 sum k v ⟨R (by dsimp only; omega) (by dsimp only; omega), R (by dsimp only; omega) (by dsimp only; omega), R (by dsimp only; omega) (by dsimp only; omega), (by dsimp only; omega), (by dsimp only; omega)⟩ k1 ⟨by omega, f1⟩
  have size : ∀ (G : GH) (j sum k r t : Int), Hp G0 G (pk pid lid lo n j :: (sid, .map (.c (.int .i64)) (encM eIc eIc sz)) :: rowE eOp oid ops :: rowE eI vid lv :: L) → (0 ≤ j ∧ j ≤ n) →
      ClOut G0 L A (hodmanlaw23_Client.J98 machW CW A pid 0 oid 0 ops.length vid 0 lv.length sid sum i k r t c.G c.N c.M c.L c.Pg c.P c.H c.Sd 1 0 0 0 0 0 G) := by
    intro G j sum k r t h hj
    rw [hodmanlaw23_Client.J98_eq]
    obtain ⟨v1, j1, G1, e1, k1, a1, b1, c1, d1, f1, _⟩ := hodmanplay_Picks_Num.sp h (pL _ _ _) hj.1 hj.2 (mx2 1 (mn2 c.N (mx2 r 1)))
    rw [e1]
    simp only [q_bs, q_I, q_B, q_P, q_S, q_M, q_c, q_a, q_gz, q_gs, q_gk, q_ct, q_cf, q_nt, q_nf, q_xt, q_xf, q_tt, q_ff, q_tf, q_ft, q_at, q_af]
    by_cases z : IntKind.i64.wrap (2 * IntKind.i64.wrap (1 + v1)) < c.G
    · rw [condD_pos z]; exact kind G1 j1 sum k t _ (r64w _) k1 ⟨by omega, f1⟩
    · rw [condD_neg z]; exact kind G1 j1 sum k t _ (r64w _) k1 ⟨by omega, f1⟩
  have room : ∀ (b : Bool) (G : GH) (j sum k r t : Int), Hp G0 G (pk pid lid lo n j :: (sid, .map (.c (.int .i64)) (encM eIc eIc sz)) :: rowE eOp oid ops :: rowE eI vid lv :: L) → (0 ≤ j ∧ j ≤ n) →
      ClOut G0 L A (hodmanlaw23_Client.J24 machW CW A pid 0 oid 0 ops.length vid 0 lv.length sid sum i k r t b c.G c.N c.M c.L c.Pg c.P c.H c.Sd 1 0 0 0 0 0 G) := by
    intro b G j sum k r t h hj
    rw [hodmanlaw23_Client.J24_eq]
    cases b with
    | false => rw [q_cf]; exact size G j sum k r t h hj
    | true => rw [q_ct]; exact size G j sum k r 15 h hj
  have call : ∀ (G : GH) (j k : Int), Hp G0 G (pk pid lid lo n j :: (sid, .map (.c (.int .i64)) (encM eIc eIc sz)) :: rowE eOp oid ops :: rowE eI vid lv :: L) → (0 ≤ j ∧ j ≤ n) →
      ClOut G0 L A (hodmanlaw23_Client.J101 machW CW A pid 0 oid 0 ops.length vid 0 lv.length sid sum i k c.G c.N c.M c.L c.Pg c.P c.H c.Sd 1 0 0 0 0 0 G) := by
    intro G j k h hj
    rw [hodmanlaw23_Client.J101_eq]
    obtain ⟨v1, j1, G1, e1, k1, a1, b1, c1, d1, f1, _⟩ := hodmanplay_Picks_Num.sp h (pL _ _ _) hj.1 hj.2 16
    rw [e1]
    simp only [q_bs, q_I, q_B, q_P, q_S, q_M, q_c, q_a, q_gz, q_gs, q_gk, q_ct, q_cf, q_nt, q_nf, q_xt, q_xf, q_tt, q_ff, q_tf, q_ft, q_at, q_af]
    have hj1 : 0 ≤ j1 ∧ j1 ≤ n := ⟨by omega, f1⟩
    by_cases z1 : v1 ≥ 8
    · rw [condD_pos z1]
      by_cases z2 : k < 0
      · rw [condD_pos z2]; exact room _ G1 j1 sum k _ _ k1 hj1
      · rw [condD_neg z2]
        by_cases z3 : v1 < 8
        · rw [condD_pos z3]; exact room _ G1 j1 sum k _ _ k1 hj1
        · rw [condD_neg z3]; exact room _ G1 j1 sum k _ _ k1 hj1
    · rw [condD_neg z1]
      by_cases z3 : v1 < 8
      · rw [condD_pos z3]; exact room _ G1 j1 sum k _ _ k1 hj1
      · rw [condD_neg z3]; exact room _ G1 j1 sum k _ _ k1 hj1
  rw [hodmanlaw23_Client.L109_eq, condD_pos (by omega), hodmanplay_Picks_Over.sp s.h]
  simp only [q_bs, q_I, q_B, q_P, q_S, q_M, q_c, q_a, q_gz, q_gs, q_gk, q_ct, q_cf, q_nt, q_nf, q_xt, q_xf, q_tt, q_ff, q_tf, q_ft, q_at, q_af]
  rw [hodmanlaw23_Client.J10_eq]
  by_cases hov : j ≥ (n : Int)
  · rw [decide_eq_true hov, q_nt, q_cf]
    exact ⟨oid, ops, G, rfl, (s.h.pick 2).sub (.cons_cons _ (.cons _ (.cons _ (.cons _ (.refl _))))), s.o, by omega⟩
  · rw [decide_eq_false hov, q_nf, q_ct]
    by_cases hz : ((lv.length : Nat) : Int) > 0
    · rw [condD_pos hz]
      obtain ⟨v1, j1, G1, e1, k1, a1, b1, c1, d1, f1, _⟩ := hodmanplay_Picks_Num.sp s.h (pL _ _ _) hj.1 hj.2 ((lv.length : Nat) : Int)
      have c1 := c1 (by omega)
      rw [e1]
      simp only [q_bs, q_I, q_B, q_P, q_S, q_M, q_c, q_a, q_gz, q_gs, q_gk, q_ct, q_cf, q_nt, q_nf, q_xt, q_xf, q_tt, q_ff, q_tf, q_ft, q_at, q_af]
      have sv := k1.sl (e := eI) (id := vid) (xs := lv) (by simp)
      have r0 := sv.ld v1.toNat 0 (by omega) (by omega)
      rw [Nat.add_zero] at r0
      rw [guardD_of (by omega), r0]
      simp only [q_bs, q_I, q_B, q_P, q_S, q_M, q_c, q_a, q_gz, q_gs, q_gk, q_ct, q_cf, q_nt, q_nf, q_xt, q_xf, q_tt, q_ff, q_tf, q_ft, q_at, q_af]
      exact call G1 j1 _ k1 ⟨by omega, f1⟩
    · rw [condD_neg hz]; exact call G j _ s.h hj
theorem hodmanlaw23_Client.lp : ∀ (d : Nat) (G : GH) (pid : Nat) (j : Int) (sid : Nat) (sz : List (Int × Int)) (oid : Nat) (ops : List OpV) (vid : Nat) (lv : List Int) (i sum : Int), i + d = A →
    ClSt G0 L G pid lid lo n j sid sz oid ops vid lv A i → ClOut G0 L A (hodmanlaw23_Client.L109 machW CW A pid 0 oid 0 ops.length vid 0 lv.length sid sum i c.G c.N c.M c.L c.Pg c.P c.H c.Sd G)
  | 0, G, pid, j, sid, sz, oid, ops, vid, lv, i, sum, hi, s => by
    have hl := s.l
    rw [hodmanlaw23_Client.L109_eq, condD_neg (by omega), hodmanlaw23_Client.J10_eq, q_cf]
    exact ⟨oid, ops, G, rfl, (s.h.pick 2).sub (.cons_cons _ (.cons _ (.cons _ (.cons _ (.refl _))))), s.o, by omega⟩
  | d + 1, G, pid, j, sid, sz, oid, ops, vid, lv, i, sum, hi, s => hodmanlaw23_Client.sp0 p hA (hodmanlaw23_Client.lp d) hi s
end
theorem hodmanlaw23_Client.sp (h : Hp G0 G L) {lid lo n : Nat} {xs : List Int} (p : PkOk G0 L lid lo n xs) {c : Cf} {A : Int} (hA : 0 ≤ A ∧ A ≤ 1000000) :
    ClOut G0 L A (CW hodmanlaw23_Client.id [.agg (cfC c), .c (.sl 1 lid lo n), .c (.int .i64 A)] G) := by
  rw [hodmanlaw23_Client.cw]
  unfold hodmanlaw23_Client.f
  obtain ⟨pid, G1, e1, h1⟩ := hodmanplay_Made.sp h lid lo n
  rw [e1]
  simp only [q_bs, q_I, q_B, q_P, q_S, q_M, q_c, q_a, q_gz, q_gs, q_gk, q_ct, q_cf, q_nt, q_nf, q_xt, q_xf, q_tt, q_ff, q_tf, q_ft, q_at, q_af]
  have h2 := (((((h1.alloc (.map (.c (.int .i64)) (encM eIc eIc ([] : List (Int × Int))))).pick 1).nil0 (e := eOp)).back 2).nil0 (e := eI)).back 3
  exact hodmanlaw23_Client.lp p hA.2 A.toNat _ pid 0 _ [] 0 [] 0 [] 0 0 (by omega) ⟨h2, by omega, fun o ho => (by cases ho), rfl, by simp, by omega⟩
end Go.Proofs.D.S
/- The reference's give, of, Do. -/
set_option linter.unusedVariables false
set_option linter.unusedSimpArgs false
namespace Go.Proofs.D.S
open Go Go.RowKit
variable {G G0 : GH} {L : List (Nat × Obj)}
theorem hodmanref17_wrong.sp {m : Mod} {bi oi mi : Nat} {e : Int} : CW hodmanref17_wrong.id [.agg (modC bi oi mi m), .c (.int .i64 e)] G = some ([.agg (modC bi oi mi m), .agg (eAns (errA e))], G) := by
  rw [hodmanref17_wrong.cw]
  unfold hodmanref17_wrong.f
  rfl
theorem hodmanref17_give.fin (w : G.wf) {m : Mod} (ok : m.Ok) {bi oi mi : Nat} (s : Md G bi oi mi m) (o : OpV) {sz r1 r2 : Int} (hr : r2 = 0 → 1 ≤ r1 ∧ m.live + r1 ≤ m.c.M) {X : Mod × AnsV}
    (hX : X = if r2 = 0 then (if (placeM m m.bl r1 sz).2.2 = 0 then ((if o.k = 2 then { (placeM m m.bl r1 sz).1 with mem := zeroP (placeM m m.bl r1 sz).1.mem (placeM m m.bl r1 sz).2.1 r1 } else (placeM m m.bl r1 sz).1), (⟨0, (placeM m m.bl r1 sz).2.1, 0, 0, 0, 0, 0, 0⟩ : AnsV)) else (m, errA (placeM m m.bl r1 sz).2.2)) else (m, errA r2)) :
    ∃ bi' oi' mi' G', hodmanref17_give.J41 machW CW sz r1 r2 m.c.G m.c.N m.c.M m.c.L m.c.Pg m.c.P m.c.H m.c.Sd bi 0 m.bl.length m.live m.peak m.mark oi 0 m.on.length mi 0 m.mem.length o.k o.p o.s o.a o.n o.b 0 0 0 0 0 0 0 0 0 0 0 0 0 0 0 0 0 0 0 0 0 0 0 0 0 0 0 0 G =
      some ([.agg (modC bi' oi' mi' X.1), .agg (eAns X.2)], G') ∧ Hp G G' [] ∧ Md G' bi' oi' mi' X.1 ∧ Mv G G' bi oi mi bi' oi' mi' := by
  subst hX
  have f := ok.c.facts
  have hlive := ok.live
  have hlim := ok.lim
  have hlen := chSum_len ok.bl
  rw [hodmanref17_give.J41_eq]
  by_cases h : r2 = 0
  · rw [condN_neg h]
    simp only [if_pos h]
    obtain ⟨r1p, r1m⟩ := hr h
    obtain ⟨bi', oi', mi', G1, e1, h1, s1, v1⟩ := hodmanref17_place.sp w ok s (li := bi) (l := m.bl) (asked := sz) s.bl ok.bl (by omega) (n := r1) (by omega)
    rw [e1]
    simp only [q_bs, q_I, q_B, q_P, q_S, q_M, q_c, q_a, q_gz, q_gs, q_gk, q_ct, q_cf, q_nt, q_nf, q_xt, q_xf, q_tt, q_ff, q_tf, q_ft, q_at, q_af, List.length_cons, List.length_nil, if_true]
    by_cases hq : (placeM m m.bl r1 sz).2.2 = 0
    · rw [condN_neg hq]
      simp only [if_pos hq]
      obtain ⟨k1, k2, k3, k4⟩ := placeM_ok ok (asked := sz) r1p ok.bl (by rw [← ok.live]; exact r1m) hq
      have km : ((placeM m m.bl r1 sz).1.mem.length : Int) = m.c.H := k1.mem.trans (congrArg Cf.H k2)
      by_cases h2 : o.k = 2
      · rw [condD_pos h2]
        simp only [if_pos h2]
        obtain ⟨mi2, G2, e2, h2'⟩ := hodmanref8_Zero.sp h1.wf s1.mem k3 (show 0 ≤ r1 by omega) (by omega) (by omega)
        rw [e2]
        simp only [q_bs, q_I, q_B, q_P, q_S, q_M, q_c, q_a, q_gz, q_gs, q_gk, q_ct, q_cf, q_nt, q_nf, q_xt, q_xf, q_tt, q_ff, q_tf, q_ft, q_at, q_af]
        rw [hodmanref17_give.J37_eq]
        refine ⟨bi', oi', mi2, G2, ?_, h1.trans0 h2'.nil, ⟨s1.bl.keep h2', s1.on.keep h2', h2'.sl0⟩, ⟨v1.b.r h2', v1.o.r h2', h2'.nw0.l h1⟩⟩
        rw [← zeroP_len (placeM m m.bl r1 sz).1.mem (placeM m m.bl r1 sz).2.1 r1]
      · rw [condD_neg h2]
        simp only [if_neg h2]
        rw [hodmanref17_give.J37_eq]
        exact ⟨bi', oi', mi', G1, rfl, h1, s1, v1⟩
    · rw [condN_pos hq]
      simp only [if_neg hq]
      rw [hodmanref17_wrong.sp]
      simp only [q_bs, q_I, q_B, q_P, q_S, q_M, q_c, q_a, q_gz, q_gs, q_gk, q_ct, q_cf, q_nt, q_nf, q_xt, q_xf, q_tt, q_ff, q_tf, q_ft, q_at, q_af, List.length_cons, List.length_nil, if_true]
      exact ⟨bi, oi, mi, G1, rfl, h1, s.keep h1, .refl⟩
  · rw [condN_pos h, hodmanref17_wrong.sp]
    simp only [q_bs, q_I, q_B, q_P, q_S, q_M, q_c, q_a, q_gz, q_gs, q_gk, q_ct, q_cf, q_nt, q_nf, q_xt, q_xf, q_tt, q_ff, q_tf, q_ft, q_at, q_af, List.length_cons, List.length_nil, if_true, if_neg h]
    exact ⟨bi, oi, mi, G, rfl, Hp.refl w, s, .refl⟩
theorem hodmanref17_give.sp (w : G.wf) {m : Mod} (ok : m.Ok) {bi oi mi : Nat} (s : Md G bi oi mi m) {o : OpV} (hs : R64 o.s) (ha : R64 o.a) (hn : R64 o.n) :
    ∃ bi' oi' mi' G', CW hodmanref17_give.id [.agg (modC bi oi mi m), .agg (eOp o)] G = some ([.agg (modC bi' oi' mi' (giveM m o).1), .agg (eAns (giveM m o).2)], G') ∧ Hp G G' [] ∧ Md G' bi' oi' mi' (giveM m o).1 ∧ Mv G G' bi oi mi bi' oi' mi' := by
  have f := ok.c.facts
  have hlive := ok.live
  have hlim := ok.lim
  have hlen := chSum_len ok.bl
  obtain ⟨g, l, ex⟩ := ok.c.exs
  have rl : R64 m.live := by unfold R64; omega
  have pos : ∀ r : Int × Int, (r.2 ≠ 0 ∧ r.1 = 0) ∨ (r.2 = 0 ∧ m.live + r.1 ≤ m.c.M ∧ ∃ k : Nat, k ≤ l ∧ r.1 = ((2 ^ (g + k) : Nat) : Int)) → r.2 = 0 → 1 ≤ r.1 ∧ m.live + r.1 ≤ m.c.M := by
    rintro r (⟨h, _⟩ | ⟨_, h1, k, _, e⟩) h0
    · exact absurd h0 h
    · have := Nat.two_pow_pos (g + k); omega
  have mid : ∀ a : Int, R64 a → (o.k = 3 → a = o.a) → (o.k ≠ 3 → a = 1) → ∃ bi' oi' mi' G', hodmanref17_give.J43 machW CW a o.s m.c.G m.c.N m.c.M m.c.L m.c.Pg m.c.P m.c.H m.c.Sd bi 0 m.bl.length m.live m.peak m.mark oi 0 m.on.length mi 0 m.mem.length o.k o.p o.s o.a o.n o.b 0 0 0 0 0 0 0 0 0 0 0 0 0 0 0 0 0 0 0 0 0 0 0 0 0 0 0 0 G =
      some ([.agg (modC bi' oi' mi' (giveM m o).1), .agg (eAns (giveM m o).2)], G') ∧ Hp G G' [] ∧ Md G' bi' oi' mi' (giveM m o).1 ∧ Mv G G' bi oi mi bi' oi' mi' := by
    intro a ra a3 a1
    rw [hodmanref17_give.J43_eq, hodmanref1_New.sp ok.c ra rl]
    simp only [q_bs, q_I, q_B, q_P, q_S, q_M, q_c, q_a, q_gz, q_gs, q_gk, q_ct, q_cf, q_nt, q_nf, q_xt, q_xf, q_tt, q_ff, q_tf, q_ft, q_at, q_af]
    by_cases h2 : o.k = 2
    · rw [condD_pos h2, hodmanref1_Many.sp ok.c hn hs rl]
      simp only [q_bs, q_I, q_B, q_P, q_S, q_M, q_c, q_a, q_gz, q_gs, q_gk, q_ct, q_cf, q_nt, q_nf, q_xt, q_xf, q_tt, q_ff, q_tf, q_ft, q_at, q_af, i64w]
      refine hodmanref17_give.fin w ok s o (pos _ (charge_many ex _ _ _)) ?_
      unfold giveM
      simp only [if_pos h2]
    · rw [condD_neg h2]
      refine hodmanref17_give.fin w ok s o (pos _ (charge_new ex _ _ _)) ?_
      unfold giveM
      simp only [if_neg h2]
      by_cases h3 : o.k = 3
      · rw [a3 h3]; simp only [if_pos h3]
      · rw [a1 h3]; simp only [if_neg h3]
  rw [hodmanref17_give.cw]
  unfold hodmanref17_give.f
  by_cases h3 : o.k = 3
  · rw [condD_pos h3]; exact mid o.a ha (fun _ => rfl) (fun h => absurd h3 h)
  · rw [condD_neg h3]; exact mid 1 (by unfold R64; omega) (fun h => absurd h h3) (fun _ => rfl)
theorem hodmanref17_of.byte (w : G.wf) {m : Mod} (ok : m.Ok) {bi oi mi : Nat} (s : Md G bi oi mi m) (o : OpV) {A : Nat} (hA : A < m.bl.length) (h4 : o.k ≠ 4) (h5 : o.k ≠ 5) (h6 : o.k ≠ 6) {t : Bool} (ht : t = decide (o.n < 0 ∨ o.n ≥ m.bl[A].ch)) :
    ∃ bi' oi' mi' G', hodmanref17_of.J56 machW CW t m.c.G m.c.N m.c.M m.c.L m.c.Pg m.c.P m.c.H m.c.Sd bi 0 m.bl.length m.live m.peak m.mark oi 0 m.on.length mi 0 m.mem.length o.k o.p o.s o.a o.n o.b 0 0 0 0 0 0 0 0 0 0 0 0 0 0 0 0 0 0 0 0 0 0 0 0 0 0 0 0 m.bl[A].at_ m.bl[A].ch m.bl[A].asked G =
      some ([.agg (modC bi' oi' mi' (ofM m o A m.bl[A]).1), .agg (eAns (ofM m o A m.bl[A]).2)], G') ∧ Hp G G' [] ∧ Md G' bi' oi' mi' (ofM m o A m.bl[A]).1 ∧ Mv G G' bi oi mi bi' oi' mi' := by
  subst ht
  have f := ok.c.facts
  have hb := ok.bl _ (List.getElem_mem hA)
  have hmem := ok.mem
  have hm : (1000000001 : Nat) ≤ most := by unfold most; decide
  unfold ofM
  simp only [if_neg h4, if_neg h5, if_neg h6]
  rw [hodmanref17_of.J56_eq]
  by_cases ht : o.n < 0 ∨ o.n ≥ m.bl[A].ch
  · rw [condD_pos ht, hodmanref17_wrong.sp]
    simp only [q_bs, q_I, q_B, q_P, q_S, q_M, q_c, q_a, q_gz, q_gs, q_gk, q_ct, q_cf, q_nt, q_nf, q_xt, q_xf, q_tt, q_ff, q_tf, q_ft, q_at, q_af, List.length_cons, List.length_nil, if_true, if_pos ht]
    exact ⟨bi, oi, mi, G, rfl, Hp.refl w, s, .refl⟩
  · rw [condD_neg ht]
    simp only [if_neg ht]
    obtain ⟨x, hx⟩ : ∃ x : Nat, m.bl[A].at_ + o.n = x := ⟨(m.bl[A].at_ + o.n).toNat, (Int.toNat_of_nonneg (by omega)).symm⟩
    have hxl : x < m.mem.length := by omega
    simp only [hx, Int.toNat_natCast, i64w, wrap_id (a := (x : Int)) (by omega) (by omega)]
    by_cases h7 : o.k = 7
    · rw [condD_pos h7, guardD_of (by omega)]
      have r := s.mem.ld x 0 hxl (by omega)
      rw [Nat.add_zero] at r
      simp only [r, q_bs, q_I, q_B, q_P, q_S, q_M, q_c, q_a, q_gz, q_gs, q_gk, q_ct, q_cf, q_nt, q_nf, q_xt, q_xf, q_tt, q_ff, q_tf, q_ft, q_at, q_af, if_pos h7, getD_lt _ hxl]
      exact ⟨bi, oi, mi, G, rfl, Hp.refl w, s, .refl⟩
    · rw [condD_neg h7]
      simp only [if_neg h7]
      obtain ⟨id, G1, h1, k1⟩ := (Hp.refl w).copy (S := Res) s.mem (m := m.mem.length) rfl (by omega)
      rw [k1]
      dsimp only
      rw [guardD_of (by omega)]
      obtain ⟨G2, h2, e2⟩ := h1.put (i := x) hxl o.b (off := 0 + x * 1) (by omega) rfl
      rw [e2, q_bs, Nat.zero_add]
      refine ⟨bi, oi, id, G2, ?_, h2.nil, ⟨s.bl.keep h2, s.on.keep h2, h2.sl0⟩, ⟨.refl, .refl, h2.nw0⟩⟩
      have hls : (m.mem.set x o.b).length = m.mem.length := List.length_set
      rw [← hls]
      rfl
theorem le_of3 {a c N : Nat} {ch H : Int} (h1 : (N : Int) = H) (h2 : (c : Int) ≤ ch) (h3 : (a : Int) + ch ≤ H) : a + c ≤ N := by omega
theorem le_of2 {N : Nat} {H : Int} (h1 : (N : Int) = H) (h : H ≤ 65536) : N ≤ 65536 := by omega
theorem wrap_nat {a c N : Nat} (h : a + c ≤ N) (hn : N ≤ 65536) : wrap64 ((a : Int) + (c : Int)) = ((a + c : Nat) : Int) := by rw [wrap_id (by omega) (by omega)]; omega
/-- A row put together out of three. -/
theorem splice3 {S : Type} {qi mi : Nat} {q m : List Int} (w : G.wf) (sq : Sl G eU8 qi 0 q) (sm : Sl G eU8 mi 0 m) {p a c : Nat} (c1 : a + c ≤ m.length) (c2 : p + c ≤ q.length) (hml : m.length ≤ 65536) (hql : q.length ≤ 65536) :
    ∃ id G', Hp G G' [rowE eU8 id (q.take p ++ (m.drop a).take c ++ q.drop (p + c))] ∧ (0 + (p - Int.toNat 0) + c) + (q.length - (p + c)) = (q.take p ++ (m.drop a).take c ++ q.drop (p + c)).length ∧ ∀ (K : Nat × Nat × GH → Option S),
      guardK (decide ((0 : Int) ≤ 0 ∧ 0 ≤ (p : Int) ∧ (p : Int) ≤ (q.length : Int))) ((if p - Int.toNat 0 = 0 then some [] else (G.alloc (.row [] false)).lds qi (0 + Int.toNat 0 * 1) ((p - Int.toNat 0) * 1)).bind fun n1 =>
        guardK (decide (0 + (p - Int.toNat 0) ≤ most)) (((G.alloc (.row [] false)).app G.next 0 0 1 (p - Int.toNat 0) n1).bind fun r1 =>
        guardK (decide ((0 : Int) ≤ (a : Int) ∧ (a : Int) ≤ ((a + c : Nat) : Int) ∧ ((a + c : Nat) : Int) ≤ (m.length : Int))) ((if c = 0 then some [] else r1.2.2.lds mi (0 + a * 1) (c * 1)).bind fun n2 =>
        guardK (decide (0 + (p - Int.toNat 0) + c ≤ most)) ((r1.2.2.app r1.1 r1.2.1 (0 + (p - Int.toNat 0)) 1 c n2).bind fun r2 =>
        guardK (decide ((0 : Int) ≤ ((p + c : Nat) : Int) ∧ ((p + c : Nat) : Int) ≤ (q.length : Int) ∧ (q.length : Int) ≤ (q.length : Int))) ((if q.length - (p + c) = 0 then some [] else r2.2.2.lds qi (0 + (p + c) * 1) ((q.length - (p + c)) * 1)).bind fun n3 =>
        guardK (decide (0 + (p - Int.toNat 0) + c + (q.length - (p + c)) ≤ most)) ((r2.2.2.app r2.1 r2.2.1 (0 + (p - Int.toNat 0) + c) 1 (q.length - (p + c)) n3).bind K)))))) = K (id, 0, G') := by
  have hm : (1000000001 : Nat) ≤ most := by unfold most; decide
  have u1 : Sl G eU8 qi (0 + Int.toNat 0 * 1) (q.take p) := sq.sub 0 p (by omega)
  have l1 : (q.take p).length = p := by rw [List.length_take]; omega
  have l2 : ((m.drop a).take c).length = c := by rw [List.length_take, List.length_drop]; omega
  have l3 : (q.drop (p + c)).length = q.length - (p + c) := List.length_drop
  obtain ⟨w1, G4, h4, k4⟩ := (Hp.refl w).copy (S := S) u1 (m := p - Int.toNat 0) (by rw [l1]; rfl) (by omega)
  have u2 : Sl G4 eU8 mi (0 + a * 1) ((m.drop a).take c) := (sm.keep h4).sub a c c1
  obtain ⟨w2, G5, h5, k5⟩ := h4.app (S := S) u2 (n := 0 + (p - Int.toNat 0)) (m := c) (by rw [l1, Nat.zero_add]; rfl) l2.symm (by omega)
  have u3 : Sl G5 eU8 qi (0 + (p + c) * 1) (q.drop (p + c)) := by
    have := (sq.keep h5).sub (p + c) (q.length - (p + c)) (by omega)
    rwa [List.take_of_length_le (by omega)] at this
  obtain ⟨w3, G6, h6, k6⟩ := h5.app (S := S) u3 (n := 0 + (p - Int.toNat 0) + c) (m := q.length - (p + c)) (by rw [List.length_append, l1, l2, Nat.zero_add]; rfl) l3.symm (by rw [List.length_append]; omega)
  refine ⟨w3, G6, h6, by rw [List.length_append, List.length_append, l1, l2, l3, Nat.zero_add]; rfl, fun K => ?_⟩
  rw [guardD_of (by omega), k4]
  dsimp only
  rw [guardD_of (by omega), k5]
  dsimp only
  rw [guardD_of (by omega), k6]
theorem hodmanref17_of.sp (w : G.wf) {m : Mod} (ok : m.Ok) {bi oi mi : Nat} (s : Md G bi oi mi m) (o : OpV) {A : Nat} (hA : A < m.bl.length) :
    ∃ bi' oi' mi' G', CW hodmanref17_of.id [.agg (modC bi oi mi m), .agg (eOp o), .c (.int .i64 (A : Int))] G = some ([.agg (modC bi' oi' mi' (ofM m o A m.bl[A]).1), .agg (eAns (ofM m o A m.bl[A]).2)], G') ∧ Hp G G' [] ∧ Md G' bi' oi' mi' (ofM m o A m.bl[A]).1 ∧ Mv G G' bi oi mi bi' oi' mi' := by
  have f := ok.c.facts
  have hb := ok.bl _ (List.getElem_mem hA)
  have hmem := ok.mem
  have hlen := chSum_len ok.bl
  have hlive := ok.live
  have hlim := ok.lim
  have hin := ok.bl.rest A
  have hrest := chSum_rest hA
  have hrl := chSum_len hin
  have hm : (1000000001 : Nat) ≤ most := by unfold most; decide
  have zA : decide (0 ≤ (A : Int) ∧ (A : Int) < ((m.bl.length : Nat) : Int)) = true := decide_eq_true (by omega)
  have tA : Int.toNat ((A : Int) + 1) = A + 1 := by omega
  rw [hodmanref17_of.cw]
  unfold hodmanref17_of.f
  simp only [zA, Int.toNat_natCast, s.bl.ld A 0 hA (by omega), s.bl.ld A 1 hA (by omega), s.bl.ld A 2 hA (by omega), q_bs, q_I, q_B, q_P, q_S, q_M, q_c, q_a, q_gz, q_gs, q_gk, q_ct, q_cf, q_nt, q_nf, q_xt, q_xf, q_tt, q_ff, q_tf, q_ft, q_at, q_af, i64w, wrap_id (a := (A : Int) + 1) (by omega) (by omega), tA]
  have st : (m.bl.take A).length = A := by rw [List.length_take]; omega
  have sd : (m.bl.drop (A + 1)).length = m.bl.length - (A + 1) := List.length_drop
  have s1 : Sl G eBlk bi (0 + Int.toNat 0 * 3) (m.bl.take A) := s.bl.sub 0 A (by omega)
  obtain ⟨i1, G1, h1, k1⟩ := (Hp.refl w).copy (S := Res) s1 (m := A - Int.toNat 0) (by rw [st]; rfl) (by omega)
  rw [guardD_of (by omega), k1]
  dsimp only
  have s2 : Sl G1 eBlk bi (0 + (A + 1) * 3) (m.bl.drop (A + 1)) := by
    have := (s.bl.keep h1).sub (A + 1) (m.bl.length - (A + 1)) (by omega)
    rwa [List.take_of_length_le (by omega)] at this
  obtain ⟨i2, G2, h2, k2⟩ := h1.app (S := Res) s2 (n := 0 + (A - Int.toNat 0)) (m := m.bl.length - (A + 1)) (by rw [st, Nat.zero_add]; rfl) sd.symm (by omega)
  rw [guardD_of (by omega), k2]
  dsimp only
  have rl : (0 + (A - Int.toNat 0)) + (m.bl.length - (A + 1)) = (m.bl.take A ++ m.bl.drop (A + 1)).length := by rw [List.length_append, st, sd, Nat.zero_add]; rfl
  rw [rl]
  have srest := h2.sl0
  have s2 := s.keep h2
  by_cases h4 : o.k = 4
  · rw [condD_pos h4]
    obtain ⟨g, l, ex⟩ := ok.c.exs
    rw [hodmanref1_Anew.sp ok.c (by omega)]
    simp only [q_bs, q_I, q_B, q_P, q_S, q_M, q_c, q_a, q_gz, q_gs, q_gk, q_ct, q_cf, q_nt, q_nf, q_xt, q_xf, q_tt, q_ff, q_tf, q_ft, q_at, q_af]
    conv => { arg 1; ext bi'; arg 1; ext oi'; arg 1; ext mi'; arg 1; ext G'; unfold ofM }
    simp only [if_pos h4]
    rcases charge_new ex (m.live - m.bl[A].ch) o.s 1 with ⟨hr, _⟩ | ⟨hr, hM, k, hk, he⟩
    · rw [condN_pos hr, hodmanref17_wrong.sp]
      simp only [q_bs, q_I, q_B, q_P, q_S, q_M, q_c, q_a, q_gz, q_gs, q_gk, q_ct, q_cf, q_nt, q_nf, q_xt, q_xf, q_tt, q_ff, q_tf, q_ft, q_at, q_af, List.length_cons, List.length_nil, if_true, if_neg hr]
      exact ⟨bi, oi, mi, G2, rfl, h2.nil, s2, .refl⟩
    · rw [condN_neg hr]
      simp only [if_pos hr]
      have z := Nat.two_pow_pos (g + k)
      generalize (newS m.c.G m.c.N m.c.M (m.live - m.bl[A].ch) o.s 1).1 = r at *
      obtain ⟨bi', oi', mi', G3, e3, h3, s3, v3⟩ := hodmanref17_place.sp h2.wf ok s2 (asked := o.s) srest hin (by omega) (n := r) (by omega)
      rw [e3]
      simp only [q_bs, q_I, q_B, q_P, q_S, q_M, q_c, q_a, q_gz, q_gs, q_gk, q_ct, q_cf, q_nt, q_nf, q_xt, q_xf, q_tt, q_ff, q_tf, q_ft, q_at, q_af, List.length_cons, List.length_nil, if_true]
      by_cases hq : (placeM m (m.bl.take A ++ m.bl.drop (A + 1)) r o.s).2.2 = 0
      · rw [condN_neg hq]
        simp only [if_pos hq]
        obtain ⟨y1, y2, y3, y4⟩ := placeM_ok ok (asked := o.s) (show 1 ≤ r by omega) hin (by omega) hq
        have ym : ((placeM m (m.bl.take A ++ m.bl.drop (A + 1)) r o.s).1.mem.length : Int) = m.c.H := y1.mem.trans (congrArg Cf.H y2)
        generalize placeM m (m.bl.take A ++ m.bl.drop (A + 1)) r o.s = q at *
        obtain ⟨p, hp⟩ : ∃ p : Nat, q.2.1 = p := ⟨q.2.1.toNat, (Int.toNat_of_nonneg y3).symm⟩
        obtain ⟨a, ha⟩ : ∃ a : Nat, m.bl[A].at_ = a := ⟨m.bl[A].at_.toNat, (Int.toNat_of_nonneg hb.1).symm⟩
        obtain ⟨c, hc⟩ : ∃ c : Nat, min r m.bl[A].ch = c := ⟨(min r m.bl[A].ch).toNat, (Int.toNat_of_nonneg (by omega)).symm⟩
        simp only [mn2_eq, hp, ha, hc, Int.toNat_natCast]
        have cr : (c : Int) ≤ r := by rw [← hc]; exact Int.min_le_left _ _
        have cc : (c : Int) ≤ m.bl[A].ch := by rw [← hc]; exact Int.min_le_right _ _
        have hH : m.c.H ≤ 65536 := f.2.2.2.2.2.1.2
        rw [hp] at y4
        have hb3 := hb.2.2
        rw [ha] at hb3
        have c1 : a + c ≤ m.mem.length := le_of3 hmem cc hb3
        have c2 : p + c ≤ q.1.mem.length := le_of3 ym cr y4
        have hml : m.mem.length ≤ 65536 := le_of2 hmem hH
        have hql : q.1.mem.length ≤ 65536 := le_of2 ym hH
        have wa : wrap64 ((a : Int) + (c : Int)) = ((a + c : Nat) : Int) := wrap_nat c1 hml
        have wp : wrap64 ((p : Int) + (c : Int)) = ((p + c : Nat) : Int) := wrap_nat c2 hql
        simp only [wa, wp, Int.toNat_natCast, Nat.add_sub_cancel_left]
        obtain ⟨w3, G6, h6', l6, k6⟩ := splice3 (S := Res) h3.wf s3.mem (s2.mem.keep h3) c1 c2 hml hql
        rw [k6]
        dsimp only
        rw [l6]
        exact ⟨bi', oi', w3, G6, rfl, (h2.nil.trans0 h3).trans0 h6'.nil, ⟨s3.bl.keep h6', s3.on.keep h6', h6'.sl0⟩, ⟨(v3.b.l h2).r h6', (v3.o.l h2).r h6', h6'.nw0.l (h2.nil.trans0 h3)⟩⟩
      · rw [condN_pos hq]
        simp only [if_neg hq]
        rw [hodmanref17_wrong.sp]
        simp only [q_bs, q_I, q_B, q_P, q_S, q_M, q_c, q_a, q_gz, q_gs, q_gk, q_ct, q_cf, q_nt, q_nf, q_xt, q_xf, q_tt, q_ff, q_tf, q_ft, q_at, q_af, List.length_cons, List.length_nil, if_true]
        exact ⟨bi, oi, mi, G3, rfl, h2.nil.trans0 h3, s2.keep h3, .refl⟩
  · rw [condD_neg h4]
    by_cases h5 : o.k = 5
    · rw [condD_pos h5, wrap_id (by omega) (by omega)]
      unfold ofM
      simp only [if_neg h4, if_pos h5]
      exact ⟨i2, oi, mi, G2, rfl, h2.nil, ⟨srest, s2.on, s2.mem⟩, ⟨h2.nw0, .refl, .refl⟩⟩
    · rw [condD_neg h5]
      by_cases h6 : o.k = 6
      · rw [condD_pos h6]
        unfold ofM
        simp only [if_neg h4, if_neg h5, if_pos h6]
        exact ⟨bi, oi, mi, G2, rfl, h2.nil, s2, .refl⟩
      · rw [condD_neg h6]
        have fin2 : ∀ t : Bool, t = decide (o.n < 0 ∨ o.n ≥ m.bl[A].ch) → ∃ bi' oi' mi' G', hodmanref17_of.J56 machW CW t m.c.G m.c.N m.c.M m.c.L m.c.Pg m.c.P m.c.H m.c.Sd bi 0 m.bl.length m.live m.peak m.mark oi 0 m.on.length mi 0 m.mem.length o.k o.p o.s o.a o.n o.b 0 0 0 0 0 0 0 0 0 0 0 0 0 0 0 0 0 0 0 0 0 0 0 0 0 0 0 0 m.bl[A].at_ m.bl[A].ch m.bl[A].asked G2 =
            some ([.agg (modC bi' oi' mi' (ofM m o A m.bl[A]).1), .agg (eAns (ofM m o A m.bl[A]).2)], G') ∧ Hp G G' [] ∧ Md G' bi' oi' mi' (ofM m o A m.bl[A]).1 ∧ Mv G G' bi oi mi bi' oi' mi' := by
          intro t ht
          obtain ⟨a, b, c, G3, e3, h3, s3, v3⟩ := hodmanref17_of.byte h2.wf ok s2 o hA h4 h5 h6 ht
          exact ⟨a, b, c, G3, e3, h2.nil.trans0 h3, s3, v3.l h2⟩
        by_cases hn : o.n < 0
        · rw [condD_pos hn]; exact fin2 true (decide_eq_true (.inl hn)).symm
        · rw [condD_neg hn]; exact fin2 _ (by simp only [hn, false_or])
theorem hodmanref17_Do.spV (w : G.wf) {m : Mod} (ok : m.Ok) {bi oi mi : Nat} (s : Md G bi oi mi m) {o : OpV} (hs : R64 o.s) (ha : R64 o.a) (hn : R64 o.n) :
    ∃ bi' oi' mi' G', CW hodmanref17_Do.id [.agg (modC bi oi mi m), .agg (eOp o)] G = some ([.agg (modC bi' oi' mi' (doM m o).1), .agg (eAns (doM m o).2)], G') ∧ Hp G G' [] ∧ Md G' bi' oi' mi' (doM m o).1 ∧ Mv G G' bi oi mi bi' oi' mi' := by
  have f := ok.c.facts
  have hlive := ok.live
  have hlim := ok.lim
  have hlen := chSum_len ok.bl
  have hon : m.c.H / m.c.Pg = ((m.on.length : Nat) : Int) := by rw [← ok.on, Int.mul_ediv_cancel _ (by omega)]
  have q1 := Int.ediv_le_self m.c.Pg (show 0 ≤ m.c.H by omega)
  have lok := ok.bl.ok (by omega)
  have mid : ∀ t : Bool, t = decide (o.k = 1 ∨ o.k = 2 ∨ o.k = 3) → ∃ bi' oi' mi' G', hodmanref17_Do.J63 machW CW o.k t m.c.G m.c.N m.c.M m.c.L m.c.Pg m.c.P m.c.H m.c.Sd bi 0 m.bl.length m.live m.peak m.mark oi 0 m.on.length mi 0 m.mem.length o.k o.p o.s o.a o.n o.b 0 0 0 0 0 0 0 0 0 0 0 0 0 0 0 0 0 0 0 0 0 0 0 0 0 0 0 0 G =
      some ([.agg (modC bi' oi' mi' (doM m o).1), .agg (eAns (doM m o).2)], G') ∧ Hp G G' [] ∧ Md G' bi' oi' mi' (doM m o).1 ∧ Mv G G' bi oi mi bi' oi' mi' := by
    intro t ht
    subst ht
    rw [hodmanref17_Do.J63_eq]
    unfold doM
    by_cases h1 : o.k = 1 ∨ o.k = 2 ∨ o.k = 3
    · rw [condD_pos h1]
      simp only [if_pos h1]
      obtain ⟨a, b, c, G1, e1, k1, s1, v1⟩ := hodmanref17_give.sp w ok s hs ha hn
      rw [e1]
      simp only [q_bs, q_I, q_B, q_P, q_S, q_M, q_c, q_a, q_gz, q_gs, q_gk, q_ct, q_cf, q_nt, q_nf, q_xt, q_xf, q_tt, q_ff, q_tf, q_ft, q_at, q_af, List.length_cons, List.length_nil, if_true]
      exact ⟨a, b, c, G1, rfl, k1, s1, v1⟩
    · rw [condD_neg h1]
      simp only [if_neg h1]
      by_cases h9 : o.k = 9
      · rw [condD_pos h9]
        simp only [if_pos h9]
        obtain ⟨ti, G1, e1, k1⟩ := hodmanref8_Met.sp w (show 1 ≤ m.c.Pg by omega) (show 0 ≤ m.c.H ∧ m.c.H ≤ 65536 by omega) hon s.bl lok (by omega)
        have mlen : (metP m.c.Pg m.on.length m.bl).length = m.on.length := by unfold metP; rw [tab_len]
        rw [e1]
        simp only [q_bs, q_I, q_B, q_P, q_S, q_M, q_c, q_a, q_gz, q_gs, q_gk, q_ct, q_cf, q_nt, q_nf, q_xt, q_xf, q_tt, q_ff, q_tf, q_ft, q_at, q_af]
        obtain ⟨ui, G2, e2, k2⟩ := hodmanref8_Trim.sp k1.wf (s.on.keep k1) k1.sl0 mlen.symm (by omega)
        rw [mlen] at e2
        rw [e2]
        simp only [q_bs, q_I, q_B, q_P, q_S, q_M, q_c, q_a, q_gz, q_gs, q_gk, q_ct, q_cf, q_nt, q_nf, q_xt, q_xf, q_tt, q_ff, q_tf, q_ft, q_at, q_af]
        refine ⟨bi, ui, mi, G2, ?_, k1.nil.trans0 k2.nil, ⟨(s.bl.keep k1).keep k2, k2.sl0, (s.mem.keep k1).keep k2⟩, ⟨.refl, k2.nw0.l k1, .refl⟩⟩
        have tl : (trimP m.on (metP m.c.Pg m.on.length m.bl)).length = m.on.length := by unfold trimP; rw [tab_len]
        dsimp only [modC]
        rw [tl]
      · rw [condD_neg h9]
        simp only [if_neg h9]
        by_cases h10 : o.k = 10
        · rw [condD_pos h10]
          simp only [if_pos h10]
          rw [hodmanref8_Count.sp s.on (by omega)]
          simp only [q_bs, q_I, q_B, q_P, q_S, q_M, q_c, q_a, q_gz, q_gs, q_gk, q_ct, q_cf, q_nt, q_nf, q_xt, q_xf, q_tt, q_ff, q_tf, q_ft, q_at, q_af]
          exact ⟨bi, oi, mi, G, rfl, Hp.refl w, s, .refl⟩
        · rw [condD_neg h10]
          simp only [if_neg h10]
          have last : ∀ t : Bool, t = decide (o.k = 4 ∨ o.k = 5 ∨ o.k = 6 ∨ o.k = 7 ∨ o.k = 8) → ∃ bi' oi' mi' G', hodmanref17_Do.J57 machW CW t m.c.G m.c.N m.c.M m.c.L m.c.Pg m.c.P m.c.H m.c.Sd bi 0 m.bl.length m.live m.peak m.mark oi 0 m.on.length mi 0 m.mem.length o.k o.p o.s o.a o.n o.b 0 0 0 0 0 0 0 0 0 0 0 0 0 0 0 0 0 0 0 0 0 0 0 0 0 0 0 0 G =
              some ([.agg (modC bi' oi' mi' (doM m o).1), .agg (eAns (doM m o).2)], G') ∧ Hp G G' [] ∧ Md G' bi' oi' mi' (doM m o).1 ∧ Mv G G' bi oi mi bi' oi' mi' := by
            intro t ht
            subst ht
            unfold doM
            simp only [if_neg h1, if_neg h9, if_neg h10]
            rw [hodmanref17_Do.J57_eq]
            by_cases h4 : o.k = 4 ∨ o.k = 5 ∨ o.k = 6 ∨ o.k = 7 ∨ o.k = 8
            · rw [condD_pos h4, hodmanref17_Find.sp s.bl o.p (by omega)]
              simp only [q_bs, q_I, q_B, q_P, q_S, q_M, q_c, q_a, q_gz, q_gs, q_gk, q_ct, q_cf, q_nt, q_nf, q_xt, q_xf, q_tt, q_ff, q_tf, q_ft, q_at, q_af, if_pos h4]
              cases hf : findB m.bl o.p with
              | none =>
                dsimp only
                rw [condD_pos (by omega), hodmanref17_wrong.sp]
                simp only [q_bs, q_I, q_B, q_P, q_S, q_M, q_c, q_a, q_gz, q_gs, q_gk, q_ct, q_cf, q_nt, q_nf, q_xt, q_xf, q_tt, q_ff, q_tf, q_ft, q_at, q_af, List.length_cons, List.length_nil, if_true]
                exact ⟨bi, oi, mi, G, rfl, Hp.refl w, s, .refl⟩
              | some A =>
                obtain ⟨hA, _⟩ := findB_lt hf
                dsimp only
                rw [condD_neg (by omega), getD_lt _ hA]
                obtain ⟨a, b, c, G1, e1, k1, s1, v1⟩ := hodmanref17_of.sp w ok s o hA
                rw [e1]
                simp only [q_bs, q_I, q_B, q_P, q_S, q_M, q_c, q_a, q_gz, q_gs, q_gk, q_ct, q_cf, q_nt, q_nf, q_xt, q_xf, q_tt, q_ff, q_tf, q_ft, q_at, q_af, List.length_cons, List.length_nil, if_true]
                exact ⟨a, b, c, G1, rfl, k1, s1, v1⟩
            · rw [condD_neg h4, hodmanref17_wrong.sp]
              simp only [q_bs, q_I, q_B, q_P, q_S, q_M, q_c, q_a, q_gz, q_gs, q_gk, q_ct, q_cf, q_nt, q_nf, q_xt, q_xf, q_tt, q_ff, q_tf, q_ft, q_at, q_af, List.length_cons, List.length_nil, if_true, if_neg h4]
              exact ⟨bi, oi, mi, G, rfl, Hp.refl w, s, .refl⟩
          unfold doM at last
          simp only [if_neg h1, if_neg h9, if_neg h10] at last
          by_cases h4 : o.k = 4
          · rw [condD_pos h4]; exact last _ (by rw [decide_eq_true h4, decide_eq_true (.inl h4)])
          rw [condD_neg h4]
          by_cases h5 : o.k = 5
          · rw [condD_pos h5]; exact last _ (by rw [decide_eq_true h5, decide_eq_true (.inr (.inl h5))])
          rw [condD_neg h5]
          by_cases h6 : o.k = 6
          · rw [condD_pos h6]; exact last _ (by rw [decide_eq_true h6, decide_eq_true (.inr (.inr (.inl h6)))])
          rw [condD_neg h6]
          by_cases h7 : o.k = 7
          · rw [condD_pos h7]; exact last _ (by rw [decide_eq_true h7, decide_eq_true (.inr (.inr (.inr (.inl h7))))])
          rw [condD_neg h7]
          exact last _ (by simp only [h4, h5, h6, h7, false_or])
  rw [hodmanref17_Do.cw]
  unfold hodmanref17_Do.f
  by_cases h1 : o.k = 1
  · rw [condD_pos h1]; exact mid _ (by rw [decide_eq_true h1, decide_eq_true (.inl h1)])
  rw [condD_neg h1]
  by_cases h3 : o.k = 3
  · rw [condD_pos h3]; exact mid _ (by rw [decide_eq_true h3, decide_eq_true (.inr (.inr h3))])
  rw [condD_neg h3]
  exact mid _ (by simp only [h1, h3, false_or, or_false])
theorem hodmanref17_Do.sp (w : G.wf) {m : Mod} (ok : m.Ok) {bi oi mi : Nat} (s : Md G bi oi mi m) {o : OpV} (hs : R64 o.s) (ha : R64 o.a) (hn : R64 o.n) :
    ∃ bi' oi' mi' G', CW hodmanref17_Do.id [.agg (modC bi oi mi m), .agg (eOp o)] G = some ([.agg (modC bi' oi' mi' (doM m o).1), .agg (eAns (doM m o).2)], G') ∧ Hp G G' [] ∧ Md G' bi' oi' mi' (doM m o).1 := by
  obtain ⟨a, b, c, G1, e1, h1, s1, _⟩ := hodmanref17_Do.spV w ok s hs ha hn
  exact ⟨a, b, c, G1, e1, h1, s1⟩
/-- The model that begins. -/
def newM (c : Cf) : Mod := ⟨c, [], 0, 0, 0, tab (c.H / c.Pg).toNat fun _ => false, tab c.H.toNat fun _ => 0⟩
theorem newM_ok {c : Cf} (ok : c.Ok) : (newM c).Ok := by
  have f := ok.facts
  obtain ⟨np, hnp⟩ := ok.pages
  have e : c.H / c.Pg = np := by rw [hnp, Int.mul_ediv_cancel _ (by omega)]
  refine ⟨ok, (fun b hb => (by cases hb)), rfl, (by show (0 : Int) ≤ c.M; omega), (by show (0 : Int) ≤ 0 ∧ (0 : Int) ≤ 65536; omega), (by show (0 : Int) ≤ 0 ∧ (0 : Int) ≤ 65536; omega), ?_, ?_⟩
  · show ((tab (c.H / c.Pg).toNat fun _ => false).length : Int) * c.Pg = c.H
    rw [tab_len, e, Int.toNat_natCast, hnp]
  · show ((tab c.H.toNat fun _ => (0 : Int)).length : Int) = c.H
    rw [tab_len]; omega
theorem hodmanref17_New.spV (w : G.wf) {r : Rw} {c : Cf} (hr : ofC r = (c, 0)) (ok : c.Ok) :
    ∃ oi mi G', CW hodmanref17_New.id [.agg (rwC r)] G = some ([.agg (modC 0 oi mi (newM c)), .c (.int .i64 0)], G') ∧ Hp G G' [] ∧ Md G' 0 oi mi (newM c) ∧ Nw G G' 0 oi ∧ Nw G G' 0 mi := by
  have f := ok.facts
  have hm : (1000000001 : Nat) ≤ most := by unfold most; decide
  obtain ⟨G1, e1, h1⟩ := hodmanref1_Of.sp r w
  rw [hr] at e1
  have q0 := Int.ediv_nonneg (show 0 ≤ c.H by omega) (show 0 ≤ c.Pg by omega)
  have q1 := Int.ediv_le_self c.Pg (show 0 ≤ c.H by omega)
  rw [hodmanref17_New.cw]
  unfold hodmanref17_New.f
  rw [e1]
  simp only [q_bs, q_I, q_B, q_P, q_S, q_M, q_c, q_a, q_gz, q_gs, q_gk, q_ct, q_cf, q_nt, q_nf, q_xt, q_xf, q_tt, q_ff, q_tf, q_ft, q_at, q_af, List.length_cons, List.length_nil, if_true, decide_true]
  rw [binD_quo (by omega), Int.tdiv_eq_ediv_of_nonneg (by omega), i64w, wrap_id (by omega) (by omega), q_bs, guardD_of (by omega)]
  have h2 := h1.alloc (.row (reps (c.H / c.Pg).toNat [.bool false]) false)
  rw [reps_tab (e := eB) (c.H / c.Pg).toNat false] at h2 ⊢
  generalize G1.next = oi at h2 ⊢
  generalize G1.alloc (.row (cells eB (tab (c.H / c.Pg).toNat fun _ => false)) false) = G2 at h2 ⊢
  rw [guardD_of (by omega)]
  have h3 := h2.alloc (.row (reps c.H.toNat [.int .u8 0]) false)
  rw [reps_tab (e := eU8) c.H.toNat (0 : Int)] at h3 ⊢
  generalize G2.next = mi at h3 ⊢
  generalize G2.alloc (.row (cells eU8 (tab c.H.toNat fun _ => (0 : Int))) false) = G3 at h3 ⊢
  refine ⟨oi, mi, G3, ?_, h3.nil, ⟨Sl.nil, h3.sl (e := eB) (id := oi) (xs := tab (c.H / c.Pg).toNat fun _ => false) (by simp), h3.sl0⟩, h3.tl.nw0, h3.nw0⟩
  show _ = some ([V1.agg [_, _, _, _, _, _, _, _, _, _, _, _, .sl 1 oi 0 (tab (c.H / c.Pg).toNat fun _ => false).length, .sl 1 mi 0 (tab c.H.toNat fun _ => (0 : Int)).length], _], _)
  rw [tab_len, tab_len]
  rfl
theorem hodmanref17_New.sp (w : G.wf) {r : Rw} {c : Cf} (hr : ofC r = (c, 0)) (ok : c.Ok) :
    ∃ oi mi G', CW hodmanref17_New.id [.agg (rwC r)] G = some ([.agg (modC 0 oi mi (newM c)), .c (.int .i64 0)], G') ∧ Hp G G' [] ∧ Md G' 0 oi mi (newM c) := by
  obtain ⟨a, b, G1, e1, h1, s1, _⟩ := hodmanref17_New.spV w hr ok
  exact ⟨a, b, G1, e1, h1, s1⟩
end Go.Proofs.D.S
/- The reference, call by call. -/
set_option linter.unusedVariables false
set_option linter.unusedSimpArgs false
namespace Go.Proofs.D.S
open Go Go.RowKit
variable {G G0 : GH} {L : List (Nat × Obj)}
/-- The model's rows apart from some that are held. -/
structure MdA (G : GH) (xs : List Nat) (bi oi mi : Nat) : Prop where
  b : Ap G xs bi
  o : Ap G xs oi
  m : Ap G xs mi
theorem MdA.mv {G1 : GH} {R : List (Nat × Obj)} {xs : List Nat} {bi oi mi bi' oi' mi' : Nat} (a : MdA G xs bi oi mi) (h : Mv G G1 bi oi mi bi' oi' mi') (k : Hp G G1 R) (hx : Ids G xs) : MdA G1 xs bi' oi' mi' := ⟨a.b.nw h.b k hx, a.o.nw h.o k hx, a.m.nw h.m k hx⟩
theorem MdA.fo {G1 : GH} {x : Nat} {xs xs' : List Nat} {bi oi mi : Nat} (a : MdA G xs bi oi mi) (f : Fo x G G1) (h : ∀ y ∈ xs', y ∈ xs ∨ G.next ≤ y) : MdA G1 xs' bi oi mi := ⟨a.b.fo f h, a.o.fo f h, a.m.fo f h⟩
theorem MdA.mono {G1 : GH} {R : List (Nat × Obj)} {xs : List Nat} {bi oi mi : Nat} (a : MdA G xs bi oi mi) (k : Hp G G1 R) : MdA G1 xs bi oi mi := ⟨a.b.mono k, a.o.mono k, a.m.mono k⟩
theorem Md.fo {G1 : GH} {x : Nat} {xs : List Nat} {bi oi mi : Nat} {m : Mod} (s : Md G bi oi mi m) (f : Fo x G G1) (w : G.wf) (hx : x ∈ xs) (a : MdA G xs bi oi mi) : Md G1 bi oi mi m := ⟨f.sl w s.bl hx a.b, f.sl w s.on hx a.o, f.sl w s.mem hx a.m⟩
def allM : Mod → List OpV → Mod × List AnsV
  | m, [] => (m, [])
  | m, o :: l => ((allM (doM m o).1 l).1, (doM m o).2 :: (allM (doM m o).1 l).2)
theorem allM_ok {m : Mod} (ok : m.Ok) : ∀ l : List OpV, (allM m l).1.Ok ∧ (allM m l).1.c = m.c
  | [] => ⟨ok, rfl⟩
  | o :: l => by
    obtain ⟨a, b⟩ := doM_ok ok o
    obtain ⟨c, d⟩ := allM_ok a l
    exact ⟨c, d.trans b⟩
theorem allM_len (m : Mod) : ∀ l : List OpV, (allM m l).2.length = l.length
  | [] => rfl
  | o :: l => by show (allM (doM m o).1 l).2.length + 1 = _; rw [allM_len _ l]; rfl
theorem allM_snoc (m : Mod) (o : OpV) : ∀ l : List OpV, allM m (l ++ [o]) = ((doM (allM m l).1 o).1, (allM m l).2 ++ [(doM (allM m l).1 o).2])
  | [] => rfl
  | x :: l => by simp only [List.cons_append, allM, allM_snoc (doM m x).1 o l]
/-- A call's numbers are numbers. -/
def OpIn (o : OpV) : Prop := R64 o.k ∧ R64 o.p ∧ R64 o.s ∧ R64 o.a ∧ R64 o.n ∧ 0 ≤ o.b ∧ o.b ≤ 255
end Go.Proofs.D.S
/- FairCharge: whatever the numbers, the law answers yes. -/
set_option linter.unusedVariables false
set_option linter.unusedSimpArgs false
namespace Go.Proofs.D.S
open Go Go.RowKit
theorem hodmanlaw23_FairCharge.law {G : GH} (hG : Beg G) {id : Nat} {xs : List Int} (hs : Sl G eU8 id 0 xs) (hb : Bytes xs) {id2 : Nat} {ys : List Int} (hs2 : Sl G eU8 id2 0 ys) (hb2 : Bytes ys) :
    OkT (CW hodmanlaw23_FairCharge.id [.c (.sl 1 id 0 xs.length), .c (.sl 1 id2 0 ys.length)] G) := by
  obtain ⟨G1, e1, f1⟩ := hodmanlaw23_begun.sp hG
  rw [hodmanlaw23_FairCharge.cw]
  unfold hodmanlaw23_FairCharge.f
  simp only [e1, q_bs, q_I, q_B, q_P, q_S, q_M, q_c, q_a, q_gz, q_gs, q_gk, q_ct, q_cf, q_nt, q_nf, q_xt, q_xf, q_tt, q_ff, q_tf, q_ft, q_at, q_af]
  by_cases h6 : (xs.length : Int) > 6
  · rw [condD_pos h6, hodmanlaw23_FairCharge.J13_eq, q_ct]; exact ⟨_, rfl⟩
  rw [condD_neg h6, hodmanlaw23_FairCharge.J13_eq]
  by_cases h40 : (ys.length : Int) > 150
  · rw [condD_pos h40]; exact ⟨_, rfl⟩
  rw [condD_neg h40]
  have h0 := Hp.refl f1.wf
  have p0 : PkOk G1 [] id 0 xs.length xs := ⟨.old (f1.sl _ _ _ _ hs), hb, rfl, by omega⟩
  obtain ⟨pid, G2, e2, h2⟩ := hodmanplay_Made.sp h0 id 0 xs.length
  obtain ⟨r, j, G3, e3, h3, rok, _, _⟩ := hodmanplay_Picks_Raw.sp h2 p0 (by omega) (by omega) true
  simp only [e2, e3, q_bs, q_I, q_B, q_P, q_S, q_M, q_c, q_a, q_gz, q_gs, q_gk, q_ct, q_cf, q_nt, q_nf, q_xt, q_xf, q_tt, q_ff, q_tf, q_ft, q_at, q_af, List.length_cons, List.length_nil, if_true]
  obtain ⟨g0, c0, q0, sm⟩ := rok.cfSmall
  have hof := rok.ofC
  have sl2 : Sl G3 eU8 id2 0 ys := (f1.sl _ _ _ _ hs2).keep h3
  have hw := h3.wf
  have hpl : ys.length ≤ 150 := by omega
  clear e1 e2 e3 h3 h2 p0 h0
  have ok := sm.ok
  have hP0 := sm.s.hP.1 rfl
  have hH2 := sm.s.hH2
  obtain ⟨oi, mi, G4, e4, h4, s4, no, nm⟩ := hodmanref17_New.spV hw hof ok
  rw [e4]
  clear e4 sm rok hof
  generalize cfOf r = C at *
  obtain ⟨g, l, u, tp⟩ := ok.tp
  have fs := ok.facts
  simp only [q_bs, q_I, q_B, q_P, q_S, q_M, q_c, q_a, q_gz, q_gs, q_gk, q_ct, q_cf, q_nt, q_nf, q_xt, q_xf, q_tt, q_ff, q_tf, q_ft, q_at, q_af, List.length_cons, List.length_nil, if_true, decide_true]
  have pp : PkOk G4 [] id2 0 ys.length ys := ⟨.old (sl2.keep h4), hb2, rfl, by omega⟩
  obtain ⟨oid, ops, G5, e5, h5, hops, hol⟩ := hodmanlaw23_Client.sp (c := C) (Hp.refl h4.wf) pp (A := 50) (by omega)
  simp only [newM] at e5 ⊢
  rw [e5]
  simp only [q_bs, q_I, q_B, q_P, q_S, q_M, q_c, q_a, q_gz, q_gs, q_gk, q_ct, q_cf, q_nt, q_nf, q_xt, q_xf, q_tt, q_ff, q_tf, q_ft, q_at, q_af]
  obtain ⟨G6, e6, h6'⟩ := fair_May.sp h5 ok (Rd.own (List.mem_cons_self ..)) (fun o ho => ⟨(hops o ho).1, (hops o ho).2.2.1⟩) (by omega)
  rw [e6]
  simp only [q_bs, q_I, q_B, q_P, q_S, q_M, q_c, q_a, q_gz, q_gs, q_gk, q_ct, q_cf, q_nt, q_nf, q_xt, q_xf, q_tt, q_ff, q_tf, q_ft, q_at, q_af]
  cases hmay : fa0.may C 0 ops with
  | false => rw [q_nf, q_ct]; exact ⟨_, rfl⟩
  | true =>
    have hm : (1000000001 : Nat) ≤ most := by unfold most; decide
    rw [q_nt, q_cf, guardD_of (by omega)]
    rw [Int.toNat_natCast]
    have h7 := h6'.alloc (.row (reps ops.length [.int .i64 0]) false)
    rw [reps_tab (e := eI) ops.length (0 : Int)] at h7 ⊢
    have hlt : ∀ {i : Nat}, Nw G3 G4 0 i → i < G6.next := fun h => by
      have h1 := h4.wf.2
      have h2 := h6'.nx
      rcases h with h | h | ⟨a, b⟩ <;> omega
    have s6 : Md G6 0 oi mi (newM C) := s4.keep h6'
    have x7 : Hp G6 (G6.alloc (.row (cells eI (tab ops.length fun _ => (0 : Int))) false)) [_] := (Hp.refl h6'.wf).alloc (.row (cells eI (tab ops.length fun _ => (0 : Int))) false)
    have s7 := s6.keep x7
    have ap7 : MdA (G6.alloc (.row (cells eI (tab ops.length fun _ => (0 : Int))) false)) [G6.next] 0 oi mi := by
      have w6 := h6'.wf.2
      have q : ∀ i, i < G6.next → Ap (G6.alloc (.row (cells eI (tab ops.length fun _ => (0 : Int))) false)) [G6.next] i := fun i hi => ⟨by rw [GH.next_alloc]; omega, fun x hx _ => by simp at hx; omega⟩
      exact ⟨q _ (by omega), q _ (hlt no), q _ (hlt nm)⟩
    generalize G6.alloc (.row (cells eI (tab ops.length fun _ => (0 : Int))) false) = G7 at *
    generalize G6.next = aid at *
    have okm := newM_ok ok
    have tl : (tab ops.length fun _ => (0 : Int)).length = ops.length := tab_len
    generalize (tab ops.length fun _ => (0 : Int)) = a0 at *
    have lp : ∀ (d i : Nat) (al : List Int) (m : Mod) (f : Fa) (bi oi mi : Nat) (G8 : GH), i + d = ops.length → al.length = ops.length → Hp G4 G8 [rowE eI aid al, rowE eOp oid ops] → FRel g l u C m f (i : Int) (atsF al) → f.may C i (ops.drop i) = true → Md G8 bi oi mi m → MdA G8 [aid] bi oi mi →
        OkT (hodmanlaw23_FairCharge.L87 machW CW oid 0 ops.length aid 0 ops.length (i : Int) m.c.G m.c.N m.c.M m.c.L m.c.Pg m.c.P m.c.H m.c.Sd bi 0 m.bl.length m.live m.peak m.mark oi 0 m.on.length mi 0 m.mem.length G8) := by
      intro d
      induction d with
      | zero =>
        intro i al m f bi oi mi G8 hi hal h rel may s ap
        rw [hodmanlaw23_FairCharge.L87_eq, condD_neg (by omega)]; exact ⟨_, rfl⟩
      | succ d ih =>
        intro i al m f bi oi mi G8 hi hal h rel may s ap
        have hil : i < ops.length := by omega
        have ed : ops.drop i = ops[i] :: ops.drop (i + 1) := List.drop_eq_getElem_cons hil
        have zi : decide (0 ≤ (i : Int) ∧ (i : Int) < ((ops.length : Nat) : Int)) = true := decide_eq_true (by omega)
        have so := h.sl (e := eOp) (id := oid) (xs := ops) (by simp)
        have sa := h.sl0
        obtain ⟨rs, ra, rn, _⟩ := hops _ (List.getElem_mem hil)
        rw [ed] at may
        simp only [Fa.may] at may
        generalize ho : ops[i] = o at *
        cases hd : f.does C (i : Int) o with
        | none => rw [hd] at may; cases may
        | some f' =>
          rw [hd] at may
          dsimp only at may
          obtain ⟨er, rel', hp⟩ := rel.step tp (by omega) (by omega) hd
          have rel2 := rel'.congr fun j h0 _ => (atsF_set (l := al) (by omega) (doM m (opAt (atsF al) o)).2.at_ j h0).symm
          have ids : Ids G8 [aid] := fun x hx => by simp at hx; subst hx; exact h.idlt0
          have ropt : R64 (opAt (atsF al) o).s ∧ R64 (opAt (atsF al) o).a ∧ R64 (opAt (atsF al) o).n := by
            unfold opAt; split <;> exact ⟨rs, ra, rn⟩
          obtain ⟨bi2, oi2, mi2, G9, e9, h9, s9, v9⟩ := hodmanref17_Do.spV h.wf rel.ok s ropt.1 ropt.2.1 ropt.2.2
          have ap9 := ap.mv v9 h9 ids
          have h89 := h.trans0 h9
          obtain ⟨G10, h10, e10⟩ := h89.put (i := i) (by omega) (doM m (opAt (atsF al) o)).2.at_ (off := 0 + i * 1) (by omega) rfl
          have aid0 : aid ≠ 0 := by
            rintro rfl
            rcases h89.ok _ (List.mem_cons_self ..) with ⟨_, b⟩ | ⟨_, b, _⟩
            · simp only [rowE, Obj.row.injEq, and_true] at b
              have := cells_nil b
              rw [this] at hal; simp at hal; omega
            · simp at b
          have f10 : Fo aid G9 G10 := .sts e10 aid0
          have s10 := s9.fo f10 h89.wf (xs := [aid]) (by simp) ap9
          have ap10 : MdA G10 [aid] bi2 oi2 mi2 := ap9.fo f10 fun y hy => .inl hy
          rw [Nat.zero_add] at e10
          have nxt : OkT (hodmanlaw23_FairCharge.L87 machW CW oid 0 ops.length aid 0 ops.length ((i + 1 : Nat) : Int) (doM m (opAt (atsF al) o)).1.c.G (doM m (opAt (atsF al) o)).1.c.N (doM m (opAt (atsF al) o)).1.c.M (doM m (opAt (atsF al) o)).1.c.L (doM m (opAt (atsF al) o)).1.c.Pg (doM m (opAt (atsF al) o)).1.c.P (doM m (opAt (atsF al) o)).1.c.H (doM m (opAt (atsF al) o)).1.c.Sd bi2 0 (doM m (opAt (atsF al) o)).1.bl.length (doM m (opAt (atsF al) o)).1.live (doM m (opAt (atsF al) o)).1.peak (doM m (opAt (atsF al) o)).1.mark oi2 0 (doM m (opAt (atsF al) o)).1.on.length mi2 0 (doM m (opAt (atsF al) o)).1.mem.length G10) :=
            ih (i + 1) _ _ f' bi2 oi2 mi2 G10 (by omega) (by rw [List.length_set]; exact hal) h10 rel2 may s10 ap10
          -- what was asked for
          have sums : ∀ (d k : Nat) (acc : Int), k + d = (doM m (opAt (atsF al) o)).1.bl.length → 0 ≤ acc → acc + askSum ((doM m (opAt (atsF al) o)).1.bl.drop k) = f'.all →
              OkT (hodmanlaw23_FairCharge.L67 machW CW oid 0 ops.length aid 0 ops.length (i : Int) acc (k : Int) (doM m (opAt (atsF al) o)).1.c.G (doM m (opAt (atsF al) o)).1.c.N (doM m (opAt (atsF al) o)).1.c.M (doM m (opAt (atsF al) o)).1.c.L (doM m (opAt (atsF al) o)).1.c.Pg (doM m (opAt (atsF al) o)).1.c.P (doM m (opAt (atsF al) o)).1.c.H (doM m (opAt (atsF al) o)).1.c.Sd bi2 0 (doM m (opAt (atsF al) o)).1.bl.length (doM m (opAt (atsF al) o)).1.live (doM m (opAt (atsF al) o)).1.peak (doM m (opAt (atsF al) o)).1.mark oi2 0 (doM m (opAt (atsF al) o)).1.on.length mi2 0 (doM m (opAt (atsF al) o)).1.mem.length G10) := by
            have hlive := rel2.live tp
            have hlen := chSum_len rel2.ok.bl
            have hll := rel2.ok.live
            have hlim := rel2.ok.lim
            have hcc := rel2.c
            have hle := rel2.inv.le
            obtain ⟨_, hnn⟩ := rel2.asked
            generalize doM m (opAt (atsF al) o) = x at *
            rw [hcc] at hlim
            intro d
            induction d with
            | zero =>
              intro k acc hk h0 he
              rw [List.drop_of_length_le (by omega)] at he
              have he : acc = f'.all := by rw [← he]; simp [askSum]
              rw [hodmanlaw23_FairCharge.L67_eq, condD_neg (by omega), i64w, i64w, wrap_id (by omega) (by omega), condD_neg (by omega), hcc, Int.tdiv_eq_ediv_of_nonneg (by omega), wrap_id (by omega) (by omega), hodmanlaw23_FairCharge.J75_eq, condD_neg (by omega), i64w, wrap_id (by omega) (by omega)]
              rw [hcc] at nxt
              exact nxt
            | succ d ihk =>
              intro k acc hk h0 he
              have hkl : k < x.1.bl.length := by omega
              have ek : x.1.bl.drop k = x.1.bl[k] :: x.1.bl.drop (k + 1) := List.drop_eq_getElem_cons hkl
              have zk : decide (0 ≤ (k : Int) ∧ (k : Int) < ((x.1.bl.length : Nat) : Int)) = true := decide_eq_true (by omega)
              have nn := hnn _ (List.getElem_mem hkl)
              have nr : 0 ≤ askSum (x.1.bl.drop (k + 1)) := sum_nonneg fun y hy => by
                obtain ⟨b, hb, rfl⟩ := List.mem_map.1 hy
                exact hnn b (List.mem_of_mem_drop hb)
              rw [ek, askSum_cons] at he
              rw [hodmanlaw23_FairCharge.L67_eq, condD_pos (by omega)]
              simp only [zk, Int.toNat_natCast, s10.bl.ld k 2 hkl (by omega), q_bs, q_I, q_B, q_P, q_S, q_M, q_c, q_a, q_gz, q_gs, q_gk, q_ct, q_cf, q_nt, q_nf, q_xt, q_xf, q_tt, q_ff, q_tf, q_ft, q_at, q_af, i64w, wrap_id (a := (k : Int) + 1) (by omega) (by omega)]
              rw [wrap_id (by omega) (by omega)]
              exact ihk (k + 1) _ (by omega) (by omega) (by omega)
          have do_ : ∀ o' : OpV, o' = opAt (atsF al) o → OkT (hodmanlaw23_FairCharge.J80 machW CW oid 0 ops.length aid 0 ops.length (i : Int) m.c.G m.c.N m.c.M m.c.L m.c.Pg m.c.P m.c.H m.c.Sd bi 0 m.bl.length m.live m.peak m.mark oi 0 m.on.length mi 0 m.mem.length o'.k o'.p o'.s o'.a o'.n o'.b G8) := by
            intro o' e
            subst e
            rw [hodmanlaw23_FairCharge.J80_eq, e9]
            simp only [q_bs, q_I, q_B, q_P, q_S, q_M, q_c, q_a, q_gz, q_gs, q_gk, q_ct, q_cf, q_nt, q_nf, q_xt, q_xf, q_tt, q_ff, q_tf, q_ft, q_at, q_af, List.length_cons, List.length_nil, if_true]
            rw [zi]
            simp only [q_bs, q_I, q_B, q_P, q_S, q_M, q_c, q_a, q_gz, q_gs, q_gk, q_ct, q_cf, q_nt, q_nf, q_xt, q_xf, q_tt, q_ff, q_tf, q_ft, q_at, q_af, Int.toNat_natCast, Nat.zero_add, e10]
            exact sums (doM m (opAt (atsF al) o)).1.bl.length 0 0 (Nat.zero_add _) (Int.le_refl _) (by rw [List.drop_zero, Int.zero_add]; exact rel2.asked.1)
          have mid : ∀ t : Bool, t = decide (4 ≤ o.k ∧ o.k ≤ 8) → OkT (hodmanlaw23_FairCharge.J51 machW CW oid 0 ops.length aid 0 ops.length (i : Int) t m.c.G m.c.N m.c.M m.c.L m.c.Pg m.c.P m.c.H m.c.Sd bi 0 m.bl.length m.live m.peak m.mark oi 0 m.on.length mi 0 m.mem.length o.k o.p o.s o.a o.n o.b G8) := by
            intro t ht
            subst ht
            rw [hodmanlaw23_FairCharge.J51_eq]
            by_cases hk : 4 ≤ o.k ∧ o.k ≤ 8
            · obtain ⟨p0, p1⟩ := hp hk
              have hpl : o.p.toNat < al.length := by omega
              have r0 := sa.ld o.p.toNat 0 hpl (by omega)
              rw [Nat.add_zero] at r0
              rw [condD_pos hk, condD_neg (by omega), decide_eq_false (by omega), hodmanlaw23_FairCharge.J46_eq, q_cf, guardD_of (by omega), r0]
              simp only [q_bs, q_I, q_B, q_P, q_S, q_M, q_c, q_a, q_gz, q_gs, q_gk, q_ct, q_cf, q_nt, q_nf, q_xt, q_xf, q_tt, q_ff, q_tf, q_ft, q_at, q_af]
              have : al[o.p.toNat] = atsF al o.p := by unfold atsF; rw [getD_lt 0 hpl]
              rw [this]
              exact do_ { o with p := atsF al o.p } (by unfold opAt; rw [if_pos hk])
            · rw [condD_neg hk]
              exact do_ o (by unfold opAt; rw [if_neg hk])
          rw [hodmanlaw23_FairCharge.L87_eq, condD_pos (by omega)]
          simp only [zi, Int.toNat_natCast, so.ld i 0 hil (by omega), so.ld i 1 hil (by omega), so.ld i 2 hil (by omega), so.ld i 3 hil (by omega), so.ld i 4 hil (by omega), so.ld i 5 hil (by omega), q_bs, q_I, q_B, q_P, q_S, q_M, q_c, q_a, q_gz, q_gs, q_gk, q_ct, q_cf, q_nt, q_nf, q_xt, q_xf, q_tt, q_ff, q_tf, q_ft, q_at, q_af, ho]
          by_cases k4 : o.k ≥ 4
          · rw [condD_pos k4]; exact mid _ (by congr 1; exact propext ⟨fun h => by omega, fun h => by omega⟩)
          · rw [condD_neg k4]; exact mid false (decide_eq_false (by omega)).symm
    have rel0 : FRel g l u C (newM C) fa0 0 (atsF a0) := FRel.zero tp okm rfl rfl _
    have := lp ops.length 0 a0 (newM C) fa0 0 oi mi G7 (by omega) tl h7 rel0 (by rw [List.drop_zero]; exact hmay) s7 ap7
    exact this
end Go.Proofs.D.S
