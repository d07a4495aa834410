/- Texts of the proof (SpClient, SpDo, SpAll, DSame, SpSame, SpSame2, DFail, DAlike, DAlike2, DAlike3, LawSameKnown); no condition. -/
import Derived.Test.YtdanddamihficaaSameKnowni
set_option linter.unusedSimpArgs false
set_option linter.unusedVariables false
/- Clients made of numbers. -/
set_option linter.unusedVariables false
set_option linter.unusedSimpArgs false
namespace Go.Proofs.D.S
open Go Go.RowKit
variable {G G0 : GH} {L : List (Nat × Obj)}
/-- A call's numbers, as a client makes them. -/
def OpCl (o : OpV) : Prop := R64 o.s ∧ R64 o.a ∧ R64 o.n ∧ 0 ≤ o.b ∧ o.b ≤ 255
theorem r64w (x : Int) : R64 (IntKind.i64.wrap x) := by rw [i64w]; exact wrap_range x
/-- Where blocks are looked for: at earlier calls. -/
def Pk (ops : List OpV) : Prop := ∀ j (h : j < ops.length), 4 ≤ ops[j].k ∧ ops[j].k ≤ 8 → 0 ≤ ops[j].p ∧ ops[j].p < (j : Int)
theorem Pk.snoc {ops : List OpV} (h : Pk ops) {o : OpV} (ho : 4 ≤ o.k ∧ o.k ≤ 8 → 0 ≤ o.p ∧ o.p < (ops.length : Int)) : Pk (ops ++ [o]) := by
  intro j hj
  by_cases hl : j < ops.length
  · rw [List.getElem_append_left hl]; exact h j hl
  · have hj2 : j = ops.length := by rw [List.length_append, List.length_singleton] at hj; omega
    subst hj2
    rw [List.getElem_append_right (by omega)]
    simpa using ho
def Lv (lv : List Int) (i : Int) : Prop := ∀ x ∈ lv, 0 ≤ x ∧ x < i
/-- What a client's making comes to. -/
def ClOut (G0 : GH) (L : List (Nat × Obj)) (A : Int) (x : Option Res) : Prop :=
  ∃ (oid : Nat) (ops : List OpV) (G' : GH), x = some ([.c (.sl 6 oid 0 ops.length)], G') ∧ Hp G0 G' (rowE eOp oid ops :: L) ∧ (∀ o ∈ ops, OpCl o) ∧ (ops.length : Int) ≤ A ∧ Pk ops
/-- Where it stands. -/
structure ClSt (G0 : GH) (L : List (Nat × Obj)) (G : GH) (pid lid lo n : Nat) (j : Int) (sid : Nat) (sz : List (Int × Int)) (oid : Nat) (ops : List OpV) (vid : Nat) (lv : List Int) (A i : Int) : Prop where
  h : Hp G0 G (pk pid lid lo n j :: (sid, .map (.c (.int .i64)) (encM eIc eIc sz)) :: rowE eOp oid ops :: rowE eI vid lv :: L)
  j : 0 ≤ j ∧ j ≤ n
  o : ∀ o ∈ ops, OpCl o
  l : (ops.length : Int) = i
  v : (lv.length : Int) ≤ i
  q : Pk ops
  w : Lv lv i
  i : 0 ≤ i ∧ i ≤ A
section
variable {lid lo n : Nat} {xs : List Int} (p : PkOk G0 L lid lo n xs) {c : Cf} {A : Int} (hA : A ≤ 1000000)
include p hA
theorem hodmanlaw23_Client.sp0 {d : Nat} (ih : ∀ (G : GH) (pid : Nat) (j : Int) (sid : Nat) (sz : List (Int × Int)) (oid : Nat) (ops : List OpV) (vid : Nat) (lv : List Int) (i sum : Int), i + d = A →
      ClSt G0 L G pid lid lo n j sid sz oid ops vid lv A i → ClOut G0 L A (hodmanlaw23_Client.L109 machW CW A pid 0 oid 0 ops.length vid 0 lv.length sid sum i c.G c.N c.M c.L c.Pg c.P c.H c.Sd G))
    {pid : Nat} {j : Int} {sid : Nat} {sz : List (Int × Int)} {oid : Nat} {ops : List OpV} {vid : Nat} {lv : List Int} {i sum : Int} (hi : i + (d + 1 : Nat) = A)
    (s : ClSt G0 L G pid lid lo n j sid sz oid ops vid lv A i) : ClOut G0 L A (hodmanlaw23_Client.L109 machW CW A pid 0 oid 0 ops.length vid 0 lv.length sid sum i c.G c.N c.M c.L c.Pg c.P c.H c.Sd G) := by
  have hm : (1000000001 : Nat) ≤ most := by unfold most; decide
  have hj := s.j
  have hii := s.i
  have hl := s.l
  have hv := s.v
  have pL : ∀ x y z : Nat × Obj, PkOk G0 (x :: y :: z :: L) lid lo n xs := fun x y z => ((p.cons _).cons _).cons _
  -- behind what is done: the next one
  have nxt : ∀ (G : GH) (j : Int) (sz : List (Int × Int)) (oid : Nat) (ops : List OpV) (vid : Nat) (lv : List Int) (sum : Int), ClSt G0 L G pid lid lo n j sid sz oid ops vid lv A (i + 1) →
      ClOut G0 L A (hodmanlaw23_Client.J106 machW CW A pid 0 oid 0 ops.length vid 0 lv.length sid sum i c.G c.N c.M c.L c.Pg c.P c.H c.Sd G) := by
    intro G j sz oid ops vid lv sum s
    rw [hodmanlaw23_Client.J106_eq, i64w, wrap_id (by omega) (by omega)]
    exact ih G pid j sid sz oid ops vid lv (i + 1) sum (by omega) s
  -- what is live behind it
  have fin : ∀ (t : Bool) (G : GH) (j : Int) (sz : List (Int × Int)) (oid : Nat) (ops : List OpV) (vid : Nat) (lv : List Int) (sum v : Int), Hp G0 G (pk pid lid lo n j :: (sid, .map (.c (.int .i64)) (encM eIc eIc sz)) :: rowE eOp oid ops :: rowE eI vid lv :: L) → (0 ≤ j ∧ j ≤ n) → (∀ o ∈ ops, OpCl o) → (ops.length : Int) = i + 1 → (lv.length : Int) ≤ i → Pk ops → Lv lv i →
      ClOut G0 L A (hodmanlaw23_Client.J92 machW CW A pid 0 oid 0 ops.length vid 0 lv.length sid sum i v t c.G c.N c.M c.L c.Pg c.P c.H c.Sd G) := by
    intro t G j sz oid ops vid lv sum v h hj ho hl hv hq hw
    rw [hodmanlaw23_Client.J92_eq]
    cases t with
    | false =>
      rw [q_cf]
      exact nxt G j sz oid ops vid lv sum ⟨h, hj, ho, by omega, by omega, hq, (fun x hx => by have := hw x hx; omega), by omega⟩
    | true =>
      rw [q_ct]
      obtain ⟨vid2, G2, h2, k2⟩ := Hp.app1 (S := Res) (e := eI) (h.pick 3) i (n := lv.length) rfl (by omega)
      rw [k2]
      dsimp only
      have h3 := (h2.back 3).pick 1
      obtain ⟨m0, m1, _⟩ := Hp.ents (ks := .c (.int .i64)) h3
      rw [m1, q_bs]
      have h4 := (h3.set (o' := .map (.c (.int .i64)) (encM eIc eIc (aPut sz i v))) m0).back 1
      rw [← mapPut_enc eIc_inj] at h4
      have e : (lv ++ [i]).length = lv.length + 1 := by simp
      rw [← e]
      refine nxt _ j (aPut sz i v) oid ops vid2 (lv ++ [i]) _ ⟨?_, hj, ho, by omega, by rw [e]; omega, hq, (fun x hx => by
        rcases List.mem_append.1 hx with hx | hx
        · have := hw x hx; omega
        · simp at hx; subst hx; omega), by omega⟩
      rw [← mapPut_enc eIc_inj]
      exact h4
  have fin2 : ∀ (o : OpV) (G : GH) (j : Int) (sz : List (Int × Int)) (oid : Nat) (ops : List OpV) (vid : Nat) (lv : List Int) (sum v : Int), Hp G0 G (pk pid lid lo n j :: (sid, .map (.c (.int .i64)) (encM eIc eIc sz)) :: rowE eOp oid ops :: rowE eI vid lv :: L) → (0 ≤ j ∧ j ≤ n) → (∀ o ∈ ops, OpCl o) → (ops.length : Int) = i + 1 → (lv.length : Int) ≤ i → Pk ops → Lv lv i →
      ClOut G0 L A (hodmanlaw23_Client.J93 machW CW A pid 0 oid 0 ops.length vid 0 lv.length sid sum i v c.G c.N c.M c.L c.Pg c.P c.H c.Sd o.k o.p o.s o.a o.n o.b G) := by
    intro o G j sz oid ops vid lv sum v h hj ho hl hv hq hw
    rw [hodmanlaw23_Client.J93_eq]
    by_cases k1 : o.k = 1
    · rw [condD_pos k1]; exact fin true G j sz oid ops vid lv sum v h hj ho hl hv hq hw
    rw [condD_neg k1]
    by_cases k2 : o.k = 2
    · rw [condD_pos k2]; exact fin true G j sz oid ops vid lv sum v h hj ho hl hv hq hw
    rw [condD_neg k2]
    exact fin _ G j sz oid ops vid lv sum v h hj ho hl hv hq hw
  -- what stays of what is live
  have rest : ∀ (d x : Nat) (o : OpV) (G : GH) (j : Int) (sz : List (Int × Int)) (oid : Nat) (ops : List OpV) (vid : Nat) (lv : List Int) (uid : Nat) (rs : List Int) (sum k v : Int), x + d = lv.length → rs.length ≤ x → Lv rs i →
      Hp G0 G (rowE eI uid rs :: pk pid lid lo n j :: (sid, .map (.c (.int .i64)) (encM eIc eIc sz)) :: rowE eOp oid ops :: rowE eI vid lv :: L) → (0 ≤ j ∧ j ≤ n) → (∀ o ∈ ops, OpCl o) → (ops.length : Int) = i + 1 → (lv.length : Int) ≤ i → Pk ops → Lv lv i →
      ClOut G0 L A (hodmanlaw23_Client.L77 machW CW A pid 0 oid 0 ops.length vid 0 lv.length sid sum i k v uid 0 rs.length (x : Int) c.G c.N c.M c.L c.Pg c.P c.H c.Sd o.k o.p o.s o.a o.n o.b G) := by
    intro d
    induction d with
    | zero =>
      intro x o G j sz oid ops vid lv uid rs sum k v hx hr hrw h hj ho hl hv hq hw
      rw [hodmanlaw23_Client.L77_eq, condD_neg (by omega)]
      exact fin2 o G j sz oid ops uid rs sum v ((h.back 3).sub (by simp [bk])) hj ho hl (by omega) hq hrw
    | succ d ihd =>
      intro x o G j sz oid ops vid lv uid rs sum k v hx hr hrw h hj ho hl hv hq hw
      have hxl : x < lv.length := by omega
      have zi : decide (0 ≤ (x : Int) ∧ (x : Int) < ((lv.length : Nat) : Int)) = true := decide_eq_true (by omega)
      have sv := h.sl (e := eI) (id := vid) (xs := lv) (by simp)
      have r0 := sv.ld x 0 hxl (by omega)
      rw [Nat.add_zero] at r0
      rw [hodmanlaw23_Client.L77_eq, condD_pos (by omega)]
      simp only [zi, Int.toNat_natCast, r0, q_bs, q_I, q_B, q_P, q_S, q_M, q_c, q_a, q_gz, q_gs, q_gk, q_ct, q_cf, q_nt, q_nf, q_xt, q_xf, q_tt, q_ff, q_tf, q_ft, q_at, q_af]
      have go : ∀ (G : GH) (uid : Nat) (rs : List Int), rs.length ≤ x + 1 → Lv rs i → Hp G0 G (rowE eI uid rs :: pk pid lid lo n j :: (sid, .map (.c (.int .i64)) (encM eIc eIc sz)) :: rowE eOp oid ops :: rowE eI vid lv :: L) →
          ClOut G0 L A (hodmanlaw23_Client.J74 machW CW A pid 0 oid 0 ops.length vid 0 lv.length sid sum i k v uid 0 rs.length (x : Int) c.G c.N c.M c.L c.Pg c.P c.H c.Sd o.k o.p o.s o.a o.n o.b G) := by
        intro G uid rs hr hrw h
        rw [hodmanlaw23_Client.J74_eq, i64w, wrap_id (by omega) (by omega)]
        exact ihd (x + 1) o G j sz oid ops vid lv uid rs sum k v (by omega) hr hrw h hj ho hl hv hq hw
      by_cases hk : lv[x] = k
      · rw [decide_eq_true hk, q_nt, q_cf]; exact go G uid rs (by omega) hrw h
      · rw [decide_eq_false hk, q_nf, q_ct]
        obtain ⟨uid2, G2, h2, k2⟩ := h.app1 (S := Res) lv[x] (n := rs.length) rfl (by omega)
        rw [k2]
        dsimp only
        have e : (rs ++ [lv[x]]).length = rs.length + 1 := by simp
        rw [← e]
        exact go G2 uid2 _ (by rw [e]; omega) (fun y hy => by
          rcases List.mem_append.1 hy with hy | hy
          · exact hrw y hy
          · simp at hy; subst hy; exact hw _ (List.getElem_mem hxl)) h2
  -- a call is told
  have told : ∀ (o : OpV) (G : GH) (j sum k v : Int), OpCl o → (4 ≤ o.k ∧ o.k ≤ 8 → 0 ≤ o.p ∧ o.p < i) → Hp G0 G (pk pid lid lo n j :: (sid, .map (.c (.int .i64)) (encM eIc eIc sz)) :: rowE eOp oid ops :: rowE eI vid lv :: L) → (0 ≤ j ∧ j ≤ n) →
      ClOut G0 L A (hodmanlaw23_Client.J95 machW CW A pid 0 oid 0 ops.length vid 0 lv.length sid sum i k v c.G c.N c.M c.L c.Pg c.P c.H c.Sd o.k o.p o.s o.a o.n o.b G) := by
    intro o G j sum k v hoc hop h hj
    rw [hodmanlaw23_Client.J95_eq]
    dsimp only
    obtain ⟨oid2, G2, h2, k2⟩ := Hp.app1 (S := Res) (e := eOp) (h.pick 2) o (n := ops.length) rfl (by omega)
    rw [k2]
    dsimp only
    have h3 := h2.back 2
    have e : (ops ++ [o]).length = ops.length + 1 := by simp
    rw [← e]
    have ho2 : ∀ x ∈ ops ++ [o], OpCl x := by
      intro x hx
      rcases List.mem_append.1 hx with hx | hx
      · exact s.o x hx
      · simp at hx; subst hx; exact hoc
    have hq2 : Pk (ops ++ [o]) := s.q.snoc (by rw [hl]; exact hop)
    have mid : ∀ t : Bool, ClOut G0 L A (hodmanlaw23_Client.J85 machW CW A pid 0 oid2 0 (ops ++ [o]).length vid 0 lv.length sid sum i k v t c.G c.N c.M c.L c.Pg c.P c.H c.Sd o.k o.p o.s o.a o.n o.b G2) := by
      intro t
      rw [hodmanlaw23_Client.J85_eq]
      cases t with
      | false => rw [q_cf]; exact fin2 o G2 j sz oid2 _ vid lv sum v h3 hj ho2 (by rw [e]; omega) (by omega) hq2 s.w
      | true =>
        rw [q_ct]
        obtain ⟨_, _, m2⟩ := Hp.ents (ks := .c (.int .i64)) (h3.pick 1)
        rw [m2, q_bs, show (V1.c (.int .i64 k)) = eIc k from rfl, mapGet_enc eIc_inj, getD_eIc]
        simp only [q_bs, q_I, q_B, q_P, q_S, q_M, q_c, q_a, q_gz, q_gs, q_gk, q_ct, q_cf, q_nt, q_nf, q_xt, q_xf, q_tt, q_ff, q_tf, q_ft, q_at, q_af]
        exact rest lv.length 0 o G2 j sz oid2 _ vid lv 0 [] _ k v (by omega) (by simp) (fun y hy => by cases hy) h3.nil0 hj ho2 (by rw [e]; omega) (by omega) hq2 s.w
    by_cases k5 : o.k = 5
    · rw [condD_pos k5]; exact mid true
    · rw [condD_neg k5]; exact mid _
  have R : ∀ {x : Int}, -1000 ≤ x → x ≤ 100000 → R64 x := fun a b => by unfold R64; omega
  -- which call
  have kind : ∀ (G : GH) (j sum k t v : Int), R64 v → ((0 ≤ k ∧ k < i) ∨ t < 8 ∨ t > 14) → Hp G0 G (pk pid lid lo n j :: (sid, .map (.c (.int .i64)) (encM eIc eIc sz)) :: rowE eOp oid ops :: rowE eI vid lv :: L) → (0 ≤ j ∧ j ≤ n) →
      ClOut G0 L A (hodmanlaw23_Client.J96 machW CW A pid 0 oid 0 ops.length vid 0 lv.length sid sum i k t v c.G c.N c.M c.L c.Pg c.P c.H c.Sd 1 0 0 0 0 0 G) := by
    intro G j sum k t v hv hkt h hj
    rw [hodmanlaw23_Client.J96_eq]
    by_cases z : t < 7
    · rw [condD_pos z]; exact told ⟨1, 0, v, 0, 0, 0⟩ G j sum k v ⟨hv, R (by dsimp only; omega) (by dsimp only; omega), R (by dsimp only; omega) (by dsimp only; omega), (by dsimp only; omega), (by dsimp only; omega)⟩ (by dsimp only; omega) h hj
    rw [condD_neg z]
    by_cases z : t = 7
    · rw [condD_pos z]; exact told ⟨2, 0, v, 0, 1, 0⟩ G j sum k v ⟨hv, R (by dsimp only; omega) (by dsimp only; omega), R (by dsimp only; omega) (by dsimp only; omega), (by dsimp only; omega), (by dsimp only; omega)⟩ (by dsimp only; omega) h hj
    rw [condD_neg z]
    by_cases z : t < 10
    · rw [condD_pos z]; exact told ⟨4, k, v, 0, 0, 0⟩ G j sum k v ⟨hv, R (by dsimp only; omega) (by dsimp only; omega), R (by dsimp only; omega) (by dsimp only; omega), (by dsimp only; omega), (by dsimp only; omega)⟩ (by dsimp only; omega) h hj
    rw [condD_neg z]
    by_cases z : t < 13
    · rw [condD_pos z]; exact told ⟨5, k, 0, 0, 0, 0⟩ G j sum k v ⟨R (by dsimp only; omega) (by dsimp only; omega), R (by dsimp only; omega) (by dsimp only; omega), R (by dsimp only; omega) (by dsimp only; omega), (by dsimp only; omega), (by dsimp only; omega)⟩ (by dsimp only; omega) h hj
    rw [condD_neg z]
    obtain ⟨_, _, m2⟩ := Hp.ents (ks := .c (.int .i64)) (h.pick 1)
    by_cases z : t = 13
    · rw [condD_pos z, m2, q_bs, show (V1.c (.int .i64 k)) = eIc k from rfl, mapGet_enc eIc_inj, getD_eIc]
      obtain ⟨v1, j1, G1, e1, k1, a1, b1, c1, d1, f1, _⟩ := hodmanplay_Picks_Num.sp h (pL _ _ _) hj.1 hj.2 ((aGet sz k).getD 0)
      simp only [q_bs, q_I, q_B, q_P, q_S, q_M, q_c, q_a, q_gz, q_gs, q_gk, q_ct, q_cf, q_nt, q_nf, q_xt, q_xf, q_tt, q_ff, q_tf, q_ft, q_at, q_af]
      rw [e1]
      simp only [q_bs, q_I, q_B, q_P, q_S, q_M, q_c, q_a, q_gz, q_gs, q_gk, q_ct, q_cf, q_nt, q_nf, q_xt, q_xf, q_tt, q_ff, q_tf, q_ft, q_at, q_af]
      exact told ⟨7, k, 0, 0, v1, 0⟩ G1 j1 sum k v ⟨R (by dsimp only; omega) (by dsimp only; omega), R (by dsimp only; omega) (by dsimp only; omega), R (by dsimp only; omega) (by dsimp only; omega), (by dsimp only; omega), (by dsimp only; omega)⟩ (by dsimp only; omega) k1 ⟨by omega, f1⟩
    rw [condD_neg z]
    by_cases z : t = 14
    · rw [condD_pos z, m2, q_bs, show (V1.c (.int .i64 k)) = eIc k from rfl, mapGet_enc eIc_inj, getD_eIc]
      obtain ⟨v1, j1, G1, e1, k1, a1, b1, c1, d1, f1, _⟩ := hodmanplay_Picks_Num.sp h (pL _ _ _) hj.1 hj.2 ((aGet sz k).getD 0)
      obtain ⟨v2, j2, G2, e2, k2, a2, b2, c2, d2, f2, _⟩ := hodmanplay_Picks_Num.sp k1 (pL _ _ _) (by omega) f1 256
      simp only [q_bs, q_I, q_B, q_P, q_S, q_M, q_c, q_a, q_gz, q_gs, q_gk, q_ct, q_cf, q_nt, q_nf, q_xt, q_xf, q_tt, q_ff, q_tf, q_ft, q_at, q_af]
      rw [e1]
      simp only [q_bs, q_I, q_B, q_P, q_S, q_M, q_c, q_a, q_gz, q_gs, q_gk, q_ct, q_cf, q_nt, q_nf, q_xt, q_xf, q_tt, q_ff, q_tf, q_ft, q_at, q_af]
      rw [e2]
      simp only [q_bs, q_I, q_B, q_P, q_S, q_M, q_c, q_a, q_gz, q_gs, q_gk, q_ct, q_cf, q_nt, q_nf, q_xt, q_xf, q_tt, q_ff, q_tf, q_ft, q_at, q_af]
      have w8 : IntKind.u8.wrap v2 = v2 := by
        have : IntKind.u8.wrap v2 = v2 % 256 := by simp [IntKind.wrap, IntKind.signed, IntKind.bits]
        rw [this]; omega
      rw [w8]
      exact told ⟨8, k, 0, 0, v1, v2⟩ G2 j2 sum k v ⟨R (by dsimp only; omega) (by dsimp only; omega), R (by dsimp only; omega) (by dsimp only; omega), R (by dsimp only; omega) (by dsimp only; omega), a2, b2⟩ (by dsimp only; omega) k2 ⟨by omega, f2⟩
    rw [condD_neg z]
    obtain ⟨v1, j1, G1, e1, k1, a1, b1, c1, d1, f1, _⟩ := hodmanplay_Picks_Num.sp h (pL _ _ _) hj.1 hj.2 2
    rw [e1]
    simp only [q_bs, q_I, q_B, q_P, q_S, q_M, q_c, q_a, q_gz, q_gs, q_gk, q_ct, q_cf, q_nt, q_nf, q_xt, q_xf, q_tt, q_ff, q_tf, q_ft, q_at, q_af]
    exact told ⟨IntKind.i64.wrap (9 + v1), 0, 0, 0, 0, 0⟩ G1 j1 sum k v ⟨R (by dsimp only; omega) (by dsimp only; omega), R (by dsimp only; omega) (by dsimp only; omega), R (by dsimp only; omega) (by dsimp only; omega), (by dsimp only; omega), (by dsimp only; omega)⟩ (by rw [show IntKind.i64.wrap (9 + v1) = 9 + v1 by rw [i64w, wrap_id (by omega) (by omega)]]; dsimp only; omega) k1 ⟨by omega, f1⟩
  have size : ∀ (G : GH) (j sum k r t : Int), ((0 ≤ k ∧ k < i) ∨ t < 8 ∨ t > 14) → Hp G0 G (pk pid lid lo n j :: (sid, .map (.c (.int .i64)) (encM eIc eIc sz)) :: rowE eOp oid ops :: rowE eI vid lv :: L) → (0 ≤ j ∧ j ≤ n) →
      ClOut G0 L A (hodmanlaw23_Client.J98 machW CW A pid 0 oid 0 ops.length vid 0 lv.length sid sum i k r t c.G c.N c.M c.L c.Pg c.P c.H c.Sd 1 0 0 0 0 0 G) := by
    intro G j sum k r t hkt h hj
    rw [hodmanlaw23_Client.J98_eq]
    obtain ⟨v1, j1, G1, e1, k1, a1, b1, c1, d1, f1, _⟩ := hodmanplay_Picks_Num.sp h (pL _ _ _) hj.1 hj.2 (mx2 1 (mn2 c.N (mx2 r 1)))
    rw [e1]
    simp only [q_bs, q_I, q_B, q_P, q_S, q_M, q_c, q_a, q_gz, q_gs, q_gk, q_ct, q_cf, q_nt, q_nf, q_xt, q_xf, q_tt, q_ff, q_tf, q_ft, q_at, q_af]
    by_cases z : IntKind.i64.wrap (2 * IntKind.i64.wrap (1 + v1)) < c.G
    · rw [condD_pos z]; exact kind G1 j1 sum k t _ (r64w _) hkt k1 ⟨by omega, f1⟩
    · rw [condD_neg z]; exact kind G1 j1 sum k t _ (r64w _) hkt k1 ⟨by omega, f1⟩
  have room : ∀ (b : Bool) (G : GH) (j sum k r t : Int), (b = true ∨ (0 ≤ k ∧ k < i) ∨ t < 8 ∨ t > 14) → Hp G0 G (pk pid lid lo n j :: (sid, .map (.c (.int .i64)) (encM eIc eIc sz)) :: rowE eOp oid ops :: rowE eI vid lv :: L) → (0 ≤ j ∧ j ≤ n) →
      ClOut G0 L A (hodmanlaw23_Client.J24 machW CW A pid 0 oid 0 ops.length vid 0 lv.length sid sum i k r t b c.G c.N c.M c.L c.Pg c.P c.H c.Sd 1 0 0 0 0 0 G) := by
    intro b G j sum k r t hkt h hj
    rw [hodmanlaw23_Client.J24_eq]
    cases b with
    | false => rw [q_cf]; exact size G j sum k r t (hkt.resolve_left (by decide)) h hj
    | true => rw [q_ct]; exact size G j sum k r 15 (.inr (.inr (by decide))) h hj
  have call : ∀ (G : GH) (j k : Int), (k < 0 ∨ (0 ≤ k ∧ k < i)) → Hp G0 G (pk pid lid lo n j :: (sid, .map (.c (.int .i64)) (encM eIc eIc sz)) :: rowE eOp oid ops :: rowE eI vid lv :: L) → (0 ≤ j ∧ j ≤ n) →
      ClOut G0 L A (hodmanlaw23_Client.J101 machW CW A pid 0 oid 0 ops.length vid 0 lv.length sid sum i k c.G c.N c.M c.L c.Pg c.P c.H c.Sd 1 0 0 0 0 0 G) := by
    intro G j k hk h hj
    rw [hodmanlaw23_Client.J101_eq]
    obtain ⟨v1, j1, G1, e1, k1, a1, b1, c1, d1, f1, _⟩ := hodmanplay_Picks_Num.sp h (pL _ _ _) hj.1 hj.2 16
    rw [e1]
    simp only [q_bs, q_I, q_B, q_P, q_S, q_M, q_c, q_a, q_gz, q_gs, q_gk, q_ct, q_cf, q_nt, q_nf, q_xt, q_xf, q_tt, q_ff, q_tf, q_ft, q_at, q_af]
    have hj1 : 0 ≤ j1 ∧ j1 ≤ n := ⟨by omega, f1⟩
    by_cases z1 : v1 ≥ 8
    · rw [condD_pos z1]
      by_cases z2 : k < 0
      · rw [condD_pos z2]; exact room _ G1 j1 sum k _ _ (.inl rfl) k1 hj1
      · rw [condD_neg z2]
        by_cases z3 : v1 < 8
        · rw [condD_pos z3]; exact room _ G1 j1 sum k _ _ (.inr (by omega)) k1 hj1
        · rw [condD_neg z3]; exact room _ G1 j1 sum k _ _ (.inr (by omega)) k1 hj1
    · rw [condD_neg z1]
      by_cases z3 : v1 < 8
      · rw [condD_pos z3]; exact room _ G1 j1 sum k _ _ (.inr (by omega)) k1 hj1
      · rw [condD_neg z3]; exact room _ G1 j1 sum k _ _ (.inr (by omega)) k1 hj1
  rw [hodmanlaw23_Client.L109_eq, condD_pos (by omega), hodmanplay_Picks_Over.sp s.h]
  simp only [q_bs, q_I, q_B, q_P, q_S, q_M, q_c, q_a, q_gz, q_gs, q_gk, q_ct, q_cf, q_nt, q_nf, q_xt, q_xf, q_tt, q_ff, q_tf, q_ft, q_at, q_af]
  rw [hodmanlaw23_Client.J10_eq]
  by_cases hov : j ≥ (n : Int)
  · rw [decide_eq_true hov, q_nt, q_cf]
    exact ⟨oid, ops, G, rfl, (s.h.pick 2).sub (.cons_cons _ (.cons _ (.cons _ (.cons _ (.refl _))))), s.o, by omega, s.q⟩
  · rw [decide_eq_false hov, q_nf, q_ct]
    by_cases hz : ((lv.length : Nat) : Int) > 0
    · rw [condD_pos hz]
      obtain ⟨v1, j1, G1, e1, k1, a1, b1, c1, d1, f1, _⟩ := hodmanplay_Picks_Num.sp s.h (pL _ _ _) hj.1 hj.2 ((lv.length : Nat) : Int)
      have c1 := c1 (by omega)
      rw [e1]
      simp only [q_bs, q_I, q_B, q_P, q_S, q_M, q_c, q_a, q_gz, q_gs, q_gk, q_ct, q_cf, q_nt, q_nf, q_xt, q_xf, q_tt, q_ff, q_tf, q_ft, q_at, q_af]
      have sv := k1.sl (e := eI) (id := vid) (xs := lv) (by simp)
      have r0 := sv.ld v1.toNat 0 (by omega) (by omega)
      rw [Nat.add_zero] at r0
      rw [guardD_of (by omega), r0]
      simp only [q_bs, q_I, q_B, q_P, q_S, q_M, q_c, q_a, q_gz, q_gs, q_gk, q_ct, q_cf, q_nt, q_nf, q_xt, q_xf, q_tt, q_ff, q_tf, q_ft, q_at, q_af]
      exact call G1 j1 _ (.inr (s.w _ (List.getElem_mem _))) k1 ⟨by omega, f1⟩
    · rw [condD_neg hz]; exact call G j _ (.inl (by decide)) s.h hj
theorem hodmanlaw23_Client.lp : ∀ (d : Nat) (G : GH) (pid : Nat) (j : Int) (sid : Nat) (sz : List (Int × Int)) (oid : Nat) (ops : List OpV) (vid : Nat) (lv : List Int) (i sum : Int), i + d = A →
    ClSt G0 L G pid lid lo n j sid sz oid ops vid lv A i → ClOut G0 L A (hodmanlaw23_Client.L109 machW CW A pid 0 oid 0 ops.length vid 0 lv.length sid sum i c.G c.N c.M c.L c.Pg c.P c.H c.Sd G)
  | 0, G, pid, j, sid, sz, oid, ops, vid, lv, i, sum, hi, s => by
    have hl := s.l
    rw [hodmanlaw23_Client.L109_eq, condD_neg (by omega), hodmanlaw23_Client.J10_eq, q_cf]
    exact ⟨oid, ops, G, rfl, (s.h.pick 2).sub (.cons_cons _ (.cons _ (.cons _ (.cons _ (.refl _))))), s.o, by omega, s.q⟩
  | d + 1, G, pid, j, sid, sz, oid, ops, vid, lv, i, sum, hi, s => hodmanlaw23_Client.sp0 p hA (hodmanlaw23_Client.lp d) hi s
end
theorem hodmanlaw23_Client.spP (h : Hp G0 G L) {lid lo n : Nat} {xs : List Int} (p : PkOk G0 L lid lo n xs) {c : Cf} {A : Int} (hA : 0 ≤ A ∧ A ≤ 1000000) :
    ClOut G0 L A (CW hodmanlaw23_Client.id [.agg (cfC c), .c (.sl 1 lid lo n), .c (.int .i64 A)] G) := by
  rw [hodmanlaw23_Client.cw]
  unfold hodmanlaw23_Client.f
  obtain ⟨pid, G1, e1, h1⟩ := hodmanplay_Made.sp h lid lo n
  rw [e1]
  simp only [q_bs, q_I, q_B, q_P, q_S, q_M, q_c, q_a, q_gz, q_gs, q_gk, q_ct, q_cf, q_nt, q_nf, q_xt, q_xf, q_tt, q_ff, q_tf, q_ft, q_at, q_af]
  have h2 := (((((h1.alloc (.map (.c (.int .i64)) (encM eIc eIc ([] : List (Int × Int))))).pick 1).nil0 (e := eOp)).back 2).nil0 (e := eI)).back 3
  exact hodmanlaw23_Client.lp p hA.2 A.toNat _ pid 0 _ [] 0 [] 0 [] 0 0 (by omega) ⟨h2, by omega, fun o ho => (by cases ho), rfl, by simp, (fun j hj => by simp at hj), (fun x hx => by cases hx), by omega⟩
theorem hodmanlaw23_Client.sp (h : Hp G0 G L) {lid lo n : Nat} {xs : List Int} (p : PkOk G0 L lid lo n xs) {c : Cf} {A : Int} (hA : 0 ≤ A ∧ A ≤ 1000000) :
    ∃ (oid : Nat) (ops : List OpV) (G' : GH), CW hodmanlaw23_Client.id [.agg (cfC c), .c (.sl 1 lid lo n), .c (.int .i64 A)] G = some ([.c (.sl 6 oid 0 ops.length)], G') ∧ Hp G0 G' (rowE eOp oid ops :: L) ∧ (∀ o ∈ ops, OpCl o) ∧ (ops.length : Int) ≤ A := by
  obtain ⟨a, b, c, d, e, f, g, _⟩ := hodmanlaw23_Client.spP h p (c := c) hA
  exact ⟨a, b, c, d, e, f, g⟩
end Go.Proofs.D.S
/- The reference's give, of, Do. -/
set_option linter.unusedVariables false
set_option linter.unusedSimpArgs false
namespace Go.Proofs.D.S
open Go Go.RowKit
variable {G G0 : GH} {L : List (Nat × Obj)}
theorem hodmanref17_wrong.sp {m : Mod} {bi oi mi : Nat} {e : Int} : CW hodmanref17_wrong.id [.agg (modC bi oi mi m), .c (.int .i64 e)] G = some ([.agg (modC bi oi mi m), .agg (eAns (errA e))], G) := by
  rw [hodmanref17_wrong.cw]
  unfold hodmanref17_wrong.f
  rfl
theorem hodmanref17_give.fin (w : G.wf) {m : Mod} (ok : m.Ok) {bi oi mi : Nat} (s : Md G bi oi mi m) (o : OpV) {sz r1 r2 : Int} (hr : r2 = 0 → 1 ≤ r1 ∧ m.live + r1 ≤ m.c.M) {X : Mod × AnsV}
    (hX : X = if r2 = 0 then (if (placeM m m.bl r1 sz).2.2 = 0 then ((if o.k = 2 then { (placeM m m.bl r1 sz).1 with mem := zeroP (placeM m m.bl r1 sz).1.mem (placeM m m.bl r1 sz).2.1 r1 } else (placeM m m.bl r1 sz).1), (⟨0, (placeM m m.bl r1 sz).2.1, 0, 0, 0, 0, 0, 0⟩ : AnsV)) else (m, errA (placeM m m.bl r1 sz).2.2)) else (m, errA r2)) :
    ∃ bi' oi' mi' G', hodmanref17_give.J41 machW CW sz r1 r2 m.c.G m.c.N m.c.M m.c.L m.c.Pg m.c.P m.c.H m.c.Sd bi 0 m.bl.length m.live m.peak m.mark oi 0 m.on.length mi 0 m.mem.length o.k o.p o.s o.a o.n o.b 0 0 0 0 0 0 0 0 0 0 0 0 0 0 0 0 0 0 0 0 0 0 0 0 0 0 0 0 G =
      some ([.agg (modC bi' oi' mi' X.1), .agg (eAns X.2)], G') ∧ Hp G G' [] ∧ Md G' bi' oi' mi' X.1 ∧ Mv G G' bi oi mi bi' oi' mi' := by
  subst hX
  have f := ok.c.facts
  have hlive := ok.live
  have hlim := ok.lim
  have hlen := chSum_len ok.bl
  rw [hodmanref17_give.J41_eq]
  by_cases h : r2 = 0
  · rw [condN_neg h]
    simp only [if_pos h]
    obtain ⟨r1p, r1m⟩ := hr h
    obtain ⟨bi', oi', mi', G1, e1, h1, s1, v1⟩ := hodmanref17_place.sp w ok s (li := bi) (l := m.bl) (asked := sz) s.bl ok.bl (by omega) (n := r1) (by omega)
    rw [e1]
    simp only [q_bs, q_I, q_B, q_P, q_S, q_M, q_c, q_a, q_gz, q_gs, q_gk, q_ct, q_cf, q_nt, q_nf, q_xt, q_xf, q_tt, q_ff, q_tf, q_ft, q_at, q_af, List.length_cons, List.length_nil, if_true]
    by_cases hq : (placeM m m.bl r1 sz).2.2 = 0
    · rw [condN_neg hq]
      simp only [if_pos hq]
      obtain ⟨k1, k2, k3, k4⟩ := placeM_ok ok (asked := sz) r1p ok.bl (by rw [← ok.live]; exact r1m) hq
      have km : ((placeM m m.bl r1 sz).1.mem.length : Int) = m.c.H := k1.mem.trans (congrArg Cf.H k2)
      by_cases h2 : o.k = 2
      · rw [condD_pos h2]
        simp only [if_pos h2]
        obtain ⟨mi2, G2, e2, h2'⟩ := hodmanref8_Zero.sp h1.wf s1.mem k3 (show 0 ≤ r1 by omega) (by omega) (by omega)
        rw [e2]
        simp only [q_bs, q_I, q_B, q_P, q_S, q_M, q_c, q_a, q_gz, q_gs, q_gk, q_ct, q_cf, q_nt, q_nf, q_xt, q_xf, q_tt, q_ff, q_tf, q_ft, q_at, q_af]
        rw [hodmanref17_give.J37_eq]
        refine ⟨bi', oi', mi2, G2, ?_, h1.trans0 h2'.nil, ⟨s1.bl.keep h2', s1.on.keep h2', h2'.sl0⟩, ⟨v1.b.r h2', v1.o.r h2', h2'.nw0.l h1⟩⟩
        rw [← zeroP_len (placeM m m.bl r1 sz).1.mem (placeM m m.bl r1 sz).2.1 r1]
      · rw [condD_neg h2]
        simp only [if_neg h2]
        rw [hodmanref17_give.J37_eq]
        exact ⟨bi', oi', mi', G1, rfl, h1, s1, v1⟩
    · rw [condN_pos hq]
      simp only [if_neg hq]
      rw [hodmanref17_wrong.sp]
      simp only [q_bs, q_I, q_B, q_P, q_S, q_M, q_c, q_a, q_gz, q_gs, q_gk, q_ct, q_cf, q_nt, q_nf, q_xt, q_xf, q_tt, q_ff, q_tf, q_ft, q_at, q_af, List.length_cons, List.length_nil, if_true]
      exact ⟨bi, oi, mi, G1, rfl, h1, s.keep h1, .refl⟩
  · rw [condN_pos h, hodmanref17_wrong.sp]
    simp only [q_bs, q_I, q_B, q_P, q_S, q_M, q_c, q_a, q_gz, q_gs, q_gk, q_ct, q_cf, q_nt, q_nf, q_xt, q_xf, q_tt, q_ff, q_tf, q_ft, q_at, q_af, List.length_cons, List.length_nil, if_true, if_neg h]
    exact ⟨bi, oi, mi, G, rfl, Hp.refl w, s, .refl⟩
theorem hodmanref17_give.sp (w : G.wf) {m : Mod} (ok : m.Ok) {bi oi mi : Nat} (s : Md G bi oi mi m) {o : OpV} (hs : R64 o.s) (ha : R64 o.a) (hn : R64 o.n) :
    ∃ bi' oi' mi' G', CW hodmanref17_give.id [.agg (modC bi oi mi m), .agg (eOp o)] G = some ([.agg (modC bi' oi' mi' (giveM m o).1), .agg (eAns (giveM m o).2)], G') ∧ Hp G G' [] ∧ Md G' bi' oi' mi' (giveM m o).1 ∧ Mv G G' bi oi mi bi' oi' mi' := by
  have f := ok.c.facts
  have hlive := ok.live
  have hlim := ok.lim
  have hlen := chSum_len ok.bl
  obtain ⟨g, l, ex⟩ := ok.c.exs
  have rl : R64 m.live := by unfold R64; omega
  have pos : ∀ r : Int × Int, (r.2 ≠ 0 ∧ r.1 = 0) ∨ (r.2 = 0 ∧ m.live + r.1 ≤ m.c.M ∧ ∃ k : Nat, k ≤ l ∧ r.1 = ((2 ^ (g + k) : Nat) : Int)) → r.2 = 0 → 1 ≤ r.1 ∧ m.live + r.1 ≤ m.c.M := by
    rintro r (⟨h, _⟩ | ⟨_, h1, k, _, e⟩) h0
    · exact absurd h0 h
    · have := Nat.two_pow_pos (g + k); omega
  have mid : ∀ a : Int, R64 a → (o.k = 3 → a = o.a) → (o.k ≠ 3 → a = 1) → ∃ bi' oi' mi' G', hodmanref17_give.J43 machW CW a o.s m.c.G m.c.N m.c.M m.c.L m.c.Pg m.c.P m.c.H m.c.Sd bi 0 m.bl.length m.live m.peak m.mark oi 0 m.on.length mi 0 m.mem.length o.k o.p o.s o.a o.n o.b 0 0 0 0 0 0 0 0 0 0 0 0 0 0 0 0 0 0 0 0 0 0 0 0 0 0 0 0 G =
      some ([.agg (modC bi' oi' mi' (giveM m o).1), .agg (eAns (giveM m o).2)], G') ∧ Hp G G' [] ∧ Md G' bi' oi' mi' (giveM m o).1 ∧ Mv G G' bi oi mi bi' oi' mi' := by
    intro a ra a3 a1
    rw [hodmanref17_give.J43_eq, hodmanref1_New.sp ok.c ra rl]
    simp only [q_bs, q_I, q_B, q_P, q_S, q_M, q_c, q_a, q_gz, q_gs, q_gk, q_ct, q_cf, q_nt, q_nf, q_xt, q_xf, q_tt, q_ff, q_tf, q_ft, q_at, q_af]
    by_cases h2 : o.k = 2
    · rw [condD_pos h2, hodmanref1_Many.sp ok.c hn hs rl]
      simp only [q_bs, q_I, q_B, q_P, q_S, q_M, q_c, q_a, q_gz, q_gs, q_gk, q_ct, q_cf, q_nt, q_nf, q_xt, q_xf, q_tt, q_ff, q_tf, q_ft, q_at, q_af, i64w]
      refine hodmanref17_give.fin w ok s o (pos _ (charge_many ex _ _ _)) ?_
      unfold giveM
      simp only [if_pos h2]
    · rw [condD_neg h2]
      refine hodmanref17_give.fin w ok s o (pos _ (charge_new ex _ _ _)) ?_
      unfold giveM
      simp only [if_neg h2]
      by_cases h3 : o.k = 3
      · rw [a3 h3]; simp only [if_pos h3]
      · rw [a1 h3]; simp only [if_neg h3]
  rw [hodmanref17_give.cw]
  unfold hodmanref17_give.f
  by_cases h3 : o.k = 3
  · rw [condD_pos h3]; exact mid o.a ha (fun _ => rfl) (fun h => absurd h3 h)
  · rw [condD_neg h3]; exact mid 1 (by unfold R64; omega) (fun h => absurd h h3) (fun _ => rfl)
theorem hodmanref17_of.byte (w : G.wf) {m : Mod} (ok : m.Ok) {bi oi mi : Nat} (s : Md G bi oi mi m) (o : OpV) {A : Nat} (hA : A < m.bl.length) (h4 : o.k ≠ 4) (h5 : o.k ≠ 5) (h6 : o.k ≠ 6) {t : Bool} (ht : t = decide (o.n < 0 ∨ o.n ≥ m.bl[A].ch)) :
    ∃ bi' oi' mi' G', hodmanref17_of.J56 machW CW t m.c.G m.c.N m.c.M m.c.L m.c.Pg m.c.P m.c.H m.c.Sd bi 0 m.bl.length m.live m.peak m.mark oi 0 m.on.length mi 0 m.mem.length o.k o.p o.s o.a o.n o.b 0 0 0 0 0 0 0 0 0 0 0 0 0 0 0 0 0 0 0 0 0 0 0 0 0 0 0 0 m.bl[A].at_ m.bl[A].ch m.bl[A].asked G =
      some ([.agg (modC bi' oi' mi' (ofM m o A m.bl[A]).1), .agg (eAns (ofM m o A m.bl[A]).2)], G') ∧ Hp G G' [] ∧ Md G' bi' oi' mi' (ofM m o A m.bl[A]).1 ∧ Mv G G' bi oi mi bi' oi' mi' := by
  subst ht
  have f := ok.c.facts
  have hb := ok.bl _ (List.getElem_mem hA)
  have hmem := ok.mem
  have hm : (1000000001 : Nat) ≤ most := by unfold most; decide
  unfold ofM
  simp only [if_neg h4, if_neg h5, if_neg h6]
  rw [hodmanref17_of.J56_eq]
  by_cases ht : o.n < 0 ∨ o.n ≥ m.bl[A].ch
  · rw [condD_pos ht, hodmanref17_wrong.sp]
    simp only [q_bs, q_I, q_B, q_P, q_S, q_M, q_c, q_a, q_gz, q_gs, q_gk, q_ct, q_cf, q_nt, q_nf, q_xt, q_xf, q_tt, q_ff, q_tf, q_ft, q_at, q_af, List.length_cons, List.length_nil, if_true, if_pos ht]
    exact ⟨bi, oi, mi, G, rfl, Hp.refl w, s, .refl⟩
  · rw [condD_neg ht]
    simp only [if_neg ht]
    obtain ⟨x, hx⟩ : ∃ x : Nat, m.bl[A].at_ + o.n = x := ⟨(m.bl[A].at_ + o.n).toNat, (Int.toNat_of_nonneg (by omega)).symm⟩
    have hxl : x < m.mem.length := by omega
    simp only [hx, Int.toNat_natCast, i64w, wrap_id (a := (x : Int)) (by omega) (by omega)]
    by_cases h7 : o.k = 7
    · rw [condD_pos h7, guardD_of (by omega)]
      have r := s.mem.ld x 0 hxl (by omega)
      rw [Nat.add_zero] at r
      simp only [r, q_bs, q_I, q_B, q_P, q_S, q_M, q_c, q_a, q_gz, q_gs, q_gk, q_ct, q_cf, q_nt, q_nf, q_xt, q_xf, q_tt, q_ff, q_tf, q_ft, q_at, q_af, if_pos h7, getD_lt _ hxl]
      exact ⟨bi, oi, mi, G, rfl, Hp.refl w, s, .refl⟩
    · rw [condD_neg h7]
      simp only [if_neg h7]
      obtain ⟨id, G1, h1, k1⟩ := (Hp.refl w).copy (S := Res) s.mem (m := m.mem.length) rfl (by omega)
      rw [k1]
      dsimp only
      rw [guardD_of (by omega)]
      obtain ⟨G2, h2, e2⟩ := h1.put (i := x) hxl o.b (off := 0 + x * 1) (by omega) rfl
      rw [e2, q_bs, Nat.zero_add]
      refine ⟨bi, oi, id, G2, ?_, h2.nil, ⟨s.bl.keep h2, s.on.keep h2, h2.sl0⟩, ⟨.refl, .refl, h2.nw0⟩⟩
      have hls : (m.mem.set x o.b).length = m.mem.length := List.length_set
      rw [← hls]
      rfl
theorem le_of3 {a c N : Nat} {ch H : Int} (h1 : (N : Int) = H) (h2 : (c : Int) ≤ ch) (h3 : (a : Int) + ch ≤ H) : a + c ≤ N := by omega
theorem le_of2 {N : Nat} {H : Int} (h1 : (N : Int) = H) (h : H ≤ 65536) : N ≤ 65536 := by omega
theorem wrap_nat {a c N : Nat} (h : a + c ≤ N) (hn : N ≤ 65536) : wrap64 ((a : Int) + (c : Int)) = ((a + c : Nat) : Int) := by rw [wrap_id (by omega) (by omega)]; omega
/-- A row put together out of three. -/
theorem splice3 {S : Type} {qi mi : Nat} {q m : List Int} (w : G.wf) (sq : Sl G eU8 qi 0 q) (sm : Sl G eU8 mi 0 m) {p a c : Nat} (c1 : a + c ≤ m.length) (c2 : p + c ≤ q.length) (hml : m.length ≤ 65536) (hql : q.length ≤ 65536) :
    ∃ id G', Hp G G' [rowE eU8 id (q.take p ++ (m.drop a).take c ++ q.drop (p + c))] ∧ (0 + (p - Int.toNat 0) + c) + (q.length - (p + c)) = (q.take p ++ (m.drop a).take c ++ q.drop (p + c)).length ∧ ∀ (K : Nat × Nat × GH → Option S),
      guardK (decide ((0 : Int) ≤ 0 ∧ 0 ≤ (p : Int) ∧ (p : Int) ≤ (q.length : Int))) ((if p - Int.toNat 0 = 0 then some [] else (G.alloc (.row [] false)).lds qi (0 + Int.toNat 0 * 1) ((p - Int.toNat 0) * 1)).bind fun n1 =>
        guardK (decide (0 + (p - Int.toNat 0) ≤ most)) (((G.alloc (.row [] false)).app G.next 0 0 1 (p - Int.toNat 0) n1).bind fun r1 =>
        guardK (decide ((0 : Int) ≤ (a : Int) ∧ (a : Int) ≤ ((a + c : Nat) : Int) ∧ ((a + c : Nat) : Int) ≤ (m.length : Int))) ((if c = 0 then some [] else r1.2.2.lds mi (0 + a * 1) (c * 1)).bind fun n2 =>
        guardK (decide (0 + (p - Int.toNat 0) + c ≤ most)) ((r1.2.2.app r1.1 r1.2.1 (0 + (p - Int.toNat 0)) 1 c n2).bind fun r2 =>
        guardK (decide ((0 : Int) ≤ ((p + c : Nat) : Int) ∧ ((p + c : Nat) : Int) ≤ (q.length : Int) ∧ (q.length : Int) ≤ (q.length : Int))) ((if q.length - (p + c) = 0 then some [] else r2.2.2.lds qi (0 + (p + c) * 1) ((q.length - (p + c)) * 1)).bind fun n3 =>
        guardK (decide (0 + (p - Int.toNat 0) + c + (q.length - (p + c)) ≤ most)) ((r2.2.2.app r2.1 r2.2.1 (0 + (p - Int.toNat 0) + c) 1 (q.length - (p + c)) n3).bind K)))))) = K (id, 0, G') := by
  have hm : (1000000001 : Nat) ≤ most := by unfold most; decide
  have u1 : Sl G eU8 qi (0 + Int.toNat 0 * 1) (q.take p) := sq.sub 0 p (by omega)
  have l1 : (q.take p).length = p := by rw [List.length_take]; omega
  have l2 : ((m.drop a).take c).length = c := by rw [List.length_take, List.length_drop]; omega
  have l3 : (q.drop (p + c)).length = q.length - (p + c) := List.length_drop
  obtain ⟨w1, G4, h4, k4⟩ := (Hp.refl w).copy (S := S) u1 (m := p - Int.toNat 0) (by rw [l1]; rfl) (by omega)
  have u2 : Sl G4 eU8 mi (0 + a * 1) ((m.drop a).take c) := (sm.keep h4).sub a c c1
  obtain ⟨w2, G5, h5, k5⟩ := h4.app (S := S) u2 (n := 0 + (p - Int.toNat 0)) (m := c) (by rw [l1, Nat.zero_add]; rfl) l2.symm (by omega)
  have u3 : Sl G5 eU8 qi (0 + (p + c) * 1) (q.drop (p + c)) := by
    have := (sq.keep h5).sub (p + c) (q.length - (p + c)) (by omega)
    rwa [List.take_of_length_le (by omega)] at this
  obtain ⟨w3, G6, h6, k6⟩ := h5.app (S := S) u3 (n := 0 + (p - Int.toNat 0) + c) (m := q.length - (p + c)) (by rw [List.length_append, l1, l2, Nat.zero_add]; rfl) l3.symm (by rw [List.length_append]; omega)
  refine ⟨w3, G6, h6, by rw [List.length_append, List.length_append, l1, l2, l3, Nat.zero_add]; rfl, fun K => ?_⟩
  rw [guardD_of (by omega), k4]
  dsimp only
  rw [guardD_of (by omega), k5]
  dsimp only
  rw [guardD_of (by omega), k6]
theorem hodmanref17_of.sp (w : G.wf) {m : Mod} (ok : m.Ok) {bi oi mi : Nat} (s : Md G bi oi mi m) (o : OpV) {A : Nat} (hA : A < m.bl.length) :
    ∃ bi' oi' mi' G', CW hodmanref17_of.id [.agg (modC bi oi mi m), .agg (eOp o), .c (.int .i64 (A : Int))] G = some ([.agg (modC bi' oi' mi' (ofM m o A m.bl[A]).1), .agg (eAns (ofM m o A m.bl[A]).2)], G') ∧ Hp G G' [] ∧ Md G' bi' oi' mi' (ofM m o A m.bl[A]).1 ∧ Mv G G' bi oi mi bi' oi' mi' := by
  have f := ok.c.facts
  have hb := ok.bl _ (List.getElem_mem hA)
  have hmem := ok.mem
  have hlen := chSum_len ok.bl
  have hlive := ok.live
  have hlim := ok.lim
  have hin := ok.bl.rest A
  have hrest := chSum_rest hA
  have hrl := chSum_len hin
  have hm : (1000000001 : Nat) ≤ most := by unfold most; decide
  have zA : decide (0 ≤ (A : Int) ∧ (A : Int) < ((m.bl.length : Nat) : Int)) = true := decide_eq_true (by omega)
  have tA : Int.toNat ((A : Int) + 1) = A + 1 := by omega
  rw [hodmanref17_of.cw]
  unfold hodmanref17_of.f
  simp only [zA, Int.toNat_natCast, s.bl.ld A 0 hA (by omega), s.bl.ld A 1 hA (by omega), s.bl.ld A 2 hA (by omega), q_bs, q_I, q_B, q_P, q_S, q_M, q_c, q_a, q_gz, q_gs, q_gk, q_ct, q_cf, q_nt, q_nf, q_xt, q_xf, q_tt, q_ff, q_tf, q_ft, q_at, q_af, i64w, wrap_id (a := (A : Int) + 1) (by omega) (by omega), tA]
  have st : (m.bl.take A).length = A := by rw [List.length_take]; omega
  have sd : (m.bl.drop (A + 1)).length = m.bl.length - (A + 1) := List.length_drop
  have s1 : Sl G eBlk bi (0 + Int.toNat 0 * 3) (m.bl.take A) := s.bl.sub 0 A (by omega)
  obtain ⟨i1, G1, h1, k1⟩ := (Hp.refl w).copy (S := Res) s1 (m := A - Int.toNat 0) (by rw [st]; rfl) (by omega)
  rw [guardD_of (by omega), k1]
  dsimp only
  have s2 : Sl G1 eBlk bi (0 + (A + 1) * 3) (m.bl.drop (A + 1)) := by
    have := (s.bl.keep h1).sub (A + 1) (m.bl.length - (A + 1)) (by omega)
    rwa [List.take_of_length_le (by omega)] at this
  obtain ⟨i2, G2, h2, k2⟩ := h1.app (S := Res) s2 (n := 0 + (A - Int.toNat 0)) (m := m.bl.length - (A + 1)) (by rw [st, Nat.zero_add]; rfl) sd.symm (by omega)
  rw [guardD_of (by omega), k2]
  dsimp only
  have rl : (0 + (A - Int.toNat 0)) + (m.bl.length - (A + 1)) = (m.bl.take A ++ m.bl.drop (A + 1)).length := by rw [List.length_append, st, sd, Nat.zero_add]; rfl
  rw [rl]
  have srest := h2.sl0
  have s2 := s.keep h2
  by_cases h4 : o.k = 4
  · rw [condD_pos h4]
    obtain ⟨g, l, ex⟩ := ok.c.exs
    rw [hodmanref1_Anew.sp ok.c (by omega)]
    simp only [q_bs, q_I, q_B, q_P, q_S, q_M, q_c, q_a, q_gz, q_gs, q_gk, q_ct, q_cf, q_nt, q_nf, q_xt, q_xf, q_tt, q_ff, q_tf, q_ft, q_at, q_af]
    conv => { arg 1; ext bi'; arg 1; ext oi'; arg 1; ext mi'; arg 1; ext G'; unfold ofM }
    simp only [if_pos h4]
    rcases charge_new ex (m.live - m.bl[A].ch) o.s 1 with ⟨hr, _⟩ | ⟨hr, hM, k, hk, he⟩
    · rw [condN_pos hr, hodmanref17_wrong.sp]
      simp only [q_bs, q_I, q_B, q_P, q_S, q_M, q_c, q_a, q_gz, q_gs, q_gk, q_ct, q_cf, q_nt, q_nf, q_xt, q_xf, q_tt, q_ff, q_tf, q_ft, q_at, q_af, List.length_cons, List.length_nil, if_true, if_neg hr]
      exact ⟨bi, oi, mi, G2, rfl, h2.nil, s2, .refl⟩
    · rw [condN_neg hr]
      simp only [if_pos hr]
      have z := Nat.two_pow_pos (g + k)
      generalize (newS m.c.G m.c.N m.c.M (m.live - m.bl[A].ch) o.s 1).1 = r at *
      obtain ⟨bi', oi', mi', G3, e3, h3, s3, v3⟩ := hodmanref17_place.sp h2.wf ok s2 (asked := o.s) srest hin (by omega) (n := r) (by omega)
      rw [e3]
      simp only [q_bs, q_I, q_B, q_P, q_S, q_M, q_c, q_a, q_gz, q_gs, q_gk, q_ct, q_cf, q_nt, q_nf, q_xt, q_xf, q_tt, q_ff, q_tf, q_ft, q_at, q_af, List.length_cons, List.length_nil, if_true]
      by_cases hq : (placeM m (m.bl.take A ++ m.bl.drop (A + 1)) r o.s).2.2 = 0
      · rw [condN_neg hq]
        simp only [if_pos hq]
        obtain ⟨y1, y2, y3, y4⟩ := placeM_ok ok (asked := o.s) (show 1 ≤ r by omega) hin (by omega) hq
        have ym : ((placeM m (m.bl.take A ++ m.bl.drop (A + 1)) r o.s).1.mem.length : Int) = m.c.H := y1.mem.trans (congrArg Cf.H y2)
        generalize placeM m (m.bl.take A ++ m.bl.drop (A + 1)) r o.s = q at *
        obtain ⟨p, hp⟩ : ∃ p : Nat, q.2.1 = p := ⟨q.2.1.toNat, (Int.toNat_of_nonneg y3).symm⟩
        obtain ⟨a, ha⟩ : ∃ a : Nat, m.bl[A].at_ = a := ⟨m.bl[A].at_.toNat, (Int.toNat_of_nonneg hb.1).symm⟩
        obtain ⟨c, hc⟩ : ∃ c : Nat, min r m.bl[A].ch = c := ⟨(min r m.bl[A].ch).toNat, (Int.toNat_of_nonneg (by omega)).symm⟩
        simp only [mn2_eq, hp, ha, hc, Int.toNat_natCast]
        have cr : (c : Int) ≤ r := by rw [← hc]; exact Int.min_le_left _ _
        have cc : (c : Int) ≤ m.bl[A].ch := by rw [← hc]; exact Int.min_le_right _ _
        have hH : m.c.H ≤ 65536 := f.2.2.2.2.2.1.2
        rw [hp] at y4
        have hb3 := hb.2.2
        rw [ha] at hb3
        have c1 : a + c ≤ m.mem.length := le_of3 hmem cc hb3
        have c2 : p + c ≤ q.1.mem.length := le_of3 ym cr y4
        have hml : m.mem.length ≤ 65536 := le_of2 hmem hH
        have hql : q.1.mem.length ≤ 65536 := le_of2 ym hH
        have wa : wrap64 ((a : Int) + (c : Int)) = ((a + c : Nat) : Int) := wrap_nat c1 hml
        have wp : wrap64 ((p : Int) + (c : Int)) = ((p + c : Nat) : Int) := wrap_nat c2 hql
        simp only [wa, wp, Int.toNat_natCast, Nat.add_sub_cancel_left]
        obtain ⟨w3, G6, h6', l6, k6⟩ := splice3 (S := Res) h3.wf s3.mem (s2.mem.keep h3) c1 c2 hml hql
        rw [k6]
        dsimp only
        rw [l6]
        exact ⟨bi', oi', w3, G6, rfl, (h2.nil.trans0 h3).trans0 h6'.nil, ⟨s3.bl.keep h6', s3.on.keep h6', h6'.sl0⟩, ⟨(v3.b.l h2).r h6', (v3.o.l h2).r h6', h6'.nw0.l (h2.nil.trans0 h3)⟩⟩
      · rw [condN_pos hq]
        simp only [if_neg hq]
        rw [hodmanref17_wrong.sp]
        simp only [q_bs, q_I, q_B, q_P, q_S, q_M, q_c, q_a, q_gz, q_gs, q_gk, q_ct, q_cf, q_nt, q_nf, q_xt, q_xf, q_tt, q_ff, q_tf, q_ft, q_at, q_af, List.length_cons, List.length_nil, if_true]
        exact ⟨bi, oi, mi, G3, rfl, h2.nil.trans0 h3, s2.keep h3, .refl⟩
  · rw [condD_neg h4]
    by_cases h5 : o.k = 5
    · rw [condD_pos h5, wrap_id (by omega) (by omega)]
      unfold ofM
      simp only [if_neg h4, if_pos h5]
      exact ⟨i2, oi, mi, G2, rfl, h2.nil, ⟨srest, s2.on, s2.mem⟩, ⟨h2.nw0, .refl, .refl⟩⟩
    · rw [condD_neg h5]
      by_cases h6 : o.k = 6
      · rw [condD_pos h6]
        unfold ofM
        simp only [if_neg h4, if_neg h5, if_pos h6]
        exact ⟨bi, oi, mi, G2, rfl, h2.nil, s2, .refl⟩
      · rw [condD_neg h6]
        have fin2 : ∀ t : Bool, t = decide (o.n < 0 ∨ o.n ≥ m.bl[A].ch) → ∃ bi' oi' mi' G', hodmanref17_of.J56 machW CW t m.c.G m.c.N m.c.M m.c.L m.c.Pg m.c.P m.c.H m.c.Sd bi 0 m.bl.length m.live m.peak m.mark oi 0 m.on.length mi 0 m.mem.length o.k o.p o.s o.a o.n o.b 0 0 0 0 0 0 0 0 0 0 0 0 0 0 0 0 0 0 0 0 0 0 0 0 0 0 0 0 m.bl[A].at_ m.bl[A].ch m.bl[A].asked G2 =
            some ([.agg (modC bi' oi' mi' (ofM m o A m.bl[A]).1), .agg (eAns (ofM m o A m.bl[A]).2)], G') ∧ Hp G G' [] ∧ Md G' bi' oi' mi' (ofM m o A m.bl[A]).1 ∧ Mv G G' bi oi mi bi' oi' mi' := by
          intro t ht
          obtain ⟨a, b, c, G3, e3, h3, s3, v3⟩ := hodmanref17_of.byte h2.wf ok s2 o hA h4 h5 h6 ht
          exact ⟨a, b, c, G3, e3, h2.nil.trans0 h3, s3, v3.l h2⟩
        by_cases hn : o.n < 0
        · rw [condD_pos hn]; exact fin2 true (decide_eq_true (.inl hn)).symm
        · rw [condD_neg hn]; exact fin2 _ (by simp only [hn, false_or])
theorem hodmanref17_Do.spV (w : G.wf) {m : Mod} (ok : m.Ok) {bi oi mi : Nat} (s : Md G bi oi mi m) {o : OpV} (hs : R64 o.s) (ha : R64 o.a) (hn : R64 o.n) :
    ∃ bi' oi' mi' G', CW hodmanref17_Do.id [.agg (modC bi oi mi m), .agg (eOp o)] G = some ([.agg (modC bi' oi' mi' (doM m o).1), .agg (eAns (doM m o).2)], G') ∧ Hp G G' [] ∧ Md G' bi' oi' mi' (doM m o).1 ∧ Mv G G' bi oi mi bi' oi' mi' := by
  have f := ok.c.facts
  have hlive := ok.live
  have hlim := ok.lim
  have hlen := chSum_len ok.bl
  have hon : m.c.H / m.c.Pg = ((m.on.length : Nat) : Int) := by rw [← ok.on, Int.mul_ediv_cancel _ (by omega)]
  have q1 := Int.ediv_le_self m.c.Pg (show 0 ≤ m.c.H by omega)
  have lok := ok.bl.ok (by omega)
  have mid : ∀ t : Bool, t = decide (o.k = 1 ∨ o.k = 2 ∨ o.k = 3) → ∃ bi' oi' mi' G', hodmanref17_Do.J63 machW CW o.k t m.c.G m.c.N m.c.M m.c.L m.c.Pg m.c.P m.c.H m.c.Sd bi 0 m.bl.length m.live m.peak m.mark oi 0 m.on.length mi 0 m.mem.length o.k o.p o.s o.a o.n o.b 0 0 0 0 0 0 0 0 0 0 0 0 0 0 0 0 0 0 0 0 0 0 0 0 0 0 0 0 G =
      some ([.agg (modC bi' oi' mi' (doM m o).1), .agg (eAns (doM m o).2)], G') ∧ Hp G G' [] ∧ Md G' bi' oi' mi' (doM m o).1 ∧ Mv G G' bi oi mi bi' oi' mi' := by
    intro t ht
    subst ht
    rw [hodmanref17_Do.J63_eq]
    unfold doM
    by_cases h1 : o.k = 1 ∨ o.k = 2 ∨ o.k = 3
    · rw [condD_pos h1]
      simp only [if_pos h1]
      obtain ⟨a, b, c, G1, e1, k1, s1, v1⟩ := hodmanref17_give.sp w ok s hs ha hn
      rw [e1]
      simp only [q_bs, q_I, q_B, q_P, q_S, q_M, q_c, q_a, q_gz, q_gs, q_gk, q_ct, q_cf, q_nt, q_nf, q_xt, q_xf, q_tt, q_ff, q_tf, q_ft, q_at, q_af, List.length_cons, List.length_nil, if_true]
      exact ⟨a, b, c, G1, rfl, k1, s1, v1⟩
    · rw [condD_neg h1]
      simp only [if_neg h1]
      by_cases h9 : o.k = 9
      · rw [condD_pos h9]
        simp only [if_pos h9]
        obtain ⟨ti, G1, e1, k1⟩ := hodmanref8_Met.sp w (show 1 ≤ m.c.Pg by omega) (show 0 ≤ m.c.H ∧ m.c.H ≤ 65536 by omega) hon s.bl lok (by omega)
        have mlen : (metP m.c.Pg m.on.length m.bl).length = m.on.length := by unfold metP; rw [tab_len]
        rw [e1]
        simp only [q_bs, q_I, q_B, q_P, q_S, q_M, q_c, q_a, q_gz, q_gs, q_gk, q_ct, q_cf, q_nt, q_nf, q_xt, q_xf, q_tt, q_ff, q_tf, q_ft, q_at, q_af]
        obtain ⟨ui, G2, e2, k2⟩ := hodmanref8_Trim.sp k1.wf (s.on.keep k1) k1.sl0 mlen.symm (by omega)
        rw [mlen] at e2
        rw [e2]
        simp only [q_bs, q_I, q_B, q_P, q_S, q_M, q_c, q_a, q_gz, q_gs, q_gk, q_ct, q_cf, q_nt, q_nf, q_xt, q_xf, q_tt, q_ff, q_tf, q_ft, q_at, q_af]
        refine ⟨bi, ui, mi, G2, ?_, k1.nil.trans0 k2.nil, ⟨(s.bl.keep k1).keep k2, k2.sl0, (s.mem.keep k1).keep k2⟩, ⟨.refl, k2.nw0.l k1, .refl⟩⟩
        have tl : (trimP m.on (metP m.c.Pg m.on.length m.bl)).length = m.on.length := by unfold trimP; rw [tab_len]
        dsimp only [modC]
        rw [tl]
      · rw [condD_neg h9]
        simp only [if_neg h9]
        by_cases h10 : o.k = 10
        · rw [condD_pos h10]
          simp only [if_pos h10]
          rw [hodmanref8_Count.sp s.on (by omega)]
          simp only [q_bs, q_I, q_B, q_P, q_S, q_M, q_c, q_a, q_gz, q_gs, q_gk, q_ct, q_cf, q_nt, q_nf, q_xt, q_xf, q_tt, q_ff, q_tf, q_ft, q_at, q_af]
          exact ⟨bi, oi, mi, G, rfl, Hp.refl w, s, .refl⟩
        · rw [condD_neg h10]
          simp only [if_neg h10]
          have last : ∀ t : Bool, t = decide (o.k = 4 ∨ o.k = 5 ∨ o.k = 6 ∨ o.k = 7 ∨ o.k = 8) → ∃ bi' oi' mi' G', hodmanref17_Do.J57 machW CW t m.c.G m.c.N m.c.M m.c.L m.c.Pg m.c.P m.c.H m.c.Sd bi 0 m.bl.length m.live m.peak m.mark oi 0 m.on.length mi 0 m.mem.length o.k o.p o.s o.a o.n o.b 0 0 0 0 0 0 0 0 0 0 0 0 0 0 0 0 0 0 0 0 0 0 0 0 0 0 0 0 G =
              some ([.agg (modC bi' oi' mi' (doM m o).1), .agg (eAns (doM m o).2)], G') ∧ Hp G G' [] ∧ Md G' bi' oi' mi' (doM m o).1 ∧ Mv G G' bi oi mi bi' oi' mi' := by
            intro t ht
            subst ht
            unfold doM
            simp only [if_neg h1, if_neg h9, if_neg h10]
            rw [hodmanref17_Do.J57_eq]
            by_cases h4 : o.k = 4 ∨ o.k = 5 ∨ o.k = 6 ∨ o.k = 7 ∨ o.k = 8
            · rw [condD_pos h4, hodmanref17_Find.sp s.bl o.p (by omega)]
              simp only [q_bs, q_I, q_B, q_P, q_S, q_M, q_c, q_a, q_gz, q_gs, q_gk, q_ct, q_cf, q_nt, q_nf, q_xt, q_xf, q_tt, q_ff, q_tf, q_ft, q_at, q_af, if_pos h4]
              cases hf : findB m.bl o.p with
              | none =>
                dsimp only
                rw [condD_pos (by omega), hodmanref17_wrong.sp]
                simp only [q_bs, q_I, q_B, q_P, q_S, q_M, q_c, q_a, q_gz, q_gs, q_gk, q_ct, q_cf, q_nt, q_nf, q_xt, q_xf, q_tt, q_ff, q_tf, q_ft, q_at, q_af, List.length_cons, List.length_nil, if_true]
                exact ⟨bi, oi, mi, G, rfl, Hp.refl w, s, .refl⟩
              | some A =>
                obtain ⟨hA, _⟩ := findB_lt hf
                dsimp only
                rw [condD_neg (by omega), getD_lt _ hA]
                obtain ⟨a, b, c, G1, e1, k1, s1, v1⟩ := hodmanref17_of.sp w ok s o hA
                rw [e1]
                simp only [q_bs, q_I, q_B, q_P, q_S, q_M, q_c, q_a, q_gz, q_gs, q_gk, q_ct, q_cf, q_nt, q_nf, q_xt, q_xf, q_tt, q_ff, q_tf, q_ft, q_at, q_af, List.length_cons, List.length_nil, if_true]
                exact ⟨a, b, c, G1, rfl, k1, s1, v1⟩
            · rw [condD_neg h4, hodmanref17_wrong.sp]
              simp only [q_bs, q_I, q_B, q_P, q_S, q_M, q_c, q_a, q_gz, q_gs, q_gk, q_ct, q_cf, q_nt, q_nf, q_xt, q_xf, q_tt, q_ff, q_tf, q_ft, q_at, q_af, List.length_cons, List.length_nil, if_true, if_neg h4]
              exact ⟨bi, oi, mi, G, rfl, Hp.refl w, s, .refl⟩
          unfold doM at last
          simp only [if_neg h1, if_neg h9, if_neg h10] at last
          by_cases h4 : o.k = 4
          · rw [condD_pos h4]; exact last _ (by rw [decide_eq_true h4, decide_eq_true (.inl h4)])
          rw [condD_neg h4]
          by_cases h5 : o.k = 5
          · rw [condD_pos h5]; exact last _ (by rw [decide_eq_true h5, decide_eq_true (.inr (.inl h5))])
          rw [condD_neg h5]
          by_cases h6 : o.k = 6
          · rw [condD_pos h6]; exact last _ (by rw [decide_eq_true h6, decide_eq_true (.inr (.inr (.inl h6)))])
          rw [condD_neg h6]
          by_cases h7 : o.k = 7
          · rw [condD_pos h7]; exact last _ (by rw [decide_eq_true h7, decide_eq_true (.inr (.inr (.inr (.inl h7))))])
          rw [condD_neg h7]
          exact last _ (by simp only [h4, h5, h6, h7, false_or])
  rw [hodmanref17_Do.cw]
  unfold hodmanref17_Do.f
  by_cases h1 : o.k = 1
  · rw [condD_pos h1]; exact mid _ (by rw [decide_eq_true h1, decide_eq_true (.inl h1)])
  rw [condD_neg h1]
  by_cases h3 : o.k = 3
  · rw [condD_pos h3]; exact mid _ (by rw [decide_eq_true h3, decide_eq_true (.inr (.inr h3))])
  rw [condD_neg h3]
  exact mid _ (by simp only [h1, h3, false_or, or_false])
theorem hodmanref17_Do.sp (w : G.wf) {m : Mod} (ok : m.Ok) {bi oi mi : Nat} (s : Md G bi oi mi m) {o : OpV} (hs : R64 o.s) (ha : R64 o.a) (hn : R64 o.n) :
    ∃ bi' oi' mi' G', CW hodmanref17_Do.id [.agg (modC bi oi mi m), .agg (eOp o)] G = some ([.agg (modC bi' oi' mi' (doM m o).1), .agg (eAns (doM m o).2)], G') ∧ Hp G G' [] ∧ Md G' bi' oi' mi' (doM m o).1 := by
  obtain ⟨a, b, c, G1, e1, h1, s1, _⟩ := hodmanref17_Do.spV w ok s hs ha hn
  exact ⟨a, b, c, G1, e1, h1, s1⟩
/-- The model that begins. -/
def newM (c : Cf) : Mod := ⟨c, [], 0, 0, 0, tab (c.H / c.Pg).toNat fun _ => false, tab c.H.toNat fun _ => 0⟩
theorem newM_ok {c : Cf} (ok : c.Ok) : (newM c).Ok := by
  have f := ok.facts
  obtain ⟨np, hnp⟩ := ok.pages
  have e : c.H / c.Pg = np := by rw [hnp, Int.mul_ediv_cancel _ (by omega)]
  refine ⟨ok, (fun b hb => (by cases hb)), rfl, (by show (0 : Int) ≤ c.M; omega), (by show (0 : Int) ≤ 0 ∧ (0 : Int) ≤ 65536; omega), (by show (0 : Int) ≤ 0 ∧ (0 : Int) ≤ 65536; omega), ?_, ?_⟩
  · show ((tab (c.H / c.Pg).toNat fun _ => false).length : Int) * c.Pg = c.H
    rw [tab_len, e, Int.toNat_natCast, hnp]
  · show ((tab c.H.toNat fun _ => (0 : Int)).length : Int) = c.H
    rw [tab_len]; omega
theorem hodmanref17_New.spV (w : G.wf) {r : Rw} {c : Cf} (hr : ofC r = (c, 0)) (ok : c.Ok) :
    ∃ oi mi G', CW hodmanref17_New.id [.agg (rwC r)] G = some ([.agg (modC 0 oi mi (newM c)), .c (.int .i64 0)], G') ∧ Hp G G' [] ∧ Md G' 0 oi mi (newM c) ∧ Nw G G' 0 oi ∧ Nw G G' 0 mi := by
  have f := ok.facts
  have hm : (1000000001 : Nat) ≤ most := by unfold most; decide
  obtain ⟨G1, e1, h1⟩ := hodmanref1_Of.sp r w
  rw [hr] at e1
  have q0 := Int.ediv_nonneg (show 0 ≤ c.H by omega) (show 0 ≤ c.Pg by omega)
  have q1 := Int.ediv_le_self c.Pg (show 0 ≤ c.H by omega)
  rw [hodmanref17_New.cw]
  unfold hodmanref17_New.f
  rw [e1]
  simp only [q_bs, q_I, q_B, q_P, q_S, q_M, q_c, q_a, q_gz, q_gs, q_gk, q_ct, q_cf, q_nt, q_nf, q_xt, q_xf, q_tt, q_ff, q_tf, q_ft, q_at, q_af, List.length_cons, List.length_nil, if_true, decide_true]
  rw [binD_quo (by omega), Int.tdiv_eq_ediv_of_nonneg (by omega), i64w, wrap_id (by omega) (by omega), q_bs, guardD_of (by omega)]
  have h2 := h1.alloc (.row (reps (c.H / c.Pg).toNat [.bool false]) false)
  rw [reps_tab (e := eB) (c.H / c.Pg).toNat false] at h2 ⊢
  generalize G1.next = oi at h2 ⊢
  generalize G1.alloc (.row (cells eB (tab (c.H / c.Pg).toNat fun _ => false)) false) = G2 at h2 ⊢
  rw [guardD_of (by omega)]
  have h3 := h2.alloc (.row (reps c.H.toNat [.int .u8 0]) false)
  rw [reps_tab (e := eU8) c.H.toNat (0 : Int)] at h3 ⊢
  generalize G2.next = mi at h3 ⊢
  generalize G2.alloc (.row (cells eU8 (tab c.H.toNat fun _ => (0 : Int))) false) = G3 at h3 ⊢
  refine ⟨oi, mi, G3, ?_, h3.nil, ⟨Sl.nil, h3.sl (e := eB) (id := oi) (xs := tab (c.H / c.Pg).toNat fun _ => false) (by simp), h3.sl0⟩, h3.tl.nw0, h3.nw0⟩
  show _ = some ([V1.agg [_, _, _, _, _, _, _, _, _, _, _, _, .sl 1 oi 0 (tab (c.H / c.Pg).toNat fun _ => false).length, .sl 1 mi 0 (tab c.H.toNat fun _ => (0 : Int)).length], _], _)
  rw [tab_len, tab_len]
  rfl
theorem hodmanref17_New.sp (w : G.wf) {r : Rw} {c : Cf} (hr : ofC r = (c, 0)) (ok : c.Ok) :
    ∃ oi mi G', CW hodmanref17_New.id [.agg (rwC r)] G = some ([.agg (modC 0 oi mi (newM c)), .c (.int .i64 0)], G') ∧ Hp G G' [] ∧ Md G' 0 oi mi (newM c) := by
  obtain ⟨a, b, G1, e1, h1, s1, _⟩ := hodmanref17_New.spV w hr ok
  exact ⟨a, b, G1, e1, h1, s1⟩
end Go.Proofs.D.S
/- The reference, call by call. -/
set_option linter.unusedVariables false
set_option linter.unusedSimpArgs false
namespace Go.Proofs.D.S
open Go Go.RowKit
variable {G G0 : GH} {L : List (Nat × Obj)}
/-- The model's rows apart from some that are held. -/
structure MdA (G : GH) (xs : List Nat) (bi oi mi : Nat) : Prop where
  b : Ap G xs bi
  o : Ap G xs oi
  m : Ap G xs mi
theorem MdA.mv {G1 : GH} {R : List (Nat × Obj)} {xs : List Nat} {bi oi mi bi' oi' mi' : Nat} (a : MdA G xs bi oi mi) (h : Mv G G1 bi oi mi bi' oi' mi') (k : Hp G G1 R) (hx : Ids G xs) : MdA G1 xs bi' oi' mi' := ⟨a.b.nw h.b k hx, a.o.nw h.o k hx, a.m.nw h.m k hx⟩
theorem MdA.fo {G1 : GH} {x : Nat} {xs xs' : List Nat} {bi oi mi : Nat} (a : MdA G xs bi oi mi) (f : Fo x G G1) (h : ∀ y ∈ xs', y ∈ xs ∨ G.next ≤ y) : MdA G1 xs' bi oi mi := ⟨a.b.fo f h, a.o.fo f h, a.m.fo f h⟩
theorem MdA.mono {G1 : GH} {R : List (Nat × Obj)} {xs : List Nat} {bi oi mi : Nat} (a : MdA G xs bi oi mi) (k : Hp G G1 R) : MdA G1 xs bi oi mi := ⟨a.b.mono k, a.o.mono k, a.m.mono k⟩
theorem Md.fo {G1 : GH} {x : Nat} {xs : List Nat} {bi oi mi : Nat} {m : Mod} (s : Md G bi oi mi m) (f : Fo x G G1) (w : G.wf) (hx : x ∈ xs) (a : MdA G xs bi oi mi) : Md G1 bi oi mi m := ⟨f.sl w s.bl hx a.b, f.sl w s.on hx a.o, f.sl w s.mem hx a.m⟩
def allM : Mod → List OpV → Mod × List AnsV
  | m, [] => (m, [])
  | m, o :: l => ((allM (doM m o).1 l).1, (doM m o).2 :: (allM (doM m o).1 l).2)
theorem allM_ok {m : Mod} (ok : m.Ok) : ∀ l : List OpV, (allM m l).1.Ok ∧ (allM m l).1.c = m.c
  | [] => ⟨ok, rfl⟩
  | o :: l => by
    obtain ⟨a, b⟩ := doM_ok ok o
    obtain ⟨c, d⟩ := allM_ok a l
    exact ⟨c, d.trans b⟩
theorem allM_len (m : Mod) : ∀ l : List OpV, (allM m l).2.length = l.length
  | [] => rfl
  | o :: l => by show (allM (doM m o).1 l).2.length + 1 = _; rw [allM_len _ l]; rfl
theorem allM_snoc (m : Mod) (o : OpV) : ∀ l : List OpV, allM m (l ++ [o]) = ((doM (allM m l).1 o).1, (allM m l).2 ++ [(doM (allM m l).1 o).2])
  | [] => rfl
  | x :: l => by simp only [List.cons_append, allM, allM_snoc (doM m x).1 o l]
/-- A call's numbers are numbers. -/
def OpIn (o : OpV) : Prop := R64 o.k ∧ R64 o.p ∧ R64 o.s ∧ R64 o.a ∧ R64 o.n ∧ 0 ≤ o.b ∧ o.b ≤ 255
theorem hodmanref17_All.sp (w : G.wf) {m : Mod} (ok : m.Ok) {bi oi mi : Nat} (s : Md G bi oi mi m) (hb : bi < G.next ∧ oi < G.next ∧ mi < G.next) {pi po : Nat} {ops : List OpV} (so : Sl G eOp pi po ops) (hin : ∀ o ∈ ops, R64 o.s ∧ R64 o.a ∧ R64 o.n) (hl : ops.length ≤ 1000000000) :
    ∃ bi' oi' mi' ai G', CW hodmanref17_All.id [.agg (modC bi oi mi m), .c (.sl 6 pi po ops.length)] G = some ([.agg (modC bi' oi' mi' (allM m ops).1), .c (.sl 8 ai 0 (allM m ops).2.length)], G') ∧ Hp G G' [rowE eAns ai (allM m ops).2] ∧ Md G' bi' oi' mi' (allM m ops).1 ∧ MdA G' [ai] bi' oi' mi' := by
  have hm : (1000000001 : Nat) ≤ most := by unfold most; decide
  rw [hodmanref17_All.cw]
  unfold hodmanref17_All.f
  have lp : ∀ (d i : Nat) (acc : List AnsV) (m1 : Mod) (bi oi mi ai : Nat) (G1 : GH), i + d = ops.length → acc.length = i → Hp G G1 [rowE eAns ai acc] → m1.Ok → Md G1 bi oi mi m1 → MdA G1 [ai] bi oi mi →
      ((allM m1 (ops.drop i)).1, acc ++ (allM m1 (ops.drop i)).2) = allM m ops →
      ∃ bi' oi' mi' ai' G', hodmanref17_All.L15 machW CW pi po ops.length ai 0 acc.length (i : Int) m1.c.G m1.c.N m1.c.M m1.c.L m1.c.Pg m1.c.P m1.c.H m1.c.Sd bi 0 m1.bl.length m1.live m1.peak m1.mark oi 0 m1.on.length mi 0 m1.mem.length 0 0 0 0 0 0 0 0 0 0 0 0 0 0 0 0 0 0 0 0 G1 =
        some ([.agg (modC bi' oi' mi' (allM m ops).1), .c (.sl 8 ai' 0 (allM m ops).2.length)], G') ∧ Hp G G' [rowE eAns ai' (allM m ops).2] ∧ Md G' bi' oi' mi' (allM m ops).1 ∧ MdA G' [ai'] bi' oi' mi' := by
    intro d
    induction d with
    | zero =>
      intro i acc m1 bi oi mi ai G1 hi ha h ok1 s1 ap e
      rw [List.drop_of_length_le (by omega)] at e
      simp only [allM, List.append_nil] at e
      rw [hodmanref17_All.L15_eq, condD_neg (by omega), ← e]
      exact ⟨bi, oi, mi, ai, G1, rfl, h, s1, ap⟩
    | succ d ih =>
      intro i acc m1 bi oi mi ai G1 hi ha h ok1 s1 ap e
      have hil : i < ops.length := by omega
      have ed : ops.drop i = ops[i] :: ops.drop (i + 1) := List.drop_eq_getElem_cons hil
      have zi : decide (0 ≤ (i : Int) ∧ (i : Int) < ((ops.length : Nat) : Int)) = true := decide_eq_true (by omega)
      have so1 := so.keep h
      have ho := hin _ (List.getElem_mem hil)
      rw [hodmanref17_All.L15_eq, condD_pos (by omega)]
      simp only [zi, Int.toNat_natCast, so1.ld i 0 hil (by omega), so1.ld i 1 hil (by omega), so1.ld i 2 hil (by omega), so1.ld i 3 hil (by omega), so1.ld i 4 hil (by omega), so1.ld i 5 hil (by omega), q_bs, q_I, q_B, q_P, q_S, q_M, q_c, q_a, q_gz, q_gs, q_gk, q_ct, q_cf, q_nt, q_nf, q_xt, q_xf, q_tt, q_ff, q_tf, q_ft, q_at, q_af]
      obtain ⟨bi2, oi2, mi2, G2, e2, h2, s2, v2⟩ := hodmanref17_Do.spV h.wf ok1 s1 ho.1 ho.2.1 ho.2.2
      rw [e2]
      simp only [q_bs, q_I, q_B, q_P, q_S, q_M, q_c, q_a, q_gz, q_gs, q_gk, q_ct, q_cf, q_nt, q_nf, q_xt, q_xf, q_tt, q_ff, q_tf, q_ft, q_at, q_af, List.length_cons, List.length_nil, if_true]
      have ids1 : Ids G1 [ai] := fun x hx => by simp at hx; subst hx; exact h.idlt0
      have ap2 := ap.mv v2 h2 ids1
      have h12 := h.trans0 h2
      obtain ⟨ai3, G3, h3, hn3, f3, k3⟩ := h12.app1F (S := Res) (doM m1 ops[i]).2 (n := acc.length) rfl (by omega)
      rw [k3]
      dsimp only
      have s3 := s2.fo f3 h2.wf (xs := [ai]) (by simp) ap2
      have ap3 : MdA G3 [ai3] bi2 oi2 mi2 := ap2.fo f3 fun y hy => by simp at hy; subst hy; exact .inr hn3.1
      rw [i64w, wrap_id (by omega) (by omega)]
      have := ih (i + 1) (acc ++ [(doM m1 ops[i]).2]) _ bi2 oi2 mi2 ai3 G3 (by omega) (by simp [ha]) h3 (doM_ok ok1 _).1 s3 ap3 (by rw [← e, ed]; simp only [allM, List.append_assoc]; rfl)
      rw [List.length_append] at this
      exact this
  have h0 : Hp G G [rowE eAns 0 ([] : List AnsV)] := (Hp.refl w).nil0
  have ap0 : MdA G [0] bi oi mi := ⟨⟨hb.1, fun x hx h => by simp at hx; exact absurd hx h⟩, ⟨hb.2.1, fun x hx h => by simp at hx; exact absurd hx h⟩, ⟨hb.2.2, fun x hx h => by simp at hx; exact absurd hx h⟩⟩
  exact lp ops.length 0 [] m bi oi mi 0 G (by omega) rfl h0 ok s ap0 (by rw [List.drop_zero]; rfl)
end Go.Proofs.D.S
/- What may not differ, plainly: the program's own reader. -/
set_option linter.unusedVariables false
namespace Go.Proofs.D.S
open Go Go.RowKit
section
variable {κ β γ : Type} [DecidableEq κ]
/-- Values seen otherwise. -/
def valM (f : β → γ) (l : List (κ × β)) : List (κ × γ) := l.map fun x => (x.1, f x.2)
variable {f : β → γ}
theorem aGet_val (k : κ) : ∀ l : List (κ × β), aGet (valM f l) k = (aGet l k).map f
  | [] => rfl
  | (a, b) :: l => by
    show (if a = k then some (f b) else aGet (valM f l) k) = (if a = k then some b else aGet l k).map f
    by_cases h : a = k
    · rw [if_pos h, if_pos h]; rfl
    · rw [if_neg h, if_neg h, aGet_val k l]
theorem aPut_val (k : κ) (x : β) : ∀ l : List (κ × β), aPut (valM f l) k (f x) = valM f (aPut l k x)
  | [] => rfl
  | (a, b) :: l => by
    show (if a = k then (k, f x) :: valM f l else (a, f b) :: aPut (valM f l) k (f x)) = valM f (if a = k then (k, x) :: l else (a, b) :: aPut l k x)
    by_cases h : a = k
    · rw [if_pos h, if_pos h]; rfl
    · rw [if_neg h, if_neg h, aPut_val k x l]; rfl
theorem aDel_val (k : κ) : ∀ l : List (κ × β), aDel (valM f l) k = valM f (aDel l k)
  | [] => rfl
  | (a, b) :: l => by
    show (if a = k then valM f l else (a, f b) :: aDel (valM f l) k) = valM f (if a = k then l else (a, b) :: aDel l k)
    by_cases h : a = k
    · rw [if_pos h, if_pos h]
    · rw [if_neg h, if_neg h, aDel_val k l]; rfl
theorem aPut_perm {k : κ} {x y : β} : ∀ {l : List (κ × β)}, aGet l k = some x → (aPut l k y).Perm ((k, y) :: aDel l k)
  | [], h => by cases h
  | (a, b) :: l, h => by
    unfold aGet at h
    unfold aDel aPut
    by_cases e : a = k
    · rw [if_pos e, if_pos e]
    · rw [if_neg e] at h
      rw [if_neg e, if_neg e]
      exact ((aPut_perm h).cons (a, b)).trans (.swap _ _ _)
theorem aDel_sub (k : κ) : ∀ l : List (κ × β), (aDel l k).Sublist l
  | [] => .refl _
  | (a, b) :: l => by
    unfold aDel
    by_cases e : a = k
    · rw [if_pos e]; exact List.sublist_cons_self _ _
    · rw [if_neg e]; exact (aDel_sub k l).cons_cons _
theorem aPut_mem {k : κ} {x : β} {y : κ × β} : ∀ {l : List (κ × β)}, y ∈ aPut l k x → y = (k, x) ∨ y ∈ l
  | [], h => by simp [aPut] at h; exact .inl h
  | (a, b) :: l, h => by
    unfold aPut at h
    by_cases e : a = k
    · rw [if_pos e] at h
      rcases List.mem_cons.1 h with h | h
      · exact .inl h
      · exact .inr (List.mem_cons_of_mem _ h)
    · rw [if_neg e] at h
      rcases List.mem_cons.1 h with h | h
      · exact .inr (by rw [h]; simp)
      · rcases aPut_mem h with h | h
        · exact .inl h
        · exact .inr (List.mem_cons_of_mem _ h)
end
/-- A block: how much is charged, up to where it is nought, which bytes else are known. -/
structure PB where
  (ch no : Int)
  tl : List Int
def PB.knows (b : PB) (n : Int) : Bool := decide (n < b.no) || b.tl.contains n
def knowsS (P : List (Int × PB)) (p n : Int) : Bool := match aGet P p with
  | some b => b.knows n
  | none => false
def chargeO (c : Cf) (o : OpV) : Int :=
  if o.k = 2 then (c.charge (productS c.N o.n o.s).1 1).1 else if o.k = 3 then (c.charge o.s o.a).1 else (c.charge o.s 1).1
def movedS (b : Option PB) (ch : Int) : PB := match b with
  | none => ⟨ch, 0, []⟩
  | some b => ⟨ch, min b.no ch, b.tl.filter fun n => decide (n < ch)⟩
def doesS (c : Cf) (P : List (Int × PB)) (o : OpV) (a : AnsV) : List (Int × PB) × AnsV :=
  if o.k = 1 ∨ o.k = 3 then (aPut P a.at_ ⟨chargeO c o, 0, []⟩, a)
  else if o.k = 2 then (aPut P a.at_ ⟨chargeO c o, chargeO c o, []⟩, a)
  else if o.k = 4 then (aPut (aDel P o.p) a.at_ (movedS (aGet P o.p) (chargeO c o)), a)
  else if o.k = 5 then (aDel P o.p, a)
  else if o.k = 8 then (match aGet P o.p with
    | some b => if b.knows o.n = true then (P, a) else (aPut P o.p { b with tl := b.tl ++ [o.n] }, a)
    | none => (P, a))
  else if o.k = 7 then (P, if knowsS P o.p o.n = true then a else { a with byte := 0 })
  else if o.k = 10 then (P, { a with pages := 0 })
  else (P, a)
def plainS (c : Cf) : List (Int × PB) → List OpV → List AnsV → List AnsV
  | P, o :: os, a :: az => if a.err = 0 ∧ o.k ≠ 9 then (doesS c P o a).2 :: plainS c (doesS c P o a).1 os az else plainS c P os az
  | _, _, _ => []
/-- What the program tells. -/
def plainP (c : Cf) (ops : List OpV) (ans : List AnsV) : List AnsV := if ops.length = ans.length then plainS c [] ops ans else []
end Go.Proofs.D.S
/- The program's same: what may not differ. -/
set_option linter.unusedVariables false
set_option linter.unusedSimpArgs false
namespace Go.Proofs.D.S
open Go Go.RowKit
variable {G G0 : GH} {L : List (Nat × Obj)}
theorem slices_Index_int_int.lp {i o : Nat} {l : List Int} (s : Sl G eI i o l) (hl : l.length ≤ 1000000000) (v : Int) : ∀ (d k : Nat), k + d = l.length → ∃ x : Int,
    slices_Index_int_int.L20 machW CW i o l.length v ((l.length : Nat) : Int) (k : Int) G = some ([.c (.int .i64 x)], G) ∧ (x ≥ 0 ↔ v ∈ l.drop k)
  | 0, k, hk => by
    rw [slices_Index_int_int.L20_eq, condD_neg (by omega), List.drop_of_length_le (by omega)]
    exact ⟨-1, rfl, by simp⟩
  | d + 1, k, hk => by
    have hkl : k < l.length := by omega
    have e : l.drop k = l[k] :: l.drop (k + 1) := List.drop_eq_getElem_cons hkl
    have z : decide (0 ≤ (k : Int) ∧ (k : Int) < ((l.length : Nat) : Int)) = true := decide_eq_true (by omega)
    have r := s.ld k 0 hkl (by omega)
    rw [Nat.add_zero] at r
    rw [slices_Index_int_int.L20_eq, condD_pos (by omega)]
    simp only [z, Int.toNat_natCast, r, q_bs, q_I, q_B, q_P, q_S, q_M, q_c, q_a, q_gz, q_gs, q_gk, q_ct, q_cf, q_nt, q_nf, q_xt, q_xf, q_tt, q_ff, q_tf, q_ft, q_at, q_af, i64w, wrap_id (a := (k : Int) + 1) (by omega) (by omega)]
    by_cases h : v = l[k]
    · rw [condD_pos h]; exact ⟨_, rfl, by rw [e, h]; exact ⟨fun _ => List.mem_cons_self .., fun _ => by omega⟩⟩
    · rw [condD_neg h]
      obtain ⟨x, ex, hx⟩ := slices_Index_int_int.lp s hl v d (k + 1) (by omega)
      exact ⟨x, ex, by rw [hx, e, List.mem_cons]; exact ⟨.inr, fun q => q.resolve_left h⟩⟩
theorem slices_Contains_int_int.sp {i o : Nat} {l : List Int} (s : Sl G eI i o l) (hl : l.length ≤ 1000000000) (v : Int) : CW slices_Contains_int_int.id [.c (.sl 1 i o l.length), .c (.int .i64 v)] G = some ([.c (.bool (l.contains v))], G) := by
  obtain ⟨x, ex, hx⟩ := slices_Index_int_int.lp s hl v l.length 0 (by omega)
  rw [slices_Contains_int_int.cw]
  unfold slices_Contains_int_int.f
  rw [slices_Index_int_int.cw]
  unfold slices_Index_int_int.f
  rw [show (0 : Int) = ((0 : Nat) : Int) from rfl, ex]
  simp only [q_bs, q_I, q_B, q_P, q_S, q_M, q_c, q_a, q_gz, q_gs, q_gk, q_ct, q_cf, q_nt, q_nf, q_xt, q_xf, q_tt, q_ff, q_tf, q_ft, q_at, q_af]
  rw [List.drop_zero] at hx
  have : decide (x ≥ 0) = l.contains v := by
    by_cases h : v ∈ l
    · rw [decide_eq_true (hx.2 h), List.contains_iff_mem.2 h]
    · rw [decide_eq_false (fun e => h (hx.1 e))]
      cases e : l.contains v with
      | false => rfl
      | true => exact absurd (List.contains_iff_mem.1 e) h
  rw [← this]; rfl
/-- A block of the reader's, as it lies. -/
structure KB where
  (bid tid : Nat)
  b : PB
abbrev kbR (k : KB) : List (Nat × Obj) := [(k.bid, .row [.int .i64 k.b.ch, .int .i64 k.b.no, .sl 1 k.tid 0 k.b.tl.length] false), rowE eI k.tid k.b.tl]
abbrev kbRs (K : List (Int × KB)) : List (Nat × Obj) := K.flatMap fun x => kbR x.2
abbrev eAt (a : Int) : V1 := .agg [.int .i64 a, .int .i64 0]
abbrev ePt (k : KB) : V1 := .c (.ptr k.bid 0)
abbrev kks : VS := .agg [.int .i64, .int .i64]
abbrev rdR (rid mid : Nat) (c : Cf) : Nat × Obj := (rid, .row [.int .i64 c.G, .int .i64 c.N, .int .i64 c.M, .int .i64 c.L, .int .i64 c.Pg, .int .i64 c.P, .int .i64 c.H, .int .i64 c.Sd, .map mid] false)
abbrev rdM (mid : Nat) (K : List (Int × KB)) : Nat × Obj := (mid, .map kks (encM eAt ePt K))
theorem eAt_inj (a b : Int) (h : eAt a = eAt b) : a = b := by
  have h : V1.agg [.int .i64 a, .int .i64 0] = V1.agg [.int .i64 b, .int .i64 0] := h
  injection h with h; injection h with h _; injection h
/-- The reader, as it lies: its row, its map, its blocks. -/
def Rdr (G0 G : GH) (L : List (Nat × Obj)) (rid mid : Nat) (c : Cf) (K : List (Int × KB)) : Prop := Hp G0 G (rdR rid mid c :: rdM mid K :: (kbRs K ++ L))
theorem perm3 {α : Type} (A B C : List α) : (A ++ (B ++ C)).Perm (B ++ (A ++ C)) := by
  rw [← List.append_assoc, ← List.append_assoc]
  exact List.perm_append_comm.append_right _
theorem kbRs_perm {K K' : List (Int × KB)} (p : K.Perm K') : (kbRs K).Perm (kbRs K') := p.flatMap_right _
theorem kbRs_sub {K K' : List (Int × KB)} (p : K.Sublist K') : (kbRs K).Sublist (kbRs K') := by
  induction p with
  | slnil => exact .refl _
  | cons a _ ih => exact ih.trans (List.sublist_append_right _ _)
  | cons_cons a _ ih => exact (List.Sublist.refl _).append ih
/-- A block put in, beside what there is. -/
theorem kbRs_put (k : Int) (b : KB) : ∀ K : List (Int × KB), ∃ M, (kbR b ++ kbRs K).Perm M ∧ (kbRs (aPut K k b)).Sublist M
  | [] => ⟨_, .refl _, by simp [kbRs, aPut]⟩
  | (a, x) :: K => by
    unfold aPut
    by_cases h : a = k
    · rw [if_pos h]
      refine ⟨_, .refl _, ?_⟩
      show (kbR b ++ kbRs K).Sublist (kbR b ++ (kbR x ++ kbRs K))
      exact (List.Sublist.refl _).append (List.sublist_append_right _ _)
    · rw [if_neg h]
      obtain ⟨M, p, q⟩ := kbRs_put k b K
      refine ⟨kbR x ++ M, ?_, (List.Sublist.refl _).append q⟩
      show (kbR b ++ (kbR x ++ kbRs K)).Perm (kbR x ++ M)
      exact (perm3 _ _ _).trans (p.append_left _)
theorem Hp.putK {A : List (Nat × Obj)} {k : Int} {b : KB} {K : List (Int × KB)} (h : Hp G0 G (A ++ (kbR b ++ (kbRs K ++ L)))) : Hp G0 G (A ++ (kbRs (aPut K k b) ++ L)) := by
  obtain ⟨M, p, q⟩ := kbRs_put k b K
  have h2 : Hp G0 G (A ++ (M ++ L)) := h.perm (by
    rw [← List.append_assoc (kbR b)]
    exact (p.append_right L).append_left A)
  exact h2.sub ((List.Sublist.refl A).append (q.append (.refl L)))
theorem Hp.delK {A : List (Nat × Obj)} {k : Int} {K : List (Int × KB)} (h : Hp G0 G (A ++ (kbRs K ++ L))) : Hp G0 G (A ++ (kbRs (aDel K k) ++ L)) :=
  h.sub ((List.Sublist.refl A).append ((kbRs_sub (aDel_sub k K)).append (.refl L)))
theorem Hp.getK {A : List (Nat × Obj)} {k : Int} {b : KB} {K : List (Int × KB)} (h : Hp G0 G (A ++ (kbRs K ++ L))) (e : aGet K k = some b) : Hp G0 G (kbR b ++ (A ++ (kbRs (aDel K k) ++ L))) := by
  refine h.perm ?_
  have p := kbRs_perm (aDel_perm e)
  have e1 : kbRs ((k, b) :: aDel K k) = kbR b ++ kbRs (aDel K k) := rfl
  rw [e1] at p
  have q : (A ++ (kbRs K ++ L)).Perm (A ++ (kbR b ++ (kbRs (aDel K k) ++ L))) := by
    rw [← List.append_assoc (kbR b)]
    exact (p.append_right L).append_left A
  exact q.trans (perm3 _ _ _)
theorem Hp.backK {A : List (Nat × Obj)} {k : Int} {b b' : KB} {K : List (Int × KB)} (h : Hp G0 G (kbR b' ++ (A ++ (kbRs (aDel K k) ++ L)))) (e : aGet K k = some b) : Hp G0 G (A ++ (kbRs (aPut K k b') ++ L)) := by
  refine h.perm ?_
  have p := kbRs_perm (aPut_perm (y := b') e)
  have e1 : kbRs ((k, b') :: aDel K k) = kbR b' ++ kbRs (aDel K k) := rfl
  rw [e1] at p
  have q : (A ++ (kbR b' ++ (kbRs (aDel K k) ++ L))).Perm (A ++ (kbRs (aPut K k b') ++ L)) := by
    rw [← List.append_assoc (kbR b')]
    exact (p.symm.append_right L).append_left A
  exact (perm3 _ _ _).trans q
/-- A block put in with the same beginning: the map is as it was. -/
theorem encM_same {k : Int} {b b' : KB} (hb : b'.bid = b.bid) : ∀ {K : List (Int × KB)}, aGet K k = some b → encM eAt ePt (aPut K k b') = encM eAt ePt K
  | [], h => by cases h
  | (a, x) :: K, h => by
    unfold aGet at h
    unfold aPut
    by_cases e : a = k
    · rw [if_pos e] at h
      rw [if_pos e]
      cases h
      show (eAt k, ePt b') :: _ = (eAt a, ePt b) :: _
      unfold ePt eAt
      rw [hb, e]
    · rw [if_neg e] at h
      rw [if_neg e]
      show (eAt a, ePt x) :: encM eAt ePt (aPut K k b') = (eAt a, ePt x) :: encM eAt ePt K
      rw [encM_same hb h]
def bidO : Option KB → Nat
  | some b => b.bid
  | none => 0
theorem getD_ePt (o : Option KB) : (o.map ePt).getD (.c (.ptr 0 0)) = .c (.ptr (bidO o) 0) := by cases o <;> rfl
abbrev prt (K : List (Int × KB)) : List (Int × PB) := valM KB.b K
/-- How long told rows are. -/
def Tl (K : List (Int × KB)) (n : Nat) : Prop := ∀ x ∈ K, x.2.b.tl.length ≤ n
theorem Tl.get {K : List (Int × KB)} {n : Nat} (t : Tl K n) {k : Int} {b : KB} (h : aGet K k = some b) : b.b.tl.length ≤ n := t _ (aGet_mem h)
theorem Tl.put {K : List (Int × KB)} {n m : Nat} (t : Tl K n) (hm : n ≤ m) (k : Int) {b : KB} (h : b.b.tl.length ≤ m) : Tl (aPut K k b) m := fun x hx => by
  rcases aPut_mem hx with rfl | hx
  · exact h
  · exact Nat.le_trans (t x hx) hm
theorem Tl.del {K : List (Int × KB)} {n : Nat} (t : Tl K n) (k : Int) : Tl (aDel K k) n := fun x hx => t x ((aDel_sub k K).subset hx)
theorem same_reader_charge.sp {rid mid : Nat} {c : Cf} (ok : c.Ok) (h : Hp G0 G (rdR rid mid c :: L)) {o : OpV} (hs : R64 o.s) (ha : R64 o.a) (hn : R64 o.n) : CW same_reader_charge.id [.c (.ptr rid 0), .agg (eOp o)] G = some ([.c (.int .i64 (chargeO c o))], G) := by
  have hp := h.ne
  have ld := fun off => h.ld (off := off) hp
  have one : R64 1 := by unfold R64; omega
  rw [same_reader_charge.cw]
  unfold same_reader_charge.f chargeO
  have mid : ∀ s a : Int, R64 a → same_reader_charge.J18 machW CW rid 0 s a G = some ([.c (.int .i64 (c.charge s a).1)], G) := by
    intro s a ha
    rw [same_reader_charge.J18_eq]
    simp only [guardN hp, ld, q_bs, q_I, q_B, q_P, q_S, q_M, q_c, q_a, q_gz, q_gs, q_gk, q_ct, q_cf, q_nt, q_nf, q_xt, q_xf, q_tt, q_ff, q_tf, q_ft, q_at, q_af, Nat.zero_add]
    rw [class_Charge.sp ok ha]
    simp only [q_bs, q_I, q_B, q_P, q_S, q_M, q_c, q_a, q_gz, q_gs, q_gk, q_ct, q_cf, q_nt, q_nf, q_xt, q_xf, q_tt, q_ff, q_tf, q_ft, q_at, q_af]
  by_cases h2 : o.k = 2
  · rw [condD_pos h2, if_pos h2]
    simp only [guardN hp, ld, q_bs, q_I, q_B, q_P, q_S, q_M, q_c, q_a, q_gz, q_gs, q_gk, q_ct, q_cf, q_nt, q_nf, q_xt, q_xf, q_tt, q_ff, q_tf, q_ft, q_at, q_af, Nat.zero_add]
    rw [class_Product.sp ok hn hs]
    simp only [q_bs, q_I, q_B, q_P, q_S, q_M, q_c, q_a, q_gz, q_gs, q_gk, q_ct, q_cf, q_nt, q_nf, q_xt, q_xf, q_tt, q_ff, q_tf, q_ft, q_at, q_af]
    exact mid _ _ one
  · rw [condD_neg h2, if_neg h2]
    by_cases h3 : o.k = 3
    · rw [condD_pos h3, if_pos h3]; exact mid _ _ ha
    · rw [condD_neg h3, if_neg h3]; exact mid _ _ one
theorem same_reader_knows.sp {rid mid : Nat} {c : Cf} {K : List (Int × KB)} (h : Rdr G0 G L rid mid c K) {tn : Nat} (t : Tl K tn) (htn : tn ≤ 1000000000) (p n : Int) : CW same_reader_knows.id [.c (.ptr rid 0), .c (.int .i64 p), .c (.int .i64 n)] G = some ([.c (.bool (knowsS (prt K) p n))], G) := by
  have h0 : Hp G0 G (rdR rid mid c :: rdM mid K :: (kbRs K ++ L)) := h
  have hp := h0.ne
  have ld := fun off => h0.ld (off := off) hp
  obtain ⟨m0, m1, m2⟩ := Hp.ents (ks := kks) (h0.pick 1)
  rw [same_reader_knows.cw]
  unfold same_reader_knows.f knowsS
  simp only [guardN hp, ld, q_bs, q_I, q_B, q_P, q_S, q_M, q_c, q_a, q_gz, q_gs, q_gk, q_ct, q_cf, q_nt, q_nf, q_xt, q_xf, q_tt, q_ff, q_tf, q_ft, q_at, q_af, Nat.zero_add, m2]
  rw [show V1.agg [Cell.int .i64 p, Cell.int .i64 0] = eAt p from rfl, mapGet_enc eAt_inj, getD_ePt, isSome_map', aGet_val]
  simp only [q_bs, q_I, q_B, q_P, q_S, q_M, q_c, q_a, q_gz, q_gs, q_gk, q_ct, q_cf, q_nt, q_nf, q_xt, q_xf, q_tt, q_ff, q_tf, q_ft, q_at, q_af]
  cases e : aGet K p with
  | none => rfl
  | some b =>
    have h1 : Hp G0 G (kbR b ++ ([rdR rid mid c, rdM mid K] ++ (kbRs (aDel K p) ++ L))) := Hp.getK (A := [rdR rid mid c, rdM mid K]) h0 e
    have hb := h1.ne
    have lb := fun off => h1.ld (off := off) hb
    have st := h1.sl (e := eI) (id := b.tid) (xs := b.b.tl) (by simp)
    have tl := t.get e
    rw [Option.isSome_some, q_ct]
    simp only [bidO, guardN hb, lb, q_bs, q_I, q_B, q_P, q_S, q_M, q_c, q_a, q_gz, q_gs, q_gk, q_ct, q_cf, q_nt, q_nf, q_xt, q_xf, q_tt, q_ff, q_tf, q_ft, q_at, q_af, Nat.zero_add]
    show _ = some ([V1.c (.bool (b.b.knows n))], G)
    unfold PB.knows
    by_cases hn : n < b.b.no
    · rw [condD_pos hn, decide_eq_true hn]; rfl
    · rw [condD_neg hn, decide_eq_false hn, slices_Contains_int_int.sp st (by omega)]
      simp only [q_bs, q_I, q_B, q_P, q_S, q_M, q_c, q_a, q_gz, q_gs, q_gk, q_ct, q_cf, q_nt, q_nf, q_xt, q_xf, q_tt, q_ff, q_tf, q_ft, q_at, q_af, Bool.false_or]
theorem same_moved.sp (h : Hp G0 G L) {ob : Option KB} (hb : ∀ b, ob = some b → ∃ M, L = kbR b ++ M ∧ b.b.tl.length ≤ 1000000000) (ch : Int) :
    ∃ (k : KB) (G' : GH), CW same_moved.id [.c (.ptr (bidO ob) 0), .c (.int .i64 ch)] G = some ([.c (.ptr k.bid 0)], G') ∧ Hp G0 G' (kbR k ++ L) ∧ k.b = movedS (ob.map KB.b) ch := by
  have hm : (1000000001 : Nat) ≤ most := by unfold most; decide
  have h1 := h.alloc (.row [.int .i64 ch, .int .i64 0, .sl 1 0 0 0] false)
  rw [same_moved.cw]
  unfold same_moved.f
  dsimp only
  have h2 : Hp G0 (G.alloc (.row [.int .i64 ch, .int .i64 0, .sl 1 0 0 0] false)) (kbR ⟨G.next, 0, ⟨ch, 0, []⟩⟩ ++ L) := (h1.nil0 (e := eI)).pick 1
  generalize G.alloc (.row [.int .i64 ch, .int .i64 0, .sl 1 0 0 0] false) = G1 at h1 h2 ⊢
  generalize G.next = nid at h1 h2 ⊢
  have hnid := h1.ne
  cases ob with
  | none =>
    simp only [bidO]
    rw [show Nat.beq 0 0 = true from rfl, q_xf, q_ct]
    exact ⟨⟨nid, 0, ⟨ch, 0, []⟩⟩, G1, rfl, h2, rfl⟩
  | some b =>
    obtain ⟨M, rfl, hl⟩ := hb b rfl
    simp only [bidO]
    have hbid : b.bid ≠ 0 := h.ne
    have h2' := h2.pick 2
    have lb := fun off => h2'.ld (off := off) hbid
    have hb0 : Nat.beq b.bid 0 = false := by
      have := nbeq hbid
      simpa using this
    rw [hb0, q_xf, q_cf]
    simp only [guardN hbid, guardN hnid, lb, q_bs, q_I, q_B, q_P, q_S, q_M, q_c, q_a, q_gz, q_gs, q_gk, q_ct, q_cf, q_nt, q_nf, q_xt, q_xf, q_tt, q_ff, q_tf, q_ft, q_at, q_af, Nat.zero_add]
    obtain ⟨G2, h3, e3⟩ := h2.sts (off := 1) (new := [.int .i64 (mn2 b.b.no ch)]) hnid (by simp)
    have h3 : Hp G0 G2 (kbR ⟨nid, 0, ⟨ch, mn2 b.b.no ch, []⟩⟩ ++ (kbR b ++ M)) := h3
    rw [e3]
    have lb3 := fun off => (h3.pick 2).ld (off := off) hbid
    simp only [q_bs, q_I, q_B, q_P, q_S, q_M, q_c, q_a, q_gz, q_gs, q_gk, q_ct, q_cf, q_nt, q_nf, q_xt, q_xf, q_tt, q_ff, q_tf, q_ft, q_at, q_af, lb3]
    have lp : ∀ (d i : Nat) (tid : Nat) (acc : List Int) (G3 : GH), i + d = b.b.tl.length → acc.length ≤ i → Hp G0 G3 (kbR ⟨nid, tid, ⟨ch, mn2 b.b.no ch, acc⟩⟩ ++ (kbR b ++ M)) → acc ++ (b.b.tl.drop i).filter (fun n => decide (n < ch)) = b.b.tl.filter (fun n => decide (n < ch)) →
        ∃ (k : KB) (G' : GH), same_moved.L27 machW CW ch nid 0 b.tid 0 b.b.tl.length ((b.b.tl.length : Nat) : Int) (i : Int) G3 = some ([.c (.ptr k.bid 0)], G') ∧ Hp G0 G' (kbR k ++ (kbR b ++ M)) ∧ k.b = movedS ((some b).map KB.b) ch := by
      intro d
      induction d with
      | zero =>
        intro i tid acc G3 hi ha h e
        rw [List.drop_of_length_le (by omega), List.filter_nil, List.append_nil] at e
        rw [same_moved.L27_eq, condD_neg (by omega)]
        exact ⟨⟨nid, tid, ⟨ch, mn2 b.b.no ch, acc⟩⟩, G3, rfl, h, by subst e; rw [mn2_eq]; rfl⟩
      | succ d ih =>
        intro i tid acc G3 hi ha h e
        have hil : i < b.b.tl.length := by omega
        have ed : b.b.tl.drop i = b.b.tl[i] :: b.b.tl.drop (i + 1) := List.drop_eq_getElem_cons hil
        have zi : decide (0 ≤ (i : Int) ∧ (i : Int) < ((b.b.tl.length : Nat) : Int)) = true := decide_eq_true (by omega)
        have st := h.sl (e := eI) (id := b.tid) (xs := b.b.tl) (by simp)
        have r := st.ld i 0 hil (by omega)
        rw [Nat.add_zero] at r
        rw [ed, List.filter_cons] at e
        rw [same_moved.L27_eq, condD_pos (by omega)]
        simp only [zi, Int.toNat_natCast, r, q_bs, q_I, q_B, q_P, q_S, q_M, q_c, q_a, q_gz, q_gs, q_gk, q_ct, q_cf, q_nt, q_nf, q_xt, q_xf, q_tt, q_ff, q_tf, q_ft, q_at, q_af]
        have lo := fun off => h.ld (off := off) hnid
        have go : ∀ (tid : Nat) (acc : List Int) (G3 : GH), acc.length ≤ i + 1 → Hp G0 G3 (kbR ⟨nid, tid, ⟨ch, mn2 b.b.no ch, acc⟩⟩ ++ (kbR b ++ M)) → acc ++ (b.b.tl.drop (i + 1)).filter (fun n => decide (n < ch)) = b.b.tl.filter (fun n => decide (n < ch)) →
            ∃ (k : KB) (G' : GH), same_moved.J23 machW CW ch nid 0 b.tid 0 b.b.tl.length ((b.b.tl.length : Nat) : Int) (i : Int) G3 = some ([.c (.ptr k.bid 0)], G') ∧ Hp G0 G' (kbR k ++ (kbR b ++ M)) ∧ k.b = movedS ((some b).map KB.b) ch := by
          intro tid acc G3 ha h e
          rw [same_moved.J23_eq, i64w, wrap_id (by omega) (by omega)]
          exact ih (i + 1) tid acc G3 (by omega) ha h e
        by_cases hlt : b.b.tl[i] < ch
        · rw [condD_pos hlt]
          rw [if_pos (decide_eq_true hlt)] at e
          simp only [guardN hnid, lo, q_bs, q_I, q_B, q_P, q_S, q_M, q_c, q_a, q_gz, q_gs, q_gk, q_ct, q_cf, q_nt, q_nf, q_xt, q_xf, q_tt, q_ff, q_tf, q_ft, q_at, q_af, Nat.zero_add]
          have hq : Hp G0 G3 (rowE eI tid acc :: (nid, .row [.int .i64 ch, .int .i64 (mn2 b.b.no ch), .sl 1 tid 0 acc.length] false) :: (kbR b ++ M)) := h.pick 1
          obtain ⟨tid2, G4, h4, k4⟩ := Hp.app1 (S := Res) (e := eI) hq b.b.tl[i] (n := acc.length) rfl (by omega)
          rw [k4]
          dsimp only
          have h5 := h4.back 1
          obtain ⟨G5, h6, e6⟩ := h5.sts (off := 2) (new := [.sl 1 tid2 0 (acc.length + 1)]) hnid (by simp)
          rw [e6, q_bs]
          have e7 : (acc ++ [b.b.tl[i]]).length = acc.length + 1 := by simp
          rw [← e7] at h6
          exact go tid2 (acc ++ [b.b.tl[i]]) G5 (by omega) h6 (by rw [← e]; simp)
        · rw [condD_neg hlt]
          rw [if_neg (by simpa using hlt)] at e
          exact go tid acc G3 (by omega) h e
    exact lp b.b.tl.length 0 0 [] G2 (by omega) (by simp) h3 (by rw [List.drop_zero]; rfl)
end Go.Proofs.D.S
/- The program's same: a call's step, a whole history, rows that are alike. -/
set_option linter.unusedVariables false
set_option linter.unusedSimpArgs false
namespace Go.Proofs.D.S
open Go Go.RowKit
variable {G G0 : GH} {L : List (Nat × Obj)}
/-- The map of the reader's, with something in it changed. -/
theorem Hp.setM {rid mid : Nat} {c : Cf} {k : KB} {es es' : List (V1 × V1)} {X : List (Nat × Obj)} (h : Hp G0 G (kbR k ++ (rdR rid mid c :: (mid, .map kks es) :: X))) :
    G.ents kks mid = some es ∧ Hp G0 (G.set mid (some (.map kks es'))) (kbR k ++ (rdR rid mid c :: (mid, .map kks es') :: X)) := by
  have h1 : Hp G0 G ((mid, .map kks es) :: _) := h.pick 3
  obtain ⟨m0, m1, _⟩ := Hp.ents (ks := kks) h1
  exact ⟨m1, (h1.set (o' := .map kks es') m0).back 3⟩
theorem Rdr.fin {rid mid : Nat} {c : Cf} {K : List (Int × KB)} {k : KB} {a : Int} (h : Hp G0 G (kbR k ++ (rdR rid mid c :: (mid, .map kks (mapPut (encM eAt ePt K) (eAt a) (ePt k))) :: (kbRs K ++ L)))) : Rdr G0 G L rid mid c (aPut K a k) := by
  rw [mapPut_enc eAt_inj] at h
  have h2 : Hp G0 G ([rdR rid mid c, rdM mid (aPut K a k)] ++ (kbR k ++ (kbRs K ++ L))) := h.perm (perm3 (kbR k) [rdR rid mid c, rdM mid (aPut K a k)] (kbRs K ++ L))
  exact h2.putK
/-- A new block's rows. -/
theorem Hp.newK (h : Hp G0 G L) (ch no : Int) : Hp G0 (G.alloc (.row [.int .i64 ch, .int .i64 no, .sl 1 0 0 0] false)) (kbR ⟨G.next, 0, ⟨ch, no, []⟩⟩ ++ L) :=
  ((h.alloc (.row [.int .i64 ch, .int .i64 no, .sl 1 0 0 0] false)).nil0 (e := eI)).pick 1
/-- What a step of the reader's leaves. -/
def DoOut (G0 : GH) (L : List (Nat × Obj)) (rid mid : Nat) (c : Cf) (tn : Nat) (r : List (Int × PB) × AnsV) (x : Option Res) : Prop :=
  ∃ (G' : GH) (K' : List (Int × KB)), x = some ([.agg (eAns r.2)], G') ∧ Rdr G0 G' L rid mid c K' ∧ prt K' = r.1 ∧ Tl K' (tn + 1)
theorem same_reader_does.sp {rid mid : Nat} {c : Cf} (ok : c.Ok) {K : List (Int × KB)} (h : Rdr G0 G L rid mid c K) {tn : Nat} (t : Tl K tn) (htn : tn ≤ 999999999) {o : OpV} (hs : R64 o.s) (ha : R64 o.a) (hn : R64 o.n) (a : AnsV) :
    DoOut G0 L rid mid c tn (doesS c (prt K) o a) (CW same_reader_does.id [.c (.ptr rid 0), .agg (eOp o), .agg (eAns a)] G) := by
  have hm : (1000000001 : Nat) ≤ most := by unfold most; decide
  have h0 : Hp G0 G (rdR rid mid c :: rdM mid K :: (kbRs K ++ L)) := h
  have hp := h0.ne
  have ld := fun off => h0.ld (off := off) hp
  obtain ⟨m0, m1, m2⟩ := Hp.ents (ks := kks) (h0.pick 1)
  have t1 : Tl K (tn + 1) := fun x hx => Nat.le_succ_of_le (t x hx)
  have ch := same_reader_charge.sp ok h0 (o := o) hs ha hn
  -- nothing of the reader's changes
  have same : ∀ a' : AnsV, doesS c (prt K) o a = (prt K, a') → DoOut G0 L rid mid c tn (doesS c (prt K) o a) (same_reader_does.J56 machW CW a'.err a'.at_ a'.n a'.byte a'.live a'.peak a'.mark a'.pages 0 0 0 0 0 0 0 0 G) := by
    intro a' e
    rw [e, same_reader_does.J56_eq]
    exact ⟨G, K, rfl, h, rfl, t1⟩
  have fin : ∀ (G' : GH) (K' : List (Int × KB)), Rdr G0 G' L rid mid c K' → doesS c (prt K) o a = (prt K', a) → Tl K' (tn + 1) → DoOut G0 L rid mid c tn (doesS c (prt K) o a) (same_reader_does.J56 machW CW a.err a.at_ a.n a.byte a.live a.peak a.mark a.pages 0 0 0 0 0 0 0 0 G') := by
    intro G' K' h' e t'
    rw [e, same_reader_does.J56_eq]
    exact ⟨G', K', rfl, h', rfl, t'⟩
  have news : ∀ no : Int, doesS c (prt K) o a = (aPut (prt K) a.at_ ⟨chargeO c o, no, []⟩, a) →
      (G.alloc (.row [.int .i64 (chargeO c o), .int .i64 no, .sl 1 0 0 0] false)).ents kks mid = some (encM eAt ePt K) ∧
      DoOut G0 L rid mid c tn (doesS c (prt K) o a) (same_reader_does.J56 machW CW a.err a.at_ a.n a.byte a.live a.peak a.mark a.pages 0 0 0 0 0 0 0 0 ((G.alloc (.row [.int .i64 (chargeO c o), .int .i64 no, .sl 1 0 0 0] false)).set mid (some (.map kks (mapPut (encM eAt ePt K) (eAt a.at_) (.c (.ptr G.next 0))))))) := by
    intro no e
    have h1 := h0.newK (chargeO c o) no
    obtain ⟨e1, h2⟩ := h1.setM (es' := mapPut (encM eAt ePt K) (eAt a.at_) (ePt ⟨G.next, 0, ⟨chargeO c o, no, []⟩⟩))
    refine ⟨e1, fin _ _ (Rdr.fin h2) ?_ (t.put (by omega) _ (by simp))⟩
    rw [e]
    show (aPut (valM KB.b K) a.at_ (KB.b ⟨G.next, 0, ⟨chargeO c o, no, []⟩⟩), a) = _
    rw [aPut_val]
  have main : ∀ tb : Bool, tb = decide (o.k = 1 ∨ o.k = 3) → DoOut G0 L rid mid c tn (doesS c (prt K) o a) (same_reader_does.J50 machW CW rid 0 o.k tb o.k o.p o.s o.a o.n o.b a.err a.at_ a.n a.byte a.live a.peak a.mark a.pages 0 0 0 0 0 0 0 0 o.p 0 G) := by
    intro tb htb
    subst htb
    rw [same_reader_does.J50_eq]
    by_cases k13 : o.k = 1 ∨ o.k = 3
    · rw [condD_pos k13]
      simp only [guardN hp, ld, q_bs, q_I, q_B, q_P, q_S, q_M, q_c, q_a, q_gz, q_gs, q_gk, q_ct, q_cf, q_nt, q_nf, q_xt, q_xf, q_tt, q_ff, q_tf, q_ft, q_at, q_af, Nat.zero_add]
      rw [ch]
      simp only [q_bs, q_I, q_B, q_P, q_S, q_M, q_c, q_a, q_gz, q_gs, q_gk, q_ct, q_cf, q_nt, q_nf, q_xt, q_xf, q_tt, q_ff, q_tf, q_ft, q_at, q_af, ld]
      rw [guardD_of trivial]
      obtain ⟨e1, e2⟩ := news 0 (by unfold doesS; rw [if_pos k13])
      rw [e1, q_bs]
      exact e2
    rw [condD_neg k13]
    by_cases k2 : o.k = 2
    · rw [condD_pos k2, ch]
      simp only [guardN hp, ld, q_bs, q_I, q_B, q_P, q_S, q_M, q_c, q_a, q_gz, q_gs, q_gk, q_ct, q_cf, q_nt, q_nf, q_xt, q_xf, q_tt, q_ff, q_tf, q_ft, q_at, q_af, Nat.zero_add]
      obtain ⟨e1, e2⟩ := news (chargeO c o) (by unfold doesS; rw [if_neg k13, if_pos k2])
      rw [e1, q_bs]
      exact e2
    rw [condD_neg k2]
    have getp : ∀ es, es = encM eAt ePt K → (mapGet es (.agg [.int .i64 o.p, .int .i64 0])).getD (.c (.ptr 0 0)) = .c (.ptr (bidO (aGet K o.p)) 0) := by
      intro es e
      subst e
      rw [show V1.agg [Cell.int .i64 o.p, Cell.int .i64 0] = eAt o.p from rfl, mapGet_enc eAt_inj, getD_ePt]
    by_cases k4 : o.k = 4
    · rw [condD_pos k4]
      simp only [guardN hp, ld, q_bs, q_I, q_B, q_P, q_S, q_M, q_c, q_a, q_gz, q_gs, q_gk, q_ct, q_cf, q_nt, q_nf, q_xt, q_xf, q_tt, q_ff, q_tf, q_ft, q_at, q_af, Nat.zero_add, m2]
      rw [getp _ rfl]
      simp only [q_bs, q_I, q_B, q_P, q_S, q_M, q_c, q_a, q_gz, q_gs, q_gk, q_ct, q_cf, q_nt, q_nf, q_xt, q_xf, q_tt, q_ff, q_tf, q_ft, q_at, q_af]
      rw [ch]
      simp only [q_bs, q_I, q_B, q_P, q_S, q_M, q_c, q_a, q_gz, q_gs, q_gk, q_ct, q_cf, q_nt, q_nf, q_xt, q_xf, q_tt, q_ff, q_tf, q_ft, q_at, q_af, ld]
      rw [guardD_of trivial]
      simp only [m2, q_bs, q_I, q_B, q_P, q_S, q_M, q_c, q_a, q_gz, q_gs, q_gk, q_ct, q_cf, q_nt, q_nf, q_xt, q_xf, q_tt, q_ff, q_tf, q_ft, q_at, q_af]
      rw [getp _ rfl]
      simp only [q_bs, q_I, q_B, q_P, q_S, q_M, q_c, q_a, q_gz, q_gs, q_gk, q_ct, q_cf, q_nt, q_nf, q_xt, q_xf, q_tt, q_ff, q_tf, q_ft, q_at, q_af]
      rw [guardD_of trivial]
      have hX : ∃ X, Hp G0 G (X ++ ([rdR rid mid c, rdM mid K] ++ (kbRs (aDel K o.p) ++ L))) ∧ ∀ b, aGet K o.p = some b → X = kbR b := by
        cases e : aGet K o.p with
        | none => exact ⟨[], by rw [aDel_none e]; exact h0, fun b hb => by cases hb⟩
        | some b => exact ⟨kbR b, Hp.getK (A := [rdR rid mid c, rdM mid K]) h0 e, fun b' hb => by cases hb; rfl⟩
      obtain ⟨X, hX, hXb⟩ := hX
      obtain ⟨k, G1, e1, h1, hk⟩ := same_moved.sp hX (ob := aGet K o.p) (fun b hb => ⟨_, by rw [hXb b hb], by have := t.get hb; omega⟩) (chargeO c o)
      have e1' : CW same_moved.id [.c (.ptr (bidO (aGet K o.p)) 0), .c (.int .i64 (chargeO c o))] G = some ([.c (.ptr k.bid 0)], G1) := e1
      rw [e1']
      simp only [q_bs, q_I, q_B, q_P, q_S, q_M, q_c, q_a, q_gz, q_gs, q_gk, q_ct, q_cf, q_nt, q_nf, q_xt, q_xf, q_tt, q_ff, q_tf, q_ft, q_at, q_af]
      have h2 : Hp G0 G1 (kbR k ++ (rdR rid mid c :: rdM mid K :: (kbRs (aDel K o.p) ++ L))) := h1.sub ((List.Sublist.refl _).append (List.sublist_append_right _ _))
      have ld2 := fun off => (h2.pick 2).ld (off := off) hp
      obtain ⟨e3, h3⟩ := h2.setM (es' := mapDel (encM eAt ePt K) (eAt o.p))
      have ld3 := fun off => (h3.pick 2).ld (off := off) hp
      simp only [ld2, q_bs, q_I, q_B, q_P, q_S, q_M, q_c, q_a, q_gz, q_gs, q_gk, q_ct, q_cf, q_nt, q_nf, q_xt, q_xf, q_tt, q_ff, q_tf, q_ft, q_at, q_af]
      rw [e3, q_bs]
      have ld3' : ∀ off, (G1.set mid (some (.map kks (mapDel (encM eAt ePt K) (.agg [.int .i64 o.p, .int .i64 0]))))).ld rid off = _ := ld3
      simp only [guardN hp, ld3', q_bs, q_I, q_B, q_P, q_S, q_M, q_c, q_a, q_gz, q_gs, q_gk, q_ct, q_cf, q_nt, q_nf, q_xt, q_xf, q_tt, q_ff, q_tf, q_ft, q_at, q_af]
      obtain ⟨e4, h4⟩ := h3.setM (es' := mapPut (encM eAt ePt (aDel K o.p)) (eAt a.at_) (ePt k))
      rw [mapDel_enc eAt_inj] at e4 h4
      have e4' : (G1.set mid (some (.map kks (mapDel (encM eAt ePt K) (.agg [.int .i64 o.p, .int .i64 0]))))).ents kks mid = some (encM eAt ePt (aDel K o.p)) := by
        rw [show V1.agg [Cell.int .i64 o.p, Cell.int .i64 0] = eAt o.p from rfl, mapDel_enc eAt_inj]; exact e4
      rw [e4', q_bs]
      rw [show V1.agg [Cell.int .i64 o.p, Cell.int .i64 0] = eAt o.p from rfl, mapDel_enc eAt_inj]
      have hkl : k.b.tl.length ≤ tn := by
        rw [hk]
        cases e : aGet K o.p with
        | none => simp [movedS]
        | some b => exact Nat.le_trans (List.length_filter_le _ _) (t.get e)
      refine fin _ _ (Rdr.fin h4) ?_ ((t.del _).put (by omega) _ (by omega))
      unfold doesS
      rw [if_neg k13, if_neg k2, if_pos k4, aDel_val, aGet_val, ← hk, aPut_val]
    rw [condD_neg k4]
    by_cases k5 : o.k = 5
    · rw [condD_pos k5]
      simp only [guardN hp, ld, q_bs, q_I, q_B, q_P, q_S, q_M, q_c, q_a, q_gz, q_gs, q_gk, q_ct, q_cf, q_nt, q_nf, q_xt, q_xf, q_tt, q_ff, q_tf, q_ft, q_at, q_af, Nat.zero_add, m1]
      have h1 := ((h0.pick 1).set (o' := .map kks (mapDel (encM eAt ePt K) (eAt o.p))) m0).pick 1
      rw [mapDel_enc eAt_inj] at h1
      have h2 : Rdr G0 (G.set mid (some (.map kks (encM eAt ePt (aDel K o.p))))) L rid mid c (aDel K o.p) := Hp.delK (A := [rdR rid mid c, rdM mid (aDel K o.p)]) h1
      rw [show V1.agg [Cell.int .i64 o.p, Cell.int .i64 0] = eAt o.p from rfl, mapDel_enc eAt_inj]
      refine fin _ _ h2 ?_ (t1.del _)
      unfold doesS
      rw [if_neg k13, if_neg k2, if_neg k4, if_pos k5, aDel_val]
    rw [condD_neg k5]
    by_cases k8 : o.k = 8
    · rw [condD_pos k8]
      simp only [guardN hp, ld, q_bs, q_I, q_B, q_P, q_S, q_M, q_c, q_a, q_gz, q_gs, q_gk, q_ct, q_cf, q_nt, q_nf, q_xt, q_xf, q_tt, q_ff, q_tf, q_ft, q_at, q_af, Nat.zero_add, m2]
      rw [getp _ rfl, show V1.agg [Cell.int .i64 o.p, Cell.int .i64 0] = eAt o.p from rfl, mapGet_enc eAt_inj, isSome_map']
      simp only [q_bs, q_I, q_B, q_P, q_S, q_M, q_c, q_a, q_gz, q_gs, q_gk, q_ct, q_cf, q_nt, q_nf, q_xt, q_xf, q_tt, q_ff, q_tf, q_ft, q_at, q_af]
      have ds : doesS c (prt K) o a = (match aGet (prt K) o.p with
          | some b => if b.knows o.n = true then (prt K, a) else (aPut (prt K) o.p { b with tl := b.tl ++ [o.n] }, a)
          | none => (prt K, a)) := by
        unfold doesS
        (rw [if_neg k13, if_neg k2, if_neg k4, if_neg k5, if_pos k8]) <;> rfl
      cases e : aGet K o.p with
      | none =>
        rw [Option.isSome_none, q_cf, same_reader_does.J26_eq, q_cf]
        refine same a ?_
        rw [ds, aGet_val, e]; rfl
      | some b =>
        rw [Option.isSome_some, q_ct, same_reader_knows.sp h t (by omega)]
        simp only [q_bs, q_I, q_B, q_P, q_S, q_M, q_c, q_a, q_gz, q_gs, q_gk, q_ct, q_cf, q_nt, q_nf, q_xt, q_xf, q_tt, q_ff, q_tf, q_ft, q_at, q_af]
        have kn : knowsS (prt K) o.p o.n = b.b.knows o.n := by unfold knowsS; rw [aGet_val, e]; rfl
        rw [kn, same_reader_does.J26_eq]
        have ds2 : doesS c (prt K) o a = if b.b.knows o.n = true then (prt K, a) else (aPut (prt K) o.p { b.b with tl := b.b.tl ++ [o.n] }, a) := by
          rw [ds, aGet_val, e]; rfl
        cases hk : b.b.knows o.n with
        | true =>
          rw [q_nt, q_cf]
          refine same a ?_
          rw [ds2, hk, if_pos rfl]
        | false =>
          rw [q_nf, q_ct]
          have h1 : Hp G0 G (kbR b ++ ([rdR rid mid c, rdM mid K] ++ (kbRs (aDel K o.p) ++ L))) := Hp.getK (A := [rdR rid mid c, rdM mid K]) h0 e
          have hb := h1.ne
          have lb := fun off => h1.ld (off := off) hb
          have tl := t.get e
          simp only [bidO, guardN hb, lb, q_bs, q_I, q_B, q_P, q_S, q_M, q_c, q_a, q_gz, q_gs, q_gk, q_ct, q_cf, q_nt, q_nf, q_xt, q_xf, q_tt, q_ff, q_tf, q_ft, q_at, q_af, Nat.zero_add]
          have hq : Hp G0 G (rowE eI b.tid b.b.tl :: (b.bid, .row [.int .i64 b.b.ch, .int .i64 b.b.no, .sl 1 b.tid 0 b.b.tl.length] false) :: ([rdR rid mid c, rdM mid K] ++ (kbRs (aDel K o.p) ++ L))) := h1.pick 1
          obtain ⟨tid2, G4, h4, k4'⟩ := Hp.app1 (S := Res) (e := eI) hq o.n (n := b.b.tl.length) rfl (by omega)
          rw [k4']
          dsimp only
          have h5 := h4.back 1
          obtain ⟨G5, h6, e6⟩ := h5.sts (off := 2) (new := [.sl 1 tid2 0 (b.b.tl.length + 1)]) hb (by simp)
          have e7 : (b.b.tl ++ [o.n]).length = b.b.tl.length + 1 := by simp
          rw [e6, q_bs]
          rw [← e7] at h6
          have h7 : Hp G0 G5 (kbR ⟨b.bid, tid2, ⟨b.b.ch, b.b.no, b.b.tl ++ [o.n]⟩⟩ ++ ([rdR rid mid c, rdM mid K] ++ (kbRs (aDel K o.p) ++ L))) := h6
          have h8 := Hp.backK (A := [rdR rid mid c, rdM mid K]) h7 e
          have h9 : Rdr G0 G5 L rid mid c (aPut K o.p ⟨b.bid, tid2, ⟨b.b.ch, b.b.no, b.b.tl ++ [o.n]⟩⟩) := by
            unfold Rdr rdM
            rw [encM_same (b := b) (b' := ⟨b.bid, tid2, ⟨b.b.ch, b.b.no, b.b.tl ++ [o.n]⟩⟩) rfl e]
            exact h8
          refine fin _ _ h9 ?_ (t.put (by omega) _ (by dsimp only; rw [e7]; omega))
          rw [ds2, hk, if_neg (by decide)]
          show (aPut (valM KB.b K) o.p (KB.b ⟨b.bid, tid2, ⟨b.b.ch, b.b.no, b.b.tl ++ [o.n]⟩⟩), a) = _
          rw [aPut_val]
    rw [condD_neg k8]
    by_cases k7 : o.k = 7
    · rw [condD_pos k7, same_reader_knows.sp h t (by omega)]
      simp only [q_bs, q_I, q_B, q_P, q_S, q_M, q_c, q_a, q_gz, q_gs, q_gk, q_ct, q_cf, q_nt, q_nf, q_xt, q_xf, q_tt, q_ff, q_tf, q_ft, q_at, q_af]
      have ds : doesS c (prt K) o a = (prt K, if knowsS (prt K) o.p o.n = true then a else { a with byte := 0 }) := by
        unfold doesS
        rw [if_neg k13, if_neg k2, if_neg k4, if_neg k5, if_neg k8, if_pos k7]
      cases hk : knowsS (prt K) o.p o.n with
      | true =>
        rw [q_nt, q_cf]
        exact same a (by rw [ds, hk, if_pos rfl])
      | false =>
        rw [q_nf, q_ct]
        exact same { a with byte := 0 } (by rw [ds, hk, if_neg (by decide)])
    rw [condD_neg k7]
    by_cases k10 : o.k = 10
    · rw [condD_pos k10]
      refine same { a with pages := 0 } ?_
      unfold doesS
      rw [if_neg k13, if_neg k2, if_neg k4, if_neg k5, if_neg k8, if_neg k7, if_pos k10]
    · rw [condD_neg k10]
      refine same a ?_
      unfold doesS
      rw [if_neg k13, if_neg k2, if_neg k4, if_neg k5, if_neg k8, if_neg k7, if_neg k10]
  rw [same_reader_does.cw]
  unfold same_reader_does.f
  by_cases k1 : o.k = 1
  · rw [condD_pos k1]; exact main _ (by rw [decide_eq_true k1, decide_eq_true (.inl k1)])
  · rw [condD_neg k1]; exact main _ (by simp only [k1, false_or])
theorem same_Plain.sp (h : Hp G0 G L) {c : Cf} (ok : c.Ok) {pi po ai ao : Nat} {ops : List OpV} {ans : List AnsV} (so : Rd G0 L eOp pi po ops) (sa : Rd G0 L eAns ai ao ans) (hin : ∀ o ∈ ops, R64 o.s ∧ R64 o.a ∧ R64 o.n) (hl : ops.length ≤ 100000000) (hla : ans.length ≤ 100000000) :
    ∃ oi G', CW same_Plain.id [.agg (cfC c), .c (.sl 6 pi po ops.length), .c (.sl 8 ai ao ans.length)] G = some ([.c (.sl 8 oi 0 (plainP c ops ans).length)], G') ∧ Hp G0 G' (rowE eAns oi (plainP c ops ans) :: L) := by
  have hm : (1000000001 : Nat) ≤ most := by unfold most; decide
  rw [same_Plain.cw]
  unfold same_Plain.f plainP
  by_cases hlen : ops.length = ans.length
  · rw [condN_neg (by omega), if_pos hlen]
    dsimp only
    have h1 := (h.alloc (.map kks (encM eAt ePt [])))
    have hG1' : G.alloc (.map (.agg [.int .i64, .int .i64]) []) = G.alloc (.map kks (encM eAt ePt [])) := rfl
    rw [hG1']
    generalize G.alloc (.map kks (encM eAt ePt [])) = G1 at h1 ⊢
    have h2 : Hp G0 _ (rdR G1.next G.next c :: rdM G.next [] :: L) := h1.alloc _
    have eG2 : G1.alloc (.row [.int .i64 c.G, .int .i64 c.N, .int .i64 c.M, .int .i64 c.L, .int .i64 c.Pg, .int .i64 c.P, .int .i64 c.H, .int .i64 c.Sd, .map G.next] false) = G1.alloc (rdR G1.next G.next c).2 := rfl
    rw [eG2]
    generalize G1.alloc (rdR G1.next G.next c).2 = G2 at h2 ⊢
    generalize G1.next = rid at *
    generalize G.next = mid at *
    have lp : ∀ (d i : Nat) (K : List (Int × KB)) (oi : Nat) (acc : List AnsV) (G3 : GH), i + d = ops.length → acc.length ≤ i → Rdr G0 G3 (rowE eAns oi acc :: L) rid mid c K → Tl K i → acc ++ plainS c (prt K) (ops.drop i) (ans.drop i) = plainS c [] ops ans →
        ∃ oi' G', same_Plain.L26 machW CW ai ao ans.length oi 0 acc.length rid 0 pi po ops.length ((ops.length : Nat) : Int) (i : Int) G3 = some ([.c (.sl 8 oi' 0 (plainS c [] ops ans).length)], G') ∧ Hp G0 G' (rowE eAns oi' (plainS c [] ops ans) :: L) := by
      intro d
      induction d with
      | zero =>
        intro i K oi acc G3 hi ha h3 t e
        rw [List.drop_of_length_le (by omega)] at e
        have e0 : plainS c (prt K) ([] : List OpV) (ans.drop i) = [] := by unfold plainS; rfl
        rw [e0, List.append_nil] at e
        rw [same_Plain.L26_eq, condD_neg (by omega), ← e]
        have h4 : Hp G0 G3 (rdR rid mid c :: rdM mid K :: (kbRs K ++ (rowE eAns oi acc :: L))) := h3
        exact ⟨oi, G3, rfl, h4.sub (.cons _ (.cons _ (List.sublist_append_right _ _)))⟩
      | succ d ih =>
        intro i K oi acc G3 hi ha h3 t e
        have hil : i < ops.length := by omega
        have hia : i < ans.length := by omega
        have ed : ops.drop i = ops[i] :: ops.drop (i + 1) := List.drop_eq_getElem_cons hil
        have ea : ans.drop i = ans[i] :: ans.drop (i + 1) := List.drop_eq_getElem_cons hia
        have zi : decide (0 ≤ (i : Int) ∧ (i : Int) < ((ops.length : Nat) : Int)) = true := decide_eq_true (by omega)
        have za : decide (0 ≤ (i : Int) ∧ (i : Int) < ((ans.length : Nat) : Int)) = true := decide_eq_true (by omega)
        have h4 : Hp G0 G3 (rdR rid mid c :: rdM mid K :: (kbRs K ++ (rowE eAns oi acc :: L))) := h3
        have hL : Hp G0 G3 L := h4.sub (.cons _ (.cons _ ((List.sublist_cons_self _ _).trans (List.sublist_append_right _ _))))
        have so3 := so _ hL
        have sa3 := sa _ hL
        have ho := hin _ (List.getElem_mem hil)
        rw [ed, ea] at e
        simp only [plainS] at e
        have q0 := so3.ld i 0 hil (by omega)
        have q1 := so3.ld i 1 hil (by omega)
        have q2 := so3.ld i 2 hil (by omega)
        have q3 := so3.ld i 3 hil (by omega)
        have q4 := so3.ld i 4 hil (by omega)
        have q5 := so3.ld i 5 hil (by omega)
        have r0 := sa3.ld i 0 hia (by omega)
        have r1 := sa3.ld i 1 hia (by omega)
        have r2 := sa3.ld i 2 hia (by omega)
        have r3 := sa3.ld i 3 hia (by omega)
        have r4 := sa3.ld i 4 hia (by omega)
        have r5 := sa3.ld i 5 hia (by omega)
        have r6 := sa3.ld i 6 hia (by omega)
        have r7 := sa3.ld i 7 hia (by omega)
        generalize ops[i] = o at *
        generalize ans[i] = a at *
        rw [same_Plain.L26_eq, condD_pos (by omega)]
        simp only [zi, za, Int.toNat_natCast, q0, q1, q2, q3, q4, q5, r0, q_bs, q_I, q_B, q_P, q_S, q_M, q_c, q_a, q_gz, q_gs, q_gk, q_ct, q_cf, q_nt, q_nf, q_xt, q_xf, q_tt, q_ff, q_tf, q_ft, q_at, q_af]
        have nxt : ∀ (K : List (Int × KB)) (oi : Nat) (acc : List AnsV) (G3 : GH), acc.length ≤ i + 1 → Rdr G0 G3 (rowE eAns oi acc :: L) rid mid c K → Tl K (i + 1) → acc ++ plainS c (prt K) (ops.drop (i + 1)) (ans.drop (i + 1)) = plainS c [] ops ans →
            ∃ oi' G', same_Plain.J22 machW CW ai ao ans.length oi 0 acc.length rid 0 pi po ops.length ((ops.length : Nat) : Int) (i : Int) G3 = some ([.c (.sl 8 oi' 0 (plainS c [] ops ans).length)], G') ∧ Hp G0 G' (rowE eAns oi' (plainS c [] ops ans) :: L) := by
          intro K oi acc G3 ha h3 t e
          rw [same_Plain.J22_eq, i64w, wrap_id (by omega) (by omega)]
          exact ih (i + 1) K oi acc G3 (by omega) ha h3 t e
        have mid2 : ∀ tb : Bool, tb = decide (a.err = 0 ∧ o.k ≠ 9) → ∃ oi' G', same_Plain.J18 machW CW ai ao ans.length oi 0 acc.length rid 0 (i : Int) pi po ops.length ((ops.length : Nat) : Int) (i : Int) tb o.k o.p o.s o.a o.n o.b G3 = some ([.c (.sl 8 oi' 0 (plainS c [] ops ans).length)], G') ∧ Hp G0 G' (rowE eAns oi' (plainS c [] ops ans) :: L) := by
          intro tb htb
          subst htb
          rw [same_Plain.J18_eq]
          by_cases hc : a.err = 0 ∧ o.k ≠ 9
          · rw [condD_pos hc]
            rw [if_pos hc] at e
            simp only [za, Int.toNat_natCast, r0, r1, r2, r3, r4, r5, r6, r7, q_bs, q_I, q_B, q_P, q_S, q_M, q_c, q_a, q_gz, q_gs, q_gk, q_ct, q_cf, q_nt, q_nf, q_xt, q_xf, q_tt, q_ff, q_tf, q_ft, q_at, q_af]
            obtain ⟨G4, K4, e4, h4, p4, t4⟩ := same_reader_does.sp ok h3 t (by omega) (o := o) ho.1 ho.2.1 ho.2.2 a
            rw [e4]
            simp only [q_bs, q_I, q_B, q_P, q_S, q_M, q_c, q_a, q_gz, q_gs, q_gk, q_ct, q_cf, q_nt, q_nf, q_xt, q_xf, q_tt, q_ff, q_tf, q_ft, q_at, q_af, List.length_cons, List.length_nil, if_true]
            have h5 : Hp G0 G4 ((rdR rid mid c :: rdM mid K4 :: kbRs K4) ++ (rowE eAns oi acc :: L)) := h4
            have h6 : Hp G0 G4 (rowE eAns oi acc :: ((rdR rid mid c :: rdM mid K4 :: kbRs K4) ++ L)) := h5.perm (perm3 _ [rowE eAns oi acc] L)
            obtain ⟨oi2, G5, h7, k7⟩ := Hp.app1 (S := Res) h6 (doesS c (prt K) o a).2 (n := acc.length) rfl (by omega)
            rw [k7]
            dsimp only
            have h8 : Hp G0 G5 ((rdR rid mid c :: rdM mid K4 :: kbRs K4) ++ (rowE eAns oi2 (acc ++ [(doesS c (prt K) o a).2]) :: L)) := h7.perm (perm3 [rowE eAns oi2 (acc ++ [(doesS c (prt K) o a).2])] (rdR rid mid c :: rdM mid K4 :: kbRs K4) L)
            have e9 : (acc ++ [(doesS c (prt K) o a).2]).length = acc.length + 1 := by simp
            rw [← e9]
            exact nxt K4 oi2 _ G5 (by omega) h8 t4 (by rw [← e, p4, List.append_assoc]; rfl)
          · rw [condD_neg hc]
            rw [if_neg hc] at e
            exact nxt K oi acc G3 (by omega) h3 (fun x hx => Nat.le_succ_of_le (t x hx)) e
        by_cases he : a.err = 0
        · rw [condD_pos he]; exact mid2 _ (by simp [he])
        · rw [condD_neg he]; exact mid2 _ (by simp [he])
    exact lp ops.length 0 [] 0 [] G2 (by omega) (by simp) (by
      have := (h2.nil0 (e := eAns)).back 2
      exact this) (fun x hx => by cases hx) (by rw [List.drop_zero, List.drop_zero]; rfl)
  · rw [condN_pos (by omega), if_neg hlen]
    exact ⟨0, G, rfl, h.nil0⟩
/-- Are rows alike? -/
theorem ans_eq (a b : AnsV) : (decide (a.err = b.err) && (decide (a.at_ = b.at_) && (decide (a.n = b.n) && (decide (a.byte = b.byte) && (decide (a.live = b.live) && (decide (a.peak = b.peak) && (decide (a.mark = b.mark) && (decide (a.pages = b.pages) && true)))))))) = decide (a = b) := by
  cases a; cases b
  simp [AnsV.mk.injEq, Bool.decide_and]
theorem api_Ans.lp {ai ao bi bo : Nat} {a b : List AnsV} (sa : Sl G eAns ai ao a) (sb : Sl G eAns bi bo b) (hl : a.length = b.length) (hn : a.length ≤ 1000000000) : ∀ (d k : Nat), k + d = a.length →
    api_Ans.L27 machW CW ai ao a.length bi bo b.length ((a.length : Nat) : Int) (k : Int) G = some ([.c (.bool (decide (a.drop k = b.drop k)))], G)
  | 0, k, hk => by
    rw [api_Ans.L27_eq, condD_neg (by omega), List.drop_of_length_le (by omega), List.drop_of_length_le (by omega), decide_eq_true rfl]
  | d + 1, k, hk => by
    have ha : k < a.length := by omega
    have hb : k < b.length := by omega
    have ea : a.drop k = a[k] :: a.drop (k + 1) := List.drop_eq_getElem_cons ha
    have eb : b.drop k = b[k] :: b.drop (k + 1) := List.drop_eq_getElem_cons hb
    have za : decide (0 ≤ (k : Int) ∧ (k : Int) < ((a.length : Nat) : Int)) = true := decide_eq_true (by omega)
    have zb : decide (0 ≤ (k : Int) ∧ (k : Int) < ((b.length : Nat) : Int)) = true := decide_eq_true (by omega)
    rw [api_Ans.L27_eq, condD_pos (by omega)]
    simp only [za, zb, Int.toNat_natCast, sa.ld k 0 ha (by omega), sa.ld k 1 ha (by omega), sa.ld k 2 ha (by omega), sa.ld k 3 ha (by omega), sa.ld k 4 ha (by omega), sa.ld k 5 ha (by omega), sa.ld k 6 ha (by omega), sa.ld k 7 ha (by omega), sb.ld k 0 hb (by omega), sb.ld k 1 hb (by omega), sb.ld k 2 hb (by omega), sb.ld k 3 hb (by omega), sb.ld k 4 hb (by omega), sb.ld k 5 hb (by omega), sb.ld k 6 hb (by omega), sb.ld k 7 hb (by omega), q_bs, q_I, q_B, q_P, q_S, q_M, q_c, q_a, q_gz, q_gs, q_gk, q_ct, q_cf, q_nt, q_nf, q_xt, q_xf, q_tt, q_ff, q_tf, q_ft, q_at, q_af]
    rw [ans_eq, ea, eb, i64w, wrap_id (by omega) (by omega)]
    by_cases h : a[k] = b[k]
    · rw [decide_eq_true h, q_nt, q_cf]
      have := api_Ans.lp sa sb hl hn d (k + 1) (by omega)
      have e2 : decide (a[k] :: a.drop (k + 1) = b[k] :: b.drop (k + 1)) = decide (a.drop (k + 1) = b.drop (k + 1)) := decide_eq_decide.2 ⟨fun e => (List.cons.inj e).2, fun e => by rw [h, e]⟩
      rw [show (k : Int) + 1 = ((k + 1 : Nat) : Int) by omega, this, e2]
    · rw [decide_eq_false h, q_nf, q_ct, decide_eq_false (fun e => h (List.cons.inj e).1)]
theorem api_Ans.sp {ai ao bi bo : Nat} {a b : List AnsV} (sa : Sl G eAns ai ao a) (sb : Sl G eAns bi bo b) (hn : a.length ≤ 1000000000) : CW api_Ans.id [.c (.sl 8 ai ao a.length), .c (.sl 8 bi bo b.length)] G = some ([.c (.bool (decide (a = b)))], G) := by
  rw [api_Ans.cw]
  unfold api_Ans.f
  by_cases h : a.length = b.length
  · rw [condN_neg (by omega)]
    exact api_Ans.lp sa sb h hn a.length 0 (by omega)
  · rw [condN_pos (by omega), decide_eq_false (fun e => h (by rw [e]))]
theorem same_Same.sp {ai ao bi bo : Nat} {a b : List AnsV} (sa : Sl G eAns ai ao a) (sb : Sl G eAns bi bo b) (hn : a.length ≤ 1000000000) : CW same_Same.id [.c (.sl 8 ai ao a.length), .c (.sl 8 bi bo b.length)] G = some ([.c (.bool (decide (a = b)))], G) := by
  rw [same_Same.cw]
  unfold same_Same.f
  rw [api_Ans.sp sa sb hn]
  simp only [q_bs, q_I, q_B, q_P, q_S, q_M, q_c, q_a, q_gz, q_gs, q_gk, q_ct, q_cf, q_nt, q_nf, q_xt, q_xf, q_tt, q_ff, q_tf, q_ft, q_at, q_af]
end Go.Proofs.D.S
/- Calls that fail change nothing. -/
set_option linter.unusedVariables false
namespace Go.Proofs.D.S
open Go Go.RowKit
theorem placeM_fail (m : Mod) (l : List Blk) (n asked : Int) (h : (placeM m l n asked).2.2 ≠ 0) : (placeM m l n asked).1 = m := by
  unfold placeM at h ⊢
  by_cases h1 : (lowR m.c.H l n).2 = true
  · rw [if_pos h1] at h ⊢
    cases hc : commitP m.on (metP m.c.Pg m.on.length l) (pagesP m.c.Pg (lowR m.c.H l n).1 n).1 (pagesP m.c.Pg (lowR m.c.H l n).1 n).2 m.c.P with
    | none => rfl
    | some p => rw [hc] at h; exact absurd rfl h
  · rw [if_neg h1]
theorem giveM_fail (m : Mod) (o : OpV) (h : (giveM m o).2.err ≠ 0) : (giveM m o).1 = m := by
  unfold giveM at h ⊢
  dsimp only at h ⊢
  generalize (if o.k = 2 then manyS m.c.G m.c.N m.c.M m.live o.n o.s else newS m.c.G m.c.N m.c.M m.live o.s (if o.k = 3 then o.a else 1)) = r at h ⊢
  generalize (if o.k = 2 then wrap64 (o.n * o.s) else o.s) = s at h ⊢
  by_cases h1 : r.2 = 0
  · rw [if_pos h1] at h ⊢
    by_cases h2 : (placeM m m.bl r.1 s).2.2 = 0
    · rw [if_pos h2] at h; exact absurd rfl h
    · rw [if_neg h2]
  · rw [if_neg h1]
theorem ofM_fail (m : Mod) (o : OpV) (A : Nat) (b : Blk) (h : (ofM m o A b).2.err ≠ 0) : (ofM m o A b).1 = m := by
  unfold ofM at h ⊢
  dsimp only at h ⊢
  by_cases h4 : o.k = 4
  · rw [if_pos h4] at h ⊢
    by_cases h1 : (newS m.c.G m.c.N m.c.M (m.live - b.ch) o.s 1).2 = 0
    · rw [if_pos h1] at h ⊢
      by_cases h2 : (placeM m (m.bl.take A ++ m.bl.drop (A + 1)) (newS m.c.G m.c.N m.c.M (m.live - b.ch) o.s 1).1 o.s).2.2 = 0
      · rw [if_pos h2] at h; exact absurd rfl h
      · rw [if_neg h2]
    · rw [if_neg h1]
  · rw [if_neg h4] at h ⊢
    by_cases h5 : o.k = 5
    · rw [if_pos h5] at h; exact absurd rfl h
    · rw [if_neg h5] at h ⊢
      by_cases h6 : o.k = 6
      · rw [if_pos h6]
      · rw [if_neg h6] at h ⊢
        by_cases h7 : o.n < 0 ∨ o.n ≥ b.ch
        · rw [if_pos h7]
        · rw [if_neg h7] at h ⊢
          by_cases h8 : o.k = 7
          · rw [if_pos h8]
          · rw [if_neg h8] at h; exact absurd rfl h
theorem doM_fail (m : Mod) (o : OpV) (h : (doM m o).2.err ≠ 0) : (doM m o).1 = m := by
  unfold doM at h ⊢
  by_cases h1 : o.k = 1 ∨ o.k = 2 ∨ o.k = 3
  · rw [if_pos h1] at h ⊢; exact giveM_fail m o h
  · rw [if_neg h1] at h ⊢
    by_cases h9 : o.k = 9
    · rw [if_pos h9] at h; exact absurd rfl h
    · rw [if_neg h9] at h ⊢
      by_cases h10 : o.k = 10
      · rw [if_pos h10]
      · rw [if_neg h10] at h ⊢
        by_cases h4 : o.k = 4 ∨ o.k = 5 ∨ o.k = 6 ∨ o.k = 7 ∨ o.k = 8
        · rw [if_pos h4] at h ⊢
          cases e : findB m.bl o.p with
          | none => rfl
          | some A => rw [e] at h; exact ofM_fail m o A _ h
        · rw [if_neg h4]
/-- The calls that were told OK. -/
def okOps : List OpV → List AnsV → List OpV
  | o :: os, a :: az => if a.err = 0 then o :: okOps os az else okOps os az
  | _, _ => []
theorem okOps_sub : ∀ (os : List OpV) (az : List AnsV), (okOps os az).Sublist os
  | [], az => by unfold okOps; exact .refl _
  | o :: os, [] => by unfold okOps; exact List.nil_sublist _
  | o :: os, a :: az => by
    unfold okOps
    split
    · exact (okOps_sub os az).cons_cons _
    · exact (okOps_sub os az).cons _
end Go.Proofs.D.S
/- Two models that are alike, but for what nobody stored. -/
set_option linter.unusedVariables false
namespace Go.Proofs.D.S
open Go Go.RowKit
/-- Another seed, other pages, other bytes. -/
def withS (m : Mod) (sd : Int) (on : List Bool) (mem : List Int) : Mod := { m with c := { m.c with Sd := sd }, on := on, mem := mem }
/-- Alike in what is told of blocks. -/
def Sim (m m2 : Mod) : Prop := m2 = withS m m2.c.Sd m2.on m2.mem ∧ m2.on.length = m.on.length
theorem Sim.mk' {m : Mod} {sd : Int} {on : List Bool} {mem : List Int} (h : on.length = m.on.length) : Sim m (withS m sd on mem) := ⟨rfl, h⟩
theorem commitP_ind (on on2 met : List Bool) (f b mx : Int) : (commitP on met f b mx = none ∧ commitP on2 met f b mx = none) ∨ ∃ p p2, commitP on met f b mx = some p ∧ commitP on2 met f b mx = some p2 := by
  unfold commitP
  by_cases h : (cnt (needP met f b) : Int) > mx
  · rw [if_pos h, if_pos h]; exact .inl ⟨rfl, rfl⟩
  · rw [if_neg h, if_neg h]; exact .inr ⟨_, _, rfl, rfl⟩
theorem sim_place {m : Mod} {sd : Int} {on : List Bool} {mem : List Int} (h : on.length = m.on.length) (l : List Blk) (n asked : Int) :
    (placeM (withS m sd on mem) l n asked).2 = (placeM m l n asked).2 ∧ Sim (placeM m l n asked).1 (placeM (withS m sd on mem) l n asked).1 := by
  have e : placeM (withS m sd on mem) l n asked = ((if (lowR m.c.H l n).2 = true then
      match commitP on (metP m.c.Pg on.length l) (pagesP m.c.Pg (lowR m.c.H l n).1 n).1 (pagesP m.c.Pg (lowR m.c.H l n).1 n).2 m.c.P with
      | none => (withS m sd on mem, 0, 6)
      | some (on', fr) => (⟨{ m.c with Sd := sd }, putB l ⟨(lowR m.c.H l n).1, n, asked⟩, chSum (putB l ⟨(lowR m.c.H l n).1, n, asked⟩), max m.peak (chSum (putB l ⟨(lowR m.c.H l n).1, n, asked⟩)), max m.mark ((lowR m.c.H l n).1 + n), on', fr.foldl (fun mem p => fillP mem sd p m.c.Pg) mem⟩, (lowR m.c.H l n).1, 0)
    else (withS m sd on mem, 0, 7)) : Mod × Int × Int) := rfl
  rw [e]
  unfold placeM
  by_cases h1 : (lowR m.c.H l n).2 = true
  · rw [if_pos h1, if_pos h1, h]
    rcases commitP_ind m.on on (metP m.c.Pg m.on.length l) (pagesP m.c.Pg (lowR m.c.H l n).1 n).1 (pagesP m.c.Pg (lowR m.c.H l n).1 n).2 m.c.P with ⟨a, b⟩ | ⟨⟨o1, f1⟩, ⟨o2, f2⟩, a, b⟩
    · rw [a, b]; exact ⟨rfl, .mk' h⟩
    · rw [a, b]
      exact ⟨rfl, rfl, by dsimp only; rw [(commitP_some a).1, (commitP_some b).1, h]⟩
  · rw [if_neg h1, if_neg h1]; exact ⟨rfl, .mk' h⟩
/-- What may differ in an answer, left out. -/
def maskA (o : OpV) (a : AnsV) : AnsV := if o.k = 7 then { a with byte := 0 } else if o.k = 9 then { a with n := 0 } else if o.k = 10 then { a with pages := 0 } else a
theorem sim_give {m : Mod} {sd : Int} {on : List Bool} {mem : List Int} (h : on.length = m.on.length) (o : OpV) :
    (giveM (withS m sd on mem) o).2 = (giveM m o).2 ∧ Sim (giveM m o).1 (giveM (withS m sd on mem) o).1 := by
  have e : giveM (withS m sd on mem) o =
    (let r := if o.k = 2 then manyS m.c.G m.c.N m.c.M m.live o.n o.s else newS m.c.G m.c.N m.c.M m.live o.s (if o.k = 3 then o.a else 1)
     let s := if o.k = 2 then wrap64 (o.n * o.s) else o.s
     if r.2 = 0 then
       let q := placeM (withS m sd on mem) m.bl r.1 s
       if q.2.2 = 0 then ((if o.k = 2 then { q.1 with mem := zeroP q.1.mem q.2.1 r.1 } else q.1), ⟨0, q.2.1, 0, 0, 0, 0, 0, 0⟩) else (withS m sd on mem, errA q.2.2)
     else (withS m sd on mem, errA r.2)) := rfl
  rw [e]
  unfold giveM
  dsimp only
  generalize (if o.k = 2 then manyS m.c.G m.c.N m.c.M m.live o.n o.s else newS m.c.G m.c.N m.c.M m.live o.s (if o.k = 3 then o.a else 1)) = r
  generalize (if o.k = 2 then wrap64 (o.n * o.s) else o.s) = s
  by_cases h1 : r.2 = 0
  · rw [if_pos h1, if_pos h1]
    obtain ⟨e1, e2⟩ := sim_place h (sd := sd) (mem := mem) m.bl r.1 s
    rw [e1]
    by_cases h2 : (placeM m m.bl r.1 s).2.2 = 0
    · rw [if_pos h2, if_pos h2]
      refine ⟨rfl, ?_⟩
      by_cases h3 : o.k = 2
      · simp only [if_pos h3]
        obtain ⟨a, b⟩ := e2
        refine ⟨?_, b⟩
        generalize placeM (withS m sd on mem) m.bl r.1 s = q2 at *
        generalize placeM m m.bl r.1 s = q1 at *
        dsimp only at a ⊢
        rw [a]; rfl
      · simp only [if_neg h3]; exact e2
    · rw [if_neg h2, if_neg h2]; exact ⟨rfl, .mk' h⟩
  · rw [if_neg h1, if_neg h1]; exact ⟨rfl, .mk' h⟩
theorem sim_of {m : Mod} {sd : Int} {on : List Bool} {mem : List Int} (h : on.length = m.on.length) (o : OpV) (A : Nat) (b : Blk) :
    maskA o (ofM (withS m sd on mem) o A b).2 = maskA o (ofM m o A b).2 ∧ Sim (ofM m o A b).1 (ofM (withS m sd on mem) o A b).1 := by
  have e : ofM (withS m sd on mem) o A b =
    (let rest := m.bl.take A ++ m.bl.drop (A + 1)
     if o.k = 4 then
       let r := newS m.c.G m.c.N m.c.M (m.live - b.ch) o.s 1
       if r.2 = 0 then
         let q := placeM (withS m sd on mem) rest r.1 o.s
         if q.2.2 = 0 then ({ q.1 with mem := q.1.mem.take q.2.1.toNat ++ (mem.drop b.at_.toNat).take (min r.1 b.ch).toNat ++ q.1.mem.drop (q.2.1 + min r.1 b.ch).toNat }, ⟨0, q.2.1, 0, 0, 0, 0, 0, 0⟩) else (withS m sd on mem, errA q.2.2)
       else (withS m sd on mem, errA r.2)
     else if o.k = 5 then ({ withS m sd on mem with bl := rest, live := m.live - b.ch }, errA 0)
     else if o.k = 6 then (withS m sd on mem, ⟨0, 0, b.ch, 0, 0, 0, 0, 0⟩)
     else if o.n < 0 ∨ o.n ≥ b.ch then (withS m sd on mem, errA 9)
     else if o.k = 7 then (withS m sd on mem, ⟨0, 0, 0, mem.getD (b.at_ + o.n).toNat 0, 0, 0, 0, 0⟩)
     else ({ withS m sd on mem with mem := mem.set (b.at_ + o.n).toNat o.b }, errA 0)) := rfl
  rw [e]
  unfold ofM
  dsimp only
  by_cases h4 : o.k = 4
  · rw [if_pos h4, if_pos h4]
    generalize newS m.c.G m.c.N m.c.M (m.live - b.ch) o.s 1 = r
    by_cases h1 : r.2 = 0
    · rw [if_pos h1, if_pos h1]
      obtain ⟨e1, e2⟩ := sim_place h (sd := sd) (mem := mem) (m.bl.take A ++ m.bl.drop (A + 1)) r.1 o.s
      rw [e1]
      by_cases h2 : (placeM m (m.bl.take A ++ m.bl.drop (A + 1)) r.1 o.s).2.2 = 0
      · rw [if_pos h2, if_pos h2]
        refine ⟨rfl, ?_⟩
        obtain ⟨a, c⟩ := e2
        refine ⟨?_, c⟩
        generalize placeM (withS m sd on mem) (m.bl.take A ++ m.bl.drop (A + 1)) r.1 o.s = q2 at *
        generalize placeM m (m.bl.take A ++ m.bl.drop (A + 1)) r.1 o.s = q1 at *
        dsimp only at a ⊢
        rw [a]; rfl
      · rw [if_neg h2, if_neg h2]; exact ⟨rfl, .mk' h⟩
    · rw [if_neg h1, if_neg h1]; exact ⟨rfl, .mk' h⟩
  · rw [if_neg h4, if_neg h4]
    by_cases h5 : o.k = 5
    · rw [if_pos h5, if_pos h5]; exact ⟨rfl, rfl, h⟩
    · rw [if_neg h5, if_neg h5]
      by_cases h6 : o.k = 6
      · rw [if_pos h6, if_pos h6]; exact ⟨rfl, .mk' h⟩
      · rw [if_neg h6, if_neg h6]
        by_cases hb : o.n < 0 ∨ o.n ≥ b.ch
        · rw [if_pos hb, if_pos hb]; exact ⟨rfl, .mk' h⟩
        · rw [if_neg hb, if_neg hb]
          by_cases h7 : o.k = 7
          · rw [if_pos h7, if_pos h7]
            refine ⟨?_, .mk' h⟩
            unfold maskA; rw [if_pos h7, if_pos h7]
          · rw [if_neg h7, if_neg h7]; exact ⟨rfl, rfl, h⟩
theorem sim_do {m m2 : Mod} (s : Sim m m2) (o : OpV) : maskA o (doM m2 o).2 = maskA o (doM m o).2 ∧ Sim (doM m o).1 (doM m2 o).1 := by
  obtain ⟨e, h⟩ := s
  generalize m2.c.Sd = sd at e
  generalize m2.on = on at e h
  generalize m2.mem = mem at e
  subst e
  have e : doM (withS m sd on mem) o =
    (if o.k = 1 ∨ o.k = 2 ∨ o.k = 3 then giveM (withS m sd on mem) o
     else if o.k = 9 then ({ withS m sd on mem with on := trimP on (metP m.c.Pg on.length m.bl) }, ⟨0, 0, goneP on (metP m.c.Pg on.length m.bl) on.length, 0, 0, 0, 0, 0⟩)
     else if o.k = 10 then (withS m sd on mem, ⟨0, 0, 0, 0, m.live, m.peak, m.mark, cnt on⟩)
     else if o.k = 4 ∨ o.k = 5 ∨ o.k = 6 ∨ o.k = 7 ∨ o.k = 8 then
       match findB m.bl o.p with
       | some A => ofM (withS m sd on mem) o A (m.bl.getD A ⟨0, 0, 0⟩)
       | none => (withS m sd on mem, errA 8)
     else (withS m sd on mem, errA 2)) := rfl
  rw [e]
  unfold doM
  by_cases h1 : o.k = 1 ∨ o.k = 2 ∨ o.k = 3
  · rw [if_pos h1, if_pos h1]
    obtain ⟨a, b⟩ := sim_give h (sd := sd) (mem := mem) o
    rw [a]; exact ⟨rfl, b⟩
  · rw [if_neg h1, if_neg h1]
    by_cases h9 : o.k = 9
    · rw [if_pos h9, if_pos h9]
      refine ⟨?_, rfl, by dsimp only; unfold trimP; rw [tab_len, tab_len, h]⟩
      unfold maskA; rw [if_neg (by omega), if_pos h9, if_neg (by omega), if_pos h9]
    · rw [if_neg h9, if_neg h9]
      by_cases h10 : o.k = 10
      · rw [if_pos h10, if_pos h10]
        refine ⟨?_, .mk' h⟩
        unfold maskA; rw [if_neg (by omega), if_neg h9, if_pos h10, if_neg (by omega), if_neg h9, if_pos h10]
      · rw [if_neg h10, if_neg h10]
        by_cases h4 : o.k = 4 ∨ o.k = 5 ∨ o.k = 6 ∨ o.k = 7 ∨ o.k = 8
        · rw [if_pos h4, if_pos h4]
          cases hf : findB m.bl o.p with
          | none => exact ⟨rfl, .mk' h⟩
          | some A => exact sim_of h o A _
        · rw [if_neg h4, if_neg h4]; exact ⟨rfl, .mk' h⟩
end Go.Proofs.D.S
/- What bytes become of a call. -/
set_option linter.unusedVariables false
namespace Go.Proofs.D.S
open Go Go.RowKit
def byteAt (m : Mod) (a x : Int) : Int := m.mem.getD (a + x).toNat 0
/-- All pages of a block are there. -/
def onB (m : Mod) (b : Blk) : Prop := ∀ y, b.at_ ≤ y → y < b.at_ + b.ch → m.on.getD (y / m.c.Pg).toNat false = true
structure Inv (m : Mod) : Prop where
  ok : m.Ok
  srt : Srt m.bl
  on : ∀ b ∈ m.bl, onB m b
theorem inv_nil {m : Mod} (ok : m.Ok) (h : m.bl = []) : Inv m := ⟨ok, by rw [h]; exact List.Pairwise.nil, fun b hb => (by rw [h] at hb; cases hb)⟩
theorem fillP_getD (mem : List Int) (sd p pg : Int) (i : Nat) (h : ((i : Int) / pg) ≠ p) : (fillP mem sd p pg).getD i 0 = mem.getD i 0 := by
  unfold fillP
  by_cases hi : i < mem.length
  · rw [tab_getD 0 hi, if_neg h]
  · rw [List.getD_eq_getElem?_getD, List.getD_eq_getElem?_getD, List.getElem?_eq_none (by rw [tab_len]; omega), List.getElem?_eq_none (by omega)]
theorem fills_getD (sd pg : Int) (i : Nat) : ∀ (fr : List Int) (mem : List Int), ((i : Int) / pg) ∉ fr → (fr.foldl (fun mem p => fillP mem sd p pg) mem).getD i 0 = mem.getD i 0
  | [], _, _ => rfl
  | p :: fr, mem, h => by
    rw [List.foldl_cons, fills_getD sd pg i fr _ (fun e => h (List.mem_cons_of_mem _ e)), fillP_getD]
    exact fun e => h (by rw [e]; simp)
theorem fresh_off {on : List Bool} {f b : Int} {k : Nat} {x : Int} (h : x ∈ freshP on f b k) : on.getD x.toNat false = false := by
  unfold freshP at h
  obtain ⟨i, hi, rfl⟩ := List.mem_map.1 h
  obtain ⟨_, h2⟩ := List.mem_filter.1 hi
  rw [Bool.and_eq_true] at h2
  have := h2.2
  show on.getD (Int.ofNat i).toNat false = false
  rw [show (Int.ofNat i).toNat = i from rfl]
  simpa using this
/-- The page of a byte is met by the block in which it lies. -/
theorem met_of {pg : Int} (hpg : 1 ≤ pg) {k : Nat} {l : List Blk} {b : Blk} (hb : b ∈ l) {y : Int} (h0 : 0 ≤ y) (h1 : b.at_ ≤ y) (h2 : y < b.at_ + b.ch) (hk : (y / pg).toNat < k) : (metP pg k l).getD (y / pg).toNat false = true := by
  unfold metP
  rw [tab_getD false hk, List.any_eq_true]
  refine ⟨b, hb, ?_⟩
  have e0 := Int.ediv_nonneg h0 (show 0 ≤ pg by omega)
  have e1 : (((y / pg).toNat : Nat) : Int) = y / pg := Int.toNat_of_nonneg e0
  have e2 := Int.mul_ediv_add_emod y pg
  have e3 := Int.emod_nonneg y (show pg ≠ 0 by omega)
  have e4 := Int.emod_lt_of_pos y (show 0 < pg by omega)
  rw [e1, Int.mul_comm]
  unfold over
  rw [decide_eq_true (by omega), decide_eq_true (by omega)]; rfl
theorem these_of {pg a n y : Int} (hpg : 1 ≤ pg) (hn : 1 ≤ n) (ha : 0 ≤ a) (h1 : a ≤ y) (h2 : y < a + n) : these (pagesP pg a n).1 (pagesP pg a n).2 (y / pg).toNat = true := by
  have e0 := Int.ediv_nonneg (show 0 ≤ y by omega) (show 0 ≤ pg by omega)
  have e1 : (((y / pg).toNat : Nat) : Int) = y / pg := Int.toNat_of_nonneg e0
  have e2 : a / pg ≤ y / pg := Int.ediv_le_ediv (by omega) h1
  have e3 : y / pg ≤ (a + n - 1) / pg := Int.ediv_le_ediv (by omega) (by omega)
  unfold these pagesP
  rw [if_neg (by omega), e1]
  dsimp only
  rw [decide_eq_true (by omega), decide_eq_true (by omega)]; rfl
/-- A block is placed. -/
structure Placed (m : Mod) (l : List Blk) (n asked a : Int) (m' : Mod) : Prop where
  c : m'.c = m.c
  bl : m'.bl = putB l ⟨a, n, asked⟩
  at_ : 0 ≤ a ∧ a + n ≤ m.c.H
  free : freeB l a n = true
  keep : ∀ b ∈ l, onB m b → ∀ x, 0 ≤ x → x < b.ch → byteAt m' b.at_ x = byteAt m b.at_ x
  on1 : ∀ b ∈ l, onB m b → onB m' b
  on2 : onB m' ⟨a, n, asked⟩
theorem Mod.Ok.page {m : Mod} (ok : m.Ok) {y : Int} (h0 : 0 ≤ y) (h1 : y < m.c.H) : (y / m.c.Pg).toNat < m.on.length := by
  have f := ok.c.facts
  have h := ok.on
  have h2 : y / m.c.Pg < m.on.length := Int.ediv_lt_of_lt_mul (by omega) (by omega)
  have h3 := Int.ediv_nonneg h0 (show 0 ≤ m.c.Pg by omega)
  omega
theorem place_out {m : Mod} (ok : m.Ok) {l : List Blk} (hl : BlkIn m.c.H l) {n asked : Int} (hn : 1 ≤ n) (h : (placeM m l n asked).2.2 = 0) :
    Placed m l n asked (placeM m l n asked).2.1 (placeM m l n asked).1 := by
  have f := ok.c.facts
  rcases placeM_cases m l (asked := asked) hn (by omega) with ⟨_, e⟩ | e | ⟨j, on', fr, _, h0, h1, hf, ho, hc, e⟩
  · rw [e] at h; simp at h
  · rw [e] at h; simp at h
  · rw [e]
    dsimp only
    generalize (j : Int) * n = a at *
    have hfr := (commitP_some hc).2
    have ion : ∀ i, i < m.on.length → (allP m.on (pagesP m.c.Pg a n).1 (pagesP m.c.Pg a n).2).getD i false = true → (needP (metP m.c.Pg m.on.length l) (pagesP m.c.Pg a n).1 (pagesP m.c.Pg a n).2).getD i false = true → on'.getD i false = true := by
      intro i hi h1 h2
      unfold commitP at hc
      split at hc
      · cases hc
      · injection hc with hc
        injection hc with hc _
        rw [← hc]
        split
        · rw [tab_getD false hi, h1, h2]; rfl
        · exact h1
    have old : ∀ b ∈ l, ∀ y, b.at_ ≤ y → y < b.at_ + b.ch → m.on.getD (y / m.c.Pg).toNat false = true → on'.getD (y / m.c.Pg).toNat false = true := by
      intro b hb y y1 y2 hy
      have ib := hl b hb
      have hp := ok.page (y := y) (by omega) (by omega)
      refine ion _ hp ?_ ?_
      · unfold allP
        rw [tab_getD false hp, hy]; rfl
      · unfold needP
        have hp2 : (y / m.c.Pg).toNat < (metP m.c.Pg m.on.length l).length := by unfold metP; rw [tab_len]; exact hp
        rw [tab_getD false hp2, met_of (by omega) hb (by omega) y1 y2 hp]; rfl
    refine ⟨rfl, rfl, ⟨h0, h1⟩, hf, fun b hb hon x x0 x1 => ?_, fun b hb hon y y1 y2 => old b hb y y1 y2 (hon y y1 y2), fun y y1 y2 => ?_⟩
    · have ib := hl b hb
      show (fr.foldl (fun mem p => fillP mem m.c.Sd p m.c.Pg) m.mem).getD (b.at_ + x).toNat 0 = m.mem.getD (b.at_ + x).toNat 0
      refine fills_getD _ _ _ _ _ fun hin => ?_
      have et : (((b.at_ + x).toNat : Nat) : Int) = b.at_ + x := Int.toNat_of_nonneg (by omega)
      rw [et, hfr] at hin
      have h5 := fresh_off hin
      rw [hon (b.at_ + x) (by omega) (by omega)] at h5
      cases h5
    · dsimp only at y1 y2
      have hp := ok.page (y := y) (by omega) (by omega)
      have ht := these_of (pg := m.c.Pg) (a := a) (n := n) (y := y) (by omega) hn h0 y1 y2
      show on'.getD (y / m.c.Pg).toNat false = true
      refine ion _ hp ?_ ?_
      · unfold allP
        rw [tab_getD false hp, ht, Bool.or_true]
      · unfold needP
        have hp2 : (y / m.c.Pg).toNat < (metP m.c.Pg m.on.length l).length := by unfold metP; rw [tab_len]; exact hp
        rw [tab_getD false hp2, ht, Bool.or_true]
/-- Bytes of what is placed do not matter to others. -/
theorem Placed.mem {m m' : Mod} {l : List Blk} {n asked a : Int} (p : Placed m l n asked a m') (hl : BlkIn m.c.H l) {mem : List Int} (h : ∀ i : Nat, ((i : Int) < a ∨ a + n ≤ (i : Int)) → (i : Int) < m.c.H → mem.getD i 0 = m'.mem.getD i 0) : Placed m l n asked a { m' with mem := mem } := by
  refine ⟨p.c, p.bl, p.at_, p.free, fun b hb hon x x0 x1 => ?_, p.on1, p.on2⟩
  have ib := hl b hb
  have ap := freeB_apart p.free b hb
  rw [← p.keep b hb hon x x0 x1]
  have et : (((b.at_ + x).toNat : Nat) : Int) = b.at_ + x := Int.toNat_of_nonneg (by omega)
  exact h _ (by rw [et]; omega) (by rw [et]; omega)
theorem Placed.inv {m m' : Mod} {l : List Blk} {n asked a : Int} (p : Placed m l n asked a m') (ok : m'.Ok) (s : Srt l) (hl : BlkIn m.c.H l) (hon : ∀ b ∈ l, onB m b) (hn : 1 ≤ n) : Inv m' := by
  refine ⟨ok, ?_, fun b hb => ?_⟩
  · rw [p.bl]; exact s.put hn (fun b hb => (hl b hb).2.1) p.free
  · rw [p.bl] at hb
    rcases (putB_mem _ _ _).1 hb with rfl | hb
    · exact p.on2
    · exact p.on1 b hb (hon b hb)
theorem zeroP_getD (mem : List Int) (a n : Int) (i : Nat) : (zeroP mem a n).getD i 0 = if a ≤ (i : Int) ∧ (i : Int) < a + n then 0 else mem.getD i 0 := by
  unfold zeroP
  by_cases hi : i < mem.length
  · rw [tab_getD 0 hi]
  · rw [List.getD_eq_getElem?_getD, List.getD_eq_getElem?_getD, List.getElem?_eq_none (by rw [tab_len]; omega), List.getElem?_eq_none (by omega)]; simp
/-- What is charged, of who is let in. -/
theorem new_charge {c : Cf} {live s a : Int} (h : (newS c.G c.N c.M live s a).2 = 0) : (newS c.G c.N c.M live s a).1 = (c.charge s a).1 := by
  unfold newS at h ⊢
  unfold Cf.charge
  by_cases h1 : (chargeS c.G c.N s a).2 = 0
  · rw [if_pos h1] at h ⊢
    by_cases h2 : live + (chargeS c.G c.N s a).1 > c.M
    · rw [if_pos h2] at h; simp at h
    · rw [if_neg h2]
  · rw [if_neg h1] at h; exact absurd h h1
theorem give_out {m : Mod} (i : Inv m) (o : OpV) (ho : o.k = 1 ∨ o.k = 2 ∨ o.k = 3) (h : (giveM m o).2.err = 0) :
    1 ≤ chargeO m.c o ∧ (giveM m o).2 = ⟨0, (giveM m o).2.at_, 0, 0, 0, 0, 0, 0⟩ ∧ (∃ asked, Placed m m.bl (chargeO m.c o) asked (giveM m o).2.at_ (giveM m o).1) ∧ (o.k = 2 → ∀ x, 0 ≤ x → x < chargeO m.c o → byteAt (giveM m o).1 (giveM m o).2.at_ x = 0) := by
  obtain ⟨g, l, ex⟩ := i.ok.c.exs
  have hr : ((if o.k = 2 then manyS m.c.G m.c.N m.c.M m.live o.n o.s else newS m.c.G m.c.N m.c.M m.live o.s (if o.k = 3 then o.a else 1)).2 = 0 → (if o.k = 2 then manyS m.c.G m.c.N m.c.M m.live o.n o.s else newS m.c.G m.c.N m.c.M m.live o.s (if o.k = 3 then o.a else 1)).1 = chargeO m.c o ∧ 1 ≤ chargeO m.c o) := by
    intro h0
    have e : (if o.k = 2 then manyS m.c.G m.c.N m.c.M m.live o.n o.s else newS m.c.G m.c.N m.c.M m.live o.s (if o.k = 3 then o.a else 1)).1 = chargeO m.c o := by
      unfold chargeO
      by_cases h2 : o.k = 2
      · rw [if_pos h2] at h0 ⊢
        rw [if_pos h2]
        unfold manyS at h0 ⊢
        by_cases hp : (productS m.c.N o.n o.s).2 = 0
        · rw [if_pos hp] at h0 ⊢; exact new_charge h0
        · rw [if_neg hp] at h0; exact absurd h0 hp
      · rw [if_neg h2] at h0 ⊢
        rw [if_neg h2]
        by_cases h3 : o.k = 3
        · rw [if_pos h3] at h0 ⊢
          rw [if_pos h3]; exact new_charge h0
        · rw [if_neg h3] at h0 ⊢
          rw [if_neg h3]; exact new_charge h0
    refine ⟨e, ?_⟩
    rw [← e]
    have cn : ∀ r : Int × Int, (r.2 ≠ 0 ∧ r.1 = 0) ∨ (r.2 = 0 ∧ m.live + r.1 ≤ m.c.M ∧ ∃ k : Nat, k ≤ l ∧ r.1 = ((2 ^ (g + k) : Nat) : Int)) → r.2 = 0 → 1 ≤ r.1 := by
      rintro r (⟨h, _⟩ | ⟨_, _, k, _, e⟩) h0
      · exact absurd h0 h
      · have := Nat.two_pow_pos (g + k); omega
    refine cn _ ?_ h0
    by_cases h2 : o.k = 2
    · rw [if_pos h2]; exact charge_many ex _ _ _
    · rw [if_neg h2]; exact charge_new ex _ _ _
  unfold giveM at h ⊢
  dsimp only at h ⊢
  generalize (if o.k = 2 then manyS m.c.G m.c.N m.c.M m.live o.n o.s else newS m.c.G m.c.N m.c.M m.live o.s (if o.k = 3 then o.a else 1)) = r at h hr ⊢
  generalize (if o.k = 2 then wrap64 (o.n * o.s) else o.s) = s at h ⊢
  by_cases h1 : r.2 = 0
  · rw [if_pos h1] at h ⊢
    obtain ⟨e, hpos⟩ := hr h1
    rw [e] at h ⊢
    by_cases h2 : (placeM m m.bl (chargeO m.c o) s).2.2 = 0
    · rw [if_pos h2]
      have pl := place_out i.ok i.ok.bl (asked := s) hpos h2
      refine ⟨hpos, rfl, ⟨s, ?_⟩, fun k2 x x0 x1 => ?_⟩
      · by_cases k2 : o.k = 2
        · simp only [if_pos k2]
          refine pl.mem i.ok.bl fun j hj _ => ?_
          rw [zeroP_getD, if_neg (by omega)]
        · simp only [if_neg k2]; exact pl
      · simp only [if_pos k2]
        unfold byteAt
        dsimp only
        have et : ((((placeM m m.bl (chargeO m.c o) s).2.1 + x).toNat : Nat) : Int) = (placeM m m.bl (chargeO m.c o) s).2.1 + x := Int.toNat_of_nonneg (by have := pl.at_; omega)
        rw [zeroP_getD, if_pos (by omega)]
    · rw [if_neg h2] at h; exact absurd h h2
  · rw [if_neg h1] at h; exact absurd h h1
theorem splice_getD {q m : List Int} {p a c : Nat} (h1 : p + c ≤ q.length) (h2 : a + c ≤ m.length) (i : Nat) :
    (q.take p ++ (m.drop a).take c ++ q.drop (p + c)).getD i 0 = if p ≤ i ∧ i < p + c then m.getD (a + (i - p)) 0 else q.getD i 0 := by
  have l1 : (q.take p).length = p := by rw [List.length_take]; omega
  have l2 : ((m.drop a).take c).length = c := by rw [List.length_take, List.length_drop]; omega
  simp only [List.getD_eq_getElem?_getD]
  by_cases h3 : i < p
  · rw [if_neg (by omega), List.append_assoc, List.getElem?_append_left (by omega), List.getElem?_take, if_pos h3]
  · by_cases h4 : i < p + c
    · rw [if_pos ⟨by omega, h4⟩, List.getElem?_append_left (by rw [List.length_append]; omega), List.getElem?_append_right (by omega), l1, List.getElem?_take, if_pos (by omega), List.getElem?_drop]
    · rw [if_neg (by omega), List.getElem?_append_right (by rw [List.length_append]; omega), List.length_append, l1, l2, List.getElem?_drop, show p + c + (i - (p + c)) = i by omega]
theorem realloc_out {m : Mod} (i : Inv m) (o : OpV) {A : Nat} (hA : A < m.bl.length) (h4 : o.k = 4) (h : (ofM m o A m.bl[A]).2.err = 0) :
    1 ≤ chargeO m.c o ∧ (ofM m o A m.bl[A]).2 = ⟨0, (ofM m o A m.bl[A]).2.at_, 0, 0, 0, 0, 0, 0⟩ ∧ (∃ asked, Placed m (m.bl.take A ++ m.bl.drop (A + 1)) (chargeO m.c o) asked (ofM m o A m.bl[A]).2.at_ (ofM m o A m.bl[A]).1) ∧
      ∀ x, 0 ≤ x → x < chargeO m.c o → x < m.bl[A].ch → byteAt (ofM m o A m.bl[A]).1 (ofM m o A m.bl[A]).2.at_ x = byteAt m m.bl[A].at_ x := by
  obtain ⟨g, l, ex⟩ := i.ok.c.exs
  have f := i.ok.c.facts
  have hb := i.ok.bl _ (List.getElem_mem hA)
  have hrest := chSum_rest hA
  have hin := i.ok.bl.rest A
  have hrl := chSum_len hin
  have hlive := i.ok.live
  have hmem := i.ok.mem
  have hr : (newS m.c.G m.c.N m.c.M (m.live - m.bl[A].ch) o.s 1).2 = 0 → (newS m.c.G m.c.N m.c.M (m.live - m.bl[A].ch) o.s 1).1 = chargeO m.c o ∧ 1 ≤ chargeO m.c o ∧ m.live - m.bl[A].ch + chargeO m.c o ≤ m.c.M := by
    intro h0
    have e : (newS m.c.G m.c.N m.c.M (m.live - m.bl[A].ch) o.s 1).1 = chargeO m.c o := by
      unfold chargeO; rw [if_neg (by omega), if_neg (by omega)]; exact new_charge h0
    refine ⟨e, ?_⟩
    rw [← e]
    rcases charge_new ex (m.live - m.bl[A].ch) o.s 1 with ⟨h, _⟩ | ⟨_, h2, k, _, e⟩
    · exact absurd h0 h
    · have := Nat.two_pow_pos (g + k); omega
  unfold ofM at h ⊢
  simp only [if_pos h4] at h ⊢
  generalize newS m.c.G m.c.N m.c.M (m.live - m.bl[A].ch) o.s 1 = r at h hr ⊢
  by_cases h1 : r.2 = 0
  · rw [if_pos h1] at h ⊢
    obtain ⟨e, hpos, hlim⟩ := hr h1
    rw [e] at h ⊢
    by_cases h2 : (placeM m (m.bl.take A ++ m.bl.drop (A + 1)) (chargeO m.c o) o.s).2.2 = 0
    · rw [if_pos h2]
      have pl := place_out i.ok hin (asked := o.s) hpos h2
      obtain ⟨y1, y2, _, _⟩ := placeM_ok i.ok (asked := o.s) hpos hin (by omega) h2
      have ym : ((placeM m (m.bl.take A ++ m.bl.drop (A + 1)) (chargeO m.c o) o.s).1.mem.length : Int) = m.c.H := y1.mem.trans (congrArg Cf.H y2)
      have hat := pl.at_
      generalize placeM m (m.bl.take A ++ m.bl.drop (A + 1)) (chargeO m.c o) o.s = q at *
      obtain ⟨p, hp⟩ : ∃ p : Nat, q.2.1 = p := ⟨q.2.1.toNat, (Int.toNat_of_nonneg hat.1).symm⟩
      obtain ⟨a, ha⟩ : ∃ a : Nat, m.bl[A].at_ = a := ⟨m.bl[A].at_.toNat, (Int.toNat_of_nonneg hb.1).symm⟩
      obtain ⟨c, hc⟩ : ∃ c : Nat, min (chargeO m.c o) m.bl[A].ch = c := ⟨(min (chargeO m.c o) m.bl[A].ch).toNat, (Int.toNat_of_nonneg (by omega)).symm⟩
      have emem : q.1.mem.take q.2.1.toNat ++ (m.mem.drop m.bl[A].at_.toNat).take (min (chargeO m.c o) m.bl[A].ch).toNat ++ q.1.mem.drop (q.2.1 + min (chargeO m.c o) m.bl[A].ch).toNat = q.1.mem.take p ++ (m.mem.drop a).take c ++ q.1.mem.drop (p + c) := by
        rw [hp, ha, hc, Int.toNat_natCast, Int.toNat_natCast, Int.toNat_natCast, show ((p : Int) + (c : Int)).toNat = p + c by omega]
      rw [emem]
      have sp := fun i => splice_getD (q := q.1.mem) (m := m.mem) (p := p) (a := a) (c := c) (by omega) (by omega) i
      refine ⟨hpos, rfl, ⟨o.s, pl.mem hin fun j hj _ => ?_⟩, fun x x0 x1 x2 => ?_⟩
      · rw [sp, if_neg (by omega)]
      · unfold byteAt
        dsimp only
        rw [hp, ha, sp, if_pos (by omega)]
        congr 1
        omega
    · rw [if_neg h2] at h; exact absurd h h2
  · rw [if_neg h1] at h; exact absurd h h1
end Go.Proofs.D.S
/- Two models that are alike stay so, and tell the same of what is known. -/
set_option linter.unusedVariables false
namespace Go.Proofs.D.S
open Go Go.RowKit
theorem doM_cases (m : Mod) (o : OpV) :
    ((o.k = 1 ∨ o.k = 2 ∨ o.k = 3) ∧ doM m o = giveM m o) ∨ (o.k = 9 ∧ doM m o = ({ m with on := trimP m.on (metP m.c.Pg m.on.length m.bl) }, ⟨0, 0, goneP m.on (metP m.c.Pg m.on.length m.bl) m.on.length, 0, 0, 0, 0, 0⟩)) ∨
    (o.k = 10 ∧ doM m o = (m, ⟨0, 0, 0, 0, m.live, m.peak, m.mark, cnt m.on⟩)) ∨
    ((o.k = 4 ∨ o.k = 5 ∨ o.k = 6 ∨ o.k = 7 ∨ o.k = 8) ∧ ∃ (A : Nat) (hA : A < m.bl.length), findB m.bl o.p = some A ∧ m.bl[A].at_ = o.p ∧ doM m o = ofM m o A m.bl[A]) ∨ (doM m o).2.err ≠ 0 := by
  unfold doM
  by_cases h1 : o.k = 1 ∨ o.k = 2 ∨ o.k = 3
  · rw [if_pos h1]; exact .inl ⟨h1, rfl⟩
  rw [if_neg h1]
  by_cases h9 : o.k = 9
  · rw [if_pos h9]; exact .inr (.inl ⟨h9, rfl⟩)
  rw [if_neg h9]
  by_cases h10 : o.k = 10
  · rw [if_pos h10]; exact .inr (.inr (.inl ⟨h10, rfl⟩))
  rw [if_neg h10]
  by_cases h4 : o.k = 4 ∨ o.k = 5 ∨ o.k = 6 ∨ o.k = 7 ∨ o.k = 8
  · rw [if_pos h4]
    cases hf : findB m.bl o.p with
    | none => exact .inr (.inr (.inr (.inr (by show (8 : Int) ≠ 0; decide))))
    | some A =>
      obtain ⟨hA, ha⟩ := findB_lt hf
      refine .inr (.inr (.inr (.inl ⟨h4, A, hA, rfl, ha, ?_⟩)))
      dsimp only
      rw [getD_lt _ hA]
  · rw [if_neg h4]; exact .inr (.inr (.inr (.inr (by show (2 : Int) ≠ 0; decide))))
theorem ofM_cases (m : Mod) (o : OpV) (A : Nat) (b : Blk) (ho : o.k = 5 ∨ o.k = 6 ∨ o.k = 7 ∨ o.k = 8) :
    (o.k = 5 ∧ ofM m o A b = ({ m with bl := m.bl.take A ++ m.bl.drop (A + 1), live := m.live - b.ch }, errA 0)) ∨ (o.k = 6 ∧ ofM m o A b = (m, ⟨0, 0, b.ch, 0, 0, 0, 0, 0⟩)) ∨
    (o.k = 7 ∧ (0 ≤ o.n ∧ o.n < b.ch) ∧ ofM m o A b = (m, ⟨0, 0, 0, m.mem.getD (b.at_ + o.n).toNat 0, 0, 0, 0, 0⟩)) ∨
    (o.k = 8 ∧ (0 ≤ o.n ∧ o.n < b.ch) ∧ ofM m o A b = ({ m with mem := m.mem.set (b.at_ + o.n).toNat o.b }, errA 0)) ∨ (ofM m o A b).2.err ≠ 0 := by
  unfold ofM
  dsimp only
  rw [if_neg (by omega)]
  by_cases h5 : o.k = 5
  · rw [if_pos h5]; exact .inl ⟨h5, rfl⟩
  rw [if_neg h5]
  by_cases h6 : o.k = 6
  · rw [if_pos h6]; exact .inr (.inl ⟨h6, rfl⟩)
  rw [if_neg h6]
  by_cases hb : o.n < 0 ∨ o.n ≥ b.ch
  · rw [if_pos hb]; exact .inr (.inr (.inr (.inr (by show (9 : Int) ≠ 0; decide))))
  rw [if_neg hb]
  by_cases h7 : o.k = 7
  · rw [if_pos h7]; exact .inr (.inr (.inl ⟨h7, by omega, rfl⟩))
  · rw [if_neg h7]; exact .inr (.inr (.inr (.inl ⟨by omega, by omega, rfl⟩)))
theorem mem_rest {l : List Blk} {A : Nat} {b : Blk} (h : b ∈ l.take A ++ l.drop (A + 1)) : b ∈ l := by
  rcases List.mem_append.1 h with h | h
  · exact List.mem_of_mem_take h
  · exact List.mem_of_mem_drop h
theorem inv_trim {m : Mod} (i : Inv m) {o : OpV} (h : o.k = 9) : Inv (doM m o).1 := by
  have f := i.ok.c.facts
  obtain ⟨okd, _⟩ := doM_ok i.ok o
  rcases doM_cases m o with ⟨h1, _⟩ | ⟨_, e⟩ | ⟨h1, _⟩ | ⟨h1, _⟩ | he
  · omega
  · rw [e] at okd ⊢
    refine ⟨okd, i.srt, fun b hb y y1 y2 => ?_⟩
    have ib := i.ok.bl b hb
    have hp := i.ok.page (y := y) (by omega) (by omega)
    show (trimP m.on (metP m.c.Pg m.on.length m.bl)).getD (y / m.c.Pg).toNat false = true
    unfold trimP
    rw [tab_getD false hp, i.on b hb y y1 y2, met_of (by omega) hb (by omega) y1 y2 hp]; rfl
  · omega
  · omega
  · rw [doM_fail m o he]; exact i
theorem inv_do {m : Mod} (i : Inv m) (o : OpV) : Inv (doM m o).1 := by
  have f := i.ok.c.facts
  by_cases hne : (doM m o).2.err ≠ 0
  · rw [doM_fail m o hne]; exact i
  have he : (doM m o).2.err = 0 := Decidable.not_not.1 hne
  obtain ⟨okd, hcd⟩ := doM_ok i.ok o
  rcases doM_cases m o with ⟨h1, e⟩ | ⟨h9, e⟩ | ⟨_, e⟩ | ⟨h4, A, hA, hf, ha, e⟩ | h
  · rw [e] at he okd ⊢
    obtain ⟨g1, _, ⟨_, pl⟩, _⟩ := give_out i o h1 he
    exact pl.inv okd i.srt i.ok.bl i.on g1
  · exact inv_trim i h9
  · rw [e]; exact i
  · rw [e] at he okd ⊢
    by_cases k4 : o.k = 4
    · obtain ⟨g1, _, ⟨_, pl⟩, _⟩ := realloc_out i o hA k4 he
      exact pl.inv okd (i.srt.rest A) (i.ok.bl.rest A) (fun b hb => i.on b (mem_rest hb)) g1
    · rcases ofM_cases m o A m.bl[A] (by omega) with ⟨_, e⟩ | ⟨_, e⟩ | ⟨_, _, e⟩ | ⟨_, _, e⟩ | h
      · rw [e] at okd ⊢; exact ⟨okd, i.srt.rest A, fun b hb => i.on b (mem_rest hb)⟩
      · rw [e]; exact i
      · rw [e]; exact i
      · rw [e] at okd ⊢; exact ⟨okd, i.srt, i.on⟩
      · exact absurd he h
  · exact absurd he h
/-- A block of the reader's, and what is live there, in both. -/
def KOk (m1 m2 : Mod) (x : Int × PB) : Prop := ∃ b ∈ m1.bl, b.at_ = x.1 ∧ b.ch = x.2.ch ∧ x.2.no ≤ x.2.ch ∧ (∀ n ∈ x.2.tl, n < x.2.ch) ∧ ∀ n, 0 ≤ n → x.2.knows n = true → byteAt m1 x.1 n = byteAt m2 x.1 n
theorem knows_lt {b : PB} {n : Int} (h1 : b.no ≤ b.ch) (h2 : ∀ n ∈ b.tl, n < b.ch) (h : b.knows n = true) : n < b.ch := by
  unfold PB.knows at h
  rw [Bool.or_eq_true, decide_eq_true_eq] at h
  rcases h with h | h
  · omega
  · exact h2 n (List.contains_iff_mem.1 h)
structure Alike (m1 m2 : Mod) (P : List (Int × PB)) : Prop where
  s : Sim m1 m2
  i1 : Inv m1
  i2 : Inv m2
  nd : NoDup P
  k : ∀ x ∈ P, KOk m1 m2 x
theorem Sim.bl {m1 m2 : Mod} (s : Sim m1 m2) : m2.bl = m1.bl := (congrArg Mod.bl s.1 : m2.bl = (withS m1 m2.c.Sd m2.on m2.mem).bl).trans rfl
theorem Sim.c {m1 m2 : Mod} (s : Sim m1 m2) : m2.c = { m1.c with Sd := m2.c.Sd } := (congrArg Mod.c s.1 : m2.c = (withS m1 m2.c.Sd m2.on m2.mem).c).trans rfl
theorem Sim.charge {m1 m2 : Mod} (s : Sim m1 m2) (o : OpV) : chargeO m2.c o = chargeO m1.c o := by rw [s.c]; rfl
theorem Alike.trim1 {m1 m2 : Mod} {P : List (Int × PB)} (a : Alike m1 m2 P) {o : OpV} (h : o.k = 9) : Alike (doM m1 o).1 m2 P := by
  have i := inv_trim a.i1 h
  have e : doM m1 o = ({ m1 with on := trimP m1.on (metP m1.c.Pg m1.on.length m1.bl) }, ⟨0, 0, goneP m1.on (metP m1.c.Pg m1.on.length m1.bl) m1.on.length, 0, 0, 0, 0, 0⟩) := by
    unfold doM; rw [if_neg (by omega), if_pos h]
  rw [e] at i ⊢
  refine ⟨⟨a.s.1, ?_⟩, i, a.i2, a.nd, a.k⟩
  have := a.s.2
  dsimp only
  unfold trimP
  rw [tab_len]; exact this
theorem Alike.trim2 {m1 m2 : Mod} {P : List (Int × PB)} (a : Alike m1 m2 P) {o : OpV} (h : o.k = 9) : Alike m1 (doM m2 o).1 P := by
  have i := inv_trim a.i2 h
  have e : doM m2 o = ({ m2 with on := trimP m2.on (metP m2.c.Pg m2.on.length m2.bl) }, ⟨0, 0, goneP m2.on (metP m2.c.Pg m2.on.length m2.bl) m2.on.length, 0, 0, 0, 0, 0⟩) := by
    unfold doM; rw [if_neg (by omega), if_pos h]
  rw [e] at i ⊢
  refine ⟨⟨?_, ?_⟩, a.i1, i, a.nd, a.k⟩
  · have := a.s.1
    show ({ m2 with on := trimP m2.on (metP m2.c.Pg m2.on.length m2.bl) } : Mod) = withS m1 m2.c.Sd (trimP m2.on (metP m2.c.Pg m2.on.length m2.bl)) m2.mem
    generalize trimP m2.on (metP m2.c.Pg m2.on.length m2.bl) = z
    rw [this]; rfl
  · have := a.s.2
    dsimp only
    unfold trimP
    rw [tab_len]; exact this
theorem KOk.keep {m1 m2 m1' m2' : Mod} {x : Int × PB} (h : KOk m1 m2 x) (hb : ∀ b ∈ m1.bl, b.at_ = x.1 → b ∈ m1'.bl ∧ (∀ n, 0 ≤ n → n < b.ch → byteAt m1' b.at_ n = byteAt m1 b.at_ n) ∧ (∀ n, 0 ≤ n → n < b.ch → byteAt m2' b.at_ n = byteAt m2 b.at_ n)) : KOk m1' m2' x := by
  obtain ⟨b, b1, b2, b3, b4, b5, b6⟩ := h
  obtain ⟨c1, c2, c3⟩ := hb b b1 b2
  refine ⟨b, c1, b2, b3, b4, b5, fun n n0 hn => ?_⟩
  have hl := knows_lt b4 b5 hn
  have e1 := c2 n n0 (by omega)
  have e2 := c3 n n0 (by omega)
  rw [b2] at e1 e2
  rw [e1, e2, b6 n n0 hn]
theorem set_getD {l : List Int} {i j : Nat} {v : Int} (h : i < l.length) : (l.set i v).getD j 0 = if j = i then v else l.getD j 0 := by
  rw [List.getD_eq_getElem?_getD, List.getD_eq_getElem?_getD]
  by_cases e : j = i
  · subst e; rw [if_pos rfl, List.getElem?_set_self h]; rfl
  · rw [if_neg e, List.getElem?_set_ne (fun x => e x.symm)]
theorem new_knows {ch no n : Int} (h : n ≥ no) : (⟨ch, no, []⟩ : PB).knows n = false := by
  unfold PB.knows
  rw [decide_eq_false (by dsimp only; omega)]; rfl
theorem same_block {l : List Blk} (s : Srt l) (hc : ∀ b ∈ l, 1 ≤ b.ch) {b b2 : Blk} (h : b ∈ l) (h2 : b2 ∈ l) (e : b.at_ = b2.at_) : b = b2 := by
  obtain ⟨A, hA, f1, e1⟩ := findB_mem s hc h
  obtain ⟨B, hB, f2, e2⟩ := findB_mem s hc h2
  rw [e, f2] at f1
  cases f1
  rw [← e1, ← e2]
theorem mem_or_rest {l : List Blk} {A : Nat} (hA : A < l.length) {b : Blk} (h : b ∈ l) : b = l[A] ∨ b ∈ l.take A ++ l.drop (A + 1) := List.mem_cons.1 ((rest_perm hA).mem_iff.1 h)
theorem alike_do {m1 m2 : Mod} {P : List (Int × PB)} (al : Alike m1 m2 P) (o : OpV) (he : (doM m1 o).2.err = 0) (h9 : o.k ≠ 9) :
    (doesS m1.c P o (doM m1 o).2).2 = (doesS m2.c P o (doM m2 o).2).2 ∧ (doesS m1.c P o (doM m1 o).2).1 = (doesS m2.c P o (doM m2 o).2).1 ∧ Alike (doM m1 o).1 (doM m2 o).1 (doesS m1.c P o (doM m1 o).2).1 := by
  obtain ⟨hmask, hsim⟩ := sim_do al.s o
  have j1 := inv_do al.i1 o
  have j2 := inv_do al.i2 o
  have hch := al.s.charge o
  have hbl := al.s.bl
  have pos1 : ∀ b ∈ m1.bl, 1 ≤ b.ch := fun b hb => (al.i1.ok.bl b hb).2.1
  -- answers that are the same
  have same : o.k ≠ 7 → o.k ≠ 10 → (doM m2 o).2 = (doM m1 o).2 := by
    intro h7 h10
    unfold maskA at hmask
    rwa [if_neg h7, if_neg h9, if_neg h10, if_neg h7, if_neg h9, if_neg h10] at hmask
  have he2 : (doM m2 o).2.err = 0 := by
    have : (maskA o (doM m2 o).2).err = (maskA o (doM m1 o).2).err := by rw [hmask]
    have e : ∀ a, (maskA o a).err = a.err := by
      intro a; unfold maskA
      by_cases z7 : o.k = 7
      · rw [if_pos z7]
      · rw [if_neg z7, if_neg h9]
        by_cases z10 : o.k = 10
        · rw [if_pos z10]
        · rw [if_neg z10]
    rw [e, e] at this
    rw [this]; exact he
  rcases doM_cases m1 o with ⟨h1, e⟩ | ⟨h, _⟩ | ⟨h10, e⟩ | ⟨h4, A, hA, hf, ha, e⟩ | h
  · -- a block is given
    have sm := same (by omega) (by omega)
    have e2 : doM m2 o = giveM m2 o := by unfold doM; rw [if_pos h1]
    have ge := he
    have ge2 := he2
    rw [e] at ge
    rw [e2] at ge2
    obtain ⟨g1, _, ⟨_, p1⟩, z1⟩ := give_out al.i1 o h1 ge
    obtain ⟨g2, _, ⟨_, p2⟩, z2⟩ := give_out al.i2 o h1 ge2
    rw [← e] at p1 z1
    rw [← e2] at p2 z2
    rw [sm] at p2 z2
    rw [hch] at p2 z2
    have key : ∀ no : Int, no ≤ chargeO m1.c o → (o.k = 2 ∨ no = 0) → Alike (doM m1 o).1 (doM m2 o).1 (aPut P (doM m1 o).2.at_ ⟨chargeO m1.c o, no, []⟩) := by
      intro no hno hk
      refine ⟨hsim, j1, j2, al.nd.put, fun x hx => ?_⟩
      rcases aPut_mem hx with rfl | hx
      · refine ⟨_, by rw [p1.bl]; exact (putB_mem _ _ _).2 (.inl rfl), rfl, rfl, hno, (fun n hn => (by cases hn)), fun n n0 hn => ?_⟩
        dsimp only at hn ⊢
        by_cases hlt : n < no
        · rcases hk with k2 | k0
          · rw [z1 k2 n n0 (by omega), z2 k2 n n0 (by omega)]
          · omega
        · rw [new_knows (by omega)] at hn; cases hn
      · refine (al.k x hx).keep fun b hb _ => ⟨by rw [p1.bl]; exact (putB_mem _ _ _).2 (.inr hb), p1.keep b hb (al.i1.on b hb), p2.keep b (by rw [hbl]; exact hb) (al.i2.on b (by rw [hbl]; exact hb))⟩
    rw [sm]
    by_cases k2 : o.k = 2
    · have d : ∀ c, doesS c P o (doM m1 o).2 = (aPut P (doM m1 o).2.at_ ⟨chargeO c o, chargeO c o, []⟩, (doM m1 o).2) := by
        intro c; unfold doesS; rw [if_neg (by omega), if_pos k2]
      rw [d, d, hch]
      exact ⟨rfl, rfl, key _ (Int.le_refl _) (.inl k2)⟩
    · have d : ∀ c, doesS c P o (doM m1 o).2 = (aPut P (doM m1 o).2.at_ ⟨chargeO c o, 0, []⟩, (doM m1 o).2) := by
        intro c; unfold doesS; rw [if_pos (by omega)]
      rw [d, d, hch]
      exact ⟨rfl, rfl, key 0 (by omega) (.inr rfl)⟩
  · exact absurd h h9
  · -- figures
    have e2 : (doM m2 o).1 = m2 := by
      unfold doM; rw [if_neg (by omega), if_neg h9, if_pos h10]
    have d : ∀ c a, doesS c P o a = (P, { a with pages := 0 }) := by
      intro c a; unfold doesS
      rw [if_neg (by omega), if_neg (by omega), if_neg (by omega), if_neg (by omega), if_neg (by omega), if_neg (by omega), if_pos h10]
    have e1 : (doM m1 o).1 = m1 := by rw [e]
    unfold maskA at hmask
    rw [if_neg (by omega), if_neg h9, if_pos h10, if_neg (by omega), if_neg h9, if_pos h10] at hmask
    rw [d, d, e1, e2]
    exact ⟨hmask.symm, rfl, al⟩
  · -- a block is asked about
    have hA2 : A < m2.bl.length := by rw [hbl]; exact hA
    have eA : m2.bl[A] = m1.bl[A] := by
      have : m2.bl[A]? = m1.bl[A]? := by rw [hbl]
      rw [List.getElem?_eq_getElem hA2, List.getElem?_eq_getElem hA] at this
      exact Option.some.inj this
    have hf2 : findB m2.bl o.p = some A := by rw [hbl]; exact hf
    have e2 : doM m2 o = ofM m2 o A m2.bl[A] := by
      unfold doM
      rw [if_neg (by omega), if_neg h9, if_neg (by omega), if_pos h4, hf2]
      dsimp only
      rw [getD_lt _ hA2]
    have hbA : m1.bl[A] ∈ m1.bl := List.getElem_mem hA
    have inA := al.i1.ok.bl _ hbA
    -- what the reader knows of it
    have kA : ∀ pb, aGet P o.p = some pb → KOk m1 m2 (o.p, pb) ∧ pb.ch = m1.bl[A].ch := by
      intro pb hp
      have k := al.k _ (aGet_mem hp)
      refine ⟨k, ?_⟩
      obtain ⟨b, b1, b2, b3, _⟩ := k
      rw [← same_block al.i1.srt pos1 b1 hbA (by rw [b2]; exact ha.symm)]
      exact b3.symm
    by_cases k4 : o.k = 4
    · have sm := same (by omega) (by omega)
      have ge := he
      have ge2 := he2
      rw [e] at ge
      rw [e2] at ge2
      obtain ⟨g1, _, ⟨ask, p1⟩, z1⟩ := realloc_out al.i1 o hA k4 ge
      obtain ⟨g2, _, ⟨_, p2⟩, z2⟩ := realloc_out al.i2 o hA2 k4 ge2
      rw [← e] at p1 z1
      rw [← e2] at p2 z2
      rw [sm] at p2 z2
      rw [hch] at p2 z2
      rw [eA, ha] at z2
      rw [ha] at z1
      have d : ∀ c, doesS c P o (doM m1 o).2 = (aPut (aDel P o.p) (doM m1 o).2.at_ (movedS (aGet P o.p) (chargeO c o)), (doM m1 o).2) := by
        intro c; unfold doesS; rw [if_neg (by omega), if_neg (by omega), if_pos k4]
      rw [sm, d, d, hch]
      refine ⟨rfl, rfl, hsim, j1, j2, (al.nd.del _).put, fun x hx => ?_⟩
      dsimp only at hx
      rcases aPut_mem hx with rfl | hx
      · have hnew : (⟨(doM m1 o).2.at_, chargeO m1.c o, ask⟩ : Blk) ∈ (doM m1 o).1.bl := by rw [p1.bl]; exact (putB_mem _ _ _).2 (.inl rfl)
        refine ⟨_, hnew, rfl, ?_, ?_, ?_, fun n n0 hn => ?_⟩
        · dsimp only; cases aGet P o.p <;> rfl
        · dsimp only
          cases aGet P o.p with
          | none => show (0 : Int) ≤ chargeO m1.c o; omega
          | some pb => show min pb.no (chargeO m1.c o) ≤ chargeO m1.c o; omega
        · dsimp only
          cases aGet P o.p with
          | none => intro n hn; cases hn
          | some pb =>
            intro n hn
            have hn : n ∈ pb.tl.filter fun n => decide (n < chargeO m1.c o) := hn
            have := (List.mem_filter.1 hn).2
            show n < chargeO m1.c o
            exact of_decide_eq_true this
        · dsimp only at hn ⊢
          cases hp : aGet P o.p with
          | none =>
            rw [hp] at hn
            have hn : (⟨chargeO m1.c o, 0, []⟩ : PB).knows n = true := hn
            rw [new_knows (by omega)] at hn; cases hn
          | some pb =>
            rw [hp] at hn
            obtain ⟨⟨b, _, _, _, b4, b5, b6⟩, kc⟩ := kA pb hp
            dsimp only at b4 b5 b6
            have hk : pb.knows n = true ∧ n < chargeO m1.c o := by
              have hn : (⟨chargeO m1.c o, min pb.no (chargeO m1.c o), pb.tl.filter fun n => decide (n < chargeO m1.c o)⟩ : PB).knows n = true := hn
              unfold PB.knows at hn ⊢
              rw [Bool.or_eq_true, decide_eq_true_eq] at hn ⊢
              dsimp only at hn
              rcases hn with h | h
              · exact ⟨.inl (by omega), by omega⟩
              · have h2 := List.mem_filter.1 (List.contains_iff_mem.1 h)
                exact ⟨.inr (List.contains_iff_mem.2 h2.1), by simpa using h2.2⟩
            have hlt := knows_lt b4 b5 hk.1
            rw [z1 n n0 hk.2 (by omega), z2 n n0 hk.2 (by omega)]
            exact b6 n n0 hk.1
      · obtain ⟨x1, x2⟩ := aDel_ne al.nd hx
        refine (al.k x x2).keep fun b hb hbx => ?_
        have hr : b ∈ m1.bl.take A ++ m1.bl.drop (A + 1) := by
          rcases mem_or_rest hA hb with rfl | h
          · exact absurd (hbx.symm.trans ha) x1
          · exact h
        have hr2 : b ∈ m2.bl.take A ++ m2.bl.drop (A + 1) := by rw [hbl]; exact hr
        exact ⟨by rw [p1.bl]; exact (putB_mem _ _ _).2 (.inr hr), p1.keep b hr (al.i1.on b hb), p2.keep b hr2 (al.i2.on b (mem_rest hr2))⟩
    · have ge := he
      rw [e] at ge
      rcases ofM_cases m1 o A m1.bl[A] (by omega) with ⟨k5, f1⟩ | ⟨k6, f1⟩ | ⟨k7, hn, f1⟩ | ⟨k8, hn, f1⟩ | h
      · -- it goes
        have sm := same (by omega) (by omega)
        have f2 : ofM m2 o A m2.bl[A] = ({ m2 with bl := m2.bl.take A ++ m2.bl.drop (A + 1), live := m2.live - m2.bl[A].ch }, errA 0) := by
          unfold ofM; dsimp only; rw [if_neg (by omega), if_pos k5]
        have d : ∀ c a, doesS c P o a = (aDel P o.p, a) := by
          intro c a; unfold doesS; rw [if_neg (by omega), if_neg (by omega), if_neg (by omega), if_pos k5]
        rw [sm, d, d]
        refine ⟨rfl, rfl, hsim, j1, j2, al.nd.del _, fun x hx => ?_⟩
        dsimp only at hx
        obtain ⟨x1, x2⟩ := aDel_ne al.nd hx
        refine (al.k x x2).keep fun b hb hbx => ?_
        have hr : b ∈ m1.bl.take A ++ m1.bl.drop (A + 1) := by
          rcases mem_or_rest hA hb with rfl | h
          · exact absurd (hbx.symm.trans ha) x1
          · exact h
        rw [e, f1, e2, f2]
        exact ⟨hr, fun _ _ _ => rfl, fun _ _ _ => rfl⟩
      · have sm := same (by omega) (by omega)
        have f2 : (ofM m2 o A m2.bl[A]).1 = m2 := by
          unfold ofM; dsimp only; rw [if_neg (by omega), if_neg (by omega), if_pos k6]
        have d : ∀ c a, doesS c P o a = (P, a) := by
          intro c a; unfold doesS; rw [if_neg (by omega), if_neg (by omega), if_neg (by omega), if_neg (by omega), if_neg (by omega), if_neg (by omega), if_neg (by omega)]
        rw [sm, d, d]
        rw [e, f1, e2, f2]
        exact ⟨rfl, rfl, al⟩
      · -- a byte is told
        have f2 : ofM m2 o A m2.bl[A] = (m2, ⟨0, 0, 0, m2.mem.getD (m2.bl[A].at_ + o.n).toNat 0, 0, 0, 0, 0⟩) := by
          unfold ofM; dsimp only; rw [if_neg (by omega), if_neg (by omega), if_neg (by omega), if_neg (by rw [eA]; omega), if_pos k7]
        have d : ∀ c a, doesS c P o a = (P, if knowsS P o.p o.n = true then a else { a with byte := 0 }) := by
          intro c a; unfold doesS; rw [if_neg (by omega), if_neg (by omega), if_neg (by omega), if_neg (by omega), if_neg (by omega), if_pos k7]
        rw [d, d]
        rw [e, f1, e2, f2]
        refine ⟨?_, rfl, al⟩
        dsimp only
        by_cases kn : knowsS P o.p o.n = true
        · rw [if_pos kn, if_pos kn]
          unfold knowsS at kn
          cases hp : aGet P o.p with
          | none => rw [hp] at kn; cases kn
          | some pb =>
            rw [hp] at kn
            obtain ⟨⟨b, _, _, _, _, _, b6⟩, _⟩ := kA pb hp
            have := b6 o.n hn.1 kn
            unfold byteAt at this
            dsimp only at this
            rw [eA, ha, this]
        · rw [if_neg kn, if_neg kn]
      · -- a byte is stored
        have sm := same (by omega) (by omega)
        have f2 : ofM m2 o A m2.bl[A] = ({ m2 with mem := m2.mem.set (m2.bl[A].at_ + o.n).toNat o.b }, errA 0) := by
          unfold ofM; dsimp only; rw [if_neg (by omega), if_neg (by omega), if_neg (by omega), if_neg (by rw [eA]; omega), if_neg (by omega)]
        have l1 := al.i1.ok.mem
        have l2 := al.i2.ok.mem
        have hH : m2.c.H = m1.c.H := by rw [al.s.c]
        rw [eA] at e2
        rw [eA, ha] at f2
        rw [ha] at f1
        have by1 : ∀ a n, byteAt (doM m1 o).1 a n = if (a + n).toNat = (o.p + o.n).toNat then o.b else byteAt m1 a n := by
          intro a n; rw [e, f1]; unfold byteAt; dsimp only; rw [set_getD (by omega)]
        have by2 : ∀ a n, byteAt (doM m2 o).1 a n = if (a + n).toNat = (o.p + o.n).toNat then o.b else byteAt m2 a n := by
          intro a n; rw [e2, f2]; unfold byteAt; dsimp only; rw [set_getD (by omega)]
        have b1 : (doM m1 o).1.bl = m1.bl := by rw [e, f1]
        have kk : ∀ x ∈ P, KOk (doM m1 o).1 (doM m2 o).1 x := by
          intro x hx
          obtain ⟨b, c1, c2, c3, c4, c5, c6⟩ := al.k x hx
          refine ⟨b, by rw [b1]; exact c1, c2, c3, c4, c5, fun n n0 hn => ?_⟩
          rw [by1, by2, c6 n n0 hn]
        have d : ∀ c a, doesS c P o a = (match aGet P o.p with
            | some b => if b.knows o.n = true then (P, a) else (aPut P o.p { b with tl := b.tl ++ [o.n] }, a)
            | none => (P, a)) := by
          intro c a; unfold doesS; (rw [if_neg (by omega), if_neg (by omega), if_neg (by omega), if_neg (by omega), if_pos k8]) <;> rfl
        rw [sm, d, d]
        cases hp : aGet P o.p with
        | none => exact ⟨rfl, rfl, hsim, j1, j2, al.nd, kk⟩
        | some pb =>
          dsimp only
          by_cases kn : pb.knows o.n = true
          · rw [if_pos kn]; exact ⟨rfl, rfl, hsim, j1, j2, al.nd, kk⟩
          · rw [if_neg kn]
            refine ⟨rfl, rfl, hsim, j1, j2, al.nd.put, fun x hx => ?_⟩
            dsimp only at hx
            rcases aPut_mem hx with rfl | hx
            · obtain ⟨⟨b, c1, c2, c3, c4, c5, c6⟩, kc⟩ := kA pb hp
              dsimp only at c2 c3 c4 c5 c6
              refine ⟨b, by rw [b1]; exact c1, c2, c3, c4, fun n hn => ?_, fun n n0 hn => ?_⟩
              · rcases List.mem_append.1 hn with h | h
                · exact c5 n h
                · simp at h; subst h; dsimp only; omega
              · dsimp only at hn ⊢
                rw [by1, by2]
                by_cases hq : (o.p + n).toNat = (o.p + o.n).toNat
                · rw [if_pos hq, if_pos hq]
                · rw [if_neg hq, if_neg hq]
                  refine c6 n n0 ?_
                  unfold PB.knows at hn ⊢
                  rw [Bool.or_eq_true] at hn ⊢
                  rcases hn with h | h
                  · exact .inl h
                  · right
                    rcases List.mem_append.1 (List.contains_iff_mem.1 h) with h | h
                    · exact List.contains_iff_mem.2 h
                    · simp at h; subst h; exact absurd rfl hq
            · exact kk x hx
      · exact absurd ge h
  · exact absurd he h
theorem alike_fail {m1 m2 : Mod} {P : List (Int × PB)} (al : Alike m1 m2 P) (o : OpV) : ((doM m1 o).2.err = 0 ↔ (doM m2 o).2.err = 0) := by
  obtain ⟨hmask, _⟩ := sim_do al.s o
  have : (maskA o (doM m2 o).2).err = (maskA o (doM m1 o).2).err := by rw [hmask]
  have e : ∀ a, (maskA o a).err = a.err := by
    intro a; unfold maskA
    by_cases z7 : o.k = 7
    · rw [if_pos z7]
    · rw [if_neg z7]
      by_cases z9 : o.k = 9
      · rw [if_pos z9]
      · rw [if_neg z9]
        by_cases z10 : o.k = 10
        · rw [if_pos z10]
        · rw [if_neg z10]
  rw [e, e] at this
  rw [this]
/-- All but Trims. -/
def noTrim (l : List OpV) : List OpV := l.filter fun o => decide (o.k ≠ 9)
theorem plainS_cons (c : Cf) (P : List (Int × PB)) (o : OpV) (l : List OpV) (a : AnsV) (az : List AnsV) : plainS c P (o :: l) (a :: az) = if a.err = 0 ∧ o.k ≠ 9 then (doesS c P o a).2 :: plainS c (doesS c P o a).1 l az else plainS c P l az := rfl
/-- Trims left out of the second. -/
theorem alike_trims (allM : Mod → List OpV → Mod × List AnsV) (hn : ∀ m, allM m [] = (m, [])) (hc : ∀ m o l, allM m (o :: l) = ((allM (doM m o).1 l).1, (doM m o).2 :: (allM (doM m o).1 l).2)) (c : Cf) :
    ∀ (ops : List OpV) (m1 m2 : Mod) (P : List (Int × PB)), Alike m1 m2 P → m1.c = c → plainS c P ops (allM m1 ops).2 = plainS m2.c P (noTrim ops) (allM m2 (noTrim ops)).2
  | [], m1, m2, P, al, h => by
    unfold noTrim
    rw [List.filter_nil, hn, hn]; rfl
  | o :: ops, m1, m2, P, al, h => by
    have c1 := (doM_ok al.i1.ok o).2
    have c2 := (doM_ok al.i2.ok o).2
    unfold noTrim
    rw [List.filter_cons]
    by_cases h9 : o.k = 9
    · rw [if_neg (by simp [h9]), hc, plainS_cons, if_neg (fun e => e.2 h9)]
      exact alike_trims allM hn hc c ops _ m2 P (al.trim1 h9) (c1.trans h)
    · rw [if_pos (by simp [h9]), hc, hc, plainS_cons, plainS_cons]
      by_cases he : (doM m1 o).2.err = 0
      · have he2 := (alike_fail al o).1 he
        obtain ⟨a1, a2, a3⟩ := alike_do al o he h9
        rw [if_pos ⟨he, h9⟩, if_pos ⟨he2, h9⟩]
        rw [h] at a1 a2 a3
        rw [a1, ← a2]
        have ih := alike_trims allM hn hc c ops _ _ _ a3 (c1.trans h)
        rw [c2] at ih
        rw [ih]; rfl
      · have he2 : ¬ (doM m2 o).2.err = 0 := fun e => he ((alike_fail al o).2 e)
        rw [if_neg (fun e => he e.1), if_neg (fun e => he2 e.1), doM_fail m1 o he, doM_fail m2 o he2]
        exact alike_trims allM hn hc c ops m1 m2 P al h
/-- Both, the same calls. -/
theorem alike_both (allM : Mod → List OpV → Mod × List AnsV) (hn : ∀ m, allM m [] = (m, [])) (hc : ∀ m o l, allM m (o :: l) = ((allM (doM m o).1 l).1, (doM m o).2 :: (allM (doM m o).1 l).2)) :
    ∀ (ops : List OpV) (m1 m2 : Mod) (P : List (Int × PB)), Alike m1 m2 P → plainS m1.c P ops (allM m1 ops).2 = plainS m2.c P ops (allM m2 ops).2
  | [], m1, m2, P, al => by rw [hn, hn]; rfl
  | o :: ops, m1, m2, P, al => by
    have c1 := (doM_ok al.i1.ok o).2
    have c2 := (doM_ok al.i2.ok o).2
    rw [hc, hc, plainS_cons, plainS_cons]
    by_cases h9 : o.k = 9
    · rw [if_neg (fun e => e.2 h9), if_neg (fun e => e.2 h9)]
      have ih := alike_both allM hn hc ops _ _ P ((al.trim1 h9).trim2 h9)
      rw [c1, c2] at ih
      exact ih
    · by_cases he : (doM m1 o).2.err = 0
      · have he2 := (alike_fail al o).1 he
        obtain ⟨a1, a2, a3⟩ := alike_do al o he h9
        rw [if_pos ⟨he, h9⟩, if_pos ⟨he2, h9⟩, a1, ← a2]
        have ih := alike_both allM hn hc ops _ _ _ a3
        rw [c1, c2] at ih
        rw [ih]
      · have he2 : ¬ (doM m2 o).2.err = 0 := fun e => he ((alike_fail al o).2 e)
        rw [if_neg (fun e => he e.1), if_neg (fun e => he2 e.1), doM_fail m1 o he, doM_fail m2 o he2]
        exact alike_both allM hn hc ops m1 m2 P al
end Go.Proofs.D.S
/- SameKnown: whatever the numbers, the law answers yes. -/
set_option linter.unusedVariables false
set_option linter.unusedSimpArgs false
namespace Go.Proofs.D.S
open Go Go.RowKit
/-- Two models' rows, apart from some that are held. -/
structure Two (G : GH) (xs : List Nat) (bi oi mi : Nat) (m : Mod) (bj oj mj : Nat) (n : Mod) : Prop where
  s1 : Md G bi oi mi m
  a1 : MdA G xs bi oi mi
  s2 : Md G bj oj mj n
  a2 : MdA G xs bj oj mj
theorem Two.fo {G G' : GH} {x : Nat} {xs xs' : List Nat} {bi oi mi bj oj mj : Nat} {m n : Mod} (t : Two G xs bi oi mi m bj oj mj n) (f : Fo x G G') (w : G.wf) (hx : x ∈ xs) (h : ∀ y ∈ xs', y ∈ xs ∨ G.next ≤ y) : Two G' xs' bi oi mi m bj oj mj n :=
  ⟨t.s1.fo f w hx t.a1, t.a1.fo f h, t.s2.fo f w hx t.a2, t.a2.fo f h⟩
theorem hodmanlaw24_SameKnown.law {G : GH} (hG : Beg G) {id : Nat} {xs : List Int} (hs : Sl G eU8 id 0 xs) (hb : Bytes xs) {id2 : Nat} {ys : List Int} (hs2 : Sl G eU8 id2 0 ys) (hb2 : Bytes ys) {seed : Int} (hsd : 0 ≤ seed ∧ seed ≤ 255) :
    OkT (CW hodmanlaw24_SameKnown.id [.c (.sl 1 id 0 xs.length), .c (.sl 1 id2 0 ys.length), .c (.int .u8 seed)] G) := by
  obtain ⟨G1, e1, f1⟩ := hodmanlaw24_begun.sp hG
  rw [hodmanlaw24_SameKnown.cw]
  unfold hodmanlaw24_SameKnown.f
  simp only [e1, q_bs, q_I, q_B, q_P, q_S, q_M, q_c, q_a, q_gz, q_gs, q_gk, q_ct, q_cf, q_nt, q_nf, q_xt, q_xf, q_tt, q_ff, q_tf, q_ft, q_at, q_af]
  by_cases h6 : (xs.length : Int) > 6
  · rw [condD_pos h6, hodmanlaw24_SameKnown.J13_eq, q_ct]; exact ⟨_, rfl⟩
  rw [condD_neg h6, hodmanlaw24_SameKnown.J13_eq]
  by_cases h40 : (ys.length : Int) > 150
  · rw [condD_pos h40]; exact ⟨_, rfl⟩
  rw [condD_neg h40]
  have h0 := Hp.refl f1.wf
  have p0 : PkOk G1 [] id 0 xs.length xs := ⟨.old (f1.sl _ _ _ _ hs), hb, rfl, by omega⟩
  obtain ⟨pid, G2, e2, h2⟩ := hodmanplay_Made.sp h0 id 0 xs.length
  obtain ⟨r, j, G3, e3, h3, rok, _, _⟩ := hodmanplay_Picks_Raw.sp h2 p0 (by omega) (by omega) true
  simp only [e2, e3, q_bs, q_I, q_B, q_P, q_S, q_M, q_c, q_a, q_gz, q_gs, q_gk, q_ct, q_cf, q_nt, q_nf, q_xt, q_xf, q_tt, q_ff, q_tf, q_ft, q_at, q_af, List.length_cons, List.length_nil, if_true]
  obtain ⟨g0, c0, q0, sm⟩ := rok.cfSmall
  have hof := rok.ofC
  have sl2 : Sl G3 eU8 id2 0 ys := (f1.sl _ _ _ _ hs2).keep h3
  have hw := h3.wf
  have hpl : ys.length ≤ 150 := by omega
  clear e1 e2 e3 h3 h2 p0 h0
  have ok := sm.ok
  have hof2 : ofC { r with se := seed } = ({ cfOf r with Sd := seed }, 0) := by
    have hin := rok.inS
    obtain ⟨_, _, _, _, _, hH⟩ := rok.small
    have hin2 : ({ r with se := seed } : Rw).In := by
      unfold InS at hin
      show InS r.g r.la r.li r.pa r.bu seed
      unfold InS; omega
    unfold ofC
    rw [if_pos hin2, if_neg (by dsimp only; omega)]; rfl
  obtain ⟨oi, mi, G4, e4, h4, s4, no, nm⟩ := hodmanref17_New.spV hw hof ok
  rw [e4]
  clear e4 sm rok hof
  have ok2 : ({ cfOf r with Sd := seed } : Cf).Ok := by
    have h := ofC_ok (r := { r with se := seed }) (by rw [hof2])
    rw [hof2] at h; exact h
  obtain ⟨oj, mj, G5, e5, h5, s5, no2, nm2⟩ := hodmanref17_New.spV h4.wf hof2 ok2
  have e5' : CW hodmanref17_New.id [.agg [.int .i64 r.g, .int .i64 r.la, .int .i64 r.li, .int .i64 r.pa, .int .i64 r.bu, .int .i64 seed]] G4 = _ := e5
  simp only [q_bs, q_I, q_B, q_P, q_S, q_M, q_c, q_a, q_gz, q_gs, q_gk, q_ct, q_cf, q_nt, q_nf, q_xt, q_xf, q_tt, q_ff, q_tf, q_ft, q_at, q_af, List.length_cons, List.length_nil, if_true, decide_true, i64w, wrap_id (a := seed) (by omega) (by omega)]
  rw [e5']
  clear e5 e5' hof2
  generalize cfOf r = C at *
  have fs := ok.facts
  simp only [q_bs, q_I, q_B, q_P, q_S, q_M, q_c, q_a, q_gz, q_gs, q_gk, q_ct, q_cf, q_nt, q_nf, q_xt, q_xf, q_tt, q_ff, q_tf, q_ft, q_at, q_af, List.length_cons, List.length_nil, if_true]
  have pp : PkOk G5 [] id2 0 ys.length ys := ⟨.old ((sl2.keep h4).keep h5), hb2, rfl, by omega⟩
  obtain ⟨lid, l, G6, e6, h6', hl, hll, hpk⟩ := hodmanlaw23_Client.spP (c := C) (Hp.refl h5.wf) pp (A := 40) (by omega)
  simp only [newM] at e6 ⊢
  rw [e6]
  clear e6
  simp only [q_bs, q_I, q_B, q_P, q_S, q_M, q_c, q_a, q_gz, q_gs, q_gk, q_ct, q_cf, q_nt, q_nf, q_xt, q_xf, q_tt, q_ff, q_tf, q_ft, q_at, q_af]
  have hm : (1000000001 : Nat) ≤ most := by unfold most; decide
  rw [guardD_of (by omega), Int.toNat_natCast]
  have h7 := h6'.alloc (.row (reps l.length [.int .i64 0]) false)
  rw [reps_tab (e := eI) l.length (0 : Int)] at h7 ⊢
  have x7 : Hp G6 (G6.alloc (.row (cells eI (tab l.length fun _ => (0 : Int))) false)) [_] := (Hp.refl h6'.wf).alloc (.row (cells eI (tab l.length fun _ => (0 : Int))) false)
  have t7 : Two (G6.alloc (.row (cells eI (tab l.length fun _ => (0 : Int))) false)) [G6.next, 0, 0, 0] 0 oi mi (newM C) 0 oj mj (newM { C with Sd := seed }) := by
    have w4 := h4.wf.2
    have w5 := h5.wf.2
    have y5 := h5.nx
    have y6 := h6'.nx
    have q : ∀ i, i < G6.next → Ap (G6.alloc (.row (cells eI (tab l.length fun _ => (0 : Int))) false)) [G6.next, 0, 0, 0] i := fun i hi => ⟨by rw [GH.next_alloc]; omega, fun x hx hx0 => by
      simp only [List.mem_cons, List.not_mem_nil, or_false] at hx
      omega⟩
    have q1 : ∀ {i : Nat}, Nw G3 G4 0 i → i < G6.next := fun h => by rcases h with h | h | ⟨a, b⟩ <;> omega
    have q2 : ∀ {i : Nat}, Nw G4 G5 0 i → i < G6.next := fun h => by rcases h with h | h | ⟨a, b⟩ <;> omega
    exact ⟨((s4.keep h5).keep h6').keep x7, ⟨q _ (by omega), q _ (q1 no), q _ (q1 nm)⟩, (s5.keep h6').keep x7, ⟨q _ (by omega), q _ (q2 no2), q _ (q2 nm2)⟩⟩
  generalize G6.alloc (.row (cells eI (tab l.length fun _ => (0 : Int))) false) = G7 at *
  generalize G6.next = aid at *
  have okm := newM_ok ok
  have okn := newM_ok ok2
  have tl : (tab l.length fun _ => (0 : Int)).length = l.length := tab_len
  generalize (tab l.length fun _ => (0 : Int)) = a0 at *
  have h8 : Hp G5 G7 [rowE eI aid a0, rowE eOp 0 [], rowE eAns 0 [], rowE eAns 0 [], rowE eOp lid l] := ((((h7.nil0 (e := eAns)).back 1).nil0 (e := eAns)).back 1).nil0 (e := eOp) |>.back 1
  have al0 : Alike (newM C) (newM { C with Sd := seed }) [] := ⟨⟨rfl, by show (tab _ _).length = (tab _ _).length; rw [tab_len]⟩, inv_nil okm rfl, inv_nil okn rfl, List.Pairwise.nil, fun x hx => by cases hx⟩
  have lp : ∀ (d i : Nat) (al : List Int) (xid uid vid : Nat) (os : List OpV) (us vs : List AnsV) (m n : Mod) (bi oi mi bj oj mj : Nat) (G8 : GH), i + d = l.length → al.length = l.length → os.length = i → us.length = i → vs.length = i →
      Hp G5 G8 [rowE eI aid al, rowE eOp xid os, rowE eAns uid us, rowE eAns vid vs, rowE eOp lid l] → Two G8 [aid, xid, uid, vid] bi oi mi m bj oj mj n → allM (newM C) os = (m, us) → allM (newM { C with Sd := seed }) os = (n, vs) → (∀ o ∈ os, R64 o.s ∧ R64 o.a ∧ R64 o.n) →
      OkT (hodmanlaw24_SameKnown.L56 machW CW lid 0 l.length aid 0 l.length xid 0 os.length uid 0 us.length vid 0 vs.length (i : Int) m.c.G m.c.N m.c.M m.c.L m.c.Pg m.c.P m.c.H m.c.Sd bi 0 m.bl.length m.live m.peak m.mark oi 0 m.on.length mi 0 m.mem.length
        n.c.G n.c.N n.c.M n.c.L n.c.Pg n.c.P n.c.H n.c.Sd bj 0 n.bl.length n.live n.peak n.mark oj 0 n.on.length mj 0 n.mem.length G8) := by
    intro d
    induction d with
    | zero =>
      intro i al xid uid vid os us vs m n bi oi mi bj oj mj G8 hi hal hos hus hvs h t em en hin
      have cm := allM_ok okm os
      have cn := allM_ok okn os
      rw [em] at cm
      rw [en] at cn
      have cm2 : m.c = C := cm.2
      have cn2 : n.c = { C with Sd := seed } := cn.2
      rw [hodmanlaw24_SameKnown.L56_eq, condD_neg (by omega)]
      obtain ⟨pi1, G12, e12, h12⟩ := same_Plain.sp h cm.1.c (pi := xid) (po := 0) (ai := uid) (ao := 0) (ops := os) (ans := us) (fun G h => h.sl (by simp)) (fun G h => h.sl (by simp)) hin (by omega) (by omega)
      rw [e12]
      simp only [q_bs, q_I, q_B, q_P, q_S, q_M, q_c, q_a, q_gz, q_gs, q_gk, q_ct, q_cf, q_nt, q_nf, q_xt, q_xf, q_tt, q_ff, q_tf, q_ft, q_at, q_af]
      obtain ⟨pi2, G13, e13, h13⟩ := same_Plain.sp h12 cn.1.c (pi := xid) (po := 0) (ai := vid) (ao := 0) (ops := os) (ans := vs) (fun G h => h.sl (by simp)) (fun G h => h.sl (by simp)) hin (by omega) (by omega)
      rw [e13]
      simp only [q_bs, q_I, q_B, q_P, q_S, q_M, q_c, q_a, q_gz, q_gs, q_gk, q_ct, q_cf, q_nt, q_nf, q_xt, q_xf, q_tt, q_ff, q_tf, q_ft, q_at, q_af]
      have pe : plainP m.c os us = plainP n.c os vs := by
        have k := alike_both allM (fun _ => rfl) (fun _ _ _ => rfl) os _ _ [] al0
        rw [em, en] at k
        unfold plainP
        rw [if_pos (by omega), if_pos (by omega), cm2, cn2]
        exact k
      have pl : (plainP m.c os us).length ≤ 1000000000 := by
        have : ∀ (P : List (Int × PB)) (os : List OpV) (az : List AnsV), (plainS m.c P os az).length ≤ os.length := by
          intro P os
          induction os generalizing P with
          | nil => intro az; unfold plainS; simp
          | cons o os ih =>
            intro az
            cases az with
            | nil => unfold plainS; simp
            | cons a az =>
              simp only [plainS]
              split
              · simp only [List.length_cons]; have := ih (doesS m.c P o a).1 az; omega
              · have := ih P az; simp only [List.length_cons]; omega
        unfold plainP
        split
        · have := this [] os us; omega
        · simp
      rw [same_Same.sp (a := plainP m.c os us) (b := plainP n.c os vs) (h13.sl (by simp)) h13.sl0 pl]
      simp only [q_bs, q_I, q_B, q_P, q_S, q_M, q_c, q_a, q_gz, q_gs, q_gk, q_ct, q_cf, q_nt, q_nf, q_xt, q_xf, q_tt, q_ff, q_tf, q_ft, q_at, q_af]
      rw [decide_eq_true pe]
      exact ⟨_, rfl⟩
    | succ d ih =>
      intro i al xid uid vid os us vs m n bi oi mi bj oj mj G8 hi hal hos hus hvs h t em en hin
      have cm := allM_ok okm os
      have cn := allM_ok okn os
      rw [em] at cm
      rw [en] at cn
      have hil : i < l.length := by omega
      have zi : decide (0 ≤ (i : Int) ∧ (i : Int) < ((l.length : Nat) : Int)) = true := decide_eq_true (by omega)
      have so := h.sl (e := eOp) (id := lid) (xs := l) (by simp)
      have sa := h.sl0
      obtain ⟨rs, ra, rn, _⟩ := hl _ (List.getElem_mem hil)
      have hp := hpk i hil
      have q0 := so.ld i 0 hil (by omega)
      have q1 := so.ld i 1 hil (by omega)
      have q2 := so.ld i 2 hil (by omega)
      have q3 := so.ld i 3 hil (by omega)
      have q4 := so.ld i 4 hil (by omega)
      have q5 := so.ld i 5 hil (by omega)
      generalize l[i] = o at *
      have aid0 : aid ≠ 0 := by
        rintro rfl
        rcases h.ok _ (List.mem_cons_self ..) with ⟨_, b⟩ | ⟨_, b, _⟩
        · simp only [rowE, Obj.row.injEq, and_true] at b
          have := cells_nil b
          rw [this] at hal; simp at hal; omega
        · simp at b
      have do_ : ∀ o : OpV, R64 o.s → R64 o.a → R64 o.n → OkT (hodmanlaw24_SameKnown.J49 machW CW lid 0 l.length aid 0 l.length xid 0 os.length uid 0 us.length vid 0 vs.length (i : Int) m.c.G m.c.N m.c.M m.c.L m.c.Pg m.c.P m.c.H m.c.Sd bi 0 m.bl.length m.live m.peak m.mark oi 0 m.on.length mi 0 m.mem.length
        n.c.G n.c.N n.c.M n.c.L n.c.Pg n.c.P n.c.H n.c.Sd bj 0 n.bl.length n.live n.peak n.mark oj 0 n.on.length mj 0 n.mem.length o.k o.p o.s o.a o.n o.b G8) := by
        intro o rs ra rn
        have ids8 : Ids G8 [aid, xid, uid, vid] := by
          intro x hx
          simp only [List.mem_cons, List.not_mem_nil, or_false] at hx
          rcases hx with rfl | rfl | rfl | rfl
          · exact h.idlt0
          · exact (h.pick 1).idlt0
          · exact (h.pick 2).idlt0
          · exact (h.pick 3).idlt0
        obtain ⟨bi2, oi2, mi2, G9, e9, h9, s9, v9⟩ := hodmanref17_Do.spV h.wf cm.1 t.s1 rs ra rn
        obtain ⟨bj2, oj2, mj2, G10, e10, h10, s10, v10⟩ := hodmanref17_Do.spV h9.wf cn.1 (t.s2.keep h9) rs ra rn
        have t10 : Two G10 [aid, xid, uid, vid] bi2 oi2 mi2 (doM m o).1 bj2 oj2 mj2 (doM n o).1 := ⟨s9.keep h10, (t.a1.mv v9 h9 ids8).mono h10, s10, (t.a2.mono h9).mv v10 h10 (ids8.hp h9)⟩
        have hh10 := (h.trans0 h9).trans0 h10
        rw [hodmanlaw24_SameKnown.J49_eq, e9]
        simp only [q_bs, q_I, q_B, q_P, q_S, q_M, q_c, q_a, q_gz, q_gs, q_gk, q_ct, q_cf, q_nt, q_nf, q_xt, q_xf, q_tt, q_ff, q_tf, q_ft, q_at, q_af, List.length_cons, List.length_nil, if_true]
        rw [e10]
        simp only [q_bs, q_I, q_B, q_P, q_S, q_M, q_c, q_a, q_gz, q_gs, q_gk, q_ct, q_cf, q_nt, q_nf, q_xt, q_xf, q_tt, q_ff, q_tf, q_ft, q_at, q_af, List.length_cons, List.length_nil, if_true, zi, Int.toNat_natCast]
        obtain ⟨G11, h11, e11⟩ := hh10.put (i := i) (by omega) (doM m o).2.at_ (off := 0 + i * 1) (by omega) rfl
        rw [e11, q_bs]
        have t11 := t10.fo (.sts e11 aid0) hh10.wf (by simp) (xs' := [aid, xid, uid, vid]) (fun y hy => .inl hy)
        obtain ⟨xid2, G12, h12, n12, f12, k12⟩ := (h11.pick 1).app1F (S := Res) o (n := os.length) rfl (by omega)
        have t12 := t11.fo f12 h11.wf (by simp) (xs' := [aid, xid2, uid, vid]) (fun y hy => by
          simp only [List.mem_cons, List.not_mem_nil, or_false] at hy ⊢
          rcases hy with rfl | rfl | rfl | rfl
          · exact .inl (.inl rfl)
          · exact .inr n12.1
          · exact .inl (.inr (.inr (.inl rfl)))
          · exact .inl (.inr (.inr (.inr rfl))))
        have h12' := h12.back 1
        obtain ⟨uid2, G13, h13, n13, f13, k13⟩ := (h12'.pick 2).app1F (S := Res) (doM m o).2 (n := us.length) rfl (by omega)
        have t13 := t12.fo f13 h12'.wf (by simp) (xs' := [aid, xid2, uid2, vid]) (fun y hy => by
          simp only [List.mem_cons, List.not_mem_nil, or_false] at hy ⊢
          rcases hy with rfl | rfl | rfl | rfl
          · exact .inl (.inl rfl)
          · exact .inl (.inr (.inl rfl))
          · exact .inr n13.1
          · exact .inl (.inr (.inr (.inr rfl))))
        have h13' := h13.back 2
        obtain ⟨vid2, G14, h14, n14, f14, k14⟩ := (h13'.pick 3).app1F (S := Res) (doM n o).2 (n := vs.length) rfl (by omega)
        have t14 := t13.fo f14 h13'.wf (by simp) (xs' := [aid, xid2, uid2, vid2]) (fun y hy => by
          simp only [List.mem_cons, List.not_mem_nil, or_false] at hy ⊢
          rcases hy with rfl | rfl | rfl | rfl
          · exact .inl (.inl rfl)
          · exact .inl (.inr (.inl rfl))
          · exact .inl (.inr (.inr (.inl rfl)))
          · exact .inr n14.1)
        have h14' := h14.back 3
        rw [k12]
        dsimp only
        rw [k13]
        dsimp only
        rw [k14]
        dsimp only
        have z1 : (os ++ [o]).length = os.length + 1 := by simp
        have z2 : (us ++ [(doM m o).2]).length = us.length + 1 := by simp
        have z3 : (vs ++ [(doM n o).2]).length = vs.length + 1 := by simp
        rw [i64w, wrap_id (by omega) (by omega), ← z1, ← z2, ← z3]
        exact ih (i + 1) _ xid2 uid2 vid2 _ _ _ _ _ bi2 oi2 mi2 bj2 oj2 mj2 G14 (by omega) (by rw [List.length_set]; exact hal) (by omega) (by omega) (by omega) h14' t14 (by rw [allM_snoc, em]) (by rw [allM_snoc, en]) (fun x hx => by
          rcases List.mem_append.1 hx with hx | hx
          · exact hin x hx
          · simp at hx; subst hx; exact ⟨rs, ra, rn⟩)
      have mid : ∀ b : Bool, b = decide (4 ≤ o.k ∧ o.k ≤ 8) → OkT (hodmanlaw24_SameKnown.J41 machW CW lid 0 l.length aid 0 l.length xid 0 os.length uid 0 us.length vid 0 vs.length (i : Int) b m.c.G m.c.N m.c.M m.c.L m.c.Pg m.c.P m.c.H m.c.Sd bi 0 m.bl.length m.live m.peak m.mark oi 0 m.on.length mi 0 m.mem.length
        n.c.G n.c.N n.c.M n.c.L n.c.Pg n.c.P n.c.H n.c.Sd bj 0 n.bl.length n.live n.peak n.mark oj 0 n.on.length mj 0 n.mem.length o.k o.p o.s o.a o.n o.b G8) := by
        intro b hb
        subst hb
        rw [hodmanlaw24_SameKnown.J41_eq]
        by_cases hk : 4 ≤ o.k ∧ o.k ≤ 8
        · obtain ⟨p0, p1⟩ := hp hk
          have hpl : o.p.toNat < al.length := by omega
          have r0 := sa.ld o.p.toNat 0 hpl (by omega)
          rw [Nat.add_zero] at r0
          rw [condD_pos hk, guardD_of (by omega), r0]
          simp only [q_bs, q_I, q_B, q_P, q_S, q_M, q_c, q_a, q_gz, q_gs, q_gk, q_ct, q_cf, q_nt, q_nf, q_xt, q_xf, q_tt, q_ff, q_tf, q_ft, q_at, q_af]
          exact do_ { o with p := al[o.p.toNat] } rs ra rn
        · rw [condD_neg hk]
          exact do_ o rs ra rn
      rw [hodmanlaw24_SameKnown.L56_eq, condD_pos (by omega)]
      simp only [zi, Int.toNat_natCast, q0, q1, q2, q3, q4, q5, q_bs, q_I, q_B, q_P, q_S, q_M, q_c, q_a, q_gz, q_gs, q_gk, q_ct, q_cf, q_nt, q_nf, q_xt, q_xf, q_tt, q_ff, q_tf, q_ft, q_at, q_af]
      by_cases k4 : o.k ≥ 4
      · rw [condD_pos k4]; exact mid _ (by congr 1; exact propext ⟨fun h => by omega, fun h => by omega⟩)
      · rw [condD_neg k4]; exact mid false (decide_eq_false (by omega)).symm
  exact lp l.length 0 a0 0 0 0 [] [] [] (newM C) (newM { C with Sd := seed }) 0 oi mi 0 oj mj G7 (by omega) tl rfl rfl rfl h8 t7 rfl rfl (fun o ho => by cases ho)
end Go.Proofs.D.S
