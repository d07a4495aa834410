/- TopWild: for whatever the law is given, it answers yes and leaves all as it was: out of the machine's law. No condition. -/
import Derived.Test.YtogdeblppihbnaaRows
import Derived.Test.YtogdeblppihbnaaTopWildh
import Derived.Test.YtogdeblppihbnaaTopWildi
import Derived.WalkKit
import Derived.ProofKit
import Derived.OpenShut
import Derived.ShutString
import Derived.ChangeOld
import Derived.Below
import Derived.SizedLaws
set_option linter.unusedSimpArgs false
set_option linter.unusedVariables false
namespace Go.Proofs.Ytogdeblppihbnaa.topWild
open Go.ChangeShapes Go.WideShapes Go.ChangeAt Go.RowKit Go.Proofs.D
set_option linter.unusedVariables false
theorem own : ownKnob Try.prog.godebug = none := by kernel_rfl
theorem laidOut : laidOutB Try.prog = true := by kernel_rfl
set_option maxRecDepth 100000 in
theorem lifted (os : Os) (started : os.Started) (H : Type) (enc : TypeId × Value → H) :
    ReturnsInHanded {} Try.checked os 4 .any (Rows.topWildSpec.pre6 enc Try.prog Try.f4 Rows.topWildRow.domain false) (Rows.topWildSpec.post enc Try.prog Try.f4 false true false false) := by
  refine returnsInHanded_of_change_sized (C := Try.checked) own started (by kernel_rfl) Try.func4
    (ChangeSpec.witness6 (enc := enc) (C := Try.checked) false ⟨#[], #[.agg #[.int .i64 0, .int .i64 0, .int .i64 0, .int .i64 0, .int .i64 0, .int .i64 0], .slice none 0 0], []⟩ 8 (by kernel_rfl) (by kernel_rfl) (by kernel_rfl) (by kernel_rfl)) ?_
  intro W base args ds gs before hval0 hW hcnd hsz0 _
  have hval : ∀ (j : Nat) t v, Try.f4.params[j]? = some t → args[j]? = some v → Value.okWide Try.prog W .any base t v := hval0
  have hW' := hW
  obtain ⟨p, q, hA0, hV, rfl, hfz, hnd⟩ := hW
  have hA : DataW.TrodAll enc Try.prog W 0 (fun _ => true) true Try.f4.params.toList args.toList ds p := hA0
  rw [Try.params4] at hA hval
  obtain ⟨v0, vs0, d0, ds0, p0, q0, hargs, rfl, rfl, h0, r0⟩ := trodAll_cons hA
  obtain ⟨v1, vs1, d1, ds1, p1, q1, rfl, rfl, rfl, h1, r1⟩ := trodAll_cons r0
  obtain ⟨rfl, rfl, rfl⟩ := trodAll_nil r1
  obtain rfl : args = #[v0, v1] := by cases args; simp_all
  obtain ⟨rfl, rfl⟩ := trodVars_none hV
  have k0 := h0
  have lt0 : ∀ x ∈ p0, x.block < W.heap.size := by obtain ⟨m, hm⟩ := k0; exact DataW.trod_lt m _ _ _ hm
  obtain ⟨a0_0, a0_1, a0_2, a0_3, a0_4, a0_5, rfl, w0_0, w0_1, w0_2, w0_3, w0_4, w0_5⟩ := ints6 (u := 3) Try.underlying25 (by kernel_rfl) (by kernel_rfl) Try.underlying3 rfl rfl rfl rfl rfl rfl (hval 0 25 v0 rfl rfl) h0
  have k1 := h1
  have lt1 : ∀ x ∈ p1, x.block < W.heap.size := by obtain ⟨m, hm⟩ := k1; exact DataW.trod_lt m _ _ _ hm
  obtain ⟨a1, n1, cap1, z1, rfl, w1, rfl, wf1⟩ := arg_ops Try.underlying36 Try.underlying42 (by kernel_rfl) (by kernel_rfl) Try.underlying3 Try.underlying3 Try.underlying3 Try.underlying3 Try.underlying3 Try.underlying5 (hval 1 36 v1 rfl rfl) h1
  clear hA0 hval0 hsz0
  obtain ⟨φ1, id1, o1, s0, le1, r1, b1⟩ := (Start.nil W).arg w1
  have s1 := s0.room0
  replace b1 := arg_keep (o := none) s0.wf b1
  have s2 := s1.room0
  replace b1 := arg_keep (o := none) s1.wf b1
  have hG : S.Beg _ := ⟨o1, none, none, rfl⟩
  obtain ⟨G', law⟩ := S.hodmantop_TopWild.law hG ⟨a0_0, a0_1, a0_2, a0_3, a0_4, a0_5⟩ (arg_sl (e := S.eOp) b1 S.cells_nil) wf1
  refine (s2.calls mixed T_ok (R2.cons agg6_rel (R2.cons r1 R2.nil)) law).mono fun e W' ⟨he, bel⟩ => ?_
  subst he
  exact ⟨_, rfl, _, _, _, [], _, [], hW', trodAll_mk1 (shut_bool Try.underlying4 _), (trodAll_cons_mk (Below.trod laidOut (by kernel_rfl) (of_decide_eq_true (by kernel_rfl)) k0 bel lt0) (trodAll_cons_mk (Below.trod laidOut (by kernel_rfl) (of_decide_eq_true (by kernel_rfl)) k1 bel lt1) trodAll_mk0)), rfl, bel.frame _, fun h => by cases h⟩
theorem over : Rows.topWildRow.holds Try.pinned (OpenSpec.ofChange Rows.topWildSpec) :=
  OpenClaim.holds_of_wide 4 Try.f4 rfl rfl rfl rfl rfl rfl rfl ⟨rfl, rfl, rfl, rfl, rfl⟩ rfl rfl rfl rfl rfl (by kernel_rfl) Try.func4 (by kernel_rfl)
    (of_decide_eq_true (by kernel_rfl)) (by unfold Func.isWrapper; first | (rw [if_pos (by decide +kernel)]; kernel_rfl) | (rw [if_neg (by decide +kernel)]; exact ⟨rfl, rfl⟩))
    (fun os started H enc _ => lifted os started H enc)
theorem proved : Rows.TopWildSaid := over
#print axioms proved
end Go.Proofs.Ytogdeblppihbnaa.topWild
namespace Go.Proofs.Ytogdeblppihbnaa
/-- The row, under a short name, for the claim. -/
theorem topWild_holds : Rows.TopWildSaid := topWild.proved
end Go.Proofs.Ytogdeblppihbnaa
