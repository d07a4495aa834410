/- SameAll: for whatever the law is given, it answers yes and leaves all as it was: out of the machine's law. No condition. -/
import Derived.Test.YtdanddamihficaaRows
import Derived.Test.YtdanddamihficaaSameAlli
import Derived.Test.YtdanddamihficaaSameAllj
import Derived.WalkKit
import Derived.ProofKit
import Derived.OpenShut
import Derived.ShutString
import Derived.ChangeOld
import Derived.Below
import Derived.SizedLaws
set_option linter.unusedSimpArgs false
set_option linter.unusedVariables false
namespace Go.Proofs.Ytdanddamihficaa.sameAll
open Go.ChangeShapes Go.WideShapes Go.ChangeAt Go.RowKit Go.Proofs.D
set_option linter.unusedVariables false
theorem own : ownKnob Try.prog.godebug = none := by kernel_rfl
theorem laidOut : laidOutB Try.prog = true := by kernel_rfl
set_option maxRecDepth 100000 in
theorem lifted (os : Os) (started : os.Started) (H : Type) (enc : TypeId × Value → H) :
    ReturnsInHanded {} Try.checked os 6 .any (Rows.sameAllSpec.pre6 enc Try.prog Try.f6 Rows.sameAllRow.domain false) (Rows.sameAllSpec.post enc Try.prog Try.f6 false true false false) := by
  refine returnsInHanded_of_change_sized (C := Try.checked) own started (by kernel_rfl) Try.func6
    (ChangeSpec.witness6 (enc := enc) (C := Try.checked) false ⟨#[], #[.slice none 0 0, .slice none 0 0, .slice none 0 0, .slice none 0 0, .int .u8 0], []⟩ 8 (by kernel_rfl) (by kernel_rfl) (by kernel_rfl) (by kernel_rfl)) ?_
  intro W base args ds gs before hval0 hW hcnd hsz0 _
  have hval : ∀ (j : Nat) t v, Try.f6.params[j]? = some t → args[j]? = some v → Value.okWide Try.prog W .any base t v := hval0
  have hW' := hW
  obtain ⟨p, q, hA0, hV, rfl, hfz, hnd⟩ := hW
  have hA : DataW.TrodAll enc Try.prog W 0 (fun _ => true) true Try.f6.params.toList args.toList ds p := hA0
  rw [Try.params6] at hA hval
  obtain ⟨v0, vs0, d0, ds0, p0, q0, hargs, rfl, rfl, h0, r0⟩ := trodAll_cons hA
  obtain ⟨v1, vs1, d1, ds1, p1, q1, rfl, rfl, rfl, h1, r1⟩ := trodAll_cons r0
  obtain ⟨v2, vs2, d2, ds2, p2, q2, rfl, rfl, rfl, h2, r2⟩ := trodAll_cons r1
  obtain ⟨v3, vs3, d3, ds3, p3, q3, rfl, rfl, rfl, h3, r3⟩ := trodAll_cons r2
  obtain ⟨v4, vs4, d4, ds4, p4, q4, rfl, rfl, rfl, h4, r4⟩ := trodAll_cons r3
  obtain ⟨rfl, rfl, rfl⟩ := trodAll_nil r4
  obtain rfl : args = #[v0, v1, v2, v3, v4] := by cases args; simp_all
  obtain ⟨rfl, rfl⟩ := trodVars_none hV
  have k0 := h0
  have lt0 : ∀ x ∈ p0, x.block < W.heap.size := by obtain ⟨m, hm⟩ := k0; exact DataW.trod_lt m _ _ _ hm
  obtain ⟨a0, n0, cap0, z0, rfl, w0, rfl, wf0⟩ := arg_ints Try.underlying22 Try.underlying5 (by kernel_rfl) (hval 0 22 v0 rfl rfl) h0
  have k1 := h1
  have lt1 : ∀ x ∈ p1, x.block < W.heap.size := by obtain ⟨m, hm⟩ := k1; exact DataW.trod_lt m _ _ _ hm
  obtain ⟨a1, n1, cap1, z1, rfl, w1, rfl, wf1⟩ := arg_ints Try.underlying22 Try.underlying5 (by kernel_rfl) (hval 1 22 v1 rfl rfl) h1
  have k2 := h2
  have lt2 : ∀ x ∈ p2, x.block < W.heap.size := by obtain ⟨m, hm⟩ := k2; exact DataW.trod_lt m _ _ _ hm
  obtain ⟨a2, n2, cap2, z2, rfl, w2, rfl⟩ := arg_ans Try.underlying54 Try.underlying45 (by kernel_rfl) (by kernel_rfl) Try.underlying35 Try.underlying3 Try.underlying3 Try.underlying5 Try.underlying3 Try.underlying3 Try.underlying3 Try.underlying3 (hval 2 54 v2 rfl rfl) h2
  have k3 := h3
  have lt3 : ∀ x ∈ p3, x.block < W.heap.size := by obtain ⟨m, hm⟩ := k3; exact DataW.trod_lt m _ _ _ hm
  obtain ⟨a3, n3, cap3, z3, rfl, w3, rfl⟩ := arg_ans Try.underlying54 Try.underlying45 (by kernel_rfl) (by kernel_rfl) Try.underlying35 Try.underlying3 Try.underlying3 Try.underlying5 Try.underlying3 Try.underlying3 Try.underlying3 Try.underlying3 (hval 3 54 v3 rfl rfl) h3
  obtain ⟨a4, rfl, rfl, rfl, w4⟩ := open_int Try.underlying5 (hval 4 5 v4 rfl rfl) h4
  clear hA0 hval0 hsz0
  obtain ⟨φ0, id0, o0, s0, le0, r0, b0⟩ := (Start.nil W).arg w0
  obtain ⟨φ1, id1, o1, s1, le1, r1, b1⟩ := s0.arg w1
  replace r0 := V1Rel.mono le1 r0
  replace b0 := arg_keep (o := o1) s0.wf b0
  obtain ⟨φ2, id2, o2, s2, le2, r2, b2⟩ := s1.arg w2
  replace r0 := V1Rel.mono le2 r0
  replace b0 := arg_keep (o := o2) s1.wf b0
  replace r1 := V1Rel.mono le2 r1
  replace b1 := arg_keep (o := o2) s1.wf b1
  obtain ⟨φ3, id3, o3, s3, le3, r3, b3⟩ := s2.arg w3
  replace r0 := V1Rel.mono le3 r0
  replace b0 := arg_keep (o := o3) s2.wf b0
  replace r1 := V1Rel.mono le3 r1
  replace b1 := arg_keep (o := o3) s2.wf b1
  replace r2 := V1Rel.mono le3 r2
  replace b2 := arg_keep (o := o3) s2.wf b2
  have hG : S.Beg4 _ := ⟨o0, o1, o2, o3, rfl⟩
  obtain ⟨G', law⟩ := S.hodmanlaw24_SameAll.law hG (arg_sl (e := S.eU8) b0 S.cells_nil) (bytes_of wf0) (arg_sl (e := S.eU8) b1 S.cells_nil) (bytes_of wf1) (arg_sl (e := S.eAns) b2 S.cells_nil) (arg_sl (e := S.eAns) b3 S.cells_nil) (wf8 w4)
  refine (s3.calls mixed T_ok (R2.cons r0 (R2.cons r1 (R2.cons r2 (R2.cons r3 (R2.cons v_int R2.nil))))) law).mono fun e W' ⟨he, bel⟩ => ?_
  subst he
  exact ⟨_, rfl, _, _, _, [], _, [], hW', trodAll_mk1 (shut_bool Try.underlying4 _), (trodAll_cons_mk (Below.trod laidOut (by kernel_rfl) (of_decide_eq_true (by kernel_rfl)) k0 bel lt0) (trodAll_cons_mk (Below.trod laidOut (by kernel_rfl) (of_decide_eq_true (by kernel_rfl)) k1 bel lt1) (trodAll_cons_mk (Below.trod laidOut (by kernel_rfl) (of_decide_eq_true (by kernel_rfl)) k2 bel lt2) (trodAll_cons_mk (Below.trod laidOut (by kernel_rfl) (of_decide_eq_true (by kernel_rfl)) k3 bel lt3) (trodAll_cons_mk (shut_int Try.underlying5 w4) trodAll_mk0))))), rfl, bel.frame _, fun h => by cases h⟩
theorem over : Rows.sameAllRow.holds Try.pinned (OpenSpec.ofChange Rows.sameAllSpec) :=
  OpenClaim.holds_of_wide 6 Try.f6 rfl rfl rfl rfl rfl rfl rfl ⟨rfl, rfl, rfl, rfl, rfl⟩ rfl rfl rfl rfl rfl (by kernel_rfl) Try.func6 (by kernel_rfl)
    (of_decide_eq_true (by kernel_rfl)) (by unfold Func.isWrapper; first | (rw [if_pos (by decide +kernel)]; kernel_rfl) | (rw [if_neg (by decide +kernel)]; exact ⟨rfl, rfl⟩))
    (fun os started H enc _ => lifted os started H enc)
theorem proved : Rows.SameAllSaid := over
#print axioms proved
end Go.Proofs.Ytdanddamihficaa.sameAll
namespace Go.Proofs.Ytdanddamihficaa
/-- The row, under a short name, for the claim. -/
theorem sameAll_holds : Rows.SameAllSaid := sameAll.proved
end Go.Proofs.Ytdanddamihficaa
