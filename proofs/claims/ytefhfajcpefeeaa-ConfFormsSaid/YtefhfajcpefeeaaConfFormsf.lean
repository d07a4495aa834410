/- Texts of the proof (OKT, LawConfForms); no condition. -/
import Derived.Test.YtefhfajcpefeeaaFb
import Derived.Test.YtefhfajcpefeeaaConfFormsd
import Derived.Test.YtefhfajcpefeeaaConfFormse
import Derived.Test.YtefhfajcpefeeaaConfFormsc
set_option linter.unusedSimpArgs false
set_option linter.unusedVariables false
/- All functions pass the check. -/
set_option maxRecDepth 100000
namespace Go.Proofs.D
open Go
theorem tab_ok : ∀ x ∈ tab, okF Try.prog x.1 x.2.1 x.2.2 = true := by
  unfold tab
  exact List.forall_mem_cons.2 ⟨calc_Log.ok, List.forall_mem_cons.2 ⟨calc_Up.ok, List.forall_mem_cons.2 ⟨conf_Shift.ok, List.forall_mem_cons.2 ⟨conf_within.ok, List.forall_mem_cons.2 ⟨calc_Add.ok, List.forall_mem_cons.2 ⟨calc_Round.ok, List.forall_mem_cons.2 ⟨conf_Of.ok, List.forall_mem_cons.2 ⟨conf_Ceil.ok, List.forall_mem_cons.2 ⟨hodmanlaw2_begun.ok, List.forall_mem_cons.2 ⟨hodmanlaw2_ConfForms.ok, List.forall_mem_nil _⟩⟩⟩⟩⟩⟩⟩⟩⟩⟩
theorem T_ok : ∀ f p d, T f = some (p, d) → okF Try.prog f p d = true := by
  intro f p d h
  unfold T at h
  obtain ⟨x, hx, e⟩ := Option.map_eq_some_iff.1 h
  have h1 := List.mem_of_find?_eq_some hx
  have h2 := List.find?_some hx
  have h3 : x.1 = f := by simpa using h2
  have := tab_ok x h1
  rw [h3, e] at this
  exact this
theorem mixed : Try.prog.follows .mixedOrders = true := by kernel_rfl
end Go.Proofs.D
/- ConfForms: whatever the numbers, the law answers yes. -/
set_option linter.unusedVariables false
set_option linter.unusedSimpArgs false
namespace Go.Proofs.D.S
open Go Go.RowKit
theorem hodmanlaw2_ConfForms.law {G : GH} (hG : Beg G) : OkT (CW hodmanlaw2_ConfForms.id [] G) := by
  obtain ⟨G1, e, _⟩ := beg_run (T := T) (f := hodmanlaw2_ConfForms.id) 90 (vs := [.c (.bool true)]) (by intro a b c; kernel_rfl) hG
  exact ⟨G1, e⟩
end Go.Proofs.D.S
