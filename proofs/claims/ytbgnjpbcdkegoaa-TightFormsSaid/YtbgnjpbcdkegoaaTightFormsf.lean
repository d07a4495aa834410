/- Texts of the proof (OKT, LawTightForms); no condition. -/
import Derived.Test.YtbgnjpbcdkegoaaFb
import Derived.Test.YtbgnjpbcdkegoaaTightFormsd
import Derived.Test.YtbgnjpbcdkegoaaTightFormse
import Derived.Test.YtbgnjpbcdkegoaaTightFormsc
set_option linter.unusedSimpArgs false
set_option linter.unusedVariables false
/- All functions pass the check. -/
set_option maxRecDepth 100000
namespace Go.Proofs.D
open Go
theorem tab_ok : ∀ x ∈ tab, okF Try.prog x.1 x.2.1 x.2.2 = true := by
  unfold tab
  exact List.forall_mem_cons.2 ⟨tight_may.ok, List.forall_mem_cons.2 ⟨tight_writer_frees.ok, List.forall_mem_cons.2 ⟨conf_Ceil.ok, List.forall_mem_cons.2 ⟨tight_writer_fills.ok, List.forall_mem_cons.2 ⟨tight_all.ok, List.forall_mem_cons.2 ⟨tight_Stages.ok, List.forall_mem_cons.2 ⟨tight_Script.ok, List.forall_mem_cons.2 ⟨hodmanref1_Up.ok, List.forall_mem_cons.2 ⟨hodmanref1_Add.ok, List.forall_mem_cons.2 ⟨hodmanref1_Round.ok, List.forall_mem_cons.2 ⟨hodmanref1_Log.ok, List.forall_mem_cons.2 ⟨hodmanref1_Of.ok, List.forall_mem_cons.2 ⟨hodmanlaw21_begun.ok, List.forall_mem_cons.2 ⟨hodmanref17_SameOps.ok, List.forall_mem_cons.2 ⟨hodmanlaw21_TightForms.ok, List.forall_mem_nil _⟩⟩⟩⟩⟩⟩⟩⟩⟩⟩⟩⟩⟩⟩⟩
theorem T_ok : ∀ f p d, T f = some (p, d) → okF Try.prog f p d = true := by
  intro f p d h
  unfold T at h
  obtain ⟨x, hx, e⟩ := Option.map_eq_some_iff.1 h
  have h1 := List.mem_of_find?_eq_some hx
  have h2 := List.find?_some hx
  have h3 : x.1 = f := by simpa using h2
  have := tab_ok x h1
  rw [h3, e] at this
  exact this
theorem mixed : Try.prog.follows .mixedOrders = true := by kernel_rfl
end Go.Proofs.D
/- TightForms: whatever the numbers, the law answers yes. -/
set_option linter.unusedVariables false
set_option linter.unusedSimpArgs false
namespace Go.Proofs.D.S
open Go Go.RowKit
theorem hodmanlaw21_TightForms.law {G : GH} (hG : Beg G) : OkT (CW hodmanlaw21_TightForms.id [] G) := by
  obtain ⟨G1, e, _⟩ := beg_run (T := T) (f := hodmanlaw21_TightForms.id) 90 (vs := [.c (.bool true)]) (by intro a b c; kernel_rfl) hG
  exact ⟨G1, e⟩
end Go.Proofs.D.S
