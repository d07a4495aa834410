/-
  No cell of these rows narrows 'for every input' (looked for: loops, veiled, ifaces, maps, wideKeys, modest, calm, conditions, laid).
  DERIVED. THE GIVEN ROWS OF THIS SEAT. 9 by the template 'for every input the law returns true; each argument reads behind the call as it read before'; 0 by the template 'total and deterministic' (their statements: YtbgnjpbcdkegoaaTotals.lean).
  GIVEN WITH THE SEED: the statements are not yours to turn. If you find one false, say at which input.
  Laid BY PROGRAM, IN A SANDBOX (cutbox-rows.mjs): the forced cells as the released guide's own fill.sh prints them over the translation c2b7a19ca2e0e3c3… (all of the seat's roots in one cut). By AI agents, Wed Nov 11 2026. No macro, syntax, notation, axiom, sorry.
-/
import Derived.Test.YtbgnjpbcdkegoaaChecked
import GoSem.Claim
import GoSem.ClaimJoined
import GoSem.ClaimMapViews
import Derived.JoinedTies
import Derived.KernelRfl
namespace Go.Proofs.Ytbgnjpbcdkegoaa
/- THE CELL 'sum', in the pinned program and in every row, IS THE sha256 OF THE DUMP (.gsa) THAT YtbgnjpbcdkegoaaProg.lean LOADS. Nothing in Lean hashes anything: it is a label: what it is worth is what the hold of that sum in a sandbox is worth. -/
noncomputable def Try.pinned : Pinned := { name := "ytbgnjpbcdkegoaa", sum := "c2b7a19ca2e0e3c3706959fcac4b02e891d68f188f72f15a9e873a025b87b62f", checked := Try.checked }
namespace Rows
def none {H : Type} : Left H := { results := [], args := [] }

/-- 'hodmanlaw21.TightAll': WHATEVER THE INPUT: true; the input reads as it did. -/
def tightAllSpec : ChangeSpec := { name := "tightAll", fn := fun _ => fun
  | [d] => { results := [.lit (.bool true)], args := [d] }
  | _ => none }
def tightAllRow : OpenClaim := { program := "ytbgnjpbcdkegoaa", sum := "c2b7a19ca2e0e3c3706959fcac4b02e891d68f188f72f15a9e873a025b87b62f", func := "hodman/hodmanlaw21.TightAll", spec := "tightAll", plainKeys := false, apart := false }
def TightAllSaid : Prop := tightAllRow.holds Try.pinned (OpenSpec.ofChange tightAllSpec)

/-- ITS FALSE NEIGHBOUR: 'it returns false'. Refute it at one input. -/
def tightAllWrong : ChangeSpec := { name := "tightAll", fn := fun _ => fun
  | [d] => { results := [.lit (.bool false)], args := [d] }
  | _ => none }
def TightAllWrongFalsely : Prop := tightAllRow.holds Try.pinned (OpenSpec.ofChange tightAllWrong)

/-- 'hodmanlaw21.TightDrives': WHATEVER THE INPUT: true; the input reads as it did. -/
def tightDrivesSpec : ChangeSpec := { name := "tightDrives", fn := fun _ => fun
  | [d] => { results := [.lit (.bool true)], args := [d] }
  | _ => none }
def tightDrivesRow : OpenClaim := { program := "ytbgnjpbcdkegoaa", sum := "c2b7a19ca2e0e3c3706959fcac4b02e891d68f188f72f15a9e873a025b87b62f", func := "hodman/hodmanlaw21.TightDrives", spec := "tightDrives", plainKeys := false, apart := false }
def TightDrivesSaid : Prop := tightDrivesRow.holds Try.pinned (OpenSpec.ofChange tightDrivesSpec)

/-- ITS FALSE NEIGHBOUR: 'it returns false'. Refute it at one input. -/
def tightDrivesWrong : ChangeSpec := { name := "tightDrives", fn := fun _ => fun
  | [d] => { results := [.lit (.bool false)], args := [d] }
  | _ => none }
def TightDrivesWrongFalsely : Prop := tightDrivesRow.holds Try.pinned (OpenSpec.ofChange tightDrivesWrong)

/-- 'hodmanlaw21.TightStages': WHATEVER THE INPUT: true; the input reads as it did. -/
def tightStagesSpec : ChangeSpec := { name := "tightStages", fn := fun _ => fun
  | [d] => { results := [.lit (.bool true)], args := [d] }
  | _ => none }
def tightStagesRow : OpenClaim := { program := "ytbgnjpbcdkegoaa", sum := "c2b7a19ca2e0e3c3706959fcac4b02e891d68f188f72f15a9e873a025b87b62f", func := "hodman/hodmanlaw21.TightStages", spec := "tightStages", plainKeys := false, apart := false }
def TightStagesSaid : Prop := tightStagesRow.holds Try.pinned (OpenSpec.ofChange tightStagesSpec)

/-- ITS FALSE NEIGHBOUR: 'it returns false'. Refute it at one input. -/
def tightStagesWrong : ChangeSpec := { name := "tightStages", fn := fun _ => fun
  | [d] => { results := [.lit (.bool false)], args := [d] }
  | _ => none }
def TightStagesWrongFalsely : Prop := tightStagesRow.holds Try.pinned (OpenSpec.ofChange tightStagesWrong)

/-- 'hodmanlaw21.TightForms': WHATEVER THE INPUT: true; the input reads as it did. -/
def tightFormsSpec : ChangeSpec := { name := "tightForms", fn := fun _ => fun
  | [] => { results := [.lit (.bool true)], args := [] }
  | _ => none }
def tightFormsRow : OpenClaim := { program := "ytbgnjpbcdkegoaa", sum := "c2b7a19ca2e0e3c3706959fcac4b02e891d68f188f72f15a9e873a025b87b62f", func := "hodman/hodmanlaw21.TightForms", spec := "tightForms", plainKeys := false, apart := false }
def TightFormsSaid : Prop := tightFormsRow.holds Try.pinned (OpenSpec.ofChange tightFormsSpec)

/-- ITS FALSE NEIGHBOUR: 'it returns false'. Refute it at one input. -/
def tightFormsWrong : ChangeSpec := { name := "tightForms", fn := fun _ => fun
  | [] => { results := [.lit (.bool false)], args := [] }
  | _ => none }
def TightFormsWrongFalsely : Prop := tightFormsRow.holds Try.pinned (OpenSpec.ofChange tightFormsWrong)

/-- 'hodmanlaw21.TightLess': WHATEVER THE INPUT: true; the input reads as it did. -/
def tightLessSpec : ChangeSpec := { name := "tightLess", fn := fun _ => fun
  | [d] => { results := [.lit (.bool true)], args := [d] }
  | _ => none }
def tightLessRow : OpenClaim := { program := "ytbgnjpbcdkegoaa", sum := "c2b7a19ca2e0e3c3706959fcac4b02e891d68f188f72f15a9e873a025b87b62f", func := "hodman/hodmanlaw21.TightLess", spec := "tightLess", plainKeys := false, apart := false }
def TightLessSaid : Prop := tightLessRow.holds Try.pinned (OpenSpec.ofChange tightLessSpec)

/-- ITS FALSE NEIGHBOUR: 'it returns false'. Refute it at one input. -/
def tightLessWrong : ChangeSpec := { name := "tightLess", fn := fun _ => fun
  | [d] => { results := [.lit (.bool false)], args := [d] }
  | _ => none }
def TightLessWrongFalsely : Prop := tightLessRow.holds Try.pinned (OpenSpec.ofChange tightLessWrong)

/-- 'hodmanlaw20.CeilFull': WHATEVER THE INPUT: true; the input reads as it did. -/
def ceilFullSpec : ChangeSpec := { name := "ceilFull", fn := fun _ => fun
  | [d] => { results := [.lit (.bool true)], args := [d] }
  | _ => none }
def ceilFullRow : OpenClaim := { program := "ytbgnjpbcdkegoaa", sum := "c2b7a19ca2e0e3c3706959fcac4b02e891d68f188f72f15a9e873a025b87b62f", func := "hodman/hodmanlaw20.CeilFull", spec := "ceilFull", plainKeys := false, apart := false }
def CeilFullSaid : Prop := ceilFullRow.holds Try.pinned (OpenSpec.ofChange ceilFullSpec)

/-- ITS FALSE NEIGHBOUR: 'it returns false'. Refute it at one input. -/
def ceilFullWrong : ChangeSpec := { name := "ceilFull", fn := fun _ => fun
  | [d] => { results := [.lit (.bool false)], args := [d] }
  | _ => none }
def CeilFullWrongFalsely : Prop := ceilFullRow.holds Try.pinned (OpenSpec.ofChange ceilFullWrong)

/-- 'hodmanlaw20.CeilPlaced': WHATEVER THE INPUT: true; the input reads as it did. -/
def ceilPlacedSpec : ChangeSpec := { name := "ceilPlaced", fn := fun _ => fun
  | [d1, d2] => { results := [.lit (.bool true)], args := [d1, d2] }
  | _ => none }
def ceilPlacedRow : OpenClaim := { program := "ytbgnjpbcdkegoaa", sum := "c2b7a19ca2e0e3c3706959fcac4b02e891d68f188f72f15a9e873a025b87b62f", func := "hodman/hodmanlaw20.CeilPlaced", spec := "ceilPlaced", plainKeys := false, apart := false }
def CeilPlacedSaid : Prop := ceilPlacedRow.holds Try.pinned (OpenSpec.ofChange ceilPlacedSpec)

/-- ITS FALSE NEIGHBOUR: 'it returns false'. Refute it at one input. -/
def ceilPlacedWrong : ChangeSpec := { name := "ceilPlaced", fn := fun _ => fun
  | [d1, d2] => { results := [.lit (.bool false)], args := [d1, d2] }
  | _ => none }
def CeilPlacedWrongFalsely : Prop := ceilPlacedRow.holds Try.pinned (OpenSpec.ofChange ceilPlacedWrong)

/-- 'hodmanlaw20.CeilStep': WHATEVER THE INPUT: true; the input reads as it did. -/
def ceilStepSpec : ChangeSpec := { name := "ceilStep", fn := fun _ => fun
  | [d1, d2, d3] => { results := [.lit (.bool true)], args := [d1, d2, d3] }
  | _ => none }
def ceilStepRow : OpenClaim := { program := "ytbgnjpbcdkegoaa", sum := "c2b7a19ca2e0e3c3706959fcac4b02e891d68f188f72f15a9e873a025b87b62f", func := "hodman/hodmanlaw20.CeilStep", spec := "ceilStep", plainKeys := false, apart := false }
def CeilStepSaid : Prop := ceilStepRow.holds Try.pinned (OpenSpec.ofChange ceilStepSpec)

/-- ITS FALSE NEIGHBOUR: 'it returns false'. Refute it at one input. -/
def ceilStepWrong : ChangeSpec := { name := "ceilStep", fn := fun _ => fun
  | [d1, d2, d3] => { results := [.lit (.bool false)], args := [d1, d2, d3] }
  | _ => none }
def CeilStepWrongFalsely : Prop := ceilStepRow.holds Try.pinned (OpenSpec.ofChange ceilStepWrong)

/-- 'hodmanlaw20.CeilHolds': WHATEVER THE INPUT: true; the input reads as it did. -/
def ceilHoldsSpec : ChangeSpec := { name := "ceilHolds", fn := fun _ => fun
  | [d1, d2, d3] => { results := [.lit (.bool true)], args := [d1, d2, d3] }
  | _ => none }
def ceilHoldsRow : OpenClaim := { program := "ytbgnjpbcdkegoaa", sum := "c2b7a19ca2e0e3c3706959fcac4b02e891d68f188f72f15a9e873a025b87b62f", func := "hodman/hodmanlaw20.CeilHolds", spec := "ceilHolds", plainKeys := false, apart := false }
def CeilHoldsSaid : Prop := ceilHoldsRow.holds Try.pinned (OpenSpec.ofChange ceilHoldsSpec)

/-- ITS FALSE NEIGHBOUR: 'it returns false'. Refute it at one input. -/
def ceilHoldsWrong : ChangeSpec := { name := "ceilHolds", fn := fun _ => fun
  | [d1, d2, d3] => { results := [.lit (.bool false)], args := [d1, d2, d3] }
  | _ => none }
def CeilHoldsWrongFalsely : Prop := ceilHoldsRow.holds Try.pinned (OpenSpec.ofChange ceilHoldsWrong)

/- THE SECOND FORM. 'bulk': how many values and letters a reading holds, each counted each time it is reached (what is shared counts as often as it is met; a slice's spare places count too). A statement '..UptoSaid' is the law's where the arguments, and the package variables that the reading takes, are together of bulk at most 1048576: NARROWER than '..Said'. Prove '..Said' where nothing that the law and all that it calls make is longer than what came in: it says more and counts as full. Else prove '..UptoSaid'. A law counts once. -/
mutual
def uptoBulk {H : Type} : DataW H → Nat
  | .lit (.string bytes) => bytes.length + 1
  | .lit _ => 1
  | .nil => 1
  | .ptr d => uptoBulk d + 1
  | .slice elems spare => uptoBulkAll elems + uptoBulkAll spare + 1
  | .agg parts => uptoBulkAll parts + 1
  | .iface _ d => uptoBulk d + 1
  | .map entries => uptoBulkEntries entries + 1
  | .held _ => 1
def uptoBulkAll {H : Type} : List (DataW H) → Nat
  | [] => 0
  | d :: r => uptoBulk d + uptoBulkAll r
def uptoBulkEntries {H : Type} : List (Lit × DataW H) → Nat
  | [] => 0
  | x :: r => uptoBulkEntry x + uptoBulkEntries r
def uptoBulkEntry {H : Type} : Lit × DataW H → Nat
  | (.string bytes, d) => bytes.length + uptoBulk d + 1
  | (_, d) => uptoBulk d + 1
 end
def uptoSmall : (H : Type) → List (DataW H) → Bool := fun _ ds => decide (uptoBulkAll ds ≤ 1048576)
def OpenSpec.upto (s : _root_.Go.ChangeSpec) : _root_.Go.OpenSpec := { _root_.Go.OpenSpec.ofChange s with cond := some uptoSmall }

/-- 'hodmanlaw21.TightAll', WHERE WHAT IT READS IS OF BULK AT MOST 1048576: true; the input reads as it did. -/
def tightAllUptoRow : OpenClaim := { program := "ytbgnjpbcdkegoaa", sum := "c2b7a19ca2e0e3c3706959fcac4b02e891d68f188f72f15a9e873a025b87b62f", func := "hodman/hodmanlaw21.TightAll", spec := "tightAll", plainKeys := false, apart := false, narrowed := true }
def TightAllUptoSaid : Prop := tightAllUptoRow.holds Try.pinned (OpenSpec.upto tightAllSpec)

/-- 'hodmanlaw21.TightDrives', WHERE WHAT IT READS IS OF BULK AT MOST 1048576: true; the input reads as it did. -/
def tightDrivesUptoRow : OpenClaim := { program := "ytbgnjpbcdkegoaa", sum := "c2b7a19ca2e0e3c3706959fcac4b02e891d68f188f72f15a9e873a025b87b62f", func := "hodman/hodmanlaw21.TightDrives", spec := "tightDrives", plainKeys := false, apart := false, narrowed := true }
def TightDrivesUptoSaid : Prop := tightDrivesUptoRow.holds Try.pinned (OpenSpec.upto tightDrivesSpec)

/-- 'hodmanlaw21.TightStages', WHERE WHAT IT READS IS OF BULK AT MOST 1048576: true; the input reads as it did. -/
def tightStagesUptoRow : OpenClaim := { program := "ytbgnjpbcdkegoaa", sum := "c2b7a19ca2e0e3c3706959fcac4b02e891d68f188f72f15a9e873a025b87b62f", func := "hodman/hodmanlaw21.TightStages", spec := "tightStages", plainKeys := false, apart := false, narrowed := true }
def TightStagesUptoSaid : Prop := tightStagesUptoRow.holds Try.pinned (OpenSpec.upto tightStagesSpec)

/-- 'hodmanlaw21.TightForms', WHERE WHAT IT READS IS OF BULK AT MOST 1048576: true; the input reads as it did. -/
def tightFormsUptoRow : OpenClaim := { program := "ytbgnjpbcdkegoaa", sum := "c2b7a19ca2e0e3c3706959fcac4b02e891d68f188f72f15a9e873a025b87b62f", func := "hodman/hodmanlaw21.TightForms", spec := "tightForms", plainKeys := false, apart := false, narrowed := true }
def TightFormsUptoSaid : Prop := tightFormsUptoRow.holds Try.pinned (OpenSpec.upto tightFormsSpec)

/-- 'hodmanlaw21.TightLess', WHERE WHAT IT READS IS OF BULK AT MOST 1048576: true; the input reads as it did. -/
def tightLessUptoRow : OpenClaim := { program := "ytbgnjpbcdkegoaa", sum := "c2b7a19ca2e0e3c3706959fcac4b02e891d68f188f72f15a9e873a025b87b62f", func := "hodman/hodmanlaw21.TightLess", spec := "tightLess", plainKeys := false, apart := false, narrowed := true }
def TightLessUptoSaid : Prop := tightLessUptoRow.holds Try.pinned (OpenSpec.upto tightLessSpec)

/-- 'hodmanlaw20.CeilFull', WHERE WHAT IT READS IS OF BULK AT MOST 1048576: true; the input reads as it did. -/
def ceilFullUptoRow : OpenClaim := { program := "ytbgnjpbcdkegoaa", sum := "c2b7a19ca2e0e3c3706959fcac4b02e891d68f188f72f15a9e873a025b87b62f", func := "hodman/hodmanlaw20.CeilFull", spec := "ceilFull", plainKeys := false, apart := false, narrowed := true }
def CeilFullUptoSaid : Prop := ceilFullUptoRow.holds Try.pinned (OpenSpec.upto ceilFullSpec)

/-- 'hodmanlaw20.CeilPlaced', WHERE WHAT IT READS IS OF BULK AT MOST 1048576: true; the input reads as it did. -/
def ceilPlacedUptoRow : OpenClaim := { program := "ytbgnjpbcdkegoaa", sum := "c2b7a19ca2e0e3c3706959fcac4b02e891d68f188f72f15a9e873a025b87b62f", func := "hodman/hodmanlaw20.CeilPlaced", spec := "ceilPlaced", plainKeys := false, apart := false, narrowed := true }
def CeilPlacedUptoSaid : Prop := ceilPlacedUptoRow.holds Try.pinned (OpenSpec.upto ceilPlacedSpec)

/-- 'hodmanlaw20.CeilStep', WHERE WHAT IT READS IS OF BULK AT MOST 1048576: true; the input reads as it did. -/
def ceilStepUptoRow : OpenClaim := { program := "ytbgnjpbcdkegoaa", sum := "c2b7a19ca2e0e3c3706959fcac4b02e891d68f188f72f15a9e873a025b87b62f", func := "hodman/hodmanlaw20.CeilStep", spec := "ceilStep", plainKeys := false, apart := false, narrowed := true }
def CeilStepUptoSaid : Prop := ceilStepUptoRow.holds Try.pinned (OpenSpec.upto ceilStepSpec)

/-- 'hodmanlaw20.CeilHolds', WHERE WHAT IT READS IS OF BULK AT MOST 1048576: true; the input reads as it did. -/
def ceilHoldsUptoRow : OpenClaim := { program := "ytbgnjpbcdkegoaa", sum := "c2b7a19ca2e0e3c3706959fcac4b02e891d68f188f72f15a9e873a025b87b62f", func := "hodman/hodmanlaw20.CeilHolds", spec := "ceilHolds", plainKeys := false, apart := false, narrowed := true }
def CeilHoldsUptoSaid : Prop := ceilHoldsUptoRow.holds Try.pinned (OpenSpec.upto ceilHoldsSpec)

end Rows
end Go.Proofs.Ytbgnjpbcdkegoaa
