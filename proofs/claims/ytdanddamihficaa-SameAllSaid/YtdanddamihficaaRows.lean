/-
  No cell of these rows narrows 'for every input' (looked for: loops, veiled, ifaces, maps, wideKeys, modest, calm, conditions, laid).
  DERIVED. THE GIVEN ROWS OF THIS SEAT. 9 by the template 'for every input the law returns true; each argument reads behind the call as it read before'; 0 by the template 'total and deterministic' (their statements: YtdanddamihficaaTotals.lean).
  GIVEN WITH THE SEED: the statements are not yours to turn. If you find one false, say at which input.
  Laid BY PROGRAM, IN A SANDBOX (cutbox-rows.mjs): the forced cells as the released guide's own fill.sh prints them over the translation 0c7a901b457b7d3e… (all of the seat's roots in one cut). By AI agents, Wed Nov 11 2026. No macro, syntax, notation, axiom, sorry.
-/
import Derived.Test.YtdanddamihficaaChecked
import GoSem.Claim
import GoSem.ClaimJoined
import GoSem.ClaimMapViews
import Derived.JoinedTies
import Derived.KernelRfl
namespace Go.Proofs.Ytdanddamihficaa
/- THE CELL 'sum', in the pinned program and in every row, IS THE sha256 OF THE DUMP (.gsa) THAT YtdanddamihficaaProg.lean LOADS. Nothing in Lean hashes anything: it is a label: what it is worth is what the hold of that sum in a sandbox is worth. -/
noncomputable def Try.pinned : Pinned := { name := "ytdanddamihficaa", sum := "0c7a901b457b7d3eb26d7b67821a3ed9ce8385b798bbebf5084a06a55181f853", checked := Try.checked }
namespace Rows
def none {H : Type} : Left H := { results := [], args := [] }

/-- 'hodmanlaw23.FairNever': WHATEVER THE INPUT: true; the input reads as it did. -/
def fairNeverSpec : ChangeSpec := { name := "fairNever", fn := fun _ => fun
  | [d1, d2] => { results := [.lit (.bool true)], args := [d1, d2] }
  | _ => none }
def fairNeverRow : OpenClaim := { program := "ytdanddamihficaa", sum := "0c7a901b457b7d3eb26d7b67821a3ed9ce8385b798bbebf5084a06a55181f853", func := "hodman/hodmanlaw23.FairNever", spec := "fairNever", plainKeys := false, apart := false }
def FairNeverSaid : Prop := fairNeverRow.holds Try.pinned (OpenSpec.ofChange fairNeverSpec)

/-- ITS FALSE NEIGHBOUR: 'it returns false'. Refute it at one input. -/
def fairNeverWrong : ChangeSpec := { name := "fairNever", fn := fun _ => fun
  | [d1, d2] => { results := [.lit (.bool false)], args := [d1, d2] }
  | _ => none }
def FairNeverWrongFalsely : Prop := fairNeverRow.holds Try.pinned (OpenSpec.ofChange fairNeverWrong)

/-- 'hodmanlaw23.FairLess': WHATEVER THE INPUT: true; the input reads as it did. -/
def fairLessSpec : ChangeSpec := { name := "fairLess", fn := fun _ => fun
  | [d1, d2, d3] => { results := [.lit (.bool true)], args := [d1, d2, d3] }
  | _ => none }
def fairLessRow : OpenClaim := { program := "ytdanddamihficaa", sum := "0c7a901b457b7d3eb26d7b67821a3ed9ce8385b798bbebf5084a06a55181f853", func := "hodman/hodmanlaw23.FairLess", spec := "fairLess", plainKeys := false, apart := false }
def FairLessSaid : Prop := fairLessRow.holds Try.pinned (OpenSpec.ofChange fairLessSpec)

/-- ITS FALSE NEIGHBOUR: 'it returns false'. Refute it at one input. -/
def fairLessWrong : ChangeSpec := { name := "fairLess", fn := fun _ => fun
  | [d1, d2, d3] => { results := [.lit (.bool false)], args := [d1, d2, d3] }
  | _ => none }
def FairLessWrongFalsely : Prop := fairLessRow.holds Try.pinned (OpenSpec.ofChange fairLessWrong)

/-- 'hodmanlaw23.FairCharge': WHATEVER THE INPUT: true; the input reads as it did. -/
def fairChargeSpec : ChangeSpec := { name := "fairCharge", fn := fun _ => fun
  | [d1, d2] => { results := [.lit (.bool true)], args := [d1, d2] }
  | _ => none }
def fairChargeRow : OpenClaim := { program := "ytdanddamihficaa", sum := "0c7a901b457b7d3eb26d7b67821a3ed9ce8385b798bbebf5084a06a55181f853", func := "hodman/hodmanlaw23.FairCharge", spec := "fairCharge", plainKeys := false, apart := false }
def FairChargeSaid : Prop := fairChargeRow.holds Try.pinned (OpenSpec.ofChange fairChargeSpec)

/-- ITS FALSE NEIGHBOUR: 'it returns false'. Refute it at one input. -/
def fairChargeWrong : ChangeSpec := { name := "fairCharge", fn := fun _ => fun
  | [d1, d2] => { results := [.lit (.bool false)], args := [d1, d2] }
  | _ => none }
def FairChargeWrongFalsely : Prop := fairChargeRow.holds Try.pinned (OpenSpec.ofChange fairChargeWrong)

/-- 'hodmanlaw24.SameAll': WHATEVER THE INPUT: true; the input reads as it did. -/
def sameAllSpec : ChangeSpec := { name := "sameAll", fn := fun _ => fun
  | [d1, d2, d3, d4, d5] => { results := [.lit (.bool true)], args := [d1, d2, d3, d4, d5] }
  | _ => none }
def sameAllRow : OpenClaim := { program := "ytdanddamihficaa", sum := "0c7a901b457b7d3eb26d7b67821a3ed9ce8385b798bbebf5084a06a55181f853", func := "hodman/hodmanlaw24.SameAll", spec := "sameAll", plainKeys := false, apart := false }
def SameAllSaid : Prop := sameAllRow.holds Try.pinned (OpenSpec.ofChange sameAllSpec)

/-- ITS FALSE NEIGHBOUR: 'it returns false'. Refute it at one input. -/
def sameAllWrong : ChangeSpec := { name := "sameAll", fn := fun _ => fun
  | [d1, d2, d3, d4, d5] => { results := [.lit (.bool false)], args := [d1, d2, d3, d4, d5] }
  | _ => none }
def SameAllWrongFalsely : Prop := sameAllRow.holds Try.pinned (OpenSpec.ofChange sameAllWrong)

/-- 'hodmanlaw24.SameFails': WHATEVER THE INPUT: true; the input reads as it did. -/
def sameFailsSpec : ChangeSpec := { name := "sameFails", fn := fun _ => fun
  | [d1, d2] => { results := [.lit (.bool true)], args := [d1, d2] }
  | _ => none }
def sameFailsRow : OpenClaim := { program := "ytdanddamihficaa", sum := "0c7a901b457b7d3eb26d7b67821a3ed9ce8385b798bbebf5084a06a55181f853", func := "hodman/hodmanlaw24.SameFails", spec := "sameFails", plainKeys := false, apart := false }
def SameFailsSaid : Prop := sameFailsRow.holds Try.pinned (OpenSpec.ofChange sameFailsSpec)

/-- ITS FALSE NEIGHBOUR: 'it returns false'. Refute it at one input. -/
def sameFailsWrong : ChangeSpec := { name := "sameFails", fn := fun _ => fun
  | [d1, d2] => { results := [.lit (.bool false)], args := [d1, d2] }
  | _ => none }
def SameFailsWrongFalsely : Prop := sameFailsRow.holds Try.pinned (OpenSpec.ofChange sameFailsWrong)

/-- 'hodmanlaw24.SameTrims': WHATEVER THE INPUT: true; the input reads as it did. -/
def sameTrimsSpec : ChangeSpec := { name := "sameTrims", fn := fun _ => fun
  | [d1, d2, d3] => { results := [.lit (.bool true)], args := [d1, d2, d3] }
  | _ => none }
def sameTrimsRow : OpenClaim := { program := "ytdanddamihficaa", sum := "0c7a901b457b7d3eb26d7b67821a3ed9ce8385b798bbebf5084a06a55181f853", func := "hodman/hodmanlaw24.SameTrims", spec := "sameTrims", plainKeys := false, apart := false }
def SameTrimsSaid : Prop := sameTrimsRow.holds Try.pinned (OpenSpec.ofChange sameTrimsSpec)

/-- ITS FALSE NEIGHBOUR: 'it returns false'. Refute it at one input. -/
def sameTrimsWrong : ChangeSpec := { name := "sameTrims", fn := fun _ => fun
  | [d1, d2, d3] => { results := [.lit (.bool false)], args := [d1, d2, d3] }
  | _ => none }
def SameTrimsWrongFalsely : Prop := sameTrimsRow.holds Try.pinned (OpenSpec.ofChange sameTrimsWrong)

/-- 'hodmanlaw24.SameKnown': WHATEVER THE INPUT: true; the input reads as it did. -/
def sameKnownSpec : ChangeSpec := { name := "sameKnown", fn := fun _ => fun
  | [d1, d2, d3] => { results := [.lit (.bool true)], args := [d1, d2, d3] }
  | _ => none }
def sameKnownRow : OpenClaim := { program := "ytdanddamihficaa", sum := "0c7a901b457b7d3eb26d7b67821a3ed9ce8385b798bbebf5084a06a55181f853", func := "hodman/hodmanlaw24.SameKnown", spec := "sameKnown", plainKeys := false, apart := false }
def SameKnownSaid : Prop := sameKnownRow.holds Try.pinned (OpenSpec.ofChange sameKnownSpec)

/-- ITS FALSE NEIGHBOUR: 'it returns false'. Refute it at one input. -/
def sameKnownWrong : ChangeSpec := { name := "sameKnown", fn := fun _ => fun
  | [d1, d2, d3] => { results := [.lit (.bool false)], args := [d1, d2, d3] }
  | _ => none }
def SameKnownWrongFalsely : Prop := sameKnownRow.holds Try.pinned (OpenSpec.ofChange sameKnownWrong)

/-- 'hodmanlaw24.SameForms': WHATEVER THE INPUT: true; the input reads as it did. -/
def sameFormsSpec : ChangeSpec := { name := "sameForms", fn := fun _ => fun
  | [] => { results := [.lit (.bool true)], args := [] }
  | _ => none }
def sameFormsRow : OpenClaim := { program := "ytdanddamihficaa", sum := "0c7a901b457b7d3eb26d7b67821a3ed9ce8385b798bbebf5084a06a55181f853", func := "hodman/hodmanlaw24.SameForms", spec := "sameForms", plainKeys := false, apart := false }
def SameFormsSaid : Prop := sameFormsRow.holds Try.pinned (OpenSpec.ofChange sameFormsSpec)

/-- ITS FALSE NEIGHBOUR: 'it returns false'. Refute it at one input. -/
def sameFormsWrong : ChangeSpec := { name := "sameForms", fn := fun _ => fun
  | [] => { results := [.lit (.bool false)], args := [] }
  | _ => none }
def SameFormsWrongFalsely : Prop := sameFormsRow.holds Try.pinned (OpenSpec.ofChange sameFormsWrong)

/-- 'hodmanlaw24.SameRows': WHATEVER THE INPUT: true; the input reads as it did. -/
def sameRowsSpec : ChangeSpec := { name := "sameRows", fn := fun _ => fun
  | [d1, d2, d3, d4] => { results := [.lit (.bool true)], args := [d1, d2, d3, d4] }
  | _ => none }
def sameRowsRow : OpenClaim := { program := "ytdanddamihficaa", sum := "0c7a901b457b7d3eb26d7b67821a3ed9ce8385b798bbebf5084a06a55181f853", func := "hodman/hodmanlaw24.SameRows", spec := "sameRows", plainKeys := false, apart := false }
def SameRowsSaid : Prop := sameRowsRow.holds Try.pinned (OpenSpec.ofChange sameRowsSpec)

/-- ITS FALSE NEIGHBOUR: 'it returns false'. Refute it at one input. -/
def sameRowsWrong : ChangeSpec := { name := "sameRows", fn := fun _ => fun
  | [d1, d2, d3, d4] => { results := [.lit (.bool false)], args := [d1, d2, d3, d4] }
  | _ => none }
def SameRowsWrongFalsely : Prop := sameRowsRow.holds Try.pinned (OpenSpec.ofChange sameRowsWrong)

/- THE SECOND FORM. 'bulk': how many values and letters a reading holds, each counted each time it is reached (what is shared counts as often as it is met; a slice's spare places count too). A statement '..UptoSaid' is the law's where the arguments, and the package variables that the reading takes, are together of bulk at most 1048576: NARROWER than '..Said'. Prove '..Said' where nothing that the law and all that it calls make is longer than what came in: it says more and counts as full. Else prove '..UptoSaid'. A law counts once. -/
mutual
def uptoBulk {H : Type} : DataW H → Nat
  | .lit (.string bytes) => bytes.length + 1
  | .lit _ => 1
  | .nil => 1
  | .ptr d => uptoBulk d + 1
  | .slice elems spare => uptoBulkAll elems + uptoBulkAll spare + 1
  | .agg parts => uptoBulkAll parts + 1
  | .iface _ d => uptoBulk d + 1
  | .map entries => uptoBulkEntries entries + 1
  | .held _ => 1
def uptoBulkAll {H : Type} : List (DataW H) → Nat
  | [] => 0
  | d :: r => uptoBulk d + uptoBulkAll r
def uptoBulkEntries {H : Type} : List (Lit × DataW H) → Nat
  | [] => 0
  | x :: r => uptoBulkEntry x + uptoBulkEntries r
def uptoBulkEntry {H : Type} : Lit × DataW H → Nat
  | (.string bytes, d) => bytes.length + uptoBulk d + 1
  | (_, d) => uptoBulk d + 1
 end
def uptoSmall : (H : Type) → List (DataW H) → Bool := fun _ ds => decide (uptoBulkAll ds ≤ 1048576)
def OpenSpec.upto (s : _root_.Go.ChangeSpec) : _root_.Go.OpenSpec := { _root_.Go.OpenSpec.ofChange s with cond := some uptoSmall }

/-- 'hodmanlaw23.FairNever', WHERE WHAT IT READS IS OF BULK AT MOST 1048576: true; the input reads as it did. -/
def fairNeverUptoRow : OpenClaim := { program := "ytdanddamihficaa", sum := "0c7a901b457b7d3eb26d7b67821a3ed9ce8385b798bbebf5084a06a55181f853", func := "hodman/hodmanlaw23.FairNever", spec := "fairNever", plainKeys := false, apart := false, narrowed := true }
def FairNeverUptoSaid : Prop := fairNeverUptoRow.holds Try.pinned (OpenSpec.upto fairNeverSpec)

/-- 'hodmanlaw23.FairLess', WHERE WHAT IT READS IS OF BULK AT MOST 1048576: true; the input reads as it did. -/
def fairLessUptoRow : OpenClaim := { program := "ytdanddamihficaa", sum := "0c7a901b457b7d3eb26d7b67821a3ed9ce8385b798bbebf5084a06a55181f853", func := "hodman/hodmanlaw23.FairLess", spec := "fairLess", plainKeys := false, apart := false, narrowed := true }
def FairLessUptoSaid : Prop := fairLessUptoRow.holds Try.pinned (OpenSpec.upto fairLessSpec)

/-- 'hodmanlaw23.FairCharge', WHERE WHAT IT READS IS OF BULK AT MOST 1048576: true; the input reads as it did. -/
def fairChargeUptoRow : OpenClaim := { program := "ytdanddamihficaa", sum := "0c7a901b457b7d3eb26d7b67821a3ed9ce8385b798bbebf5084a06a55181f853", func := "hodman/hodmanlaw23.FairCharge", spec := "fairCharge", plainKeys := false, apart := false, narrowed := true }
def FairChargeUptoSaid : Prop := fairChargeUptoRow.holds Try.pinned (OpenSpec.upto fairChargeSpec)

/-- 'hodmanlaw24.SameAll', WHERE WHAT IT READS IS OF BULK AT MOST 1048576: true; the input reads as it did. -/
def sameAllUptoRow : OpenClaim := { program := "ytdanddamihficaa", sum := "0c7a901b457b7d3eb26d7b67821a3ed9ce8385b798bbebf5084a06a55181f853", func := "hodman/hodmanlaw24.SameAll", spec := "sameAll", plainKeys := false, apart := false, narrowed := true }
def SameAllUptoSaid : Prop := sameAllUptoRow.holds Try.pinned (OpenSpec.upto sameAllSpec)

/-- 'hodmanlaw24.SameFails', WHERE WHAT IT READS IS OF BULK AT MOST 1048576: true; the input reads as it did. -/
def sameFailsUptoRow : OpenClaim := { program := "ytdanddamihficaa", sum := "0c7a901b457b7d3eb26d7b67821a3ed9ce8385b798bbebf5084a06a55181f853", func := "hodman/hodmanlaw24.SameFails", spec := "sameFails", plainKeys := false, apart := false, narrowed := true }
def SameFailsUptoSaid : Prop := sameFailsUptoRow.holds Try.pinned (OpenSpec.upto sameFailsSpec)

/-- 'hodmanlaw24.SameTrims', WHERE WHAT IT READS IS OF BULK AT MOST 1048576: true; the input reads as it did. -/
def sameTrimsUptoRow : OpenClaim := { program := "ytdanddamihficaa", sum := "0c7a901b457b7d3eb26d7b67821a3ed9ce8385b798bbebf5084a06a55181f853", func := "hodman/hodmanlaw24.SameTrims", spec := "sameTrims", plainKeys := false, apart := false, narrowed := true }
def SameTrimsUptoSaid : Prop := sameTrimsUptoRow.holds Try.pinned (OpenSpec.upto sameTrimsSpec)

/-- 'hodmanlaw24.SameKnown', WHERE WHAT IT READS IS OF BULK AT MOST 1048576: true; the input reads as it did. -/
def sameKnownUptoRow : OpenClaim := { program := "ytdanddamihficaa", sum := "0c7a901b457b7d3eb26d7b67821a3ed9ce8385b798bbebf5084a06a55181f853", func := "hodman/hodmanlaw24.SameKnown", spec := "sameKnown", plainKeys := false, apart := false, narrowed := true }
def SameKnownUptoSaid : Prop := sameKnownUptoRow.holds Try.pinned (OpenSpec.upto sameKnownSpec)

/-- 'hodmanlaw24.SameForms', WHERE WHAT IT READS IS OF BULK AT MOST 1048576: true; the input reads as it did. -/
def sameFormsUptoRow : OpenClaim := { program := "ytdanddamihficaa", sum := "0c7a901b457b7d3eb26d7b67821a3ed9ce8385b798bbebf5084a06a55181f853", func := "hodman/hodmanlaw24.SameForms", spec := "sameForms", plainKeys := false, apart := false, narrowed := true }
def SameFormsUptoSaid : Prop := sameFormsUptoRow.holds Try.pinned (OpenSpec.upto sameFormsSpec)

/-- 'hodmanlaw24.SameRows', WHERE WHAT IT READS IS OF BULK AT MOST 1048576: true; the input reads as it did. -/
def sameRowsUptoRow : OpenClaim := { program := "ytdanddamihficaa", sum := "0c7a901b457b7d3eb26d7b67821a3ed9ce8385b798bbebf5084a06a55181f853", func := "hodman/hodmanlaw24.SameRows", spec := "sameRows", plainKeys := false, apart := false, narrowed := true }
def SameRowsUptoSaid : Prop := sameRowsUptoRow.holds Try.pinned (OpenSpec.upto sameRowsSpec)

end Rows
end Go.Proofs.Ytdanddamihficaa
