/-
  No cell of these rows narrows 'for every input' (looked for: loops, veiled, ifaces, maps, wideKeys, modest, calm, conditions, laid).
  DERIVED. THE GIVEN ROWS OF THIS SEAT. 7 by the template 'for every input the law returns true; each argument reads behind the call as it read before'; 0 by the template 'total and deterministic' (their statements: YtikonphhbfilfaaTotals.lean).
  GIVEN WITH THE SEED: the statements are not yours to turn. If you find one false, say at which input.
  Laid BY PROGRAM, IN A SANDBOX (cutbox-rows.mjs): the forced cells as the released guide's own fill.sh prints them over the translation 4289331b7c30fa4e… (all of the seat's roots in one cut). By AI agents, Wed Nov 11 2026. No macro, syntax, notation, axiom, sorry.
-/
import Derived.Test.YtikonphhbfilfaaChecked
import GoSem.Claim
import GoSem.ClaimJoined
import GoSem.ClaimMapViews
import Derived.JoinedTies
import Derived.KernelRfl
namespace Go.Proofs.Ytikonphhbfilfaa
/- THE CELL 'sum', in the pinned program and in every row, IS THE sha256 OF THE DUMP (.gsa) THAT YtikonphhbfilfaaProg.lean LOADS. Nothing in Lean hashes anything: it is a label: what it is worth is what the hold of that sum in a sandbox is worth. -/
noncomputable def Try.pinned : Pinned := { name := "ytikonphhbfilfaa", sum := "4289331b7c30fa4e30ec6caeee195646b9a1fd7a8cae438ca0d9a95dff6ee3c8", checked := Try.checked }
namespace Rows
def none {H : Type} : Left H := { results := [], args := [] }

/-- 'hodmanlaw1.CalcAll': WHATEVER THE INPUT: true; the input reads as it did. -/
def calcAllSpec : ChangeSpec := { name := "calcAll", fn := fun _ => fun
  | [d1, d2] => { results := [.lit (.bool true)], args := [d1, d2] }
  | _ => none }
def calcAllRow : OpenClaim := { program := "ytikonphhbfilfaa", sum := "4289331b7c30fa4e30ec6caeee195646b9a1fd7a8cae438ca0d9a95dff6ee3c8", func := "hodman/hodmanlaw1.CalcAll", spec := "calcAll", apart := false }
def CalcAllSaid : Prop := calcAllRow.holds Try.pinned (OpenSpec.ofChange calcAllSpec)

/-- ITS FALSE NEIGHBOUR: 'it returns false'. Refute it at one input. -/
def calcAllWrong : ChangeSpec := { name := "calcAll", fn := fun _ => fun
  | [d1, d2] => { results := [.lit (.bool false)], args := [d1, d2] }
  | _ => none }
def CalcAllWrongFalsely : Prop := calcAllRow.holds Try.pinned (OpenSpec.ofChange calcAllWrong)

/-- 'hodmanlaw1.CalcBack': WHATEVER THE INPUT: true; the input reads as it did. -/
def calcBackSpec : ChangeSpec := { name := "calcBack", fn := fun _ => fun
  | [d1, d2] => { results := [.lit (.bool true)], args := [d1, d2] }
  | _ => none }
def calcBackRow : OpenClaim := { program := "ytikonphhbfilfaa", sum := "4289331b7c30fa4e30ec6caeee195646b9a1fd7a8cae438ca0d9a95dff6ee3c8", func := "hodman/hodmanlaw1.CalcBack", spec := "calcBack", apart := false }
def CalcBackSaid : Prop := calcBackRow.holds Try.pinned (OpenSpec.ofChange calcBackSpec)

/-- ITS FALSE NEIGHBOUR: 'it returns false'. Refute it at one input. -/
def calcBackWrong : ChangeSpec := { name := "calcBack", fn := fun _ => fun
  | [d1, d2] => { results := [.lit (.bool false)], args := [d1, d2] }
  | _ => none }
def CalcBackWrongFalsely : Prop := calcBackRow.holds Try.pinned (OpenSpec.ofChange calcBackWrong)

/-- 'hodmanlaw1.CalcUp': WHATEVER THE INPUT: true; the input reads as it did. -/
def calcUpSpec : ChangeSpec := { name := "calcUp", fn := fun _ => fun
  | [d] => { results := [.lit (.bool true)], args := [d] }
  | _ => none }
def calcUpRow : OpenClaim := { program := "ytikonphhbfilfaa", sum := "4289331b7c30fa4e30ec6caeee195646b9a1fd7a8cae438ca0d9a95dff6ee3c8", func := "hodman/hodmanlaw1.CalcUp", spec := "calcUp", apart := false }
def CalcUpSaid : Prop := calcUpRow.holds Try.pinned (OpenSpec.ofChange calcUpSpec)

/-- ITS FALSE NEIGHBOUR: 'it returns false'. Refute it at one input. -/
def calcUpWrong : ChangeSpec := { name := "calcUp", fn := fun _ => fun
  | [d] => { results := [.lit (.bool false)], args := [d] }
  | _ => none }
def CalcUpWrongFalsely : Prop := calcUpRow.holds Try.pinned (OpenSpec.ofChange calcUpWrong)

/-- 'hodmanlaw1.CalcRound': WHATEVER THE INPUT: true; the input reads as it did. -/
def calcRoundSpec : ChangeSpec := { name := "calcRound", fn := fun _ => fun
  | [d1, d2] => { results := [.lit (.bool true)], args := [d1, d2] }
  | _ => none }
def calcRoundRow : OpenClaim := { program := "ytikonphhbfilfaa", sum := "4289331b7c30fa4e30ec6caeee195646b9a1fd7a8cae438ca0d9a95dff6ee3c8", func := "hodman/hodmanlaw1.CalcRound", spec := "calcRound", apart := false }
def CalcRoundSaid : Prop := calcRoundRow.holds Try.pinned (OpenSpec.ofChange calcRoundSpec)

/-- ITS FALSE NEIGHBOUR: 'it returns false'. Refute it at one input. -/
def calcRoundWrong : ChangeSpec := { name := "calcRound", fn := fun _ => fun
  | [d1, d2] => { results := [.lit (.bool false)], args := [d1, d2] }
  | _ => none }
def CalcRoundWrongFalsely : Prop := calcRoundRow.holds Try.pinned (OpenSpec.ofChange calcRoundWrong)

/-- 'hodmanlaw1.CalcForms': WHATEVER THE INPUT: true; the input reads as it did. -/
def calcFormsSpec : ChangeSpec := { name := "calcForms", fn := fun _ => fun
  | [] => { results := [.lit (.bool true)], args := [] }
  | _ => none }
def calcFormsRow : OpenClaim := { program := "ytikonphhbfilfaa", sum := "4289331b7c30fa4e30ec6caeee195646b9a1fd7a8cae438ca0d9a95dff6ee3c8", func := "hodman/hodmanlaw1.CalcForms", spec := "calcForms", apart := false }
def CalcFormsSaid : Prop := calcFormsRow.holds Try.pinned (OpenSpec.ofChange calcFormsSpec)

/-- ITS FALSE NEIGHBOUR: 'it returns false'. Refute it at one input. -/
def calcFormsWrong : ChangeSpec := { name := "calcForms", fn := fun _ => fun
  | [] => { results := [.lit (.bool false)], args := [] }
  | _ => none }
def CalcFormsWrongFalsely : Prop := calcFormsRow.holds Try.pinned (OpenSpec.ofChange calcFormsWrong)

/-- 'hodmanlaw1.CalcOrder': WHATEVER THE INPUT: true; the input reads as it did. -/
def calcOrderSpec : ChangeSpec := { name := "calcOrder", fn := fun _ => fun
  | [d1, d2, d3] => { results := [.lit (.bool true)], args := [d1, d2, d3] }
  | _ => none }
def calcOrderRow : OpenClaim := { program := "ytikonphhbfilfaa", sum := "4289331b7c30fa4e30ec6caeee195646b9a1fd7a8cae438ca0d9a95dff6ee3c8", func := "hodman/hodmanlaw1.CalcOrder", spec := "calcOrder", apart := false }
def CalcOrderSaid : Prop := calcOrderRow.holds Try.pinned (OpenSpec.ofChange calcOrderSpec)

/-- ITS FALSE NEIGHBOUR: 'it returns false'. Refute it at one input. -/
def calcOrderWrong : ChangeSpec := { name := "calcOrder", fn := fun _ => fun
  | [d1, d2, d3] => { results := [.lit (.bool false)], args := [d1, d2, d3] }
  | _ => none }
def CalcOrderWrongFalsely : Prop := calcOrderRow.holds Try.pinned (OpenSpec.ofChange calcOrderWrong)

/-- 'hodmanlaw1.CalcPowers': WHATEVER THE INPUT: true; the input reads as it did. -/
def calcPowersSpec : ChangeSpec := { name := "calcPowers", fn := fun _ => fun
  | [d1, d2] => { results := [.lit (.bool true)], args := [d1, d2] }
  | _ => none }
def calcPowersRow : OpenClaim := { program := "ytikonphhbfilfaa", sum := "4289331b7c30fa4e30ec6caeee195646b9a1fd7a8cae438ca0d9a95dff6ee3c8", func := "hodman/hodmanlaw1.CalcPowers", spec := "calcPowers", apart := false }
def CalcPowersSaid : Prop := calcPowersRow.holds Try.pinned (OpenSpec.ofChange calcPowersSpec)

/-- ITS FALSE NEIGHBOUR: 'it returns false'. Refute it at one input. -/
def calcPowersWrong : ChangeSpec := { name := "calcPowers", fn := fun _ => fun
  | [d1, d2] => { results := [.lit (.bool false)], args := [d1, d2] }
  | _ => none }
def CalcPowersWrongFalsely : Prop := calcPowersRow.holds Try.pinned (OpenSpec.ofChange calcPowersWrong)

/- THE SECOND FORM. 'bulk': how many values and letters a reading holds, each counted each time it is reached (what is shared counts as often as it is met; a slice's spare places count too). A statement '..UptoSaid' is the law's where the arguments, and the package variables that the reading takes, are together of bulk at most 1048576: NARROWER than '..Said'. Prove '..Said' where nothing that the law and all that it calls make is longer than what came in: it says more and counts as full. Else prove '..UptoSaid'. A law counts once. -/
mutual
def uptoBulk {H : Type} : DataW H → Nat
  | .lit (.string bytes) => bytes.length + 1
  | .lit _ => 1
  | .nil => 1
  | .ptr d => uptoBulk d + 1
  | .slice elems spare => uptoBulkAll elems + uptoBulkAll spare + 1
  | .agg parts => uptoBulkAll parts + 1
  | .iface _ d => uptoBulk d + 1
  | .map entries => uptoBulkEntries entries + 1
  | .held _ => 1
def uptoBulkAll {H : Type} : List (DataW H) → Nat
  | [] => 0
  | d :: r => uptoBulk d + uptoBulkAll r
def uptoBulkEntries {H : Type} : List (Lit × DataW H) → Nat
  | [] => 0
  | x :: r => uptoBulkEntry x + uptoBulkEntries r
def uptoBulkEntry {H : Type} : Lit × DataW H → Nat
  | (.string bytes, d) => bytes.length + uptoBulk d + 1
  | (_, d) => uptoBulk d + 1
 end
def uptoSmall : (H : Type) → List (DataW H) → Bool := fun _ ds => decide (uptoBulkAll ds ≤ 1048576)
def OpenSpec.upto (s : _root_.Go.ChangeSpec) : _root_.Go.OpenSpec := { _root_.Go.OpenSpec.ofChange s with cond := some uptoSmall }

/-- 'hodmanlaw1.CalcAll', WHERE WHAT IT READS IS OF BULK AT MOST 1048576: true; the input reads as it did. -/
def calcAllUptoRow : OpenClaim := { program := "ytikonphhbfilfaa", sum := "4289331b7c30fa4e30ec6caeee195646b9a1fd7a8cae438ca0d9a95dff6ee3c8", func := "hodman/hodmanlaw1.CalcAll", spec := "calcAll", apart := false, narrowed := true }
def CalcAllUptoSaid : Prop := calcAllUptoRow.holds Try.pinned (OpenSpec.upto calcAllSpec)

/-- 'hodmanlaw1.CalcBack', WHERE WHAT IT READS IS OF BULK AT MOST 1048576: true; the input reads as it did. -/
def calcBackUptoRow : OpenClaim := { program := "ytikonphhbfilfaa", sum := "4289331b7c30fa4e30ec6caeee195646b9a1fd7a8cae438ca0d9a95dff6ee3c8", func := "hodman/hodmanlaw1.CalcBack", spec := "calcBack", apart := false, narrowed := true }
def CalcBackUptoSaid : Prop := calcBackUptoRow.holds Try.pinned (OpenSpec.upto calcBackSpec)

/-- 'hodmanlaw1.CalcUp', WHERE WHAT IT READS IS OF BULK AT MOST 1048576: true; the input reads as it did. -/
def calcUpUptoRow : OpenClaim := { program := "ytikonphhbfilfaa", sum := "4289331b7c30fa4e30ec6caeee195646b9a1fd7a8cae438ca0d9a95dff6ee3c8", func := "hodman/hodmanlaw1.CalcUp", spec := "calcUp", apart := false, narrowed := true }
def CalcUpUptoSaid : Prop := calcUpUptoRow.holds Try.pinned (OpenSpec.upto calcUpSpec)

/-- 'hodmanlaw1.CalcRound', WHERE WHAT IT READS IS OF BULK AT MOST 1048576: true; the input reads as it did. -/
def calcRoundUptoRow : OpenClaim := { program := "ytikonphhbfilfaa", sum := "4289331b7c30fa4e30ec6caeee195646b9a1fd7a8cae438ca0d9a95dff6ee3c8", func := "hodman/hodmanlaw1.CalcRound", spec := "calcRound", apart := false, narrowed := true }
def CalcRoundUptoSaid : Prop := calcRoundUptoRow.holds Try.pinned (OpenSpec.upto calcRoundSpec)

/-- 'hodmanlaw1.CalcForms', WHERE WHAT IT READS IS OF BULK AT MOST 1048576: true; the input reads as it did. -/
def calcFormsUptoRow : OpenClaim := { program := "ytikonphhbfilfaa", sum := "4289331b7c30fa4e30ec6caeee195646b9a1fd7a8cae438ca0d9a95dff6ee3c8", func := "hodman/hodmanlaw1.CalcForms", spec := "calcForms", apart := false, narrowed := true }
def CalcFormsUptoSaid : Prop := calcFormsUptoRow.holds Try.pinned (OpenSpec.upto calcFormsSpec)

/-- 'hodmanlaw1.CalcOrder', WHERE WHAT IT READS IS OF BULK AT MOST 1048576: true; the input reads as it did. -/
def calcOrderUptoRow : OpenClaim := { program := "ytikonphhbfilfaa", sum := "4289331b7c30fa4e30ec6caeee195646b9a1fd7a8cae438ca0d9a95dff6ee3c8", func := "hodman/hodmanlaw1.CalcOrder", spec := "calcOrder", apart := false, narrowed := true }
def CalcOrderUptoSaid : Prop := calcOrderUptoRow.holds Try.pinned (OpenSpec.upto calcOrderSpec)

/-- 'hodmanlaw1.CalcPowers', WHERE WHAT IT READS IS OF BULK AT MOST 1048576: true; the input reads as it did. -/
def calcPowersUptoRow : OpenClaim := { program := "ytikonphhbfilfaa", sum := "4289331b7c30fa4e30ec6caeee195646b9a1fd7a8cae438ca0d9a95dff6ee3c8", func := "hodman/hodmanlaw1.CalcPowers", spec := "calcPowers", apart := false, narrowed := true }
def CalcPowersUptoSaid : Prop := calcPowersUptoRow.holds Try.pinned (OpenSpec.upto calcPowersSpec)

end Rows
end Go.Proofs.Ytikonphhbfilfaa
