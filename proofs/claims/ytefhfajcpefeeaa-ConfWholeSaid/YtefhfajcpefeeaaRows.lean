/-
  No cell of these rows narrows 'for every input' (looked for: loops, veiled, ifaces, maps, wideKeys, modest, calm, conditions, laid).
  DERIVED. THE GIVEN ROWS OF THIS SEAT. 11 by the template 'for every input the law returns true; each argument reads behind the call as it read before'; 0 by the template 'total and deterministic' (their statements: YtefhfajcpefeeaaTotals.lean).
  GIVEN WITH THE SEED: the statements are not yours to turn. If you find one false, say at which input.
  Laid BY PROGRAM, IN A SANDBOX (cutbox-rows.mjs): the forced cells as the released guide's own fill.sh prints them over the translation 20d4336c9ba1b646… (all of the seat's roots in one cut). By AI agents, Wed Nov 11 2026. No macro, syntax, notation, axiom, sorry.
-/
import Derived.Test.YtefhfajcpefeeaaChecked
import GoSem.Claim
import GoSem.ClaimJoined
import GoSem.ClaimMapViews
import Derived.JoinedTies
import Derived.KernelRfl
namespace Go.Proofs.Ytefhfajcpefeeaa
/- THE CELL 'sum', in the pinned program and in every row, IS THE sha256 OF THE DUMP (.gsa) THAT YtefhfajcpefeeaaProg.lean LOADS. Nothing in Lean hashes anything: it is a label: what it is worth is what the hold of that sum in a sandbox is worth. -/
noncomputable def Try.pinned : Pinned := { name := "ytefhfajcpefeeaa", sum := "20d4336c9ba1b646b3f9092e35e13020ab8d82f4e74f7996591f2e7ae8647bb6", checked := Try.checked }
namespace Rows
def none {H : Type} : Left H := { results := [], args := [] }

/-- 'hodmanlaw7.ClassAll': WHATEVER THE INPUT: true; the input reads as it did. -/
def classAllSpec : ChangeSpec := { name := "classAll", fn := fun _ => fun
  | [d1, d2, d3, d4] => { results := [.lit (.bool true)], args := [d1, d2, d3, d4] }
  | _ => none }
def classAllRow : OpenClaim := { program := "ytefhfajcpefeeaa", sum := "20d4336c9ba1b646b3f9092e35e13020ab8d82f4e74f7996591f2e7ae8647bb6", func := "hodman/hodmanlaw7.ClassAll", spec := "classAll", apart := false }
def ClassAllSaid : Prop := classAllRow.holds Try.pinned (OpenSpec.ofChange classAllSpec)

/-- ITS FALSE NEIGHBOUR: 'it returns false'. Refute it at one input. -/
def classAllWrong : ChangeSpec := { name := "classAll", fn := fun _ => fun
  | [d1, d2, d3, d4] => { results := [.lit (.bool false)], args := [d1, d2, d3, d4] }
  | _ => none }
def ClassAllWrongFalsely : Prop := classAllRow.holds Try.pinned (OpenSpec.ofChange classAllWrong)

/-- 'hodmanlaw7.ClassLeast': WHATEVER THE INPUT: true; the input reads as it did. -/
def classLeastSpec : ChangeSpec := { name := "classLeast", fn := fun _ => fun
  | [d1, d2, d3] => { results := [.lit (.bool true)], args := [d1, d2, d3] }
  | _ => none }
def classLeastRow : OpenClaim := { program := "ytefhfajcpefeeaa", sum := "20d4336c9ba1b646b3f9092e35e13020ab8d82f4e74f7996591f2e7ae8647bb6", func := "hodman/hodmanlaw7.ClassLeast", spec := "classLeast", apart := false }
def ClassLeastSaid : Prop := classLeastRow.holds Try.pinned (OpenSpec.ofChange classLeastSpec)

/-- ITS FALSE NEIGHBOUR: 'it returns false'. Refute it at one input. -/
def classLeastWrong : ChangeSpec := { name := "classLeast", fn := fun _ => fun
  | [d1, d2, d3] => { results := [.lit (.bool false)], args := [d1, d2, d3] }
  | _ => none }
def ClassLeastWrongFalsely : Prop := classLeastRow.holds Try.pinned (OpenSpec.ofChange classLeastWrong)

/-- 'hodmanlaw7.ClassForms': WHATEVER THE INPUT: true; the input reads as it did. -/
def classFormsSpec : ChangeSpec := { name := "classForms", fn := fun _ => fun
  | [] => { results := [.lit (.bool true)], args := [] }
  | _ => none }
def classFormsRow : OpenClaim := { program := "ytefhfajcpefeeaa", sum := "20d4336c9ba1b646b3f9092e35e13020ab8d82f4e74f7996591f2e7ae8647bb6", func := "hodman/hodmanlaw7.ClassForms", spec := "classForms", apart := false }
def ClassFormsSaid : Prop := classFormsRow.holds Try.pinned (OpenSpec.ofChange classFormsSpec)

/-- ITS FALSE NEIGHBOUR: 'it returns false'. Refute it at one input. -/
def classFormsWrong : ChangeSpec := { name := "classForms", fn := fun _ => fun
  | [] => { results := [.lit (.bool false)], args := [] }
  | _ => none }
def ClassFormsWrongFalsely : Prop := classFormsRow.holds Try.pinned (OpenSpec.ofChange classFormsWrong)

/-- 'hodmanlaw7.ClassMany': WHATEVER THE INPUT: true; the input reads as it did. -/
def classManySpec : ChangeSpec := { name := "classMany", fn := fun _ => fun
  | [d1, d2, d3, d4] => { results := [.lit (.bool true)], args := [d1, d2, d3, d4] }
  | _ => none }
def classManyRow : OpenClaim := { program := "ytefhfajcpefeeaa", sum := "20d4336c9ba1b646b3f9092e35e13020ab8d82f4e74f7996591f2e7ae8647bb6", func := "hodman/hodmanlaw7.ClassMany", spec := "classMany", apart := false }
def ClassManySaid : Prop := classManyRow.holds Try.pinned (OpenSpec.ofChange classManySpec)

/-- ITS FALSE NEIGHBOUR: 'it returns false'. Refute it at one input. -/
def classManyWrong : ChangeSpec := { name := "classMany", fn := fun _ => fun
  | [d1, d2, d3, d4] => { results := [.lit (.bool false)], args := [d1, d2, d3, d4] }
  | _ => none }
def ClassManyWrongFalsely : Prop := classManyRow.holds Try.pinned (OpenSpec.ofChange classManyWrong)

/-- 'hodmanlaw2.ConfAll': WHATEVER THE INPUT: true; the input reads as it did. -/
def confAllSpec : ChangeSpec := { name := "confAll", fn := fun _ => fun
  | [d1, d2, d3, d4] => { results := [.lit (.bool true)], args := [d1, d2, d3, d4] }
  | _ => none }
def confAllRow : OpenClaim := { program := "ytefhfajcpefeeaa", sum := "20d4336c9ba1b646b3f9092e35e13020ab8d82f4e74f7996591f2e7ae8647bb6", func := "hodman/hodmanlaw2.ConfAll", spec := "confAll", apart := false }
def ConfAllSaid : Prop := confAllRow.holds Try.pinned (OpenSpec.ofChange confAllSpec)

/-- ITS FALSE NEIGHBOUR: 'it returns false'. Refute it at one input. -/
def confAllWrong : ChangeSpec := { name := "confAll", fn := fun _ => fun
  | [d1, d2, d3, d4] => { results := [.lit (.bool false)], args := [d1, d2, d3, d4] }
  | _ => none }
def ConfAllWrongFalsely : Prop := confAllRow.holds Try.pinned (OpenSpec.ofChange confAllWrong)

/-- 'hodmanlaw2.ConfWhole': WHATEVER THE INPUT: true; the input reads as it did. -/
def confWholeSpec : ChangeSpec := { name := "confWhole", fn := fun _ => fun
  | [d] => { results := [.lit (.bool true)], args := [d] }
  | _ => none }
def confWholeRow : OpenClaim := { program := "ytefhfajcpefeeaa", sum := "20d4336c9ba1b646b3f9092e35e13020ab8d82f4e74f7996591f2e7ae8647bb6", func := "hodman/hodmanlaw2.ConfWhole", spec := "confWhole", apart := false }
def ConfWholeSaid : Prop := confWholeRow.holds Try.pinned (OpenSpec.ofChange confWholeSpec)

/-- ITS FALSE NEIGHBOUR: 'it returns false'. Refute it at one input. -/
def confWholeWrong : ChangeSpec := { name := "confWhole", fn := fun _ => fun
  | [d] => { results := [.lit (.bool false)], args := [d] }
  | _ => none }
def ConfWholeWrongFalsely : Prop := confWholeRow.holds Try.pinned (OpenSpec.ofChange confWholeWrong)

/-- 'hodmanlaw2.ConfForms': WHATEVER THE INPUT: true; the input reads as it did. -/
def confFormsSpec : ChangeSpec := { name := "confForms", fn := fun _ => fun
  | [] => { results := [.lit (.bool true)], args := [] }
  | _ => none }
def confFormsRow : OpenClaim := { program := "ytefhfajcpefeeaa", sum := "20d4336c9ba1b646b3f9092e35e13020ab8d82f4e74f7996591f2e7ae8647bb6", func := "hodman/hodmanlaw2.ConfForms", spec := "confForms", apart := false }
def ConfFormsSaid : Prop := confFormsRow.holds Try.pinned (OpenSpec.ofChange confFormsSpec)

/-- ITS FALSE NEIGHBOUR: 'it returns false'. Refute it at one input. -/
def confFormsWrong : ChangeSpec := { name := "confForms", fn := fun _ => fun
  | [] => { results := [.lit (.bool false)], args := [] }
  | _ => none }
def ConfFormsWrongFalsely : Prop := confFormsRow.holds Try.pinned (OpenSpec.ofChange confFormsWrong)

/-- 'hodmanlaw2.ConfMore': WHATEVER THE INPUT: true; the input reads as it did. -/
def confMoreSpec : ChangeSpec := { name := "confMore", fn := fun _ => fun
  | [d1, d2, d3, d4] => { results := [.lit (.bool true)], args := [d1, d2, d3, d4] }
  | _ => none }
def confMoreRow : OpenClaim := { program := "ytefhfajcpefeeaa", sum := "20d4336c9ba1b646b3f9092e35e13020ab8d82f4e74f7996591f2e7ae8647bb6", func := "hodman/hodmanlaw2.ConfMore", spec := "confMore", apart := false }
def ConfMoreSaid : Prop := confMoreRow.holds Try.pinned (OpenSpec.ofChange confMoreSpec)

/-- ITS FALSE NEIGHBOUR: 'it returns false'. Refute it at one input. -/
def confMoreWrong : ChangeSpec := { name := "confMore", fn := fun _ => fun
  | [d1, d2, d3, d4] => { results := [.lit (.bool false)], args := [d1, d2, d3, d4] }
  | _ => none }
def ConfMoreWrongFalsely : Prop := confMoreRow.holds Try.pinned (OpenSpec.ofChange confMoreWrong)

/-- 'hodmanlaw16.AdmitAll': WHATEVER THE INPUT: true; the input reads as it did. -/
def admitAllSpec : ChangeSpec := { name := "admitAll", fn := fun _ => fun
  | [d1, d2, d3, d4, d5, d6] => { results := [.lit (.bool true)], args := [d1, d2, d3, d4, d5, d6] }
  | _ => none }
def admitAllRow : OpenClaim := { program := "ytefhfajcpefeeaa", sum := "20d4336c9ba1b646b3f9092e35e13020ab8d82f4e74f7996591f2e7ae8647bb6", func := "hodman/hodmanlaw16.AdmitAll", spec := "admitAll", apart := false }
def AdmitAllSaid : Prop := admitAllRow.holds Try.pinned (OpenSpec.ofChange admitAllSpec)

/-- ITS FALSE NEIGHBOUR: 'it returns false'. Refute it at one input. -/
def admitAllWrong : ChangeSpec := { name := "admitAll", fn := fun _ => fun
  | [d1, d2, d3, d4, d5, d6] => { results := [.lit (.bool false)], args := [d1, d2, d3, d4, d5, d6] }
  | _ => none }
def AdmitAllWrongFalsely : Prop := admitAllRow.holds Try.pinned (OpenSpec.ofChange admitAllWrong)

/-- 'hodmanlaw16.AdmitSums': WHATEVER THE INPUT: true; the input reads as it did. -/
def admitSumsSpec : ChangeSpec := { name := "admitSums", fn := fun _ => fun
  | [d1, d2, d3, d4, d5, d6] => { results := [.lit (.bool true)], args := [d1, d2, d3, d4, d5, d6] }
  | _ => none }
def admitSumsRow : OpenClaim := { program := "ytefhfajcpefeeaa", sum := "20d4336c9ba1b646b3f9092e35e13020ab8d82f4e74f7996591f2e7ae8647bb6", func := "hodman/hodmanlaw16.AdmitSums", spec := "admitSums", apart := false }
def AdmitSumsSaid : Prop := admitSumsRow.holds Try.pinned (OpenSpec.ofChange admitSumsSpec)

/-- ITS FALSE NEIGHBOUR: 'it returns false'. Refute it at one input. -/
def admitSumsWrong : ChangeSpec := { name := "admitSums", fn := fun _ => fun
  | [d1, d2, d3, d4, d5, d6] => { results := [.lit (.bool false)], args := [d1, d2, d3, d4, d5, d6] }
  | _ => none }
def AdmitSumsWrongFalsely : Prop := admitSumsRow.holds Try.pinned (OpenSpec.ofChange admitSumsWrong)

/-- 'hodmanlaw16.AdmitForms': WHATEVER THE INPUT: true; the input reads as it did. -/
def admitFormsSpec : ChangeSpec := { name := "admitForms", fn := fun _ => fun
  | [] => { results := [.lit (.bool true)], args := [] }
  | _ => none }
def admitFormsRow : OpenClaim := { program := "ytefhfajcpefeeaa", sum := "20d4336c9ba1b646b3f9092e35e13020ab8d82f4e74f7996591f2e7ae8647bb6", func := "hodman/hodmanlaw16.AdmitForms", spec := "admitForms", apart := false }
def AdmitFormsSaid : Prop := admitFormsRow.holds Try.pinned (OpenSpec.ofChange admitFormsSpec)

/-- ITS FALSE NEIGHBOUR: 'it returns false'. Refute it at one input. -/
def admitFormsWrong : ChangeSpec := { name := "admitForms", fn := fun _ => fun
  | [] => { results := [.lit (.bool false)], args := [] }
  | _ => none }
def AdmitFormsWrongFalsely : Prop := admitFormsRow.holds Try.pinned (OpenSpec.ofChange admitFormsWrong)

/- THE SECOND FORM. 'bulk': how many values and letters a reading holds, each counted each time it is reached (what is shared counts as often as it is met; a slice's spare places count too). A statement '..UptoSaid' is the law's where the arguments, and the package variables that the reading takes, are together of bulk at most 1048576: NARROWER than '..Said'. Prove '..Said' where nothing that the law and all that it calls make is longer than what came in: it says more and counts as full. Else prove '..UptoSaid'. A law counts once. -/
mutual
def uptoBulk {H : Type} : DataW H → Nat
  | .lit (.string bytes) => bytes.length + 1
  | .lit _ => 1
  | .nil => 1
  | .ptr d => uptoBulk d + 1
  | .slice elems spare => uptoBulkAll elems + uptoBulkAll spare + 1
  | .agg parts => uptoBulkAll parts + 1
  | .iface _ d => uptoBulk d + 1
  | .map entries => uptoBulkEntries entries + 1
  | .held _ => 1
def uptoBulkAll {H : Type} : List (DataW H) → Nat
  | [] => 0
  | d :: r => uptoBulk d + uptoBulkAll r
def uptoBulkEntries {H : Type} : List (Lit × DataW H) → Nat
  | [] => 0
  | x :: r => uptoBulkEntry x + uptoBulkEntries r
def uptoBulkEntry {H : Type} : Lit × DataW H → Nat
  | (.string bytes, d) => bytes.length + uptoBulk d + 1
  | (_, d) => uptoBulk d + 1
 end
def uptoSmall : (H : Type) → List (DataW H) → Bool := fun _ ds => decide (uptoBulkAll ds ≤ 1048576)
def OpenSpec.upto (s : _root_.Go.ChangeSpec) : _root_.Go.OpenSpec := { _root_.Go.OpenSpec.ofChange s with cond := some uptoSmall }

/-- 'hodmanlaw7.ClassAll', WHERE WHAT IT READS IS OF BULK AT MOST 1048576: true; the input reads as it did. -/
def classAllUptoRow : OpenClaim := { program := "ytefhfajcpefeeaa", sum := "20d4336c9ba1b646b3f9092e35e13020ab8d82f4e74f7996591f2e7ae8647bb6", func := "hodman/hodmanlaw7.ClassAll", spec := "classAll", apart := false, narrowed := true }
def ClassAllUptoSaid : Prop := classAllUptoRow.holds Try.pinned (OpenSpec.upto classAllSpec)

/-- 'hodmanlaw7.ClassLeast', WHERE WHAT IT READS IS OF BULK AT MOST 1048576: true; the input reads as it did. -/
def classLeastUptoRow : OpenClaim := { program := "ytefhfajcpefeeaa", sum := "20d4336c9ba1b646b3f9092e35e13020ab8d82f4e74f7996591f2e7ae8647bb6", func := "hodman/hodmanlaw7.ClassLeast", spec := "classLeast", apart := false, narrowed := true }
def ClassLeastUptoSaid : Prop := classLeastUptoRow.holds Try.pinned (OpenSpec.upto classLeastSpec)

/-- 'hodmanlaw7.ClassForms', WHERE WHAT IT READS IS OF BULK AT MOST 1048576: true; the input reads as it did. -/
def classFormsUptoRow : OpenClaim := { program := "ytefhfajcpefeeaa", sum := "20d4336c9ba1b646b3f9092e35e13020ab8d82f4e74f7996591f2e7ae8647bb6", func := "hodman/hodmanlaw7.ClassForms", spec := "classForms", apart := false, narrowed := true }
def ClassFormsUptoSaid : Prop := classFormsUptoRow.holds Try.pinned (OpenSpec.upto classFormsSpec)

/-- 'hodmanlaw7.ClassMany', WHERE WHAT IT READS IS OF BULK AT MOST 1048576: true; the input reads as it did. -/
def classManyUptoRow : OpenClaim := { program := "ytefhfajcpefeeaa", sum := "20d4336c9ba1b646b3f9092e35e13020ab8d82f4e74f7996591f2e7ae8647bb6", func := "hodman/hodmanlaw7.ClassMany", spec := "classMany", apart := false, narrowed := true }
def ClassManyUptoSaid : Prop := classManyUptoRow.holds Try.pinned (OpenSpec.upto classManySpec)

/-- 'hodmanlaw2.ConfAll', WHERE WHAT IT READS IS OF BULK AT MOST 1048576: true; the input reads as it did. -/
def confAllUptoRow : OpenClaim := { program := "ytefhfajcpefeeaa", sum := "20d4336c9ba1b646b3f9092e35e13020ab8d82f4e74f7996591f2e7ae8647bb6", func := "hodman/hodmanlaw2.ConfAll", spec := "confAll", apart := false, narrowed := true }
def ConfAllUptoSaid : Prop := confAllUptoRow.holds Try.pinned (OpenSpec.upto confAllSpec)

/-- 'hodmanlaw2.ConfWhole', WHERE WHAT IT READS IS OF BULK AT MOST 1048576: true; the input reads as it did. -/
def confWholeUptoRow : OpenClaim := { program := "ytefhfajcpefeeaa", sum := "20d4336c9ba1b646b3f9092e35e13020ab8d82f4e74f7996591f2e7ae8647bb6", func := "hodman/hodmanlaw2.ConfWhole", spec := "confWhole", apart := false, narrowed := true }
def ConfWholeUptoSaid : Prop := confWholeUptoRow.holds Try.pinned (OpenSpec.upto confWholeSpec)

/-- 'hodmanlaw2.ConfForms', WHERE WHAT IT READS IS OF BULK AT MOST 1048576: true; the input reads as it did. -/
def confFormsUptoRow : OpenClaim := { program := "ytefhfajcpefeeaa", sum := "20d4336c9ba1b646b3f9092e35e13020ab8d82f4e74f7996591f2e7ae8647bb6", func := "hodman/hodmanlaw2.ConfForms", spec := "confForms", apart := false, narrowed := true }
def ConfFormsUptoSaid : Prop := confFormsUptoRow.holds Try.pinned (OpenSpec.upto confFormsSpec)

/-- 'hodmanlaw2.ConfMore', WHERE WHAT IT READS IS OF BULK AT MOST 1048576: true; the input reads as it did. -/
def confMoreUptoRow : OpenClaim := { program := "ytefhfajcpefeeaa", sum := "20d4336c9ba1b646b3f9092e35e13020ab8d82f4e74f7996591f2e7ae8647bb6", func := "hodman/hodmanlaw2.ConfMore", spec := "confMore", apart := false, narrowed := true }
def ConfMoreUptoSaid : Prop := confMoreUptoRow.holds Try.pinned (OpenSpec.upto confMoreSpec)

/-- 'hodmanlaw16.AdmitAll', WHERE WHAT IT READS IS OF BULK AT MOST 1048576: true; the input reads as it did. -/
def admitAllUptoRow : OpenClaim := { program := "ytefhfajcpefeeaa", sum := "20d4336c9ba1b646b3f9092e35e13020ab8d82f4e74f7996591f2e7ae8647bb6", func := "hodman/hodmanlaw16.AdmitAll", spec := "admitAll", apart := false, narrowed := true }
def AdmitAllUptoSaid : Prop := admitAllUptoRow.holds Try.pinned (OpenSpec.upto admitAllSpec)

/-- 'hodmanlaw16.AdmitSums', WHERE WHAT IT READS IS OF BULK AT MOST 1048576: true; the input reads as it did. -/
def admitSumsUptoRow : OpenClaim := { program := "ytefhfajcpefeeaa", sum := "20d4336c9ba1b646b3f9092e35e13020ab8d82f4e74f7996591f2e7ae8647bb6", func := "hodman/hodmanlaw16.AdmitSums", spec := "admitSums", apart := false, narrowed := true }
def AdmitSumsUptoSaid : Prop := admitSumsUptoRow.holds Try.pinned (OpenSpec.upto admitSumsSpec)

/-- 'hodmanlaw16.AdmitForms', WHERE WHAT IT READS IS OF BULK AT MOST 1048576: true; the input reads as it did. -/
def admitFormsUptoRow : OpenClaim := { program := "ytefhfajcpefeeaa", sum := "20d4336c9ba1b646b3f9092e35e13020ab8d82f4e74f7996591f2e7ae8647bb6", func := "hodman/hodmanlaw16.AdmitForms", spec := "admitForms", apart := false, narrowed := true }
def AdmitFormsUptoSaid : Prop := admitFormsUptoRow.holds Try.pinned (OpenSpec.upto admitFormsSpec)

end Rows
end Go.Proofs.Ytefhfajcpefeeaa
