/-
  No cell of these rows narrows 'for every input' (looked for: loops, veiled, ifaces, maps, wideKeys, modest, calm, conditions, laid).
  DERIVED. THE GIVEN ROWS OF THIS SEAT. 3 by the template 'for every input the law returns true; each argument reads behind the call as it read before'; 0 by the template 'total and deterministic' (their statements: YtogdeblppihbnaaTotals.lean).
  GIVEN WITH THE SEED: the statements are not yours to turn. If you find one false, say at which input.
  Laid BY PROGRAM, IN A SANDBOX (cutbox-rows.mjs): the forced cells as the released guide's own fill.sh prints them over the translation 8f796dc214949ac1… (all of the seat's roots in one cut). By AI agents, Wed Nov 11 2026. No macro, syntax, notation, axiom, sorry.
-/
import Derived.Test.YtogdeblppihbnaaChecked
import GoSem.Claim
import GoSem.ClaimJoined
import GoSem.ClaimMapViews
import Derived.JoinedTies
import Derived.KernelRfl
namespace Go.Proofs.Ytogdeblppihbnaa
/- THE CELL 'sum', in the pinned program and in every row, IS THE sha256 OF THE DUMP (.gsa) THAT YtogdeblppihbnaaProg.lean LOADS. Nothing in Lean hashes anything: it is a label: what it is worth is what the hold of that sum in a sandbox is worth. -/
noncomputable def Try.pinned : Pinned := { name := "ytogdeblppihbnaa", sum := "8f796dc214949ac13c565c9a3aabce3bfb0e385efb11fac0a4f641044d68bb85", checked := Try.checked }
namespace Rows
def none {H : Type} : Left H := { results := [], args := [] }

/-- 'hodmantop.TopBytes': WHATEVER THE INPUT: true; the input reads as it did. -/
def topBytesSpec : ChangeSpec := { name := "topBytes", fn := fun _ => fun
  | [d1, d2] => { results := [.lit (.bool true)], args := [d1, d2] }
  | _ => none }
def topBytesRow : OpenClaim := { program := "ytogdeblppihbnaa", sum := "8f796dc214949ac13c565c9a3aabce3bfb0e385efb11fac0a4f641044d68bb85", func := "hodman/hodmantop.TopBytes", spec := "topBytes", inPlace := ["slices.overlaps[hodman/api.Mark]"], unfollowed := true, recurses := true, plainKeys := false, apart := false }
def TopBytesSaid : Prop := topBytesRow.holds Try.pinned (OpenSpec.ofChange topBytesSpec)

/-- ITS FALSE NEIGHBOUR: 'it returns false'. Refute it at one input. -/
def topBytesWrong : ChangeSpec := { name := "topBytes", fn := fun _ => fun
  | [d1, d2] => { results := [.lit (.bool false)], args := [d1, d2] }
  | _ => none }
def TopBytesWrongFalsely : Prop := topBytesRow.holds Try.pinned (OpenSpec.ofChange topBytesWrong)

/-- 'hodmantop.TopWild': WHATEVER THE INPUT: true; the input reads as it did. -/
def topWildSpec : ChangeSpec := { name := "topWild", fn := fun _ => fun
  | [d1, d2] => { results := [.lit (.bool true)], args := [d1, d2] }
  | _ => none }
def topWildRow : OpenClaim := { program := "ytogdeblppihbnaa", sum := "8f796dc214949ac13c565c9a3aabce3bfb0e385efb11fac0a4f641044d68bb85", func := "hodman/hodmantop.TopWild", spec := "topWild", inPlace := ["slices.overlaps[hodman/api.Mark]"], unfollowed := true, recurses := true, plainKeys := false, apart := false }
def TopWildSaid : Prop := topWildRow.holds Try.pinned (OpenSpec.ofChange topWildSpec)

/-- ITS FALSE NEIGHBOUR: 'it returns false'. Refute it at one input. -/
def topWildWrong : ChangeSpec := { name := "topWild", fn := fun _ => fun
  | [d1, d2] => { results := [.lit (.bool false)], args := [d1, d2] }
  | _ => none }
def TopWildWrongFalsely : Prop := topWildRow.holds Try.pinned (OpenSpec.ofChange topWildWrong)

/-- 'hodmantop.TopTight': WHATEVER THE INPUT: true; the input reads as it did. -/
def topTightSpec : ChangeSpec := { name := "topTight", fn := fun _ => fun
  | [d] => { results := [.lit (.bool true)], args := [d] }
  | _ => none }
def topTightRow : OpenClaim := { program := "ytogdeblppihbnaa", sum := "8f796dc214949ac13c565c9a3aabce3bfb0e385efb11fac0a4f641044d68bb85", func := "hodman/hodmantop.TopTight", spec := "topTight", inPlace := ["slices.overlaps[hodman/api.Mark]"], unfollowed := true, recurses := true, plainKeys := false, apart := false }
def TopTightSaid : Prop := topTightRow.holds Try.pinned (OpenSpec.ofChange topTightSpec)

/-- ITS FALSE NEIGHBOUR: 'it returns false'. Refute it at one input. -/
def topTightWrong : ChangeSpec := { name := "topTight", fn := fun _ => fun
  | [d] => { results := [.lit (.bool false)], args := [d] }
  | _ => none }
def TopTightWrongFalsely : Prop := topTightRow.holds Try.pinned (OpenSpec.ofChange topTightWrong)

/- THE SECOND FORM. 'bulk': how many values and letters a reading holds, each counted each time it is reached (what is shared counts as often as it is met; a slice's spare places count too). A statement '..UptoSaid' is the law's where the arguments, and the package variables that the reading takes, are together of bulk at most 1048576: NARROWER than '..Said'. Prove '..Said' where nothing that the law and all that it calls make is longer than what came in: it says more and counts as full. Else prove '..UptoSaid'. A law counts once. -/
mutual
def uptoBulk {H : Type} : DataW H → Nat
  | .lit (.string bytes) => bytes.length + 1
  | .lit _ => 1
  | .nil => 1
  | .ptr d => uptoBulk d + 1
  | .slice elems spare => uptoBulkAll elems + uptoBulkAll spare + 1
  | .agg parts => uptoBulkAll parts + 1
  | .iface _ d => uptoBulk d + 1
  | .map entries => uptoBulkEntries entries + 1
  | .held _ => 1
def uptoBulkAll {H : Type} : List (DataW H) → Nat
  | [] => 0
  | d :: r => uptoBulk d + uptoBulkAll r
def uptoBulkEntries {H : Type} : List (Lit × DataW H) → Nat
  | [] => 0
  | x :: r => uptoBulkEntry x + uptoBulkEntries r
def uptoBulkEntry {H : Type} : Lit × DataW H → Nat
  | (.string bytes, d) => bytes.length + uptoBulk d + 1
  | (_, d) => uptoBulk d + 1
 end
def uptoSmall : (H : Type) → List (DataW H) → Bool := fun _ ds => decide (uptoBulkAll ds ≤ 1048576)
def OpenSpec.upto (s : _root_.Go.ChangeSpec) : _root_.Go.OpenSpec := { _root_.Go.OpenSpec.ofChange s with cond := some uptoSmall }

/-- 'hodmantop.TopBytes', WHERE WHAT IT READS IS OF BULK AT MOST 1048576: true; the input reads as it did. -/
def topBytesUptoRow : OpenClaim := { program := "ytogdeblppihbnaa", sum := "8f796dc214949ac13c565c9a3aabce3bfb0e385efb11fac0a4f641044d68bb85", func := "hodman/hodmantop.TopBytes", spec := "topBytes", inPlace := ["slices.overlaps[hodman/api.Mark]"], unfollowed := true, recurses := true, plainKeys := false, apart := false, narrowed := true }
def TopBytesUptoSaid : Prop := topBytesUptoRow.holds Try.pinned (OpenSpec.upto topBytesSpec)

/-- 'hodmantop.TopWild', WHERE WHAT IT READS IS OF BULK AT MOST 1048576: true; the input reads as it did. -/
def topWildUptoRow : OpenClaim := { program := "ytogdeblppihbnaa", sum := "8f796dc214949ac13c565c9a3aabce3bfb0e385efb11fac0a4f641044d68bb85", func := "hodman/hodmantop.TopWild", spec := "topWild", inPlace := ["slices.overlaps[hodman/api.Mark]"], unfollowed := true, recurses := true, plainKeys := false, apart := false, narrowed := true }
def TopWildUptoSaid : Prop := topWildUptoRow.holds Try.pinned (OpenSpec.upto topWildSpec)

/-- 'hodmantop.TopTight', WHERE WHAT IT READS IS OF BULK AT MOST 1048576: true; the input reads as it did. -/
def topTightUptoRow : OpenClaim := { program := "ytogdeblppihbnaa", sum := "8f796dc214949ac13c565c9a3aabce3bfb0e385efb11fac0a4f641044d68bb85", func := "hodman/hodmantop.TopTight", spec := "topTight", inPlace := ["slices.overlaps[hodman/api.Mark]"], unfollowed := true, recurses := true, plainKeys := false, apart := false, narrowed := true }
def TopTightUptoSaid : Prop := topTightUptoRow.holds Try.pinned (OpenSpec.upto topTightSpec)

end Rows
end Go.Proofs.Ytogdeblppihbnaa
