/- Texts of the proof (T3); no condition. -/
import Derived.Test.YtbgnjpbcdkegoaaCeilPlaceda
import Derived.KernelRfl
set_option linter.unusedSimpArgs false
set_option linter.unusedVariables false
set_option linter.unusedVariables false
set_option maxRecDepth 100000
namespace Go.Proofs.D
open Go
/- 31 (*hodman/hodmanplay.Picks).Over -/
def hodmanplay_Picks_Over.d : DFn := { ntmps := 13, res := [.t 2], body := (.seq (.region [⟨0, some 2, .move (.k (.c (.bool false))), none⟩]) (.seq (.region [⟨0, some 3, .move (.t 0), none⟩,
    ⟨1, some 4, .nilck (.t 3), none⟩,
    ⟨2, some 5, .faddr 4 1, none⟩,
    ⟨3, some 6, .ldG 5 (.c (.int .i64)), none⟩,
    ⟨4, some 7, .move (.t 0), none⟩,
    ⟨5, some 8, .nilck (.t 7), none⟩,
    ⟨6, some 9, .faddr 8 0, none⟩,
    ⟨7, some 10, .ldG 9 (.c (.sl 1)), none⟩,
    ⟨8, some 11, .len (.t 10), none⟩,
    ⟨9, some 12, .cmp .geq .i64 (.t 6) (.t 11), none⟩,
    ⟨10, some 2, .move (.t 12), none⟩]) .ret)) }
def hodmanplay_Picks_Over.f (M : Mach) (C : Call) (p0i : Nat) (p0o : Nat) (G : GH) : Option Res := guardK (!Nat.beq p0i 0) (((G.ld p0i (p0o + 1)).bind (Cell.asI .i64)).bind fun qx_1 => guardK (!Nat.beq p0i 0) (((G.ld p0i (p0o + 0)).bind (Cell.asS 1)).bind fun qs_2 => some ([.c (.bool (decide (qx_1 ≥ ((qs_2.2.2 : Nat) : Int))))], G)))
theorem hodmanplay_Picks_Over.eq (M : Mach) (C : Call) (p0i : Nat) (p0o : Nat) (G : GH) : runF M C hodmanplay_Picks_Over.d [.c (.ptr p0i p0o)] G = hodmanplay_Picks_Over.f M C p0i p0o G := by kernel_rfl

/- 13 hodman/hodmanplay.Made -/
def hodmanplay_Made.d : DFn := { ntmps := 6, res := [.t 2], body := (.seq (.region [⟨0, some 2, .move (.k (.c (.ptr 0 0))), none⟩]) (.seq (.region [⟨0, some 3, .move (.t 0), none⟩,
    ⟨1, some 4, .build [.sl 1 0 0 0, .int .i64 0] [(0, 1, .t 3)], none⟩,
    ⟨2, some 5, .newv (.t 4) 2, none⟩,
    ⟨3, some 2, .move (.t 5), none⟩]) .ret)) }
def hodmanplay_Made.f (M : Mach) (C : Call) (l0i : Nat) (l0o : Nat) (l0n : Nat) (G : GH) : Option Res := let qG_1 := G.alloc (.row [.sl 1 l0i l0o l0n, .int .i64 0] false); some ([.c (.ptr G.next 0)], qG_1)
theorem hodmanplay_Made.eq (M : Mach) (C : Call) (l0i : Nat) (l0o : Nat) (l0n : Nat) (G : GH) : runF M C hodmanplay_Made.d [.c (.sl 1 l0i l0o l0n)] G = hodmanplay_Made.f M C l0i l0o l0n G := by kernel_rfl
end Go.Proofs.D
