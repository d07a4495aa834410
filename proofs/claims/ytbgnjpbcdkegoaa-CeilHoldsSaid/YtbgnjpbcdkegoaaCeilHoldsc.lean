/- Texts of the proof (T1); no condition. -/
import Derived.Test.YtbgnjpbcdkegoaaCeilHoldsa
import Derived.KernelRfl
set_option linter.unusedSimpArgs false
set_option linter.unusedVariables false
set_option linter.unusedVariables false
set_option maxRecDepth 100000
namespace Go.Proofs.D
open Go
/- 50 hodman/conf.Ceil -/
def conf_Ceil.c6 : DCode := (.cond (.t 12) (.seq (.region [⟨0, some 4, .move (.k (.c (.int .i64 0))), none⟩]) .ret) .skip)
def conf_Ceil.c10 : DCode := (.seq (.region [⟨0, some 13, .faddr 2 2, none⟩,
    ⟨1, some 14, .ldL 13 21 (.c (.int .i64)), none⟩,
    ⟨2, some 15, .move (.t 1), none⟩,
    ⟨3, some 16, .faddr 2 2, none⟩,
    ⟨4, some 17, .ldL 16 21 (.c (.int .i64)), none⟩,
    ⟨5, some 18, .bin .shr .i64 (.t 17) (.k (.c (.int .u64 1))), none⟩,
    ⟨6, some 19, .bin .mul .i64 (.t 15) (.t 18), none⟩,
    ⟨7, some 20, .bin .add .i64 (.t 14) (.t 19), none⟩,
    ⟨8, some 4, .move (.t 20), none⟩]) .ret)
def conf_Ceil.d : DFn := { ntmps := 22, res := [.t 4], body := (.seq (.region [⟨0, some 2, .boxv 21 [9, 13, 16] (.t 0) 8, none⟩,
    ⟨1, some 4, .move (.k (.c (.int .i64 0))), none⟩]) (.seq (.seq (.region [⟨0, some 5, .move (.t 1), none⟩,
    ⟨1, some 6, .cmp .lss .i64 (.t 5) (.k (.c (.int .i64 0))), none⟩,
    ⟨2, some 7, .move (.t 6), none⟩,
    ⟨3, some 8, .move (.t 1), some (7, false)⟩,
    ⟨4, some 9, .faddr 2 3, some (7, false)⟩,
    ⟨5, some 10, .ldL 9 21 (.c (.int .i64)), some (7, false)⟩,
    ⟨6, some 11, .cmp .gtr .i64 (.t 8) (.t 10), some (7, false)⟩,
    ⟨7, some 12, .pick (.t 7) (.k (.c (.bool true))) (.t 11), none⟩]) (.cut [1, 2, 12, 21] conf_Ceil.c6)) conf_Ceil.c10)) }
def conf_Ceil.k10 (M : Mach) (C : Call) : Kont := execC M.j C (M.ag C) conf_Ceil.c10 ({ exits := [], ret := retK conf_Ceil.d } : Env) (retK conf_Ceil.d)
def conf_Ceil.J6 (M : Mach) (C : Call) (class1 : Int) (t12 : Bool) (c21_0 : Int) (c21_1 : Int) (c21_2 : Int) (c21_3 : Int) (c21_4 : Int) (c21_5 : Int) (c21_6 : Int) (c21_7 : Int) (G : GH) : Option Res := M.j (execC M.j C (M.ag C) conf_Ceil.c6 ({ exits := [], ret := retK conf_Ceil.d } : Env) (conf_Ceil.k10 M C)) [.und, .v (.c (.int .i64 class1)), .ref 21 0, .und, .und, .und, .und, .und, .und, .und, .und, .und, .v (.c (.bool t12)), .und, .und, .und, .und, .und, .und, .und, .und, .box [.int .i64 c21_0, .int .i64 c21_1, .int .i64 c21_2, .int .i64 c21_3, .int .i64 c21_4, .int .i64 c21_5, .int .i64 c21_6, .int .i64 c21_7]] G
theorem conf_Ceil.J6_eq (M : Mach) (C : Call) (class1 : Int) (t12 : Bool) (c21_0 : Int) (c21_1 : Int) (c21_2 : Int) (c21_3 : Int) (c21_4 : Int) (c21_5 : Int) (c21_6 : Int) (c21_7 : Int) (G : GH) : conf_Ceil.J6 M C class1 t12 c21_0 c21_1 c21_2 c21_3 c21_4 c21_5 c21_6 c21_7 G = (bif t12 then some ([.c (.int .i64 0)], G) else some ([.c (.int .i64 (IntKind.i64.wrap (c21_2 + (IntKind.i64.wrap (class1 * (Int.fdiv c21_2 (2 ^ (min (1 : Int).toNat IntKind.i64.bits))))))))], G)) := (M.hj _ _ _).trans (by kernel_rfl)
def conf_Ceil.f (M : Mach) (C : Call) (c0_0 : Int) (c0_1 : Int) (c0_2 : Int) (c0_3 : Int) (c0_4 : Int) (c0_5 : Int) (c0_6 : Int) (c0_7 : Int) (class1 : Int) (G : GH) : Option Res := bif decide (class1 < 0) then conf_Ceil.J6 M C class1 true c0_0 c0_1 c0_2 c0_3 c0_4 c0_5 c0_6 c0_7 G else conf_Ceil.J6 M C class1 (decide (class1 > c0_3)) c0_0 c0_1 c0_2 c0_3 c0_4 c0_5 c0_6 c0_7 G
theorem conf_Ceil.eq (M : Mach) (C : Call) (c0_0 : Int) (c0_1 : Int) (c0_2 : Int) (c0_3 : Int) (c0_4 : Int) (c0_5 : Int) (c0_6 : Int) (c0_7 : Int) (class1 : Int) (G : GH) : runF M C conf_Ceil.d [.agg [.int .i64 c0_0, .int .i64 c0_1, .int .i64 c0_2, .int .i64 c0_3, .int .i64 c0_4, .int .i64 c0_5, .int .i64 c0_6, .int .i64 c0_7], .c (.int .i64 class1)] G = conf_Ceil.f M C c0_0 c0_1 c0_2 c0_3 c0_4 c0_5 c0_6 c0_7 class1 G := by kernel_rfl

/- 23 hodman/hodmanref1.Size -/
def hodmanref1_Size.c12 : DCode := (.seq (.seq (.region [⟨0, some 9, .move (.t 6), none⟩,
    ⟨1, some 10, .move (.t 1), none⟩,
    ⟨2, some 11, .cmp .lss .i64 (.t 9) (.t 10), none⟩]) (.cond (.t 11) .skip (.exit 0))) (.seq (.block 1 (.region [⟨0, some 14, .move (.t 5), none⟩,
    ⟨1, some 15, .bin .mul .i64 (.t 14) (.k (.c (.int .i64 2))), none⟩,
    ⟨2, some 5, .move (.t 15), none⟩])) (.region [⟨0, some 12, .move (.t 6), none⟩,
    ⟨1, some 13, .bin .add .i64 (.t 12) (.k (.c (.int .i64 1))), none⟩,
    ⟨2, some 6, .move (.t 13), none⟩])))
def hodmanref1_Size.c18 : DCode := (.seq (.region [⟨0, some 16, .move (.t 5), none⟩,
    ⟨1, some 4, .move (.t 16), none⟩]) .ret)
def hodmanref1_Size.d : DFn := { ntmps := 18, res := [.t 4], body := (.seq (.region [⟨0, some 2, .boxv 17 [7] (.t 0) 8, none⟩,
    ⟨1, some 4, .move (.k (.c (.int .i64 0))), none⟩]) (.seq (.region [⟨0, some 7, .faddr 2 0, none⟩,
    ⟨1, some 8, .ldL 7 17 (.c (.int .i64)), none⟩,
    ⟨2, some 5, .move (.t 8), none⟩]) (.seq (.seq (.region [⟨0, some 6, .move (.k (.c (.int .i64 0))), none⟩]) (.block 0 (.loop [1, 5, 6] hodmanref1_Size.c12))) hodmanref1_Size.c18))) }
def hodmanref1_Size.k18 (M : Mach) (C : Call) : Kont := execC M.j C (M.ag C) hodmanref1_Size.c18 ({ exits := [], ret := retK hodmanref1_Size.d } : Env) (retK hodmanref1_Size.d)
def hodmanref1_Size.e14 (M : Mach) (C : Call) : Env := { exits := (0, (hodmanref1_Size.k18 M C)) :: (({ exits := [], ret := retK hodmanref1_Size.d } : Env)).exits, ret := (({ exits := [], ret := retK hodmanref1_Size.d } : Env)).ret }
def hodmanref1_Size.L13 (M : Mach) (C : Call) (class1 : Int) (n5 : Int) (i6 : Int) (G : GH) : Option Res := M.ag C [1, 5, 6] hodmanref1_Size.c12 (hodmanref1_Size.e14 M C) (hodmanref1_Size.k18 M C) [.und, .v (.c (.int .i64 class1)), .und, .und, .und, .v (.c (.int .i64 n5)), .v (.c (.int .i64 i6)), .und, .und, .und, .und, .und, .und, .und, .und, .und, .und, .und] G
theorem hodmanref1_Size.L13_eq (M : Mach) (C : Call) (class1 : Int) (n5 : Int) (i6 : Int) (G : GH) : hodmanref1_Size.L13 M C class1 n5 i6 G = (bif decide (i6 < class1) then hodmanref1_Size.L13 M C class1 (IntKind.i64.wrap (n5 * 2)) (IntKind.i64.wrap (i6 + 1)) G else some ([.c (.int .i64 n5)], G)) := (M.hs _ _ _ _ _ _ _).trans (by kernel_rfl)
def hodmanref1_Size.f (M : Mach) (C : Call) (c0_0 : Int) (c0_1 : Int) (c0_2 : Int) (c0_3 : Int) (c0_4 : Int) (c0_5 : Int) (c0_6 : Int) (c0_7 : Int) (class1 : Int) (G : GH) : Option Res := hodmanref1_Size.L13 M C class1 c0_0 0 G
theorem hodmanref1_Size.eq (M : Mach) (C : Call) (c0_0 : Int) (c0_1 : Int) (c0_2 : Int) (c0_3 : Int) (c0_4 : Int) (c0_5 : Int) (c0_6 : Int) (c0_7 : Int) (class1 : Int) (G : GH) : runF M C hodmanref1_Size.d [.agg [.int .i64 c0_0, .int .i64 c0_1, .int .i64 c0_2, .int .i64 c0_3, .int .i64 c0_4, .int .i64 c0_5, .int .i64 c0_6, .int .i64 c0_7], .c (.int .i64 class1)] G = hodmanref1_Size.f M C c0_0 c0_1 c0_2 c0_3 c0_4 c0_5 c0_6 c0_7 class1 G := by kernel_rfl

/- 13 hodman/hodmanplay.Made -/
def hodmanplay_Made.d : DFn := { ntmps := 6, res := [.t 2], body := (.seq (.region [⟨0, some 2, .move (.k (.c (.ptr 0 0))), none⟩]) (.seq (.region [⟨0, some 3, .move (.t 0), none⟩,
    ⟨1, some 4, .build [.sl 1 0 0 0, .int .i64 0] [(0, 1, .t 3)], none⟩,
    ⟨2, some 5, .newv (.t 4) 2, none⟩,
    ⟨3, some 2, .move (.t 5), none⟩]) .ret)) }
def hodmanplay_Made.f (M : Mach) (C : Call) (l0i : Nat) (l0o : Nat) (l0n : Nat) (G : GH) : Option Res := let qG_1 := G.alloc (.row [.sl 1 l0i l0o l0n, .int .i64 0] false); some ([.c (.ptr G.next 0)], qG_1)
theorem hodmanplay_Made.eq (M : Mach) (C : Call) (l0i : Nat) (l0o : Nat) (l0n : Nat) (G : GH) : runF M C hodmanplay_Made.d [.c (.sl 1 l0i l0o l0n)] G = hodmanplay_Made.f M C l0i l0o l0n G := by kernel_rfl
end Go.Proofs.D
