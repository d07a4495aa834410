/- Texts of the proof (T1); no condition. -/
import Derived.Test.YtdanddamihficaaFairLessa
import Derived.KernelRfl
set_option linter.unusedSimpArgs false
set_option linter.unusedVariables false
set_option linter.unusedVariables false
set_option maxRecDepth 100000
namespace Go.Proofs.D
open Go
/- 14 (*hodman/hodmanplay.Picks).Raw -/
def hodmanplay_Picks_Raw.c10 : DCode := (.seq (.region [⟨0, some 30, .ldL 6 32 (.agg [.int .i64, .int .i64, .int .i64, .int .i64, .int .i64, .int .i64]), none⟩,
    ⟨1, none, .stL 4 31 (.t 30) 6, none⟩]) .ret)
def hodmanplay_Picks_Raw.d : DFn := { ntmps := 33, res := [.box 4 (some 6)], body := (.seq (.region [⟨0, some 4, .boxz 31 [] [.int .i64 0, .int .i64 0, .int .i64 0, .int .i64 0, .int .i64 0, .int .i64 0], none⟩]) (.seq (.region [⟨0, some 7, .move (.t 0), none⟩,
    ⟨1, some 8, .call 28 [.t 7, .k (.c (.int .i64 9))] [.c (.int .i64)], none⟩,
    ⟨2, some 9, .bin .add .i64 (.k (.c (.int .i64 1))) (.t 8), none⟩,
    ⟨3, some 5, .move (.t 9), none⟩]) (.seq (.region [⟨0, some 10, .move (.t 5), none⟩,
    ⟨1, some 11, .move (.t 5), none⟩,
    ⟨2, some 12, .move (.t 0), none⟩,
    ⟨3, some 13, .call 28 [.t 12, .k (.c (.int .i64 12))] [.c (.int .i64)], none⟩,
    ⟨4, some 14, .bin .add .i64 (.k (.c (.int .i64 1))) (.t 13), none⟩,
    ⟨5, some 15, .bin .mul .i64 (.t 11) (.t 14), none⟩,
    ⟨6, some 16, .move (.t 0), none⟩,
    ⟨7, some 17, .call 28 [.t 16, .k (.c (.int .i64 150))] [.c (.int .i64)], none⟩,
    ⟨8, some 18, .bin .add .i64 (.k (.c (.int .i64 1))) (.t 17), none⟩,
    ⟨9, some 19, .move (.t 0), none⟩,
    ⟨10, some 20, .call 28 [.t 19, .k (.c (.int .i64 30))] [.c (.int .i64)], none⟩,
    ⟨11, some 21, .bin .add .i64 (.k (.c (.int .i64 1))) (.t 20), none⟩,
    ⟨12, some 22, .move (.t 0), none⟩,
    ⟨13, some 23, .call 28 [.t 22, .k (.c (.int .i64 200))] [.c (.int .i64)], none⟩,
    ⟨14, some 24, .move (.t 0), none⟩,
    ⟨15, some 25, .call 28 [.t 24, .k (.c (.int .i64 20))] [.c (.int .i64)], none⟩,
    ⟨16, some 26, .bin .add .i64 (.k (.c (.int .i64 1))) (.t 25), none⟩,
    ⟨17, some 27, .build [.int .i64 0, .int .i64 0, .int .i64 0, .int .i64 0, .int .i64 0, .int .i64 0] [(0, 1, .t 10), (1, 1, .t 15), (2, 1, .t 18), (3, 1, .t 21), (5, 1, .t 23), (4, 1, .t 26)], none⟩,
    ⟨18, some 6, .boxz 32 [29] [.int .i64 0, .int .i64 0, .int .i64 0, .int .i64 0, .int .i64 0, .int .i64 0], none⟩,
    ⟨19, none, .stL 6 32 (.t 27) 6, none⟩]) (.seq (.seq (.region [⟨0, some 28, .move (.t 1), none⟩]) (.cond (.t 28) (.region [⟨0, some 29, .faddr 6 4, none⟩,
    ⟨1, none, .stL 29 32 (.k (.c (.int .i64 5000))) 1, none⟩]) .skip)) (.cut [4, 6, 31, 32] hodmanplay_Picks_Raw.c10))))) }
def hodmanplay_Picks_Raw.J10 (M : Mach) (C : Call) (x31_0 : Int) (x31_1 : Int) (x31_2 : Int) (x31_3 : Int) (x31_4 : Int) (x31_5 : Int) (r32_0 : Int) (r32_1 : Int) (r32_2 : Int) (r32_3 : Int) (r32_4 : Int) (r32_5 : Int) (G : GH) : Option Res := M.j (execC M.j C (M.ag C) hodmanplay_Picks_Raw.c10 ({ exits := [], ret := retK hodmanplay_Picks_Raw.d } : Env) (retK hodmanplay_Picks_Raw.d)) [.und, .und, .und, .und, .ref 31 0, .und, .ref 32 0, .und, .und, .und, .und, .und, .und, .und, .und, .und, .und, .und, .und, .und, .und, .und, .und, .und, .und, .und, .und, .und, .und, .und, .und, .box [.int .i64 x31_0, .int .i64 x31_1, .int .i64 x31_2, .int .i64 x31_3, .int .i64 x31_4, .int .i64 x31_5], .box [.int .i64 r32_0, .int .i64 r32_1, .int .i64 r32_2, .int .i64 r32_3, .int .i64 r32_4, .int .i64 r32_5]] G
theorem hodmanplay_Picks_Raw.J10_eq (M : Mach) (C : Call) (x31_0 : Int) (x31_1 : Int) (x31_2 : Int) (x31_3 : Int) (x31_4 : Int) (x31_5 : Int) (r32_0 : Int) (r32_1 : Int) (r32_2 : Int) (r32_3 : Int) (r32_4 : Int) (r32_5 : Int) (G : GH) : hodmanplay_Picks_Raw.J10 M C x31_0 x31_1 x31_2 x31_3 x31_4 x31_5 r32_0 r32_1 r32_2 r32_3 r32_4 r32_5 G = (some ([.agg [.int .i64 r32_0, .int .i64 r32_1, .int .i64 r32_2, .int .i64 r32_3, .int .i64 r32_4, .int .i64 r32_5]], G)) := (M.hj _ _ _).trans (by kernel_rfl)
def hodmanplay_Picks_Raw.f (M : Mach) (C : Call) (p0i : Nat) (p0o : Nat) (budget1 : Bool) (G : GH) : Option Res := (C hodmanplay_Picks_Num.id [.c (.ptr p0i p0o), .c (.int .i64 9)] G).bind fun qr_1 => (((qr_1.1[0]?).bind V1.c?).bind (Cell.asI .i64)).bind fun qx_2 => (C hodmanplay_Picks_Num.id [.c (.ptr p0i p0o), .c (.int .i64 12)] qr_1.2).bind fun qr_3 => (((qr_3.1[0]?).bind V1.c?).bind (Cell.asI .i64)).bind fun qx_4 => (C hodmanplay_Picks_Num.id [.c (.ptr p0i p0o), .c (.int .i64 150)] qr_3.2).bind fun qr_5 => (((qr_5.1[0]?).bind V1.c?).bind (Cell.asI .i64)).bind fun qx_6 => (C hodmanplay_Picks_Num.id [.c (.ptr p0i p0o), .c (.int .i64 30)] qr_5.2).bind fun qr_7 => (((qr_7.1[0]?).bind V1.c?).bind (Cell.asI .i64)).bind fun qx_8 => (C hodmanplay_Picks_Num.id [.c (.ptr p0i p0o), .c (.int .i64 200)] qr_7.2).bind fun qr_9 => (((qr_9.1[0]?).bind V1.c?).bind (Cell.asI .i64)).bind fun qx_10 => (C hodmanplay_Picks_Num.id [.c (.ptr p0i p0o), .c (.int .i64 20)] qr_9.2).bind fun qr_11 => (((qr_11.1[0]?).bind V1.c?).bind (Cell.asI .i64)).bind fun qx_12 => bif budget1 then hodmanplay_Picks_Raw.J10 M C 0 0 0 0 0 0 (IntKind.i64.wrap (1 + qx_2)) (IntKind.i64.wrap ((IntKind.i64.wrap (1 + qx_2)) * (IntKind.i64.wrap (1 + qx_4)))) (IntKind.i64.wrap (1 + qx_6)) (IntKind.i64.wrap (1 + qx_8)) 5000 qx_10 qr_11.2 else hodmanplay_Picks_Raw.J10 M C 0 0 0 0 0 0 (IntKind.i64.wrap (1 + qx_2)) (IntKind.i64.wrap ((IntKind.i64.wrap (1 + qx_2)) * (IntKind.i64.wrap (1 + qx_4)))) (IntKind.i64.wrap (1 + qx_6)) (IntKind.i64.wrap (1 + qx_8)) (IntKind.i64.wrap (1 + qx_12)) qx_10 qr_11.2
theorem hodmanplay_Picks_Raw.eq (M : Mach) (C : Call) (p0i : Nat) (p0o : Nat) (budget1 : Bool) (G : GH) : runF M C hodmanplay_Picks_Raw.d [.c (.ptr p0i p0o), .c (.bool budget1)] G = hodmanplay_Picks_Raw.f M C p0i p0o budget1 G := by kernel_rfl

/- 17 hodman/fair.May -/
def fair_May.c20 : DCode := (.seq (.region [⟨0, some 15, .cmp .lss .i64 (.t 14) (.t 13), none⟩]) (.seq (.cond (.t 15) .skip (.exit 0)) (.seq (.block 1 (.seq (.region [⟨0, some 16, .move (.t 14), none⟩,
    ⟨1, some 17, .iaddr (.t 12) (.t 14) 6, none⟩,
    ⟨2, some 18, .ldG 17 (.agg [.int .i64, .int .i64, .int .i64, .int .i64, .int .i64, .int .u8]), none⟩,
    ⟨3, some 7, .boxz 26 [] [.int .i64 0, .int .i64 0, .int .i64 0, .int .i64 0, .int .i64 0, .int .u8 0], none⟩,
    ⟨4, some 6, .move (.t 16), none⟩,
    ⟨5, none, .stL 7 26 (.t 18) 6, none⟩]) (.seq (.region [⟨0, some 19, .move (.t 5), none⟩,
    ⟨1, some 20, .move (.t 6), none⟩,
    ⟨2, some 21, .ldL 7 26 (.agg [.int .i64, .int .i64, .int .i64, .int .i64, .int .i64, .int .u8]), none⟩,
    ⟨3, some 22, .call 30 [.t 19, .t 20, .t 21] [.c (.bool)], none⟩,
    ⟨4, some 23, .not (.t 22), none⟩]) (.cond (.t 23) (.seq (.region [⟨0, some 4, .move (.k (.c (.bool false))), none⟩]) .ret) .skip)))) (.region [⟨0, some 24, .bin .add .i64 (.t 14) (.k (.c (.int .i64 1))), none⟩,
    ⟨1, some 14, .move (.t 24), none⟩]))))
def fair_May.c26 : DCode := (.seq (.region [⟨0, some 4, .move (.k (.c (.bool true))), none⟩]) .ret)
def fair_May.d : DFn := { ntmps := 27, res := [.t 4], body := (.seq (.region [⟨0, some 2, .boxv 25 [] (.t 0) 8, none⟩,
    ⟨1, some 4, .move (.k (.c (.bool false))), none⟩]) (.seq (.region [⟨0, some 8, .ldL 2 25 (.agg [.int .i64, .int .i64, .int .i64, .int .i64, .int .i64, .int .i64, .int .i64, .int .i64]), none⟩,
    ⟨1, some 9, .mkmap (.agg [.int .i64]), none⟩,
    ⟨2, some 10, .build [.int .i64 0, .int .i64 0, .int .i64 0, .int .i64 0, .int .i64 0, .int .i64 0, .int .i64 0, .int .i64 0, .map 0, .int .i64 0] [(0, 8, .t 8), (8, 1, .t 9)], none⟩,
    ⟨3, some 11, .newv (.t 10) 10, none⟩,
    ⟨4, some 5, .move (.t 11), none⟩]) (.seq (.seq (.region [⟨0, some 12, .move (.t 1), none⟩,
    ⟨1, some 13, .len (.t 12), none⟩,
    ⟨2, some 14, .move (.k (.c (.int .i64 0))), none⟩]) (.block 0 (.loop [5, 12, 13, 14] fair_May.c20))) fair_May.c26))) }
def fair_May.k26 (M : Mach) (C : Call) : Kont := execC M.j C (M.ag C) fair_May.c26 ({ exits := [], ret := retK fair_May.d } : Env) (retK fair_May.d)
def fair_May.e22 (M : Mach) (C : Call) : Env := { exits := (0, (fair_May.k26 M C)) :: (({ exits := [], ret := retK fair_May.d } : Env)).exits, ret := (({ exits := [], ret := retK fair_May.d } : Env)).ret }
def fair_May.L21 (M : Mach) (C : Call) (f5i : Nat) (f5o : Nat) (t12i : Nat) (t12o : Nat) (t12n : Nat) (t13 : Int) (t14 : Int) (G : GH) : Option Res := M.ag C [5, 12, 13, 14] fair_May.c20 (fair_May.e22 M C) (fair_May.k26 M C) [.und, .und, .und, .und, .und, .v (.c (.ptr f5i f5o)), .und, .und, .und, .und, .und, .und, .v (.c (.sl 6 t12i t12o t12n)), .v (.c (.int .i64 t13)), .v (.c (.int .i64 t14)), .und, .und, .und, .und, .und, .und, .und, .und, .und, .und, .und, .und] G
theorem fair_May.L21_eq (M : Mach) (C : Call) (f5i : Nat) (f5o : Nat) (t12i : Nat) (t12o : Nat) (t12n : Nat) (t13 : Int) (t14 : Int) (G : GH) : fair_May.L21 M C f5i f5o t12i t12o t12n t13 t14 G = (bif decide (t14 < t13) then guardK (decide (0 ≤ t14 ∧ t14 < ((t12n : Nat) : Int))) (((G.ld t12i ((t12o + Int.toNat t14 * 6) + 0)).bind (Cell.asI .i64)).bind fun qx_3 => ((G.ld t12i ((t12o + Int.toNat t14 * 6) + 1)).bind (Cell.asI .i64)).bind fun qx_4 => ((G.ld t12i ((t12o + Int.toNat t14 * 6) + 2)).bind (Cell.asI .i64)).bind fun qx_5 => ((G.ld t12i ((t12o + Int.toNat t14 * 6) + 3)).bind (Cell.asI .i64)).bind fun qx_6 => ((G.ld t12i ((t12o + Int.toNat t14 * 6) + 4)).bind (Cell.asI .i64)).bind fun qx_7 => ((G.ld t12i ((t12o + Int.toNat t14 * 6) + 5)).bind (Cell.asI .u8)).bind fun qx_8 => (C fair_client_does.id [.c (.ptr f5i f5o), .c (.int .i64 t14), .agg [.int .i64 qx_3, .int .i64 qx_4, .int .i64 qx_5, .int .i64 qx_6, .int .i64 qx_7, .int .u8 qx_8]] G).bind fun qr_9 => (((qr_9.1[0]?).bind V1.c?).bind Cell.asB).bind fun qb_10 => bif (!qb_10) then some ([.c (.bool false)], qr_9.2) else fair_May.L21 M C f5i f5o t12i t12o t12n t13 (IntKind.i64.wrap (t14 + 1)) qr_9.2) else some ([.c (.bool true)], G)) := (M.hs _ _ _ _ _ _ _).trans (by kernel_rfl)
def fair_May.f (M : Mach) (C : Call) (c0_0 : Int) (c0_1 : Int) (c0_2 : Int) (c0_3 : Int) (c0_4 : Int) (c0_5 : Int) (c0_6 : Int) (c0_7 : Int) (ops1i : Nat) (ops1o : Nat) (ops1n : Nat) (G : GH) : Option Res := let qG_1 := G.alloc (.map (.agg [.int .i64]) []); let qG_2 := qG_1.alloc (.row [.int .i64 c0_0, .int .i64 c0_1, .int .i64 c0_2, .int .i64 c0_3, .int .i64 c0_4, .int .i64 c0_5, .int .i64 c0_6, .int .i64 c0_7, .map G.next, .int .i64 0] false); fair_May.L21 M C qG_1.next 0 ops1i ops1o ops1n ((ops1n : Nat) : Int) 0 qG_2
theorem fair_May.eq (M : Mach) (C : Call) (c0_0 : Int) (c0_1 : Int) (c0_2 : Int) (c0_3 : Int) (c0_4 : Int) (c0_5 : Int) (c0_6 : Int) (c0_7 : Int) (ops1i : Nat) (ops1o : Nat) (ops1n : Nat) (G : GH) : runF M C fair_May.d [.agg [.int .i64 c0_0, .int .i64 c0_1, .int .i64 c0_2, .int .i64 c0_3, .int .i64 c0_4, .int .i64 c0_5, .int .i64 c0_6, .int .i64 c0_7], .c (.sl 6 ops1i ops1o ops1n)] G = fair_May.f M C c0_0 c0_1 c0_2 c0_3 c0_4 c0_5 c0_6 c0_7 ops1i ops1o ops1n G := by kernel_rfl

/- 28 (*hodman/hodmanplay.Picks).Num -/
def hodmanplay_Picks_Num.c6 : DCode := (.cond (.t 18) (.seq (.region [⟨0, some 4, .move (.k (.c (.int .i64 0))), none⟩]) .ret) .skip)
def hodmanplay_Picks_Num.c12 : DCode := (.seq (.region [⟨0, some 19, .move (.t 0), none⟩,
    ⟨1, some 20, .nilck (.t 19), none⟩,
    ⟨2, some 21, .faddr 20 1, none⟩,
    ⟨3, some 22, .ldG 21 (.c (.int .i64)), none⟩,
    ⟨4, some 23, .bin .add .i64 (.t 22) (.k (.c (.int .i64 1))), none⟩,
    ⟨5, some 24, .nilck (.t 19), none⟩,
    ⟨6, some 25, .faddr 24 1, none⟩,
    ⟨7, none, .stG 25 (.t 23) 1, none⟩]) (.seq (.region [⟨0, some 26, .move (.t 0), none⟩,
    ⟨1, some 27, .nilck (.t 26), none⟩,
    ⟨2, some 28, .faddr 27 0, none⟩,
    ⟨3, some 29, .ldG 28 (.c (.sl 1)), none⟩,
    ⟨4, some 30, .move (.t 0), none⟩,
    ⟨5, some 31, .nilck (.t 30), none⟩,
    ⟨6, some 32, .faddr 31 1, none⟩,
    ⟨7, some 33, .ldG 32 (.c (.int .i64)), none⟩,
    ⟨8, some 34, .bin .sub .i64 (.t 33) (.k (.c (.int .i64 1))), none⟩,
    ⟨9, some 35, .iaddr (.t 29) (.t 34) 1, none⟩,
    ⟨10, some 36, .ldG 35 (.c (.int .u8)), none⟩,
    ⟨11, some 37, .conv .i64 (.t 36), none⟩,
    ⟨12, some 38, .move (.t 1), none⟩,
    ⟨13, some 39, .bin .rem .i64 (.t 37) (.t 38), none⟩,
    ⟨14, some 4, .move (.t 39), none⟩]) .ret))
def hodmanplay_Picks_Num.d : DFn := { ntmps := 40, res := [.t 4], body := (.seq (.region [⟨0, some 4, .move (.k (.c (.int .i64 0))), none⟩]) (.seq (.seq (.region [⟨0, some 5, .move (.t 0), none⟩,
    ⟨1, some 6, .nilck (.t 5), none⟩,
    ⟨2, some 7, .faddr 6 1, none⟩,
    ⟨3, some 8, .ldG 7 (.c (.int .i64)), none⟩,
    ⟨4, some 9, .move (.t 0), none⟩,
    ⟨5, some 10, .nilck (.t 9), none⟩,
    ⟨6, some 11, .faddr 10 0, none⟩,
    ⟨7, some 12, .ldG 11 (.c (.sl 1)), none⟩,
    ⟨8, some 13, .len (.t 12), none⟩,
    ⟨9, some 14, .cmp .geq .i64 (.t 8) (.t 13), none⟩,
    ⟨10, some 15, .move (.t 14), none⟩,
    ⟨11, some 16, .move (.t 1), some (15, false)⟩,
    ⟨12, some 17, .cmp .lss .i64 (.t 16) (.k (.c (.int .i64 1))), some (15, false)⟩,
    ⟨13, some 18, .pick (.t 15) (.k (.c (.bool true))) (.t 17), none⟩]) (.cut [0, 1, 18] hodmanplay_Picks_Num.c6)) hodmanplay_Picks_Num.c12)) }
def hodmanplay_Picks_Num.k12 (M : Mach) (C : Call) : Kont := execC M.j C (M.ag C) hodmanplay_Picks_Num.c12 ({ exits := [], ret := retK hodmanplay_Picks_Num.d } : Env) (retK hodmanplay_Picks_Num.d)
def hodmanplay_Picks_Num.J6 (M : Mach) (C : Call) (p0i : Nat) (p0o : Nat) (m1 : Int) (t18 : Bool) (G : GH) : Option Res := M.j (execC M.j C (M.ag C) hodmanplay_Picks_Num.c6 ({ exits := [], ret := retK hodmanplay_Picks_Num.d } : Env) (hodmanplay_Picks_Num.k12 M C)) [.v (.c (.ptr p0i p0o)), .v (.c (.int .i64 m1)), .und, .und, .und, .und, .und, .und, .und, .und, .und, .und, .und, .und, .und, .und, .und, .und, .v (.c (.bool t18)), .und, .und, .und, .und, .und, .und, .und, .und, .und, .und, .und, .und, .und, .und, .und, .und, .und, .und, .und, .und, .und] G
theorem hodmanplay_Picks_Num.J6_eq (M : Mach) (C : Call) (p0i : Nat) (p0o : Nat) (m1 : Int) (t18 : Bool) (G : GH) : hodmanplay_Picks_Num.J6 M C p0i p0o m1 t18 G = (bif t18 then some ([.c (.int .i64 0)], G) else guardK (!Nat.beq p0i 0) (((G.ld p0i (p0o + 1)).bind (Cell.asI .i64)).bind fun qx_3 => guardK (!Nat.beq p0i 0) ((G.sts p0i (p0o + 1) [.int .i64 (IntKind.i64.wrap (qx_3 + 1))]).bind fun qG_4 => guardK (!Nat.beq p0i 0) (((qG_4.ld p0i (p0o + 0)).bind (Cell.asS 1)).bind fun qs_5 => guardK (!Nat.beq p0i 0) (((qG_4.ld p0i (p0o + 1)).bind (Cell.asI .i64)).bind fun qx_6 => guardK (decide (0 ≤ IntKind.i64.wrap (qx_6 - 1) ∧ IntKind.i64.wrap (qx_6 - 1) < ((qs_5.2.2 : Nat) : Int))) (((qG_4.ld qs_5.1 (qs_5.2.1 + Int.toNat (IntKind.i64.wrap (qx_6 - 1)) * 1)).bind (Cell.asI .u8)).bind fun qx_7 => (binD .rem .i64 (IntKind.i64.wrap qx_7) m1).bind fun qx_8 => some ([.c (.int .i64 qx_8)], qG_4))))))) := (M.hj _ _ _).trans (by kernel_rfl)
def hodmanplay_Picks_Num.f (M : Mach) (C : Call) (p0i : Nat) (p0o : Nat) (m1 : Int) (G : GH) : Option Res := guardK (!Nat.beq p0i 0) (((G.ld p0i (p0o + 1)).bind (Cell.asI .i64)).bind fun qx_1 => guardK (!Nat.beq p0i 0) (((G.ld p0i (p0o + 0)).bind (Cell.asS 1)).bind fun qs_2 => bif decide (qx_1 ≥ ((qs_2.2.2 : Nat) : Int)) then hodmanplay_Picks_Num.J6 M C p0i p0o m1 true G else hodmanplay_Picks_Num.J6 M C p0i p0o m1 (decide (m1 < 1)) G))
theorem hodmanplay_Picks_Num.eq (M : Mach) (C : Call) (p0i : Nat) (p0o : Nat) (m1 : Int) (G : GH) : runF M C hodmanplay_Picks_Num.d [.c (.ptr p0i p0o), .c (.int .i64 m1)] G = hodmanplay_Picks_Num.f M C p0i p0o m1 G := by kernel_rfl

/- 44 hodman/hodmanref1.Log -/
def hodmanref1_Log.c22 : DCode := (.region [⟨0, some 8, .move (.t 5), none⟩,
    ⟨1, some 9, .bin .add .i64 (.t 8) (.k (.c (.int .i64 1))), none⟩,
    ⟨2, some 5, .move (.t 9), none⟩])
def hodmanref1_Log.c24 : DCode := (.seq (.seq (.region [⟨0, some 6, .move (.t 5), none⟩,
    ⟨1, some 7, .cmp .lss .i64 (.t 6) (.k (.c (.int .i64 63))), none⟩]) (.cond (.t 7) .skip (.exit 0))) (.seq (.block 1 (.seq (.seq (.region [⟨0, some 10, .move (.t 4), none⟩,
    ⟨1, some 11, .move (.t 0), none⟩,
    ⟨2, some 12, .cmp .eql .i64 (.t 10) (.t 11), none⟩]) (.cond (.t 12) (.seq (.region [⟨0, some 13, .move (.t 5), none⟩,
    ⟨1, some 2, .move (.t 13), none⟩,
    ⟨2, some 3, .move (.k (.c (.bool true))), none⟩]) .ret) .skip)) (.seq (.region [⟨0, some 14, .move (.t 5), none⟩,
    ⟨1, some 15, .cmp .lss .i64 (.t 14) (.k (.c (.int .i64 62))), none⟩]) (.cond (.t 15) (.region [⟨0, some 16, .move (.t 4), none⟩,
    ⟨1, some 17, .bin .mul .i64 (.t 16) (.k (.c (.int .i64 2))), none⟩,
    ⟨2, some 4, .move (.t 17), none⟩]) .skip)))) (.cut [0, 4, 5] hodmanref1_Log.c22)))
def hodmanref1_Log.c25 : DCode := (.loop [0, 4, 5] hodmanref1_Log.c24)
def hodmanref1_Log.c30 : DCode := (.seq (.region [⟨0, some 2, .move (.k (.c (.int .i64 0))), none⟩,
    ⟨1, some 3, .move (.k (.c (.bool false))), none⟩]) .ret)
def hodmanref1_Log.d : DFn := { ntmps := 18, res := [.t 2, .t 3], body := (.seq (.region [⟨0, some 2, .move (.k (.c (.int .i64 0))), none⟩,
    ⟨1, some 3, .move (.k (.c (.bool false))), none⟩]) (.seq (.region [⟨0, some 4, .move (.k (.c (.int .i64 1))), none⟩]) (.seq (.seq (.region [⟨0, some 5, .move (.k (.c (.int .i64 0))), none⟩]) (.block 0 hodmanref1_Log.c25)) hodmanref1_Log.c30))) }
def hodmanref1_Log.k30 (M : Mach) (C : Call) : Kont := execC M.j C (M.ag C) hodmanref1_Log.c30 ({ exits := [], ret := retK hodmanref1_Log.d } : Env) (retK hodmanref1_Log.d)
def hodmanref1_Log.e26 (M : Mach) (C : Call) : Env := { exits := (0, (hodmanref1_Log.k30 M C)) :: (({ exits := [], ret := retK hodmanref1_Log.d } : Env)).exits, ret := (({ exits := [], ret := retK hodmanref1_Log.d } : Env)).ret }
def hodmanref1_Log.L25 (M : Mach) (C : Call) (v0 : Int) (p4 : Int) (n5 : Int) (G : GH) : Option Res := M.ag C [0, 4, 5] hodmanref1_Log.c24 (hodmanref1_Log.e26 M C) (hodmanref1_Log.k30 M C) [.v (.c (.int .i64 v0)), .und, .und, .und, .v (.c (.int .i64 p4)), .v (.c (.int .i64 n5)), .und, .und, .und, .und, .und, .und, .und, .und, .und, .und, .und, .und] G
def hodmanref1_Log.k25 (M : Mach) (C : Call) : Kont := fun tm G => M.ag C [0, 4, 5] hodmanref1_Log.c24 (hodmanref1_Log.e26 M C) (hodmanref1_Log.k30 M C) (restr [0, 4, 5] 0 tm) G
def hodmanref1_Log.J22 (M : Mach) (C : Call) (v0 : Int) (p4 : Int) (n5 : Int) (G : GH) : Option Res := M.j (execC M.j C (M.ag C) hodmanref1_Log.c22 (hodmanref1_Log.e26 M C) (hodmanref1_Log.k25 M C)) [.v (.c (.int .i64 v0)), .und, .und, .und, .v (.c (.int .i64 p4)), .v (.c (.int .i64 n5)), .und, .und, .und, .und, .und, .und, .und, .und, .und, .und, .und, .und] G
theorem hodmanref1_Log.L25_eq (M : Mach) (C : Call) (v0 : Int) (p4 : Int) (n5 : Int) (G : GH) : hodmanref1_Log.L25 M C v0 p4 n5 G = (bif decide (n5 < 63) then bif decide (p4 = v0) then some ([.c (.int .i64 n5), .c (.bool true)], G) else bif decide (n5 < 62) then hodmanref1_Log.J22 M C v0 (IntKind.i64.wrap (p4 * 2)) n5 G else hodmanref1_Log.J22 M C v0 p4 n5 G else some ([.c (.int .i64 0), .c (.bool false)], G)) := (M.hs _ _ _ _ _ _ _).trans (by kernel_rfl)
theorem hodmanref1_Log.J22_eq (M : Mach) (C : Call) (v0 : Int) (p4 : Int) (n5 : Int) (G : GH) : hodmanref1_Log.J22 M C v0 p4 n5 G = (hodmanref1_Log.L25 M C v0 p4 (IntKind.i64.wrap (n5 + 1)) G) := (M.hj _ _ _).trans (by kernel_rfl)
def hodmanref1_Log.f (M : Mach) (C : Call) (v0 : Int) (G : GH) : Option Res := hodmanref1_Log.L25 M C v0 1 0 G
theorem hodmanref1_Log.eq (M : Mach) (C : Call) (v0 : Int) (G : GH) : runF M C hodmanref1_Log.d [.c (.int .i64 v0)] G = hodmanref1_Log.f M C v0 G := by kernel_rfl

/- 42 hodman/hodmanref1.Up -/
def hodmanref1_Up.c6 : DCode := (.cond (.t 10) (.seq (.region [⟨0, some 2, .move (.k (.c (.int .i64 0))), none⟩,
    ⟨1, some 3, .move (.k (.c (.bool false))), none⟩]) .ret) .skip)
def hodmanref1_Up.c16 : DCode := (.seq (.seq (.region [⟨0, some 11, .move (.t 4), none⟩,
    ⟨1, some 12, .move (.t 0), none⟩,
    ⟨2, some 13, .cmp .lss .i64 (.t 11) (.t 12), none⟩]) (.cond (.t 13) .skip (.exit 0))) (.block 1 (.region [⟨0, some 14, .move (.t 4), none⟩,
    ⟨1, some 15, .bin .mul .i64 (.t 14) (.k (.c (.int .i64 2))), none⟩,
    ⟨2, some 4, .move (.t 15), none⟩])))
def hodmanref1_Up.c21 : DCode := (.seq (.region [⟨0, some 16, .move (.t 4), none⟩,
    ⟨1, some 2, .move (.t 16), none⟩,
    ⟨2, some 3, .move (.k (.c (.bool true))), none⟩]) .ret)
def hodmanref1_Up.c23 : DCode := (.seq (.region [⟨0, some 4, .move (.k (.c (.int .i64 1))), none⟩]) (.seq (.block 0 (.loop [0, 4] hodmanref1_Up.c16)) hodmanref1_Up.c21))
def hodmanref1_Up.d : DFn := { ntmps := 17, res := [.t 2, .t 3], body := (.seq (.region [⟨0, some 2, .move (.k (.c (.int .i64 0))), none⟩,
    ⟨1, some 3, .move (.k (.c (.bool false))), none⟩]) (.seq (.seq (.region [⟨0, some 5, .move (.t 0), none⟩,
    ⟨1, some 6, .cmp .lss .i64 (.t 5) (.k (.c (.int .i64 1))), none⟩,
    ⟨2, some 7, .move (.t 6), none⟩,
    ⟨3, some 8, .move (.t 0), some (7, false)⟩,
    ⟨4, some 9, .cmp .gtr .i64 (.t 8) (.k (.c (.int .i64 4611686018427387904))), some (7, false)⟩,
    ⟨5, some 10, .pick (.t 7) (.k (.c (.bool true))) (.t 9), none⟩]) (.cut [0, 10] hodmanref1_Up.c6)) hodmanref1_Up.c23)) }
def hodmanref1_Up.k23 (M : Mach) (C : Call) : Kont := execC M.j C (M.ag C) hodmanref1_Up.c23 ({ exits := [], ret := retK hodmanref1_Up.d } : Env) (retK hodmanref1_Up.d)
def hodmanref1_Up.J6 (M : Mach) (C : Call) (v0 : Int) (t10 : Bool) (G : GH) : Option Res := M.j (execC M.j C (M.ag C) hodmanref1_Up.c6 ({ exits := [], ret := retK hodmanref1_Up.d } : Env) (hodmanref1_Up.k23 M C)) [.v (.c (.int .i64 v0)), .und, .und, .und, .und, .und, .und, .und, .und, .und, .v (.c (.bool t10)), .und, .und, .und, .und, .und, .und] G
def hodmanref1_Up.k21 (M : Mach) (C : Call) : Kont := execC M.j C (M.ag C) hodmanref1_Up.c21 ({ exits := [], ret := retK hodmanref1_Up.d } : Env) (retK hodmanref1_Up.d)
def hodmanref1_Up.e18 (M : Mach) (C : Call) : Env := { exits := (0, (hodmanref1_Up.k21 M C)) :: (({ exits := [], ret := retK hodmanref1_Up.d } : Env)).exits, ret := (({ exits := [], ret := retK hodmanref1_Up.d } : Env)).ret }
def hodmanref1_Up.L17 (M : Mach) (C : Call) (v0 : Int) (p4 : Int) (G : GH) : Option Res := M.ag C [0, 4] hodmanref1_Up.c16 (hodmanref1_Up.e18 M C) (hodmanref1_Up.k21 M C) [.v (.c (.int .i64 v0)), .und, .und, .und, .v (.c (.int .i64 p4)), .und, .und, .und, .und, .und, .und, .und, .und, .und, .und, .und, .und] G
theorem hodmanref1_Up.J6_eq (M : Mach) (C : Call) (v0 : Int) (t10 : Bool) (G : GH) : hodmanref1_Up.J6 M C v0 t10 G = (bif t10 then some ([.c (.int .i64 0), .c (.bool false)], G) else hodmanref1_Up.L17 M C v0 1 G) := (M.hj _ _ _).trans (by kernel_rfl)
theorem hodmanref1_Up.L17_eq (M : Mach) (C : Call) (v0 : Int) (p4 : Int) (G : GH) : hodmanref1_Up.L17 M C v0 p4 G = (bif decide (p4 < v0) then hodmanref1_Up.L17 M C v0 (IntKind.i64.wrap (p4 * 2)) G else some ([.c (.int .i64 p4), .c (.bool true)], G)) := (M.hs _ _ _ _ _ _ _).trans (by kernel_rfl)
def hodmanref1_Up.f (M : Mach) (C : Call) (v0 : Int) (G : GH) : Option Res := bif decide (v0 < 1) then hodmanref1_Up.J6 M C v0 true G else hodmanref1_Up.J6 M C v0 (decide (v0 > 4611686018427387904)) G
theorem hodmanref1_Up.eq (M : Mach) (C : Call) (v0 : Int) (G : GH) : runF M C hodmanref1_Up.d [.c (.int .i64 v0)] G = hodmanref1_Up.f M C v0 G := by kernel_rfl

/- 19 (*hodman/hodmanplay.Picks).Conf -/
def hodmanplay_Picks_Conf.d : DFn := { ntmps := 23, res := [.box 4 (some 8), .box 5 (some 6)], body := (.seq (.region [⟨0, some 4, .boxz 19 [] [.int .i64 0, .int .i64 0, .int .i64 0, .int .i64 0, .int .i64 0, .int .i64 0, .int .i64 0, .int .i64 0], none⟩,
    ⟨1, some 5, .boxz 20 [] [.int .i64 0, .int .i64 0, .int .i64 0, .int .i64 0, .int .i64 0, .int .i64 0], none⟩]) (.seq (.region [⟨0, some 9, .move (.t 0), none⟩,
    ⟨1, some 10, .move (.t 1), none⟩,
    ⟨2, some 11, .call 14 [.t 9, .t 10] [.agg [.int .i64, .int .i64, .int .i64, .int .i64, .int .i64, .int .i64]], none⟩,
    ⟨3, some 6, .boxz 21 [] [.int .i64 0, .int .i64 0, .int .i64 0, .int .i64 0, .int .i64 0, .int .i64 0], none⟩,
    ⟨4, none, .stL 6 21 (.t 11) 6, none⟩]) (.seq (.region [⟨0, some 13, .ldL 6 21 (.agg [.int .i64, .int .i64, .int .i64, .int .i64, .int .i64, .int .i64]), none⟩,
    ⟨1, some 14, .call 27 [.t 13] [.agg [.int .i64, .int .i64, .int .i64, .int .i64, .int .i64, .int .i64, .int .i64, .int .i64], .c (.int .i64)], none⟩,
    ⟨2, some 12, .move (.t 14), none⟩,
    ⟨3, some 15, .ext 12 0, none⟩,
    ⟨4, some 16, .ext 12 1, none⟩,
    ⟨5, some 7, .boxz 22 [] [.int .i64 0, .int .i64 0, .int .i64 0, .int .i64 0, .int .i64 0, .int .i64 0, .int .i64 0, .int .i64 0], none⟩,
    ⟨6, none, .stL 7 22 (.t 15) 8, none⟩,
    ⟨7, some 8, .move (.t 16), none⟩]) (.seq (.region [⟨0, some 17, .ldL 7 22 (.agg [.int .i64, .int .i64, .int .i64, .int .i64, .int .i64, .int .i64, .int .i64, .int .i64]), none⟩,
    ⟨1, some 18, .ldL 6 21 (.agg [.int .i64, .int .i64, .int .i64, .int .i64, .int .i64, .int .i64]), none⟩,
    ⟨2, none, .stL 4 19 (.t 17) 8, none⟩,
    ⟨3, none, .stL 5 20 (.t 18) 6, none⟩]) .ret)))) }
def hodmanplay_Picks_Conf.f (M : Mach) (C : Call) (p0i : Nat) (p0o : Nat) (budget1 : Bool) (G : GH) : Option Res := (C hodmanplay_Picks_Raw.id [.c (.ptr p0i p0o), .c (.bool budget1)] G).bind fun qr_1 => ((qr_1.1[0]?).bind V1.a?).bind fun qcs_2 => if qcs_2.length = 6 then (((qcs_2[0]?).bind (Cell.asI .i64)).bind fun qx_3 => ((qcs_2[1]?).bind (Cell.asI .i64)).bind fun qx_4 => ((qcs_2[2]?).bind (Cell.asI .i64)).bind fun qx_5 => ((qcs_2[3]?).bind (Cell.asI .i64)).bind fun qx_6 => ((qcs_2[4]?).bind (Cell.asI .i64)).bind fun qx_7 => ((qcs_2[5]?).bind (Cell.asI .i64)).bind fun qx_8 => (C hodmanref1_Of.id [.agg [.int .i64 qx_3, .int .i64 qx_4, .int .i64 qx_5, .int .i64 qx_6, .int .i64 qx_7, .int .i64 qx_8]] qr_1.2).bind fun qr_9 => ((qr_9.1[0]?).bind V1.a?).bind fun qcs_10 => if qcs_10.length = 8 then (((qcs_10[0]?).bind (Cell.asI .i64)).bind fun qx_11 => ((qcs_10[1]?).bind (Cell.asI .i64)).bind fun qx_12 => ((qcs_10[2]?).bind (Cell.asI .i64)).bind fun qx_13 => ((qcs_10[3]?).bind (Cell.asI .i64)).bind fun qx_14 => ((qcs_10[4]?).bind (Cell.asI .i64)).bind fun qx_15 => ((qcs_10[5]?).bind (Cell.asI .i64)).bind fun qx_16 => ((qcs_10[6]?).bind (Cell.asI .i64)).bind fun qx_17 => ((qcs_10[7]?).bind (Cell.asI .i64)).bind fun qx_18 => (((qr_9.1[1]?).bind V1.c?).bind (Cell.asI .i64)).bind fun qx_19 => some ([.agg [.int .i64 qx_11, .int .i64 qx_12, .int .i64 qx_13, .int .i64 qx_14, .int .i64 qx_15, .int .i64 qx_16, .int .i64 qx_17, .int .i64 qx_18], .agg [.int .i64 qx_3, .int .i64 qx_4, .int .i64 qx_5, .int .i64 qx_6, .int .i64 qx_7, .int .i64 qx_8]], qr_9.2)) else none) else none
theorem hodmanplay_Picks_Conf.eq (M : Mach) (C : Call) (p0i : Nat) (p0o : Nat) (budget1 : Bool) (G : GH) : runF M C hodmanplay_Picks_Conf.d [.c (.ptr p0i p0o), .c (.bool budget1)] G = hodmanplay_Picks_Conf.f M C p0i p0o budget1 G := by kernel_rfl

/- 61 hodman/hodmanref1.Add -/
def hodmanref1_Add.c6 : DCode := (.cond (.t 23) (.seq (.region [⟨0, some 4, .move (.k (.c (.int .i64 0))), none⟩,
    ⟨1, some 5, .move (.k (.c (.bool false))), none⟩]) .ret) .skip)
def hodmanref1_Add.c10 : DCode := (.seq (.region [⟨0, some 24, .move (.t 0), none⟩,
    ⟨1, some 25, .move (.t 1), none⟩,
    ⟨2, some 26, .bin .add .i64 (.t 24) (.t 25), none⟩,
    ⟨3, some 4, .move (.t 26), none⟩,
    ⟨4, some 5, .move (.k (.c (.bool true))), none⟩]) .ret)
def hodmanref1_Add.d : DFn := { ntmps := 27, res := [.t 4, .t 5], body := (.seq (.region [⟨0, some 4, .move (.k (.c (.int .i64 0))), none⟩,
    ⟨1, some 5, .move (.k (.c (.bool false))), none⟩]) (.seq (.seq (.region [⟨0, some 6, .move (.t 1), none⟩,
    ⟨1, some 7, .cmp .gtr .i64 (.t 6) (.k (.c (.int .i64 0))), none⟩,
    ⟨2, some 8, .move (.t 7), none⟩,
    ⟨3, some 9, .move (.t 0), some (8, true)⟩,
    ⟨4, some 10, .move (.t 1), some (8, true)⟩,
    ⟨5, some 11, .bin .sub .i64 (.k (.c (.int .i64 9223372036854775807))) (.t 10), some (8, true)⟩,
    ⟨6, some 12, .cmp .gtr .i64 (.t 9) (.t 11), some (8, true)⟩,
    ⟨7, some 13, .pick (.t 8) (.t 12) (.k (.c (.bool false))), none⟩,
    ⟨8, some 14, .move (.t 13), none⟩,
    ⟨9, some 15, .move (.t 1), some (14, false)⟩,
    ⟨10, some 16, .cmp .lss .i64 (.t 15) (.k (.c (.int .i64 0))), some (14, false)⟩,
    ⟨11, some 17, .move (.t 16), some (14, false)⟩,
    ⟨12, some 18, .move (.t 0), some (17, true)⟩,
    ⟨13, some 19, .move (.t 1), some (17, true)⟩,
    ⟨14, some 20, .bin .sub .i64 (.k (.c (.int .i64 (-9223372036854775808)))) (.t 19), some (17, true)⟩,
    ⟨15, some 21, .cmp .lss .i64 (.t 18) (.t 20), some (17, true)⟩,
    ⟨16, some 22, .pick (.t 17) (.t 21) (.k (.c (.bool false))), some (14, false)⟩,
    ⟨17, some 23, .pick (.t 14) (.k (.c (.bool true))) (.t 22), none⟩]) (.cut [0, 1, 23] hodmanref1_Add.c6)) hodmanref1_Add.c10)) }
def hodmanref1_Add.k10 (M : Mach) (C : Call) : Kont := execC M.j C (M.ag C) hodmanref1_Add.c10 ({ exits := [], ret := retK hodmanref1_Add.d } : Env) (retK hodmanref1_Add.d)
def hodmanref1_Add.J6 (M : Mach) (C : Call) (a0 : Int) (b1 : Int) (t23 : Bool) (G : GH) : Option Res := M.j (execC M.j C (M.ag C) hodmanref1_Add.c6 ({ exits := [], ret := retK hodmanref1_Add.d } : Env) (hodmanref1_Add.k10 M C)) [.v (.c (.int .i64 a0)), .v (.c (.int .i64 b1)), .und, .und, .und, .und, .und, .und, .und, .und, .und, .und, .und, .und, .und, .und, .und, .und, .und, .und, .und, .und, .und, .v (.c (.bool t23)), .und, .und, .und] G
theorem hodmanref1_Add.J6_eq (M : Mach) (C : Call) (a0 : Int) (b1 : Int) (t23 : Bool) (G : GH) : hodmanref1_Add.J6 M C a0 b1 t23 G = (bif t23 then some ([.c (.int .i64 0), .c (.bool false)], G) else some ([.c (.int .i64 (IntKind.i64.wrap (a0 + b1))), .c (.bool true)], G)) := (M.hj _ _ _).trans (by kernel_rfl)
def hodmanref1_Add.f (M : Mach) (C : Call) (a0 : Int) (b1 : Int) (G : GH) : Option Res := bif decide (b1 > 0) then bif decide (a0 > IntKind.i64.wrap (9223372036854775807 - b1)) then hodmanref1_Add.J6 M C a0 b1 true G else bif decide (b1 < 0) then hodmanref1_Add.J6 M C a0 b1 (decide (a0 < IntKind.i64.wrap ((-9223372036854775808) - b1))) G else hodmanref1_Add.J6 M C a0 b1 false G else bif decide (b1 < 0) then hodmanref1_Add.J6 M C a0 b1 (decide (a0 < IntKind.i64.wrap ((-9223372036854775808) - b1))) G else hodmanref1_Add.J6 M C a0 b1 false G
theorem hodmanref1_Add.eq (M : Mach) (C : Call) (a0 : Int) (b1 : Int) (G : GH) : runF M C hodmanref1_Add.d [.c (.int .i64 a0), .c (.int .i64 b1)] G = hodmanref1_Add.f M C a0 b1 G := by kernel_rfl

/- 43 hodman/hodmanref1.Round -/
def hodmanref1_Round.c6 : DCode := (.cond (.t 11) (.seq (.region [⟨0, some 4, .move (.k (.c (.int .i64 0))), none⟩,
    ⟨1, some 5, .move (.k (.c (.bool false))), none⟩]) .ret) .skip)
def hodmanref1_Round.c18 : DCode := (.seq (.seq (.region [⟨0, some 12, .move (.t 0), none⟩,
    ⟨1, some 13, .move (.t 1), none⟩,
    ⟨2, some 14, .bin .rem .i64 (.t 12) (.t 13), none⟩,
    ⟨3, some 15, .cmp .eql .i64 (.t 14) (.k (.c (.int .i64 0))), none⟩]) (.cond (.t 15) (.seq (.region [⟨0, some 16, .move (.t 0), none⟩,
    ⟨1, some 4, .move (.t 16), none⟩,
    ⟨2, some 5, .move (.k (.c (.bool true))), none⟩]) .ret) .skip)) (.seq (.region [⟨0, some 17, .move (.t 0), none⟩,
    ⟨1, some 18, .move (.t 0), none⟩,
    ⟨2, some 19, .move (.t 1), none⟩,
    ⟨3, some 20, .bin .rem .i64 (.t 18) (.t 19), none⟩,
    ⟨4, some 21, .bin .sub .i64 (.t 17) (.t 20), none⟩,
    ⟨5, some 22, .move (.t 1), none⟩,
    ⟨6, some 23, .call 61 [.t 21, .t 22] [.c (.int .i64), .c (.bool)], none⟩,
    ⟨7, some 24, .ext 23 0, none⟩,
    ⟨8, some 25, .ext 23 1, none⟩,
    ⟨9, some 4, .move (.t 24), none⟩,
    ⟨10, some 5, .move (.t 25), none⟩]) .ret))
def hodmanref1_Round.d : DFn := { ntmps := 26, res := [.t 4, .t 5], body := (.seq (.region [⟨0, some 4, .move (.k (.c (.int .i64 0))), none⟩,
    ⟨1, some 5, .move (.k (.c (.bool false))), none⟩]) (.seq (.seq (.region [⟨0, some 6, .move (.t 0), none⟩,
    ⟨1, some 7, .cmp .lss .i64 (.t 6) (.k (.c (.int .i64 0))), none⟩,
    ⟨2, some 8, .move (.t 7), none⟩,
    ⟨3, some 9, .move (.t 1), some (8, false)⟩,
    ⟨4, some 10, .cmp .lss .i64 (.t 9) (.k (.c (.int .i64 1))), some (8, false)⟩,
    ⟨5, some 11, .pick (.t 8) (.k (.c (.bool true))) (.t 10), none⟩]) (.cut [0, 1, 11] hodmanref1_Round.c6)) hodmanref1_Round.c18)) }
def hodmanref1_Round.k18 (M : Mach) (C : Call) : Kont := execC M.j C (M.ag C) hodmanref1_Round.c18 ({ exits := [], ret := retK hodmanref1_Round.d } : Env) (retK hodmanref1_Round.d)
def hodmanref1_Round.J6 (M : Mach) (C : Call) (v0 : Int) (to1 : Int) (t11 : Bool) (G : GH) : Option Res := M.j (execC M.j C (M.ag C) hodmanref1_Round.c6 ({ exits := [], ret := retK hodmanref1_Round.d } : Env) (hodmanref1_Round.k18 M C)) [.v (.c (.int .i64 v0)), .v (.c (.int .i64 to1)), .und, .und, .und, .und, .und, .und, .und, .und, .und, .v (.c (.bool t11)), .und, .und, .und, .und, .und, .und, .und, .und, .und, .und, .und, .und, .und, .und] G
theorem hodmanref1_Round.J6_eq (M : Mach) (C : Call) (v0 : Int) (to1 : Int) (t11 : Bool) (G : GH) : hodmanref1_Round.J6 M C v0 to1 t11 G = (bif t11 then some ([.c (.int .i64 0), .c (.bool false)], G) else (binD .rem .i64 v0 to1).bind fun qx_1 => bif decide (qx_1 = 0) then some ([.c (.int .i64 v0), .c (.bool true)], G) else (binD .rem .i64 v0 to1).bind fun qx_2 => (C hodmanref1_Add.id [.c (.int .i64 (IntKind.i64.wrap (v0 - qx_2))), .c (.int .i64 to1)] G).bind fun qr_3 => (((qr_3.1[0]?).bind V1.c?).bind (Cell.asI .i64)).bind fun qx_4 => (((qr_3.1[1]?).bind V1.c?).bind Cell.asB).bind fun qb_5 => some ([.c (.int .i64 qx_4), .c (.bool qb_5)], qr_3.2)) := (M.hj _ _ _).trans (by kernel_rfl)
def hodmanref1_Round.f (M : Mach) (C : Call) (v0 : Int) (to1 : Int) (G : GH) : Option Res := bif decide (v0 < 0) then hodmanref1_Round.J6 M C v0 to1 true G else hodmanref1_Round.J6 M C v0 to1 (decide (to1 < 1)) G
theorem hodmanref1_Round.eq (M : Mach) (C : Call) (v0 : Int) (to1 : Int) (G : GH) : runF M C hodmanref1_Round.d [.c (.int .i64 v0), .c (.int .i64 to1)] G = hodmanref1_Round.f M C v0 to1 G := by kernel_rfl

/- 29 (*hodman/hodmanplay.Picks).Over -/
def hodmanplay_Picks_Over.d : DFn := { ntmps := 13, res := [.t 2], body := (.seq (.region [⟨0, some 2, .move (.k (.c (.bool false))), none⟩]) (.seq (.region [⟨0, some 3, .move (.t 0), none⟩,
    ⟨1, some 4, .nilck (.t 3), none⟩,
    ⟨2, some 5, .faddr 4 1, none⟩,
    ⟨3, some 6, .ldG 5 (.c (.int .i64)), none⟩,
    ⟨4, some 7, .move (.t 0), none⟩,
    ⟨5, some 8, .nilck (.t 7), none⟩,
    ⟨6, some 9, .faddr 8 0, none⟩,
    ⟨7, some 10, .ldG 9 (.c (.sl 1)), none⟩,
    ⟨8, some 11, .len (.t 10), none⟩,
    ⟨9, some 12, .cmp .geq .i64 (.t 6) (.t 11), none⟩,
    ⟨10, some 2, .move (.t 12), none⟩]) .ret)) }
def hodmanplay_Picks_Over.f (M : Mach) (C : Call) (p0i : Nat) (p0o : Nat) (G : GH) : Option Res := guardK (!Nat.beq p0i 0) (((G.ld p0i (p0o + 1)).bind (Cell.asI .i64)).bind fun qx_1 => guardK (!Nat.beq p0i 0) (((G.ld p0i (p0o + 0)).bind (Cell.asS 1)).bind fun qs_2 => some ([.c (.bool (decide (qx_1 ≥ ((qs_2.2.2 : Nat) : Int))))], G)))
theorem hodmanplay_Picks_Over.eq (M : Mach) (C : Call) (p0i : Nat) (p0o : Nat) (G : GH) : runF M C hodmanplay_Picks_Over.d [.c (.ptr p0i p0o)] G = hodmanplay_Picks_Over.f M C p0i p0o G := by kernel_rfl

/- 13 hodman/hodmanplay.Made -/
def hodmanplay_Made.d : DFn := { ntmps := 6, res := [.t 2], body := (.seq (.region [⟨0, some 2, .move (.k (.c (.ptr 0 0))), none⟩]) (.seq (.region [⟨0, some 3, .move (.t 0), none⟩,
    ⟨1, some 4, .build [.sl 1 0 0 0, .int .i64 0] [(0, 1, .t 3)], none⟩,
    ⟨2, some 5, .newv (.t 4) 2, none⟩,
    ⟨3, some 2, .move (.t 5), none⟩]) .ret)) }
def hodmanplay_Made.f (M : Mach) (C : Call) (l0i : Nat) (l0o : Nat) (l0n : Nat) (G : GH) : Option Res := let qG_1 := G.alloc (.row [.sl 1 l0i l0o l0n, .int .i64 0] false); some ([.c (.ptr G.next 0)], qG_1)
theorem hodmanplay_Made.eq (M : Mach) (C : Call) (l0i : Nat) (l0o : Nat) (l0n : Nat) (G : GH) : runF M C hodmanplay_Made.d [.c (.sl 1 l0i l0o l0n)] G = hodmanplay_Made.f M C l0i l0o l0n G := by kernel_rfl
end Go.Proofs.D
