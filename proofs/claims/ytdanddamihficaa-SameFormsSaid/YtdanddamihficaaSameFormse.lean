/- Texts of the proof (T3); no condition. -/
import Derived.Test.YtdanddamihficaaSameFormsa
import Derived.KernelRfl
set_option linter.unusedSimpArgs false
set_option linter.unusedVariables false
set_option linter.unusedVariables false
set_option maxRecDepth 100000
namespace Go.Proofs.D
open Go
/- 76 slices.Index[[]int,int] -/
def slices_Index_int_int.c19 : DCode := (.seq (.region [⟨0, some 9, .cmp .lss .i64 (.t 8) (.t 7), none⟩]) (.seq (.cond (.t 9) .skip (.exit 0)) (.seq (.block 1 (.seq (.region [⟨0, some 10, .move (.t 8), none⟩,
    ⟨1, some 5, .move (.t 10), none⟩]) (.seq (.region [⟨0, some 11, .move (.t 1), none⟩,
    ⟨1, some 12, .move (.t 0), none⟩,
    ⟨2, some 13, .move (.t 5), none⟩,
    ⟨3, some 14, .iaddr (.t 12) (.t 13) 1, none⟩,
    ⟨4, some 15, .ldG 14 (.c (.int .i64)), none⟩,
    ⟨5, some 16, .cmp .eql .i64 (.t 11) (.t 15), none⟩]) (.cond (.t 16) (.seq (.region [⟨0, some 17, .move (.t 5), none⟩,
    ⟨1, some 4, .move (.t 17), none⟩]) .ret) .skip)))) (.region [⟨0, some 18, .bin .add .i64 (.t 8) (.k (.c (.int .i64 1))), none⟩,
    ⟨1, some 8, .move (.t 18), none⟩]))))
def slices_Index_int_int.c25 : DCode := (.seq (.region [⟨0, some 4, .move (.k (.c (.int .i64 (-1)))), none⟩]) .ret)
def slices_Index_int_int.d : DFn := { ntmps := 19, res := [.t 4], body := (.seq (.region [⟨0, some 4, .move (.k (.c (.int .i64 0))), none⟩]) (.seq (.seq (.region [⟨0, some 6, .move (.t 0), none⟩,
    ⟨1, some 7, .len (.t 6), none⟩,
    ⟨2, some 8, .move (.k (.c (.int .i64 0))), none⟩]) (.block 0 (.loop [0, 1, 7, 8] slices_Index_int_int.c19))) slices_Index_int_int.c25)) }
def slices_Index_int_int.k25 (M : Mach) (C : Call) : Kont := execC M.j C (M.ag C) slices_Index_int_int.c25 ({ exits := [], ret := retK slices_Index_int_int.d } : Env) (retK slices_Index_int_int.d)
def slices_Index_int_int.e21 (M : Mach) (C : Call) : Env := { exits := (0, (slices_Index_int_int.k25 M C)) :: (({ exits := [], ret := retK slices_Index_int_int.d } : Env)).exits, ret := (({ exits := [], ret := retK slices_Index_int_int.d } : Env)).ret }
def slices_Index_int_int.L20 (M : Mach) (C : Call) (s0i : Nat) (s0o : Nat) (s0n : Nat) (v1 : Int) (t7 : Int) (t8 : Int) (G : GH) : Option Res := M.ag C [0, 1, 7, 8] slices_Index_int_int.c19 (slices_Index_int_int.e21 M C) (slices_Index_int_int.k25 M C) [.v (.c (.sl 1 s0i s0o s0n)), .v (.c (.int .i64 v1)), .und, .und, .und, .und, .und, .v (.c (.int .i64 t7)), .v (.c (.int .i64 t8)), .und, .und, .und, .und, .und, .und, .und, .und, .und, .und] G
theorem slices_Index_int_int.L20_eq (M : Mach) (C : Call) (s0i : Nat) (s0o : Nat) (s0n : Nat) (v1 : Int) (t7 : Int) (t8 : Int) (G : GH) : slices_Index_int_int.L20 M C s0i s0o s0n v1 t7 t8 G = (bif decide (t8 < t7) then guardK (decide (0 ≤ t8 ∧ t8 < ((s0n : Nat) : Int))) (((G.ld s0i (s0o + Int.toNat t8 * 1)).bind (Cell.asI .i64)).bind fun qx_1 => bif decide (v1 = qx_1) then some ([.c (.int .i64 t8)], G) else slices_Index_int_int.L20 M C s0i s0o s0n v1 t7 (IntKind.i64.wrap (t8 + 1)) G) else some ([.c (.int .i64 (-1))], G)) := (M.hs _ _ _ _ _ _ _).trans (by kernel_rfl)
def slices_Index_int_int.f (M : Mach) (C : Call) (s0i : Nat) (s0o : Nat) (s0n : Nat) (v1 : Int) (G : GH) : Option Res := slices_Index_int_int.L20 M C s0i s0o s0n v1 ((s0n : Nat) : Int) 0 G
theorem slices_Index_int_int.eq (M : Mach) (C : Call) (s0i : Nat) (s0o : Nat) (s0n : Nat) (v1 : Int) (G : GH) : runF M C slices_Index_int_int.d [.c (.sl 1 s0i s0o s0n), .c (.int .i64 v1)] G = slices_Index_int_int.f M C s0i s0o s0n v1 G := by kernel_rfl

/- 49 hodman/hodmanref1.Many -/
def hodmanref1_Many.d : DFn := { ntmps := 29, res := [.t 8, .t 9], body := (.seq (.region [⟨0, some 4, .boxv 28 [] (.t 0) 8, none⟩,
    ⟨1, some 8, .move (.k (.c (.int .i64 0))), none⟩,
    ⟨2, some 9, .move (.k (.c (.int .i64 0))), none⟩]) (.seq (.region [⟨0, some 13, .ldL 4 28 (.agg [.int .i64, .int .i64, .int .i64, .int .i64, .int .i64, .int .i64, .int .i64, .int .i64]), none⟩,
    ⟨1, some 14, .move (.t 2), none⟩,
    ⟨2, some 15, .move (.t 3), none⟩,
    ⟨3, some 16, .call 60 [.t 13, .t 14, .t 15] [.c (.int .i64), .c (.int .i64)], none⟩,
    ⟨4, some 12, .move (.t 16), none⟩,
    ⟨5, some 17, .ext 12 0, none⟩,
    ⟨6, some 18, .ext 12 1, none⟩,
    ⟨7, some 10, .move (.t 17), none⟩,
    ⟨8, some 11, .move (.t 18), none⟩]) (.seq (.seq (.region [⟨0, some 19, .move (.t 11), none⟩,
    ⟨1, some 20, .cmp .neq .i64 (.t 19) (.k (.c (.int .i64 0))), none⟩]) (.cond (.t 20) (.seq (.region [⟨0, some 21, .move (.t 11), none⟩,
    ⟨1, some 8, .move (.k (.c (.int .i64 0))), none⟩,
    ⟨2, some 9, .move (.t 21), none⟩]) .ret) .skip)) (.seq (.region [⟨0, some 22, .ldL 4 28 (.agg [.int .i64, .int .i64, .int .i64, .int .i64, .int .i64, .int .i64, .int .i64, .int .i64]), none⟩,
    ⟨1, some 23, .move (.t 1), none⟩,
    ⟨2, some 24, .move (.t 10), none⟩,
    ⟨3, some 25, .call 48 [.t 22, .t 23, .t 24, .k (.c (.int .i64 1))] [.c (.int .i64), .c (.int .i64)], none⟩,
    ⟨4, some 26, .ext 25 0, none⟩,
    ⟨5, some 27, .ext 25 1, none⟩,
    ⟨6, some 8, .move (.t 26), none⟩,
    ⟨7, some 9, .move (.t 27), none⟩]) .ret)))) }
def hodmanref1_Many.f (M : Mach) (C : Call) (c0_0 : Int) (c0_1 : Int) (c0_2 : Int) (c0_3 : Int) (c0_4 : Int) (c0_5 : Int) (c0_6 : Int) (c0_7 : Int) (live1 : Int) (n2 : Int) (s3 : Int) (G : GH) : Option Res := (C hodmanref1_Product.id [.agg [.int .i64 c0_0, .int .i64 c0_1, .int .i64 c0_2, .int .i64 c0_3, .int .i64 c0_4, .int .i64 c0_5, .int .i64 c0_6, .int .i64 c0_7], .c (.int .i64 n2), .c (.int .i64 s3)] G).bind fun qr_1 => (((qr_1.1[0]?).bind V1.c?).bind (Cell.asI .i64)).bind fun qx_2 => (((qr_1.1[1]?).bind V1.c?).bind (Cell.asI .i64)).bind fun qx_3 => bif (!decide (qx_3 = 0)) then some ([.c (.int .i64 0), .c (.int .i64 qx_3)], qr_1.2) else (C hodmanref1_New.id [.agg [.int .i64 c0_0, .int .i64 c0_1, .int .i64 c0_2, .int .i64 c0_3, .int .i64 c0_4, .int .i64 c0_5, .int .i64 c0_6, .int .i64 c0_7], .c (.int .i64 live1), .c (.int .i64 qx_2), .c (.int .i64 1)] qr_1.2).bind fun qr_4 => (((qr_4.1[0]?).bind V1.c?).bind (Cell.asI .i64)).bind fun qx_5 => (((qr_4.1[1]?).bind V1.c?).bind (Cell.asI .i64)).bind fun qx_6 => some ([.c (.int .i64 qx_5), .c (.int .i64 qx_6)], qr_4.2)
theorem hodmanref1_Many.eq (M : Mach) (C : Call) (c0_0 : Int) (c0_1 : Int) (c0_2 : Int) (c0_3 : Int) (c0_4 : Int) (c0_5 : Int) (c0_6 : Int) (c0_7 : Int) (live1 : Int) (n2 : Int) (s3 : Int) (G : GH) : runF M C hodmanref1_Many.d [.agg [.int .i64 c0_0, .int .i64 c0_1, .int .i64 c0_2, .int .i64 c0_3, .int .i64 c0_4, .int .i64 c0_5, .int .i64 c0_6, .int .i64 c0_7], .c (.int .i64 live1), .c (.int .i64 n2), .c (.int .i64 s3)] G = hodmanref1_Many.f M C c0_0 c0_1 c0_2 c0_3 c0_4 c0_5 c0_6 c0_7 live1 n2 s3 G := by kernel_rfl

/- 35 hodman/hodmanref17.Find -/
def hodmanref17_Find.c17 : DCode := (.seq (.seq (.region [⟨0, some 6, .move (.t 5), none⟩,
    ⟨1, some 7, .move (.t 0), none⟩,
    ⟨2, some 8, .len (.t 7), none⟩,
    ⟨3, some 9, .cmp .lss .i64 (.t 6) (.t 8), none⟩]) (.cond (.t 9) .skip (.exit 0))) (.seq (.block 1 (.seq (.region [⟨0, some 12, .move (.t 0), none⟩,
    ⟨1, some 13, .move (.t 5), none⟩,
    ⟨2, some 14, .iaddr (.t 12) (.t 13) 3, none⟩,
    ⟨3, some 15, .faddr 14 0, none⟩,
    ⟨4, some 16, .ldG 15 (.c (.int .i64)), none⟩,
    ⟨5, some 17, .move (.t 1), none⟩,
    ⟨6, some 18, .cmp .eql .i64 (.t 16) (.t 17), none⟩]) (.cond (.t 18) (.seq (.region [⟨0, some 19, .move (.t 5), none⟩,
    ⟨1, some 4, .move (.t 19), none⟩]) .ret) .skip))) (.region [⟨0, some 10, .move (.t 5), none⟩,
    ⟨1, some 11, .bin .add .i64 (.t 10) (.k (.c (.int .i64 1))), none⟩,
    ⟨2, some 5, .move (.t 11), none⟩])))
def hodmanref17_Find.c23 : DCode := (.seq (.region [⟨0, some 4, .move (.k (.c (.int .i64 (-1)))), none⟩]) .ret)
def hodmanref17_Find.d : DFn := { ntmps := 20, res := [.t 4], body := (.seq (.region [⟨0, some 4, .move (.k (.c (.int .i64 0))), none⟩]) (.seq (.seq (.region [⟨0, some 5, .move (.k (.c (.int .i64 0))), none⟩]) (.block 0 (.loop [0, 1, 5] hodmanref17_Find.c17))) hodmanref17_Find.c23)) }
def hodmanref17_Find.k23 (M : Mach) (C : Call) : Kont := execC M.j C (M.ag C) hodmanref17_Find.c23 ({ exits := [], ret := retK hodmanref17_Find.d } : Env) (retK hodmanref17_Find.d)
def hodmanref17_Find.e19 (M : Mach) (C : Call) : Env := { exits := (0, (hodmanref17_Find.k23 M C)) :: (({ exits := [], ret := retK hodmanref17_Find.d } : Env)).exits, ret := (({ exits := [], ret := retK hodmanref17_Find.d } : Env)).ret }
def hodmanref17_Find.L18 (M : Mach) (C : Call) (l0i : Nat) (l0o : Nat) (l0n : Nat) (at1 : Int) (i5 : Int) (G : GH) : Option Res := M.ag C [0, 1, 5] hodmanref17_Find.c17 (hodmanref17_Find.e19 M C) (hodmanref17_Find.k23 M C) [.v (.c (.sl 3 l0i l0o l0n)), .v (.c (.int .i64 at1)), .und, .und, .und, .v (.c (.int .i64 i5)), .und, .und, .und, .und, .und, .und, .und, .und, .und, .und, .und, .und, .und, .und] G
theorem hodmanref17_Find.L18_eq (M : Mach) (C : Call) (l0i : Nat) (l0o : Nat) (l0n : Nat) (at1 : Int) (i5 : Int) (G : GH) : hodmanref17_Find.L18 M C l0i l0o l0n at1 i5 G = (bif decide (i5 < ((l0n : Nat) : Int)) then guardK (decide (0 ≤ i5 ∧ i5 < ((l0n : Nat) : Int))) (((G.ld l0i ((l0o + Int.toNat i5 * 3) + 0)).bind (Cell.asI .i64)).bind fun qx_1 => bif decide (qx_1 = at1) then some ([.c (.int .i64 i5)], G) else hodmanref17_Find.L18 M C l0i l0o l0n at1 (IntKind.i64.wrap (i5 + 1)) G) else some ([.c (.int .i64 (-1))], G)) := (M.hs _ _ _ _ _ _ _).trans (by kernel_rfl)
def hodmanref17_Find.f (M : Mach) (C : Call) (l0i : Nat) (l0o : Nat) (l0n : Nat) (at1 : Int) (G : GH) : Option Res := hodmanref17_Find.L18 M C l0i l0o l0n at1 0 G
theorem hodmanref17_Find.eq (M : Mach) (C : Call) (l0i : Nat) (l0o : Nat) (l0n : Nat) (at1 : Int) (G : GH) : runF M C hodmanref17_Find.d [.c (.sl 3 l0i l0o l0n), .c (.int .i64 at1)] G = hodmanref17_Find.f M C l0i l0o l0n at1 G := by kernel_rfl

/- 48 hodman/hodmanref1.New -/
def hodmanref1_New.d : DFn := { ntmps := 30, res := [.t 8, .t 9], body := (.seq (.region [⟨0, some 4, .boxv 29 [23] (.t 0) 8, none⟩,
    ⟨1, some 8, .move (.k (.c (.int .i64 0))), none⟩,
    ⟨2, some 9, .move (.k (.c (.int .i64 0))), none⟩]) (.seq (.region [⟨0, some 13, .ldL 4 29 (.agg [.int .i64, .int .i64, .int .i64, .int .i64, .int .i64, .int .i64, .int .i64, .int .i64]), none⟩,
    ⟨1, some 14, .move (.t 2), none⟩,
    ⟨2, some 15, .move (.t 3), none⟩,
    ⟨3, some 16, .call 59 [.t 13, .t 14, .t 15] [.c (.int .i64), .c (.int .i64)], none⟩,
    ⟨4, some 12, .move (.t 16), none⟩,
    ⟨5, some 17, .ext 12 0, none⟩,
    ⟨6, some 18, .ext 12 1, none⟩,
    ⟨7, some 10, .move (.t 17), none⟩,
    ⟨8, some 11, .move (.t 18), none⟩]) (.seq (.seq (.region [⟨0, some 19, .move (.t 11), none⟩,
    ⟨1, some 20, .cmp .neq .i64 (.t 19) (.k (.c (.int .i64 0))), none⟩]) (.cond (.t 20) (.seq (.region [⟨0, some 21, .move (.t 11), none⟩,
    ⟨1, some 8, .move (.k (.c (.int .i64 0))), none⟩,
    ⟨2, some 9, .move (.t 21), none⟩]) .ret) .skip)) (.seq (.seq (.region [⟨0, some 22, .move (.t 1), none⟩,
    ⟨1, some 23, .faddr 4 2, none⟩,
    ⟨2, some 24, .ldL 23 29 (.c (.int .i64)), none⟩,
    ⟨3, some 25, .move (.t 10), none⟩,
    ⟨4, some 26, .bin .sub .i64 (.t 24) (.t 25), none⟩,
    ⟨5, some 27, .cmp .gtr .i64 (.t 22) (.t 26), none⟩]) (.cond (.t 27) (.seq (.region [⟨0, some 8, .move (.k (.c (.int .i64 0))), none⟩,
    ⟨1, some 9, .move (.k (.c (.int .i64 5))), none⟩]) .ret) .skip)) (.seq (.region [⟨0, some 28, .move (.t 10), none⟩,
    ⟨1, some 8, .move (.t 28), none⟩,
    ⟨2, some 9, .move (.k (.c (.int .i64 0))), none⟩]) .ret))))) }
def hodmanref1_New.f (M : Mach) (C : Call) (c0_0 : Int) (c0_1 : Int) (c0_2 : Int) (c0_3 : Int) (c0_4 : Int) (c0_5 : Int) (c0_6 : Int) (c0_7 : Int) (live1 : Int) (s2 : Int) (a3 : Int) (G : GH) : Option Res := (C hodmanref1_Charge.id [.agg [.int .i64 c0_0, .int .i64 c0_1, .int .i64 c0_2, .int .i64 c0_3, .int .i64 c0_4, .int .i64 c0_5, .int .i64 c0_6, .int .i64 c0_7], .c (.int .i64 s2), .c (.int .i64 a3)] G).bind fun qr_1 => (((qr_1.1[0]?).bind V1.c?).bind (Cell.asI .i64)).bind fun qx_2 => (((qr_1.1[1]?).bind V1.c?).bind (Cell.asI .i64)).bind fun qx_3 => bif (!decide (qx_3 = 0)) then some ([.c (.int .i64 0), .c (.int .i64 qx_3)], qr_1.2) else bif decide (live1 > IntKind.i64.wrap (c0_2 - qx_2)) then some ([.c (.int .i64 0), .c (.int .i64 5)], qr_1.2) else some ([.c (.int .i64 qx_2), .c (.int .i64 0)], qr_1.2)
theorem hodmanref1_New.eq (M : Mach) (C : Call) (c0_0 : Int) (c0_1 : Int) (c0_2 : Int) (c0_3 : Int) (c0_4 : Int) (c0_5 : Int) (c0_6 : Int) (c0_7 : Int) (live1 : Int) (s2 : Int) (a3 : Int) (G : GH) : runF M C hodmanref1_New.d [.agg [.int .i64 c0_0, .int .i64 c0_1, .int .i64 c0_2, .int .i64 c0_3, .int .i64 c0_4, .int .i64 c0_5, .int .i64 c0_6, .int .i64 c0_7], .c (.int .i64 live1), .c (.int .i64 s2), .c (.int .i64 a3)] G = hodmanref1_New.f M C c0_0 c0_1 c0_2 c0_3 c0_4 c0_5 c0_6 c0_7 live1 s2 a3 G := by kernel_rfl

/- 58 (*hodman/same.reader).knows -/
def same_reader_knows.d : DFn := { ntmps := 36, res := [.t 6], body := (.seq (.region [⟨0, some 6, .move (.k (.c (.bool false))), none⟩]) (.seq (.region [⟨0, some 10, .move (.t 0), none⟩,
    ⟨1, some 11, .nilck (.t 10), none⟩,
    ⟨2, some 12, .faddr 11 8, none⟩,
    ⟨3, some 13, .ldG 12 (.c (.map)), none⟩,
    ⟨4, some 14, .move (.t 1), none⟩,
    ⟨5, some 15, .build [.int .i64 0, .int .i64 0] [(0, 1, .t 14)], none⟩,
    ⟨6, some 16, .lkup (.agg [.int .i64, .int .i64]) (.t 13) (.t 15) (.c (.ptr 0 0)) (.c (.ptr)) true, none⟩,
    ⟨7, some 9, .move (.t 16), none⟩,
    ⟨8, some 17, .ext 9 0, none⟩,
    ⟨9, some 18, .ext 9 1, none⟩,
    ⟨10, some 7, .move (.t 17), none⟩,
    ⟨11, some 8, .move (.t 18), none⟩]) (.seq (.region [⟨0, some 19, .move (.t 8), none⟩,
    ⟨1, some 20, .move (.t 19), none⟩,
    ⟨2, some 21, .move (.t 2), some (20, true)⟩,
    ⟨3, some 22, .move (.t 7), some (20, true)⟩,
    ⟨4, some 23, .nilck (.t 22), some (20, true)⟩,
    ⟨5, some 24, .faddr 23 1, some (20, true)⟩,
    ⟨6, some 25, .ldG 24 (.c (.int .i64)), some (20, true)⟩,
    ⟨7, some 26, .cmp .lss .i64 (.t 21) (.t 25), some (20, true)⟩,
    ⟨8, some 27, .move (.t 26), some (20, true)⟩,
    ⟨9, some 28, .move (.t 7), some (27, false)⟩,
    ⟨10, some 29, .nilck (.t 28), some (27, false)⟩,
    ⟨11, some 30, .faddr 29 2, some (27, false)⟩,
    ⟨12, some 31, .ldG 30 (.c (.sl 1)), some (27, false)⟩,
    ⟨13, some 32, .move (.t 2), some (27, false)⟩,
    ⟨14, some 33, .call 71 [.t 31, .t 32] [.c (.bool)], some (27, false)⟩,
    ⟨15, some 34, .pick (.t 27) (.k (.c (.bool true))) (.t 33), some (20, true)⟩,
    ⟨16, some 35, .pick (.t 20) (.t 34) (.k (.c (.bool false))), none⟩,
    ⟨17, some 6, .move (.t 35), none⟩]) .ret))) }
def same_reader_knows.f (M : Mach) (C : Call) (r0i : Nat) (r0o : Nat) (at1 : Int) (n2 : Int) (G : GH) : Option Res := guardK (!Nat.beq r0i 0) (((G.ld r0i (r0o + 8)).bind Cell.asM).bind fun qm_1 => (G.ents0 (.agg [.int .i64, .int .i64]) qm_1).bind fun qes_2 => ((((some ((mapGet qes_2 (.agg [.int .i64 at1, .int .i64 0])).getD (.c (.ptr 0 0))))).bind V1.c?).bind Cell.asP).bind fun qp_3 => bif (mapGet qes_2 (.agg [.int .i64 at1, .int .i64 0])).isSome then guardK (!Nat.beq qp_3.1 0) (((G.ld qp_3.1 (qp_3.2 + 1)).bind (Cell.asI .i64)).bind fun qx_4 => bif decide (n2 < qx_4) then some ([.c (.bool true)], G) else guardK (!Nat.beq qp_3.1 0) (((G.ld qp_3.1 (qp_3.2 + 2)).bind (Cell.asS 1)).bind fun qs_5 => (C slices_Contains_int_int.id [.c (.sl 1 qs_5.1 qs_5.2.1 qs_5.2.2), .c (.int .i64 n2)] G).bind fun qr_6 => (((qr_6.1[0]?).bind V1.c?).bind Cell.asB).bind fun qb_7 => some ([.c (.bool qb_7)], qr_6.2))) else some ([.c (.bool false)], G))
theorem same_reader_knows.eq (M : Mach) (C : Call) (r0i : Nat) (r0o : Nat) (at1 : Int) (n2 : Int) (G : GH) : runF M C same_reader_knows.d [.c (.ptr r0i r0o), .c (.int .i64 at1), .c (.int .i64 n2)] G = same_reader_knows.f M C r0i r0o at1 n2 G := by kernel_rfl

/- 36 hodman/hodmanref17.wrong -/
def hodmanref17_wrong.d : DFn := { ntmps := 12, res := [.box 4 (some 14), .box 5 (some 8)], body := (.seq (.region [⟨0, some 2, .boxv 9 [] (.t 0) 14, none⟩,
    ⟨1, some 4, .boxz 10 [] [.int .i64 0, .int .i64 0, .int .i64 0, .int .i64 0, .int .i64 0, .int .i64 0, .int .i64 0, .int .i64 0, .sl 3 0 0 0, .int .i64 0, .int .i64 0, .int .i64 0, .sl 1 0 0 0, .sl 1 0 0 0], none⟩,
    ⟨2, some 5, .boxz 11 [] [.int .i64 0, .int .i64 0, .int .i64 0, .int .u8 0, .int .i64 0, .int .i64 0, .int .i64 0, .int .i64 0], none⟩]) (.seq (.region [⟨0, some 6, .ldL 2 9 (.agg [.int .i64, .int .i64, .int .i64, .int .i64, .int .i64, .int .i64, .int .i64, .int .i64, .sl 3, .int .i64, .int .i64, .int .i64, .sl 1, .sl 1]), none⟩,
    ⟨1, some 7, .move (.t 1), none⟩,
    ⟨2, some 8, .build [.int .i64 0, .int .i64 0, .int .i64 0, .int .u8 0, .int .i64 0, .int .i64 0, .int .i64 0, .int .i64 0] [(0, 1, .t 7)], none⟩,
    ⟨3, none, .stL 4 10 (.t 6) 14, none⟩,
    ⟨4, none, .stL 5 11 (.t 8) 8, none⟩]) .ret)) }
def hodmanref17_wrong.f (M : Mach) (C : Call) (m0_0 : Int) (m0_1 : Int) (m0_2 : Int) (m0_3 : Int) (m0_4 : Int) (m0_5 : Int) (m0_6 : Int) (m0_7 : Int) (m0_8i : Nat) (m0_8o : Nat) (m0_8n : Nat) (m0_9 : Int) (m0_10 : Int) (m0_11 : Int) (m0_12i : Nat) (m0_12o : Nat) (m0_12n : Nat) (m0_13i : Nat) (m0_13o : Nat) (m0_13n : Nat) (e1 : Int) (G : GH) : Option Res := some ([.agg [.int .i64 m0_0, .int .i64 m0_1, .int .i64 m0_2, .int .i64 m0_3, .int .i64 m0_4, .int .i64 m0_5, .int .i64 m0_6, .int .i64 m0_7, .sl 3 m0_8i m0_8o m0_8n, .int .i64 m0_9, .int .i64 m0_10, .int .i64 m0_11, .sl 1 m0_12i m0_12o m0_12n, .sl 1 m0_13i m0_13o m0_13n], .agg [.int .i64 e1, .int .i64 0, .int .i64 0, .int .u8 0, .int .i64 0, .int .i64 0, .int .i64 0, .int .i64 0]], G)
theorem hodmanref17_wrong.eq (M : Mach) (C : Call) (m0_0 : Int) (m0_1 : Int) (m0_2 : Int) (m0_3 : Int) (m0_4 : Int) (m0_5 : Int) (m0_6 : Int) (m0_7 : Int) (m0_8i : Nat) (m0_8o : Nat) (m0_8n : Nat) (m0_9 : Int) (m0_10 : Int) (m0_11 : Int) (m0_12i : Nat) (m0_12o : Nat) (m0_12n : Nat) (m0_13i : Nat) (m0_13o : Nat) (m0_13n : Nat) (e1 : Int) (G : GH) : runF M C hodmanref17_wrong.d [.agg [.int .i64 m0_0, .int .i64 m0_1, .int .i64 m0_2, .int .i64 m0_3, .int .i64 m0_4, .int .i64 m0_5, .int .i64 m0_6, .int .i64 m0_7, .sl 3 m0_8i m0_8o m0_8n, .int .i64 m0_9, .int .i64 m0_10, .int .i64 m0_11, .sl 1 m0_12i m0_12o m0_12n, .sl 1 m0_13i m0_13o m0_13n], .c (.int .i64 e1)] G = hodmanref17_wrong.f M C m0_0 m0_1 m0_2 m0_3 m0_4 m0_5 m0_6 m0_7 m0_8i m0_8o m0_8n m0_9 m0_10 m0_11 m0_12i m0_12o m0_12n m0_13i m0_13o m0_13n e1 G := by kernel_rfl

/- 52 hodman/hodmanref8.Over -/
def hodmanref8_Over.d : DFn := { ntmps := 25, res := [.t 4], body := (.seq (.region [⟨0, some 2, .boxv 23 [5, 16, 18] (.t 0) 2, none⟩,
    ⟨1, some 3, .boxv 24 [7, 9, 14] (.t 1) 2, none⟩,
    ⟨2, some 4, .move (.k (.c (.bool false))), none⟩]) (.seq (.region [⟨0, some 5, .faddr 2 0, none⟩,
    ⟨1, some 6, .ldL 5 23 (.c (.int .i64)), none⟩,
    ⟨2, some 7, .faddr 3 0, none⟩,
    ⟨3, some 8, .ldL 7 24 (.c (.int .i64)), none⟩,
    ⟨4, some 9, .faddr 3 1, none⟩,
    ⟨5, some 10, .ldL 9 24 (.c (.int .i64)), none⟩,
    ⟨6, some 11, .bin .add .i64 (.t 8) (.t 10), none⟩,
    ⟨7, some 12, .cmp .lss .i64 (.t 6) (.t 11), none⟩,
    ⟨8, some 13, .move (.t 12), none⟩,
    ⟨9, some 14, .faddr 3 0, some (13, true)⟩,
    ⟨10, some 15, .ldL 14 24 (.c (.int .i64)), some (13, true)⟩,
    ⟨11, some 16, .faddr 2 0, some (13, true)⟩,
    ⟨12, some 17, .ldL 16 23 (.c (.int .i64)), some (13, true)⟩,
    ⟨13, some 18, .faddr 2 1, some (13, true)⟩,
    ⟨14, some 19, .ldL 18 23 (.c (.int .i64)), some (13, true)⟩,
    ⟨15, some 20, .bin .add .i64 (.t 17) (.t 19), some (13, true)⟩,
    ⟨16, some 21, .cmp .lss .i64 (.t 15) (.t 20), some (13, true)⟩,
    ⟨17, some 22, .pick (.t 13) (.t 21) (.k (.c (.bool false))), none⟩,
    ⟨18, some 4, .move (.t 22), none⟩]) .ret)) }
def hodmanref8_Over.f (M : Mach) (C : Call) (a0_0 : Int) (a0_1 : Int) (b1_0 : Int) (b1_1 : Int) (G : GH) : Option Res := bif decide (a0_0 < IntKind.i64.wrap (b1_0 + b1_1)) then some ([.c (.bool (decide (b1_0 < IntKind.i64.wrap (a0_0 + a0_1))))], G) else some ([.c (.bool false)], G)
theorem hodmanref8_Over.eq (M : Mach) (C : Call) (a0_0 : Int) (a0_1 : Int) (b1_0 : Int) (b1_1 : Int) (G : GH) : runF M C hodmanref8_Over.d [.agg [.int .i64 a0_0, .int .i64 a0_1], .agg [.int .i64 b1_0, .int .i64 b1_1]] G = hodmanref8_Over.f M C a0_0 a0_1 b1_0 b1_1 G := by kernel_rfl

/- 73 hodman/hodmanref8.Byte -/
def hodmanref8_Byte.d : DFn := { ntmps := 20, res := [.t 6], body := (.seq (.region [⟨0, some 6, .move (.k (.c (.int .u8 0))), none⟩]) (.seq (.region [⟨0, some 7, .move (.t 0), none⟩,
    ⟨1, some 8, .bin .rem .i64 (.t 7) (.k (.c (.int .i64 256))), none⟩,
    ⟨2, some 9, .move (.t 1), none⟩,
    ⟨3, some 10, .bin .rem .i64 (.t 9) (.k (.c (.int .i64 256))), none⟩,
    ⟨4, some 11, .bin .mul .i64 (.k (.c (.int .i64 31))) (.t 10), none⟩,
    ⟨5, some 12, .bin .add .i64 (.t 8) (.t 11), none⟩,
    ⟨6, some 13, .move (.t 2), none⟩,
    ⟨7, some 14, .bin .rem .i64 (.t 13) (.k (.c (.int .i64 256))), none⟩,
    ⟨8, some 15, .bin .mul .i64 (.k (.c (.int .i64 7))) (.t 14), none⟩,
    ⟨9, some 16, .bin .add .i64 (.t 12) (.t 15), none⟩,
    ⟨10, some 17, .bin .add .i64 (.t 16) (.k (.c (.int .i64 1))), none⟩,
    ⟨11, some 18, .bin .rem .i64 (.t 17) (.k (.c (.int .i64 256))), none⟩,
    ⟨12, some 19, .conv .u8 (.t 18), none⟩,
    ⟨13, some 6, .move (.t 19), none⟩]) .ret)) }
def hodmanref8_Byte.f (M : Mach) (C : Call) (seed0 : Int) (page1 : Int) (i2 : Int) (G : GH) : Option Res := some ([.c (.int .u8 (IntKind.u8.wrap (Int.tmod (IntKind.i64.wrap ((IntKind.i64.wrap ((IntKind.i64.wrap ((Int.tmod seed0 256) + (IntKind.i64.wrap (31 * (Int.tmod page1 256))))) + (IntKind.i64.wrap (7 * (Int.tmod i2 256))))) + 1)) 256)))], G)
theorem hodmanref8_Byte.eq (M : Mach) (C : Call) (seed0 : Int) (page1 : Int) (i2 : Int) (G : GH) : runF M C hodmanref8_Byte.d [.c (.int .i64 seed0), .c (.int .i64 page1), .c (.int .i64 i2)] G = hodmanref8_Byte.f M C seed0 page1 i2 G := by kernel_rfl

/- 71 slices.Contains[[]int,int] -/
def slices_Contains_int_int.d : DFn := { ntmps := 9, res := [.t 4], body := (.seq (.region [⟨0, some 4, .move (.k (.c (.bool false))), none⟩]) (.seq (.region [⟨0, some 5, .move (.t 0), none⟩,
    ⟨1, some 6, .move (.t 1), none⟩,
    ⟨2, some 7, .call 76 [.t 5, .t 6] [.c (.int .i64)], none⟩,
    ⟨3, some 8, .cmp .geq .i64 (.t 7) (.k (.c (.int .i64 0))), none⟩,
    ⟨4, some 4, .move (.t 8), none⟩]) .ret)) }
def slices_Contains_int_int.f (M : Mach) (C : Call) (s0i : Nat) (s0o : Nat) (s0n : Nat) (v1 : Int) (G : GH) : Option Res := (C slices_Index_int_int.id [.c (.sl 1 s0i s0o s0n), .c (.int .i64 v1)] G).bind fun qr_1 => (((qr_1.1[0]?).bind V1.c?).bind (Cell.asI .i64)).bind fun qx_2 => some ([.c (.bool (decide (qx_2 ≥ 0)))], qr_1.2)
theorem slices_Contains_int_int.eq (M : Mach) (C : Call) (s0i : Nat) (s0o : Nat) (s0n : Nat) (v1 : Int) (G : GH) : runF M C slices_Contains_int_int.d [.c (.sl 1 s0i s0o s0n), .c (.int .i64 v1)] G = slices_Contains_int_int.f M C s0i s0o s0n v1 G := by kernel_rfl

/- 26 hodman/same.Same -/
def same_Same.d : DFn := { ntmps := 8, res := [.t 4], body := (.seq (.region [⟨0, some 4, .move (.k (.c (.bool false))), none⟩]) (.seq (.region [⟨0, some 5, .move (.t 0), none⟩,
    ⟨1, some 6, .move (.t 1), none⟩,
    ⟨2, some 7, .call 41 [.t 5, .t 6] [.c (.bool)], none⟩,
    ⟨3, some 4, .move (.t 7), none⟩]) .ret)) }
def same_Same.f (M : Mach) (C : Call) (a0i : Nat) (a0o : Nat) (a0n : Nat) (b1i : Nat) (b1o : Nat) (b1n : Nat) (G : GH) : Option Res := (C api_Ans.id [.c (.sl 8 a0i a0o a0n), .c (.sl 8 b1i b1o b1n)] G).bind fun qr_1 => (((qr_1.1[0]?).bind V1.c?).bind Cell.asB).bind fun qb_2 => some ([.c (.bool qb_2)], qr_1.2)
theorem same_Same.eq (M : Mach) (C : Call) (a0i : Nat) (a0o : Nat) (a0n : Nat) (b1i : Nat) (b1o : Nat) (b1n : Nat) (G : GH) : runF M C same_Same.d [.c (.sl 8 a0i a0o a0n), .c (.sl 8 b1i b1o b1n)] G = same_Same.f M C a0i a0o a0n b1i b1o b1n G := by kernel_rfl
end Go.Proofs.D
