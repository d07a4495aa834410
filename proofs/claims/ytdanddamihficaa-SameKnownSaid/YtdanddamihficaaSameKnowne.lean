/- Texts of the proof (T3); no condition. -/
import Derived.Test.YtdanddamihficaaSameKnowna
import Derived.KernelRfl
set_option linter.unusedSimpArgs false
set_option linter.unusedVariables false
set_option linter.unusedVariables false
set_option maxRecDepth 100000
namespace Go.Proofs.D
open Go
/- 57 hodman/same.moved -/
def same_moved.c23 : DCode := (.region [⟨0, some 45, .bin .add .i64 (.t 28) (.k (.c (.int .i64 1))), none⟩,
    ⟨1, some 28, .move (.t 45), none⟩])
def same_moved.c26 : DCode := (.seq (.region [⟨0, some 29, .cmp .lss .i64 (.t 28) (.t 27), none⟩]) (.seq (.cond (.t 29) .skip (.exit 0)) (.seq (.block 1 (.seq (.region [⟨0, some 30, .iaddr (.t 26) (.t 28) 1, none⟩,
    ⟨1, some 31, .ldG 30 (.c (.int .i64)), none⟩,
    ⟨2, some 7, .move (.t 31), none⟩]) (.seq (.region [⟨0, some 32, .move (.t 7), none⟩,
    ⟨1, some 33, .move (.t 1), none⟩,
    ⟨2, some 34, .cmp .lss .i64 (.t 32) (.t 33), none⟩]) (.cond (.t 34) (.region [⟨0, some 35, .move (.t 5), none⟩,
    ⟨1, some 36, .move (.t 5), none⟩,
    ⟨2, some 37, .nilck (.t 36), none⟩,
    ⟨3, some 38, .faddr 37 2, none⟩,
    ⟨4, some 39, .ldG 38 (.c (.sl 1)), none⟩,
    ⟨5, some 40, .move (.t 7), none⟩,
    ⟨6, some 41, .bslice 1 1 [.int .i64 0] [(0, 1, .t 40)], none⟩,
    ⟨7, some 42, .app (.t 39) (.t 41) 1 8, none⟩,
    ⟨8, some 43, .nilck (.t 35), none⟩,
    ⟨9, some 44, .faddr 43 2, none⟩,
    ⟨10, none, .stG 44 (.t 42) 1, none⟩]) .skip)))) (.cut [1, 5, 26, 27, 28] same_moved.c23))))
def same_moved.c27 : DCode := (.loop [1, 5, 26, 27, 28] same_moved.c26)
def same_moved.c32 : DCode := (.seq (.region [⟨0, some 46, .move (.t 5), none⟩,
    ⟨1, some 4, .move (.t 46), none⟩]) .ret)
def same_moved.d : DFn := { ntmps := 47, res := [.t 4], body := (.seq (.region [⟨0, some 4, .move (.k (.c (.ptr 0 0))), none⟩]) (.seq (.region [⟨0, some 8, .move (.t 1), none⟩,
    ⟨1, some 9, .build [.int .i64 0, .int .i64 0, .sl 1 0 0 0] [(0, 1, .t 8)], none⟩,
    ⟨2, some 10, .newv (.t 9) 3, none⟩,
    ⟨3, some 5, .move (.t 10), none⟩]) (.seq (.seq (.region [⟨0, some 11, .move (.t 0), none⟩,
    ⟨1, some 12, .pnil false (.t 11), none⟩]) (.cond (.t 12) (.seq (.region [⟨0, some 13, .move (.t 5), none⟩,
    ⟨1, some 4, .move (.t 13), none⟩]) .ret) .skip)) (.seq (.region [⟨0, some 14, .move (.t 5), none⟩,
    ⟨1, some 15, .move (.t 0), none⟩,
    ⟨2, some 16, .nilck (.t 15), none⟩,
    ⟨3, some 17, .faddr 16 1, none⟩,
    ⟨4, some 18, .ldG 17 (.c (.int .i64)), none⟩,
    ⟨5, some 19, .move (.t 1), none⟩,
    ⟨6, some 20, .mn (.t 18) [.t 19], none⟩,
    ⟨7, some 21, .nilck (.t 14), none⟩,
    ⟨8, some 22, .faddr 21 1, none⟩,
    ⟨9, none, .stG 22 (.t 20) 1, none⟩]) (.seq (.seq (.region [⟨0, some 23, .move (.t 0), none⟩,
    ⟨1, some 24, .nilck (.t 23), none⟩,
    ⟨2, some 25, .faddr 24 2, none⟩,
    ⟨3, some 26, .ldG 25 (.c (.sl 1)), none⟩,
    ⟨4, some 27, .len (.t 26), none⟩,
    ⟨5, some 28, .move (.k (.c (.int .i64 0))), none⟩]) (.block 0 same_moved.c27)) same_moved.c32))))) }
def same_moved.k32 (M : Mach) (C : Call) : Kont := execC M.j C (M.ag C) same_moved.c32 ({ exits := [], ret := retK same_moved.d } : Env) (retK same_moved.d)
def same_moved.e28 (M : Mach) (C : Call) : Env := { exits := (0, (same_moved.k32 M C)) :: (({ exits := [], ret := retK same_moved.d } : Env)).exits, ret := (({ exits := [], ret := retK same_moved.d } : Env)).ret }
def same_moved.L27 (M : Mach) (C : Call) (charge1 : Int) (out5i : Nat) (out5o : Nat) (t26i : Nat) (t26o : Nat) (t26n : Nat) (t27 : Int) (t28 : Int) (G : GH) : Option Res := M.ag C [1, 5, 26, 27, 28] same_moved.c26 (same_moved.e28 M C) (same_moved.k32 M C) [.und, .v (.c (.int .i64 charge1)), .und, .und, .und, .v (.c (.ptr out5i out5o)), .und, .und, .und, .und, .und, .und, .und, .und, .und, .und, .und, .und, .und, .und, .und, .und, .und, .und, .und, .und, .v (.c (.sl 1 t26i t26o t26n)), .v (.c (.int .i64 t27)), .v (.c (.int .i64 t28)), .und, .und, .und, .und, .und, .und, .und, .und, .und, .und, .und, .und, .und, .und, .und, .und, .und, .und] G
def same_moved.k27 (M : Mach) (C : Call) : Kont := fun tm G => M.ag C [1, 5, 26, 27, 28] same_moved.c26 (same_moved.e28 M C) (same_moved.k32 M C) (restr [1, 5, 26, 27, 28] 0 tm) G
def same_moved.J23 (M : Mach) (C : Call) (charge1 : Int) (out5i : Nat) (out5o : Nat) (t26i : Nat) (t26o : Nat) (t26n : Nat) (t27 : Int) (t28 : Int) (G : GH) : Option Res := M.j (execC M.j C (M.ag C) same_moved.c23 (same_moved.e28 M C) (same_moved.k27 M C)) [.und, .v (.c (.int .i64 charge1)), .und, .und, .und, .v (.c (.ptr out5i out5o)), .und, .und, .und, .und, .und, .und, .und, .und, .und, .und, .und, .und, .und, .und, .und, .und, .und, .und, .und, .und, .v (.c (.sl 1 t26i t26o t26n)), .v (.c (.int .i64 t27)), .v (.c (.int .i64 t28)), .und, .und, .und, .und, .und, .und, .und, .und, .und, .und, .und, .und, .und, .und, .und, .und, .und, .und] G
theorem same_moved.L27_eq (M : Mach) (C : Call) (charge1 : Int) (out5i : Nat) (out5o : Nat) (t26i : Nat) (t26o : Nat) (t26n : Nat) (t27 : Int) (t28 : Int) (G : GH) : same_moved.L27 M C charge1 out5i out5o t26i t26o t26n t27 t28 G = (bif decide (t28 < t27) then guardK (decide (0 ≤ t28 ∧ t28 < ((t26n : Nat) : Int))) (((G.ld t26i (t26o + Int.toNat t28 * 1)).bind (Cell.asI .i64)).bind fun qx_5 => bif decide (qx_5 < charge1) then guardK (!Nat.beq out5i 0) (((G.ld out5i (out5o + 2)).bind (Cell.asS 1)).bind fun qs_6 => let qG_7 := G.alloc (.row [.int .i64 qx_5] false); (if 1 = 0 then some [] else qG_7.lds G.next 0 (1 * 1)).bind fun qnew_8 => guardK (decide (qs_6.2.2 + 1 ≤ most)) ((qG_7.app qs_6.1 qs_6.2.1 qs_6.2.2 1 1 qnew_8).bind fun qp_9 => guardK (!Nat.beq out5i 0) ((qp_9.2.2.sts out5i (out5o + 2) [.sl 1 qp_9.1 qp_9.2.1 (qs_6.2.2 + 1)]).bind fun qG_10 => same_moved.J23 M C charge1 out5i out5o t26i t26o t26n t27 t28 qG_10))) else same_moved.J23 M C charge1 out5i out5o t26i t26o t26n t27 t28 G) else some ([.c (.ptr out5i out5o)], G)) := (M.hs _ _ _ _ _ _ _).trans (by kernel_rfl)
theorem same_moved.J23_eq (M : Mach) (C : Call) (charge1 : Int) (out5i : Nat) (out5o : Nat) (t26i : Nat) (t26o : Nat) (t26n : Nat) (t27 : Int) (t28 : Int) (G : GH) : same_moved.J23 M C charge1 out5i out5o t26i t26o t26n t27 t28 G = (same_moved.L27 M C charge1 out5i out5o t26i t26o t26n t27 (IntKind.i64.wrap (t28 + 1)) G) := (M.hj _ _ _).trans (by kernel_rfl)
def same_moved.f (M : Mach) (C : Call) (b0i : Nat) (b0o : Nat) (charge1 : Int) (G : GH) : Option Res := let qG_1 := G.alloc (.row [.int .i64 charge1, .int .i64 0, .sl 1 0 0 0] false); bif Bool.xor false (Nat.beq b0i 0) then some ([.c (.ptr G.next 0)], qG_1) else guardK (!Nat.beq b0i 0) (((qG_1.ld b0i (b0o + 1)).bind (Cell.asI .i64)).bind fun qx_2 => guardK (!Nat.beq G.next 0) ((qG_1.sts G.next (0 + 1) [.int .i64 (mn2 qx_2 charge1)]).bind fun qG_3 => guardK (!Nat.beq b0i 0) (((qG_3.ld b0i (b0o + 2)).bind (Cell.asS 1)).bind fun qs_4 => same_moved.L27 M C charge1 G.next 0 qs_4.1 qs_4.2.1 qs_4.2.2 ((qs_4.2.2 : Nat) : Int) 0 qG_3)))
theorem same_moved.eq (M : Mach) (C : Call) (b0i : Nat) (b0o : Nat) (charge1 : Int) (G : GH) : runF M C same_moved.d [.c (.ptr b0i b0o), .c (.int .i64 charge1)] G = same_moved.f M C b0i b0o charge1 G := by kernel_rfl

/- 72 hodman/hodmanref1.Mul -/
def hodmanref1_Mul.c6 : DCode := (.cond (.t 12) (.seq (.region [⟨0, some 4, .move (.k (.c (.int .i64 0))), none⟩,
    ⟨1, some 5, .move (.k (.c (.bool true))), none⟩]) .ret) .skip)
def hodmanref1_Mul.c14 : DCode := (.cond (.t 36) (.seq (.region [⟨0, some 4, .move (.k (.c (.int .i64 0))), none⟩,
    ⟨1, some 5, .move (.k (.c (.bool false))), none⟩]) .ret) .skip)
def hodmanref1_Mul.c18 : DCode := (.seq (.region [⟨0, some 37, .move (.t 6), none⟩,
    ⟨1, some 4, .move (.t 37), none⟩,
    ⟨2, some 5, .move (.k (.c (.bool true))), none⟩]) .ret)
def hodmanref1_Mul.c20 : DCode := (.seq (.region [⟨0, some 13, .move (.t 0), none⟩,
    ⟨1, some 14, .move (.t 1), none⟩,
    ⟨2, some 15, .bin .mul .i64 (.t 13) (.t 14), none⟩,
    ⟨3, some 6, .move (.t 15), none⟩]) (.seq (.seq (.region [⟨0, some 16, .move (.t 0), none⟩,
    ⟨1, some 17, .cmp .eql .i64 (.t 16) (.k (.c (.int .i64 (-1)))), none⟩,
    ⟨2, some 18, .move (.t 17), none⟩,
    ⟨3, some 19, .move (.t 1), some (18, true)⟩,
    ⟨4, some 20, .cmp .eql .i64 (.t 19) (.k (.c (.int .i64 (-9223372036854775808)))), some (18, true)⟩,
    ⟨5, some 21, .pick (.t 18) (.t 20) (.k (.c (.bool false))), none⟩,
    ⟨6, some 22, .move (.t 21), none⟩,
    ⟨7, some 23, .move (.t 1), some (22, false)⟩,
    ⟨8, some 24, .cmp .eql .i64 (.t 23) (.k (.c (.int .i64 (-1)))), some (22, false)⟩,
    ⟨9, some 25, .move (.t 24), some (22, false)⟩,
    ⟨10, some 26, .move (.t 0), some (25, true)⟩,
    ⟨11, some 27, .cmp .eql .i64 (.t 26) (.k (.c (.int .i64 (-9223372036854775808)))), some (25, true)⟩,
    ⟨12, some 28, .pick (.t 25) (.t 27) (.k (.c (.bool false))), some (22, false)⟩,
    ⟨13, some 29, .pick (.t 22) (.k (.c (.bool true))) (.t 28), none⟩,
    ⟨14, some 30, .move (.t 29), none⟩,
    ⟨15, some 31, .move (.t 6), some (30, false)⟩,
    ⟨16, some 32, .move (.t 1), some (30, false)⟩,
    ⟨17, some 33, .bin .quo .i64 (.t 31) (.t 32), some (30, false)⟩,
    ⟨18, some 34, .move (.t 0), some (30, false)⟩,
    ⟨19, some 35, .cmp .neq .i64 (.t 33) (.t 34), some (30, false)⟩,
    ⟨20, some 36, .pick (.t 30) (.k (.c (.bool true))) (.t 35), none⟩]) (.cut [6, 36] hodmanref1_Mul.c14)) hodmanref1_Mul.c18))
def hodmanref1_Mul.d : DFn := { ntmps := 38, res := [.t 4, .t 5], body := (.seq (.region [⟨0, some 4, .move (.k (.c (.int .i64 0))), none⟩,
    ⟨1, some 5, .move (.k (.c (.bool false))), none⟩]) (.seq (.seq (.region [⟨0, some 7, .move (.t 0), none⟩,
    ⟨1, some 8, .cmp .eql .i64 (.t 7) (.k (.c (.int .i64 0))), none⟩,
    ⟨2, some 9, .move (.t 8), none⟩,
    ⟨3, some 10, .move (.t 1), some (9, false)⟩,
    ⟨4, some 11, .cmp .eql .i64 (.t 10) (.k (.c (.int .i64 0))), some (9, false)⟩,
    ⟨5, some 12, .pick (.t 9) (.k (.c (.bool true))) (.t 11), none⟩]) (.cut [0, 1, 12] hodmanref1_Mul.c6)) hodmanref1_Mul.c20)) }
def hodmanref1_Mul.k20 (M : Mach) (C : Call) : Kont := execC M.j C (M.ag C) hodmanref1_Mul.c20 ({ exits := [], ret := retK hodmanref1_Mul.d } : Env) (retK hodmanref1_Mul.d)
def hodmanref1_Mul.J6 (M : Mach) (C : Call) (a0 : Int) (b1 : Int) (t12 : Bool) (G : GH) : Option Res := M.j (execC M.j C (M.ag C) hodmanref1_Mul.c6 ({ exits := [], ret := retK hodmanref1_Mul.d } : Env) (hodmanref1_Mul.k20 M C)) [.v (.c (.int .i64 a0)), .v (.c (.int .i64 b1)), .und, .und, .und, .und, .und, .und, .und, .und, .und, .und, .v (.c (.bool t12)), .und, .und, .und, .und, .und, .und, .und, .und, .und, .und, .und, .und, .und, .und, .und, .und, .und, .und, .und, .und, .und, .und, .und, .und, .und] G
def hodmanref1_Mul.k18 (M : Mach) (C : Call) : Kont := execC M.j C (M.ag C) hodmanref1_Mul.c18 ({ exits := [], ret := retK hodmanref1_Mul.d } : Env) (retK hodmanref1_Mul.d)
def hodmanref1_Mul.J14 (M : Mach) (C : Call) (c6 : Int) (t36 : Bool) (G : GH) : Option Res := M.j (execC M.j C (M.ag C) hodmanref1_Mul.c14 ({ exits := [], ret := retK hodmanref1_Mul.d } : Env) (hodmanref1_Mul.k18 M C)) [.und, .und, .und, .und, .und, .und, .v (.c (.int .i64 c6)), .und, .und, .und, .und, .und, .und, .und, .und, .und, .und, .und, .und, .und, .und, .und, .und, .und, .und, .und, .und, .und, .und, .und, .und, .und, .und, .und, .und, .und, .v (.c (.bool t36)), .und] G
theorem hodmanref1_Mul.J6_eq (M : Mach) (C : Call) (a0 : Int) (b1 : Int) (t12 : Bool) (G : GH) : hodmanref1_Mul.J6 M C a0 b1 t12 G = (bif t12 then some ([.c (.int .i64 0), .c (.bool true)], G) else bif decide (a0 = (-1)) then bif decide (b1 = (-9223372036854775808)) then hodmanref1_Mul.J14 M C (IntKind.i64.wrap (a0 * b1)) true G else bif decide (b1 = (-1)) then bif decide (a0 = (-9223372036854775808)) then hodmanref1_Mul.J14 M C (IntKind.i64.wrap (a0 * b1)) true G else (binD .quo .i64 (IntKind.i64.wrap (a0 * b1)) b1).bind fun qx_1 => hodmanref1_Mul.J14 M C (IntKind.i64.wrap (a0 * b1)) (!decide (qx_1 = a0)) G else (binD .quo .i64 (IntKind.i64.wrap (a0 * b1)) b1).bind fun qx_2 => hodmanref1_Mul.J14 M C (IntKind.i64.wrap (a0 * b1)) (!decide (qx_2 = a0)) G else bif decide (b1 = (-1)) then bif decide (a0 = (-9223372036854775808)) then hodmanref1_Mul.J14 M C (IntKind.i64.wrap (a0 * b1)) true G else (binD .quo .i64 (IntKind.i64.wrap (a0 * b1)) b1).bind fun qx_3 => hodmanref1_Mul.J14 M C (IntKind.i64.wrap (a0 * b1)) (!decide (qx_3 = a0)) G else (binD .quo .i64 (IntKind.i64.wrap (a0 * b1)) b1).bind fun qx_4 => hodmanref1_Mul.J14 M C (IntKind.i64.wrap (a0 * b1)) (!decide (qx_4 = a0)) G) := (M.hj _ _ _).trans (by kernel_rfl)
theorem hodmanref1_Mul.J14_eq (M : Mach) (C : Call) (c6 : Int) (t36 : Bool) (G : GH) : hodmanref1_Mul.J14 M C c6 t36 G = (bif t36 then some ([.c (.int .i64 0), .c (.bool false)], G) else some ([.c (.int .i64 c6), .c (.bool true)], G)) := (M.hj _ _ _).trans (by kernel_rfl)
def hodmanref1_Mul.f (M : Mach) (C : Call) (a0 : Int) (b1 : Int) (G : GH) : Option Res := bif decide (a0 = 0) then hodmanref1_Mul.J6 M C a0 b1 true G else hodmanref1_Mul.J6 M C a0 b1 (decide (b1 = 0)) G
theorem hodmanref1_Mul.eq (M : Mach) (C : Call) (a0 : Int) (b1 : Int) (G : GH) : runF M C hodmanref1_Mul.d [.c (.int .i64 a0), .c (.int .i64 b1)] G = hodmanref1_Mul.f M C a0 b1 G := by kernel_rfl

/- 56 (*hodman/same.reader).charge -/
def same_reader_charge.c18 : DCode := (.seq (.region [⟨0, some 32, .move (.t 0), none⟩,
    ⟨1, some 33, .nilck (.t 32), none⟩,
    ⟨2, some 34, .faddr 33 0, none⟩,
    ⟨3, some 35, .ldG 34 (.agg [.int .i64, .int .i64, .int .i64, .int .i64, .int .i64, .int .i64, .int .i64, .int .i64]), none⟩,
    ⟨4, some 36, .move (.t 5), none⟩,
    ⟨5, some 37, .move (.t 6), none⟩,
    ⟨6, some 38, .call 70 [.t 35, .t 36, .t 37] [.c (.int .i64), .c (.int .i64)], none⟩,
    ⟨7, some 31, .move (.t 38), none⟩,
    ⟨8, some 39, .ext 31 0, none⟩,
    ⟨9, some 40, .ext 31 1, none⟩,
    ⟨10, some 7, .move (.t 39), none⟩,
    ⟨11, some 8, .move (.t 40), none⟩]) (.seq (.region [⟨0, some 41, .move (.t 7), none⟩,
    ⟨1, some 4, .move (.t 41), none⟩]) .ret))
def same_reader_charge.d : DFn := { ntmps := 43, res := [.t 4], body := (.seq (.region [⟨0, some 3, .boxv 42 [9, 11, 20, 22, 29] (.t 1) 6, none⟩,
    ⟨1, some 4, .move (.k (.c (.int .i64 0))), none⟩]) (.seq (.region [⟨0, some 9, .faddr 3 2, none⟩,
    ⟨1, some 10, .ldL 9 42 (.c (.int .i64)), none⟩,
    ⟨2, some 5, .move (.t 10), none⟩,
    ⟨3, some 6, .move (.k (.c (.int .i64 1))), none⟩]) (.seq (.seq (.region [⟨0, some 11, .faddr 3 0, none⟩,
    ⟨1, some 12, .ldL 11 42 (.c (.int .i64)), none⟩]) (.block 0 (.seq (.region [⟨0, some 14, .cmp .eql .i64 (.t 12) (.k (.c (.int .i64 2))), none⟩,
    ⟨1, some 13, .move (.t 14), none⟩]) (.cond (.t 13) (.region [⟨0, some 16, .move (.t 0), none⟩,
    ⟨1, some 17, .nilck (.t 16), none⟩,
    ⟨2, some 18, .faddr 17 0, none⟩,
    ⟨3, some 19, .ldG 18 (.agg [.int .i64, .int .i64, .int .i64, .int .i64, .int .i64, .int .i64, .int .i64, .int .i64]), none⟩,
    ⟨4, some 20, .faddr 3 4, none⟩,
    ⟨5, some 21, .ldL 20 42 (.c (.int .i64)), none⟩,
    ⟨6, some 22, .faddr 3 2, none⟩,
    ⟨7, some 23, .ldL 22 42 (.c (.int .i64)), none⟩,
    ⟨8, some 24, .call 46 [.t 19, .t 21, .t 23] [.c (.int .i64), .c (.int .i64)], none⟩,
    ⟨9, some 15, .move (.t 24), none⟩,
    ⟨10, some 25, .ext 15 0, none⟩,
    ⟨11, some 26, .ext 15 1, none⟩,
    ⟨12, some 5, .move (.t 25), none⟩]) (.seq (.region [⟨0, some 28, .cmp .eql .i64 (.t 12) (.k (.c (.int .i64 3))), none⟩,
    ⟨1, some 27, .move (.t 28), none⟩]) (.cond (.t 27) (.region [⟨0, some 29, .faddr 3 3, none⟩,
    ⟨1, some 30, .ldL 29 42 (.c (.int .i64)), none⟩,
    ⟨2, some 6, .move (.t 30), none⟩]) .skip)))))) (.cut [0, 5, 6] same_reader_charge.c18)))) }
def same_reader_charge.J18 (M : Mach) (C : Call) (r0i : Nat) (r0o : Nat) (s5 : Int) (a6 : Int) (G : GH) : Option Res := M.j (execC M.j C (M.ag C) same_reader_charge.c18 ({ exits := [], ret := retK same_reader_charge.d } : Env) (retK same_reader_charge.d)) [.v (.c (.ptr r0i r0o)), .und, .und, .und, .und, .v (.c (.int .i64 s5)), .v (.c (.int .i64 a6)), .und, .und, .und, .und, .und, .und, .und, .und, .und, .und, .und, .und, .und, .und, .und, .und, .und, .und, .und, .und, .und, .und, .und, .und, .und, .und, .und, .und, .und, .und, .und, .und, .und, .und, .und, .und] G
theorem same_reader_charge.J18_eq (M : Mach) (C : Call) (r0i : Nat) (r0o : Nat) (s5 : Int) (a6 : Int) (G : GH) : same_reader_charge.J18 M C r0i r0o s5 a6 G = (guardK (!Nat.beq r0i 0) (((G.ld r0i ((r0o + 0) + 0)).bind (Cell.asI .i64)).bind fun qx_12 => ((G.ld r0i ((r0o + 0) + 1)).bind (Cell.asI .i64)).bind fun qx_13 => ((G.ld r0i ((r0o + 0) + 2)).bind (Cell.asI .i64)).bind fun qx_14 => ((G.ld r0i ((r0o + 0) + 3)).bind (Cell.asI .i64)).bind fun qx_15 => ((G.ld r0i ((r0o + 0) + 4)).bind (Cell.asI .i64)).bind fun qx_16 => ((G.ld r0i ((r0o + 0) + 5)).bind (Cell.asI .i64)).bind fun qx_17 => ((G.ld r0i ((r0o + 0) + 6)).bind (Cell.asI .i64)).bind fun qx_18 => ((G.ld r0i ((r0o + 0) + 7)).bind (Cell.asI .i64)).bind fun qx_19 => (C class_Charge.id [.agg [.int .i64 qx_12, .int .i64 qx_13, .int .i64 qx_14, .int .i64 qx_15, .int .i64 qx_16, .int .i64 qx_17, .int .i64 qx_18, .int .i64 qx_19], .c (.int .i64 s5), .c (.int .i64 a6)] G).bind fun qr_20 => (((qr_20.1[0]?).bind V1.c?).bind (Cell.asI .i64)).bind fun qx_21 => (((qr_20.1[1]?).bind V1.c?).bind (Cell.asI .i64)).bind fun qx_22 => some ([.c (.int .i64 qx_21)], qr_20.2))) := (M.hj _ _ _).trans (by kernel_rfl)
def same_reader_charge.f (M : Mach) (C : Call) (r0i : Nat) (r0o : Nat) (o1_0 : Int) (o1_1 : Int) (o1_2 : Int) (o1_3 : Int) (o1_4 : Int) (o1_5 : Int) (G : GH) : Option Res := bif decide (o1_0 = 2) then guardK (!Nat.beq r0i 0) (((G.ld r0i ((r0o + 0) + 0)).bind (Cell.asI .i64)).bind fun qx_1 => ((G.ld r0i ((r0o + 0) + 1)).bind (Cell.asI .i64)).bind fun qx_2 => ((G.ld r0i ((r0o + 0) + 2)).bind (Cell.asI .i64)).bind fun qx_3 => ((G.ld r0i ((r0o + 0) + 3)).bind (Cell.asI .i64)).bind fun qx_4 => ((G.ld r0i ((r0o + 0) + 4)).bind (Cell.asI .i64)).bind fun qx_5 => ((G.ld r0i ((r0o + 0) + 5)).bind (Cell.asI .i64)).bind fun qx_6 => ((G.ld r0i ((r0o + 0) + 6)).bind (Cell.asI .i64)).bind fun qx_7 => ((G.ld r0i ((r0o + 0) + 7)).bind (Cell.asI .i64)).bind fun qx_8 => (C class_Product.id [.agg [.int .i64 qx_1, .int .i64 qx_2, .int .i64 qx_3, .int .i64 qx_4, .int .i64 qx_5, .int .i64 qx_6, .int .i64 qx_7, .int .i64 qx_8], .c (.int .i64 o1_4), .c (.int .i64 o1_2)] G).bind fun qr_9 => (((qr_9.1[0]?).bind V1.c?).bind (Cell.asI .i64)).bind fun qx_10 => (((qr_9.1[1]?).bind V1.c?).bind (Cell.asI .i64)).bind fun qx_11 => same_reader_charge.J18 M C r0i r0o qx_10 1 qr_9.2) else bif decide (o1_0 = 3) then same_reader_charge.J18 M C r0i r0o o1_2 o1_3 G else same_reader_charge.J18 M C r0i r0o o1_2 1 G
theorem same_reader_charge.eq (M : Mach) (C : Call) (r0i : Nat) (r0o : Nat) (o1_0 : Int) (o1_1 : Int) (o1_2 : Int) (o1_3 : Int) (o1_4 : Int) (o1_5 : Int) (G : GH) : runF M C same_reader_charge.d [.c (.ptr r0i r0o), .agg [.int .i64 o1_0, .int .i64 o1_1, .int .i64 o1_2, .int .i64 o1_3, .int .i64 o1_4, .int .u8 o1_5]] G = same_reader_charge.f M C r0i r0o o1_0 o1_1 o1_2 o1_3 o1_4 o1_5 G := by kernel_rfl

/- 64 hodman/hodmanref8.Pages -/
def hodmanref8_Pages.c6 : DCode := (.cond (.t 19) (.seq (.region [⟨0, some 6, .move (.k (.c (.int .i64 0))), none⟩,
    ⟨1, some 7, .move (.k (.c (.int .i64 0))), none⟩]) .ret) .skip)
def hodmanref8_Pages.c23 : DCode := (.seq (.region [⟨0, some 37, .move (.t 1), none⟩,
    ⟨1, some 38, .move (.t 0), none⟩,
    ⟨2, some 39, .bin .quo .i64 (.t 37) (.t 38), none⟩,
    ⟨3, some 40, .move (.t 8), none⟩,
    ⟨4, some 41, .move (.t 0), none⟩,
    ⟨5, some 42, .bin .quo .i64 (.t 40) (.t 41), none⟩,
    ⟨6, some 43, .bin .add .i64 (.t 42) (.k (.c (.int .i64 1))), none⟩,
    ⟨7, some 6, .move (.t 39), none⟩,
    ⟨8, some 7, .move (.t 43), none⟩]) .ret)
def hodmanref8_Pages.c26 : DCode := (.seq (.seq (.region [⟨0, some 20, .move (.t 2), none⟩,
    ⟨1, some 21, .cmp .eql .i64 (.t 20) (.k (.c (.int .i64 0))), none⟩]) (.cond (.t 21) (.seq (.region [⟨0, some 22, .move (.t 1), none⟩,
    ⟨1, some 23, .move (.t 0), none⟩,
    ⟨2, some 24, .bin .quo .i64 (.t 22) (.t 23), none⟩,
    ⟨3, some 25, .move (.t 1), none⟩,
    ⟨4, some 26, .move (.t 0), none⟩,
    ⟨5, some 27, .bin .quo .i64 (.t 25) (.t 26), none⟩,
    ⟨6, some 6, .move (.t 24), none⟩,
    ⟨7, some 7, .move (.t 27), none⟩]) .ret) .skip)) (.seq (.region [⟨0, some 29, .move (.t 1), none⟩,
    ⟨1, some 30, .move (.t 2), none⟩,
    ⟨2, some 31, .bin .sub .i64 (.t 30) (.k (.c (.int .i64 1))), none⟩,
    ⟨3, some 32, .call 61 [.t 29, .t 31] [.c (.int .i64), .c (.bool)], none⟩,
    ⟨4, some 28, .move (.t 32), none⟩,
    ⟨5, some 33, .ext 28 0, none⟩,
    ⟨6, some 34, .ext 28 1, none⟩,
    ⟨7, some 8, .move (.t 33), none⟩,
    ⟨8, some 9, .move (.t 34), none⟩]) (.seq (.seq (.region [⟨0, some 35, .move (.t 9), none⟩,
    ⟨1, some 36, .not (.t 35), none⟩]) (.cond (.t 36) (.region [⟨0, some 8, .move (.k (.c (.int .i64 9223372036854775807))), none⟩]) .skip)) (.cut [0, 1, 8] hodmanref8_Pages.c23))))
def hodmanref8_Pages.d : DFn := { ntmps := 44, res := [.t 6, .t 7], body := (.seq (.region [⟨0, some 6, .move (.k (.c (.int .i64 0))), none⟩,
    ⟨1, some 7, .move (.k (.c (.int .i64 0))), none⟩]) (.seq (.seq (.region [⟨0, some 10, .move (.t 0), none⟩,
    ⟨1, some 11, .cmp .lss .i64 (.t 10) (.k (.c (.int .i64 1))), none⟩,
    ⟨2, some 12, .move (.t 11), none⟩,
    ⟨3, some 13, .move (.t 1), some (12, false)⟩,
    ⟨4, some 14, .cmp .lss .i64 (.t 13) (.k (.c (.int .i64 0))), some (12, false)⟩,
    ⟨5, some 15, .pick (.t 12) (.k (.c (.bool true))) (.t 14), none⟩,
    ⟨6, some 16, .move (.t 15), none⟩,
    ⟨7, some 17, .move (.t 2), some (16, false)⟩,
    ⟨8, some 18, .cmp .lss .i64 (.t 17) (.k (.c (.int .i64 0))), some (16, false)⟩,
    ⟨9, some 19, .pick (.t 16) (.k (.c (.bool true))) (.t 18), none⟩]) (.cut [0, 1, 2, 19] hodmanref8_Pages.c6)) hodmanref8_Pages.c26)) }
def hodmanref8_Pages.k26 (M : Mach) (C : Call) : Kont := execC M.j C (M.ag C) hodmanref8_Pages.c26 ({ exits := [], ret := retK hodmanref8_Pages.d } : Env) (retK hodmanref8_Pages.d)
def hodmanref8_Pages.J6 (M : Mach) (C : Call) (page0 : Int) (at1 : Int) (n2 : Int) (t19 : Bool) (G : GH) : Option Res := M.j (execC M.j C (M.ag C) hodmanref8_Pages.c6 ({ exits := [], ret := retK hodmanref8_Pages.d } : Env) (hodmanref8_Pages.k26 M C)) [.v (.c (.int .i64 page0)), .v (.c (.int .i64 at1)), .v (.c (.int .i64 n2)), .und, .und, .und, .und, .und, .und, .und, .und, .und, .und, .und, .und, .und, .und, .und, .und, .v (.c (.bool t19)), .und, .und, .und, .und, .und, .und, .und, .und, .und, .und, .und, .und, .und, .und, .und, .und, .und, .und, .und, .und, .und, .und, .und, .und] G
def hodmanref8_Pages.J23 (M : Mach) (C : Call) (page0 : Int) (at1 : Int) (last8 : Int) (G : GH) : Option Res := M.j (execC M.j C (M.ag C) hodmanref8_Pages.c23 ({ exits := [], ret := retK hodmanref8_Pages.d } : Env) (retK hodmanref8_Pages.d)) [.v (.c (.int .i64 page0)), .v (.c (.int .i64 at1)), .und, .und, .und, .und, .und, .und, .v (.c (.int .i64 last8)), .und, .und, .und, .und, .und, .und, .und, .und, .und, .und, .und, .und, .und, .und, .und, .und, .und, .und, .und, .und, .und, .und, .und, .und, .und, .und, .und, .und, .und, .und, .und, .und, .und, .und, .und] G
theorem hodmanref8_Pages.J6_eq (M : Mach) (C : Call) (page0 : Int) (at1 : Int) (n2 : Int) (t19 : Bool) (G : GH) : hodmanref8_Pages.J6 M C page0 at1 n2 t19 G = (bif t19 then some ([.c (.int .i64 0), .c (.int .i64 0)], G) else bif decide (n2 = 0) then (binD .quo .i64 at1 page0).bind fun qx_1 => (binD .quo .i64 at1 page0).bind fun qx_2 => some ([.c (.int .i64 qx_1), .c (.int .i64 qx_2)], G) else (C hodmanref1_Add.id [.c (.int .i64 at1), .c (.int .i64 (IntKind.i64.wrap (n2 - 1)))] G).bind fun qr_3 => (((qr_3.1[0]?).bind V1.c?).bind (Cell.asI .i64)).bind fun qx_4 => (((qr_3.1[1]?).bind V1.c?).bind Cell.asB).bind fun qb_5 => bif (!qb_5) then hodmanref8_Pages.J23 M C page0 at1 9223372036854775807 qr_3.2 else hodmanref8_Pages.J23 M C page0 at1 qx_4 qr_3.2) := (M.hj _ _ _).trans (by kernel_rfl)
theorem hodmanref8_Pages.J23_eq (M : Mach) (C : Call) (page0 : Int) (at1 : Int) (last8 : Int) (G : GH) : hodmanref8_Pages.J23 M C page0 at1 last8 G = ((binD .quo .i64 at1 page0).bind fun qx_6 => (binD .quo .i64 last8 page0).bind fun qx_7 => some ([.c (.int .i64 qx_6), .c (.int .i64 (IntKind.i64.wrap (qx_7 + 1)))], G)) := (M.hj _ _ _).trans (by kernel_rfl)
def hodmanref8_Pages.f (M : Mach) (C : Call) (page0 : Int) (at1 : Int) (n2 : Int) (G : GH) : Option Res := bif decide (page0 < 1) then hodmanref8_Pages.J6 M C page0 at1 n2 true G else bif decide (at1 < 0) then hodmanref8_Pages.J6 M C page0 at1 n2 true G else hodmanref8_Pages.J6 M C page0 at1 n2 (decide (n2 < 0)) G
theorem hodmanref8_Pages.eq (M : Mach) (C : Call) (page0 : Int) (at1 : Int) (n2 : Int) (G : GH) : runF M C hodmanref8_Pages.d [.c (.int .i64 page0), .c (.int .i64 at1), .c (.int .i64 n2)] G = hodmanref8_Pages.f M C page0 at1 n2 G := by kernel_rfl

/- 62 hodman/calc.Mul -/
def calc_Mul.c10 : DCode := (.cond (.t 14) (.seq (.region [⟨0, some 4, .move (.k (.c (.int .i64 0))), none⟩,
    ⟨1, some 5, .move (.k (.c (.bool false))), none⟩]) .ret) .skip)
def calc_Mul.c12 : DCode := (.cond (.t 7) (.seq (.region [⟨0, some 4, .move (.k (.c (.int .i64 0))), none⟩,
    ⟨1, some 5, .move (.k (.c (.bool true))), none⟩]) .ret) (.seq (.region [⟨0, some 15, .move (.t 0), none⟩,
    ⟨1, some 16, .cmp .eql .i64 (.t 15) (.k (.c (.int .i64 (-1)))), none⟩,
    ⟨2, some 17, .move (.t 16), none⟩,
    ⟨3, some 18, .move (.t 1), some (17, true)⟩,
    ⟨4, some 19, .cmp .eql .i64 (.t 18) (.k (.c (.int .i64 (-9223372036854775808)))), some (17, true)⟩,
    ⟨5, some 20, .pick (.t 17) (.t 19) (.k (.c (.bool false))), none⟩,
    ⟨6, some 21, .move (.t 20), none⟩,
    ⟨7, some 22, .move (.t 1), some (21, false)⟩,
    ⟨8, some 23, .cmp .eql .i64 (.t 22) (.k (.c (.int .i64 (-1)))), some (21, false)⟩,
    ⟨9, some 24, .move (.t 23), some (21, false)⟩,
    ⟨10, some 25, .move (.t 0), some (24, true)⟩,
    ⟨11, some 26, .cmp .eql .i64 (.t 25) (.k (.c (.int .i64 (-9223372036854775808)))), some (24, true)⟩,
    ⟨12, some 27, .pick (.t 24) (.t 26) (.k (.c (.bool false))), some (21, false)⟩,
    ⟨13, some 28, .pick (.t 21) (.k (.c (.bool true))) (.t 27), none⟩,
    ⟨14, some 14, .move (.t 28), none⟩]) (.cut [0, 1, 14] calc_Mul.c10)))
def calc_Mul.c27 : DCode := (.seq (.region [⟨0, some 29, .move (.t 0), none⟩,
    ⟨1, some 30, .conv .u64 (.t 29), none⟩,
    ⟨2, some 31, .move (.t 1), none⟩,
    ⟨3, some 32, .conv .u64 (.t 31), none⟩,
    ⟨4, some 33, .bin .mul .u64 (.t 30) (.t 32), none⟩,
    ⟨5, some 34, .conv .i64 (.t 33), none⟩,
    ⟨6, some 6, .move (.t 34), none⟩]) (.seq (.seq (.region [⟨0, some 35, .move (.t 6), none⟩,
    ⟨1, some 36, .move (.t 1), none⟩,
    ⟨2, some 37, .bin .quo .i64 (.t 35) (.t 36), none⟩,
    ⟨3, some 38, .move (.t 0), none⟩,
    ⟨4, some 39, .cmp .neq .i64 (.t 37) (.t 38), none⟩]) (.cond (.t 39) (.seq (.region [⟨0, some 4, .move (.k (.c (.int .i64 0))), none⟩,
    ⟨1, some 5, .move (.k (.c (.bool false))), none⟩]) .ret) .skip)) (.seq (.region [⟨0, some 40, .move (.t 6), none⟩,
    ⟨1, some 4, .move (.t 40), none⟩,
    ⟨2, some 5, .move (.k (.c (.bool true))), none⟩]) .ret)))
def calc_Mul.d : DFn := { ntmps := 41, res := [.t 4, .t 5], body := (.seq (.region [⟨0, some 4, .move (.k (.c (.int .i64 0))), none⟩,
    ⟨1, some 5, .move (.k (.c (.bool false))), none⟩]) (.seq (.block 0 (.seq (.region [⟨0, some 8, .move (.t 0), none⟩,
    ⟨1, some 9, .cmp .eql .i64 (.t 8) (.k (.c (.int .i64 0))), none⟩,
    ⟨2, some 10, .move (.t 9), none⟩,
    ⟨3, some 11, .move (.t 1), some (10, false)⟩,
    ⟨4, some 12, .cmp .eql .i64 (.t 11) (.k (.c (.int .i64 0))), some (10, false)⟩,
    ⟨5, some 13, .pick (.t 10) (.k (.c (.bool true))) (.t 12), none⟩,
    ⟨6, some 7, .move (.t 13), none⟩]) (.cut [0, 1, 7] calc_Mul.c12))) calc_Mul.c27)) }
def calc_Mul.k27 (M : Mach) (C : Call) : Kont := execC M.j C (M.ag C) calc_Mul.c27 ({ exits := [], ret := retK calc_Mul.d } : Env) (retK calc_Mul.d)
def calc_Mul.e14 (M : Mach) (C : Call) : Env := { exits := (0, (calc_Mul.k27 M C)) :: (({ exits := [], ret := retK calc_Mul.d } : Env)).exits, ret := (({ exits := [], ret := retK calc_Mul.d } : Env)).ret }
def calc_Mul.J12 (M : Mach) (C : Call) (a0 : Int) (b1 : Int) (t7 : Bool) (G : GH) : Option Res := M.j (execC M.j C (M.ag C) calc_Mul.c12 (calc_Mul.e14 M C) (calc_Mul.k27 M C)) [.v (.c (.int .i64 a0)), .v (.c (.int .i64 b1)), .und, .und, .und, .und, .und, .v (.c (.bool t7)), .und, .und, .und, .und, .und, .und, .und, .und, .und, .und, .und, .und, .und, .und, .und, .und, .und, .und, .und, .und, .und, .und, .und, .und, .und, .und, .und, .und, .und, .und, .und, .und, .und] G
def calc_Mul.J10 (M : Mach) (C : Call) (a0 : Int) (b1 : Int) (t14 : Bool) (G : GH) : Option Res := M.j (execC M.j C (M.ag C) calc_Mul.c10 (calc_Mul.e14 M C) (calc_Mul.k27 M C)) [.v (.c (.int .i64 a0)), .v (.c (.int .i64 b1)), .und, .und, .und, .und, .und, .und, .und, .und, .und, .und, .und, .und, .v (.c (.bool t14)), .und, .und, .und, .und, .und, .und, .und, .und, .und, .und, .und, .und, .und, .und, .und, .und, .und, .und, .und, .und, .und, .und, .und, .und, .und, .und] G
theorem calc_Mul.J12_eq (M : Mach) (C : Call) (a0 : Int) (b1 : Int) (t7 : Bool) (G : GH) : calc_Mul.J12 M C a0 b1 t7 G = (bif t7 then some ([.c (.int .i64 0), .c (.bool true)], G) else bif decide (a0 = (-1)) then bif decide (b1 = (-9223372036854775808)) then calc_Mul.J10 M C a0 b1 true G else bif decide (b1 = (-1)) then calc_Mul.J10 M C a0 b1 (decide (a0 = (-9223372036854775808))) G else calc_Mul.J10 M C a0 b1 false G else bif decide (b1 = (-1)) then calc_Mul.J10 M C a0 b1 (decide (a0 = (-9223372036854775808))) G else calc_Mul.J10 M C a0 b1 false G) := (M.hj _ _ _).trans (by kernel_rfl)
theorem calc_Mul.J10_eq (M : Mach) (C : Call) (a0 : Int) (b1 : Int) (t14 : Bool) (G : GH) : calc_Mul.J10 M C a0 b1 t14 G = (bif t14 then some ([.c (.int .i64 0), .c (.bool false)], G) else (binD .quo .i64 (IntKind.i64.wrap (IntKind.u64.wrap ((IntKind.u64.wrap a0) * (IntKind.u64.wrap b1)))) b1).bind fun qx_1 => bif (!decide (qx_1 = a0)) then some ([.c (.int .i64 0), .c (.bool false)], G) else some ([.c (.int .i64 (IntKind.i64.wrap (IntKind.u64.wrap ((IntKind.u64.wrap a0) * (IntKind.u64.wrap b1))))), .c (.bool true)], G)) := (M.hj _ _ _).trans (by kernel_rfl)
def calc_Mul.f (M : Mach) (C : Call) (a0 : Int) (b1 : Int) (G : GH) : Option Res := bif decide (a0 = 0) then calc_Mul.J12 M C a0 b1 true G else calc_Mul.J12 M C a0 b1 (decide (b1 = 0)) G
theorem calc_Mul.eq (M : Mach) (C : Call) (a0 : Int) (b1 : Int) (G : GH) : runF M C calc_Mul.d [.c (.int .i64 a0), .c (.int .i64 b1)] G = calc_Mul.f M C a0 b1 G := by kernel_rfl

/- 60 hodman/hodmanref1.Product -/
def hodmanref1_Product.c6 : DCode := (.cond (.t 15) (.seq (.region [⟨0, some 6, .move (.k (.c (.int .i64 0))), none⟩,
    ⟨1, some 7, .move (.k (.c (.int .i64 2))), none⟩]) .ret) .skip)
def hodmanref1_Product.c14 : DCode := (.cond (.t 29) (.seq (.region [⟨0, some 6, .move (.k (.c (.int .i64 0))), none⟩,
    ⟨1, some 7, .move (.k (.c (.int .i64 4))), none⟩]) .ret) .skip)
def hodmanref1_Product.c18 : DCode := (.seq (.region [⟨0, some 30, .move (.t 8), none⟩,
    ⟨1, some 6, .move (.t 30), none⟩,
    ⟨2, some 7, .move (.k (.c (.int .i64 0))), none⟩]) .ret)
def hodmanref1_Product.c20 : DCode := (.seq (.region [⟨0, some 17, .move (.t 1), none⟩,
    ⟨1, some 18, .move (.t 2), none⟩,
    ⟨2, some 19, .call 72 [.t 17, .t 18] [.c (.int .i64), .c (.bool)], none⟩,
    ⟨3, some 16, .move (.t 19), none⟩,
    ⟨4, some 20, .ext 16 0, none⟩,
    ⟨5, some 21, .ext 16 1, none⟩,
    ⟨6, some 8, .move (.t 20), none⟩,
    ⟨7, some 9, .move (.t 21), none⟩]) (.seq (.seq (.region [⟨0, some 22, .move (.t 9), none⟩,
    ⟨1, some 23, .not (.t 22), none⟩,
    ⟨2, some 24, .move (.t 23), none⟩,
    ⟨3, some 25, .move (.t 8), some (24, false)⟩,
    ⟨4, some 26, .faddr 3 1, some (24, false)⟩,
    ⟨5, some 27, .ldL 26 31 (.c (.int .i64)), some (24, false)⟩,
    ⟨6, some 28, .cmp .gtr .i64 (.t 25) (.t 27), some (24, false)⟩,
    ⟨7, some 29, .pick (.t 24) (.k (.c (.bool true))) (.t 28), none⟩]) (.cut [8, 29] hodmanref1_Product.c14)) hodmanref1_Product.c18))
def hodmanref1_Product.d : DFn := { ntmps := 32, res := [.t 6, .t 7], body := (.seq (.region [⟨0, some 3, .boxv 31 [26] (.t 0) 8, none⟩,
    ⟨1, some 6, .move (.k (.c (.int .i64 0))), none⟩,
    ⟨2, some 7, .move (.k (.c (.int .i64 0))), none⟩]) (.seq (.seq (.region [⟨0, some 10, .move (.t 1), none⟩,
    ⟨1, some 11, .cmp .lss .i64 (.t 10) (.k (.c (.int .i64 0))), none⟩,
    ⟨2, some 12, .move (.t 11), none⟩,
    ⟨3, some 13, .move (.t 2), some (12, false)⟩,
    ⟨4, some 14, .cmp .lss .i64 (.t 13) (.k (.c (.int .i64 0))), some (12, false)⟩,
    ⟨5, some 15, .pick (.t 12) (.k (.c (.bool true))) (.t 14), none⟩]) (.cut [1, 2, 3, 15, 31] hodmanref1_Product.c6)) hodmanref1_Product.c20)) }
def hodmanref1_Product.k20 (M : Mach) (C : Call) : Kont := execC M.j C (M.ag C) hodmanref1_Product.c20 ({ exits := [], ret := retK hodmanref1_Product.d } : Env) (retK hodmanref1_Product.d)
def hodmanref1_Product.J6 (M : Mach) (C : Call) (n1 : Int) (s2 : Int) (t15 : Bool) (c31_0 : Int) (c31_1 : Int) (c31_2 : Int) (c31_3 : Int) (c31_4 : Int) (c31_5 : Int) (c31_6 : Int) (c31_7 : Int) (G : GH) : Option Res := M.j (execC M.j C (M.ag C) hodmanref1_Product.c6 ({ exits := [], ret := retK hodmanref1_Product.d } : Env) (hodmanref1_Product.k20 M C)) [.und, .v (.c (.int .i64 n1)), .v (.c (.int .i64 s2)), .ref 31 0, .und, .und, .und, .und, .und, .und, .und, .und, .und, .und, .und, .v (.c (.bool t15)), .und, .und, .und, .und, .und, .und, .und, .und, .und, .und, .und, .und, .und, .und, .und, .box [.int .i64 c31_0, .int .i64 c31_1, .int .i64 c31_2, .int .i64 c31_3, .int .i64 c31_4, .int .i64 c31_5, .int .i64 c31_6, .int .i64 c31_7]] G
def hodmanref1_Product.k18 (M : Mach) (C : Call) : Kont := execC M.j C (M.ag C) hodmanref1_Product.c18 ({ exits := [], ret := retK hodmanref1_Product.d } : Env) (retK hodmanref1_Product.d)
def hodmanref1_Product.J14 (M : Mach) (C : Call) (v8 : Int) (t29 : Bool) (G : GH) : Option Res := M.j (execC M.j C (M.ag C) hodmanref1_Product.c14 ({ exits := [], ret := retK hodmanref1_Product.d } : Env) (hodmanref1_Product.k18 M C)) [.und, .und, .und, .und, .und, .und, .und, .und, .v (.c (.int .i64 v8)), .und, .und, .und, .und, .und, .und, .und, .und, .und, .und, .und, .und, .und, .und, .und, .und, .und, .und, .und, .und, .v (.c (.bool t29)), .und, .und] G
theorem hodmanref1_Product.J6_eq (M : Mach) (C : Call) (n1 : Int) (s2 : Int) (t15 : Bool) (c31_0 : Int) (c31_1 : Int) (c31_2 : Int) (c31_3 : Int) (c31_4 : Int) (c31_5 : Int) (c31_6 : Int) (c31_7 : Int) (G : GH) : hodmanref1_Product.J6 M C n1 s2 t15 c31_0 c31_1 c31_2 c31_3 c31_4 c31_5 c31_6 c31_7 G = (bif t15 then some ([.c (.int .i64 0), .c (.int .i64 2)], G) else (C hodmanref1_Mul.id [.c (.int .i64 n1), .c (.int .i64 s2)] G).bind fun qr_1 => (((qr_1.1[0]?).bind V1.c?).bind (Cell.asI .i64)).bind fun qx_2 => (((qr_1.1[1]?).bind V1.c?).bind Cell.asB).bind fun qb_3 => bif (!qb_3) then hodmanref1_Product.J14 M C qx_2 true qr_1.2 else hodmanref1_Product.J14 M C qx_2 (decide (qx_2 > c31_1)) qr_1.2) := (M.hj _ _ _).trans (by kernel_rfl)
theorem hodmanref1_Product.J14_eq (M : Mach) (C : Call) (v8 : Int) (t29 : Bool) (G : GH) : hodmanref1_Product.J14 M C v8 t29 G = (bif t29 then some ([.c (.int .i64 0), .c (.int .i64 4)], G) else some ([.c (.int .i64 v8), .c (.int .i64 0)], G)) := (M.hj _ _ _).trans (by kernel_rfl)
def hodmanref1_Product.f (M : Mach) (C : Call) (c0_0 : Int) (c0_1 : Int) (c0_2 : Int) (c0_3 : Int) (c0_4 : Int) (c0_5 : Int) (c0_6 : Int) (c0_7 : Int) (n1 : Int) (s2 : Int) (G : GH) : Option Res := bif decide (n1 < 0) then hodmanref1_Product.J6 M C n1 s2 true c0_0 c0_1 c0_2 c0_3 c0_4 c0_5 c0_6 c0_7 G else hodmanref1_Product.J6 M C n1 s2 (decide (s2 < 0)) c0_0 c0_1 c0_2 c0_3 c0_4 c0_5 c0_6 c0_7 G
theorem hodmanref1_Product.eq (M : Mach) (C : Call) (c0_0 : Int) (c0_1 : Int) (c0_2 : Int) (c0_3 : Int) (c0_4 : Int) (c0_5 : Int) (c0_6 : Int) (c0_7 : Int) (n1 : Int) (s2 : Int) (G : GH) : runF M C hodmanref1_Product.d [.agg [.int .i64 c0_0, .int .i64 c0_1, .int .i64 c0_2, .int .i64 c0_3, .int .i64 c0_4, .int .i64 c0_5, .int .i64 c0_6, .int .i64 c0_7], .c (.int .i64 n1), .c (.int .i64 s2)] G = hodmanref1_Product.f M C c0_0 c0_1 c0_2 c0_3 c0_4 c0_5 c0_6 c0_7 n1 s2 G := by kernel_rfl

/- 41 slices.Equal[[]hodman/api.Ans,hodman/api.Ans] -/
def api_Ans.c26 : DCode := (.seq (.region [⟨0, some 14, .cmp .lss .i64 (.t 13) (.t 12), none⟩]) (.seq (.cond (.t 14) .skip (.exit 0)) (.seq (.block 1 (.seq (.region [⟨0, some 15, .move (.t 13), none⟩,
    ⟨1, some 5, .move (.t 15), none⟩]) (.seq (.region [⟨0, some 16, .move (.t 0), none⟩,
    ⟨1, some 17, .move (.t 5), none⟩,
    ⟨2, some 18, .iaddr (.t 16) (.t 17) 8, none⟩,
    ⟨3, some 19, .ldG 18 (.agg [.int .i64, .int .i64, .int .i64, .int .u8, .int .i64, .int .i64, .int .i64, .int .i64]), none⟩,
    ⟨4, some 20, .move (.t 1), none⟩,
    ⟨5, some 21, .move (.t 5), none⟩,
    ⟨6, some 22, .iaddr (.t 20) (.t 21) 8, none⟩,
    ⟨7, some 23, .ldG 22 (.agg [.int .i64, .int .i64, .int .i64, .int .u8, .int .i64, .int .i64, .int .i64, .int .i64]), none⟩,
    ⟨8, some 24, .aeq true [.int .i64, .int .i64, .int .i64, .int .u8, .int .i64, .int .i64, .int .i64, .int .i64] (.t 19) (.t 23), none⟩]) (.cond (.t 24) (.seq (.region [⟨0, some 4, .move (.k (.c (.bool false))), none⟩]) .ret) .skip)))) (.region [⟨0, some 25, .bin .add .i64 (.t 13) (.k (.c (.int .i64 1))), none⟩,
    ⟨1, some 13, .move (.t 25), none⟩]))))
def api_Ans.c32 : DCode := (.seq (.region [⟨0, some 4, .move (.k (.c (.bool true))), none⟩]) .ret)
def api_Ans.d : DFn := { ntmps := 26, res := [.t 4], body := (.seq (.region [⟨0, some 4, .move (.k (.c (.bool false))), none⟩]) (.seq (.seq (.region [⟨0, some 6, .move (.t 0), none⟩,
    ⟨1, some 7, .len (.t 6), none⟩,
    ⟨2, some 8, .move (.t 1), none⟩,
    ⟨3, some 9, .len (.t 8), none⟩,
    ⟨4, some 10, .cmp .neq .i64 (.t 7) (.t 9), none⟩]) (.cond (.t 10) (.seq (.region [⟨0, some 4, .move (.k (.c (.bool false))), none⟩]) .ret) .skip)) (.seq (.seq (.region [⟨0, some 11, .move (.t 0), none⟩,
    ⟨1, some 12, .len (.t 11), none⟩,
    ⟨2, some 13, .move (.k (.c (.int .i64 0))), none⟩]) (.block 0 (.loop [0, 1, 12, 13] api_Ans.c26))) api_Ans.c32))) }
def api_Ans.k32 (M : Mach) (C : Call) : Kont := execC M.j C (M.ag C) api_Ans.c32 ({ exits := [], ret := retK api_Ans.d } : Env) (retK api_Ans.d)
def api_Ans.e28 (M : Mach) (C : Call) : Env := { exits := (0, (api_Ans.k32 M C)) :: (({ exits := [], ret := retK api_Ans.d } : Env)).exits, ret := (({ exits := [], ret := retK api_Ans.d } : Env)).ret }
def api_Ans.L27 (M : Mach) (C : Call) (s10i : Nat) (s10o : Nat) (s10n : Nat) (s21i : Nat) (s21o : Nat) (s21n : Nat) (t12 : Int) (t13 : Int) (G : GH) : Option Res := M.ag C [0, 1, 12, 13] api_Ans.c26 (api_Ans.e28 M C) (api_Ans.k32 M C) [.v (.c (.sl 8 s10i s10o s10n)), .v (.c (.sl 8 s21i s21o s21n)), .und, .und, .und, .und, .und, .und, .und, .und, .und, .und, .v (.c (.int .i64 t12)), .v (.c (.int .i64 t13)), .und, .und, .und, .und, .und, .und, .und, .und, .und, .und, .und, .und] G
theorem api_Ans.L27_eq (M : Mach) (C : Call) (s10i : Nat) (s10o : Nat) (s10n : Nat) (s21i : Nat) (s21o : Nat) (s21n : Nat) (t12 : Int) (t13 : Int) (G : GH) : api_Ans.L27 M C s10i s10o s10n s21i s21o s21n t12 t13 G = (bif decide (t13 < t12) then guardK (decide (0 ≤ t13 ∧ t13 < ((s10n : Nat) : Int))) (((G.ld s10i ((s10o + Int.toNat t13 * 8) + 0)).bind (Cell.asI .i64)).bind fun qx_1 => ((G.ld s10i ((s10o + Int.toNat t13 * 8) + 1)).bind (Cell.asI .i64)).bind fun qx_2 => ((G.ld s10i ((s10o + Int.toNat t13 * 8) + 2)).bind (Cell.asI .i64)).bind fun qx_3 => ((G.ld s10i ((s10o + Int.toNat t13 * 8) + 3)).bind (Cell.asI .u8)).bind fun qx_4 => ((G.ld s10i ((s10o + Int.toNat t13 * 8) + 4)).bind (Cell.asI .i64)).bind fun qx_5 => ((G.ld s10i ((s10o + Int.toNat t13 * 8) + 5)).bind (Cell.asI .i64)).bind fun qx_6 => ((G.ld s10i ((s10o + Int.toNat t13 * 8) + 6)).bind (Cell.asI .i64)).bind fun qx_7 => ((G.ld s10i ((s10o + Int.toNat t13 * 8) + 7)).bind (Cell.asI .i64)).bind fun qx_8 => guardK (decide (0 ≤ t13 ∧ t13 < ((s21n : Nat) : Int))) (((G.ld s21i ((s21o + Int.toNat t13 * 8) + 0)).bind (Cell.asI .i64)).bind fun qx_9 => ((G.ld s21i ((s21o + Int.toNat t13 * 8) + 1)).bind (Cell.asI .i64)).bind fun qx_10 => ((G.ld s21i ((s21o + Int.toNat t13 * 8) + 2)).bind (Cell.asI .i64)).bind fun qx_11 => ((G.ld s21i ((s21o + Int.toNat t13 * 8) + 3)).bind (Cell.asI .u8)).bind fun qx_12 => ((G.ld s21i ((s21o + Int.toNat t13 * 8) + 4)).bind (Cell.asI .i64)).bind fun qx_13 => ((G.ld s21i ((s21o + Int.toNat t13 * 8) + 5)).bind (Cell.asI .i64)).bind fun qx_14 => ((G.ld s21i ((s21o + Int.toNat t13 * 8) + 6)).bind (Cell.asI .i64)).bind fun qx_15 => ((G.ld s21i ((s21o + Int.toNat t13 * 8) + 7)).bind (Cell.asI .i64)).bind fun qx_16 => bif Bool.xor true (decide (qx_1 = qx_9) && (decide (qx_2 = qx_10) && (decide (qx_3 = qx_11) && (decide (qx_4 = qx_12) && (decide (qx_5 = qx_13) && (decide (qx_6 = qx_14) && (decide (qx_7 = qx_15) && (decide (qx_8 = qx_16) && true)))))))) then some ([.c (.bool false)], G) else api_Ans.L27 M C s10i s10o s10n s21i s21o s21n t12 (IntKind.i64.wrap (t13 + 1)) G)) else some ([.c (.bool true)], G)) := (M.hs _ _ _ _ _ _ _).trans (by kernel_rfl)
def api_Ans.f (M : Mach) (C : Call) (s10i : Nat) (s10o : Nat) (s10n : Nat) (s21i : Nat) (s21o : Nat) (s21n : Nat) (G : GH) : Option Res := bif (!decide (((s10n : Nat) : Int) = ((s21n : Nat) : Int))) then some ([.c (.bool false)], G) else api_Ans.L27 M C s10i s10o s10n s21i s21o s21n ((s10n : Nat) : Int) 0 G
theorem api_Ans.eq (M : Mach) (C : Call) (s10i : Nat) (s10o : Nat) (s10n : Nat) (s21i : Nat) (s21o : Nat) (s21n : Nat) (G : GH) : runF M C api_Ans.d [.c (.sl 8 s10i s10o s10n), .c (.sl 8 s21i s21o s21n)] G = api_Ans.f M C s10i s10o s10n s21i s21o s21n G := by kernel_rfl

/- 46 hodman/class.Product -/
def class_Product.c6 : DCode := (.cond (.t 15) (.seq (.region [⟨0, some 6, .move (.k (.c (.int .i64 0))), none⟩,
    ⟨1, some 7, .move (.k (.c (.int .i64 2))), none⟩]) .ret) .skip)
def class_Product.c14 : DCode := (.cond (.t 29) (.seq (.region [⟨0, some 6, .move (.k (.c (.int .i64 0))), none⟩,
    ⟨1, some 7, .move (.k (.c (.int .i64 4))), none⟩]) .ret) .skip)
def class_Product.c18 : DCode := (.seq (.region [⟨0, some 30, .move (.t 8), none⟩,
    ⟨1, some 6, .move (.t 30), none⟩,
    ⟨2, some 7, .move (.k (.c (.int .i64 0))), none⟩]) .ret)
def class_Product.c20 : DCode := (.seq (.region [⟨0, some 17, .move (.t 1), none⟩,
    ⟨1, some 18, .move (.t 2), none⟩,
    ⟨2, some 19, .call 62 [.t 17, .t 18] [.c (.int .i64), .c (.bool)], none⟩,
    ⟨3, some 16, .move (.t 19), none⟩,
    ⟨4, some 20, .ext 16 0, none⟩,
    ⟨5, some 21, .ext 16 1, none⟩,
    ⟨6, some 8, .move (.t 20), none⟩,
    ⟨7, some 9, .move (.t 21), none⟩]) (.seq (.seq (.region [⟨0, some 22, .move (.t 9), none⟩,
    ⟨1, some 23, .not (.t 22), none⟩,
    ⟨2, some 24, .move (.t 23), none⟩,
    ⟨3, some 25, .move (.t 8), some (24, false)⟩,
    ⟨4, some 26, .faddr 3 1, some (24, false)⟩,
    ⟨5, some 27, .ldL 26 31 (.c (.int .i64)), some (24, false)⟩,
    ⟨6, some 28, .cmp .gtr .i64 (.t 25) (.t 27), some (24, false)⟩,
    ⟨7, some 29, .pick (.t 24) (.k (.c (.bool true))) (.t 28), none⟩]) (.cut [8, 29] class_Product.c14)) class_Product.c18))
def class_Product.d : DFn := { ntmps := 32, res := [.t 6, .t 7], body := (.seq (.region [⟨0, some 3, .boxv 31 [26] (.t 0) 8, none⟩,
    ⟨1, some 6, .move (.k (.c (.int .i64 0))), none⟩,
    ⟨2, some 7, .move (.k (.c (.int .i64 0))), none⟩]) (.seq (.seq (.region [⟨0, some 10, .move (.t 1), none⟩,
    ⟨1, some 11, .cmp .lss .i64 (.t 10) (.k (.c (.int .i64 0))), none⟩,
    ⟨2, some 12, .move (.t 11), none⟩,
    ⟨3, some 13, .move (.t 2), some (12, false)⟩,
    ⟨4, some 14, .cmp .lss .i64 (.t 13) (.k (.c (.int .i64 0))), some (12, false)⟩,
    ⟨5, some 15, .pick (.t 12) (.k (.c (.bool true))) (.t 14), none⟩]) (.cut [1, 2, 3, 15, 31] class_Product.c6)) class_Product.c20)) }
def class_Product.k20 (M : Mach) (C : Call) : Kont := execC M.j C (M.ag C) class_Product.c20 ({ exits := [], ret := retK class_Product.d } : Env) (retK class_Product.d)
def class_Product.J6 (M : Mach) (C : Call) (n1 : Int) (s2 : Int) (t15 : Bool) (c31_0 : Int) (c31_1 : Int) (c31_2 : Int) (c31_3 : Int) (c31_4 : Int) (c31_5 : Int) (c31_6 : Int) (c31_7 : Int) (G : GH) : Option Res := M.j (execC M.j C (M.ag C) class_Product.c6 ({ exits := [], ret := retK class_Product.d } : Env) (class_Product.k20 M C)) [.und, .v (.c (.int .i64 n1)), .v (.c (.int .i64 s2)), .ref 31 0, .und, .und, .und, .und, .und, .und, .und, .und, .und, .und, .und, .v (.c (.bool t15)), .und, .und, .und, .und, .und, .und, .und, .und, .und, .und, .und, .und, .und, .und, .und, .box [.int .i64 c31_0, .int .i64 c31_1, .int .i64 c31_2, .int .i64 c31_3, .int .i64 c31_4, .int .i64 c31_5, .int .i64 c31_6, .int .i64 c31_7]] G
def class_Product.k18 (M : Mach) (C : Call) : Kont := execC M.j C (M.ag C) class_Product.c18 ({ exits := [], ret := retK class_Product.d } : Env) (retK class_Product.d)
def class_Product.J14 (M : Mach) (C : Call) (p8 : Int) (t29 : Bool) (G : GH) : Option Res := M.j (execC M.j C (M.ag C) class_Product.c14 ({ exits := [], ret := retK class_Product.d } : Env) (class_Product.k18 M C)) [.und, .und, .und, .und, .und, .und, .und, .und, .v (.c (.int .i64 p8)), .und, .und, .und, .und, .und, .und, .und, .und, .und, .und, .und, .und, .und, .und, .und, .und, .und, .und, .und, .und, .v (.c (.bool t29)), .und, .und] G
theorem class_Product.J6_eq (M : Mach) (C : Call) (n1 : Int) (s2 : Int) (t15 : Bool) (c31_0 : Int) (c31_1 : Int) (c31_2 : Int) (c31_3 : Int) (c31_4 : Int) (c31_5 : Int) (c31_6 : Int) (c31_7 : Int) (G : GH) : class_Product.J6 M C n1 s2 t15 c31_0 c31_1 c31_2 c31_3 c31_4 c31_5 c31_6 c31_7 G = (bif t15 then some ([.c (.int .i64 0), .c (.int .i64 2)], G) else (C calc_Mul.id [.c (.int .i64 n1), .c (.int .i64 s2)] G).bind fun qr_1 => (((qr_1.1[0]?).bind V1.c?).bind (Cell.asI .i64)).bind fun qx_2 => (((qr_1.1[1]?).bind V1.c?).bind Cell.asB).bind fun qb_3 => bif (!qb_3) then class_Product.J14 M C qx_2 true qr_1.2 else class_Product.J14 M C qx_2 (decide (qx_2 > c31_1)) qr_1.2) := (M.hj _ _ _).trans (by kernel_rfl)
theorem class_Product.J14_eq (M : Mach) (C : Call) (p8 : Int) (t29 : Bool) (G : GH) : class_Product.J14 M C p8 t29 G = (bif t29 then some ([.c (.int .i64 0), .c (.int .i64 4)], G) else some ([.c (.int .i64 p8), .c (.int .i64 0)], G)) := (M.hj _ _ _).trans (by kernel_rfl)
def class_Product.f (M : Mach) (C : Call) (c0_0 : Int) (c0_1 : Int) (c0_2 : Int) (c0_3 : Int) (c0_4 : Int) (c0_5 : Int) (c0_6 : Int) (c0_7 : Int) (n1 : Int) (s2 : Int) (G : GH) : Option Res := bif decide (n1 < 0) then class_Product.J6 M C n1 s2 true c0_0 c0_1 c0_2 c0_3 c0_4 c0_5 c0_6 c0_7 G else class_Product.J6 M C n1 s2 (decide (s2 < 0)) c0_0 c0_1 c0_2 c0_3 c0_4 c0_5 c0_6 c0_7 G
theorem class_Product.eq (M : Mach) (C : Call) (c0_0 : Int) (c0_1 : Int) (c0_2 : Int) (c0_3 : Int) (c0_4 : Int) (c0_5 : Int) (c0_6 : Int) (c0_7 : Int) (n1 : Int) (s2 : Int) (G : GH) : runF M C class_Product.d [.agg [.int .i64 c0_0, .int .i64 c0_1, .int .i64 c0_2, .int .i64 c0_3, .int .i64 c0_4, .int .i64 c0_5, .int .i64 c0_6, .int .i64 c0_7], .c (.int .i64 n1), .c (.int .i64 s2)] G = class_Product.f M C c0_0 c0_1 c0_2 c0_3 c0_4 c0_5 c0_6 c0_7 n1 s2 G := by kernel_rfl

/- 14 (*hodman/hodmanplay.Picks).Raw -/
def hodmanplay_Picks_Raw.c10 : DCode := (.seq (.region [⟨0, some 30, .ldL 6 32 (.agg [.int .i64, .int .i64, .int .i64, .int .i64, .int .i64, .int .i64]), none⟩,
    ⟨1, none, .stL 4 31 (.t 30) 6, none⟩]) .ret)
def hodmanplay_Picks_Raw.d : DFn := { ntmps := 33, res := [.box 4 (some 6)], body := (.seq (.region [⟨0, some 4, .boxz 31 [] [.int .i64 0, .int .i64 0, .int .i64 0, .int .i64 0, .int .i64 0, .int .i64 0], none⟩]) (.seq (.region [⟨0, some 7, .move (.t 0), none⟩,
    ⟨1, some 8, .call 28 [.t 7, .k (.c (.int .i64 9))] [.c (.int .i64)], none⟩,
    ⟨2, some 9, .bin .add .i64 (.k (.c (.int .i64 1))) (.t 8), none⟩,
    ⟨3, some 5, .move (.t 9), none⟩]) (.seq (.region [⟨0, some 10, .move (.t 5), none⟩,
    ⟨1, some 11, .move (.t 5), none⟩,
    ⟨2, some 12, .move (.t 0), none⟩,
    ⟨3, some 13, .call 28 [.t 12, .k (.c (.int .i64 12))] [.c (.int .i64)], none⟩,
    ⟨4, some 14, .bin .add .i64 (.k (.c (.int .i64 1))) (.t 13), none⟩,
    ⟨5, some 15, .bin .mul .i64 (.t 11) (.t 14), none⟩,
    ⟨6, some 16, .move (.t 0), none⟩,
    ⟨7, some 17, .call 28 [.t 16, .k (.c (.int .i64 150))] [.c (.int .i64)], none⟩,
    ⟨8, some 18, .bin .add .i64 (.k (.c (.int .i64 1))) (.t 17), none⟩,
    ⟨9, some 19, .move (.t 0), none⟩,
    ⟨10, some 20, .call 28 [.t 19, .k (.c (.int .i64 30))] [.c (.int .i64)], none⟩,
    ⟨11, some 21, .bin .add .i64 (.k (.c (.int .i64 1))) (.t 20), none⟩,
    ⟨12, some 22, .move (.t 0), none⟩,
    ⟨13, some 23, .call 28 [.t 22, .k (.c (.int .i64 200))] [.c (.int .i64)], none⟩,
    ⟨14, some 24, .move (.t 0), none⟩,
    ⟨15, some 25, .call 28 [.t 24, .k (.c (.int .i64 20))] [.c (.int .i64)], none⟩,
    ⟨16, some 26, .bin .add .i64 (.k (.c (.int .i64 1))) (.t 25), none⟩,
    ⟨17, some 27, .build [.int .i64 0, .int .i64 0, .int .i64 0, .int .i64 0, .int .i64 0, .int .i64 0] [(0, 1, .t 10), (1, 1, .t 15), (2, 1, .t 18), (3, 1, .t 21), (5, 1, .t 23), (4, 1, .t 26)], none⟩,
    ⟨18, some 6, .boxz 32 [29] [.int .i64 0, .int .i64 0, .int .i64 0, .int .i64 0, .int .i64 0, .int .i64 0], none⟩,
    ⟨19, none, .stL 6 32 (.t 27) 6, none⟩]) (.seq (.seq (.region [⟨0, some 28, .move (.t 1), none⟩]) (.cond (.t 28) (.region [⟨0, some 29, .faddr 6 4, none⟩,
    ⟨1, none, .stL 29 32 (.k (.c (.int .i64 5000))) 1, none⟩]) .skip)) (.cut [4, 6, 31, 32] hodmanplay_Picks_Raw.c10))))) }
def hodmanplay_Picks_Raw.J10 (M : Mach) (C : Call) (x31_0 : Int) (x31_1 : Int) (x31_2 : Int) (x31_3 : Int) (x31_4 : Int) (x31_5 : Int) (r32_0 : Int) (r32_1 : Int) (r32_2 : Int) (r32_3 : Int) (r32_4 : Int) (r32_5 : Int) (G : GH) : Option Res := M.j (execC M.j C (M.ag C) hodmanplay_Picks_Raw.c10 ({ exits := [], ret := retK hodmanplay_Picks_Raw.d } : Env) (retK hodmanplay_Picks_Raw.d)) [.und, .und, .und, .und, .ref 31 0, .und, .ref 32 0, .und, .und, .und, .und, .und, .und, .und, .und, .und, .und, .und, .und, .und, .und, .und, .und, .und, .und, .und, .und, .und, .und, .und, .und, .box [.int .i64 x31_0, .int .i64 x31_1, .int .i64 x31_2, .int .i64 x31_3, .int .i64 x31_4, .int .i64 x31_5], .box [.int .i64 r32_0, .int .i64 r32_1, .int .i64 r32_2, .int .i64 r32_3, .int .i64 r32_4, .int .i64 r32_5]] G
theorem hodmanplay_Picks_Raw.J10_eq (M : Mach) (C : Call) (x31_0 : Int) (x31_1 : Int) (x31_2 : Int) (x31_3 : Int) (x31_4 : Int) (x31_5 : Int) (r32_0 : Int) (r32_1 : Int) (r32_2 : Int) (r32_3 : Int) (r32_4 : Int) (r32_5 : Int) (G : GH) : hodmanplay_Picks_Raw.J10 M C x31_0 x31_1 x31_2 x31_3 x31_4 x31_5 r32_0 r32_1 r32_2 r32_3 r32_4 r32_5 G = (some ([.agg [.int .i64 r32_0, .int .i64 r32_1, .int .i64 r32_2, .int .i64 r32_3, .int .i64 r32_4, .int .i64 r32_5]], G)) := (M.hj _ _ _).trans (by kernel_rfl)
def hodmanplay_Picks_Raw.f (M : Mach) (C : Call) (p0i : Nat) (p0o : Nat) (budget1 : Bool) (G : GH) : Option Res := (C hodmanplay_Picks_Num.id [.c (.ptr p0i p0o), .c (.int .i64 9)] G).bind fun qr_1 => (((qr_1.1[0]?).bind V1.c?).bind (Cell.asI .i64)).bind fun qx_2 => (C hodmanplay_Picks_Num.id [.c (.ptr p0i p0o), .c (.int .i64 12)] qr_1.2).bind fun qr_3 => (((qr_3.1[0]?).bind V1.c?).bind (Cell.asI .i64)).bind fun qx_4 => (C hodmanplay_Picks_Num.id [.c (.ptr p0i p0o), .c (.int .i64 150)] qr_3.2).bind fun qr_5 => (((qr_5.1[0]?).bind V1.c?).bind (Cell.asI .i64)).bind fun qx_6 => (C hodmanplay_Picks_Num.id [.c (.ptr p0i p0o), .c (.int .i64 30)] qr_5.2).bind fun qr_7 => (((qr_7.1[0]?).bind V1.c?).bind (Cell.asI .i64)).bind fun qx_8 => (C hodmanplay_Picks_Num.id [.c (.ptr p0i p0o), .c (.int .i64 200)] qr_7.2).bind fun qr_9 => (((qr_9.1[0]?).bind V1.c?).bind (Cell.asI .i64)).bind fun qx_10 => (C hodmanplay_Picks_Num.id [.c (.ptr p0i p0o), .c (.int .i64 20)] qr_9.2).bind fun qr_11 => (((qr_11.1[0]?).bind V1.c?).bind (Cell.asI .i64)).bind fun qx_12 => bif budget1 then hodmanplay_Picks_Raw.J10 M C 0 0 0 0 0 0 (IntKind.i64.wrap (1 + qx_2)) (IntKind.i64.wrap ((IntKind.i64.wrap (1 + qx_2)) * (IntKind.i64.wrap (1 + qx_4)))) (IntKind.i64.wrap (1 + qx_6)) (IntKind.i64.wrap (1 + qx_8)) 5000 qx_10 qr_11.2 else hodmanplay_Picks_Raw.J10 M C 0 0 0 0 0 0 (IntKind.i64.wrap (1 + qx_2)) (IntKind.i64.wrap ((IntKind.i64.wrap (1 + qx_2)) * (IntKind.i64.wrap (1 + qx_4)))) (IntKind.i64.wrap (1 + qx_6)) (IntKind.i64.wrap (1 + qx_8)) (IntKind.i64.wrap (1 + qx_12)) qx_10 qr_11.2
theorem hodmanplay_Picks_Raw.eq (M : Mach) (C : Call) (p0i : Nat) (p0o : Nat) (budget1 : Bool) (G : GH) : runF M C hodmanplay_Picks_Raw.d [.c (.ptr p0i p0o), .c (.bool budget1)] G = hodmanplay_Picks_Raw.f M C p0i p0o budget1 G := by kernel_rfl

/- 28 (*hodman/hodmanplay.Picks).Num -/
def hodmanplay_Picks_Num.c6 : DCode := (.cond (.t 18) (.seq (.region [⟨0, some 4, .move (.k (.c (.int .i64 0))), none⟩]) .ret) .skip)
def hodmanplay_Picks_Num.c12 : DCode := (.seq (.region [⟨0, some 19, .move (.t 0), none⟩,
    ⟨1, some 20, .nilck (.t 19), none⟩,
    ⟨2, some 21, .faddr 20 1, none⟩,
    ⟨3, some 22, .ldG 21 (.c (.int .i64)), none⟩,
    ⟨4, some 23, .bin .add .i64 (.t 22) (.k (.c (.int .i64 1))), none⟩,
    ⟨5, some 24, .nilck (.t 19), none⟩,
    ⟨6, some 25, .faddr 24 1, none⟩,
    ⟨7, none, .stG 25 (.t 23) 1, none⟩]) (.seq (.region [⟨0, some 26, .move (.t 0), none⟩,
    ⟨1, some 27, .nilck (.t 26), none⟩,
    ⟨2, some 28, .faddr 27 0, none⟩,
    ⟨3, some 29, .ldG 28 (.c (.sl 1)), none⟩,
    ⟨4, some 30, .move (.t 0), none⟩,
    ⟨5, some 31, .nilck (.t 30), none⟩,
    ⟨6, some 32, .faddr 31 1, none⟩,
    ⟨7, some 33, .ldG 32 (.c (.int .i64)), none⟩,
    ⟨8, some 34, .bin .sub .i64 (.t 33) (.k (.c (.int .i64 1))), none⟩,
    ⟨9, some 35, .iaddr (.t 29) (.t 34) 1, none⟩,
    ⟨10, some 36, .ldG 35 (.c (.int .u8)), none⟩,
    ⟨11, some 37, .conv .i64 (.t 36), none⟩,
    ⟨12, some 38, .move (.t 1), none⟩,
    ⟨13, some 39, .bin .rem .i64 (.t 37) (.t 38), none⟩,
    ⟨14, some 4, .move (.t 39), none⟩]) .ret))
def hodmanplay_Picks_Num.d : DFn := { ntmps := 40, res := [.t 4], body := (.seq (.region [⟨0, some 4, .move (.k (.c (.int .i64 0))), none⟩]) (.seq (.seq (.region [⟨0, some 5, .move (.t 0), none⟩,
    ⟨1, some 6, .nilck (.t 5), none⟩,
    ⟨2, some 7, .faddr 6 1, none⟩,
    ⟨3, some 8, .ldG 7 (.c (.int .i64)), none⟩,
    ⟨4, some 9, .move (.t 0), none⟩,
    ⟨5, some 10, .nilck (.t 9), none⟩,
    ⟨6, some 11, .faddr 10 0, none⟩,
    ⟨7, some 12, .ldG 11 (.c (.sl 1)), none⟩,
    ⟨8, some 13, .len (.t 12), none⟩,
    ⟨9, some 14, .cmp .geq .i64 (.t 8) (.t 13), none⟩,
    ⟨10, some 15, .move (.t 14), none⟩,
    ⟨11, some 16, .move (.t 1), some (15, false)⟩,
    ⟨12, some 17, .cmp .lss .i64 (.t 16) (.k (.c (.int .i64 1))), some (15, false)⟩,
    ⟨13, some 18, .pick (.t 15) (.k (.c (.bool true))) (.t 17), none⟩]) (.cut [0, 1, 18] hodmanplay_Picks_Num.c6)) hodmanplay_Picks_Num.c12)) }
def hodmanplay_Picks_Num.k12 (M : Mach) (C : Call) : Kont := execC M.j C (M.ag C) hodmanplay_Picks_Num.c12 ({ exits := [], ret := retK hodmanplay_Picks_Num.d } : Env) (retK hodmanplay_Picks_Num.d)
def hodmanplay_Picks_Num.J6 (M : Mach) (C : Call) (p0i : Nat) (p0o : Nat) (m1 : Int) (t18 : Bool) (G : GH) : Option Res := M.j (execC M.j C (M.ag C) hodmanplay_Picks_Num.c6 ({ exits := [], ret := retK hodmanplay_Picks_Num.d } : Env) (hodmanplay_Picks_Num.k12 M C)) [.v (.c (.ptr p0i p0o)), .v (.c (.int .i64 m1)), .und, .und, .und, .und, .und, .und, .und, .und, .und, .und, .und, .und, .und, .und, .und, .und, .v (.c (.bool t18)), .und, .und, .und, .und, .und, .und, .und, .und, .und, .und, .und, .und, .und, .und, .und, .und, .und, .und, .und, .und, .und] G
theorem hodmanplay_Picks_Num.J6_eq (M : Mach) (C : Call) (p0i : Nat) (p0o : Nat) (m1 : Int) (t18 : Bool) (G : GH) : hodmanplay_Picks_Num.J6 M C p0i p0o m1 t18 G = (bif t18 then some ([.c (.int .i64 0)], G) else guardK (!Nat.beq p0i 0) (((G.ld p0i (p0o + 1)).bind (Cell.asI .i64)).bind fun qx_3 => guardK (!Nat.beq p0i 0) ((G.sts p0i (p0o + 1) [.int .i64 (IntKind.i64.wrap (qx_3 + 1))]).bind fun qG_4 => guardK (!Nat.beq p0i 0) (((qG_4.ld p0i (p0o + 0)).bind (Cell.asS 1)).bind fun qs_5 => guardK (!Nat.beq p0i 0) (((qG_4.ld p0i (p0o + 1)).bind (Cell.asI .i64)).bind fun qx_6 => guardK (decide (0 ≤ IntKind.i64.wrap (qx_6 - 1) ∧ IntKind.i64.wrap (qx_6 - 1) < ((qs_5.2.2 : Nat) : Int))) (((qG_4.ld qs_5.1 (qs_5.2.1 + Int.toNat (IntKind.i64.wrap (qx_6 - 1)) * 1)).bind (Cell.asI .u8)).bind fun qx_7 => (binD .rem .i64 (IntKind.i64.wrap qx_7) m1).bind fun qx_8 => some ([.c (.int .i64 qx_8)], qG_4))))))) := (M.hj _ _ _).trans (by kernel_rfl)
def hodmanplay_Picks_Num.f (M : Mach) (C : Call) (p0i : Nat) (p0o : Nat) (m1 : Int) (G : GH) : Option Res := guardK (!Nat.beq p0i 0) (((G.ld p0i (p0o + 1)).bind (Cell.asI .i64)).bind fun qx_1 => guardK (!Nat.beq p0i 0) (((G.ld p0i (p0o + 0)).bind (Cell.asS 1)).bind fun qs_2 => bif decide (qx_1 ≥ ((qs_2.2.2 : Nat) : Int)) then hodmanplay_Picks_Num.J6 M C p0i p0o m1 true G else hodmanplay_Picks_Num.J6 M C p0i p0o m1 (decide (m1 < 1)) G))
theorem hodmanplay_Picks_Num.eq (M : Mach) (C : Call) (p0i : Nat) (p0o : Nat) (m1 : Int) (G : GH) : runF M C hodmanplay_Picks_Num.d [.c (.ptr p0i p0o), .c (.int .i64 m1)] G = hodmanplay_Picks_Num.f M C p0i p0o m1 G := by kernel_rfl

/- 51 hodman/hodmanref8.Zero -/
def hodmanref8_Zero.c19 : DCode := (.seq (.seq (.region [⟨0, some 19, .move (.t 9), none⟩,
    ⟨1, some 20, .move (.t 2), none⟩,
    ⟨2, some 21, .cmp .lss .i64 (.t 19) (.t 20), none⟩]) (.cond (.t 21) .skip (.exit 0))) (.seq (.block 1 (.region [⟨0, some 24, .move (.t 8), none⟩,
    ⟨1, some 25, .move (.t 1), none⟩,
    ⟨2, some 26, .move (.t 9), none⟩,
    ⟨3, some 27, .bin .add .i64 (.t 25) (.t 26), none⟩,
    ⟨4, some 28, .iaddr (.t 24) (.t 27) 1, none⟩,
    ⟨5, none, .stG 28 (.k (.c (.int .u8 0))) 1, none⟩])) (.region [⟨0, some 22, .move (.t 9), none⟩,
    ⟨1, some 23, .bin .add .i64 (.t 22) (.k (.c (.int .i64 1))), none⟩,
    ⟨2, some 9, .move (.t 23), none⟩])))
def hodmanref8_Zero.c25 : DCode := (.seq (.region [⟨0, some 29, .move (.t 8), none⟩,
    ⟨1, some 6, .move (.t 29), none⟩,
    ⟨2, some 7, .move (.k (.c (.bool true))), none⟩]) .ret)
def hodmanref8_Zero.d : DFn := { ntmps := 30, res := [.t 6, .t 7], body := (.seq (.region [⟨0, some 6, .move (.k (.c (.sl 1 0 0 0))), none⟩,
    ⟨1, some 7, .move (.k (.c (.bool false))), none⟩]) (.seq (.seq (.region [⟨0, some 10, .move (.t 0), none⟩,
    ⟨1, some 11, .move (.t 1), none⟩,
    ⟨2, some 12, .move (.t 2), none⟩,
    ⟨3, some 13, .call 68 [.t 10, .t 11, .t 12] [.c (.bool)], none⟩,
    ⟨4, some 14, .not (.t 13), none⟩]) (.cond (.t 14) (.seq (.region [⟨0, some 15, .move (.t 0), none⟩,
    ⟨1, some 6, .move (.t 15), none⟩,
    ⟨2, some 7, .move (.k (.c (.bool false))), none⟩]) .ret) .skip)) (.seq (.region [⟨0, some 16, .bslice 0 1 [] [], none⟩,
    ⟨1, some 17, .move (.t 0), none⟩,
    ⟨2, some 18, .app (.t 16) (.t 17) 1 1, none⟩,
    ⟨3, some 8, .move (.t 18), none⟩]) (.seq (.seq (.region [⟨0, some 9, .move (.k (.c (.int .i64 0))), none⟩]) (.block 0 (.loop [1, 2, 8, 9] hodmanref8_Zero.c19))) hodmanref8_Zero.c25)))) }
def hodmanref8_Zero.k25 (M : Mach) (C : Call) : Kont := execC M.j C (M.ag C) hodmanref8_Zero.c25 ({ exits := [], ret := retK hodmanref8_Zero.d } : Env) (retK hodmanref8_Zero.d)
def hodmanref8_Zero.e21 (M : Mach) (C : Call) : Env := { exits := (0, (hodmanref8_Zero.k25 M C)) :: (({ exits := [], ret := retK hodmanref8_Zero.d } : Env)).exits, ret := (({ exits := [], ret := retK hodmanref8_Zero.d } : Env)).ret }
def hodmanref8_Zero.L20 (M : Mach) (C : Call) (at1 : Int) (n2 : Int) (out8i : Nat) (out8o : Nat) (out8n : Nat) (i9 : Int) (G : GH) : Option Res := M.ag C [1, 2, 8, 9] hodmanref8_Zero.c19 (hodmanref8_Zero.e21 M C) (hodmanref8_Zero.k25 M C) [.und, .v (.c (.int .i64 at1)), .v (.c (.int .i64 n2)), .und, .und, .und, .und, .und, .v (.c (.sl 1 out8i out8o out8n)), .v (.c (.int .i64 i9)), .und, .und, .und, .und, .und, .und, .und, .und, .und, .und, .und, .und, .und, .und, .und, .und, .und, .und, .und, .und] G
theorem hodmanref8_Zero.L20_eq (M : Mach) (C : Call) (at1 : Int) (n2 : Int) (out8i : Nat) (out8o : Nat) (out8n : Nat) (i9 : Int) (G : GH) : hodmanref8_Zero.L20 M C at1 n2 out8i out8o out8n i9 G = (bif decide (i9 < n2) then guardK (decide (0 ≤ IntKind.i64.wrap (at1 + i9) ∧ IntKind.i64.wrap (at1 + i9) < ((out8n : Nat) : Int))) ((G.sts out8i (out8o + Int.toNat (IntKind.i64.wrap (at1 + i9)) * 1) [.int .u8 0]).bind fun qG_6 => hodmanref8_Zero.L20 M C at1 n2 out8i out8o out8n (IntKind.i64.wrap (i9 + 1)) qG_6) else some ([.c (.sl 1 out8i out8o out8n), .c (.bool true)], G)) := (M.hs _ _ _ _ _ _ _).trans (by kernel_rfl)
def hodmanref8_Zero.f (M : Mach) (C : Call) (mem0i : Nat) (mem0o : Nat) (mem0n : Nat) (at1 : Int) (n2 : Int) (G : GH) : Option Res := (C hodmanref8_there.id [.c (.sl 1 mem0i mem0o mem0n), .c (.int .i64 at1), .c (.int .i64 n2)] G).bind fun qr_1 => (((qr_1.1[0]?).bind V1.c?).bind Cell.asB).bind fun qb_2 => bif (!qb_2) then some ([.c (.sl 1 mem0i mem0o mem0n), .c (.bool false)], qr_1.2) else let qG_3 := qr_1.2.alloc (.row [] false); (if mem0n = 0 then some [] else qG_3.lds mem0i mem0o (mem0n * 1)).bind fun qnew_4 => guardK (decide (0 + mem0n ≤ most)) ((qG_3.app qr_1.2.next 0 0 1 mem0n qnew_4).bind fun qp_5 => hodmanref8_Zero.L20 M C at1 n2 qp_5.1 qp_5.2.1 (0 + mem0n) 0 qp_5.2.2)
theorem hodmanref8_Zero.eq (M : Mach) (C : Call) (mem0i : Nat) (mem0o : Nat) (mem0n : Nat) (at1 : Int) (n2 : Int) (G : GH) : runF M C hodmanref8_Zero.d [.c (.sl 1 mem0i mem0o mem0n), .c (.int .i64 at1), .c (.int .i64 n2)] G = hodmanref8_Zero.f M C mem0i mem0o mem0n at1 n2 G := by kernel_rfl

/- 34 hodman/hodmanref8.Count -/
def hodmanref8_Count.c14 : DCode := (.region [⟨0, some 9, .move (.t 4), none⟩,
    ⟨1, some 10, .bin .add .i64 (.t 9) (.k (.c (.int .i64 1))), none⟩,
    ⟨2, some 4, .move (.t 10), none⟩])
def hodmanref8_Count.c16 : DCode := (.seq (.seq (.region [⟨0, some 5, .move (.t 4), none⟩,
    ⟨1, some 6, .move (.t 0), none⟩,
    ⟨2, some 7, .len (.t 6), none⟩,
    ⟨3, some 8, .cmp .lss .i64 (.t 5) (.t 7), none⟩]) (.cond (.t 8) .skip (.exit 0))) (.seq (.block 1 (.seq (.region [⟨0, some 11, .move (.t 0), none⟩,
    ⟨1, some 12, .move (.t 4), none⟩,
    ⟨2, some 13, .iaddr (.t 11) (.t 12) 1, none⟩,
    ⟨3, some 14, .ldG 13 (.c (.bool)), none⟩]) (.cond (.t 14) (.region [⟨0, some 15, .move (.t 3), none⟩,
    ⟨1, some 16, .bin .add .i64 (.t 15) (.k (.c (.int .i64 1))), none⟩,
    ⟨2, some 3, .move (.t 16), none⟩]) .skip))) (.cut [0, 3, 4] hodmanref8_Count.c14)))
def hodmanref8_Count.c17 : DCode := (.loop [0, 3, 4] hodmanref8_Count.c16)
def hodmanref8_Count.c22 : DCode := (.seq (.region [⟨0, some 17, .move (.t 3), none⟩,
    ⟨1, some 2, .move (.t 17), none⟩]) .ret)
def hodmanref8_Count.d : DFn := { ntmps := 18, res := [.t 2], body := (.seq (.region [⟨0, some 2, .move (.k (.c (.int .i64 0))), none⟩]) (.seq (.region [⟨0, some 3, .move (.k (.c (.int .i64 0))), none⟩]) (.seq (.seq (.region [⟨0, some 4, .move (.k (.c (.int .i64 0))), none⟩]) (.block 0 hodmanref8_Count.c17)) hodmanref8_Count.c22))) }
def hodmanref8_Count.k22 (M : Mach) (C : Call) : Kont := execC M.j C (M.ag C) hodmanref8_Count.c22 ({ exits := [], ret := retK hodmanref8_Count.d } : Env) (retK hodmanref8_Count.d)
def hodmanref8_Count.e18 (M : Mach) (C : Call) : Env := { exits := (0, (hodmanref8_Count.k22 M C)) :: (({ exits := [], ret := retK hodmanref8_Count.d } : Env)).exits, ret := (({ exits := [], ret := retK hodmanref8_Count.d } : Env)).ret }
def hodmanref8_Count.L17 (M : Mach) (C : Call) (l0i : Nat) (l0o : Nat) (l0n : Nat) (n3 : Int) (i4 : Int) (G : GH) : Option Res := M.ag C [0, 3, 4] hodmanref8_Count.c16 (hodmanref8_Count.e18 M C) (hodmanref8_Count.k22 M C) [.v (.c (.sl 1 l0i l0o l0n)), .und, .und, .v (.c (.int .i64 n3)), .v (.c (.int .i64 i4)), .und, .und, .und, .und, .und, .und, .und, .und, .und, .und, .und, .und, .und] G
def hodmanref8_Count.k17 (M : Mach) (C : Call) : Kont := fun tm G => M.ag C [0, 3, 4] hodmanref8_Count.c16 (hodmanref8_Count.e18 M C) (hodmanref8_Count.k22 M C) (restr [0, 3, 4] 0 tm) G
def hodmanref8_Count.J14 (M : Mach) (C : Call) (l0i : Nat) (l0o : Nat) (l0n : Nat) (n3 : Int) (i4 : Int) (G : GH) : Option Res := M.j (execC M.j C (M.ag C) hodmanref8_Count.c14 (hodmanref8_Count.e18 M C) (hodmanref8_Count.k17 M C)) [.v (.c (.sl 1 l0i l0o l0n)), .und, .und, .v (.c (.int .i64 n3)), .v (.c (.int .i64 i4)), .und, .und, .und, .und, .und, .und, .und, .und, .und, .und, .und, .und, .und] G
theorem hodmanref8_Count.L17_eq (M : Mach) (C : Call) (l0i : Nat) (l0o : Nat) (l0n : Nat) (n3 : Int) (i4 : Int) (G : GH) : hodmanref8_Count.L17 M C l0i l0o l0n n3 i4 G = (bif decide (i4 < ((l0n : Nat) : Int)) then guardK (decide (0 ≤ i4 ∧ i4 < ((l0n : Nat) : Int))) (((G.ld l0i (l0o + Int.toNat i4 * 1)).bind Cell.asB).bind fun qb_1 => bif qb_1 then hodmanref8_Count.J14 M C l0i l0o l0n (IntKind.i64.wrap (n3 + 1)) i4 G else hodmanref8_Count.J14 M C l0i l0o l0n n3 i4 G) else some ([.c (.int .i64 n3)], G)) := (M.hs _ _ _ _ _ _ _).trans (by kernel_rfl)
theorem hodmanref8_Count.J14_eq (M : Mach) (C : Call) (l0i : Nat) (l0o : Nat) (l0n : Nat) (n3 : Int) (i4 : Int) (G : GH) : hodmanref8_Count.J14 M C l0i l0o l0n n3 i4 G = (hodmanref8_Count.L17 M C l0i l0o l0n n3 (IntKind.i64.wrap (i4 + 1)) G) := (M.hj _ _ _).trans (by kernel_rfl)
def hodmanref8_Count.f (M : Mach) (C : Call) (l0i : Nat) (l0o : Nat) (l0n : Nat) (G : GH) : Option Res := hodmanref8_Count.L17 M C l0i l0o l0n 0 0 G
theorem hodmanref8_Count.eq (M : Mach) (C : Call) (l0i : Nat) (l0o : Nat) (l0n : Nat) (G : GH) : runF M C hodmanref8_Count.d [.c (.sl 1 l0i l0o l0n)] G = hodmanref8_Count.f M C l0i l0o l0n G := by kernel_rfl

/- 74 hodman/calc.Log -/
def calc_Log.c6 : DCode := (.cond (.t 12) (.seq (.region [⟨0, some 2, .move (.k (.c (.int .i64 0))), none⟩,
    ⟨1, some 3, .move (.k (.c (.bool false))), none⟩]) .ret) .skip)
def calc_Log.c17 : DCode := (.seq (.seq (.region [⟨0, some 13, .move (.t 0), none⟩,
    ⟨1, some 14, .cmp .gtr .i64 (.t 13) (.k (.c (.int .i64 1))), none⟩]) (.cond (.t 14) .skip (.exit 0))) (.block 1 (.seq (.region [⟨0, some 15, .move (.t 0), none⟩,
    ⟨1, some 16, .bin .shr .i64 (.t 15) (.k (.c (.int .u64 1))), none⟩,
    ⟨2, some 0, .move (.t 16), none⟩]) (.region [⟨0, some 17, .move (.t 2), none⟩,
    ⟨1, some 18, .bin .add .i64 (.t 17) (.k (.c (.int .i64 1))), none⟩,
    ⟨2, some 2, .move (.t 18), none⟩]))))
def calc_Log.c22 : DCode := (.seq (.region [⟨0, some 19, .move (.t 2), none⟩,
    ⟨1, some 2, .move (.t 19), none⟩,
    ⟨2, some 3, .move (.k (.c (.bool true))), none⟩]) .ret)
def calc_Log.c23 : DCode := (.seq (.block 0 (.loop [0, 2] calc_Log.c17)) calc_Log.c22)
def calc_Log.d : DFn := { ntmps := 20, res := [.t 2, .t 3], body := (.seq (.region [⟨0, some 2, .move (.k (.c (.int .i64 0))), none⟩,
    ⟨1, some 3, .move (.k (.c (.bool false))), none⟩]) (.seq (.seq (.region [⟨0, some 4, .move (.t 0), none⟩,
    ⟨1, some 5, .cmp .lss .i64 (.t 4) (.k (.c (.int .i64 1))), none⟩,
    ⟨2, some 6, .move (.t 5), none⟩,
    ⟨3, some 7, .move (.t 0), some (6, false)⟩,
    ⟨4, some 8, .move (.t 0), some (6, false)⟩,
    ⟨5, some 9, .bin .sub .i64 (.t 8) (.k (.c (.int .i64 1))), some (6, false)⟩,
    ⟨6, some 10, .bin .and .i64 (.t 7) (.t 9), some (6, false)⟩,
    ⟨7, some 11, .cmp .neq .i64 (.t 10) (.k (.c (.int .i64 0))), some (6, false)⟩,
    ⟨8, some 12, .pick (.t 6) (.k (.c (.bool true))) (.t 11), none⟩]) (.cut [0, 2, 12] calc_Log.c6)) calc_Log.c23)) }
def calc_Log.k23 (M : Mach) (C : Call) : Kont := execC M.j C (M.ag C) calc_Log.c23 ({ exits := [], ret := retK calc_Log.d } : Env) (retK calc_Log.d)
def calc_Log.J6 (M : Mach) (C : Call) (v0 : Int) (n2 : Int) (t12 : Bool) (G : GH) : Option Res := M.j (execC M.j C (M.ag C) calc_Log.c6 ({ exits := [], ret := retK calc_Log.d } : Env) (calc_Log.k23 M C)) [.v (.c (.int .i64 v0)), .und, .v (.c (.int .i64 n2)), .und, .und, .und, .und, .und, .und, .und, .und, .und, .v (.c (.bool t12)), .und, .und, .und, .und, .und, .und, .und] G
def calc_Log.k22 (M : Mach) (C : Call) : Kont := execC M.j C (M.ag C) calc_Log.c22 ({ exits := [], ret := retK calc_Log.d } : Env) (retK calc_Log.d)
def calc_Log.e19 (M : Mach) (C : Call) : Env := { exits := (0, (calc_Log.k22 M C)) :: (({ exits := [], ret := retK calc_Log.d } : Env)).exits, ret := (({ exits := [], ret := retK calc_Log.d } : Env)).ret }
def calc_Log.L18 (M : Mach) (C : Call) (v0 : Int) (n2 : Int) (G : GH) : Option Res := M.ag C [0, 2] calc_Log.c17 (calc_Log.e19 M C) (calc_Log.k22 M C) [.v (.c (.int .i64 v0)), .und, .v (.c (.int .i64 n2)), .und, .und, .und, .und, .und, .und, .und, .und, .und, .und, .und, .und, .und, .und, .und, .und, .und] G
theorem calc_Log.J6_eq (M : Mach) (C : Call) (v0 : Int) (n2 : Int) (t12 : Bool) (G : GH) : calc_Log.J6 M C v0 n2 t12 G = (bif t12 then some ([.c (.int .i64 0), .c (.bool false)], G) else calc_Log.L18 M C v0 n2 G) := (M.hj _ _ _).trans (by kernel_rfl)
theorem calc_Log.L18_eq (M : Mach) (C : Call) (v0 : Int) (n2 : Int) (G : GH) : calc_Log.L18 M C v0 n2 G = (bif decide (v0 > 1) then calc_Log.L18 M C (Int.fdiv v0 (2 ^ (min (1 : Int).toNat IntKind.i64.bits))) (IntKind.i64.wrap (n2 + 1)) G else some ([.c (.int .i64 n2), .c (.bool true)], G)) := (M.hs _ _ _ _ _ _ _).trans (by kernel_rfl)
def calc_Log.f (M : Mach) (C : Call) (v0 : Int) (G : GH) : Option Res := bif decide (v0 < 1) then calc_Log.J6 M C v0 0 true G else calc_Log.J6 M C v0 0 (!decide (IntKind.i64.wrap (((BitVec.ofInt IntKind.i64.bits v0) &&& (BitVec.ofInt IntKind.i64.bits (IntKind.i64.wrap (v0 - 1)))).toNat : Int) = 0)) G
theorem calc_Log.eq (M : Mach) (C : Call) (v0 : Int) (G : GH) : runF M C calc_Log.d [.c (.int .i64 v0)] G = calc_Log.f M C v0 G := by kernel_rfl

/- 44 hodman/hodmanref1.Log -/
def hodmanref1_Log.c22 : DCode := (.region [⟨0, some 8, .move (.t 5), none⟩,
    ⟨1, some 9, .bin .add .i64 (.t 8) (.k (.c (.int .i64 1))), none⟩,
    ⟨2, some 5, .move (.t 9), none⟩])
def hodmanref1_Log.c24 : DCode := (.seq (.seq (.region [⟨0, some 6, .move (.t 5), none⟩,
    ⟨1, some 7, .cmp .lss .i64 (.t 6) (.k (.c (.int .i64 63))), none⟩]) (.cond (.t 7) .skip (.exit 0))) (.seq (.block 1 (.seq (.seq (.region [⟨0, some 10, .move (.t 4), none⟩,
    ⟨1, some 11, .move (.t 0), none⟩,
    ⟨2, some 12, .cmp .eql .i64 (.t 10) (.t 11), none⟩]) (.cond (.t 12) (.seq (.region [⟨0, some 13, .move (.t 5), none⟩,
    ⟨1, some 2, .move (.t 13), none⟩,
    ⟨2, some 3, .move (.k (.c (.bool true))), none⟩]) .ret) .skip)) (.seq (.region [⟨0, some 14, .move (.t 5), none⟩,
    ⟨1, some 15, .cmp .lss .i64 (.t 14) (.k (.c (.int .i64 62))), none⟩]) (.cond (.t 15) (.region [⟨0, some 16, .move (.t 4), none⟩,
    ⟨1, some 17, .bin .mul .i64 (.t 16) (.k (.c (.int .i64 2))), none⟩,
    ⟨2, some 4, .move (.t 17), none⟩]) .skip)))) (.cut [0, 4, 5] hodmanref1_Log.c22)))
def hodmanref1_Log.c25 : DCode := (.loop [0, 4, 5] hodmanref1_Log.c24)
def hodmanref1_Log.c30 : DCode := (.seq (.region [⟨0, some 2, .move (.k (.c (.int .i64 0))), none⟩,
    ⟨1, some 3, .move (.k (.c (.bool false))), none⟩]) .ret)
def hodmanref1_Log.d : DFn := { ntmps := 18, res := [.t 2, .t 3], body := (.seq (.region [⟨0, some 2, .move (.k (.c (.int .i64 0))), none⟩,
    ⟨1, some 3, .move (.k (.c (.bool false))), none⟩]) (.seq (.region [⟨0, some 4, .move (.k (.c (.int .i64 1))), none⟩]) (.seq (.seq (.region [⟨0, some 5, .move (.k (.c (.int .i64 0))), none⟩]) (.block 0 hodmanref1_Log.c25)) hodmanref1_Log.c30))) }
def hodmanref1_Log.k30 (M : Mach) (C : Call) : Kont := execC M.j C (M.ag C) hodmanref1_Log.c30 ({ exits := [], ret := retK hodmanref1_Log.d } : Env) (retK hodmanref1_Log.d)
def hodmanref1_Log.e26 (M : Mach) (C : Call) : Env := { exits := (0, (hodmanref1_Log.k30 M C)) :: (({ exits := [], ret := retK hodmanref1_Log.d } : Env)).exits, ret := (({ exits := [], ret := retK hodmanref1_Log.d } : Env)).ret }
def hodmanref1_Log.L25 (M : Mach) (C : Call) (v0 : Int) (p4 : Int) (n5 : Int) (G : GH) : Option Res := M.ag C [0, 4, 5] hodmanref1_Log.c24 (hodmanref1_Log.e26 M C) (hodmanref1_Log.k30 M C) [.v (.c (.int .i64 v0)), .und, .und, .und, .v (.c (.int .i64 p4)), .v (.c (.int .i64 n5)), .und, .und, .und, .und, .und, .und, .und, .und, .und, .und, .und, .und] G
def hodmanref1_Log.k25 (M : Mach) (C : Call) : Kont := fun tm G => M.ag C [0, 4, 5] hodmanref1_Log.c24 (hodmanref1_Log.e26 M C) (hodmanref1_Log.k30 M C) (restr [0, 4, 5] 0 tm) G
def hodmanref1_Log.J22 (M : Mach) (C : Call) (v0 : Int) (p4 : Int) (n5 : Int) (G : GH) : Option Res := M.j (execC M.j C (M.ag C) hodmanref1_Log.c22 (hodmanref1_Log.e26 M C) (hodmanref1_Log.k25 M C)) [.v (.c (.int .i64 v0)), .und, .und, .und, .v (.c (.int .i64 p4)), .v (.c (.int .i64 n5)), .und, .und, .und, .und, .und, .und, .und, .und, .und, .und, .und, .und] G
theorem hodmanref1_Log.L25_eq (M : Mach) (C : Call) (v0 : Int) (p4 : Int) (n5 : Int) (G : GH) : hodmanref1_Log.L25 M C v0 p4 n5 G = (bif decide (n5 < 63) then bif decide (p4 = v0) then some ([.c (.int .i64 n5), .c (.bool true)], G) else bif decide (n5 < 62) then hodmanref1_Log.J22 M C v0 (IntKind.i64.wrap (p4 * 2)) n5 G else hodmanref1_Log.J22 M C v0 p4 n5 G else some ([.c (.int .i64 0), .c (.bool false)], G)) := (M.hs _ _ _ _ _ _ _).trans (by kernel_rfl)
theorem hodmanref1_Log.J22_eq (M : Mach) (C : Call) (v0 : Int) (p4 : Int) (n5 : Int) (G : GH) : hodmanref1_Log.J22 M C v0 p4 n5 G = (hodmanref1_Log.L25 M C v0 p4 (IntKind.i64.wrap (n5 + 1)) G) := (M.hj _ _ _).trans (by kernel_rfl)
def hodmanref1_Log.f (M : Mach) (C : Call) (v0 : Int) (G : GH) : Option Res := hodmanref1_Log.L25 M C v0 1 0 G
theorem hodmanref1_Log.eq (M : Mach) (C : Call) (v0 : Int) (G : GH) : runF M C hodmanref1_Log.d [.c (.int .i64 v0)] G = hodmanref1_Log.f M C v0 G := by kernel_rfl

/- 42 hodman/hodmanref1.Up -/
def hodmanref1_Up.c6 : DCode := (.cond (.t 10) (.seq (.region [⟨0, some 2, .move (.k (.c (.int .i64 0))), none⟩,
    ⟨1, some 3, .move (.k (.c (.bool false))), none⟩]) .ret) .skip)
def hodmanref1_Up.c16 : DCode := (.seq (.seq (.region [⟨0, some 11, .move (.t 4), none⟩,
    ⟨1, some 12, .move (.t 0), none⟩,
    ⟨2, some 13, .cmp .lss .i64 (.t 11) (.t 12), none⟩]) (.cond (.t 13) .skip (.exit 0))) (.block 1 (.region [⟨0, some 14, .move (.t 4), none⟩,
    ⟨1, some 15, .bin .mul .i64 (.t 14) (.k (.c (.int .i64 2))), none⟩,
    ⟨2, some 4, .move (.t 15), none⟩])))
def hodmanref1_Up.c21 : DCode := (.seq (.region [⟨0, some 16, .move (.t 4), none⟩,
    ⟨1, some 2, .move (.t 16), none⟩,
    ⟨2, some 3, .move (.k (.c (.bool true))), none⟩]) .ret)
def hodmanref1_Up.c23 : DCode := (.seq (.region [⟨0, some 4, .move (.k (.c (.int .i64 1))), none⟩]) (.seq (.block 0 (.loop [0, 4] hodmanref1_Up.c16)) hodmanref1_Up.c21))
def hodmanref1_Up.d : DFn := { ntmps := 17, res := [.t 2, .t 3], body := (.seq (.region [⟨0, some 2, .move (.k (.c (.int .i64 0))), none⟩,
    ⟨1, some 3, .move (.k (.c (.bool false))), none⟩]) (.seq (.seq (.region [⟨0, some 5, .move (.t 0), none⟩,
    ⟨1, some 6, .cmp .lss .i64 (.t 5) (.k (.c (.int .i64 1))), none⟩,
    ⟨2, some 7, .move (.t 6), none⟩,
    ⟨3, some 8, .move (.t 0), some (7, false)⟩,
    ⟨4, some 9, .cmp .gtr .i64 (.t 8) (.k (.c (.int .i64 4611686018427387904))), some (7, false)⟩,
    ⟨5, some 10, .pick (.t 7) (.k (.c (.bool true))) (.t 9), none⟩]) (.cut [0, 10] hodmanref1_Up.c6)) hodmanref1_Up.c23)) }
def hodmanref1_Up.k23 (M : Mach) (C : Call) : Kont := execC M.j C (M.ag C) hodmanref1_Up.c23 ({ exits := [], ret := retK hodmanref1_Up.d } : Env) (retK hodmanref1_Up.d)
def hodmanref1_Up.J6 (M : Mach) (C : Call) (v0 : Int) (t10 : Bool) (G : GH) : Option Res := M.j (execC M.j C (M.ag C) hodmanref1_Up.c6 ({ exits := [], ret := retK hodmanref1_Up.d } : Env) (hodmanref1_Up.k23 M C)) [.v (.c (.int .i64 v0)), .und, .und, .und, .und, .und, .und, .und, .und, .und, .v (.c (.bool t10)), .und, .und, .und, .und, .und, .und] G
def hodmanref1_Up.k21 (M : Mach) (C : Call) : Kont := execC M.j C (M.ag C) hodmanref1_Up.c21 ({ exits := [], ret := retK hodmanref1_Up.d } : Env) (retK hodmanref1_Up.d)
def hodmanref1_Up.e18 (M : Mach) (C : Call) : Env := { exits := (0, (hodmanref1_Up.k21 M C)) :: (({ exits := [], ret := retK hodmanref1_Up.d } : Env)).exits, ret := (({ exits := [], ret := retK hodmanref1_Up.d } : Env)).ret }
def hodmanref1_Up.L17 (M : Mach) (C : Call) (v0 : Int) (p4 : Int) (G : GH) : Option Res := M.ag C [0, 4] hodmanref1_Up.c16 (hodmanref1_Up.e18 M C) (hodmanref1_Up.k21 M C) [.v (.c (.int .i64 v0)), .und, .und, .und, .v (.c (.int .i64 p4)), .und, .und, .und, .und, .und, .und, .und, .und, .und, .und, .und, .und] G
theorem hodmanref1_Up.J6_eq (M : Mach) (C : Call) (v0 : Int) (t10 : Bool) (G : GH) : hodmanref1_Up.J6 M C v0 t10 G = (bif t10 then some ([.c (.int .i64 0), .c (.bool false)], G) else hodmanref1_Up.L17 M C v0 1 G) := (M.hj _ _ _).trans (by kernel_rfl)
theorem hodmanref1_Up.L17_eq (M : Mach) (C : Call) (v0 : Int) (p4 : Int) (G : GH) : hodmanref1_Up.L17 M C v0 p4 G = (bif decide (p4 < v0) then hodmanref1_Up.L17 M C v0 (IntKind.i64.wrap (p4 * 2)) G else some ([.c (.int .i64 p4), .c (.bool true)], G)) := (M.hs _ _ _ _ _ _ _).trans (by kernel_rfl)
def hodmanref1_Up.f (M : Mach) (C : Call) (v0 : Int) (G : GH) : Option Res := bif decide (v0 < 1) then hodmanref1_Up.J6 M C v0 true G else hodmanref1_Up.J6 M C v0 (decide (v0 > 4611686018427387904)) G
theorem hodmanref1_Up.eq (M : Mach) (C : Call) (v0 : Int) (G : GH) : runF M C hodmanref1_Up.d [.c (.int .i64 v0)] G = hodmanref1_Up.f M C v0 G := by kernel_rfl

/- 61 hodman/hodmanref1.Add -/
def hodmanref1_Add.c6 : DCode := (.cond (.t 23) (.seq (.region [⟨0, some 4, .move (.k (.c (.int .i64 0))), none⟩,
    ⟨1, some 5, .move (.k (.c (.bool false))), none⟩]) .ret) .skip)
def hodmanref1_Add.c10 : DCode := (.seq (.region [⟨0, some 24, .move (.t 0), none⟩,
    ⟨1, some 25, .move (.t 1), none⟩,
    ⟨2, some 26, .bin .add .i64 (.t 24) (.t 25), none⟩,
    ⟨3, some 4, .move (.t 26), none⟩,
    ⟨4, some 5, .move (.k (.c (.bool true))), none⟩]) .ret)
def hodmanref1_Add.d : DFn := { ntmps := 27, res := [.t 4, .t 5], body := (.seq (.region [⟨0, some 4, .move (.k (.c (.int .i64 0))), none⟩,
    ⟨1, some 5, .move (.k (.c (.bool false))), none⟩]) (.seq (.seq (.region [⟨0, some 6, .move (.t 1), none⟩,
    ⟨1, some 7, .cmp .gtr .i64 (.t 6) (.k (.c (.int .i64 0))), none⟩,
    ⟨2, some 8, .move (.t 7), none⟩,
    ⟨3, some 9, .move (.t 0), some (8, true)⟩,
    ⟨4, some 10, .move (.t 1), some (8, true)⟩,
    ⟨5, some 11, .bin .sub .i64 (.k (.c (.int .i64 9223372036854775807))) (.t 10), some (8, true)⟩,
    ⟨6, some 12, .cmp .gtr .i64 (.t 9) (.t 11), some (8, true)⟩,
    ⟨7, some 13, .pick (.t 8) (.t 12) (.k (.c (.bool false))), none⟩,
    ⟨8, some 14, .move (.t 13), none⟩,
    ⟨9, some 15, .move (.t 1), some (14, false)⟩,
    ⟨10, some 16, .cmp .lss .i64 (.t 15) (.k (.c (.int .i64 0))), some (14, false)⟩,
    ⟨11, some 17, .move (.t 16), some (14, false)⟩,
    ⟨12, some 18, .move (.t 0), some (17, true)⟩,
    ⟨13, some 19, .move (.t 1), some (17, true)⟩,
    ⟨14, some 20, .bin .sub .i64 (.k (.c (.int .i64 (-9223372036854775808)))) (.t 19), some (17, true)⟩,
    ⟨15, some 21, .cmp .lss .i64 (.t 18) (.t 20), some (17, true)⟩,
    ⟨16, some 22, .pick (.t 17) (.t 21) (.k (.c (.bool false))), some (14, false)⟩,
    ⟨17, some 23, .pick (.t 14) (.k (.c (.bool true))) (.t 22), none⟩]) (.cut [0, 1, 23] hodmanref1_Add.c6)) hodmanref1_Add.c10)) }
def hodmanref1_Add.k10 (M : Mach) (C : Call) : Kont := execC M.j C (M.ag C) hodmanref1_Add.c10 ({ exits := [], ret := retK hodmanref1_Add.d } : Env) (retK hodmanref1_Add.d)
def hodmanref1_Add.J6 (M : Mach) (C : Call) (a0 : Int) (b1 : Int) (t23 : Bool) (G : GH) : Option Res := M.j (execC M.j C (M.ag C) hodmanref1_Add.c6 ({ exits := [], ret := retK hodmanref1_Add.d } : Env) (hodmanref1_Add.k10 M C)) [.v (.c (.int .i64 a0)), .v (.c (.int .i64 b1)), .und, .und, .und, .und, .und, .und, .und, .und, .und, .und, .und, .und, .und, .und, .und, .und, .und, .und, .und, .und, .und, .v (.c (.bool t23)), .und, .und, .und] G
theorem hodmanref1_Add.J6_eq (M : Mach) (C : Call) (a0 : Int) (b1 : Int) (t23 : Bool) (G : GH) : hodmanref1_Add.J6 M C a0 b1 t23 G = (bif t23 then some ([.c (.int .i64 0), .c (.bool false)], G) else some ([.c (.int .i64 (IntKind.i64.wrap (a0 + b1))), .c (.bool true)], G)) := (M.hj _ _ _).trans (by kernel_rfl)
def hodmanref1_Add.f (M : Mach) (C : Call) (a0 : Int) (b1 : Int) (G : GH) : Option Res := bif decide (b1 > 0) then bif decide (a0 > IntKind.i64.wrap (9223372036854775807 - b1)) then hodmanref1_Add.J6 M C a0 b1 true G else bif decide (b1 < 0) then hodmanref1_Add.J6 M C a0 b1 (decide (a0 < IntKind.i64.wrap ((-9223372036854775808) - b1))) G else hodmanref1_Add.J6 M C a0 b1 false G else bif decide (b1 < 0) then hodmanref1_Add.J6 M C a0 b1 (decide (a0 < IntKind.i64.wrap ((-9223372036854775808) - b1))) G else hodmanref1_Add.J6 M C a0 b1 false G
theorem hodmanref1_Add.eq (M : Mach) (C : Call) (a0 : Int) (b1 : Int) (G : GH) : runF M C hodmanref1_Add.d [.c (.int .i64 a0), .c (.int .i64 b1)] G = hodmanref1_Add.f M C a0 b1 G := by kernel_rfl

/- 75 hodman/calc.Up -/
def calc_Up.c6 : DCode := (.cond (.t 10) (.seq (.region [⟨0, some 2, .move (.k (.c (.int .i64 0))), none⟩,
    ⟨1, some 3, .move (.k (.c (.bool false))), none⟩]) .ret) .skip)
def calc_Up.c16 : DCode := (.seq (.seq (.region [⟨0, some 11, .move (.t 4), none⟩,
    ⟨1, some 12, .move (.t 0), none⟩,
    ⟨2, some 13, .cmp .lss .i64 (.t 11) (.t 12), none⟩]) (.cond (.t 13) .skip (.exit 0))) (.block 1 (.region [⟨0, some 14, .move (.t 4), none⟩,
    ⟨1, some 15, .bin .shl .i64 (.t 14) (.k (.c (.int .u64 1))), none⟩,
    ⟨2, some 4, .move (.t 15), none⟩])))
def calc_Up.c21 : DCode := (.seq (.region [⟨0, some 16, .move (.t 4), none⟩,
    ⟨1, some 2, .move (.t 16), none⟩,
    ⟨2, some 3, .move (.k (.c (.bool true))), none⟩]) .ret)
def calc_Up.c23 : DCode := (.seq (.region [⟨0, some 4, .move (.k (.c (.int .i64 1))), none⟩]) (.seq (.block 0 (.loop [0, 4] calc_Up.c16)) calc_Up.c21))
def calc_Up.d : DFn := { ntmps := 17, res := [.t 2, .t 3], body := (.seq (.region [⟨0, some 2, .move (.k (.c (.int .i64 0))), none⟩,
    ⟨1, some 3, .move (.k (.c (.bool false))), none⟩]) (.seq (.seq (.region [⟨0, some 5, .move (.t 0), none⟩,
    ⟨1, some 6, .cmp .lss .i64 (.t 5) (.k (.c (.int .i64 1))), none⟩,
    ⟨2, some 7, .move (.t 6), none⟩,
    ⟨3, some 8, .move (.t 0), some (7, false)⟩,
    ⟨4, some 9, .cmp .gtr .i64 (.t 8) (.k (.c (.int .i64 4611686018427387904))), some (7, false)⟩,
    ⟨5, some 10, .pick (.t 7) (.k (.c (.bool true))) (.t 9), none⟩]) (.cut [0, 10] calc_Up.c6)) calc_Up.c23)) }
def calc_Up.k23 (M : Mach) (C : Call) : Kont := execC M.j C (M.ag C) calc_Up.c23 ({ exits := [], ret := retK calc_Up.d } : Env) (retK calc_Up.d)
def calc_Up.J6 (M : Mach) (C : Call) (v0 : Int) (t10 : Bool) (G : GH) : Option Res := M.j (execC M.j C (M.ag C) calc_Up.c6 ({ exits := [], ret := retK calc_Up.d } : Env) (calc_Up.k23 M C)) [.v (.c (.int .i64 v0)), .und, .und, .und, .und, .und, .und, .und, .und, .und, .v (.c (.bool t10)), .und, .und, .und, .und, .und, .und] G
def calc_Up.k21 (M : Mach) (C : Call) : Kont := execC M.j C (M.ag C) calc_Up.c21 ({ exits := [], ret := retK calc_Up.d } : Env) (retK calc_Up.d)
def calc_Up.e18 (M : Mach) (C : Call) : Env := { exits := (0, (calc_Up.k21 M C)) :: (({ exits := [], ret := retK calc_Up.d } : Env)).exits, ret := (({ exits := [], ret := retK calc_Up.d } : Env)).ret }
def calc_Up.L17 (M : Mach) (C : Call) (v0 : Int) (p4 : Int) (G : GH) : Option Res := M.ag C [0, 4] calc_Up.c16 (calc_Up.e18 M C) (calc_Up.k21 M C) [.v (.c (.int .i64 v0)), .und, .und, .und, .v (.c (.int .i64 p4)), .und, .und, .und, .und, .und, .und, .und, .und, .und, .und, .und, .und] G
theorem calc_Up.J6_eq (M : Mach) (C : Call) (v0 : Int) (t10 : Bool) (G : GH) : calc_Up.J6 M C v0 t10 G = (bif t10 then some ([.c (.int .i64 0), .c (.bool false)], G) else calc_Up.L17 M C v0 1 G) := (M.hj _ _ _).trans (by kernel_rfl)
theorem calc_Up.L17_eq (M : Mach) (C : Call) (v0 : Int) (p4 : Int) (G : GH) : calc_Up.L17 M C v0 p4 G = (bif decide (p4 < v0) then calc_Up.L17 M C v0 (IntKind.i64.wrap (p4 * 2 ^ (min (1 : Int).toNat IntKind.i64.bits))) G else some ([.c (.int .i64 p4), .c (.bool true)], G)) := (M.hs _ _ _ _ _ _ _).trans (by kernel_rfl)
def calc_Up.f (M : Mach) (C : Call) (v0 : Int) (G : GH) : Option Res := bif decide (v0 < 1) then calc_Up.J6 M C v0 true G else calc_Up.J6 M C v0 (decide (v0 > 4611686018427387904)) G
theorem calc_Up.eq (M : Mach) (C : Call) (v0 : Int) (G : GH) : runF M C calc_Up.d [.c (.int .i64 v0)] G = calc_Up.f M C v0 G := by kernel_rfl

/- 76 slices.Index[[]int,int] -/
def slices_Index_int_int.c19 : DCode := (.seq (.region [⟨0, some 9, .cmp .lss .i64 (.t 8) (.t 7), none⟩]) (.seq (.cond (.t 9) .skip (.exit 0)) (.seq (.block 1 (.seq (.region [⟨0, some 10, .move (.t 8), none⟩,
    ⟨1, some 5, .move (.t 10), none⟩]) (.seq (.region [⟨0, some 11, .move (.t 1), none⟩,
    ⟨1, some 12, .move (.t 0), none⟩,
    ⟨2, some 13, .move (.t 5), none⟩,
    ⟨3, some 14, .iaddr (.t 12) (.t 13) 1, none⟩,
    ⟨4, some 15, .ldG 14 (.c (.int .i64)), none⟩,
    ⟨5, some 16, .cmp .eql .i64 (.t 11) (.t 15), none⟩]) (.cond (.t 16) (.seq (.region [⟨0, some 17, .move (.t 5), none⟩,
    ⟨1, some 4, .move (.t 17), none⟩]) .ret) .skip)))) (.region [⟨0, some 18, .bin .add .i64 (.t 8) (.k (.c (.int .i64 1))), none⟩,
    ⟨1, some 8, .move (.t 18), none⟩]))))
def slices_Index_int_int.c25 : DCode := (.seq (.region [⟨0, some 4, .move (.k (.c (.int .i64 (-1)))), none⟩]) .ret)
def slices_Index_int_int.d : DFn := { ntmps := 19, res := [.t 4], body := (.seq (.region [⟨0, some 4, .move (.k (.c (.int .i64 0))), none⟩]) (.seq (.seq (.region [⟨0, some 6, .move (.t 0), none⟩,
    ⟨1, some 7, .len (.t 6), none⟩,
    ⟨2, some 8, .move (.k (.c (.int .i64 0))), none⟩]) (.block 0 (.loop [0, 1, 7, 8] slices_Index_int_int.c19))) slices_Index_int_int.c25)) }
def slices_Index_int_int.k25 (M : Mach) (C : Call) : Kont := execC M.j C (M.ag C) slices_Index_int_int.c25 ({ exits := [], ret := retK slices_Index_int_int.d } : Env) (retK slices_Index_int_int.d)
def slices_Index_int_int.e21 (M : Mach) (C : Call) : Env := { exits := (0, (slices_Index_int_int.k25 M C)) :: (({ exits := [], ret := retK slices_Index_int_int.d } : Env)).exits, ret := (({ exits := [], ret := retK slices_Index_int_int.d } : Env)).ret }
def slices_Index_int_int.L20 (M : Mach) (C : Call) (s0i : Nat) (s0o : Nat) (s0n : Nat) (v1 : Int) (t7 : Int) (t8 : Int) (G : GH) : Option Res := M.ag C [0, 1, 7, 8] slices_Index_int_int.c19 (slices_Index_int_int.e21 M C) (slices_Index_int_int.k25 M C) [.v (.c (.sl 1 s0i s0o s0n)), .v (.c (.int .i64 v1)), .und, .und, .und, .und, .und, .v (.c (.int .i64 t7)), .v (.c (.int .i64 t8)), .und, .und, .und, .und, .und, .und, .und, .und, .und, .und] G
theorem slices_Index_int_int.L20_eq (M : Mach) (C : Call) (s0i : Nat) (s0o : Nat) (s0n : Nat) (v1 : Int) (t7 : Int) (t8 : Int) (G : GH) : slices_Index_int_int.L20 M C s0i s0o s0n v1 t7 t8 G = (bif decide (t8 < t7) then guardK (decide (0 ≤ t8 ∧ t8 < ((s0n : Nat) : Int))) (((G.ld s0i (s0o + Int.toNat t8 * 1)).bind (Cell.asI .i64)).bind fun qx_1 => bif decide (v1 = qx_1) then some ([.c (.int .i64 t8)], G) else slices_Index_int_int.L20 M C s0i s0o s0n v1 t7 (IntKind.i64.wrap (t8 + 1)) G) else some ([.c (.int .i64 (-1))], G)) := (M.hs _ _ _ _ _ _ _).trans (by kernel_rfl)
def slices_Index_int_int.f (M : Mach) (C : Call) (s0i : Nat) (s0o : Nat) (s0n : Nat) (v1 : Int) (G : GH) : Option Res := slices_Index_int_int.L20 M C s0i s0o s0n v1 ((s0n : Nat) : Int) 0 G
theorem slices_Index_int_int.eq (M : Mach) (C : Call) (s0i : Nat) (s0o : Nat) (s0n : Nat) (v1 : Int) (G : GH) : runF M C slices_Index_int_int.d [.c (.sl 1 s0i s0o s0n), .c (.int .i64 v1)] G = slices_Index_int_int.f M C s0i s0o s0n v1 G := by kernel_rfl

/- 49 hodman/hodmanref1.Many -/
def hodmanref1_Many.d : DFn := { ntmps := 29, res := [.t 8, .t 9], body := (.seq (.region [⟨0, some 4, .boxv 28 [] (.t 0) 8, none⟩,
    ⟨1, some 8, .move (.k (.c (.int .i64 0))), none⟩,
    ⟨2, some 9, .move (.k (.c (.int .i64 0))), none⟩]) (.seq (.region [⟨0, some 13, .ldL 4 28 (.agg [.int .i64, .int .i64, .int .i64, .int .i64, .int .i64, .int .i64, .int .i64, .int .i64]), none⟩,
    ⟨1, some 14, .move (.t 2), none⟩,
    ⟨2, some 15, .move (.t 3), none⟩,
    ⟨3, some 16, .call 60 [.t 13, .t 14, .t 15] [.c (.int .i64), .c (.int .i64)], none⟩,
    ⟨4, some 12, .move (.t 16), none⟩,
    ⟨5, some 17, .ext 12 0, none⟩,
    ⟨6, some 18, .ext 12 1, none⟩,
    ⟨7, some 10, .move (.t 17), none⟩,
    ⟨8, some 11, .move (.t 18), none⟩]) (.seq (.seq (.region [⟨0, some 19, .move (.t 11), none⟩,
    ⟨1, some 20, .cmp .neq .i64 (.t 19) (.k (.c (.int .i64 0))), none⟩]) (.cond (.t 20) (.seq (.region [⟨0, some 21, .move (.t 11), none⟩,
    ⟨1, some 8, .move (.k (.c (.int .i64 0))), none⟩,
    ⟨2, some 9, .move (.t 21), none⟩]) .ret) .skip)) (.seq (.region [⟨0, some 22, .ldL 4 28 (.agg [.int .i64, .int .i64, .int .i64, .int .i64, .int .i64, .int .i64, .int .i64, .int .i64]), none⟩,
    ⟨1, some 23, .move (.t 1), none⟩,
    ⟨2, some 24, .move (.t 10), none⟩,
    ⟨3, some 25, .call 48 [.t 22, .t 23, .t 24, .k (.c (.int .i64 1))] [.c (.int .i64), .c (.int .i64)], none⟩,
    ⟨4, some 26, .ext 25 0, none⟩,
    ⟨5, some 27, .ext 25 1, none⟩,
    ⟨6, some 8, .move (.t 26), none⟩,
    ⟨7, some 9, .move (.t 27), none⟩]) .ret)))) }
def hodmanref1_Many.f (M : Mach) (C : Call) (c0_0 : Int) (c0_1 : Int) (c0_2 : Int) (c0_3 : Int) (c0_4 : Int) (c0_5 : Int) (c0_6 : Int) (c0_7 : Int) (live1 : Int) (n2 : Int) (s3 : Int) (G : GH) : Option Res := (C hodmanref1_Product.id [.agg [.int .i64 c0_0, .int .i64 c0_1, .int .i64 c0_2, .int .i64 c0_3, .int .i64 c0_4, .int .i64 c0_5, .int .i64 c0_6, .int .i64 c0_7], .c (.int .i64 n2), .c (.int .i64 s3)] G).bind fun qr_1 => (((qr_1.1[0]?).bind V1.c?).bind (Cell.asI .i64)).bind fun qx_2 => (((qr_1.1[1]?).bind V1.c?).bind (Cell.asI .i64)).bind fun qx_3 => bif (!decide (qx_3 = 0)) then some ([.c (.int .i64 0), .c (.int .i64 qx_3)], qr_1.2) else (C hodmanref1_New.id [.agg [.int .i64 c0_0, .int .i64 c0_1, .int .i64 c0_2, .int .i64 c0_3, .int .i64 c0_4, .int .i64 c0_5, .int .i64 c0_6, .int .i64 c0_7], .c (.int .i64 live1), .c (.int .i64 qx_2), .c (.int .i64 1)] qr_1.2).bind fun qr_4 => (((qr_4.1[0]?).bind V1.c?).bind (Cell.asI .i64)).bind fun qx_5 => (((qr_4.1[1]?).bind V1.c?).bind (Cell.asI .i64)).bind fun qx_6 => some ([.c (.int .i64 qx_5), .c (.int .i64 qx_6)], qr_4.2)
theorem hodmanref1_Many.eq (M : Mach) (C : Call) (c0_0 : Int) (c0_1 : Int) (c0_2 : Int) (c0_3 : Int) (c0_4 : Int) (c0_5 : Int) (c0_6 : Int) (c0_7 : Int) (live1 : Int) (n2 : Int) (s3 : Int) (G : GH) : runF M C hodmanref1_Many.d [.agg [.int .i64 c0_0, .int .i64 c0_1, .int .i64 c0_2, .int .i64 c0_3, .int .i64 c0_4, .int .i64 c0_5, .int .i64 c0_6, .int .i64 c0_7], .c (.int .i64 live1), .c (.int .i64 n2), .c (.int .i64 s3)] G = hodmanref1_Many.f M C c0_0 c0_1 c0_2 c0_3 c0_4 c0_5 c0_6 c0_7 live1 n2 s3 G := by kernel_rfl

/- 35 hodman/hodmanref17.Find -/
def hodmanref17_Find.c17 : DCode := (.seq (.seq (.region [⟨0, some 6, .move (.t 5), none⟩,
    ⟨1, some 7, .move (.t 0), none⟩,
    ⟨2, some 8, .len (.t 7), none⟩,
    ⟨3, some 9, .cmp .lss .i64 (.t 6) (.t 8), none⟩]) (.cond (.t 9) .skip (.exit 0))) (.seq (.block 1 (.seq (.region [⟨0, some 12, .move (.t 0), none⟩,
    ⟨1, some 13, .move (.t 5), none⟩,
    ⟨2, some 14, .iaddr (.t 12) (.t 13) 3, none⟩,
    ⟨3, some 15, .faddr 14 0, none⟩,
    ⟨4, some 16, .ldG 15 (.c (.int .i64)), none⟩,
    ⟨5, some 17, .move (.t 1), none⟩,
    ⟨6, some 18, .cmp .eql .i64 (.t 16) (.t 17), none⟩]) (.cond (.t 18) (.seq (.region [⟨0, some 19, .move (.t 5), none⟩,
    ⟨1, some 4, .move (.t 19), none⟩]) .ret) .skip))) (.region [⟨0, some 10, .move (.t 5), none⟩,
    ⟨1, some 11, .bin .add .i64 (.t 10) (.k (.c (.int .i64 1))), none⟩,
    ⟨2, some 5, .move (.t 11), none⟩])))
def hodmanref17_Find.c23 : DCode := (.seq (.region [⟨0, some 4, .move (.k (.c (.int .i64 (-1)))), none⟩]) .ret)
def hodmanref17_Find.d : DFn := { ntmps := 20, res := [.t 4], body := (.seq (.region [⟨0, some 4, .move (.k (.c (.int .i64 0))), none⟩]) (.seq (.seq (.region [⟨0, some 5, .move (.k (.c (.int .i64 0))), none⟩]) (.block 0 (.loop [0, 1, 5] hodmanref17_Find.c17))) hodmanref17_Find.c23)) }
def hodmanref17_Find.k23 (M : Mach) (C : Call) : Kont := execC M.j C (M.ag C) hodmanref17_Find.c23 ({ exits := [], ret := retK hodmanref17_Find.d } : Env) (retK hodmanref17_Find.d)
def hodmanref17_Find.e19 (M : Mach) (C : Call) : Env := { exits := (0, (hodmanref17_Find.k23 M C)) :: (({ exits := [], ret := retK hodmanref17_Find.d } : Env)).exits, ret := (({ exits := [], ret := retK hodmanref17_Find.d } : Env)).ret }
def hodmanref17_Find.L18 (M : Mach) (C : Call) (l0i : Nat) (l0o : Nat) (l0n : Nat) (at1 : Int) (i5 : Int) (G : GH) : Option Res := M.ag C [0, 1, 5] hodmanref17_Find.c17 (hodmanref17_Find.e19 M C) (hodmanref17_Find.k23 M C) [.v (.c (.sl 3 l0i l0o l0n)), .v (.c (.int .i64 at1)), .und, .und, .und, .v (.c (.int .i64 i5)), .und, .und, .und, .und, .und, .und, .und, .und, .und, .und, .und, .und, .und, .und] G
theorem hodmanref17_Find.L18_eq (M : Mach) (C : Call) (l0i : Nat) (l0o : Nat) (l0n : Nat) (at1 : Int) (i5 : Int) (G : GH) : hodmanref17_Find.L18 M C l0i l0o l0n at1 i5 G = (bif decide (i5 < ((l0n : Nat) : Int)) then guardK (decide (0 ≤ i5 ∧ i5 < ((l0n : Nat) : Int))) (((G.ld l0i ((l0o + Int.toNat i5 * 3) + 0)).bind (Cell.asI .i64)).bind fun qx_1 => bif decide (qx_1 = at1) then some ([.c (.int .i64 i5)], G) else hodmanref17_Find.L18 M C l0i l0o l0n at1 (IntKind.i64.wrap (i5 + 1)) G) else some ([.c (.int .i64 (-1))], G)) := (M.hs _ _ _ _ _ _ _).trans (by kernel_rfl)
def hodmanref17_Find.f (M : Mach) (C : Call) (l0i : Nat) (l0o : Nat) (l0n : Nat) (at1 : Int) (G : GH) : Option Res := hodmanref17_Find.L18 M C l0i l0o l0n at1 0 G
theorem hodmanref17_Find.eq (M : Mach) (C : Call) (l0i : Nat) (l0o : Nat) (l0n : Nat) (at1 : Int) (G : GH) : runF M C hodmanref17_Find.d [.c (.sl 3 l0i l0o l0n), .c (.int .i64 at1)] G = hodmanref17_Find.f M C l0i l0o l0n at1 G := by kernel_rfl

/- 48 hodman/hodmanref1.New -/
def hodmanref1_New.d : DFn := { ntmps := 30, res := [.t 8, .t 9], body := (.seq (.region [⟨0, some 4, .boxv 29 [23] (.t 0) 8, none⟩,
    ⟨1, some 8, .move (.k (.c (.int .i64 0))), none⟩,
    ⟨2, some 9, .move (.k (.c (.int .i64 0))), none⟩]) (.seq (.region [⟨0, some 13, .ldL 4 29 (.agg [.int .i64, .int .i64, .int .i64, .int .i64, .int .i64, .int .i64, .int .i64, .int .i64]), none⟩,
    ⟨1, some 14, .move (.t 2), none⟩,
    ⟨2, some 15, .move (.t 3), none⟩,
    ⟨3, some 16, .call 59 [.t 13, .t 14, .t 15] [.c (.int .i64), .c (.int .i64)], none⟩,
    ⟨4, some 12, .move (.t 16), none⟩,
    ⟨5, some 17, .ext 12 0, none⟩,
    ⟨6, some 18, .ext 12 1, none⟩,
    ⟨7, some 10, .move (.t 17), none⟩,
    ⟨8, some 11, .move (.t 18), none⟩]) (.seq (.seq (.region [⟨0, some 19, .move (.t 11), none⟩,
    ⟨1, some 20, .cmp .neq .i64 (.t 19) (.k (.c (.int .i64 0))), none⟩]) (.cond (.t 20) (.seq (.region [⟨0, some 21, .move (.t 11), none⟩,
    ⟨1, some 8, .move (.k (.c (.int .i64 0))), none⟩,
    ⟨2, some 9, .move (.t 21), none⟩]) .ret) .skip)) (.seq (.seq (.region [⟨0, some 22, .move (.t 1), none⟩,
    ⟨1, some 23, .faddr 4 2, none⟩,
    ⟨2, some 24, .ldL 23 29 (.c (.int .i64)), none⟩,
    ⟨3, some 25, .move (.t 10), none⟩,
    ⟨4, some 26, .bin .sub .i64 (.t 24) (.t 25), none⟩,
    ⟨5, some 27, .cmp .gtr .i64 (.t 22) (.t 26), none⟩]) (.cond (.t 27) (.seq (.region [⟨0, some 8, .move (.k (.c (.int .i64 0))), none⟩,
    ⟨1, some 9, .move (.k (.c (.int .i64 5))), none⟩]) .ret) .skip)) (.seq (.region [⟨0, some 28, .move (.t 10), none⟩,
    ⟨1, some 8, .move (.t 28), none⟩,
    ⟨2, some 9, .move (.k (.c (.int .i64 0))), none⟩]) .ret))))) }
def hodmanref1_New.f (M : Mach) (C : Call) (c0_0 : Int) (c0_1 : Int) (c0_2 : Int) (c0_3 : Int) (c0_4 : Int) (c0_5 : Int) (c0_6 : Int) (c0_7 : Int) (live1 : Int) (s2 : Int) (a3 : Int) (G : GH) : Option Res := (C hodmanref1_Charge.id [.agg [.int .i64 c0_0, .int .i64 c0_1, .int .i64 c0_2, .int .i64 c0_3, .int .i64 c0_4, .int .i64 c0_5, .int .i64 c0_6, .int .i64 c0_7], .c (.int .i64 s2), .c (.int .i64 a3)] G).bind fun qr_1 => (((qr_1.1[0]?).bind V1.c?).bind (Cell.asI .i64)).bind fun qx_2 => (((qr_1.1[1]?).bind V1.c?).bind (Cell.asI .i64)).bind fun qx_3 => bif (!decide (qx_3 = 0)) then some ([.c (.int .i64 0), .c (.int .i64 qx_3)], qr_1.2) else bif decide (live1 > IntKind.i64.wrap (c0_2 - qx_2)) then some ([.c (.int .i64 0), .c (.int .i64 5)], qr_1.2) else some ([.c (.int .i64 qx_2), .c (.int .i64 0)], qr_1.2)
theorem hodmanref1_New.eq (M : Mach) (C : Call) (c0_0 : Int) (c0_1 : Int) (c0_2 : Int) (c0_3 : Int) (c0_4 : Int) (c0_5 : Int) (c0_6 : Int) (c0_7 : Int) (live1 : Int) (s2 : Int) (a3 : Int) (G : GH) : runF M C hodmanref1_New.d [.agg [.int .i64 c0_0, .int .i64 c0_1, .int .i64 c0_2, .int .i64 c0_3, .int .i64 c0_4, .int .i64 c0_5, .int .i64 c0_6, .int .i64 c0_7], .c (.int .i64 live1), .c (.int .i64 s2), .c (.int .i64 a3)] G = hodmanref1_New.f M C c0_0 c0_1 c0_2 c0_3 c0_4 c0_5 c0_6 c0_7 live1 s2 a3 G := by kernel_rfl

/- 58 (*hodman/same.reader).knows -/
def same_reader_knows.d : DFn := { ntmps := 36, res := [.t 6], body := (.seq (.region [⟨0, some 6, .move (.k (.c (.bool false))), none⟩]) (.seq (.region [⟨0, some 10, .move (.t 0), none⟩,
    ⟨1, some 11, .nilck (.t 10), none⟩,
    ⟨2, some 12, .faddr 11 8, none⟩,
    ⟨3, some 13, .ldG 12 (.c (.map)), none⟩,
    ⟨4, some 14, .move (.t 1), none⟩,
    ⟨5, some 15, .build [.int .i64 0, .int .i64 0] [(0, 1, .t 14)], none⟩,
    ⟨6, some 16, .lkup (.agg [.int .i64, .int .i64]) (.t 13) (.t 15) (.c (.ptr 0 0)) (.c (.ptr)) true, none⟩,
    ⟨7, some 9, .move (.t 16), none⟩,
    ⟨8, some 17, .ext 9 0, none⟩,
    ⟨9, some 18, .ext 9 1, none⟩,
    ⟨10, some 7, .move (.t 17), none⟩,
    ⟨11, some 8, .move (.t 18), none⟩]) (.seq (.region [⟨0, some 19, .move (.t 8), none⟩,
    ⟨1, some 20, .move (.t 19), none⟩,
    ⟨2, some 21, .move (.t 2), some (20, true)⟩,
    ⟨3, some 22, .move (.t 7), some (20, true)⟩,
    ⟨4, some 23, .nilck (.t 22), some (20, true)⟩,
    ⟨5, some 24, .faddr 23 1, some (20, true)⟩,
    ⟨6, some 25, .ldG 24 (.c (.int .i64)), some (20, true)⟩,
    ⟨7, some 26, .cmp .lss .i64 (.t 21) (.t 25), some (20, true)⟩,
    ⟨8, some 27, .move (.t 26), some (20, true)⟩,
    ⟨9, some 28, .move (.t 7), some (27, false)⟩,
    ⟨10, some 29, .nilck (.t 28), some (27, false)⟩,
    ⟨11, some 30, .faddr 29 2, some (27, false)⟩,
    ⟨12, some 31, .ldG 30 (.c (.sl 1)), some (27, false)⟩,
    ⟨13, some 32, .move (.t 2), some (27, false)⟩,
    ⟨14, some 33, .call 71 [.t 31, .t 32] [.c (.bool)], some (27, false)⟩,
    ⟨15, some 34, .pick (.t 27) (.k (.c (.bool true))) (.t 33), some (20, true)⟩,
    ⟨16, some 35, .pick (.t 20) (.t 34) (.k (.c (.bool false))), none⟩,
    ⟨17, some 6, .move (.t 35), none⟩]) .ret))) }
def same_reader_knows.f (M : Mach) (C : Call) (r0i : Nat) (r0o : Nat) (at1 : Int) (n2 : Int) (G : GH) : Option Res := guardK (!Nat.beq r0i 0) (((G.ld r0i (r0o + 8)).bind Cell.asM).bind fun qm_1 => (G.ents0 (.agg [.int .i64, .int .i64]) qm_1).bind fun qes_2 => ((((some ((mapGet qes_2 (.agg [.int .i64 at1, .int .i64 0])).getD (.c (.ptr 0 0))))).bind V1.c?).bind Cell.asP).bind fun qp_3 => bif (mapGet qes_2 (.agg [.int .i64 at1, .int .i64 0])).isSome then guardK (!Nat.beq qp_3.1 0) (((G.ld qp_3.1 (qp_3.2 + 1)).bind (Cell.asI .i64)).bind fun qx_4 => bif decide (n2 < qx_4) then some ([.c (.bool true)], G) else guardK (!Nat.beq qp_3.1 0) (((G.ld qp_3.1 (qp_3.2 + 2)).bind (Cell.asS 1)).bind fun qs_5 => (C slices_Contains_int_int.id [.c (.sl 1 qs_5.1 qs_5.2.1 qs_5.2.2), .c (.int .i64 n2)] G).bind fun qr_6 => (((qr_6.1[0]?).bind V1.c?).bind Cell.asB).bind fun qb_7 => some ([.c (.bool qb_7)], qr_6.2))) else some ([.c (.bool false)], G))
theorem same_reader_knows.eq (M : Mach) (C : Call) (r0i : Nat) (r0o : Nat) (at1 : Int) (n2 : Int) (G : GH) : runF M C same_reader_knows.d [.c (.ptr r0i r0o), .c (.int .i64 at1), .c (.int .i64 n2)] G = same_reader_knows.f M C r0i r0o at1 n2 G := by kernel_rfl

/- 36 hodman/hodmanref17.wrong -/
def hodmanref17_wrong.d : DFn := { ntmps := 12, res := [.box 4 (some 14), .box 5 (some 8)], body := (.seq (.region [⟨0, some 2, .boxv 9 [] (.t 0) 14, none⟩,
    ⟨1, some 4, .boxz 10 [] [.int .i64 0, .int .i64 0, .int .i64 0, .int .i64 0, .int .i64 0, .int .i64 0, .int .i64 0, .int .i64 0, .sl 3 0 0 0, .int .i64 0, .int .i64 0, .int .i64 0, .sl 1 0 0 0, .sl 1 0 0 0], none⟩,
    ⟨2, some 5, .boxz 11 [] [.int .i64 0, .int .i64 0, .int .i64 0, .int .u8 0, .int .i64 0, .int .i64 0, .int .i64 0, .int .i64 0], none⟩]) (.seq (.region [⟨0, some 6, .ldL 2 9 (.agg [.int .i64, .int .i64, .int .i64, .int .i64, .int .i64, .int .i64, .int .i64, .int .i64, .sl 3, .int .i64, .int .i64, .int .i64, .sl 1, .sl 1]), none⟩,
    ⟨1, some 7, .move (.t 1), none⟩,
    ⟨2, some 8, .build [.int .i64 0, .int .i64 0, .int .i64 0, .int .u8 0, .int .i64 0, .int .i64 0, .int .i64 0, .int .i64 0] [(0, 1, .t 7)], none⟩,
    ⟨3, none, .stL 4 10 (.t 6) 14, none⟩,
    ⟨4, none, .stL 5 11 (.t 8) 8, none⟩]) .ret)) }
def hodmanref17_wrong.f (M : Mach) (C : Call) (m0_0 : Int) (m0_1 : Int) (m0_2 : Int) (m0_3 : Int) (m0_4 : Int) (m0_5 : Int) (m0_6 : Int) (m0_7 : Int) (m0_8i : Nat) (m0_8o : Nat) (m0_8n : Nat) (m0_9 : Int) (m0_10 : Int) (m0_11 : Int) (m0_12i : Nat) (m0_12o : Nat) (m0_12n : Nat) (m0_13i : Nat) (m0_13o : Nat) (m0_13n : Nat) (e1 : Int) (G : GH) : Option Res := some ([.agg [.int .i64 m0_0, .int .i64 m0_1, .int .i64 m0_2, .int .i64 m0_3, .int .i64 m0_4, .int .i64 m0_5, .int .i64 m0_6, .int .i64 m0_7, .sl 3 m0_8i m0_8o m0_8n, .int .i64 m0_9, .int .i64 m0_10, .int .i64 m0_11, .sl 1 m0_12i m0_12o m0_12n, .sl 1 m0_13i m0_13o m0_13n], .agg [.int .i64 e1, .int .i64 0, .int .i64 0, .int .u8 0, .int .i64 0, .int .i64 0, .int .i64 0, .int .i64 0]], G)
theorem hodmanref17_wrong.eq (M : Mach) (C : Call) (m0_0 : Int) (m0_1 : Int) (m0_2 : Int) (m0_3 : Int) (m0_4 : Int) (m0_5 : Int) (m0_6 : Int) (m0_7 : Int) (m0_8i : Nat) (m0_8o : Nat) (m0_8n : Nat) (m0_9 : Int) (m0_10 : Int) (m0_11 : Int) (m0_12i : Nat) (m0_12o : Nat) (m0_12n : Nat) (m0_13i : Nat) (m0_13o : Nat) (m0_13n : Nat) (e1 : Int) (G : GH) : runF M C hodmanref17_wrong.d [.agg [.int .i64 m0_0, .int .i64 m0_1, .int .i64 m0_2, .int .i64 m0_3, .int .i64 m0_4, .int .i64 m0_5, .int .i64 m0_6, .int .i64 m0_7, .sl 3 m0_8i m0_8o m0_8n, .int .i64 m0_9, .int .i64 m0_10, .int .i64 m0_11, .sl 1 m0_12i m0_12o m0_12n, .sl 1 m0_13i m0_13o m0_13n], .c (.int .i64 e1)] G = hodmanref17_wrong.f M C m0_0 m0_1 m0_2 m0_3 m0_4 m0_5 m0_6 m0_7 m0_8i m0_8o m0_8n m0_9 m0_10 m0_11 m0_12i m0_12o m0_12n m0_13i m0_13o m0_13n e1 G := by kernel_rfl

/- 53 hodman/hodmanref1.Anew -/
def hodmanref1_Anew.d : DFn := { ntmps := 19, res := [.t 8, .t 9], body := (.seq (.region [⟨0, some 4, .boxv 18 [] (.t 0) 8, none⟩,
    ⟨1, some 8, .move (.k (.c (.int .i64 0))), none⟩,
    ⟨2, some 9, .move (.k (.c (.int .i64 0))), none⟩]) (.seq (.region [⟨0, some 10, .ldL 4 18 (.agg [.int .i64, .int .i64, .int .i64, .int .i64, .int .i64, .int .i64, .int .i64, .int .i64]), none⟩,
    ⟨1, some 11, .move (.t 1), none⟩,
    ⟨2, some 12, .move (.t 2), none⟩,
    ⟨3, some 13, .bin .sub .i64 (.t 11) (.t 12), none⟩,
    ⟨4, some 14, .move (.t 3), none⟩,
    ⟨5, some 15, .call 48 [.t 10, .t 13, .t 14, .k (.c (.int .i64 1))] [.c (.int .i64), .c (.int .i64)], none⟩,
    ⟨6, some 16, .ext 15 0, none⟩,
    ⟨7, some 17, .ext 15 1, none⟩,
    ⟨8, some 8, .move (.t 16), none⟩,
    ⟨9, some 9, .move (.t 17), none⟩]) .ret)) }
def hodmanref1_Anew.f (M : Mach) (C : Call) (c0_0 : Int) (c0_1 : Int) (c0_2 : Int) (c0_3 : Int) (c0_4 : Int) (c0_5 : Int) (c0_6 : Int) (c0_7 : Int) (live1 : Int) (old2 : Int) (s3 : Int) (G : GH) : Option Res := (C hodmanref1_New.id [.agg [.int .i64 c0_0, .int .i64 c0_1, .int .i64 c0_2, .int .i64 c0_3, .int .i64 c0_4, .int .i64 c0_5, .int .i64 c0_6, .int .i64 c0_7], .c (.int .i64 (IntKind.i64.wrap (live1 - old2))), .c (.int .i64 s3), .c (.int .i64 1)] G).bind fun qr_1 => (((qr_1.1[0]?).bind V1.c?).bind (Cell.asI .i64)).bind fun qx_2 => (((qr_1.1[1]?).bind V1.c?).bind (Cell.asI .i64)).bind fun qx_3 => some ([.c (.int .i64 qx_2), .c (.int .i64 qx_3)], qr_1.2)
theorem hodmanref1_Anew.eq (M : Mach) (C : Call) (c0_0 : Int) (c0_1 : Int) (c0_2 : Int) (c0_3 : Int) (c0_4 : Int) (c0_5 : Int) (c0_6 : Int) (c0_7 : Int) (live1 : Int) (old2 : Int) (s3 : Int) (G : GH) : runF M C hodmanref1_Anew.d [.agg [.int .i64 c0_0, .int .i64 c0_1, .int .i64 c0_2, .int .i64 c0_3, .int .i64 c0_4, .int .i64 c0_5, .int .i64 c0_6, .int .i64 c0_7], .c (.int .i64 live1), .c (.int .i64 old2), .c (.int .i64 s3)] G = hodmanref1_Anew.f M C c0_0 c0_1 c0_2 c0_3 c0_4 c0_5 c0_6 c0_7 live1 old2 s3 G := by kernel_rfl

/- 52 hodman/hodmanref8.Over -/
def hodmanref8_Over.d : DFn := { ntmps := 25, res := [.t 4], body := (.seq (.region [⟨0, some 2, .boxv 23 [5, 16, 18] (.t 0) 2, none⟩,
    ⟨1, some 3, .boxv 24 [7, 9, 14] (.t 1) 2, none⟩,
    ⟨2, some 4, .move (.k (.c (.bool false))), none⟩]) (.seq (.region [⟨0, some 5, .faddr 2 0, none⟩,
    ⟨1, some 6, .ldL 5 23 (.c (.int .i64)), none⟩,
    ⟨2, some 7, .faddr 3 0, none⟩,
    ⟨3, some 8, .ldL 7 24 (.c (.int .i64)), none⟩,
    ⟨4, some 9, .faddr 3 1, none⟩,
    ⟨5, some 10, .ldL 9 24 (.c (.int .i64)), none⟩,
    ⟨6, some 11, .bin .add .i64 (.t 8) (.t 10), none⟩,
    ⟨7, some 12, .cmp .lss .i64 (.t 6) (.t 11), none⟩,
    ⟨8, some 13, .move (.t 12), none⟩,
    ⟨9, some 14, .faddr 3 0, some (13, true)⟩,
    ⟨10, some 15, .ldL 14 24 (.c (.int .i64)), some (13, true)⟩,
    ⟨11, some 16, .faddr 2 0, some (13, true)⟩,
    ⟨12, some 17, .ldL 16 23 (.c (.int .i64)), some (13, true)⟩,
    ⟨13, some 18, .faddr 2 1, some (13, true)⟩,
    ⟨14, some 19, .ldL 18 23 (.c (.int .i64)), some (13, true)⟩,
    ⟨15, some 20, .bin .add .i64 (.t 17) (.t 19), some (13, true)⟩,
    ⟨16, some 21, .cmp .lss .i64 (.t 15) (.t 20), some (13, true)⟩,
    ⟨17, some 22, .pick (.t 13) (.t 21) (.k (.c (.bool false))), none⟩,
    ⟨18, some 4, .move (.t 22), none⟩]) .ret)) }
def hodmanref8_Over.f (M : Mach) (C : Call) (a0_0 : Int) (a0_1 : Int) (b1_0 : Int) (b1_1 : Int) (G : GH) : Option Res := bif decide (a0_0 < IntKind.i64.wrap (b1_0 + b1_1)) then some ([.c (.bool (decide (b1_0 < IntKind.i64.wrap (a0_0 + a0_1))))], G) else some ([.c (.bool false)], G)
theorem hodmanref8_Over.eq (M : Mach) (C : Call) (a0_0 : Int) (a0_1 : Int) (b1_0 : Int) (b1_1 : Int) (G : GH) : runF M C hodmanref8_Over.d [.agg [.int .i64 a0_0, .int .i64 a0_1], .agg [.int .i64 b1_0, .int .i64 b1_1]] G = hodmanref8_Over.f M C a0_0 a0_1 b1_0 b1_1 G := by kernel_rfl

/- 73 hodman/hodmanref8.Byte -/
def hodmanref8_Byte.d : DFn := { ntmps := 20, res := [.t 6], body := (.seq (.region [⟨0, some 6, .move (.k (.c (.int .u8 0))), none⟩]) (.seq (.region [⟨0, some 7, .move (.t 0), none⟩,
    ⟨1, some 8, .bin .rem .i64 (.t 7) (.k (.c (.int .i64 256))), none⟩,
    ⟨2, some 9, .move (.t 1), none⟩,
    ⟨3, some 10, .bin .rem .i64 (.t 9) (.k (.c (.int .i64 256))), none⟩,
    ⟨4, some 11, .bin .mul .i64 (.k (.c (.int .i64 31))) (.t 10), none⟩,
    ⟨5, some 12, .bin .add .i64 (.t 8) (.t 11), none⟩,
    ⟨6, some 13, .move (.t 2), none⟩,
    ⟨7, some 14, .bin .rem .i64 (.t 13) (.k (.c (.int .i64 256))), none⟩,
    ⟨8, some 15, .bin .mul .i64 (.k (.c (.int .i64 7))) (.t 14), none⟩,
    ⟨9, some 16, .bin .add .i64 (.t 12) (.t 15), none⟩,
    ⟨10, some 17, .bin .add .i64 (.t 16) (.k (.c (.int .i64 1))), none⟩,
    ⟨11, some 18, .bin .rem .i64 (.t 17) (.k (.c (.int .i64 256))), none⟩,
    ⟨12, some 19, .conv .u8 (.t 18), none⟩,
    ⟨13, some 6, .move (.t 19), none⟩]) .ret)) }
def hodmanref8_Byte.f (M : Mach) (C : Call) (seed0 : Int) (page1 : Int) (i2 : Int) (G : GH) : Option Res := some ([.c (.int .u8 (IntKind.u8.wrap (Int.tmod (IntKind.i64.wrap ((IntKind.i64.wrap ((IntKind.i64.wrap ((Int.tmod seed0 256) + (IntKind.i64.wrap (31 * (Int.tmod page1 256))))) + (IntKind.i64.wrap (7 * (Int.tmod i2 256))))) + 1)) 256)))], G)
theorem hodmanref8_Byte.eq (M : Mach) (C : Call) (seed0 : Int) (page1 : Int) (i2 : Int) (G : GH) : runF M C hodmanref8_Byte.d [.c (.int .i64 seed0), .c (.int .i64 page1), .c (.int .i64 i2)] G = hodmanref8_Byte.f M C seed0 page1 i2 G := by kernel_rfl

/- 29 (*hodman/hodmanplay.Picks).Over -/
def hodmanplay_Picks_Over.d : DFn := { ntmps := 13, res := [.t 2], body := (.seq (.region [⟨0, some 2, .move (.k (.c (.bool false))), none⟩]) (.seq (.region [⟨0, some 3, .move (.t 0), none⟩,
    ⟨1, some 4, .nilck (.t 3), none⟩,
    ⟨2, some 5, .faddr 4 1, none⟩,
    ⟨3, some 6, .ldG 5 (.c (.int .i64)), none⟩,
    ⟨4, some 7, .move (.t 0), none⟩,
    ⟨5, some 8, .nilck (.t 7), none⟩,
    ⟨6, some 9, .faddr 8 0, none⟩,
    ⟨7, some 10, .ldG 9 (.c (.sl 1)), none⟩,
    ⟨8, some 11, .len (.t 10), none⟩,
    ⟨9, some 12, .cmp .geq .i64 (.t 6) (.t 11), none⟩,
    ⟨10, some 2, .move (.t 12), none⟩]) .ret)) }
def hodmanplay_Picks_Over.f (M : Mach) (C : Call) (p0i : Nat) (p0o : Nat) (G : GH) : Option Res := guardK (!Nat.beq p0i 0) (((G.ld p0i (p0o + 1)).bind (Cell.asI .i64)).bind fun qx_1 => guardK (!Nat.beq p0i 0) (((G.ld p0i (p0o + 0)).bind (Cell.asS 1)).bind fun qs_2 => some ([.c (.bool (decide (qx_1 ≥ ((qs_2.2.2 : Nat) : Int))))], G)))
theorem hodmanplay_Picks_Over.eq (M : Mach) (C : Call) (p0i : Nat) (p0o : Nat) (G : GH) : runF M C hodmanplay_Picks_Over.d [.c (.ptr p0i p0o)] G = hodmanplay_Picks_Over.f M C p0i p0o G := by kernel_rfl

/- 71 slices.Contains[[]int,int] -/
def slices_Contains_int_int.d : DFn := { ntmps := 9, res := [.t 4], body := (.seq (.region [⟨0, some 4, .move (.k (.c (.bool false))), none⟩]) (.seq (.region [⟨0, some 5, .move (.t 0), none⟩,
    ⟨1, some 6, .move (.t 1), none⟩,
    ⟨2, some 7, .call 76 [.t 5, .t 6] [.c (.int .i64)], none⟩,
    ⟨3, some 8, .cmp .geq .i64 (.t 7) (.k (.c (.int .i64 0))), none⟩,
    ⟨4, some 4, .move (.t 8), none⟩]) .ret)) }
def slices_Contains_int_int.f (M : Mach) (C : Call) (s0i : Nat) (s0o : Nat) (s0n : Nat) (v1 : Int) (G : GH) : Option Res := (C slices_Index_int_int.id [.c (.sl 1 s0i s0o s0n), .c (.int .i64 v1)] G).bind fun qr_1 => (((qr_1.1[0]?).bind V1.c?).bind (Cell.asI .i64)).bind fun qx_2 => some ([.c (.bool (decide (qx_2 ≥ 0)))], qr_1.2)
theorem slices_Contains_int_int.eq (M : Mach) (C : Call) (s0i : Nat) (s0o : Nat) (s0n : Nat) (v1 : Int) (G : GH) : runF M C slices_Contains_int_int.d [.c (.sl 1 s0i s0o s0n), .c (.int .i64 v1)] G = slices_Contains_int_int.f M C s0i s0o s0n v1 G := by kernel_rfl

/- 26 hodman/same.Same -/
def same_Same.d : DFn := { ntmps := 8, res := [.t 4], body := (.seq (.region [⟨0, some 4, .move (.k (.c (.bool false))), none⟩]) (.seq (.region [⟨0, some 5, .move (.t 0), none⟩,
    ⟨1, some 6, .move (.t 1), none⟩,
    ⟨2, some 7, .call 41 [.t 5, .t 6] [.c (.bool)], none⟩,
    ⟨3, some 4, .move (.t 7), none⟩]) .ret)) }
def same_Same.f (M : Mach) (C : Call) (a0i : Nat) (a0o : Nat) (a0n : Nat) (b1i : Nat) (b1o : Nat) (b1n : Nat) (G : GH) : Option Res := (C api_Ans.id [.c (.sl 8 a0i a0o a0n), .c (.sl 8 b1i b1o b1n)] G).bind fun qr_1 => (((qr_1.1[0]?).bind V1.c?).bind Cell.asB).bind fun qb_2 => some ([.c (.bool qb_2)], qr_1.2)
theorem same_Same.eq (M : Mach) (C : Call) (a0i : Nat) (a0o : Nat) (a0n : Nat) (b1i : Nat) (b1o : Nat) (b1n : Nat) (G : GH) : runF M C same_Same.d [.c (.sl 8 a0i a0o a0n), .c (.sl 8 b1i b1o b1n)] G = same_Same.f M C a0i a0o a0n b1i b1o b1n G := by kernel_rfl

/- 13 hodman/hodmanplay.Made -/
def hodmanplay_Made.d : DFn := { ntmps := 6, res := [.t 2], body := (.seq (.region [⟨0, some 2, .move (.k (.c (.ptr 0 0))), none⟩]) (.seq (.region [⟨0, some 3, .move (.t 0), none⟩,
    ⟨1, some 4, .build [.sl 1 0 0 0, .int .i64 0] [(0, 1, .t 3)], none⟩,
    ⟨2, some 5, .newv (.t 4) 2, none⟩,
    ⟨3, some 2, .move (.t 5), none⟩]) .ret)) }
def hodmanplay_Made.f (M : Mach) (C : Call) (l0i : Nat) (l0o : Nat) (l0n : Nat) (G : GH) : Option Res := let qG_1 := G.alloc (.row [.sl 1 l0i l0o l0n, .int .i64 0] false); some ([.c (.ptr G.next 0)], qG_1)
theorem hodmanplay_Made.eq (M : Mach) (C : Call) (l0i : Nat) (l0o : Nat) (l0n : Nat) (G : GH) : runF M C hodmanplay_Made.d [.c (.sl 1 l0i l0o l0n)] G = hodmanplay_Made.f M C l0i l0o l0n G := by kernel_rfl
end Go.Proofs.D
