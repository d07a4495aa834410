/- Texts of the proof (T3); no condition. -/
import Derived.Test.YtdanddamihficaaSameRowsa
import Derived.KernelRfl
set_option linter.unusedSimpArgs false
set_option linter.unusedVariables false
set_option linter.unusedVariables false
set_option maxRecDepth 100000
namespace Go.Proofs.D
open Go
/- 51 hodman/hodmanref8.Zero -/
def hodmanref8_Zero.c19 : DCode := (.seq (.seq (.region [⟨0, some 19, .move (.t 9), none⟩,
    ⟨1, some 20, .move (.t 2), none⟩,
    ⟨2, some 21, .cmp .lss .i64 (.t 19) (.t 20), none⟩]) (.cond (.t 21) .skip (.exit 0))) (.seq (.block 1 (.region [⟨0, some 24, .move (.t 8), none⟩,
    ⟨1, some 25, .move (.t 1), none⟩,
    ⟨2, some 26, .move (.t 9), none⟩,
    ⟨3, some 27, .bin .add .i64 (.t 25) (.t 26), none⟩,
    ⟨4, some 28, .iaddr (.t 24) (.t 27) 1, none⟩,
    ⟨5, none, .stG 28 (.k (.c (.int .u8 0))) 1, none⟩])) (.region [⟨0, some 22, .move (.t 9), none⟩,
    ⟨1, some 23, .bin .add .i64 (.t 22) (.k (.c (.int .i64 1))), none⟩,
    ⟨2, some 9, .move (.t 23), none⟩])))
def hodmanref8_Zero.c25 : DCode := (.seq (.region [⟨0, some 29, .move (.t 8), none⟩,
    ⟨1, some 6, .move (.t 29), none⟩,
    ⟨2, some 7, .move (.k (.c (.bool true))), none⟩]) .ret)
def hodmanref8_Zero.d : DFn := { ntmps := 30, res := [.t 6, .t 7], body := (.seq (.region [⟨0, some 6, .move (.k (.c (.sl 1 0 0 0))), none⟩,
    ⟨1, some 7, .move (.k (.c (.bool false))), none⟩]) (.seq (.seq (.region [⟨0, some 10, .move (.t 0), none⟩,
    ⟨1, some 11, .move (.t 1), none⟩,
    ⟨2, some 12, .move (.t 2), none⟩,
    ⟨3, some 13, .call 68 [.t 10, .t 11, .t 12] [.c (.bool)], none⟩,
    ⟨4, some 14, .not (.t 13), none⟩]) (.cond (.t 14) (.seq (.region [⟨0, some 15, .move (.t 0), none⟩,
    ⟨1, some 6, .move (.t 15), none⟩,
    ⟨2, some 7, .move (.k (.c (.bool false))), none⟩]) .ret) .skip)) (.seq (.region [⟨0, some 16, .bslice 0 1 [] [], none⟩,
    ⟨1, some 17, .move (.t 0), none⟩,
    ⟨2, some 18, .app (.t 16) (.t 17) 1 1, none⟩,
    ⟨3, some 8, .move (.t 18), none⟩]) (.seq (.seq (.region [⟨0, some 9, .move (.k (.c (.int .i64 0))), none⟩]) (.block 0 (.loop [1, 2, 8, 9] hodmanref8_Zero.c19))) hodmanref8_Zero.c25)))) }
def hodmanref8_Zero.k25 (M : Mach) (C : Call) : Kont := execC M.j C (M.ag C) hodmanref8_Zero.c25 ({ exits := [], ret := retK hodmanref8_Zero.d } : Env) (retK hodmanref8_Zero.d)
def hodmanref8_Zero.e21 (M : Mach) (C : Call) : Env := { exits := (0, (hodmanref8_Zero.k25 M C)) :: (({ exits := [], ret := retK hodmanref8_Zero.d } : Env)).exits, ret := (({ exits := [], ret := retK hodmanref8_Zero.d } : Env)).ret }
def hodmanref8_Zero.L20 (M : Mach) (C : Call) (at1 : Int) (n2 : Int) (out8i : Nat) (out8o : Nat) (out8n : Nat) (i9 : Int) (G : GH) : Option Res := M.ag C [1, 2, 8, 9] hodmanref8_Zero.c19 (hodmanref8_Zero.e21 M C) (hodmanref8_Zero.k25 M C) [.und, .v (.c (.int .i64 at1)), .v (.c (.int .i64 n2)), .und, .und, .und, .und, .und, .v (.c (.sl 1 out8i out8o out8n)), .v (.c (.int .i64 i9)), .und, .und, .und, .und, .und, .und, .und, .und, .und, .und, .und, .und, .und, .und, .und, .und, .und, .und, .und, .und] G
theorem hodmanref8_Zero.L20_eq (M : Mach) (C : Call) (at1 : Int) (n2 : Int) (out8i : Nat) (out8o : Nat) (out8n : Nat) (i9 : Int) (G : GH) : hodmanref8_Zero.L20 M C at1 n2 out8i out8o out8n i9 G = (bif decide (i9 < n2) then guardK (decide (0 ≤ IntKind.i64.wrap (at1 + i9) ∧ IntKind.i64.wrap (at1 + i9) < ((out8n : Nat) : Int))) ((G.sts out8i (out8o + Int.toNat (IntKind.i64.wrap (at1 + i9)) * 1) [.int .u8 0]).bind fun qG_6 => hodmanref8_Zero.L20 M C at1 n2 out8i out8o out8n (IntKind.i64.wrap (i9 + 1)) qG_6) else some ([.c (.sl 1 out8i out8o out8n), .c (.bool true)], G)) := (M.hs _ _ _ _ _ _ _).trans (by kernel_rfl)
def hodmanref8_Zero.f (M : Mach) (C : Call) (mem0i : Nat) (mem0o : Nat) (mem0n : Nat) (at1 : Int) (n2 : Int) (G : GH) : Option Res := (C hodmanref8_there.id [.c (.sl 1 mem0i mem0o mem0n), .c (.int .i64 at1), .c (.int .i64 n2)] G).bind fun qr_1 => (((qr_1.1[0]?).bind V1.c?).bind Cell.asB).bind fun qb_2 => bif (!qb_2) then some ([.c (.sl 1 mem0i mem0o mem0n), .c (.bool false)], qr_1.2) else let qG_3 := qr_1.2.alloc (.row [] false); (if mem0n = 0 then some [] else qG_3.lds mem0i mem0o (mem0n * 1)).bind fun qnew_4 => guardK (decide (0 + mem0n ≤ most)) ((qG_3.app qr_1.2.next 0 0 1 mem0n qnew_4).bind fun qp_5 => hodmanref8_Zero.L20 M C at1 n2 qp_5.1 qp_5.2.1 (0 + mem0n) 0 qp_5.2.2)
theorem hodmanref8_Zero.eq (M : Mach) (C : Call) (mem0i : Nat) (mem0o : Nat) (mem0n : Nat) (at1 : Int) (n2 : Int) (G : GH) : runF M C hodmanref8_Zero.d [.c (.sl 1 mem0i mem0o mem0n), .c (.int .i64 at1), .c (.int .i64 n2)] G = hodmanref8_Zero.f M C mem0i mem0o mem0n at1 n2 G := by kernel_rfl

/- 34 hodman/hodmanref8.Count -/
def hodmanref8_Count.c14 : DCode := (.region [⟨0, some 9, .move (.t 4), none⟩,
    ⟨1, some 10, .bin .add .i64 (.t 9) (.k (.c (.int .i64 1))), none⟩,
    ⟨2, some 4, .move (.t 10), none⟩])
def hodmanref8_Count.c16 : DCode := (.seq (.seq (.region [⟨0, some 5, .move (.t 4), none⟩,
    ⟨1, some 6, .move (.t 0), none⟩,
    ⟨2, some 7, .len (.t 6), none⟩,
    ⟨3, some 8, .cmp .lss .i64 (.t 5) (.t 7), none⟩]) (.cond (.t 8) .skip (.exit 0))) (.seq (.block 1 (.seq (.region [⟨0, some 11, .move (.t 0), none⟩,
    ⟨1, some 12, .move (.t 4), none⟩,
    ⟨2, some 13, .iaddr (.t 11) (.t 12) 1, none⟩,
    ⟨3, some 14, .ldG 13 (.c (.bool)), none⟩]) (.cond (.t 14) (.region [⟨0, some 15, .move (.t 3), none⟩,
    ⟨1, some 16, .bin .add .i64 (.t 15) (.k (.c (.int .i64 1))), none⟩,
    ⟨2, some 3, .move (.t 16), none⟩]) .skip))) (.cut [0, 3, 4] hodmanref8_Count.c14)))
def hodmanref8_Count.c17 : DCode := (.loop [0, 3, 4] hodmanref8_Count.c16)
def hodmanref8_Count.c22 : DCode := (.seq (.region [⟨0, some 17, .move (.t 3), none⟩,
    ⟨1, some 2, .move (.t 17), none⟩]) .ret)
def hodmanref8_Count.d : DFn := { ntmps := 18, res := [.t 2], body := (.seq (.region [⟨0, some 2, .move (.k (.c (.int .i64 0))), none⟩]) (.seq (.region [⟨0, some 3, .move (.k (.c (.int .i64 0))), none⟩]) (.seq (.seq (.region [⟨0, some 4, .move (.k (.c (.int .i64 0))), none⟩]) (.block 0 hodmanref8_Count.c17)) hodmanref8_Count.c22))) }
def hodmanref8_Count.k22 (M : Mach) (C : Call) : Kont := execC M.j C (M.ag C) hodmanref8_Count.c22 ({ exits := [], ret := retK hodmanref8_Count.d } : Env) (retK hodmanref8_Count.d)
def hodmanref8_Count.e18 (M : Mach) (C : Call) : Env := { exits := (0, (hodmanref8_Count.k22 M C)) :: (({ exits := [], ret := retK hodmanref8_Count.d } : Env)).exits, ret := (({ exits := [], ret := retK hodmanref8_Count.d } : Env)).ret }
def hodmanref8_Count.L17 (M : Mach) (C : Call) (l0i : Nat) (l0o : Nat) (l0n : Nat) (n3 : Int) (i4 : Int) (G : GH) : Option Res := M.ag C [0, 3, 4] hodmanref8_Count.c16 (hodmanref8_Count.e18 M C) (hodmanref8_Count.k22 M C) [.v (.c (.sl 1 l0i l0o l0n)), .und, .und, .v (.c (.int .i64 n3)), .v (.c (.int .i64 i4)), .und, .und, .und, .und, .und, .und, .und, .und, .und, .und, .und, .und, .und] G
def hodmanref8_Count.k17 (M : Mach) (C : Call) : Kont := fun tm G => M.ag C [0, 3, 4] hodmanref8_Count.c16 (hodmanref8_Count.e18 M C) (hodmanref8_Count.k22 M C) (restr [0, 3, 4] 0 tm) G
def hodmanref8_Count.J14 (M : Mach) (C : Call) (l0i : Nat) (l0o : Nat) (l0n : Nat) (n3 : Int) (i4 : Int) (G : GH) : Option Res := M.j (execC M.j C (M.ag C) hodmanref8_Count.c14 (hodmanref8_Count.e18 M C) (hodmanref8_Count.k17 M C)) [.v (.c (.sl 1 l0i l0o l0n)), .und, .und, .v (.c (.int .i64 n3)), .v (.c (.int .i64 i4)), .und, .und, .und, .und, .und, .und, .und, .und, .und, .und, .und, .und, .und] G
theorem hodmanref8_Count.L17_eq (M : Mach) (C : Call) (l0i : Nat) (l0o : Nat) (l0n : Nat) (n3 : Int) (i4 : Int) (G : GH) : hodmanref8_Count.L17 M C l0i l0o l0n n3 i4 G = (bif decide (i4 < ((l0n : Nat) : Int)) then guardK (decide (0 ≤ i4 ∧ i4 < ((l0n : Nat) : Int))) (((G.ld l0i (l0o + Int.toNat i4 * 1)).bind Cell.asB).bind fun qb_1 => bif qb_1 then hodmanref8_Count.J14 M C l0i l0o l0n (IntKind.i64.wrap (n3 + 1)) i4 G else hodmanref8_Count.J14 M C l0i l0o l0n n3 i4 G) else some ([.c (.int .i64 n3)], G)) := (M.hs _ _ _ _ _ _ _).trans (by kernel_rfl)
theorem hodmanref8_Count.J14_eq (M : Mach) (C : Call) (l0i : Nat) (l0o : Nat) (l0n : Nat) (n3 : Int) (i4 : Int) (G : GH) : hodmanref8_Count.J14 M C l0i l0o l0n n3 i4 G = (hodmanref8_Count.L17 M C l0i l0o l0n n3 (IntKind.i64.wrap (i4 + 1)) G) := (M.hj _ _ _).trans (by kernel_rfl)
def hodmanref8_Count.f (M : Mach) (C : Call) (l0i : Nat) (l0o : Nat) (l0n : Nat) (G : GH) : Option Res := hodmanref8_Count.L17 M C l0i l0o l0n 0 0 G
theorem hodmanref8_Count.eq (M : Mach) (C : Call) (l0i : Nat) (l0o : Nat) (l0n : Nat) (G : GH) : runF M C hodmanref8_Count.d [.c (.sl 1 l0i l0o l0n)] G = hodmanref8_Count.f M C l0i l0o l0n G := by kernel_rfl

/- 74 hodman/calc.Log -/
def calc_Log.c6 : DCode := (.cond (.t 12) (.seq (.region [⟨0, some 2, .move (.k (.c (.int .i64 0))), none⟩,
    ⟨1, some 3, .move (.k (.c (.bool false))), none⟩]) .ret) .skip)
def calc_Log.c17 : DCode := (.seq (.seq (.region [⟨0, some 13, .move (.t 0), none⟩,
    ⟨1, some 14, .cmp .gtr .i64 (.t 13) (.k (.c (.int .i64 1))), none⟩]) (.cond (.t 14) .skip (.exit 0))) (.block 1 (.seq (.region [⟨0, some 15, .move (.t 0), none⟩,
    ⟨1, some 16, .bin .shr .i64 (.t 15) (.k (.c (.int .u64 1))), none⟩,
    ⟨2, some 0, .move (.t 16), none⟩]) (.region [⟨0, some 17, .move (.t 2), none⟩,
    ⟨1, some 18, .bin .add .i64 (.t 17) (.k (.c (.int .i64 1))), none⟩,
    ⟨2, some 2, .move (.t 18), none⟩]))))
def calc_Log.c22 : DCode := (.seq (.region [⟨0, some 19, .move (.t 2), none⟩,
    ⟨1, some 2, .move (.t 19), none⟩,
    ⟨2, some 3, .move (.k (.c (.bool true))), none⟩]) .ret)
def calc_Log.c23 : DCode := (.seq (.block 0 (.loop [0, 2] calc_Log.c17)) calc_Log.c22)
def calc_Log.d : DFn := { ntmps := 20, res := [.t 2, .t 3], body := (.seq (.region [⟨0, some 2, .move (.k (.c (.int .i64 0))), none⟩,
    ⟨1, some 3, .move (.k (.c (.bool false))), none⟩]) (.seq (.seq (.region [⟨0, some 4, .move (.t 0), none⟩,
    ⟨1, some 5, .cmp .lss .i64 (.t 4) (.k (.c (.int .i64 1))), none⟩,
    ⟨2, some 6, .move (.t 5), none⟩,
    ⟨3, some 7, .move (.t 0), some (6, false)⟩,
    ⟨4, some 8, .move (.t 0), some (6, false)⟩,
    ⟨5, some 9, .bin .sub .i64 (.t 8) (.k (.c (.int .i64 1))), some (6, false)⟩,
    ⟨6, some 10, .bin .and .i64 (.t 7) (.t 9), some (6, false)⟩,
    ⟨7, some 11, .cmp .neq .i64 (.t 10) (.k (.c (.int .i64 0))), some (6, false)⟩,
    ⟨8, some 12, .pick (.t 6) (.k (.c (.bool true))) (.t 11), none⟩]) (.cut [0, 2, 12] calc_Log.c6)) calc_Log.c23)) }
def calc_Log.k23 (M : Mach) (C : Call) : Kont := execC M.j C (M.ag C) calc_Log.c23 ({ exits := [], ret := retK calc_Log.d } : Env) (retK calc_Log.d)
def calc_Log.J6 (M : Mach) (C : Call) (v0 : Int) (n2 : Int) (t12 : Bool) (G : GH) : Option Res := M.j (execC M.j C (M.ag C) calc_Log.c6 ({ exits := [], ret := retK calc_Log.d } : Env) (calc_Log.k23 M C)) [.v (.c (.int .i64 v0)), .und, .v (.c (.int .i64 n2)), .und, .und, .und, .und, .und, .und, .und, .und, .und, .v (.c (.bool t12)), .und, .und, .und, .und, .und, .und, .und] G
def calc_Log.k22 (M : Mach) (C : Call) : Kont := execC M.j C (M.ag C) calc_Log.c22 ({ exits := [], ret := retK calc_Log.d } : Env) (retK calc_Log.d)
def calc_Log.e19 (M : Mach) (C : Call) : Env := { exits := (0, (calc_Log.k22 M C)) :: (({ exits := [], ret := retK calc_Log.d } : Env)).exits, ret := (({ exits := [], ret := retK calc_Log.d } : Env)).ret }
def calc_Log.L18 (M : Mach) (C : Call) (v0 : Int) (n2 : Int) (G : GH) : Option Res := M.ag C [0, 2] calc_Log.c17 (calc_Log.e19 M C) (calc_Log.k22 M C) [.v (.c (.int .i64 v0)), .und, .v (.c (.int .i64 n2)), .und, .und, .und, .und, .und, .und, .und, .und, .und, .und, .und, .und, .und, .und, .und, .und, .und] G
theorem calc_Log.J6_eq (M : Mach) (C : Call) (v0 : Int) (n2 : Int) (t12 : Bool) (G : GH) : calc_Log.J6 M C v0 n2 t12 G = (bif t12 then some ([.c (.int .i64 0), .c (.bool false)], G) else calc_Log.L18 M C v0 n2 G) := (M.hj _ _ _).trans (by kernel_rfl)
theorem calc_Log.L18_eq (M : Mach) (C : Call) (v0 : Int) (n2 : Int) (G : GH) : calc_Log.L18 M C v0 n2 G = (bif decide (v0 > 1) then calc_Log.L18 M C (Int.fdiv v0 (2 ^ (min (1 : Int).toNat IntKind.i64.bits))) (IntKind.i64.wrap (n2 + 1)) G else some ([.c (.int .i64 n2), .c (.bool true)], G)) := (M.hs _ _ _ _ _ _ _).trans (by kernel_rfl)
def calc_Log.f (M : Mach) (C : Call) (v0 : Int) (G : GH) : Option Res := bif decide (v0 < 1) then calc_Log.J6 M C v0 0 true G else calc_Log.J6 M C v0 0 (!decide (IntKind.i64.wrap (((BitVec.ofInt IntKind.i64.bits v0) &&& (BitVec.ofInt IntKind.i64.bits (IntKind.i64.wrap (v0 - 1)))).toNat : Int) = 0)) G
theorem calc_Log.eq (M : Mach) (C : Call) (v0 : Int) (G : GH) : runF M C calc_Log.d [.c (.int .i64 v0)] G = calc_Log.f M C v0 G := by kernel_rfl

/- 44 hodman/hodmanref1.Log -/
def hodmanref1_Log.c22 : DCode := (.region [⟨0, some 8, .move (.t 5), none⟩,
    ⟨1, some 9, .bin .add .i64 (.t 8) (.k (.c (.int .i64 1))), none⟩,
    ⟨2, some 5, .move (.t 9), none⟩])
def hodmanref1_Log.c24 : DCode := (.seq (.seq (.region [⟨0, some 6, .move (.t 5), none⟩,
    ⟨1, some 7, .cmp .lss .i64 (.t 6) (.k (.c (.int .i64 63))), none⟩]) (.cond (.t 7) .skip (.exit 0))) (.seq (.block 1 (.seq (.seq (.region [⟨0, some 10, .move (.t 4), none⟩,
    ⟨1, some 11, .move (.t 0), none⟩,
    ⟨2, some 12, .cmp .eql .i64 (.t 10) (.t 11), none⟩]) (.cond (.t 12) (.seq (.region [⟨0, some 13, .move (.t 5), none⟩,
    ⟨1, some 2, .move (.t 13), none⟩,
    ⟨2, some 3, .move (.k (.c (.bool true))), none⟩]) .ret) .skip)) (.seq (.region [⟨0, some 14, .move (.t 5), none⟩,
    ⟨1, some 15, .cmp .lss .i64 (.t 14) (.k (.c (.int .i64 62))), none⟩]) (.cond (.t 15) (.region [⟨0, some 16, .move (.t 4), none⟩,
    ⟨1, some 17, .bin .mul .i64 (.t 16) (.k (.c (.int .i64 2))), none⟩,
    ⟨2, some 4, .move (.t 17), none⟩]) .skip)))) (.cut [0, 4, 5] hodmanref1_Log.c22)))
def hodmanref1_Log.c25 : DCode := (.loop [0, 4, 5] hodmanref1_Log.c24)
def hodmanref1_Log.c30 : DCode := (.seq (.region [⟨0, some 2, .move (.k (.c (.int .i64 0))), none⟩,
    ⟨1, some 3, .move (.k (.c (.bool false))), none⟩]) .ret)
def hodmanref1_Log.d : DFn := { ntmps := 18, res := [.t 2, .t 3], body := (.seq (.region [⟨0, some 2, .move (.k (.c (.int .i64 0))), none⟩,
    ⟨1, some 3, .move (.k (.c (.bool false))), none⟩]) (.seq (.region [⟨0, some 4, .move (.k (.c (.int .i64 1))), none⟩]) (.seq (.seq (.region [⟨0, some 5, .move (.k (.c (.int .i64 0))), none⟩]) (.block 0 hodmanref1_Log.c25)) hodmanref1_Log.c30))) }
def hodmanref1_Log.k30 (M : Mach) (C : Call) : Kont := execC M.j C (M.ag C) hodmanref1_Log.c30 ({ exits := [], ret := retK hodmanref1_Log.d } : Env) (retK hodmanref1_Log.d)
def hodmanref1_Log.e26 (M : Mach) (C : Call) : Env := { exits := (0, (hodmanref1_Log.k30 M C)) :: (({ exits := [], ret := retK hodmanref1_Log.d } : Env)).exits, ret := (({ exits := [], ret := retK hodmanref1_Log.d } : Env)).ret }
def hodmanref1_Log.L25 (M : Mach) (C : Call) (v0 : Int) (p4 : Int) (n5 : Int) (G : GH) : Option Res := M.ag C [0, 4, 5] hodmanref1_Log.c24 (hodmanref1_Log.e26 M C) (hodmanref1_Log.k30 M C) [.v (.c (.int .i64 v0)), .und, .und, .und, .v (.c (.int .i64 p4)), .v (.c (.int .i64 n5)), .und, .und, .und, .und, .und, .und, .und, .und, .und, .und, .und, .und] G
def hodmanref1_Log.k25 (M : Mach) (C : Call) : Kont := fun tm G => M.ag C [0, 4, 5] hodmanref1_Log.c24 (hodmanref1_Log.e26 M C) (hodmanref1_Log.k30 M C) (restr [0, 4, 5] 0 tm) G
def hodmanref1_Log.J22 (M : Mach) (C : Call) (v0 : Int) (p4 : Int) (n5 : Int) (G : GH) : Option Res := M.j (execC M.j C (M.ag C) hodmanref1_Log.c22 (hodmanref1_Log.e26 M C) (hodmanref1_Log.k25 M C)) [.v (.c (.int .i64 v0)), .und, .und, .und, .v (.c (.int .i64 p4)), .v (.c (.int .i64 n5)), .und, .und, .und, .und, .und, .und, .und, .und, .und, .und, .und, .und] G
theorem hodmanref1_Log.L25_eq (M : Mach) (C : Call) (v0 : Int) (p4 : Int) (n5 : Int) (G : GH) : hodmanref1_Log.L25 M C v0 p4 n5 G = (bif decide (n5 < 63) then bif decide (p4 = v0) then some ([.c (.int .i64 n5), .c (.bool true)], G) else bif decide (n5 < 62) then hodmanref1_Log.J22 M C v0 (IntKind.i64.wrap (p4 * 2)) n5 G else hodmanref1_Log.J22 M C v0 p4 n5 G else some ([.c (.int .i64 0), .c (.bool false)], G)) := (M.hs _ _ _ _ _ _ _).trans (by kernel_rfl)
theorem hodmanref1_Log.J22_eq (M : Mach) (C : Call) (v0 : Int) (p4 : Int) (n5 : Int) (G : GH) : hodmanref1_Log.J22 M C v0 p4 n5 G = (hodmanref1_Log.L25 M C v0 p4 (IntKind.i64.wrap (n5 + 1)) G) := (M.hj _ _ _).trans (by kernel_rfl)
def hodmanref1_Log.f (M : Mach) (C : Call) (v0 : Int) (G : GH) : Option Res := hodmanref1_Log.L25 M C v0 1 0 G
theorem hodmanref1_Log.eq (M : Mach) (C : Call) (v0 : Int) (G : GH) : runF M C hodmanref1_Log.d [.c (.int .i64 v0)] G = hodmanref1_Log.f M C v0 G := by kernel_rfl

/- 55 (*hodman/hodmanplay.Picks).Block -/
def hodmanplay_Picks_Block.c6 : DCode := (.cond (.t 12) (.seq (.region [⟨0, some 13, .move (.t 0), none⟩,
    ⟨1, some 14, .call 28 [.t 13, .k (.c (.int .i64 200))] [.c (.int .i64)], none⟩,
    ⟨2, some 15, .bin .sub .i64 (.t 14) (.k (.c (.int .i64 3))), none⟩,
    ⟨3, some 4, .move (.t 15), none⟩]) .ret) .skip)
def hodmanplay_Picks_Block.c10 : DCode := (.seq (.region [⟨0, some 16, .move (.t 1), none⟩,
    ⟨1, some 17, .move (.t 0), none⟩,
    ⟨2, some 18, .move (.t 1), none⟩,
    ⟨3, some 19, .len (.t 18), none⟩,
    ⟨4, some 20, .call 28 [.t 17, .t 19] [.c (.int .i64)], none⟩,
    ⟨5, some 21, .iaddr (.t 16) (.t 20) 3, none⟩,
    ⟨6, some 22, .faddr 21 0, none⟩,
    ⟨7, some 23, .ldG 22 (.c (.int .i64)), none⟩,
    ⟨8, some 4, .move (.t 23), none⟩]) .ret)
def hodmanplay_Picks_Block.d : DFn := { ntmps := 24, res := [.t 4], body := (.seq (.region [⟨0, some 4, .move (.k (.c (.int .i64 0))), none⟩]) (.seq (.seq (.region [⟨0, some 5, .move (.t 1), none⟩,
    ⟨1, some 6, .len (.t 5), none⟩,
    ⟨2, some 7, .cmp .eql .i64 (.t 6) (.k (.c (.int .i64 0))), none⟩,
    ⟨3, some 8, .move (.t 7), none⟩,
    ⟨4, some 9, .move (.t 0), some (8, false)⟩,
    ⟨5, some 10, .call 28 [.t 9, .k (.c (.int .i64 12))] [.c (.int .i64)], some (8, false)⟩,
    ⟨6, some 11, .cmp .eql .i64 (.t 10) (.k (.c (.int .i64 0))), some (8, false)⟩,
    ⟨7, some 12, .pick (.t 8) (.k (.c (.bool true))) (.t 11), none⟩]) (.cut [0, 1, 12] hodmanplay_Picks_Block.c6)) hodmanplay_Picks_Block.c10)) }
def hodmanplay_Picks_Block.k10 (M : Mach) (C : Call) : Kont := execC M.j C (M.ag C) hodmanplay_Picks_Block.c10 ({ exits := [], ret := retK hodmanplay_Picks_Block.d } : Env) (retK hodmanplay_Picks_Block.d)
def hodmanplay_Picks_Block.J6 (M : Mach) (C : Call) (p0i : Nat) (p0o : Nat) (l1i : Nat) (l1o : Nat) (l1n : Nat) (t12 : Bool) (G : GH) : Option Res := M.j (execC M.j C (M.ag C) hodmanplay_Picks_Block.c6 ({ exits := [], ret := retK hodmanplay_Picks_Block.d } : Env) (hodmanplay_Picks_Block.k10 M C)) [.v (.c (.ptr p0i p0o)), .v (.c (.sl 3 l1i l1o l1n)), .und, .und, .und, .und, .und, .und, .und, .und, .und, .und, .v (.c (.bool t12)), .und, .und, .und, .und, .und, .und, .und, .und, .und, .und, .und] G
theorem hodmanplay_Picks_Block.J6_eq (M : Mach) (C : Call) (p0i : Nat) (p0o : Nat) (l1i : Nat) (l1o : Nat) (l1n : Nat) (t12 : Bool) (G : GH) : hodmanplay_Picks_Block.J6 M C p0i p0o l1i l1o l1n t12 G = (bif t12 then (C hodmanplay_Picks_Num.id [.c (.ptr p0i p0o), .c (.int .i64 200)] G).bind fun qr_3 => (((qr_3.1[0]?).bind V1.c?).bind (Cell.asI .i64)).bind fun qx_4 => some ([.c (.int .i64 (IntKind.i64.wrap (qx_4 - 3)))], qr_3.2) else (C hodmanplay_Picks_Num.id [.c (.ptr p0i p0o), .c (.int .i64 ((l1n : Nat) : Int))] G).bind fun qr_5 => (((qr_5.1[0]?).bind V1.c?).bind (Cell.asI .i64)).bind fun qx_6 => guardK (decide (0 ≤ qx_6 ∧ qx_6 < ((l1n : Nat) : Int))) (((qr_5.2.ld l1i ((l1o + Int.toNat qx_6 * 3) + 0)).bind (Cell.asI .i64)).bind fun qx_7 => some ([.c (.int .i64 qx_7)], qr_5.2))) := (M.hj _ _ _).trans (by kernel_rfl)
def hodmanplay_Picks_Block.f (M : Mach) (C : Call) (p0i : Nat) (p0o : Nat) (l1i : Nat) (l1o : Nat) (l1n : Nat) (G : GH) : Option Res := bif decide (((l1n : Nat) : Int) = 0) then hodmanplay_Picks_Block.J6 M C p0i p0o l1i l1o l1n true G else (C hodmanplay_Picks_Num.id [.c (.ptr p0i p0o), .c (.int .i64 12)] G).bind fun qr_1 => (((qr_1.1[0]?).bind V1.c?).bind (Cell.asI .i64)).bind fun qx_2 => hodmanplay_Picks_Block.J6 M C p0i p0o l1i l1o l1n (decide (qx_2 = 0)) qr_1.2
theorem hodmanplay_Picks_Block.eq (M : Mach) (C : Call) (p0i : Nat) (p0o : Nat) (l1i : Nat) (l1o : Nat) (l1n : Nat) (G : GH) : runF M C hodmanplay_Picks_Block.d [.c (.ptr p0i p0o), .c (.sl 3 l1i l1o l1n)] G = hodmanplay_Picks_Block.f M C p0i p0o l1i l1o l1n G := by kernel_rfl

/- 42 hodman/hodmanref1.Up -/
def hodmanref1_Up.c6 : DCode := (.cond (.t 10) (.seq (.region [⟨0, some 2, .move (.k (.c (.int .i64 0))), none⟩,
    ⟨1, some 3, .move (.k (.c (.bool false))), none⟩]) .ret) .skip)
def hodmanref1_Up.c16 : DCode := (.seq (.seq (.region [⟨0, some 11, .move (.t 4), none⟩,
    ⟨1, some 12, .move (.t 0), none⟩,
    ⟨2, some 13, .cmp .lss .i64 (.t 11) (.t 12), none⟩]) (.cond (.t 13) .skip (.exit 0))) (.block 1 (.region [⟨0, some 14, .move (.t 4), none⟩,
    ⟨1, some 15, .bin .mul .i64 (.t 14) (.k (.c (.int .i64 2))), none⟩,
    ⟨2, some 4, .move (.t 15), none⟩])))
def hodmanref1_Up.c21 : DCode := (.seq (.region [⟨0, some 16, .move (.t 4), none⟩,
    ⟨1, some 2, .move (.t 16), none⟩,
    ⟨2, some 3, .move (.k (.c (.bool true))), none⟩]) .ret)
def hodmanref1_Up.c23 : DCode := (.seq (.region [⟨0, some 4, .move (.k (.c (.int .i64 1))), none⟩]) (.seq (.block 0 (.loop [0, 4] hodmanref1_Up.c16)) hodmanref1_Up.c21))
def hodmanref1_Up.d : DFn := { ntmps := 17, res := [.t 2, .t 3], body := (.seq (.region [⟨0, some 2, .move (.k (.c (.int .i64 0))), none⟩,
    ⟨1, some 3, .move (.k (.c (.bool false))), none⟩]) (.seq (.seq (.region [⟨0, some 5, .move (.t 0), none⟩,
    ⟨1, some 6, .cmp .lss .i64 (.t 5) (.k (.c (.int .i64 1))), none⟩,
    ⟨2, some 7, .move (.t 6), none⟩,
    ⟨3, some 8, .move (.t 0), some (7, false)⟩,
    ⟨4, some 9, .cmp .gtr .i64 (.t 8) (.k (.c (.int .i64 4611686018427387904))), some (7, false)⟩,
    ⟨5, some 10, .pick (.t 7) (.k (.c (.bool true))) (.t 9), none⟩]) (.cut [0, 10] hodmanref1_Up.c6)) hodmanref1_Up.c23)) }
def hodmanref1_Up.k23 (M : Mach) (C : Call) : Kont := execC M.j C (M.ag C) hodmanref1_Up.c23 ({ exits := [], ret := retK hodmanref1_Up.d } : Env) (retK hodmanref1_Up.d)
def hodmanref1_Up.J6 (M : Mach) (C : Call) (v0 : Int) (t10 : Bool) (G : GH) : Option Res := M.j (execC M.j C (M.ag C) hodmanref1_Up.c6 ({ exits := [], ret := retK hodmanref1_Up.d } : Env) (hodmanref1_Up.k23 M C)) [.v (.c (.int .i64 v0)), .und, .und, .und, .und, .und, .und, .und, .und, .und, .v (.c (.bool t10)), .und, .und, .und, .und, .und, .und] G
def hodmanref1_Up.k21 (M : Mach) (C : Call) : Kont := execC M.j C (M.ag C) hodmanref1_Up.c21 ({ exits := [], ret := retK hodmanref1_Up.d } : Env) (retK hodmanref1_Up.d)
def hodmanref1_Up.e18 (M : Mach) (C : Call) : Env := { exits := (0, (hodmanref1_Up.k21 M C)) :: (({ exits := [], ret := retK hodmanref1_Up.d } : Env)).exits, ret := (({ exits := [], ret := retK hodmanref1_Up.d } : Env)).ret }
def hodmanref1_Up.L17 (M : Mach) (C : Call) (v0 : Int) (p4 : Int) (G : GH) : Option Res := M.ag C [0, 4] hodmanref1_Up.c16 (hodmanref1_Up.e18 M C) (hodmanref1_Up.k21 M C) [.v (.c (.int .i64 v0)), .und, .und, .und, .v (.c (.int .i64 p4)), .und, .und, .und, .und, .und, .und, .und, .und, .und, .und, .und, .und] G
theorem hodmanref1_Up.J6_eq (M : Mach) (C : Call) (v0 : Int) (t10 : Bool) (G : GH) : hodmanref1_Up.J6 M C v0 t10 G = (bif t10 then some ([.c (.int .i64 0), .c (.bool false)], G) else hodmanref1_Up.L17 M C v0 1 G) := (M.hj _ _ _).trans (by kernel_rfl)
theorem hodmanref1_Up.L17_eq (M : Mach) (C : Call) (v0 : Int) (p4 : Int) (G : GH) : hodmanref1_Up.L17 M C v0 p4 G = (bif decide (p4 < v0) then hodmanref1_Up.L17 M C v0 (IntKind.i64.wrap (p4 * 2)) G else some ([.c (.int .i64 p4), .c (.bool true)], G)) := (M.hs _ _ _ _ _ _ _).trans (by kernel_rfl)
def hodmanref1_Up.f (M : Mach) (C : Call) (v0 : Int) (G : GH) : Option Res := bif decide (v0 < 1) then hodmanref1_Up.J6 M C v0 true G else hodmanref1_Up.J6 M C v0 (decide (v0 > 4611686018427387904)) G
theorem hodmanref1_Up.eq (M : Mach) (C : Call) (v0 : Int) (G : GH) : runF M C hodmanref1_Up.d [.c (.int .i64 v0)] G = hodmanref1_Up.f M C v0 G := by kernel_rfl

/- 61 hodman/hodmanref1.Add -/
def hodmanref1_Add.c6 : DCode := (.cond (.t 23) (.seq (.region [⟨0, some 4, .move (.k (.c (.int .i64 0))), none⟩,
    ⟨1, some 5, .move (.k (.c (.bool false))), none⟩]) .ret) .skip)
def hodmanref1_Add.c10 : DCode := (.seq (.region [⟨0, some 24, .move (.t 0), none⟩,
    ⟨1, some 25, .move (.t 1), none⟩,
    ⟨2, some 26, .bin .add .i64 (.t 24) (.t 25), none⟩,
    ⟨3, some 4, .move (.t 26), none⟩,
    ⟨4, some 5, .move (.k (.c (.bool true))), none⟩]) .ret)
def hodmanref1_Add.d : DFn := { ntmps := 27, res := [.t 4, .t 5], body := (.seq (.region [⟨0, some 4, .move (.k (.c (.int .i64 0))), none⟩,
    ⟨1, some 5, .move (.k (.c (.bool false))), none⟩]) (.seq (.seq (.region [⟨0, some 6, .move (.t 1), none⟩,
    ⟨1, some 7, .cmp .gtr .i64 (.t 6) (.k (.c (.int .i64 0))), none⟩,
    ⟨2, some 8, .move (.t 7), none⟩,
    ⟨3, some 9, .move (.t 0), some (8, true)⟩,
    ⟨4, some 10, .move (.t 1), some (8, true)⟩,
    ⟨5, some 11, .bin .sub .i64 (.k (.c (.int .i64 9223372036854775807))) (.t 10), some (8, true)⟩,
    ⟨6, some 12, .cmp .gtr .i64 (.t 9) (.t 11), some (8, true)⟩,
    ⟨7, some 13, .pick (.t 8) (.t 12) (.k (.c (.bool false))), none⟩,
    ⟨8, some 14, .move (.t 13), none⟩,
    ⟨9, some 15, .move (.t 1), some (14, false)⟩,
    ⟨10, some 16, .cmp .lss .i64 (.t 15) (.k (.c (.int .i64 0))), some (14, false)⟩,
    ⟨11, some 17, .move (.t 16), some (14, false)⟩,
    ⟨12, some 18, .move (.t 0), some (17, true)⟩,
    ⟨13, some 19, .move (.t 1), some (17, true)⟩,
    ⟨14, some 20, .bin .sub .i64 (.k (.c (.int .i64 (-9223372036854775808)))) (.t 19), some (17, true)⟩,
    ⟨15, some 21, .cmp .lss .i64 (.t 18) (.t 20), some (17, true)⟩,
    ⟨16, some 22, .pick (.t 17) (.t 21) (.k (.c (.bool false))), some (14, false)⟩,
    ⟨17, some 23, .pick (.t 14) (.k (.c (.bool true))) (.t 22), none⟩]) (.cut [0, 1, 23] hodmanref1_Add.c6)) hodmanref1_Add.c10)) }
def hodmanref1_Add.k10 (M : Mach) (C : Call) : Kont := execC M.j C (M.ag C) hodmanref1_Add.c10 ({ exits := [], ret := retK hodmanref1_Add.d } : Env) (retK hodmanref1_Add.d)
def hodmanref1_Add.J6 (M : Mach) (C : Call) (a0 : Int) (b1 : Int) (t23 : Bool) (G : GH) : Option Res := M.j (execC M.j C (M.ag C) hodmanref1_Add.c6 ({ exits := [], ret := retK hodmanref1_Add.d } : Env) (hodmanref1_Add.k10 M C)) [.v (.c (.int .i64 a0)), .v (.c (.int .i64 b1)), .und, .und, .und, .und, .und, .und, .und, .und, .und, .und, .und, .und, .und, .und, .und, .und, .und, .und, .und, .und, .und, .v (.c (.bool t23)), .und, .und, .und] G
theorem hodmanref1_Add.J6_eq (M : Mach) (C : Call) (a0 : Int) (b1 : Int) (t23 : Bool) (G : GH) : hodmanref1_Add.J6 M C a0 b1 t23 G = (bif t23 then some ([.c (.int .i64 0), .c (.bool false)], G) else some ([.c (.int .i64 (IntKind.i64.wrap (a0 + b1))), .c (.bool true)], G)) := (M.hj _ _ _).trans (by kernel_rfl)
def hodmanref1_Add.f (M : Mach) (C : Call) (a0 : Int) (b1 : Int) (G : GH) : Option Res := bif decide (b1 > 0) then bif decide (a0 > IntKind.i64.wrap (9223372036854775807 - b1)) then hodmanref1_Add.J6 M C a0 b1 true G else bif decide (b1 < 0) then hodmanref1_Add.J6 M C a0 b1 (decide (a0 < IntKind.i64.wrap ((-9223372036854775808) - b1))) G else hodmanref1_Add.J6 M C a0 b1 false G else bif decide (b1 < 0) then hodmanref1_Add.J6 M C a0 b1 (decide (a0 < IntKind.i64.wrap ((-9223372036854775808) - b1))) G else hodmanref1_Add.J6 M C a0 b1 false G
theorem hodmanref1_Add.eq (M : Mach) (C : Call) (a0 : Int) (b1 : Int) (G : GH) : runF M C hodmanref1_Add.d [.c (.int .i64 a0), .c (.int .i64 b1)] G = hodmanref1_Add.f M C a0 b1 G := by kernel_rfl

/- 43 hodman/hodmanref1.Round -/
def hodmanref1_Round.c6 : DCode := (.cond (.t 11) (.seq (.region [⟨0, some 4, .move (.k (.c (.int .i64 0))), none⟩,
    ⟨1, some 5, .move (.k (.c (.bool false))), none⟩]) .ret) .skip)
def hodmanref1_Round.c18 : DCode := (.seq (.seq (.region [⟨0, some 12, .move (.t 0), none⟩,
    ⟨1, some 13, .move (.t 1), none⟩,
    ⟨2, some 14, .bin .rem .i64 (.t 12) (.t 13), none⟩,
    ⟨3, some 15, .cmp .eql .i64 (.t 14) (.k (.c (.int .i64 0))), none⟩]) (.cond (.t 15) (.seq (.region [⟨0, some 16, .move (.t 0), none⟩,
    ⟨1, some 4, .move (.t 16), none⟩,
    ⟨2, some 5, .move (.k (.c (.bool true))), none⟩]) .ret) .skip)) (.seq (.region [⟨0, some 17, .move (.t 0), none⟩,
    ⟨1, some 18, .move (.t 0), none⟩,
    ⟨2, some 19, .move (.t 1), none⟩,
    ⟨3, some 20, .bin .rem .i64 (.t 18) (.t 19), none⟩,
    ⟨4, some 21, .bin .sub .i64 (.t 17) (.t 20), none⟩,
    ⟨5, some 22, .move (.t 1), none⟩,
    ⟨6, some 23, .call 61 [.t 21, .t 22] [.c (.int .i64), .c (.bool)], none⟩,
    ⟨7, some 24, .ext 23 0, none⟩,
    ⟨8, some 25, .ext 23 1, none⟩,
    ⟨9, some 4, .move (.t 24), none⟩,
    ⟨10, some 5, .move (.t 25), none⟩]) .ret))
def hodmanref1_Round.d : DFn := { ntmps := 26, res := [.t 4, .t 5], body := (.seq (.region [⟨0, some 4, .move (.k (.c (.int .i64 0))), none⟩,
    ⟨1, some 5, .move (.k (.c (.bool false))), none⟩]) (.seq (.seq (.region [⟨0, some 6, .move (.t 0), none⟩,
    ⟨1, some 7, .cmp .lss .i64 (.t 6) (.k (.c (.int .i64 0))), none⟩,
    ⟨2, some 8, .move (.t 7), none⟩,
    ⟨3, some 9, .move (.t 1), some (8, false)⟩,
    ⟨4, some 10, .cmp .lss .i64 (.t 9) (.k (.c (.int .i64 1))), some (8, false)⟩,
    ⟨5, some 11, .pick (.t 8) (.k (.c (.bool true))) (.t 10), none⟩]) (.cut [0, 1, 11] hodmanref1_Round.c6)) hodmanref1_Round.c18)) }
def hodmanref1_Round.k18 (M : Mach) (C : Call) : Kont := execC M.j C (M.ag C) hodmanref1_Round.c18 ({ exits := [], ret := retK hodmanref1_Round.d } : Env) (retK hodmanref1_Round.d)
def hodmanref1_Round.J6 (M : Mach) (C : Call) (v0 : Int) (to1 : Int) (t11 : Bool) (G : GH) : Option Res := M.j (execC M.j C (M.ag C) hodmanref1_Round.c6 ({ exits := [], ret := retK hodmanref1_Round.d } : Env) (hodmanref1_Round.k18 M C)) [.v (.c (.int .i64 v0)), .v (.c (.int .i64 to1)), .und, .und, .und, .und, .und, .und, .und, .und, .und, .v (.c (.bool t11)), .und, .und, .und, .und, .und, .und, .und, .und, .und, .und, .und, .und, .und, .und] G
theorem hodmanref1_Round.J6_eq (M : Mach) (C : Call) (v0 : Int) (to1 : Int) (t11 : Bool) (G : GH) : hodmanref1_Round.J6 M C v0 to1 t11 G = (bif t11 then some ([.c (.int .i64 0), .c (.bool false)], G) else (binD .rem .i64 v0 to1).bind fun qx_1 => bif decide (qx_1 = 0) then some ([.c (.int .i64 v0), .c (.bool true)], G) else (binD .rem .i64 v0 to1).bind fun qx_2 => (C hodmanref1_Add.id [.c (.int .i64 (IntKind.i64.wrap (v0 - qx_2))), .c (.int .i64 to1)] G).bind fun qr_3 => (((qr_3.1[0]?).bind V1.c?).bind (Cell.asI .i64)).bind fun qx_4 => (((qr_3.1[1]?).bind V1.c?).bind Cell.asB).bind fun qb_5 => some ([.c (.int .i64 qx_4), .c (.bool qb_5)], qr_3.2)) := (M.hj _ _ _).trans (by kernel_rfl)
def hodmanref1_Round.f (M : Mach) (C : Call) (v0 : Int) (to1 : Int) (G : GH) : Option Res := bif decide (v0 < 0) then hodmanref1_Round.J6 M C v0 to1 true G else hodmanref1_Round.J6 M C v0 to1 (decide (to1 < 1)) G
theorem hodmanref1_Round.eq (M : Mach) (C : Call) (v0 : Int) (to1 : Int) (G : GH) : runF M C hodmanref1_Round.d [.c (.int .i64 v0), .c (.int .i64 to1)] G = hodmanref1_Round.f M C v0 to1 G := by kernel_rfl

/- 75 hodman/calc.Up -/
def calc_Up.c6 : DCode := (.cond (.t 10) (.seq (.region [⟨0, some 2, .move (.k (.c (.int .i64 0))), none⟩,
    ⟨1, some 3, .move (.k (.c (.bool false))), none⟩]) .ret) .skip)
def calc_Up.c16 : DCode := (.seq (.seq (.region [⟨0, some 11, .move (.t 4), none⟩,
    ⟨1, some 12, .move (.t 0), none⟩,
    ⟨2, some 13, .cmp .lss .i64 (.t 11) (.t 12), none⟩]) (.cond (.t 13) .skip (.exit 0))) (.block 1 (.region [⟨0, some 14, .move (.t 4), none⟩,
    ⟨1, some 15, .bin .shl .i64 (.t 14) (.k (.c (.int .u64 1))), none⟩,
    ⟨2, some 4, .move (.t 15), none⟩])))
def calc_Up.c21 : DCode := (.seq (.region [⟨0, some 16, .move (.t 4), none⟩,
    ⟨1, some 2, .move (.t 16), none⟩,
    ⟨2, some 3, .move (.k (.c (.bool true))), none⟩]) .ret)
def calc_Up.c23 : DCode := (.seq (.region [⟨0, some 4, .move (.k (.c (.int .i64 1))), none⟩]) (.seq (.block 0 (.loop [0, 4] calc_Up.c16)) calc_Up.c21))
def calc_Up.d : DFn := { ntmps := 17, res := [.t 2, .t 3], body := (.seq (.region [⟨0, some 2, .move (.k (.c (.int .i64 0))), none⟩,
    ⟨1, some 3, .move (.k (.c (.bool false))), none⟩]) (.seq (.seq (.region [⟨0, some 5, .move (.t 0), none⟩,
    ⟨1, some 6, .cmp .lss .i64 (.t 5) (.k (.c (.int .i64 1))), none⟩,
    ⟨2, some 7, .move (.t 6), none⟩,
    ⟨3, some 8, .move (.t 0), some (7, false)⟩,
    ⟨4, some 9, .cmp .gtr .i64 (.t 8) (.k (.c (.int .i64 4611686018427387904))), some (7, false)⟩,
    ⟨5, some 10, .pick (.t 7) (.k (.c (.bool true))) (.t 9), none⟩]) (.cut [0, 10] calc_Up.c6)) calc_Up.c23)) }
def calc_Up.k23 (M : Mach) (C : Call) : Kont := execC M.j C (M.ag C) calc_Up.c23 ({ exits := [], ret := retK calc_Up.d } : Env) (retK calc_Up.d)
def calc_Up.J6 (M : Mach) (C : Call) (v0 : Int) (t10 : Bool) (G : GH) : Option Res := M.j (execC M.j C (M.ag C) calc_Up.c6 ({ exits := [], ret := retK calc_Up.d } : Env) (calc_Up.k23 M C)) [.v (.c (.int .i64 v0)), .und, .und, .und, .und, .und, .und, .und, .und, .und, .v (.c (.bool t10)), .und, .und, .und, .und, .und, .und] G
def calc_Up.k21 (M : Mach) (C : Call) : Kont := execC M.j C (M.ag C) calc_Up.c21 ({ exits := [], ret := retK calc_Up.d } : Env) (retK calc_Up.d)
def calc_Up.e18 (M : Mach) (C : Call) : Env := { exits := (0, (calc_Up.k21 M C)) :: (({ exits := [], ret := retK calc_Up.d } : Env)).exits, ret := (({ exits := [], ret := retK calc_Up.d } : Env)).ret }
def calc_Up.L17 (M : Mach) (C : Call) (v0 : Int) (p4 : Int) (G : GH) : Option Res := M.ag C [0, 4] calc_Up.c16 (calc_Up.e18 M C) (calc_Up.k21 M C) [.v (.c (.int .i64 v0)), .und, .und, .und, .v (.c (.int .i64 p4)), .und, .und, .und, .und, .und, .und, .und, .und, .und, .und, .und, .und] G
theorem calc_Up.J6_eq (M : Mach) (C : Call) (v0 : Int) (t10 : Bool) (G : GH) : calc_Up.J6 M C v0 t10 G = (bif t10 then some ([.c (.int .i64 0), .c (.bool false)], G) else calc_Up.L17 M C v0 1 G) := (M.hj _ _ _).trans (by kernel_rfl)
theorem calc_Up.L17_eq (M : Mach) (C : Call) (v0 : Int) (p4 : Int) (G : GH) : calc_Up.L17 M C v0 p4 G = (bif decide (p4 < v0) then calc_Up.L17 M C v0 (IntKind.i64.wrap (p4 * 2 ^ (min (1 : Int).toNat IntKind.i64.bits))) G else some ([.c (.int .i64 p4), .c (.bool true)], G)) := (M.hs _ _ _ _ _ _ _).trans (by kernel_rfl)
def calc_Up.f (M : Mach) (C : Call) (v0 : Int) (G : GH) : Option Res := bif decide (v0 < 1) then calc_Up.J6 M C v0 true G else calc_Up.J6 M C v0 (decide (v0 > 4611686018427387904)) G
theorem calc_Up.eq (M : Mach) (C : Call) (v0 : Int) (G : GH) : runF M C calc_Up.d [.c (.int .i64 v0)] G = calc_Up.f M C v0 G := by kernel_rfl

/- 76 slices.Index[[]int,int] -/
def slices_Index_int_int.c19 : DCode := (.seq (.region [⟨0, some 9, .cmp .lss .i64 (.t 8) (.t 7), none⟩]) (.seq (.cond (.t 9) .skip (.exit 0)) (.seq (.block 1 (.seq (.region [⟨0, some 10, .move (.t 8), none⟩,
    ⟨1, some 5, .move (.t 10), none⟩]) (.seq (.region [⟨0, some 11, .move (.t 1), none⟩,
    ⟨1, some 12, .move (.t 0), none⟩,
    ⟨2, some 13, .move (.t 5), none⟩,
    ⟨3, some 14, .iaddr (.t 12) (.t 13) 1, none⟩,
    ⟨4, some 15, .ldG 14 (.c (.int .i64)), none⟩,
    ⟨5, some 16, .cmp .eql .i64 (.t 11) (.t 15), none⟩]) (.cond (.t 16) (.seq (.region [⟨0, some 17, .move (.t 5), none⟩,
    ⟨1, some 4, .move (.t 17), none⟩]) .ret) .skip)))) (.region [⟨0, some 18, .bin .add .i64 (.t 8) (.k (.c (.int .i64 1))), none⟩,
    ⟨1, some 8, .move (.t 18), none⟩]))))
def slices_Index_int_int.c25 : DCode := (.seq (.region [⟨0, some 4, .move (.k (.c (.int .i64 (-1)))), none⟩]) .ret)
def slices_Index_int_int.d : DFn := { ntmps := 19, res := [.t 4], body := (.seq (.region [⟨0, some 4, .move (.k (.c (.int .i64 0))), none⟩]) (.seq (.seq (.region [⟨0, some 6, .move (.t 0), none⟩,
    ⟨1, some 7, .len (.t 6), none⟩,
    ⟨2, some 8, .move (.k (.c (.int .i64 0))), none⟩]) (.block 0 (.loop [0, 1, 7, 8] slices_Index_int_int.c19))) slices_Index_int_int.c25)) }
def slices_Index_int_int.k25 (M : Mach) (C : Call) : Kont := execC M.j C (M.ag C) slices_Index_int_int.c25 ({ exits := [], ret := retK slices_Index_int_int.d } : Env) (retK slices_Index_int_int.d)
def slices_Index_int_int.e21 (M : Mach) (C : Call) : Env := { exits := (0, (slices_Index_int_int.k25 M C)) :: (({ exits := [], ret := retK slices_Index_int_int.d } : Env)).exits, ret := (({ exits := [], ret := retK slices_Index_int_int.d } : Env)).ret }
def slices_Index_int_int.L20 (M : Mach) (C : Call) (s0i : Nat) (s0o : Nat) (s0n : Nat) (v1 : Int) (t7 : Int) (t8 : Int) (G : GH) : Option Res := M.ag C [0, 1, 7, 8] slices_Index_int_int.c19 (slices_Index_int_int.e21 M C) (slices_Index_int_int.k25 M C) [.v (.c (.sl 1 s0i s0o s0n)), .v (.c (.int .i64 v1)), .und, .und, .und, .und, .und, .v (.c (.int .i64 t7)), .v (.c (.int .i64 t8)), .und, .und, .und, .und, .und, .und, .und, .und, .und, .und] G
theorem slices_Index_int_int.L20_eq (M : Mach) (C : Call) (s0i : Nat) (s0o : Nat) (s0n : Nat) (v1 : Int) (t7 : Int) (t8 : Int) (G : GH) : slices_Index_int_int.L20 M C s0i s0o s0n v1 t7 t8 G = (bif decide (t8 < t7) then guardK (decide (0 ≤ t8 ∧ t8 < ((s0n : Nat) : Int))) (((G.ld s0i (s0o + Int.toNat t8 * 1)).bind (Cell.asI .i64)).bind fun qx_1 => bif decide (v1 = qx_1) then some ([.c (.int .i64 t8)], G) else slices_Index_int_int.L20 M C s0i s0o s0n v1 t7 (IntKind.i64.wrap (t8 + 1)) G) else some ([.c (.int .i64 (-1))], G)) := (M.hs _ _ _ _ _ _ _).trans (by kernel_rfl)
def slices_Index_int_int.f (M : Mach) (C : Call) (s0i : Nat) (s0o : Nat) (s0n : Nat) (v1 : Int) (G : GH) : Option Res := slices_Index_int_int.L20 M C s0i s0o s0n v1 ((s0n : Nat) : Int) 0 G
theorem slices_Index_int_int.eq (M : Mach) (C : Call) (s0i : Nat) (s0o : Nat) (s0n : Nat) (v1 : Int) (G : GH) : runF M C slices_Index_int_int.d [.c (.sl 1 s0i s0o s0n), .c (.int .i64 v1)] G = slices_Index_int_int.f M C s0i s0o s0n v1 G := by kernel_rfl

/- 49 hodman/hodmanref1.Many -/
def hodmanref1_Many.d : DFn := { ntmps := 29, res := [.t 8, .t 9], body := (.seq (.region [⟨0, some 4, .boxv 28 [] (.t 0) 8, none⟩,
    ⟨1, some 8, .move (.k (.c (.int .i64 0))), none⟩,
    ⟨2, some 9, .move (.k (.c (.int .i64 0))), none⟩]) (.seq (.region [⟨0, some 13, .ldL 4 28 (.agg [.int .i64, .int .i64, .int .i64, .int .i64, .int .i64, .int .i64, .int .i64, .int .i64]), none⟩,
    ⟨1, some 14, .move (.t 2), none⟩,
    ⟨2, some 15, .move (.t 3), none⟩,
    ⟨3, some 16, .call 60 [.t 13, .t 14, .t 15] [.c (.int .i64), .c (.int .i64)], none⟩,
    ⟨4, some 12, .move (.t 16), none⟩,
    ⟨5, some 17, .ext 12 0, none⟩,
    ⟨6, some 18, .ext 12 1, none⟩,
    ⟨7, some 10, .move (.t 17), none⟩,
    ⟨8, some 11, .move (.t 18), none⟩]) (.seq (.seq (.region [⟨0, some 19, .move (.t 11), none⟩,
    ⟨1, some 20, .cmp .neq .i64 (.t 19) (.k (.c (.int .i64 0))), none⟩]) (.cond (.t 20) (.seq (.region [⟨0, some 21, .move (.t 11), none⟩,
    ⟨1, some 8, .move (.k (.c (.int .i64 0))), none⟩,
    ⟨2, some 9, .move (.t 21), none⟩]) .ret) .skip)) (.seq (.region [⟨0, some 22, .ldL 4 28 (.agg [.int .i64, .int .i64, .int .i64, .int .i64, .int .i64, .int .i64, .int .i64, .int .i64]), none⟩,
    ⟨1, some 23, .move (.t 1), none⟩,
    ⟨2, some 24, .move (.t 10), none⟩,
    ⟨3, some 25, .call 48 [.t 22, .t 23, .t 24, .k (.c (.int .i64 1))] [.c (.int .i64), .c (.int .i64)], none⟩,
    ⟨4, some 26, .ext 25 0, none⟩,
    ⟨5, some 27, .ext 25 1, none⟩,
    ⟨6, some 8, .move (.t 26), none⟩,
    ⟨7, some 9, .move (.t 27), none⟩]) .ret)))) }
def hodmanref1_Many.f (M : Mach) (C : Call) (c0_0 : Int) (c0_1 : Int) (c0_2 : Int) (c0_3 : Int) (c0_4 : Int) (c0_5 : Int) (c0_6 : Int) (c0_7 : Int) (live1 : Int) (n2 : Int) (s3 : Int) (G : GH) : Option Res := (C hodmanref1_Product.id [.agg [.int .i64 c0_0, .int .i64 c0_1, .int .i64 c0_2, .int .i64 c0_3, .int .i64 c0_4, .int .i64 c0_5, .int .i64 c0_6, .int .i64 c0_7], .c (.int .i64 n2), .c (.int .i64 s3)] G).bind fun qr_1 => (((qr_1.1[0]?).bind V1.c?).bind (Cell.asI .i64)).bind fun qx_2 => (((qr_1.1[1]?).bind V1.c?).bind (Cell.asI .i64)).bind fun qx_3 => bif (!decide (qx_3 = 0)) then some ([.c (.int .i64 0), .c (.int .i64 qx_3)], qr_1.2) else (C hodmanref1_New.id [.agg [.int .i64 c0_0, .int .i64 c0_1, .int .i64 c0_2, .int .i64 c0_3, .int .i64 c0_4, .int .i64 c0_5, .int .i64 c0_6, .int .i64 c0_7], .c (.int .i64 live1), .c (.int .i64 qx_2), .c (.int .i64 1)] qr_1.2).bind fun qr_4 => (((qr_4.1[0]?).bind V1.c?).bind (Cell.asI .i64)).bind fun qx_5 => (((qr_4.1[1]?).bind V1.c?).bind (Cell.asI .i64)).bind fun qx_6 => some ([.c (.int .i64 qx_5), .c (.int .i64 qx_6)], qr_4.2)
theorem hodmanref1_Many.eq (M : Mach) (C : Call) (c0_0 : Int) (c0_1 : Int) (c0_2 : Int) (c0_3 : Int) (c0_4 : Int) (c0_5 : Int) (c0_6 : Int) (c0_7 : Int) (live1 : Int) (n2 : Int) (s3 : Int) (G : GH) : runF M C hodmanref1_Many.d [.agg [.int .i64 c0_0, .int .i64 c0_1, .int .i64 c0_2, .int .i64 c0_3, .int .i64 c0_4, .int .i64 c0_5, .int .i64 c0_6, .int .i64 c0_7], .c (.int .i64 live1), .c (.int .i64 n2), .c (.int .i64 s3)] G = hodmanref1_Many.f M C c0_0 c0_1 c0_2 c0_3 c0_4 c0_5 c0_6 c0_7 live1 n2 s3 G := by kernel_rfl

/- 35 hodman/hodmanref17.Find -/
def hodmanref17_Find.c17 : DCode := (.seq (.seq (.region [⟨0, some 6, .move (.t 5), none⟩,
    ⟨1, some 7, .move (.t 0), none⟩,
    ⟨2, some 8, .len (.t 7), none⟩,
    ⟨3, some 9, .cmp .lss .i64 (.t 6) (.t 8), none⟩]) (.cond (.t 9) .skip (.exit 0))) (.seq (.block 1 (.seq (.region [⟨0, some 12, .move (.t 0), none⟩,
    ⟨1, some 13, .move (.t 5), none⟩,
    ⟨2, some 14, .iaddr (.t 12) (.t 13) 3, none⟩,
    ⟨3, some 15, .faddr 14 0, none⟩,
    ⟨4, some 16, .ldG 15 (.c (.int .i64)), none⟩,
    ⟨5, some 17, .move (.t 1), none⟩,
    ⟨6, some 18, .cmp .eql .i64 (.t 16) (.t 17), none⟩]) (.cond (.t 18) (.seq (.region [⟨0, some 19, .move (.t 5), none⟩,
    ⟨1, some 4, .move (.t 19), none⟩]) .ret) .skip))) (.region [⟨0, some 10, .move (.t 5), none⟩,
    ⟨1, some 11, .bin .add .i64 (.t 10) (.k (.c (.int .i64 1))), none⟩,
    ⟨2, some 5, .move (.t 11), none⟩])))
def hodmanref17_Find.c23 : DCode := (.seq (.region [⟨0, some 4, .move (.k (.c (.int .i64 (-1)))), none⟩]) .ret)
def hodmanref17_Find.d : DFn := { ntmps := 20, res := [.t 4], body := (.seq (.region [⟨0, some 4, .move (.k (.c (.int .i64 0))), none⟩]) (.seq (.seq (.region [⟨0, some 5, .move (.k (.c (.int .i64 0))), none⟩]) (.block 0 (.loop [0, 1, 5] hodmanref17_Find.c17))) hodmanref17_Find.c23)) }
def hodmanref17_Find.k23 (M : Mach) (C : Call) : Kont := execC M.j C (M.ag C) hodmanref17_Find.c23 ({ exits := [], ret := retK hodmanref17_Find.d } : Env) (retK hodmanref17_Find.d)
def hodmanref17_Find.e19 (M : Mach) (C : Call) : Env := { exits := (0, (hodmanref17_Find.k23 M C)) :: (({ exits := [], ret := retK hodmanref17_Find.d } : Env)).exits, ret := (({ exits := [], ret := retK hodmanref17_Find.d } : Env)).ret }
def hodmanref17_Find.L18 (M : Mach) (C : Call) (l0i : Nat) (l0o : Nat) (l0n : Nat) (at1 : Int) (i5 : Int) (G : GH) : Option Res := M.ag C [0, 1, 5] hodmanref17_Find.c17 (hodmanref17_Find.e19 M C) (hodmanref17_Find.k23 M C) [.v (.c (.sl 3 l0i l0o l0n)), .v (.c (.int .i64 at1)), .und, .und, .und, .v (.c (.int .i64 i5)), .und, .und, .und, .und, .und, .und, .und, .und, .und, .und, .und, .und, .und, .und] G
theorem hodmanref17_Find.L18_eq (M : Mach) (C : Call) (l0i : Nat) (l0o : Nat) (l0n : Nat) (at1 : Int) (i5 : Int) (G : GH) : hodmanref17_Find.L18 M C l0i l0o l0n at1 i5 G = (bif decide (i5 < ((l0n : Nat) : Int)) then guardK (decide (0 ≤ i5 ∧ i5 < ((l0n : Nat) : Int))) (((G.ld l0i ((l0o + Int.toNat i5 * 3) + 0)).bind (Cell.asI .i64)).bind fun qx_1 => bif decide (qx_1 = at1) then some ([.c (.int .i64 i5)], G) else hodmanref17_Find.L18 M C l0i l0o l0n at1 (IntKind.i64.wrap (i5 + 1)) G) else some ([.c (.int .i64 (-1))], G)) := (M.hs _ _ _ _ _ _ _).trans (by kernel_rfl)
def hodmanref17_Find.f (M : Mach) (C : Call) (l0i : Nat) (l0o : Nat) (l0n : Nat) (at1 : Int) (G : GH) : Option Res := hodmanref17_Find.L18 M C l0i l0o l0n at1 0 G
theorem hodmanref17_Find.eq (M : Mach) (C : Call) (l0i : Nat) (l0o : Nat) (l0n : Nat) (at1 : Int) (G : GH) : runF M C hodmanref17_Find.d [.c (.sl 3 l0i l0o l0n), .c (.int .i64 at1)] G = hodmanref17_Find.f M C l0i l0o l0n at1 G := by kernel_rfl

/- 48 hodman/hodmanref1.New -/
def hodmanref1_New.d : DFn := { ntmps := 30, res := [.t 8, .t 9], body := (.seq (.region [⟨0, some 4, .boxv 29 [23] (.t 0) 8, none⟩,
    ⟨1, some 8, .move (.k (.c (.int .i64 0))), none⟩,
    ⟨2, some 9, .move (.k (.c (.int .i64 0))), none⟩]) (.seq (.region [⟨0, some 13, .ldL 4 29 (.agg [.int .i64, .int .i64, .int .i64, .int .i64, .int .i64, .int .i64, .int .i64, .int .i64]), none⟩,
    ⟨1, some 14, .move (.t 2), none⟩,
    ⟨2, some 15, .move (.t 3), none⟩,
    ⟨3, some 16, .call 59 [.t 13, .t 14, .t 15] [.c (.int .i64), .c (.int .i64)], none⟩,
    ⟨4, some 12, .move (.t 16), none⟩,
    ⟨5, some 17, .ext 12 0, none⟩,
    ⟨6, some 18, .ext 12 1, none⟩,
    ⟨7, some 10, .move (.t 17), none⟩,
    ⟨8, some 11, .move (.t 18), none⟩]) (.seq (.seq (.region [⟨0, some 19, .move (.t 11), none⟩,
    ⟨1, some 20, .cmp .neq .i64 (.t 19) (.k (.c (.int .i64 0))), none⟩]) (.cond (.t 20) (.seq (.region [⟨0, some 21, .move (.t 11), none⟩,
    ⟨1, some 8, .move (.k (.c (.int .i64 0))), none⟩,
    ⟨2, some 9, .move (.t 21), none⟩]) .ret) .skip)) (.seq (.seq (.region [⟨0, some 22, .move (.t 1), none⟩,
    ⟨1, some 23, .faddr 4 2, none⟩,
    ⟨2, some 24, .ldL 23 29 (.c (.int .i64)), none⟩,
    ⟨3, some 25, .move (.t 10), none⟩,
    ⟨4, some 26, .bin .sub .i64 (.t 24) (.t 25), none⟩,
    ⟨5, some 27, .cmp .gtr .i64 (.t 22) (.t 26), none⟩]) (.cond (.t 27) (.seq (.region [⟨0, some 8, .move (.k (.c (.int .i64 0))), none⟩,
    ⟨1, some 9, .move (.k (.c (.int .i64 5))), none⟩]) .ret) .skip)) (.seq (.region [⟨0, some 28, .move (.t 10), none⟩,
    ⟨1, some 8, .move (.t 28), none⟩,
    ⟨2, some 9, .move (.k (.c (.int .i64 0))), none⟩]) .ret))))) }
def hodmanref1_New.f (M : Mach) (C : Call) (c0_0 : Int) (c0_1 : Int) (c0_2 : Int) (c0_3 : Int) (c0_4 : Int) (c0_5 : Int) (c0_6 : Int) (c0_7 : Int) (live1 : Int) (s2 : Int) (a3 : Int) (G : GH) : Option Res := (C hodmanref1_Charge.id [.agg [.int .i64 c0_0, .int .i64 c0_1, .int .i64 c0_2, .int .i64 c0_3, .int .i64 c0_4, .int .i64 c0_5, .int .i64 c0_6, .int .i64 c0_7], .c (.int .i64 s2), .c (.int .i64 a3)] G).bind fun qr_1 => (((qr_1.1[0]?).bind V1.c?).bind (Cell.asI .i64)).bind fun qx_2 => (((qr_1.1[1]?).bind V1.c?).bind (Cell.asI .i64)).bind fun qx_3 => bif (!decide (qx_3 = 0)) then some ([.c (.int .i64 0), .c (.int .i64 qx_3)], qr_1.2) else bif decide (live1 > IntKind.i64.wrap (c0_2 - qx_2)) then some ([.c (.int .i64 0), .c (.int .i64 5)], qr_1.2) else some ([.c (.int .i64 qx_2), .c (.int .i64 0)], qr_1.2)
theorem hodmanref1_New.eq (M : Mach) (C : Call) (c0_0 : Int) (c0_1 : Int) (c0_2 : Int) (c0_3 : Int) (c0_4 : Int) (c0_5 : Int) (c0_6 : Int) (c0_7 : Int) (live1 : Int) (s2 : Int) (a3 : Int) (G : GH) : runF M C hodmanref1_New.d [.agg [.int .i64 c0_0, .int .i64 c0_1, .int .i64 c0_2, .int .i64 c0_3, .int .i64 c0_4, .int .i64 c0_5, .int .i64 c0_6, .int .i64 c0_7], .c (.int .i64 live1), .c (.int .i64 s2), .c (.int .i64 a3)] G = hodmanref1_New.f M C c0_0 c0_1 c0_2 c0_3 c0_4 c0_5 c0_6 c0_7 live1 s2 a3 G := by kernel_rfl

/- 69 hodman/hodmanref1.Size -/
def hodmanref1_Size.c12 : DCode := (.seq (.seq (.region [⟨0, some 9, .move (.t 6), none⟩,
    ⟨1, some 10, .move (.t 1), none⟩,
    ⟨2, some 11, .cmp .lss .i64 (.t 9) (.t 10), none⟩]) (.cond (.t 11) .skip (.exit 0))) (.seq (.block 1 (.region [⟨0, some 14, .move (.t 5), none⟩,
    ⟨1, some 15, .bin .mul .i64 (.t 14) (.k (.c (.int .i64 2))), none⟩,
    ⟨2, some 5, .move (.t 15), none⟩])) (.region [⟨0, some 12, .move (.t 6), none⟩,
    ⟨1, some 13, .bin .add .i64 (.t 12) (.k (.c (.int .i64 1))), none⟩,
    ⟨2, some 6, .move (.t 13), none⟩])))
def hodmanref1_Size.c18 : DCode := (.seq (.region [⟨0, some 16, .move (.t 5), none⟩,
    ⟨1, some 4, .move (.t 16), none⟩]) .ret)
def hodmanref1_Size.d : DFn := { ntmps := 18, res := [.t 4], body := (.seq (.region [⟨0, some 2, .boxv 17 [7] (.t 0) 8, none⟩,
    ⟨1, some 4, .move (.k (.c (.int .i64 0))), none⟩]) (.seq (.region [⟨0, some 7, .faddr 2 0, none⟩,
    ⟨1, some 8, .ldL 7 17 (.c (.int .i64)), none⟩,
    ⟨2, some 5, .move (.t 8), none⟩]) (.seq (.seq (.region [⟨0, some 6, .move (.k (.c (.int .i64 0))), none⟩]) (.block 0 (.loop [1, 5, 6] hodmanref1_Size.c12))) hodmanref1_Size.c18))) }
def hodmanref1_Size.k18 (M : Mach) (C : Call) : Kont := execC M.j C (M.ag C) hodmanref1_Size.c18 ({ exits := [], ret := retK hodmanref1_Size.d } : Env) (retK hodmanref1_Size.d)
def hodmanref1_Size.e14 (M : Mach) (C : Call) : Env := { exits := (0, (hodmanref1_Size.k18 M C)) :: (({ exits := [], ret := retK hodmanref1_Size.d } : Env)).exits, ret := (({ exits := [], ret := retK hodmanref1_Size.d } : Env)).ret }
def hodmanref1_Size.L13 (M : Mach) (C : Call) (class1 : Int) (n5 : Int) (i6 : Int) (G : GH) : Option Res := M.ag C [1, 5, 6] hodmanref1_Size.c12 (hodmanref1_Size.e14 M C) (hodmanref1_Size.k18 M C) [.und, .v (.c (.int .i64 class1)), .und, .und, .und, .v (.c (.int .i64 n5)), .v (.c (.int .i64 i6)), .und, .und, .und, .und, .und, .und, .und, .und, .und, .und, .und] G
theorem hodmanref1_Size.L13_eq (M : Mach) (C : Call) (class1 : Int) (n5 : Int) (i6 : Int) (G : GH) : hodmanref1_Size.L13 M C class1 n5 i6 G = (bif decide (i6 < class1) then hodmanref1_Size.L13 M C class1 (IntKind.i64.wrap (n5 * 2)) (IntKind.i64.wrap (i6 + 1)) G else some ([.c (.int .i64 n5)], G)) := (M.hs _ _ _ _ _ _ _).trans (by kernel_rfl)
def hodmanref1_Size.f (M : Mach) (C : Call) (c0_0 : Int) (c0_1 : Int) (c0_2 : Int) (c0_3 : Int) (c0_4 : Int) (c0_5 : Int) (c0_6 : Int) (c0_7 : Int) (class1 : Int) (G : GH) : Option Res := hodmanref1_Size.L13 M C class1 c0_0 0 G
theorem hodmanref1_Size.eq (M : Mach) (C : Call) (c0_0 : Int) (c0_1 : Int) (c0_2 : Int) (c0_3 : Int) (c0_4 : Int) (c0_5 : Int) (c0_6 : Int) (c0_7 : Int) (class1 : Int) (G : GH) : runF M C hodmanref1_Size.d [.agg [.int .i64 c0_0, .int .i64 c0_1, .int .i64 c0_2, .int .i64 c0_3, .int .i64 c0_4, .int .i64 c0_5, .int .i64 c0_6, .int .i64 c0_7], .c (.int .i64 class1)] G = hodmanref1_Size.f M C c0_0 c0_1 c0_2 c0_3 c0_4 c0_5 c0_6 c0_7 class1 G := by kernel_rfl

/- 58 (*hodman/same.reader).knows -/
def same_reader_knows.d : DFn := { ntmps := 36, res := [.t 6], body := (.seq (.region [⟨0, some 6, .move (.k (.c (.bool false))), none⟩]) (.seq (.region [⟨0, some 10, .move (.t 0), none⟩,
    ⟨1, some 11, .nilck (.t 10), none⟩,
    ⟨2, some 12, .faddr 11 8, none⟩,
    ⟨3, some 13, .ldG 12 (.c (.map)), none⟩,
    ⟨4, some 14, .move (.t 1), none⟩,
    ⟨5, some 15, .build [.int .i64 0, .int .i64 0] [(0, 1, .t 14)], none⟩,
    ⟨6, some 16, .lkup (.agg [.int .i64, .int .i64]) (.t 13) (.t 15) (.c (.ptr 0 0)) (.c (.ptr)) true, none⟩,
    ⟨7, some 9, .move (.t 16), none⟩,
    ⟨8, some 17, .ext 9 0, none⟩,
    ⟨9, some 18, .ext 9 1, none⟩,
    ⟨10, some 7, .move (.t 17), none⟩,
    ⟨11, some 8, .move (.t 18), none⟩]) (.seq (.region [⟨0, some 19, .move (.t 8), none⟩,
    ⟨1, some 20, .move (.t 19), none⟩,
    ⟨2, some 21, .move (.t 2), some (20, true)⟩,
    ⟨3, some 22, .move (.t 7), some (20, true)⟩,
    ⟨4, some 23, .nilck (.t 22), some (20, true)⟩,
    ⟨5, some 24, .faddr 23 1, some (20, true)⟩,
    ⟨6, some 25, .ldG 24 (.c (.int .i64)), some (20, true)⟩,
    ⟨7, some 26, .cmp .lss .i64 (.t 21) (.t 25), some (20, true)⟩,
    ⟨8, some 27, .move (.t 26), some (20, true)⟩,
    ⟨9, some 28, .move (.t 7), some (27, false)⟩,
    ⟨10, some 29, .nilck (.t 28), some (27, false)⟩,
    ⟨11, some 30, .faddr 29 2, some (27, false)⟩,
    ⟨12, some 31, .ldG 30 (.c (.sl 1)), some (27, false)⟩,
    ⟨13, some 32, .move (.t 2), some (27, false)⟩,
    ⟨14, some 33, .call 71 [.t 31, .t 32] [.c (.bool)], some (27, false)⟩,
    ⟨15, some 34, .pick (.t 27) (.k (.c (.bool true))) (.t 33), some (20, true)⟩,
    ⟨16, some 35, .pick (.t 20) (.t 34) (.k (.c (.bool false))), none⟩,
    ⟨17, some 6, .move (.t 35), none⟩]) .ret))) }
def same_reader_knows.f (M : Mach) (C : Call) (r0i : Nat) (r0o : Nat) (at1 : Int) (n2 : Int) (G : GH) : Option Res := guardK (!Nat.beq r0i 0) (((G.ld r0i (r0o + 8)).bind Cell.asM).bind fun qm_1 => (G.ents0 (.agg [.int .i64, .int .i64]) qm_1).bind fun qes_2 => ((((some ((mapGet qes_2 (.agg [.int .i64 at1, .int .i64 0])).getD (.c (.ptr 0 0))))).bind V1.c?).bind Cell.asP).bind fun qp_3 => bif (mapGet qes_2 (.agg [.int .i64 at1, .int .i64 0])).isSome then guardK (!Nat.beq qp_3.1 0) (((G.ld qp_3.1 (qp_3.2 + 1)).bind (Cell.asI .i64)).bind fun qx_4 => bif decide (n2 < qx_4) then some ([.c (.bool true)], G) else guardK (!Nat.beq qp_3.1 0) (((G.ld qp_3.1 (qp_3.2 + 2)).bind (Cell.asS 1)).bind fun qs_5 => (C slices_Contains_int_int.id [.c (.sl 1 qs_5.1 qs_5.2.1 qs_5.2.2), .c (.int .i64 n2)] G).bind fun qr_6 => (((qr_6.1[0]?).bind V1.c?).bind Cell.asB).bind fun qb_7 => some ([.c (.bool qb_7)], qr_6.2))) else some ([.c (.bool false)], G))
theorem same_reader_knows.eq (M : Mach) (C : Call) (r0i : Nat) (r0o : Nat) (at1 : Int) (n2 : Int) (G : GH) : runF M C same_reader_knows.d [.c (.ptr r0i r0o), .c (.int .i64 at1), .c (.int .i64 n2)] G = same_reader_knows.f M C r0i r0o at1 n2 G := by kernel_rfl

/- 36 hodman/hodmanref17.wrong -/
def hodmanref17_wrong.d : DFn := { ntmps := 12, res := [.box 4 (some 14), .box 5 (some 8)], body := (.seq (.region [⟨0, some 2, .boxv 9 [] (.t 0) 14, none⟩,
    ⟨1, some 4, .boxz 10 [] [.int .i64 0, .int .i64 0, .int .i64 0, .int .i64 0, .int .i64 0, .int .i64 0, .int .i64 0, .int .i64 0, .sl 3 0 0 0, .int .i64 0, .int .i64 0, .int .i64 0, .sl 1 0 0 0, .sl 1 0 0 0], none⟩,
    ⟨2, some 5, .boxz 11 [] [.int .i64 0, .int .i64 0, .int .i64 0, .int .u8 0, .int .i64 0, .int .i64 0, .int .i64 0, .int .i64 0], none⟩]) (.seq (.region [⟨0, some 6, .ldL 2 9 (.agg [.int .i64, .int .i64, .int .i64, .int .i64, .int .i64, .int .i64, .int .i64, .int .i64, .sl 3, .int .i64, .int .i64, .int .i64, .sl 1, .sl 1]), none⟩,
    ⟨1, some 7, .move (.t 1), none⟩,
    ⟨2, some 8, .build [.int .i64 0, .int .i64 0, .int .i64 0, .int .u8 0, .int .i64 0, .int .i64 0, .int .i64 0, .int .i64 0] [(0, 1, .t 7)], none⟩,
    ⟨3, none, .stL 4 10 (.t 6) 14, none⟩,
    ⟨4, none, .stL 5 11 (.t 8) 8, none⟩]) .ret)) }
def hodmanref17_wrong.f (M : Mach) (C : Call) (m0_0 : Int) (m0_1 : Int) (m0_2 : Int) (m0_3 : Int) (m0_4 : Int) (m0_5 : Int) (m0_6 : Int) (m0_7 : Int) (m0_8i : Nat) (m0_8o : Nat) (m0_8n : Nat) (m0_9 : Int) (m0_10 : Int) (m0_11 : Int) (m0_12i : Nat) (m0_12o : Nat) (m0_12n : Nat) (m0_13i : Nat) (m0_13o : Nat) (m0_13n : Nat) (e1 : Int) (G : GH) : Option Res := some ([.agg [.int .i64 m0_0, .int .i64 m0_1, .int .i64 m0_2, .int .i64 m0_3, .int .i64 m0_4, .int .i64 m0_5, .int .i64 m0_6, .int .i64 m0_7, .sl 3 m0_8i m0_8o m0_8n, .int .i64 m0_9, .int .i64 m0_10, .int .i64 m0_11, .sl 1 m0_12i m0_12o m0_12n, .sl 1 m0_13i m0_13o m0_13n], .agg [.int .i64 e1, .int .i64 0, .int .i64 0, .int .u8 0, .int .i64 0, .int .i64 0, .int .i64 0, .int .i64 0]], G)
theorem hodmanref17_wrong.eq (M : Mach) (C : Call) (m0_0 : Int) (m0_1 : Int) (m0_2 : Int) (m0_3 : Int) (m0_4 : Int) (m0_5 : Int) (m0_6 : Int) (m0_7 : Int) (m0_8i : Nat) (m0_8o : Nat) (m0_8n : Nat) (m0_9 : Int) (m0_10 : Int) (m0_11 : Int) (m0_12i : Nat) (m0_12o : Nat) (m0_12n : Nat) (m0_13i : Nat) (m0_13o : Nat) (m0_13n : Nat) (e1 : Int) (G : GH) : runF M C hodmanref17_wrong.d [.agg [.int .i64 m0_0, .int .i64 m0_1, .int .i64 m0_2, .int .i64 m0_3, .int .i64 m0_4, .int .i64 m0_5, .int .i64 m0_6, .int .i64 m0_7, .sl 3 m0_8i m0_8o m0_8n, .int .i64 m0_9, .int .i64 m0_10, .int .i64 m0_11, .sl 1 m0_12i m0_12o m0_12n, .sl 1 m0_13i m0_13o m0_13n], .c (.int .i64 e1)] G = hodmanref17_wrong.f M C m0_0 m0_1 m0_2 m0_3 m0_4 m0_5 m0_6 m0_7 m0_8i m0_8o m0_8n m0_9 m0_10 m0_11 m0_12i m0_12o m0_12n m0_13i m0_13o m0_13n e1 G := by kernel_rfl

/- 68 hodman/hodmanref8.there -/
def hodmanref8_there.d : DFn := { ntmps := 27, res := [.t 6], body := (.seq (.region [⟨0, some 6, .move (.k (.c (.bool false))), none⟩]) (.seq (.region [⟨0, some 7, .move (.t 1), none⟩,
    ⟨1, some 8, .cmp .geq .i64 (.t 7) (.k (.c (.int .i64 0))), none⟩,
    ⟨2, some 9, .move (.t 8), none⟩,
    ⟨3, some 10, .move (.t 2), some (9, true)⟩,
    ⟨4, some 11, .cmp .geq .i64 (.t 10) (.k (.c (.int .i64 0))), some (9, true)⟩,
    ⟨5, some 12, .pick (.t 9) (.t 11) (.k (.c (.bool false))), none⟩,
    ⟨6, some 13, .move (.t 12), none⟩,
    ⟨7, some 14, .move (.t 1), some (13, true)⟩,
    ⟨8, some 15, .move (.t 0), some (13, true)⟩,
    ⟨9, some 16, .len (.t 15), some (13, true)⟩,
    ⟨10, some 17, .cmp .leq .i64 (.t 14) (.t 16), some (13, true)⟩,
    ⟨11, some 18, .pick (.t 13) (.t 17) (.k (.c (.bool false))), none⟩,
    ⟨12, some 19, .move (.t 18), none⟩,
    ⟨13, some 20, .move (.t 2), some (19, true)⟩,
    ⟨14, some 21, .move (.t 0), some (19, true)⟩,
    ⟨15, some 22, .len (.t 21), some (19, true)⟩,
    ⟨16, some 23, .move (.t 1), some (19, true)⟩,
    ⟨17, some 24, .bin .sub .i64 (.t 22) (.t 23), some (19, true)⟩,
    ⟨18, some 25, .cmp .leq .i64 (.t 20) (.t 24), some (19, true)⟩,
    ⟨19, some 26, .pick (.t 19) (.t 25) (.k (.c (.bool false))), none⟩,
    ⟨20, some 6, .move (.t 26), none⟩]) .ret)) }
def hodmanref8_there.f (M : Mach) (C : Call) (mem0i : Nat) (mem0o : Nat) (mem0n : Nat) (at1 : Int) (n2 : Int) (G : GH) : Option Res := bif decide (at1 ≥ 0) then bif decide (n2 ≥ 0) then bif decide (at1 ≤ ((mem0n : Nat) : Int)) then some ([.c (.bool (decide (n2 ≤ IntKind.i64.wrap (((mem0n : Nat) : Int) - at1))))], G) else some ([.c (.bool false)], G) else some ([.c (.bool false)], G) else some ([.c (.bool false)], G)
theorem hodmanref8_there.eq (M : Mach) (C : Call) (mem0i : Nat) (mem0o : Nat) (mem0n : Nat) (at1 : Int) (n2 : Int) (G : GH) : runF M C hodmanref8_there.d [.c (.sl 1 mem0i mem0o mem0n), .c (.int .i64 at1), .c (.int .i64 n2)] G = hodmanref8_there.f M C mem0i mem0o mem0n at1 n2 G := by kernel_rfl

/- 53 hodman/hodmanref1.Anew -/
def hodmanref1_Anew.d : DFn := { ntmps := 19, res := [.t 8, .t 9], body := (.seq (.region [⟨0, some 4, .boxv 18 [] (.t 0) 8, none⟩,
    ⟨1, some 8, .move (.k (.c (.int .i64 0))), none⟩,
    ⟨2, some 9, .move (.k (.c (.int .i64 0))), none⟩]) (.seq (.region [⟨0, some 10, .ldL 4 18 (.agg [.int .i64, .int .i64, .int .i64, .int .i64, .int .i64, .int .i64, .int .i64, .int .i64]), none⟩,
    ⟨1, some 11, .move (.t 1), none⟩,
    ⟨2, some 12, .move (.t 2), none⟩,
    ⟨3, some 13, .bin .sub .i64 (.t 11) (.t 12), none⟩,
    ⟨4, some 14, .move (.t 3), none⟩,
    ⟨5, some 15, .call 48 [.t 10, .t 13, .t 14, .k (.c (.int .i64 1))] [.c (.int .i64), .c (.int .i64)], none⟩,
    ⟨6, some 16, .ext 15 0, none⟩,
    ⟨7, some 17, .ext 15 1, none⟩,
    ⟨8, some 8, .move (.t 16), none⟩,
    ⟨9, some 9, .move (.t 17), none⟩]) .ret)) }
def hodmanref1_Anew.f (M : Mach) (C : Call) (c0_0 : Int) (c0_1 : Int) (c0_2 : Int) (c0_3 : Int) (c0_4 : Int) (c0_5 : Int) (c0_6 : Int) (c0_7 : Int) (live1 : Int) (old2 : Int) (s3 : Int) (G : GH) : Option Res := (C hodmanref1_New.id [.agg [.int .i64 c0_0, .int .i64 c0_1, .int .i64 c0_2, .int .i64 c0_3, .int .i64 c0_4, .int .i64 c0_5, .int .i64 c0_6, .int .i64 c0_7], .c (.int .i64 (IntKind.i64.wrap (live1 - old2))), .c (.int .i64 s3), .c (.int .i64 1)] G).bind fun qr_1 => (((qr_1.1[0]?).bind V1.c?).bind (Cell.asI .i64)).bind fun qx_2 => (((qr_1.1[1]?).bind V1.c?).bind (Cell.asI .i64)).bind fun qx_3 => some ([.c (.int .i64 qx_2), .c (.int .i64 qx_3)], qr_1.2)
theorem hodmanref1_Anew.eq (M : Mach) (C : Call) (c0_0 : Int) (c0_1 : Int) (c0_2 : Int) (c0_3 : Int) (c0_4 : Int) (c0_5 : Int) (c0_6 : Int) (c0_7 : Int) (live1 : Int) (old2 : Int) (s3 : Int) (G : GH) : runF M C hodmanref1_Anew.d [.agg [.int .i64 c0_0, .int .i64 c0_1, .int .i64 c0_2, .int .i64 c0_3, .int .i64 c0_4, .int .i64 c0_5, .int .i64 c0_6, .int .i64 c0_7], .c (.int .i64 live1), .c (.int .i64 old2), .c (.int .i64 s3)] G = hodmanref1_Anew.f M C c0_0 c0_1 c0_2 c0_3 c0_4 c0_5 c0_6 c0_7 live1 old2 s3 G := by kernel_rfl

/- 52 hodman/hodmanref8.Over -/
def hodmanref8_Over.d : DFn := { ntmps := 25, res := [.t 4], body := (.seq (.region [⟨0, some 2, .boxv 23 [5, 16, 18] (.t 0) 2, none⟩,
    ⟨1, some 3, .boxv 24 [7, 9, 14] (.t 1) 2, none⟩,
    ⟨2, some 4, .move (.k (.c (.bool false))), none⟩]) (.seq (.region [⟨0, some 5, .faddr 2 0, none⟩,
    ⟨1, some 6, .ldL 5 23 (.c (.int .i64)), none⟩,
    ⟨2, some 7, .faddr 3 0, none⟩,
    ⟨3, some 8, .ldL 7 24 (.c (.int .i64)), none⟩,
    ⟨4, some 9, .faddr 3 1, none⟩,
    ⟨5, some 10, .ldL 9 24 (.c (.int .i64)), none⟩,
    ⟨6, some 11, .bin .add .i64 (.t 8) (.t 10), none⟩,
    ⟨7, some 12, .cmp .lss .i64 (.t 6) (.t 11), none⟩,
    ⟨8, some 13, .move (.t 12), none⟩,
    ⟨9, some 14, .faddr 3 0, some (13, true)⟩,
    ⟨10, some 15, .ldL 14 24 (.c (.int .i64)), some (13, true)⟩,
    ⟨11, some 16, .faddr 2 0, some (13, true)⟩,
    ⟨12, some 17, .ldL 16 23 (.c (.int .i64)), some (13, true)⟩,
    ⟨13, some 18, .faddr 2 1, some (13, true)⟩,
    ⟨14, some 19, .ldL 18 23 (.c (.int .i64)), some (13, true)⟩,
    ⟨15, some 20, .bin .add .i64 (.t 17) (.t 19), some (13, true)⟩,
    ⟨16, some 21, .cmp .lss .i64 (.t 15) (.t 20), some (13, true)⟩,
    ⟨17, some 22, .pick (.t 13) (.t 21) (.k (.c (.bool false))), none⟩,
    ⟨18, some 4, .move (.t 22), none⟩]) .ret)) }
def hodmanref8_Over.f (M : Mach) (C : Call) (a0_0 : Int) (a0_1 : Int) (b1_0 : Int) (b1_1 : Int) (G : GH) : Option Res := bif decide (a0_0 < IntKind.i64.wrap (b1_0 + b1_1)) then some ([.c (.bool (decide (b1_0 < IntKind.i64.wrap (a0_0 + a0_1))))], G) else some ([.c (.bool false)], G)
theorem hodmanref8_Over.eq (M : Mach) (C : Call) (a0_0 : Int) (a0_1 : Int) (b1_0 : Int) (b1_1 : Int) (G : GH) : runF M C hodmanref8_Over.d [.agg [.int .i64 a0_0, .int .i64 a0_1], .agg [.int .i64 b1_0, .int .i64 b1_1]] G = hodmanref8_Over.f M C a0_0 a0_1 b1_0 b1_1 G := by kernel_rfl

/- 73 hodman/hodmanref8.Byte -/
def hodmanref8_Byte.d : DFn := { ntmps := 20, res := [.t 6], body := (.seq (.region [⟨0, some 6, .move (.k (.c (.int .u8 0))), none⟩]) (.seq (.region [⟨0, some 7, .move (.t 0), none⟩,
    ⟨1, some 8, .bin .rem .i64 (.t 7) (.k (.c (.int .i64 256))), none⟩,
    ⟨2, some 9, .move (.t 1), none⟩,
    ⟨3, some 10, .bin .rem .i64 (.t 9) (.k (.c (.int .i64 256))), none⟩,
    ⟨4, some 11, .bin .mul .i64 (.k (.c (.int .i64 31))) (.t 10), none⟩,
    ⟨5, some 12, .bin .add .i64 (.t 8) (.t 11), none⟩,
    ⟨6, some 13, .move (.t 2), none⟩,
    ⟨7, some 14, .bin .rem .i64 (.t 13) (.k (.c (.int .i64 256))), none⟩,
    ⟨8, some 15, .bin .mul .i64 (.k (.c (.int .i64 7))) (.t 14), none⟩,
    ⟨9, some 16, .bin .add .i64 (.t 12) (.t 15), none⟩,
    ⟨10, some 17, .bin .add .i64 (.t 16) (.k (.c (.int .i64 1))), none⟩,
    ⟨11, some 18, .bin .rem .i64 (.t 17) (.k (.c (.int .i64 256))), none⟩,
    ⟨12, some 19, .conv .u8 (.t 18), none⟩,
    ⟨13, some 6, .move (.t 19), none⟩]) .ret)) }
def hodmanref8_Byte.f (M : Mach) (C : Call) (seed0 : Int) (page1 : Int) (i2 : Int) (G : GH) : Option Res := some ([.c (.int .u8 (IntKind.u8.wrap (Int.tmod (IntKind.i64.wrap ((IntKind.i64.wrap ((IntKind.i64.wrap ((Int.tmod seed0 256) + (IntKind.i64.wrap (31 * (Int.tmod page1 256))))) + (IntKind.i64.wrap (7 * (Int.tmod i2 256))))) + 1)) 256)))], G)
theorem hodmanref8_Byte.eq (M : Mach) (C : Call) (seed0 : Int) (page1 : Int) (i2 : Int) (G : GH) : runF M C hodmanref8_Byte.d [.c (.int .i64 seed0), .c (.int .i64 page1), .c (.int .i64 i2)] G = hodmanref8_Byte.f M C seed0 page1 i2 G := by kernel_rfl

/- 29 (*hodman/hodmanplay.Picks).Over -/
def hodmanplay_Picks_Over.d : DFn := { ntmps := 13, res := [.t 2], body := (.seq (.region [⟨0, some 2, .move (.k (.c (.bool false))), none⟩]) (.seq (.region [⟨0, some 3, .move (.t 0), none⟩,
    ⟨1, some 4, .nilck (.t 3), none⟩,
    ⟨2, some 5, .faddr 4 1, none⟩,
    ⟨3, some 6, .ldG 5 (.c (.int .i64)), none⟩,
    ⟨4, some 7, .move (.t 0), none⟩,
    ⟨5, some 8, .nilck (.t 7), none⟩,
    ⟨6, some 9, .faddr 8 0, none⟩,
    ⟨7, some 10, .ldG 9 (.c (.sl 1)), none⟩,
    ⟨8, some 11, .len (.t 10), none⟩,
    ⟨9, some 12, .cmp .geq .i64 (.t 6) (.t 11), none⟩,
    ⟨10, some 2, .move (.t 12), none⟩]) .ret)) }
def hodmanplay_Picks_Over.f (M : Mach) (C : Call) (p0i : Nat) (p0o : Nat) (G : GH) : Option Res := guardK (!Nat.beq p0i 0) (((G.ld p0i (p0o + 1)).bind (Cell.asI .i64)).bind fun qx_1 => guardK (!Nat.beq p0i 0) (((G.ld p0i (p0o + 0)).bind (Cell.asS 1)).bind fun qs_2 => some ([.c (.bool (decide (qx_1 ≥ ((qs_2.2.2 : Nat) : Int))))], G)))
theorem hodmanplay_Picks_Over.eq (M : Mach) (C : Call) (p0i : Nat) (p0o : Nat) (G : GH) : runF M C hodmanplay_Picks_Over.d [.c (.ptr p0i p0o)] G = hodmanplay_Picks_Over.f M C p0i p0o G := by kernel_rfl

/- 71 slices.Contains[[]int,int] -/
def slices_Contains_int_int.d : DFn := { ntmps := 9, res := [.t 4], body := (.seq (.region [⟨0, some 4, .move (.k (.c (.bool false))), none⟩]) (.seq (.region [⟨0, some 5, .move (.t 0), none⟩,
    ⟨1, some 6, .move (.t 1), none⟩,
    ⟨2, some 7, .call 76 [.t 5, .t 6] [.c (.int .i64)], none⟩,
    ⟨3, some 8, .cmp .geq .i64 (.t 7) (.k (.c (.int .i64 0))), none⟩,
    ⟨4, some 4, .move (.t 8), none⟩]) .ret)) }
def slices_Contains_int_int.f (M : Mach) (C : Call) (s0i : Nat) (s0o : Nat) (s0n : Nat) (v1 : Int) (G : GH) : Option Res := (C slices_Index_int_int.id [.c (.sl 1 s0i s0o s0n), .c (.int .i64 v1)] G).bind fun qr_1 => (((qr_1.1[0]?).bind V1.c?).bind (Cell.asI .i64)).bind fun qx_2 => some ([.c (.bool (decide (qx_2 ≥ 0)))], qr_1.2)
theorem slices_Contains_int_int.eq (M : Mach) (C : Call) (s0i : Nat) (s0o : Nat) (s0n : Nat) (v1 : Int) (G : GH) : runF M C slices_Contains_int_int.d [.c (.sl 1 s0i s0o s0n), .c (.int .i64 v1)] G = slices_Contains_int_int.f M C s0i s0o s0n v1 G := by kernel_rfl

/- 26 hodman/same.Same -/
def same_Same.d : DFn := { ntmps := 8, res := [.t 4], body := (.seq (.region [⟨0, some 4, .move (.k (.c (.bool false))), none⟩]) (.seq (.region [⟨0, some 5, .move (.t 0), none⟩,
    ⟨1, some 6, .move (.t 1), none⟩,
    ⟨2, some 7, .call 41 [.t 5, .t 6] [.c (.bool)], none⟩,
    ⟨3, some 4, .move (.t 7), none⟩]) .ret)) }
def same_Same.f (M : Mach) (C : Call) (a0i : Nat) (a0o : Nat) (a0n : Nat) (b1i : Nat) (b1o : Nat) (b1n : Nat) (G : GH) : Option Res := (C api_Ans.id [.c (.sl 8 a0i a0o a0n), .c (.sl 8 b1i b1o b1n)] G).bind fun qr_1 => (((qr_1.1[0]?).bind V1.c?).bind Cell.asB).bind fun qb_2 => some ([.c (.bool qb_2)], qr_1.2)
theorem same_Same.eq (M : Mach) (C : Call) (a0i : Nat) (a0o : Nat) (a0n : Nat) (b1i : Nat) (b1o : Nat) (b1n : Nat) (G : GH) : runF M C same_Same.d [.c (.sl 8 a0i a0o a0n), .c (.sl 8 b1i b1o b1n)] G = same_Same.f M C a0i a0o a0n b1i b1o b1n G := by kernel_rfl

/- 13 hodman/hodmanplay.Made -/
def hodmanplay_Made.d : DFn := { ntmps := 6, res := [.t 2], body := (.seq (.region [⟨0, some 2, .move (.k (.c (.ptr 0 0))), none⟩]) (.seq (.region [⟨0, some 3, .move (.t 0), none⟩,
    ⟨1, some 4, .build [.sl 1 0 0 0, .int .i64 0] [(0, 1, .t 3)], none⟩,
    ⟨2, some 5, .newv (.t 4) 2, none⟩,
    ⟨3, some 2, .move (.t 5), none⟩]) .ret)) }
def hodmanplay_Made.f (M : Mach) (C : Call) (l0i : Nat) (l0o : Nat) (l0n : Nat) (G : GH) : Option Res := let qG_1 := G.alloc (.row [.sl 1 l0i l0o l0n, .int .i64 0] false); some ([.c (.ptr G.next 0)], qG_1)
theorem hodmanplay_Made.eq (M : Mach) (C : Call) (l0i : Nat) (l0o : Nat) (l0n : Nat) (G : GH) : runF M C hodmanplay_Made.d [.c (.sl 1 l0i l0o l0n)] G = hodmanplay_Made.f M C l0i l0o l0n G := by kernel_rfl
end Go.Proofs.D
