/- Texts of the proof (T3); no condition. -/
import Derived.Test.YtdanddamihficaaFairChargea
import Derived.KernelRfl
set_option linter.unusedSimpArgs false
set_option linter.unusedVariables false
set_option linter.unusedVariables false
set_option maxRecDepth 100000
namespace Go.Proofs.D
open Go
/- 51 hodman/hodmanref8.Zero -/
def hodmanref8_Zero.c19 : DCode := (.seq (.seq (.region [⟨0, some 19, .move (.t 9), none⟩,
    ⟨1, some 20, .move (.t 2), none⟩,
    ⟨2, some 21, .cmp .lss .i64 (.t 19) (.t 20), none⟩]) (.cond (.t 21) .skip (.exit 0))) (.seq (.block 1 (.region [⟨0, some 24, .move (.t 8), none⟩,
    ⟨1, some 25, .move (.t 1), none⟩,
    ⟨2, some 26, .move (.t 9), none⟩,
    ⟨3, some 27, .bin .add .i64 (.t 25) (.t 26), none⟩,
    ⟨4, some 28, .iaddr (.t 24) (.t 27) 1, none⟩,
    ⟨5, none, .stG 28 (.k (.c (.int .u8 0))) 1, none⟩])) (.region [⟨0, some 22, .move (.t 9), none⟩,
    ⟨1, some 23, .bin .add .i64 (.t 22) (.k (.c (.int .i64 1))), none⟩,
    ⟨2, some 9, .move (.t 23), none⟩])))
def hodmanref8_Zero.c25 : DCode := (.seq (.region [⟨0, some 29, .move (.t 8), none⟩,
    ⟨1, some 6, .move (.t 29), none⟩,
    ⟨2, some 7, .move (.k (.c (.bool true))), none⟩]) .ret)
def hodmanref8_Zero.d : DFn := { ntmps := 30, res := [.t 6, .t 7], body := (.seq (.region [⟨0, some 6, .move (.k (.c (.sl 1 0 0 0))), none⟩,
    ⟨1, some 7, .move (.k (.c (.bool false))), none⟩]) (.seq (.seq (.region [⟨0, some 10, .move (.t 0), none⟩,
    ⟨1, some 11, .move (.t 1), none⟩,
    ⟨2, some 12, .move (.t 2), none⟩,
    ⟨3, some 13, .call 68 [.t 10, .t 11, .t 12] [.c (.bool)], none⟩,
    ⟨4, some 14, .not (.t 13), none⟩]) (.cond (.t 14) (.seq (.region [⟨0, some 15, .move (.t 0), none⟩,
    ⟨1, some 6, .move (.t 15), none⟩,
    ⟨2, some 7, .move (.k (.c (.bool false))), none⟩]) .ret) .skip)) (.seq (.region [⟨0, some 16, .bslice 0 1 [] [], none⟩,
    ⟨1, some 17, .move (.t 0), none⟩,
    ⟨2, some 18, .app (.t 16) (.t 17) 1 1, none⟩,
    ⟨3, some 8, .move (.t 18), none⟩]) (.seq (.seq (.region [⟨0, some 9, .move (.k (.c (.int .i64 0))), none⟩]) (.block 0 (.loop [1, 2, 8, 9] hodmanref8_Zero.c19))) hodmanref8_Zero.c25)))) }
def hodmanref8_Zero.k25 (M : Mach) (C : Call) : Kont := execC M.j C (M.ag C) hodmanref8_Zero.c25 ({ exits := [], ret := retK hodmanref8_Zero.d } : Env) (retK hodmanref8_Zero.d)
def hodmanref8_Zero.e21 (M : Mach) (C : Call) : Env := { exits := (0, (hodmanref8_Zero.k25 M C)) :: (({ exits := [], ret := retK hodmanref8_Zero.d } : Env)).exits, ret := (({ exits := [], ret := retK hodmanref8_Zero.d } : Env)).ret }
def hodmanref8_Zero.L20 (M : Mach) (C : Call) (at1 : Int) (n2 : Int) (out8i : Nat) (out8o : Nat) (out8n : Nat) (i9 : Int) (G : GH) : Option Res := M.ag C [1, 2, 8, 9] hodmanref8_Zero.c19 (hodmanref8_Zero.e21 M C) (hodmanref8_Zero.k25 M C) [.und, .v (.c (.int .i64 at1)), .v (.c (.int .i64 n2)), .und, .und, .und, .und, .und, .v (.c (.sl 1 out8i out8o out8n)), .v (.c (.int .i64 i9)), .und, .und, .und, .und, .und, .und, .und, .und, .und, .und, .und, .und, .und, .und, .und, .und, .und, .und, .und, .und] G
theorem hodmanref8_Zero.L20_eq (M : Mach) (C : Call) (at1 : Int) (n2 : Int) (out8i : Nat) (out8o : Nat) (out8n : Nat) (i9 : Int) (G : GH) : hodmanref8_Zero.L20 M C at1 n2 out8i out8o out8n i9 G = (bif decide (i9 < n2) then guardK (decide (0 ≤ IntKind.i64.wrap (at1 + i9) ∧ IntKind.i64.wrap (at1 + i9) < ((out8n : Nat) : Int))) ((G.sts out8i (out8o + Int.toNat (IntKind.i64.wrap (at1 + i9)) * 1) [.int .u8 0]).bind fun qG_6 => hodmanref8_Zero.L20 M C at1 n2 out8i out8o out8n (IntKind.i64.wrap (i9 + 1)) qG_6) else some ([.c (.sl 1 out8i out8o out8n), .c (.bool true)], G)) := (M.hs _ _ _ _ _ _ _).trans (by kernel_rfl)
def hodmanref8_Zero.f (M : Mach) (C : Call) (mem0i : Nat) (mem0o : Nat) (mem0n : Nat) (at1 : Int) (n2 : Int) (G : GH) : Option Res := (C hodmanref8_there.id [.c (.sl 1 mem0i mem0o mem0n), .c (.int .i64 at1), .c (.int .i64 n2)] G).bind fun qr_1 => (((qr_1.1[0]?).bind V1.c?).bind Cell.asB).bind fun qb_2 => bif (!qb_2) then some ([.c (.sl 1 mem0i mem0o mem0n), .c (.bool false)], qr_1.2) else let qG_3 := qr_1.2.alloc (.row [] false); (if mem0n = 0 then some [] else qG_3.lds mem0i mem0o (mem0n * 1)).bind fun qnew_4 => guardK (decide (0 + mem0n ≤ most)) ((qG_3.app qr_1.2.next 0 0 1 mem0n qnew_4).bind fun qp_5 => hodmanref8_Zero.L20 M C at1 n2 qp_5.1 qp_5.2.1 (0 + mem0n) 0 qp_5.2.2)
theorem hodmanref8_Zero.eq (M : Mach) (C : Call) (mem0i : Nat) (mem0o : Nat) (mem0n : Nat) (at1 : Int) (n2 : Int) (G : GH) : runF M C hodmanref8_Zero.d [.c (.sl 1 mem0i mem0o mem0n), .c (.int .i64 at1), .c (.int .i64 n2)] G = hodmanref8_Zero.f M C mem0i mem0o mem0n at1 n2 G := by kernel_rfl

/- 34 hodman/hodmanref8.Count -/
def hodmanref8_Count.c14 : DCode := (.region [⟨0, some 9, .move (.t 4), none⟩,
    ⟨1, some 10, .bin .add .i64 (.t 9) (.k (.c (.int .i64 1))), none⟩,
    ⟨2, some 4, .move (.t 10), none⟩])
def hodmanref8_Count.c16 : DCode := (.seq (.seq (.region [⟨0, some 5, .move (.t 4), none⟩,
    ⟨1, some 6, .move (.t 0), none⟩,
    ⟨2, some 7, .len (.t 6), none⟩,
    ⟨3, some 8, .cmp .lss .i64 (.t 5) (.t 7), none⟩]) (.cond (.t 8) .skip (.exit 0))) (.seq (.block 1 (.seq (.region [⟨0, some 11, .move (.t 0), none⟩,
    ⟨1, some 12, .move (.t 4), none⟩,
    ⟨2, some 13, .iaddr (.t 11) (.t 12) 1, none⟩,
    ⟨3, some 14, .ldG 13 (.c (.bool)), none⟩]) (.cond (.t 14) (.region [⟨0, some 15, .move (.t 3), none⟩,
    ⟨1, some 16, .bin .add .i64 (.t 15) (.k (.c (.int .i64 1))), none⟩,
    ⟨2, some 3, .move (.t 16), none⟩]) .skip))) (.cut [0, 3, 4] hodmanref8_Count.c14)))
def hodmanref8_Count.c17 : DCode := (.loop [0, 3, 4] hodmanref8_Count.c16)
def hodmanref8_Count.c22 : DCode := (.seq (.region [⟨0, some 17, .move (.t 3), none⟩,
    ⟨1, some 2, .move (.t 17), none⟩]) .ret)
def hodmanref8_Count.d : DFn := { ntmps := 18, res := [.t 2], body := (.seq (.region [⟨0, some 2, .move (.k (.c (.int .i64 0))), none⟩]) (.seq (.region [⟨0, some 3, .move (.k (.c (.int .i64 0))), none⟩]) (.seq (.seq (.region [⟨0, some 4, .move (.k (.c (.int .i64 0))), none⟩]) (.block 0 hodmanref8_Count.c17)) hodmanref8_Count.c22))) }
def hodmanref8_Count.k22 (M : Mach) (C : Call) : Kont := execC M.j C (M.ag C) hodmanref8_Count.c22 ({ exits := [], ret := retK hodmanref8_Count.d } : Env) (retK hodmanref8_Count.d)
def hodmanref8_Count.e18 (M : Mach) (C : Call) : Env := { exits := (0, (hodmanref8_Count.k22 M C)) :: (({ exits := [], ret := retK hodmanref8_Count.d } : Env)).exits, ret := (({ exits := [], ret := retK hodmanref8_Count.d } : Env)).ret }
def hodmanref8_Count.L17 (M : Mach) (C : Call) (l0i : Nat) (l0o : Nat) (l0n : Nat) (n3 : Int) (i4 : Int) (G : GH) : Option Res := M.ag C [0, 3, 4] hodmanref8_Count.c16 (hodmanref8_Count.e18 M C) (hodmanref8_Count.k22 M C) [.v (.c (.sl 1 l0i l0o l0n)), .und, .und, .v (.c (.int .i64 n3)), .v (.c (.int .i64 i4)), .und, .und, .und, .und, .und, .und, .und, .und, .und, .und, .und, .und, .und] G
def hodmanref8_Count.k17 (M : Mach) (C : Call) : Kont := fun tm G => M.ag C [0, 3, 4] hodmanref8_Count.c16 (hodmanref8_Count.e18 M C) (hodmanref8_Count.k22 M C) (restr [0, 3, 4] 0 tm) G
def hodmanref8_Count.J14 (M : Mach) (C : Call) (l0i : Nat) (l0o : Nat) (l0n : Nat) (n3 : Int) (i4 : Int) (G : GH) : Option Res := M.j (execC M.j C (M.ag C) hodmanref8_Count.c14 (hodmanref8_Count.e18 M C) (hodmanref8_Count.k17 M C)) [.v (.c (.sl 1 l0i l0o l0n)), .und, .und, .v (.c (.int .i64 n3)), .v (.c (.int .i64 i4)), .und, .und, .und, .und, .und, .und, .und, .und, .und, .und, .und, .und, .und] G
theorem hodmanref8_Count.L17_eq (M : Mach) (C : Call) (l0i : Nat) (l0o : Nat) (l0n : Nat) (n3 : Int) (i4 : Int) (G : GH) : hodmanref8_Count.L17 M C l0i l0o l0n n3 i4 G = (bif decide (i4 < ((l0n : Nat) : Int)) then guardK (decide (0 ≤ i4 ∧ i4 < ((l0n : Nat) : Int))) (((G.ld l0i (l0o + Int.toNat i4 * 1)).bind Cell.asB).bind fun qb_1 => bif qb_1 then hodmanref8_Count.J14 M C l0i l0o l0n (IntKind.i64.wrap (n3 + 1)) i4 G else hodmanref8_Count.J14 M C l0i l0o l0n n3 i4 G) else some ([.c (.int .i64 n3)], G)) := (M.hs _ _ _ _ _ _ _).trans (by kernel_rfl)
theorem hodmanref8_Count.J14_eq (M : Mach) (C : Call) (l0i : Nat) (l0o : Nat) (l0n : Nat) (n3 : Int) (i4 : Int) (G : GH) : hodmanref8_Count.J14 M C l0i l0o l0n n3 i4 G = (hodmanref8_Count.L17 M C l0i l0o l0n n3 (IntKind.i64.wrap (i4 + 1)) G) := (M.hj _ _ _).trans (by kernel_rfl)
def hodmanref8_Count.f (M : Mach) (C : Call) (l0i : Nat) (l0o : Nat) (l0n : Nat) (G : GH) : Option Res := hodmanref8_Count.L17 M C l0i l0o l0n 0 0 G
theorem hodmanref8_Count.eq (M : Mach) (C : Call) (l0i : Nat) (l0o : Nat) (l0n : Nat) (G : GH) : runF M C hodmanref8_Count.d [.c (.sl 1 l0i l0o l0n)] G = hodmanref8_Count.f M C l0i l0o l0n G := by kernel_rfl

/- 44 hodman/hodmanref1.Log -/
def hodmanref1_Log.c22 : DCode := (.region [⟨0, some 8, .move (.t 5), none⟩,
    ⟨1, some 9, .bin .add .i64 (.t 8) (.k (.c (.int .i64 1))), none⟩,
    ⟨2, some 5, .move (.t 9), none⟩])
def hodmanref1_Log.c24 : DCode := (.seq (.seq (.region [⟨0, some 6, .move (.t 5), none⟩,
    ⟨1, some 7, .cmp .lss .i64 (.t 6) (.k (.c (.int .i64 63))), none⟩]) (.cond (.t 7) .skip (.exit 0))) (.seq (.block 1 (.seq (.seq (.region [⟨0, some 10, .move (.t 4), none⟩,
    ⟨1, some 11, .move (.t 0), none⟩,
    ⟨2, some 12, .cmp .eql .i64 (.t 10) (.t 11), none⟩]) (.cond (.t 12) (.seq (.region [⟨0, some 13, .move (.t 5), none⟩,
    ⟨1, some 2, .move (.t 13), none⟩,
    ⟨2, some 3, .move (.k (.c (.bool true))), none⟩]) .ret) .skip)) (.seq (.region [⟨0, some 14, .move (.t 5), none⟩,
    ⟨1, some 15, .cmp .lss .i64 (.t 14) (.k (.c (.int .i64 62))), none⟩]) (.cond (.t 15) (.region [⟨0, some 16, .move (.t 4), none⟩,
    ⟨1, some 17, .bin .mul .i64 (.t 16) (.k (.c (.int .i64 2))), none⟩,
    ⟨2, some 4, .move (.t 17), none⟩]) .skip)))) (.cut [0, 4, 5] hodmanref1_Log.c22)))
def hodmanref1_Log.c25 : DCode := (.loop [0, 4, 5] hodmanref1_Log.c24)
def hodmanref1_Log.c30 : DCode := (.seq (.region [⟨0, some 2, .move (.k (.c (.int .i64 0))), none⟩,
    ⟨1, some 3, .move (.k (.c (.bool false))), none⟩]) .ret)
def hodmanref1_Log.d : DFn := { ntmps := 18, res := [.t 2, .t 3], body := (.seq (.region [⟨0, some 2, .move (.k (.c (.int .i64 0))), none⟩,
    ⟨1, some 3, .move (.k (.c (.bool false))), none⟩]) (.seq (.region [⟨0, some 4, .move (.k (.c (.int .i64 1))), none⟩]) (.seq (.seq (.region [⟨0, some 5, .move (.k (.c (.int .i64 0))), none⟩]) (.block 0 hodmanref1_Log.c25)) hodmanref1_Log.c30))) }
def hodmanref1_Log.k30 (M : Mach) (C : Call) : Kont := execC M.j C (M.ag C) hodmanref1_Log.c30 ({ exits := [], ret := retK hodmanref1_Log.d } : Env) (retK hodmanref1_Log.d)
def hodmanref1_Log.e26 (M : Mach) (C : Call) : Env := { exits := (0, (hodmanref1_Log.k30 M C)) :: (({ exits := [], ret := retK hodmanref1_Log.d } : Env)).exits, ret := (({ exits := [], ret := retK hodmanref1_Log.d } : Env)).ret }
def hodmanref1_Log.L25 (M : Mach) (C : Call) (v0 : Int) (p4 : Int) (n5 : Int) (G : GH) : Option Res := M.ag C [0, 4, 5] hodmanref1_Log.c24 (hodmanref1_Log.e26 M C) (hodmanref1_Log.k30 M C) [.v (.c (.int .i64 v0)), .und, .und, .und, .v (.c (.int .i64 p4)), .v (.c (.int .i64 n5)), .und, .und, .und, .und, .und, .und, .und, .und, .und, .und, .und, .und] G
def hodmanref1_Log.k25 (M : Mach) (C : Call) : Kont := fun tm G => M.ag C [0, 4, 5] hodmanref1_Log.c24 (hodmanref1_Log.e26 M C) (hodmanref1_Log.k30 M C) (restr [0, 4, 5] 0 tm) G
def hodmanref1_Log.J22 (M : Mach) (C : Call) (v0 : Int) (p4 : Int) (n5 : Int) (G : GH) : Option Res := M.j (execC M.j C (M.ag C) hodmanref1_Log.c22 (hodmanref1_Log.e26 M C) (hodmanref1_Log.k25 M C)) [.v (.c (.int .i64 v0)), .und, .und, .und, .v (.c (.int .i64 p4)), .v (.c (.int .i64 n5)), .und, .und, .und, .und, .und, .und, .und, .und, .und, .und, .und, .und] G
theorem hodmanref1_Log.L25_eq (M : Mach) (C : Call) (v0 : Int) (p4 : Int) (n5 : Int) (G : GH) : hodmanref1_Log.L25 M C v0 p4 n5 G = (bif decide (n5 < 63) then bif decide (p4 = v0) then some ([.c (.int .i64 n5), .c (.bool true)], G) else bif decide (n5 < 62) then hodmanref1_Log.J22 M C v0 (IntKind.i64.wrap (p4 * 2)) n5 G else hodmanref1_Log.J22 M C v0 p4 n5 G else some ([.c (.int .i64 0), .c (.bool false)], G)) := (M.hs _ _ _ _ _ _ _).trans (by kernel_rfl)
theorem hodmanref1_Log.J22_eq (M : Mach) (C : Call) (v0 : Int) (p4 : Int) (n5 : Int) (G : GH) : hodmanref1_Log.J22 M C v0 p4 n5 G = (hodmanref1_Log.L25 M C v0 p4 (IntKind.i64.wrap (n5 + 1)) G) := (M.hj _ _ _).trans (by kernel_rfl)
def hodmanref1_Log.f (M : Mach) (C : Call) (v0 : Int) (G : GH) : Option Res := hodmanref1_Log.L25 M C v0 1 0 G
theorem hodmanref1_Log.eq (M : Mach) (C : Call) (v0 : Int) (G : GH) : runF M C hodmanref1_Log.d [.c (.int .i64 v0)] G = hodmanref1_Log.f M C v0 G := by kernel_rfl

/- 42 hodman/hodmanref1.Up -/
def hodmanref1_Up.c6 : DCode := (.cond (.t 10) (.seq (.region [⟨0, some 2, .move (.k (.c (.int .i64 0))), none⟩,
    ⟨1, some 3, .move (.k (.c (.bool false))), none⟩]) .ret) .skip)
def hodmanref1_Up.c16 : DCode := (.seq (.seq (.region [⟨0, some 11, .move (.t 4), none⟩,
    ⟨1, some 12, .move (.t 0), none⟩,
    ⟨2, some 13, .cmp .lss .i64 (.t 11) (.t 12), none⟩]) (.cond (.t 13) .skip (.exit 0))) (.block 1 (.region [⟨0, some 14, .move (.t 4), none⟩,
    ⟨1, some 15, .bin .mul .i64 (.t 14) (.k (.c (.int .i64 2))), none⟩,
    ⟨2, some 4, .move (.t 15), none⟩])))
def hodmanref1_Up.c21 : DCode := (.seq (.region [⟨0, some 16, .move (.t 4), none⟩,
    ⟨1, some 2, .move (.t 16), none⟩,
    ⟨2, some 3, .move (.k (.c (.bool true))), none⟩]) .ret)
def hodmanref1_Up.c23 : DCode := (.seq (.region [⟨0, some 4, .move (.k (.c (.int .i64 1))), none⟩]) (.seq (.block 0 (.loop [0, 4] hodmanref1_Up.c16)) hodmanref1_Up.c21))
def hodmanref1_Up.d : DFn := { ntmps := 17, res := [.t 2, .t 3], body := (.seq (.region [⟨0, some 2, .move (.k (.c (.int .i64 0))), none⟩,
    ⟨1, some 3, .move (.k (.c (.bool false))), none⟩]) (.seq (.seq (.region [⟨0, some 5, .move (.t 0), none⟩,
    ⟨1, some 6, .cmp .lss .i64 (.t 5) (.k (.c (.int .i64 1))), none⟩,
    ⟨2, some 7, .move (.t 6), none⟩,
    ⟨3, some 8, .move (.t 0), some (7, false)⟩,
    ⟨4, some 9, .cmp .gtr .i64 (.t 8) (.k (.c (.int .i64 4611686018427387904))), some (7, false)⟩,
    ⟨5, some 10, .pick (.t 7) (.k (.c (.bool true))) (.t 9), none⟩]) (.cut [0, 10] hodmanref1_Up.c6)) hodmanref1_Up.c23)) }
def hodmanref1_Up.k23 (M : Mach) (C : Call) : Kont := execC M.j C (M.ag C) hodmanref1_Up.c23 ({ exits := [], ret := retK hodmanref1_Up.d } : Env) (retK hodmanref1_Up.d)
def hodmanref1_Up.J6 (M : Mach) (C : Call) (v0 : Int) (t10 : Bool) (G : GH) : Option Res := M.j (execC M.j C (M.ag C) hodmanref1_Up.c6 ({ exits := [], ret := retK hodmanref1_Up.d } : Env) (hodmanref1_Up.k23 M C)) [.v (.c (.int .i64 v0)), .und, .und, .und, .und, .und, .und, .und, .und, .und, .v (.c (.bool t10)), .und, .und, .und, .und, .und, .und] G
def hodmanref1_Up.k21 (M : Mach) (C : Call) : Kont := execC M.j C (M.ag C) hodmanref1_Up.c21 ({ exits := [], ret := retK hodmanref1_Up.d } : Env) (retK hodmanref1_Up.d)
def hodmanref1_Up.e18 (M : Mach) (C : Call) : Env := { exits := (0, (hodmanref1_Up.k21 M C)) :: (({ exits := [], ret := retK hodmanref1_Up.d } : Env)).exits, ret := (({ exits := [], ret := retK hodmanref1_Up.d } : Env)).ret }
def hodmanref1_Up.L17 (M : Mach) (C : Call) (v0 : Int) (p4 : Int) (G : GH) : Option Res := M.ag C [0, 4] hodmanref1_Up.c16 (hodmanref1_Up.e18 M C) (hodmanref1_Up.k21 M C) [.v (.c (.int .i64 v0)), .und, .und, .und, .v (.c (.int .i64 p4)), .und, .und, .und, .und, .und, .und, .und, .und, .und, .und, .und, .und] G
theorem hodmanref1_Up.J6_eq (M : Mach) (C : Call) (v0 : Int) (t10 : Bool) (G : GH) : hodmanref1_Up.J6 M C v0 t10 G = (bif t10 then some ([.c (.int .i64 0), .c (.bool false)], G) else hodmanref1_Up.L17 M C v0 1 G) := (M.hj _ _ _).trans (by kernel_rfl)
theorem hodmanref1_Up.L17_eq (M : Mach) (C : Call) (v0 : Int) (p4 : Int) (G : GH) : hodmanref1_Up.L17 M C v0 p4 G = (bif decide (p4 < v0) then hodmanref1_Up.L17 M C v0 (IntKind.i64.wrap (p4 * 2)) G else some ([.c (.int .i64 p4), .c (.bool true)], G)) := (M.hs _ _ _ _ _ _ _).trans (by kernel_rfl)
def hodmanref1_Up.f (M : Mach) (C : Call) (v0 : Int) (G : GH) : Option Res := bif decide (v0 < 1) then hodmanref1_Up.J6 M C v0 true G else hodmanref1_Up.J6 M C v0 (decide (v0 > 4611686018427387904)) G
theorem hodmanref1_Up.eq (M : Mach) (C : Call) (v0 : Int) (G : GH) : runF M C hodmanref1_Up.d [.c (.int .i64 v0)] G = hodmanref1_Up.f M C v0 G := by kernel_rfl

/- 43 hodman/hodmanref1.Round -/
def hodmanref1_Round.c6 : DCode := (.cond (.t 11) (.seq (.region [⟨0, some 4, .move (.k (.c (.int .i64 0))), none⟩,
    ⟨1, some 5, .move (.k (.c (.bool false))), none⟩]) .ret) .skip)
def hodmanref1_Round.c18 : DCode := (.seq (.seq (.region [⟨0, some 12, .move (.t 0), none⟩,
    ⟨1, some 13, .move (.t 1), none⟩,
    ⟨2, some 14, .bin .rem .i64 (.t 12) (.t 13), none⟩,
    ⟨3, some 15, .cmp .eql .i64 (.t 14) (.k (.c (.int .i64 0))), none⟩]) (.cond (.t 15) (.seq (.region [⟨0, some 16, .move (.t 0), none⟩,
    ⟨1, some 4, .move (.t 16), none⟩,
    ⟨2, some 5, .move (.k (.c (.bool true))), none⟩]) .ret) .skip)) (.seq (.region [⟨0, some 17, .move (.t 0), none⟩,
    ⟨1, some 18, .move (.t 0), none⟩,
    ⟨2, some 19, .move (.t 1), none⟩,
    ⟨3, some 20, .bin .rem .i64 (.t 18) (.t 19), none⟩,
    ⟨4, some 21, .bin .sub .i64 (.t 17) (.t 20), none⟩,
    ⟨5, some 22, .move (.t 1), none⟩,
    ⟨6, some 23, .call 61 [.t 21, .t 22] [.c (.int .i64), .c (.bool)], none⟩,
    ⟨7, some 24, .ext 23 0, none⟩,
    ⟨8, some 25, .ext 23 1, none⟩,
    ⟨9, some 4, .move (.t 24), none⟩,
    ⟨10, some 5, .move (.t 25), none⟩]) .ret))
def hodmanref1_Round.d : DFn := { ntmps := 26, res := [.t 4, .t 5], body := (.seq (.region [⟨0, some 4, .move (.k (.c (.int .i64 0))), none⟩,
    ⟨1, some 5, .move (.k (.c (.bool false))), none⟩]) (.seq (.seq (.region [⟨0, some 6, .move (.t 0), none⟩,
    ⟨1, some 7, .cmp .lss .i64 (.t 6) (.k (.c (.int .i64 0))), none⟩,
    ⟨2, some 8, .move (.t 7), none⟩,
    ⟨3, some 9, .move (.t 1), some (8, false)⟩,
    ⟨4, some 10, .cmp .lss .i64 (.t 9) (.k (.c (.int .i64 1))), some (8, false)⟩,
    ⟨5, some 11, .pick (.t 8) (.k (.c (.bool true))) (.t 10), none⟩]) (.cut [0, 1, 11] hodmanref1_Round.c6)) hodmanref1_Round.c18)) }
def hodmanref1_Round.k18 (M : Mach) (C : Call) : Kont := execC M.j C (M.ag C) hodmanref1_Round.c18 ({ exits := [], ret := retK hodmanref1_Round.d } : Env) (retK hodmanref1_Round.d)
def hodmanref1_Round.J6 (M : Mach) (C : Call) (v0 : Int) (to1 : Int) (t11 : Bool) (G : GH) : Option Res := M.j (execC M.j C (M.ag C) hodmanref1_Round.c6 ({ exits := [], ret := retK hodmanref1_Round.d } : Env) (hodmanref1_Round.k18 M C)) [.v (.c (.int .i64 v0)), .v (.c (.int .i64 to1)), .und, .und, .und, .und, .und, .und, .und, .und, .und, .v (.c (.bool t11)), .und, .und, .und, .und, .und, .und, .und, .und, .und, .und, .und, .und, .und, .und] G
theorem hodmanref1_Round.J6_eq (M : Mach) (C : Call) (v0 : Int) (to1 : Int) (t11 : Bool) (G : GH) : hodmanref1_Round.J6 M C v0 to1 t11 G = (bif t11 then some ([.c (.int .i64 0), .c (.bool false)], G) else (binD .rem .i64 v0 to1).bind fun qx_1 => bif decide (qx_1 = 0) then some ([.c (.int .i64 v0), .c (.bool true)], G) else (binD .rem .i64 v0 to1).bind fun qx_2 => (C hodmanref1_Add.id [.c (.int .i64 (IntKind.i64.wrap (v0 - qx_2))), .c (.int .i64 to1)] G).bind fun qr_3 => (((qr_3.1[0]?).bind V1.c?).bind (Cell.asI .i64)).bind fun qx_4 => (((qr_3.1[1]?).bind V1.c?).bind Cell.asB).bind fun qb_5 => some ([.c (.int .i64 qx_4), .c (.bool qb_5)], qr_3.2)) := (M.hj _ _ _).trans (by kernel_rfl)
def hodmanref1_Round.f (M : Mach) (C : Call) (v0 : Int) (to1 : Int) (G : GH) : Option Res := bif decide (v0 < 0) then hodmanref1_Round.J6 M C v0 to1 true G else hodmanref1_Round.J6 M C v0 to1 (decide (to1 < 1)) G
theorem hodmanref1_Round.eq (M : Mach) (C : Call) (v0 : Int) (to1 : Int) (G : GH) : runF M C hodmanref1_Round.d [.c (.int .i64 v0), .c (.int .i64 to1)] G = hodmanref1_Round.f M C v0 to1 G := by kernel_rfl

/- 49 hodman/hodmanref1.Many -/
def hodmanref1_Many.d : DFn := { ntmps := 29, res := [.t 8, .t 9], body := (.seq (.region [⟨0, some 4, .boxv 28 [] (.t 0) 8, none⟩,
    ⟨1, some 8, .move (.k (.c (.int .i64 0))), none⟩,
    ⟨2, some 9, .move (.k (.c (.int .i64 0))), none⟩]) (.seq (.region [⟨0, some 13, .ldL 4 28 (.agg [.int .i64, .int .i64, .int .i64, .int .i64, .int .i64, .int .i64, .int .i64, .int .i64]), none⟩,
    ⟨1, some 14, .move (.t 2), none⟩,
    ⟨2, some 15, .move (.t 3), none⟩,
    ⟨3, some 16, .call 60 [.t 13, .t 14, .t 15] [.c (.int .i64), .c (.int .i64)], none⟩,
    ⟨4, some 12, .move (.t 16), none⟩,
    ⟨5, some 17, .ext 12 0, none⟩,
    ⟨6, some 18, .ext 12 1, none⟩,
    ⟨7, some 10, .move (.t 17), none⟩,
    ⟨8, some 11, .move (.t 18), none⟩]) (.seq (.seq (.region [⟨0, some 19, .move (.t 11), none⟩,
    ⟨1, some 20, .cmp .neq .i64 (.t 19) (.k (.c (.int .i64 0))), none⟩]) (.cond (.t 20) (.seq (.region [⟨0, some 21, .move (.t 11), none⟩,
    ⟨1, some 8, .move (.k (.c (.int .i64 0))), none⟩,
    ⟨2, some 9, .move (.t 21), none⟩]) .ret) .skip)) (.seq (.region [⟨0, some 22, .ldL 4 28 (.agg [.int .i64, .int .i64, .int .i64, .int .i64, .int .i64, .int .i64, .int .i64, .int .i64]), none⟩,
    ⟨1, some 23, .move (.t 1), none⟩,
    ⟨2, some 24, .move (.t 10), none⟩,
    ⟨3, some 25, .call 48 [.t 22, .t 23, .t 24, .k (.c (.int .i64 1))] [.c (.int .i64), .c (.int .i64)], none⟩,
    ⟨4, some 26, .ext 25 0, none⟩,
    ⟨5, some 27, .ext 25 1, none⟩,
    ⟨6, some 8, .move (.t 26), none⟩,
    ⟨7, some 9, .move (.t 27), none⟩]) .ret)))) }
def hodmanref1_Many.f (M : Mach) (C : Call) (c0_0 : Int) (c0_1 : Int) (c0_2 : Int) (c0_3 : Int) (c0_4 : Int) (c0_5 : Int) (c0_6 : Int) (c0_7 : Int) (live1 : Int) (n2 : Int) (s3 : Int) (G : GH) : Option Res := (C hodmanref1_Product.id [.agg [.int .i64 c0_0, .int .i64 c0_1, .int .i64 c0_2, .int .i64 c0_3, .int .i64 c0_4, .int .i64 c0_5, .int .i64 c0_6, .int .i64 c0_7], .c (.int .i64 n2), .c (.int .i64 s3)] G).bind fun qr_1 => (((qr_1.1[0]?).bind V1.c?).bind (Cell.asI .i64)).bind fun qx_2 => (((qr_1.1[1]?).bind V1.c?).bind (Cell.asI .i64)).bind fun qx_3 => bif (!decide (qx_3 = 0)) then some ([.c (.int .i64 0), .c (.int .i64 qx_3)], qr_1.2) else (C hodmanref1_New.id [.agg [.int .i64 c0_0, .int .i64 c0_1, .int .i64 c0_2, .int .i64 c0_3, .int .i64 c0_4, .int .i64 c0_5, .int .i64 c0_6, .int .i64 c0_7], .c (.int .i64 live1), .c (.int .i64 qx_2), .c (.int .i64 1)] qr_1.2).bind fun qr_4 => (((qr_4.1[0]?).bind V1.c?).bind (Cell.asI .i64)).bind fun qx_5 => (((qr_4.1[1]?).bind V1.c?).bind (Cell.asI .i64)).bind fun qx_6 => some ([.c (.int .i64 qx_5), .c (.int .i64 qx_6)], qr_4.2)
theorem hodmanref1_Many.eq (M : Mach) (C : Call) (c0_0 : Int) (c0_1 : Int) (c0_2 : Int) (c0_3 : Int) (c0_4 : Int) (c0_5 : Int) (c0_6 : Int) (c0_7 : Int) (live1 : Int) (n2 : Int) (s3 : Int) (G : GH) : runF M C hodmanref1_Many.d [.agg [.int .i64 c0_0, .int .i64 c0_1, .int .i64 c0_2, .int .i64 c0_3, .int .i64 c0_4, .int .i64 c0_5, .int .i64 c0_6, .int .i64 c0_7], .c (.int .i64 live1), .c (.int .i64 n2), .c (.int .i64 s3)] G = hodmanref1_Many.f M C c0_0 c0_1 c0_2 c0_3 c0_4 c0_5 c0_6 c0_7 live1 n2 s3 G := by kernel_rfl

/- 35 hodman/hodmanref17.Find -/
def hodmanref17_Find.c17 : DCode := (.seq (.seq (.region [⟨0, some 6, .move (.t 5), none⟩,
    ⟨1, some 7, .move (.t 0), none⟩,
    ⟨2, some 8, .len (.t 7), none⟩,
    ⟨3, some 9, .cmp .lss .i64 (.t 6) (.t 8), none⟩]) (.cond (.t 9) .skip (.exit 0))) (.seq (.block 1 (.seq (.region [⟨0, some 12, .move (.t 0), none⟩,
    ⟨1, some 13, .move (.t 5), none⟩,
    ⟨2, some 14, .iaddr (.t 12) (.t 13) 3, none⟩,
    ⟨3, some 15, .faddr 14 0, none⟩,
    ⟨4, some 16, .ldG 15 (.c (.int .i64)), none⟩,
    ⟨5, some 17, .move (.t 1), none⟩,
    ⟨6, some 18, .cmp .eql .i64 (.t 16) (.t 17), none⟩]) (.cond (.t 18) (.seq (.region [⟨0, some 19, .move (.t 5), none⟩,
    ⟨1, some 4, .move (.t 19), none⟩]) .ret) .skip))) (.region [⟨0, some 10, .move (.t 5), none⟩,
    ⟨1, some 11, .bin .add .i64 (.t 10) (.k (.c (.int .i64 1))), none⟩,
    ⟨2, some 5, .move (.t 11), none⟩])))
def hodmanref17_Find.c23 : DCode := (.seq (.region [⟨0, some 4, .move (.k (.c (.int .i64 (-1)))), none⟩]) .ret)
def hodmanref17_Find.d : DFn := { ntmps := 20, res := [.t 4], body := (.seq (.region [⟨0, some 4, .move (.k (.c (.int .i64 0))), none⟩]) (.seq (.seq (.region [⟨0, some 5, .move (.k (.c (.int .i64 0))), none⟩]) (.block 0 (.loop [0, 1, 5] hodmanref17_Find.c17))) hodmanref17_Find.c23)) }
def hodmanref17_Find.k23 (M : Mach) (C : Call) : Kont := execC M.j C (M.ag C) hodmanref17_Find.c23 ({ exits := [], ret := retK hodmanref17_Find.d } : Env) (retK hodmanref17_Find.d)
def hodmanref17_Find.e19 (M : Mach) (C : Call) : Env := { exits := (0, (hodmanref17_Find.k23 M C)) :: (({ exits := [], ret := retK hodmanref17_Find.d } : Env)).exits, ret := (({ exits := [], ret := retK hodmanref17_Find.d } : Env)).ret }
def hodmanref17_Find.L18 (M : Mach) (C : Call) (l0i : Nat) (l0o : Nat) (l0n : Nat) (at1 : Int) (i5 : Int) (G : GH) : Option Res := M.ag C [0, 1, 5] hodmanref17_Find.c17 (hodmanref17_Find.e19 M C) (hodmanref17_Find.k23 M C) [.v (.c (.sl 3 l0i l0o l0n)), .v (.c (.int .i64 at1)), .und, .und, .und, .v (.c (.int .i64 i5)), .und, .und, .und, .und, .und, .und, .und, .und, .und, .und, .und, .und, .und, .und] G
theorem hodmanref17_Find.L18_eq (M : Mach) (C : Call) (l0i : Nat) (l0o : Nat) (l0n : Nat) (at1 : Int) (i5 : Int) (G : GH) : hodmanref17_Find.L18 M C l0i l0o l0n at1 i5 G = (bif decide (i5 < ((l0n : Nat) : Int)) then guardK (decide (0 ≤ i5 ∧ i5 < ((l0n : Nat) : Int))) (((G.ld l0i ((l0o + Int.toNat i5 * 3) + 0)).bind (Cell.asI .i64)).bind fun qx_1 => bif decide (qx_1 = at1) then some ([.c (.int .i64 i5)], G) else hodmanref17_Find.L18 M C l0i l0o l0n at1 (IntKind.i64.wrap (i5 + 1)) G) else some ([.c (.int .i64 (-1))], G)) := (M.hs _ _ _ _ _ _ _).trans (by kernel_rfl)
def hodmanref17_Find.f (M : Mach) (C : Call) (l0i : Nat) (l0o : Nat) (l0n : Nat) (at1 : Int) (G : GH) : Option Res := hodmanref17_Find.L18 M C l0i l0o l0n at1 0 G
theorem hodmanref17_Find.eq (M : Mach) (C : Call) (l0i : Nat) (l0o : Nat) (l0n : Nat) (at1 : Int) (G : GH) : runF M C hodmanref17_Find.d [.c (.sl 3 l0i l0o l0n), .c (.int .i64 at1)] G = hodmanref17_Find.f M C l0i l0o l0n at1 G := by kernel_rfl

/- 48 hodman/hodmanref1.New -/
def hodmanref1_New.d : DFn := { ntmps := 30, res := [.t 8, .t 9], body := (.seq (.region [⟨0, some 4, .boxv 29 [23] (.t 0) 8, none⟩,
    ⟨1, some 8, .move (.k (.c (.int .i64 0))), none⟩,
    ⟨2, some 9, .move (.k (.c (.int .i64 0))), none⟩]) (.seq (.region [⟨0, some 13, .ldL 4 29 (.agg [.int .i64, .int .i64, .int .i64, .int .i64, .int .i64, .int .i64, .int .i64, .int .i64]), none⟩,
    ⟨1, some 14, .move (.t 2), none⟩,
    ⟨2, some 15, .move (.t 3), none⟩,
    ⟨3, some 16, .call 59 [.t 13, .t 14, .t 15] [.c (.int .i64), .c (.int .i64)], none⟩,
    ⟨4, some 12, .move (.t 16), none⟩,
    ⟨5, some 17, .ext 12 0, none⟩,
    ⟨6, some 18, .ext 12 1, none⟩,
    ⟨7, some 10, .move (.t 17), none⟩,
    ⟨8, some 11, .move (.t 18), none⟩]) (.seq (.seq (.region [⟨0, some 19, .move (.t 11), none⟩,
    ⟨1, some 20, .cmp .neq .i64 (.t 19) (.k (.c (.int .i64 0))), none⟩]) (.cond (.t 20) (.seq (.region [⟨0, some 21, .move (.t 11), none⟩,
    ⟨1, some 8, .move (.k (.c (.int .i64 0))), none⟩,
    ⟨2, some 9, .move (.t 21), none⟩]) .ret) .skip)) (.seq (.seq (.region [⟨0, some 22, .move (.t 1), none⟩,
    ⟨1, some 23, .faddr 4 2, none⟩,
    ⟨2, some 24, .ldL 23 29 (.c (.int .i64)), none⟩,
    ⟨3, some 25, .move (.t 10), none⟩,
    ⟨4, some 26, .bin .sub .i64 (.t 24) (.t 25), none⟩,
    ⟨5, some 27, .cmp .gtr .i64 (.t 22) (.t 26), none⟩]) (.cond (.t 27) (.seq (.region [⟨0, some 8, .move (.k (.c (.int .i64 0))), none⟩,
    ⟨1, some 9, .move (.k (.c (.int .i64 5))), none⟩]) .ret) .skip)) (.seq (.region [⟨0, some 28, .move (.t 10), none⟩,
    ⟨1, some 8, .move (.t 28), none⟩,
    ⟨2, some 9, .move (.k (.c (.int .i64 0))), none⟩]) .ret))))) }
def hodmanref1_New.f (M : Mach) (C : Call) (c0_0 : Int) (c0_1 : Int) (c0_2 : Int) (c0_3 : Int) (c0_4 : Int) (c0_5 : Int) (c0_6 : Int) (c0_7 : Int) (live1 : Int) (s2 : Int) (a3 : Int) (G : GH) : Option Res := (C hodmanref1_Charge.id [.agg [.int .i64 c0_0, .int .i64 c0_1, .int .i64 c0_2, .int .i64 c0_3, .int .i64 c0_4, .int .i64 c0_5, .int .i64 c0_6, .int .i64 c0_7], .c (.int .i64 s2), .c (.int .i64 a3)] G).bind fun qr_1 => (((qr_1.1[0]?).bind V1.c?).bind (Cell.asI .i64)).bind fun qx_2 => (((qr_1.1[1]?).bind V1.c?).bind (Cell.asI .i64)).bind fun qx_3 => bif (!decide (qx_3 = 0)) then some ([.c (.int .i64 0), .c (.int .i64 qx_3)], qr_1.2) else bif decide (live1 > IntKind.i64.wrap (c0_2 - qx_2)) then some ([.c (.int .i64 0), .c (.int .i64 5)], qr_1.2) else some ([.c (.int .i64 qx_2), .c (.int .i64 0)], qr_1.2)
theorem hodmanref1_New.eq (M : Mach) (C : Call) (c0_0 : Int) (c0_1 : Int) (c0_2 : Int) (c0_3 : Int) (c0_4 : Int) (c0_5 : Int) (c0_6 : Int) (c0_7 : Int) (live1 : Int) (s2 : Int) (a3 : Int) (G : GH) : runF M C hodmanref1_New.d [.agg [.int .i64 c0_0, .int .i64 c0_1, .int .i64 c0_2, .int .i64 c0_3, .int .i64 c0_4, .int .i64 c0_5, .int .i64 c0_6, .int .i64 c0_7], .c (.int .i64 live1), .c (.int .i64 s2), .c (.int .i64 a3)] G = hodmanref1_New.f M C c0_0 c0_1 c0_2 c0_3 c0_4 c0_5 c0_6 c0_7 live1 s2 a3 G := by kernel_rfl

/- 47 (*hodman/fair.client).goes -/
def fair_client_goes.d : DFn := { ntmps := 33, res := [.t 4], body := (.seq (.region [⟨0, some 4, .move (.k (.c (.bool false))), none⟩]) (.seq (.region [⟨0, some 8, .move (.t 0), none⟩,
    ⟨1, some 9, .nilck (.t 8), none⟩,
    ⟨2, some 10, .faddr 9 8, none⟩,
    ⟨3, some 11, .ldG 10 (.c (.map)), none⟩,
    ⟨4, some 12, .move (.t 1), none⟩,
    ⟨5, some 13, .build [.int .i64 0] [(0, 1, .t 12)], none⟩,
    ⟨6, some 14, .lkup (.agg [.int .i64]) (.t 11) (.t 13) (.c (.int .i64 0)) (.c (.int .i64)) true, none⟩,
    ⟨7, some 7, .move (.t 14), none⟩,
    ⟨8, some 15, .ext 7 0, none⟩,
    ⟨9, some 16, .ext 7 1, none⟩,
    ⟨10, some 5, .move (.t 15), none⟩,
    ⟨11, some 6, .move (.t 16), none⟩]) (.seq (.seq (.region [⟨0, some 17, .move (.t 6), none⟩,
    ⟨1, some 18, .not (.t 17), none⟩]) (.cond (.t 18) (.seq (.region [⟨0, some 4, .move (.k (.c (.bool false))), none⟩]) .ret) .skip)) (.seq (.region [⟨0, some 19, .move (.t 0), none⟩,
    ⟨1, some 20, .nilck (.t 19), none⟩,
    ⟨2, some 21, .faddr 20 8, none⟩,
    ⟨3, some 22, .ldG 21 (.c (.map)), none⟩,
    ⟨4, some 23, .move (.t 1), none⟩,
    ⟨5, some 24, .build [.int .i64 0] [(0, 1, .t 23)], none⟩,
    ⟨6, none, .del (.agg [.int .i64]) (.t 22) (.t 24), none⟩]) (.seq (.region [⟨0, some 25, .move (.t 0), none⟩,
    ⟨1, some 26, .nilck (.t 25), none⟩,
    ⟨2, some 27, .faddr 26 9, none⟩,
    ⟨3, some 28, .ldG 27 (.c (.int .i64)), none⟩,
    ⟨4, some 29, .move (.t 5), none⟩,
    ⟨5, some 30, .bin .sub .i64 (.t 28) (.t 29), none⟩,
    ⟨6, some 31, .nilck (.t 25), none⟩,
    ⟨7, some 32, .faddr 31 9, none⟩,
    ⟨8, none, .stG 32 (.t 30) 1, none⟩]) (.seq (.region [⟨0, some 4, .move (.k (.c (.bool true))), none⟩]) .ret)))))) }
def fair_client_goes.f (M : Mach) (C : Call) (f0i : Nat) (f0o : Nat) (n1 : Int) (G : GH) : Option Res := guardK (!Nat.beq f0i 0) (((G.ld f0i (f0o + 8)).bind Cell.asM).bind fun qm_1 => (G.ents0 (.agg [.int .i64]) qm_1).bind fun qes_2 => ((((some ((mapGet qes_2 (.agg [.int .i64 n1])).getD (.c (.int .i64 0))))).bind V1.c?).bind (Cell.asI .i64)).bind fun qx_3 => bif (!(mapGet qes_2 (.agg [.int .i64 n1])).isSome) then some ([.c (.bool false)], G) else guardK (!Nat.beq f0i 0) (((G.ld f0i (f0o + 8)).bind Cell.asM).bind fun qm_4 => (G.ents (.agg [.int .i64]) qm_4).bind fun qes_5 => let qG_6 := G.set qm_4 (some (.map (.agg [.int .i64]) (mapDel qes_5 (.agg [.int .i64 n1])))); guardK (!Nat.beq f0i 0) (((qG_6.ld f0i (f0o + 9)).bind (Cell.asI .i64)).bind fun qx_7 => guardK (!Nat.beq f0i 0) ((qG_6.sts f0i (f0o + 9) [.int .i64 (IntKind.i64.wrap (qx_7 - qx_3))]).bind fun qG_8 => some ([.c (.bool true)], qG_8)))))
theorem fair_client_goes.eq (M : Mach) (C : Call) (f0i : Nat) (f0o : Nat) (n1 : Int) (G : GH) : runF M C fair_client_goes.d [.c (.ptr f0i f0o), .c (.int .i64 n1)] G = fair_client_goes.f M C f0i f0o n1 G := by kernel_rfl

/- 36 hodman/hodmanref17.wrong -/
def hodmanref17_wrong.d : DFn := { ntmps := 12, res := [.box 4 (some 14), .box 5 (some 8)], body := (.seq (.region [⟨0, some 2, .boxv 9 [] (.t 0) 14, none⟩,
    ⟨1, some 4, .boxz 10 [] [.int .i64 0, .int .i64 0, .int .i64 0, .int .i64 0, .int .i64 0, .int .i64 0, .int .i64 0, .int .i64 0, .sl 3 0 0 0, .int .i64 0, .int .i64 0, .int .i64 0, .sl 1 0 0 0, .sl 1 0 0 0], none⟩,
    ⟨2, some 5, .boxz 11 [] [.int .i64 0, .int .i64 0, .int .i64 0, .int .u8 0, .int .i64 0, .int .i64 0, .int .i64 0, .int .i64 0], none⟩]) (.seq (.region [⟨0, some 6, .ldL 2 9 (.agg [.int .i64, .int .i64, .int .i64, .int .i64, .int .i64, .int .i64, .int .i64, .int .i64, .sl 3, .int .i64, .int .i64, .int .i64, .sl 1, .sl 1]), none⟩,
    ⟨1, some 7, .move (.t 1), none⟩,
    ⟨2, some 8, .build [.int .i64 0, .int .i64 0, .int .i64 0, .int .u8 0, .int .i64 0, .int .i64 0, .int .i64 0, .int .i64 0] [(0, 1, .t 7)], none⟩,
    ⟨3, none, .stL 4 10 (.t 6) 14, none⟩,
    ⟨4, none, .stL 5 11 (.t 8) 8, none⟩]) .ret)) }
def hodmanref17_wrong.f (M : Mach) (C : Call) (m0_0 : Int) (m0_1 : Int) (m0_2 : Int) (m0_3 : Int) (m0_4 : Int) (m0_5 : Int) (m0_6 : Int) (m0_7 : Int) (m0_8i : Nat) (m0_8o : Nat) (m0_8n : Nat) (m0_9 : Int) (m0_10 : Int) (m0_11 : Int) (m0_12i : Nat) (m0_12o : Nat) (m0_12n : Nat) (m0_13i : Nat) (m0_13o : Nat) (m0_13n : Nat) (e1 : Int) (G : GH) : Option Res := some ([.agg [.int .i64 m0_0, .int .i64 m0_1, .int .i64 m0_2, .int .i64 m0_3, .int .i64 m0_4, .int .i64 m0_5, .int .i64 m0_6, .int .i64 m0_7, .sl 3 m0_8i m0_8o m0_8n, .int .i64 m0_9, .int .i64 m0_10, .int .i64 m0_11, .sl 1 m0_12i m0_12o m0_12n, .sl 1 m0_13i m0_13o m0_13n], .agg [.int .i64 e1, .int .i64 0, .int .i64 0, .int .u8 0, .int .i64 0, .int .i64 0, .int .i64 0, .int .i64 0]], G)
theorem hodmanref17_wrong.eq (M : Mach) (C : Call) (m0_0 : Int) (m0_1 : Int) (m0_2 : Int) (m0_3 : Int) (m0_4 : Int) (m0_5 : Int) (m0_6 : Int) (m0_7 : Int) (m0_8i : Nat) (m0_8o : Nat) (m0_8n : Nat) (m0_9 : Int) (m0_10 : Int) (m0_11 : Int) (m0_12i : Nat) (m0_12o : Nat) (m0_12n : Nat) (m0_13i : Nat) (m0_13o : Nat) (m0_13n : Nat) (e1 : Int) (G : GH) : runF M C hodmanref17_wrong.d [.agg [.int .i64 m0_0, .int .i64 m0_1, .int .i64 m0_2, .int .i64 m0_3, .int .i64 m0_4, .int .i64 m0_5, .int .i64 m0_6, .int .i64 m0_7, .sl 3 m0_8i m0_8o m0_8n, .int .i64 m0_9, .int .i64 m0_10, .int .i64 m0_11, .sl 1 m0_12i m0_12o m0_12n, .sl 1 m0_13i m0_13o m0_13n], .c (.int .i64 e1)] G = hodmanref17_wrong.f M C m0_0 m0_1 m0_2 m0_3 m0_4 m0_5 m0_6 m0_7 m0_8i m0_8o m0_8n m0_9 m0_10 m0_11 m0_12i m0_12o m0_12n m0_13i m0_13o m0_13n e1 G := by kernel_rfl

/- 68 hodman/hodmanref8.there -/
def hodmanref8_there.d : DFn := { ntmps := 27, res := [.t 6], body := (.seq (.region [⟨0, some 6, .move (.k (.c (.bool false))), none⟩]) (.seq (.region [⟨0, some 7, .move (.t 1), none⟩,
    ⟨1, some 8, .cmp .geq .i64 (.t 7) (.k (.c (.int .i64 0))), none⟩,
    ⟨2, some 9, .move (.t 8), none⟩,
    ⟨3, some 10, .move (.t 2), some (9, true)⟩,
    ⟨4, some 11, .cmp .geq .i64 (.t 10) (.k (.c (.int .i64 0))), some (9, true)⟩,
    ⟨5, some 12, .pick (.t 9) (.t 11) (.k (.c (.bool false))), none⟩,
    ⟨6, some 13, .move (.t 12), none⟩,
    ⟨7, some 14, .move (.t 1), some (13, true)⟩,
    ⟨8, some 15, .move (.t 0), some (13, true)⟩,
    ⟨9, some 16, .len (.t 15), some (13, true)⟩,
    ⟨10, some 17, .cmp .leq .i64 (.t 14) (.t 16), some (13, true)⟩,
    ⟨11, some 18, .pick (.t 13) (.t 17) (.k (.c (.bool false))), none⟩,
    ⟨12, some 19, .move (.t 18), none⟩,
    ⟨13, some 20, .move (.t 2), some (19, true)⟩,
    ⟨14, some 21, .move (.t 0), some (19, true)⟩,
    ⟨15, some 22, .len (.t 21), some (19, true)⟩,
    ⟨16, some 23, .move (.t 1), some (19, true)⟩,
    ⟨17, some 24, .bin .sub .i64 (.t 22) (.t 23), some (19, true)⟩,
    ⟨18, some 25, .cmp .leq .i64 (.t 20) (.t 24), some (19, true)⟩,
    ⟨19, some 26, .pick (.t 19) (.t 25) (.k (.c (.bool false))), none⟩,
    ⟨20, some 6, .move (.t 26), none⟩]) .ret)) }
def hodmanref8_there.f (M : Mach) (C : Call) (mem0i : Nat) (mem0o : Nat) (mem0n : Nat) (at1 : Int) (n2 : Int) (G : GH) : Option Res := bif decide (at1 ≥ 0) then bif decide (n2 ≥ 0) then bif decide (at1 ≤ ((mem0n : Nat) : Int)) then some ([.c (.bool (decide (n2 ≤ IntKind.i64.wrap (((mem0n : Nat) : Int) - at1))))], G) else some ([.c (.bool false)], G) else some ([.c (.bool false)], G) else some ([.c (.bool false)], G)
theorem hodmanref8_there.eq (M : Mach) (C : Call) (mem0i : Nat) (mem0o : Nat) (mem0n : Nat) (at1 : Int) (n2 : Int) (G : GH) : runF M C hodmanref8_there.d [.c (.sl 1 mem0i mem0o mem0n), .c (.int .i64 at1), .c (.int .i64 n2)] G = hodmanref8_there.f M C mem0i mem0o mem0n at1 n2 G := by kernel_rfl

/- 53 hodman/hodmanref1.Anew -/
def hodmanref1_Anew.d : DFn := { ntmps := 19, res := [.t 8, .t 9], body := (.seq (.region [⟨0, some 4, .boxv 18 [] (.t 0) 8, none⟩,
    ⟨1, some 8, .move (.k (.c (.int .i64 0))), none⟩,
    ⟨2, some 9, .move (.k (.c (.int .i64 0))), none⟩]) (.seq (.region [⟨0, some 10, .ldL 4 18 (.agg [.int .i64, .int .i64, .int .i64, .int .i64, .int .i64, .int .i64, .int .i64, .int .i64]), none⟩,
    ⟨1, some 11, .move (.t 1), none⟩,
    ⟨2, some 12, .move (.t 2), none⟩,
    ⟨3, some 13, .bin .sub .i64 (.t 11) (.t 12), none⟩,
    ⟨4, some 14, .move (.t 3), none⟩,
    ⟨5, some 15, .call 48 [.t 10, .t 13, .t 14, .k (.c (.int .i64 1))] [.c (.int .i64), .c (.int .i64)], none⟩,
    ⟨6, some 16, .ext 15 0, none⟩,
    ⟨7, some 17, .ext 15 1, none⟩,
    ⟨8, some 8, .move (.t 16), none⟩,
    ⟨9, some 9, .move (.t 17), none⟩]) .ret)) }
def hodmanref1_Anew.f (M : Mach) (C : Call) (c0_0 : Int) (c0_1 : Int) (c0_2 : Int) (c0_3 : Int) (c0_4 : Int) (c0_5 : Int) (c0_6 : Int) (c0_7 : Int) (live1 : Int) (old2 : Int) (s3 : Int) (G : GH) : Option Res := (C hodmanref1_New.id [.agg [.int .i64 c0_0, .int .i64 c0_1, .int .i64 c0_2, .int .i64 c0_3, .int .i64 c0_4, .int .i64 c0_5, .int .i64 c0_6, .int .i64 c0_7], .c (.int .i64 (IntKind.i64.wrap (live1 - old2))), .c (.int .i64 s3), .c (.int .i64 1)] G).bind fun qr_1 => (((qr_1.1[0]?).bind V1.c?).bind (Cell.asI .i64)).bind fun qx_2 => (((qr_1.1[1]?).bind V1.c?).bind (Cell.asI .i64)).bind fun qx_3 => some ([.c (.int .i64 qx_2), .c (.int .i64 qx_3)], qr_1.2)
theorem hodmanref1_Anew.eq (M : Mach) (C : Call) (c0_0 : Int) (c0_1 : Int) (c0_2 : Int) (c0_3 : Int) (c0_4 : Int) (c0_5 : Int) (c0_6 : Int) (c0_7 : Int) (live1 : Int) (old2 : Int) (s3 : Int) (G : GH) : runF M C hodmanref1_Anew.d [.agg [.int .i64 c0_0, .int .i64 c0_1, .int .i64 c0_2, .int .i64 c0_3, .int .i64 c0_4, .int .i64 c0_5, .int .i64 c0_6, .int .i64 c0_7], .c (.int .i64 live1), .c (.int .i64 old2), .c (.int .i64 s3)] G = hodmanref1_Anew.f M C c0_0 c0_1 c0_2 c0_3 c0_4 c0_5 c0_6 c0_7 live1 old2 s3 G := by kernel_rfl

/- 52 hodman/hodmanref8.Over -/
def hodmanref8_Over.d : DFn := { ntmps := 25, res := [.t 4], body := (.seq (.region [⟨0, some 2, .boxv 23 [5, 16, 18] (.t 0) 2, none⟩,
    ⟨1, some 3, .boxv 24 [7, 9, 14] (.t 1) 2, none⟩,
    ⟨2, some 4, .move (.k (.c (.bool false))), none⟩]) (.seq (.region [⟨0, some 5, .faddr 2 0, none⟩,
    ⟨1, some 6, .ldL 5 23 (.c (.int .i64)), none⟩,
    ⟨2, some 7, .faddr 3 0, none⟩,
    ⟨3, some 8, .ldL 7 24 (.c (.int .i64)), none⟩,
    ⟨4, some 9, .faddr 3 1, none⟩,
    ⟨5, some 10, .ldL 9 24 (.c (.int .i64)), none⟩,
    ⟨6, some 11, .bin .add .i64 (.t 8) (.t 10), none⟩,
    ⟨7, some 12, .cmp .lss .i64 (.t 6) (.t 11), none⟩,
    ⟨8, some 13, .move (.t 12), none⟩,
    ⟨9, some 14, .faddr 3 0, some (13, true)⟩,
    ⟨10, some 15, .ldL 14 24 (.c (.int .i64)), some (13, true)⟩,
    ⟨11, some 16, .faddr 2 0, some (13, true)⟩,
    ⟨12, some 17, .ldL 16 23 (.c (.int .i64)), some (13, true)⟩,
    ⟨13, some 18, .faddr 2 1, some (13, true)⟩,
    ⟨14, some 19, .ldL 18 23 (.c (.int .i64)), some (13, true)⟩,
    ⟨15, some 20, .bin .add .i64 (.t 17) (.t 19), some (13, true)⟩,
    ⟨16, some 21, .cmp .lss .i64 (.t 15) (.t 20), some (13, true)⟩,
    ⟨17, some 22, .pick (.t 13) (.t 21) (.k (.c (.bool false))), none⟩,
    ⟨18, some 4, .move (.t 22), none⟩]) .ret)) }
def hodmanref8_Over.f (M : Mach) (C : Call) (a0_0 : Int) (a0_1 : Int) (b1_0 : Int) (b1_1 : Int) (G : GH) : Option Res := bif decide (a0_0 < IntKind.i64.wrap (b1_0 + b1_1)) then some ([.c (.bool (decide (b1_0 < IntKind.i64.wrap (a0_0 + a0_1))))], G) else some ([.c (.bool false)], G)
theorem hodmanref8_Over.eq (M : Mach) (C : Call) (a0_0 : Int) (a0_1 : Int) (b1_0 : Int) (b1_1 : Int) (G : GH) : runF M C hodmanref8_Over.d [.agg [.int .i64 a0_0, .int .i64 a0_1], .agg [.int .i64 b1_0, .int .i64 b1_1]] G = hodmanref8_Over.f M C a0_0 a0_1 b1_0 b1_1 G := by kernel_rfl

/- 73 hodman/hodmanref8.Byte -/
def hodmanref8_Byte.d : DFn := { ntmps := 20, res := [.t 6], body := (.seq (.region [⟨0, some 6, .move (.k (.c (.int .u8 0))), none⟩]) (.seq (.region [⟨0, some 7, .move (.t 0), none⟩,
    ⟨1, some 8, .bin .rem .i64 (.t 7) (.k (.c (.int .i64 256))), none⟩,
    ⟨2, some 9, .move (.t 1), none⟩,
    ⟨3, some 10, .bin .rem .i64 (.t 9) (.k (.c (.int .i64 256))), none⟩,
    ⟨4, some 11, .bin .mul .i64 (.k (.c (.int .i64 31))) (.t 10), none⟩,
    ⟨5, some 12, .bin .add .i64 (.t 8) (.t 11), none⟩,
    ⟨6, some 13, .move (.t 2), none⟩,
    ⟨7, some 14, .bin .rem .i64 (.t 13) (.k (.c (.int .i64 256))), none⟩,
    ⟨8, some 15, .bin .mul .i64 (.k (.c (.int .i64 7))) (.t 14), none⟩,
    ⟨9, some 16, .bin .add .i64 (.t 12) (.t 15), none⟩,
    ⟨10, some 17, .bin .add .i64 (.t 16) (.k (.c (.int .i64 1))), none⟩,
    ⟨11, some 18, .bin .rem .i64 (.t 17) (.k (.c (.int .i64 256))), none⟩,
    ⟨12, some 19, .conv .u8 (.t 18), none⟩,
    ⟨13, some 6, .move (.t 19), none⟩]) .ret)) }
def hodmanref8_Byte.f (M : Mach) (C : Call) (seed0 : Int) (page1 : Int) (i2 : Int) (G : GH) : Option Res := some ([.c (.int .u8 (IntKind.u8.wrap (Int.tmod (IntKind.i64.wrap ((IntKind.i64.wrap ((IntKind.i64.wrap ((Int.tmod seed0 256) + (IntKind.i64.wrap (31 * (Int.tmod page1 256))))) + (IntKind.i64.wrap (7 * (Int.tmod i2 256))))) + 1)) 256)))], G)
theorem hodmanref8_Byte.eq (M : Mach) (C : Call) (seed0 : Int) (page1 : Int) (i2 : Int) (G : GH) : runF M C hodmanref8_Byte.d [.c (.int .i64 seed0), .c (.int .i64 page1), .c (.int .i64 i2)] G = hodmanref8_Byte.f M C seed0 page1 i2 G := by kernel_rfl

/- 13 hodman/hodmanplay.Made -/
def hodmanplay_Made.d : DFn := { ntmps := 6, res := [.t 2], body := (.seq (.region [⟨0, some 2, .move (.k (.c (.ptr 0 0))), none⟩]) (.seq (.region [⟨0, some 3, .move (.t 0), none⟩,
    ⟨1, some 4, .build [.sl 1 0 0 0, .int .i64 0] [(0, 1, .t 3)], none⟩,
    ⟨2, some 5, .newv (.t 4) 2, none⟩,
    ⟨3, some 2, .move (.t 5), none⟩]) .ret)) }
def hodmanplay_Made.f (M : Mach) (C : Call) (l0i : Nat) (l0o : Nat) (l0n : Nat) (G : GH) : Option Res := let qG_1 := G.alloc (.row [.sl 1 l0i l0o l0n, .int .i64 0] false); some ([.c (.ptr G.next 0)], qG_1)
theorem hodmanplay_Made.eq (M : Mach) (C : Call) (l0i : Nat) (l0o : Nat) (l0n : Nat) (G : GH) : runF M C hodmanplay_Made.d [.c (.sl 1 l0i l0o l0n)] G = hodmanplay_Made.f M C l0i l0o l0n G := by kernel_rfl
end Go.Proofs.D
