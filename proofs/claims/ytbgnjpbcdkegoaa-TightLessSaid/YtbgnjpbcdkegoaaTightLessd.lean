/- Texts of the proof (T2); no condition. -/
import Derived.Test.YtbgnjpbcdkegoaaTightLessa
import Derived.KernelRfl
set_option linter.unusedSimpArgs false
set_option linter.unusedVariables false
set_option linter.unusedVariables false
set_option maxRecDepth 100000
namespace Go.Proofs.D
open Go
/- 36 hodman/tight.all -/
def tight_all.c6 : DCode := (.cond (.t 15) .skip (.exit 0))
def tight_all.c13 : DCode := (.region [⟨0, some 23, .move (.t 3), none⟩,
    ⟨1, some 24, .move (.t 4), none⟩,
    ⟨2, some 25, .call 55 [.t 23, .t 24] [], none⟩])
def tight_all.c16 : DCode := (.region [⟨0, some 16, .move (.t 4), none⟩,
    ⟨1, some 17, .bin .add .i64 (.t 16) (.k (.c (.int .i64 1))), none⟩,
    ⟨2, some 4, .move (.t 17), none⟩])
def tight_all.c17 : DCode := (.seq (.block 1 (.seq (.seq (.region [⟨0, some 18, .move (.t 4), none⟩,
    ⟨1, some 19, .cmp .gtr .i64 (.t 18) (.k (.c (.int .i64 0))), none⟩]) (.cond (.t 19) (.region [⟨0, some 20, .move (.t 3), none⟩,
    ⟨1, some 21, .move (.t 4), none⟩,
    ⟨2, some 22, .call 54 [.t 20, .t 21] [], none⟩]) .skip)) (.cut [1, 3, 4, 27] tight_all.c13))) tight_all.c16)
def tight_all.c18 : DCode := (.seq (.seq (.region [⟨0, some 8, .ldL 1 27 (.agg [.int .i64, .int .i64, .int .i64, .int .i64, .int .i64, .int .i64, .int .i64, .int .i64]), none⟩,
    ⟨1, some 9, .call 53 [.t 8] [.c (.bool)], none⟩,
    ⟨2, some 10, .move (.t 9), none⟩,
    ⟨3, some 11, .move (.t 4), some (10, true)⟩,
    ⟨4, some 12, .faddr 1 3, some (10, true)⟩,
    ⟨5, some 13, .ldL 12 27 (.c (.int .i64)), some (10, true)⟩,
    ⟨6, some 14, .cmp .leq .i64 (.t 11) (.t 13), some (10, true)⟩,
    ⟨7, some 15, .pick (.t 10) (.t 14) (.k (.c (.bool false))), none⟩]) (.cut [1, 3, 4, 15, 27] tight_all.c6)) tight_all.c17)
def tight_all.c19 : DCode := (.loop [1, 3, 4, 27] tight_all.c18)
def tight_all.c24 : DCode := (.seq (.region [⟨0, some 26, .move (.t 3), none⟩,
    ⟨1, some 2, .move (.t 26), none⟩]) .ret)
def tight_all.d : DFn := { ntmps := 28, res := [.t 2], body := (.seq (.region [⟨0, some 1, .boxv 27 [12] (.t 0) 8, none⟩,
    ⟨1, some 2, .move (.k (.c (.ptr 0 0))), none⟩]) (.seq (.region [⟨0, some 5, .ldL 1 27 (.agg [.int .i64, .int .i64, .int .i64, .int .i64, .int .i64, .int .i64, .int .i64, .int .i64]), none⟩,
    ⟨1, some 6, .build [.int .i64 0, .int .i64 0, .int .i64 0, .int .i64 0, .int .i64 0, .int .i64 0, .int .i64 0, .int .i64 0, .sl 6 0 0 0, .sl 2 0 0 0, .int .i64 0, .sl 1 0 0 0] [(0, 8, .t 5)], none⟩,
    ⟨2, some 7, .newv (.t 6) 12, none⟩,
    ⟨3, some 3, .move (.t 7), none⟩]) (.seq (.seq (.region [⟨0, some 4, .move (.k (.c (.int .i64 0))), none⟩]) (.block 0 tight_all.c19)) tight_all.c24))) }
def tight_all.k24 (M : Mach) (C : Call) : Kont := execC M.j C (M.ag C) tight_all.c24 ({ exits := [], ret := retK tight_all.d } : Env) (retK tight_all.d)
def tight_all.e20 (M : Mach) (C : Call) : Env := { exits := (0, (tight_all.k24 M C)) :: (({ exits := [], ret := retK tight_all.d } : Env)).exits, ret := (({ exits := [], ret := retK tight_all.d } : Env)).ret }
def tight_all.L19 (M : Mach) (C : Call) (w3i : Nat) (w3o : Nat) (k4 : Int) (c27_0 : Int) (c27_1 : Int) (c27_2 : Int) (c27_3 : Int) (c27_4 : Int) (c27_5 : Int) (c27_6 : Int) (c27_7 : Int) (G : GH) : Option Res := M.ag C [1, 3, 4, 27] tight_all.c18 (tight_all.e20 M C) (tight_all.k24 M C) [.und, .ref 27 0, .und, .v (.c (.ptr w3i w3o)), .v (.c (.int .i64 k4)), .und, .und, .und, .und, .und, .und, .und, .und, .und, .und, .und, .und, .und, .und, .und, .und, .und, .und, .und, .und, .und, .und, .box [.int .i64 c27_0, .int .i64 c27_1, .int .i64 c27_2, .int .i64 c27_3, .int .i64 c27_4, .int .i64 c27_5, .int .i64 c27_6, .int .i64 c27_7]] G
def tight_all.k19 (M : Mach) (C : Call) : Kont := fun tm G => M.ag C [1, 3, 4, 27] tight_all.c18 (tight_all.e20 M C) (tight_all.k24 M C) (restr [1, 3, 4, 27] 0 tm) G
def tight_all.k17 (M : Mach) (C : Call) : Kont := execC M.j C (M.ag C) tight_all.c17 (tight_all.e20 M C) (tight_all.k19 M C)
def tight_all.J6 (M : Mach) (C : Call) (w3i : Nat) (w3o : Nat) (k4 : Int) (t15 : Bool) (c27_0 : Int) (c27_1 : Int) (c27_2 : Int) (c27_3 : Int) (c27_4 : Int) (c27_5 : Int) (c27_6 : Int) (c27_7 : Int) (G : GH) : Option Res := M.j (execC M.j C (M.ag C) tight_all.c6 (tight_all.e20 M C) (tight_all.k17 M C)) [.und, .ref 27 0, .und, .v (.c (.ptr w3i w3o)), .v (.c (.int .i64 k4)), .und, .und, .und, .und, .und, .und, .und, .und, .und, .und, .v (.c (.bool t15)), .und, .und, .und, .und, .und, .und, .und, .und, .und, .und, .und, .box [.int .i64 c27_0, .int .i64 c27_1, .int .i64 c27_2, .int .i64 c27_3, .int .i64 c27_4, .int .i64 c27_5, .int .i64 c27_6, .int .i64 c27_7]] G
def tight_all.k16 (M : Mach) (C : Call) : Kont := execC M.j C (M.ag C) tight_all.c16 (tight_all.e20 M C) (tight_all.k19 M C)
def tight_all.e15 (M : Mach) (C : Call) : Env := { exits := (1, (tight_all.k16 M C)) :: ((tight_all.e20 M C)).exits, ret := ((tight_all.e20 M C)).ret }
def tight_all.J13 (M : Mach) (C : Call) (w3i : Nat) (w3o : Nat) (k4 : Int) (c27_0 : Int) (c27_1 : Int) (c27_2 : Int) (c27_3 : Int) (c27_4 : Int) (c27_5 : Int) (c27_6 : Int) (c27_7 : Int) (G : GH) : Option Res := M.j (execC M.j C (M.ag C) tight_all.c13 (tight_all.e15 M C) (tight_all.k16 M C)) [.und, .ref 27 0, .und, .v (.c (.ptr w3i w3o)), .v (.c (.int .i64 k4)), .und, .und, .und, .und, .und, .und, .und, .und, .und, .und, .und, .und, .und, .und, .und, .und, .und, .und, .und, .und, .und, .und, .box [.int .i64 c27_0, .int .i64 c27_1, .int .i64 c27_2, .int .i64 c27_3, .int .i64 c27_4, .int .i64 c27_5, .int .i64 c27_6, .int .i64 c27_7]] G
theorem tight_all.L19_eq (M : Mach) (C : Call) (w3i : Nat) (w3o : Nat) (k4 : Int) (c27_0 : Int) (c27_1 : Int) (c27_2 : Int) (c27_3 : Int) (c27_4 : Int) (c27_5 : Int) (c27_6 : Int) (c27_7 : Int) (G : GH) : tight_all.L19 M C w3i w3o k4 c27_0 c27_1 c27_2 c27_3 c27_4 c27_5 c27_6 c27_7 G = ((C tight_may.id [.agg [.int .i64 c27_0, .int .i64 c27_1, .int .i64 c27_2, .int .i64 c27_3, .int .i64 c27_4, .int .i64 c27_5, .int .i64 c27_6, .int .i64 c27_7]] G).bind fun qr_2 => (((qr_2.1[0]?).bind V1.c?).bind Cell.asB).bind fun qb_3 => bif qb_3 then tight_all.J6 M C w3i w3o k4 (decide (k4 ≤ c27_3)) c27_0 c27_1 c27_2 c27_3 c27_4 c27_5 c27_6 c27_7 qr_2.2 else tight_all.J6 M C w3i w3o k4 false c27_0 c27_1 c27_2 c27_3 c27_4 c27_5 c27_6 c27_7 qr_2.2) := (M.hs _ _ _ _ _ _ _).trans (by kernel_rfl)
theorem tight_all.J6_eq (M : Mach) (C : Call) (w3i : Nat) (w3o : Nat) (k4 : Int) (t15 : Bool) (c27_0 : Int) (c27_1 : Int) (c27_2 : Int) (c27_3 : Int) (c27_4 : Int) (c27_5 : Int) (c27_6 : Int) (c27_7 : Int) (G : GH) : tight_all.J6 M C w3i w3o k4 t15 c27_0 c27_1 c27_2 c27_3 c27_4 c27_5 c27_6 c27_7 G = (bif t15 then bif decide (k4 > 0) then (C tight_writer_frees.id [.c (.ptr w3i w3o), .c (.int .i64 k4)] G).bind fun qr_4 => tight_all.J13 M C w3i w3o k4 c27_0 c27_1 c27_2 c27_3 c27_4 c27_5 c27_6 c27_7 qr_4.2 else tight_all.J13 M C w3i w3o k4 c27_0 c27_1 c27_2 c27_3 c27_4 c27_5 c27_6 c27_7 G else some ([.c (.ptr w3i w3o)], G)) := (M.hj _ _ _).trans (by kernel_rfl)
theorem tight_all.J13_eq (M : Mach) (C : Call) (w3i : Nat) (w3o : Nat) (k4 : Int) (c27_0 : Int) (c27_1 : Int) (c27_2 : Int) (c27_3 : Int) (c27_4 : Int) (c27_5 : Int) (c27_6 : Int) (c27_7 : Int) (G : GH) : tight_all.J13 M C w3i w3o k4 c27_0 c27_1 c27_2 c27_3 c27_4 c27_5 c27_6 c27_7 G = ((C tight_writer_fills.id [.c (.ptr w3i w3o), .c (.int .i64 k4)] G).bind fun qr_5 => tight_all.L19 M C w3i w3o (IntKind.i64.wrap (k4 + 1)) c27_0 c27_1 c27_2 c27_3 c27_4 c27_5 c27_6 c27_7 qr_5.2) := (M.hj _ _ _).trans (by kernel_rfl)
def tight_all.f (M : Mach) (C : Call) (c0_0 : Int) (c0_1 : Int) (c0_2 : Int) (c0_3 : Int) (c0_4 : Int) (c0_5 : Int) (c0_6 : Int) (c0_7 : Int) (G : GH) : Option Res := let qG_1 := G.alloc (.row [.int .i64 c0_0, .int .i64 c0_1, .int .i64 c0_2, .int .i64 c0_3, .int .i64 c0_4, .int .i64 c0_5, .int .i64 c0_6, .int .i64 c0_7, .sl 6 0 0 0, .sl 2 0 0 0, .int .i64 0, .sl 1 0 0 0] false); tight_all.L19 M C G.next 0 0 c0_0 c0_1 c0_2 c0_3 c0_4 c0_5 c0_6 c0_7 qG_1
theorem tight_all.eq (M : Mach) (C : Call) (c0_0 : Int) (c0_1 : Int) (c0_2 : Int) (c0_3 : Int) (c0_4 : Int) (c0_5 : Int) (c0_6 : Int) (c0_7 : Int) (G : GH) : runF M C tight_all.d [.agg [.int .i64 c0_0, .int .i64 c0_1, .int .i64 c0_2, .int .i64 c0_3, .int .i64 c0_4, .int .i64 c0_5, .int .i64 c0_6, .int .i64 c0_7]] G = tight_all.f M C c0_0 c0_1 c0_2 c0_3 c0_4 c0_5 c0_6 c0_7 G := by kernel_rfl

/- 26 hodman/hodmanref1.Charge -/
def hodmanref1_Charge.c7 : DCode := (.cond (.t 24) (.seq (.region [⟨0, some 6, .move (.k (.c (.int .i64 0))), none⟩,
    ⟨1, some 7, .move (.k (.c (.int .i64 3))), none⟩]) .ret) .skip)
def hodmanref1_Charge.c14 : DCode := (.cond (.t 32) (.seq (.region [⟨0, some 6, .move (.k (.c (.int .i64 0))), none⟩,
    ⟨1, some 7, .move (.k (.c (.int .i64 4))), none⟩]) .ret) .skip)
def hodmanref1_Charge.c20 : DCode := (.seq (.region [⟨0, some 34, .move (.t 1), none⟩,
    ⟨1, some 35, .move (.t 2), none⟩,
    ⟨2, some 36, .mx (.t 34) [.t 35], none⟩,
    ⟨3, some 37, .faddr 3 0, none⟩,
    ⟨4, some 38, .ldL 37 44 (.c (.int .i64)), none⟩,
    ⟨5, some 39, .mx (.t 36) [.t 38], none⟩,
    ⟨6, some 40, .call 44 [.t 39] [.c (.int .i64), .c (.bool)], none⟩,
    ⟨7, some 33, .move (.t 40), none⟩,
    ⟨8, some 41, .ext 33 0, none⟩,
    ⟨9, some 42, .ext 33 1, none⟩,
    ⟨10, some 10, .move (.t 41), none⟩,
    ⟨11, some 11, .move (.t 42), none⟩]) (.seq (.region [⟨0, some 43, .move (.t 10), none⟩,
    ⟨1, some 6, .move (.t 43), none⟩,
    ⟨2, some 7, .move (.k (.c (.int .i64 0))), none⟩]) .ret))
def hodmanref1_Charge.c21 : DCode := (.seq (.seq (.region [⟨0, some 25, .move (.t 1), none⟩,
    ⟨1, some 26, .cmp .lss .i64 (.t 25) (.k (.c (.int .i64 0))), none⟩,
    ⟨2, some 27, .move (.t 26), none⟩,
    ⟨3, some 28, .move (.t 1), some (27, false)⟩,
    ⟨4, some 29, .faddr 3 1, some (27, false)⟩,
    ⟨5, some 30, .ldL 29 44 (.c (.int .i64)), some (27, false)⟩,
    ⟨6, some 31, .cmp .gtr .i64 (.t 28) (.t 30), some (27, false)⟩,
    ⟨7, some 32, .pick (.t 27) (.k (.c (.bool true))) (.t 31), none⟩]) (.cut [1, 2, 3, 32, 44] hodmanref1_Charge.c14)) hodmanref1_Charge.c20)
def hodmanref1_Charge.d : DFn := { ntmps := 45, res := [.t 6, .t 7], body := (.seq (.region [⟨0, some 3, .boxv 44 [21, 29, 37] (.t 0) 8, none⟩,
    ⟨1, some 6, .move (.k (.c (.int .i64 0))), none⟩,
    ⟨2, some 7, .move (.k (.c (.int .i64 0))), none⟩]) (.seq (.region [⟨0, some 13, .move (.t 2), none⟩,
    ⟨1, some 14, .call 46 [.t 13] [.c (.int .i64), .c (.bool)], none⟩,
    ⟨2, some 12, .move (.t 14), none⟩,
    ⟨3, some 15, .ext 12 0, none⟩,
    ⟨4, some 16, .ext 12 1, none⟩,
    ⟨5, some 8, .move (.t 15), none⟩,
    ⟨6, some 9, .move (.t 16), none⟩]) (.seq (.seq (.region [⟨0, some 17, .move (.t 9), none⟩,
    ⟨1, some 18, .not (.t 17), none⟩,
    ⟨2, some 19, .move (.t 18), none⟩,
    ⟨3, some 20, .move (.t 2), some (19, false)⟩,
    ⟨4, some 21, .faddr 3 1, some (19, false)⟩,
    ⟨5, some 22, .ldL 21 44 (.c (.int .i64)), some (19, false)⟩,
    ⟨6, some 23, .cmp .gtr .i64 (.t 20) (.t 22), some (19, false)⟩,
    ⟨7, some 24, .pick (.t 19) (.k (.c (.bool true))) (.t 23), none⟩]) (.cut [1, 2, 3, 24, 44] hodmanref1_Charge.c7)) hodmanref1_Charge.c21))) }
def hodmanref1_Charge.k21 (M : Mach) (C : Call) : Kont := execC M.j C (M.ag C) hodmanref1_Charge.c21 ({ exits := [], ret := retK hodmanref1_Charge.d } : Env) (retK hodmanref1_Charge.d)
def hodmanref1_Charge.J7 (M : Mach) (C : Call) (s1 : Int) (a2 : Int) (t24 : Bool) (c44_0 : Int) (c44_1 : Int) (c44_2 : Int) (c44_3 : Int) (c44_4 : Int) (c44_5 : Int) (c44_6 : Int) (c44_7 : Int) (G : GH) : Option Res := M.j (execC M.j C (M.ag C) hodmanref1_Charge.c7 ({ exits := [], ret := retK hodmanref1_Charge.d } : Env) (hodmanref1_Charge.k21 M C)) [.und, .v (.c (.int .i64 s1)), .v (.c (.int .i64 a2)), .ref 44 0, .und, .und, .und, .und, .und, .und, .und, .und, .und, .und, .und, .und, .und, .und, .und, .und, .und, .und, .und, .und, .v (.c (.bool t24)), .und, .und, .und, .und, .und, .und, .und, .und, .und, .und, .und, .und, .und, .und, .und, .und, .und, .und, .und, .box [.int .i64 c44_0, .int .i64 c44_1, .int .i64 c44_2, .int .i64 c44_3, .int .i64 c44_4, .int .i64 c44_5, .int .i64 c44_6, .int .i64 c44_7]] G
def hodmanref1_Charge.k20 (M : Mach) (C : Call) : Kont := execC M.j C (M.ag C) hodmanref1_Charge.c20 ({ exits := [], ret := retK hodmanref1_Charge.d } : Env) (retK hodmanref1_Charge.d)
def hodmanref1_Charge.J14 (M : Mach) (C : Call) (s1 : Int) (a2 : Int) (t32 : Bool) (c44_0 : Int) (c44_1 : Int) (c44_2 : Int) (c44_3 : Int) (c44_4 : Int) (c44_5 : Int) (c44_6 : Int) (c44_7 : Int) (G : GH) : Option Res := M.j (execC M.j C (M.ag C) hodmanref1_Charge.c14 ({ exits := [], ret := retK hodmanref1_Charge.d } : Env) (hodmanref1_Charge.k20 M C)) [.und, .v (.c (.int .i64 s1)), .v (.c (.int .i64 a2)), .ref 44 0, .und, .und, .und, .und, .und, .und, .und, .und, .und, .und, .und, .und, .und, .und, .und, .und, .und, .und, .und, .und, .und, .und, .und, .und, .und, .und, .und, .und, .v (.c (.bool t32)), .und, .und, .und, .und, .und, .und, .und, .und, .und, .und, .und, .box [.int .i64 c44_0, .int .i64 c44_1, .int .i64 c44_2, .int .i64 c44_3, .int .i64 c44_4, .int .i64 c44_5, .int .i64 c44_6, .int .i64 c44_7]] G
theorem hodmanref1_Charge.J7_eq (M : Mach) (C : Call) (s1 : Int) (a2 : Int) (t24 : Bool) (c44_0 : Int) (c44_1 : Int) (c44_2 : Int) (c44_3 : Int) (c44_4 : Int) (c44_5 : Int) (c44_6 : Int) (c44_7 : Int) (G : GH) : hodmanref1_Charge.J7 M C s1 a2 t24 c44_0 c44_1 c44_2 c44_3 c44_4 c44_5 c44_6 c44_7 G = (bif t24 then some ([.c (.int .i64 0), .c (.int .i64 3)], G) else bif decide (s1 < 0) then hodmanref1_Charge.J14 M C s1 a2 true c44_0 c44_1 c44_2 c44_3 c44_4 c44_5 c44_6 c44_7 G else hodmanref1_Charge.J14 M C s1 a2 (decide (s1 > c44_1)) c44_0 c44_1 c44_2 c44_3 c44_4 c44_5 c44_6 c44_7 G) := (M.hj _ _ _).trans (by kernel_rfl)
theorem hodmanref1_Charge.J14_eq (M : Mach) (C : Call) (s1 : Int) (a2 : Int) (t32 : Bool) (c44_0 : Int) (c44_1 : Int) (c44_2 : Int) (c44_3 : Int) (c44_4 : Int) (c44_5 : Int) (c44_6 : Int) (c44_7 : Int) (G : GH) : hodmanref1_Charge.J14 M C s1 a2 t32 c44_0 c44_1 c44_2 c44_3 c44_4 c44_5 c44_6 c44_7 G = (bif t32 then some ([.c (.int .i64 0), .c (.int .i64 4)], G) else (C hodmanref1_Up.id [.c (.int .i64 (mx2 (mx2 s1 a2) c44_0))] G).bind fun qr_4 => (((qr_4.1[0]?).bind V1.c?).bind (Cell.asI .i64)).bind fun qx_5 => (((qr_4.1[1]?).bind V1.c?).bind Cell.asB).bind fun qb_6 => some ([.c (.int .i64 qx_5), .c (.int .i64 0)], qr_4.2)) := (M.hj _ _ _).trans (by kernel_rfl)
def hodmanref1_Charge.f (M : Mach) (C : Call) (c0_0 : Int) (c0_1 : Int) (c0_2 : Int) (c0_3 : Int) (c0_4 : Int) (c0_5 : Int) (c0_6 : Int) (c0_7 : Int) (s1 : Int) (a2 : Int) (G : GH) : Option Res := (C hodmanref1_Log.id [.c (.int .i64 a2)] G).bind fun qr_1 => (((qr_1.1[0]?).bind V1.c?).bind (Cell.asI .i64)).bind fun qx_2 => (((qr_1.1[1]?).bind V1.c?).bind Cell.asB).bind fun qb_3 => bif (!qb_3) then hodmanref1_Charge.J7 M C s1 a2 true c0_0 c0_1 c0_2 c0_3 c0_4 c0_5 c0_6 c0_7 qr_1.2 else hodmanref1_Charge.J7 M C s1 a2 (decide (a2 > c0_1)) c0_0 c0_1 c0_2 c0_3 c0_4 c0_5 c0_6 c0_7 qr_1.2
theorem hodmanref1_Charge.eq (M : Mach) (C : Call) (c0_0 : Int) (c0_1 : Int) (c0_2 : Int) (c0_3 : Int) (c0_4 : Int) (c0_5 : Int) (c0_6 : Int) (c0_7 : Int) (s1 : Int) (a2 : Int) (G : GH) : runF M C hodmanref1_Charge.d [.agg [.int .i64 c0_0, .int .i64 c0_1, .int .i64 c0_2, .int .i64 c0_3, .int .i64 c0_4, .int .i64 c0_5, .int .i64 c0_6, .int .i64 c0_7], .c (.int .i64 s1), .c (.int .i64 a2)] G = hodmanref1_Charge.f M C c0_0 c0_1 c0_2 c0_3 c0_4 c0_5 c0_6 c0_7 s1 a2 G := by kernel_rfl

/- 68 hodman/hodmanref1.Mul -/
def hodmanref1_Mul.c6 : DCode := (.cond (.t 12) (.seq (.region [⟨0, some 4, .move (.k (.c (.int .i64 0))), none⟩,
    ⟨1, some 5, .move (.k (.c (.bool true))), none⟩]) .ret) .skip)
def hodmanref1_Mul.c14 : DCode := (.cond (.t 36) (.seq (.region [⟨0, some 4, .move (.k (.c (.int .i64 0))), none⟩,
    ⟨1, some 5, .move (.k (.c (.bool false))), none⟩]) .ret) .skip)
def hodmanref1_Mul.c18 : DCode := (.seq (.region [⟨0, some 37, .move (.t 6), none⟩,
    ⟨1, some 4, .move (.t 37), none⟩,
    ⟨2, some 5, .move (.k (.c (.bool true))), none⟩]) .ret)
def hodmanref1_Mul.c20 : DCode := (.seq (.region [⟨0, some 13, .move (.t 0), none⟩,
    ⟨1, some 14, .move (.t 1), none⟩,
    ⟨2, some 15, .bin .mul .i64 (.t 13) (.t 14), none⟩,
    ⟨3, some 6, .move (.t 15), none⟩]) (.seq (.seq (.region [⟨0, some 16, .move (.t 0), none⟩,
    ⟨1, some 17, .cmp .eql .i64 (.t 16) (.k (.c (.int .i64 (-1)))), none⟩,
    ⟨2, some 18, .move (.t 17), none⟩,
    ⟨3, some 19, .move (.t 1), some (18, true)⟩,
    ⟨4, some 20, .cmp .eql .i64 (.t 19) (.k (.c (.int .i64 (-9223372036854775808)))), some (18, true)⟩,
    ⟨5, some 21, .pick (.t 18) (.t 20) (.k (.c (.bool false))), none⟩,
    ⟨6, some 22, .move (.t 21), none⟩,
    ⟨7, some 23, .move (.t 1), some (22, false)⟩,
    ⟨8, some 24, .cmp .eql .i64 (.t 23) (.k (.c (.int .i64 (-1)))), some (22, false)⟩,
    ⟨9, some 25, .move (.t 24), some (22, false)⟩,
    ⟨10, some 26, .move (.t 0), some (25, true)⟩,
    ⟨11, some 27, .cmp .eql .i64 (.t 26) (.k (.c (.int .i64 (-9223372036854775808)))), some (25, true)⟩,
    ⟨12, some 28, .pick (.t 25) (.t 27) (.k (.c (.bool false))), some (22, false)⟩,
    ⟨13, some 29, .pick (.t 22) (.k (.c (.bool true))) (.t 28), none⟩,
    ⟨14, some 30, .move (.t 29), none⟩,
    ⟨15, some 31, .move (.t 6), some (30, false)⟩,
    ⟨16, some 32, .move (.t 1), some (30, false)⟩,
    ⟨17, some 33, .bin .quo .i64 (.t 31) (.t 32), some (30, false)⟩,
    ⟨18, some 34, .move (.t 0), some (30, false)⟩,
    ⟨19, some 35, .cmp .neq .i64 (.t 33) (.t 34), some (30, false)⟩,
    ⟨20, some 36, .pick (.t 30) (.k (.c (.bool true))) (.t 35), none⟩]) (.cut [6, 36] hodmanref1_Mul.c14)) hodmanref1_Mul.c18))
def hodmanref1_Mul.d : DFn := { ntmps := 38, res := [.t 4, .t 5], body := (.seq (.region [⟨0, some 4, .move (.k (.c (.int .i64 0))), none⟩,
    ⟨1, some 5, .move (.k (.c (.bool false))), none⟩]) (.seq (.seq (.region [⟨0, some 7, .move (.t 0), none⟩,
    ⟨1, some 8, .cmp .eql .i64 (.t 7) (.k (.c (.int .i64 0))), none⟩,
    ⟨2, some 9, .move (.t 8), none⟩,
    ⟨3, some 10, .move (.t 1), some (9, false)⟩,
    ⟨4, some 11, .cmp .eql .i64 (.t 10) (.k (.c (.int .i64 0))), some (9, false)⟩,
    ⟨5, some 12, .pick (.t 9) (.k (.c (.bool true))) (.t 11), none⟩]) (.cut [0, 1, 12] hodmanref1_Mul.c6)) hodmanref1_Mul.c20)) }
def hodmanref1_Mul.k20 (M : Mach) (C : Call) : Kont := execC M.j C (M.ag C) hodmanref1_Mul.c20 ({ exits := [], ret := retK hodmanref1_Mul.d } : Env) (retK hodmanref1_Mul.d)
def hodmanref1_Mul.J6 (M : Mach) (C : Call) (a0 : Int) (b1 : Int) (t12 : Bool) (G : GH) : Option Res := M.j (execC M.j C (M.ag C) hodmanref1_Mul.c6 ({ exits := [], ret := retK hodmanref1_Mul.d } : Env) (hodmanref1_Mul.k20 M C)) [.v (.c (.int .i64 a0)), .v (.c (.int .i64 b1)), .und, .und, .und, .und, .und, .und, .und, .und, .und, .und, .v (.c (.bool t12)), .und, .und, .und, .und, .und, .und, .und, .und, .und, .und, .und, .und, .und, .und, .und, .und, .und, .und, .und, .und, .und, .und, .und, .und, .und] G
def hodmanref1_Mul.k18 (M : Mach) (C : Call) : Kont := execC M.j C (M.ag C) hodmanref1_Mul.c18 ({ exits := [], ret := retK hodmanref1_Mul.d } : Env) (retK hodmanref1_Mul.d)
def hodmanref1_Mul.J14 (M : Mach) (C : Call) (c6 : Int) (t36 : Bool) (G : GH) : Option Res := M.j (execC M.j C (M.ag C) hodmanref1_Mul.c14 ({ exits := [], ret := retK hodmanref1_Mul.d } : Env) (hodmanref1_Mul.k18 M C)) [.und, .und, .und, .und, .und, .und, .v (.c (.int .i64 c6)), .und, .und, .und, .und, .und, .und, .und, .und, .und, .und, .und, .und, .und, .und, .und, .und, .und, .und, .und, .und, .und, .und, .und, .und, .und, .und, .und, .und, .und, .v (.c (.bool t36)), .und] G
theorem hodmanref1_Mul.J6_eq (M : Mach) (C : Call) (a0 : Int) (b1 : Int) (t12 : Bool) (G : GH) : hodmanref1_Mul.J6 M C a0 b1 t12 G = (bif t12 then some ([.c (.int .i64 0), .c (.bool true)], G) else bif decide (a0 = (-1)) then bif decide (b1 = (-9223372036854775808)) then hodmanref1_Mul.J14 M C (IntKind.i64.wrap (a0 * b1)) true G else bif decide (b1 = (-1)) then bif decide (a0 = (-9223372036854775808)) then hodmanref1_Mul.J14 M C (IntKind.i64.wrap (a0 * b1)) true G else (binD .quo .i64 (IntKind.i64.wrap (a0 * b1)) b1).bind fun qx_1 => hodmanref1_Mul.J14 M C (IntKind.i64.wrap (a0 * b1)) (!decide (qx_1 = a0)) G else (binD .quo .i64 (IntKind.i64.wrap (a0 * b1)) b1).bind fun qx_2 => hodmanref1_Mul.J14 M C (IntKind.i64.wrap (a0 * b1)) (!decide (qx_2 = a0)) G else bif decide (b1 = (-1)) then bif decide (a0 = (-9223372036854775808)) then hodmanref1_Mul.J14 M C (IntKind.i64.wrap (a0 * b1)) true G else (binD .quo .i64 (IntKind.i64.wrap (a0 * b1)) b1).bind fun qx_3 => hodmanref1_Mul.J14 M C (IntKind.i64.wrap (a0 * b1)) (!decide (qx_3 = a0)) G else (binD .quo .i64 (IntKind.i64.wrap (a0 * b1)) b1).bind fun qx_4 => hodmanref1_Mul.J14 M C (IntKind.i64.wrap (a0 * b1)) (!decide (qx_4 = a0)) G) := (M.hj _ _ _).trans (by kernel_rfl)
theorem hodmanref1_Mul.J14_eq (M : Mach) (C : Call) (c6 : Int) (t36 : Bool) (G : GH) : hodmanref1_Mul.J14 M C c6 t36 G = (bif t36 then some ([.c (.int .i64 0), .c (.bool false)], G) else some ([.c (.int .i64 c6), .c (.bool true)], G)) := (M.hj _ _ _).trans (by kernel_rfl)
def hodmanref1_Mul.f (M : Mach) (C : Call) (a0 : Int) (b1 : Int) (G : GH) : Option Res := bif decide (a0 = 0) then hodmanref1_Mul.J6 M C a0 b1 true G else hodmanref1_Mul.J6 M C a0 b1 (decide (b1 = 0)) G
theorem hodmanref1_Mul.eq (M : Mach) (C : Call) (a0 : Int) (b1 : Int) (G : GH) : runF M C hodmanref1_Mul.d [.c (.int .i64 a0), .c (.int .i64 b1)] G = hodmanref1_Mul.f M C a0 b1 G := by kernel_rfl

/- 64 hodman/hodmanref8.Pages -/
def hodmanref8_Pages.c6 : DCode := (.cond (.t 19) (.seq (.region [⟨0, some 6, .move (.k (.c (.int .i64 0))), none⟩,
    ⟨1, some 7, .move (.k (.c (.int .i64 0))), none⟩]) .ret) .skip)
def hodmanref8_Pages.c23 : DCode := (.seq (.region [⟨0, some 37, .move (.t 1), none⟩,
    ⟨1, some 38, .move (.t 0), none⟩,
    ⟨2, some 39, .bin .quo .i64 (.t 37) (.t 38), none⟩,
    ⟨3, some 40, .move (.t 8), none⟩,
    ⟨4, some 41, .move (.t 0), none⟩,
    ⟨5, some 42, .bin .quo .i64 (.t 40) (.t 41), none⟩,
    ⟨6, some 43, .bin .add .i64 (.t 42) (.k (.c (.int .i64 1))), none⟩,
    ⟨7, some 6, .move (.t 39), none⟩,
    ⟨8, some 7, .move (.t 43), none⟩]) .ret)
def hodmanref8_Pages.c26 : DCode := (.seq (.seq (.region [⟨0, some 20, .move (.t 2), none⟩,
    ⟨1, some 21, .cmp .eql .i64 (.t 20) (.k (.c (.int .i64 0))), none⟩]) (.cond (.t 21) (.seq (.region [⟨0, some 22, .move (.t 1), none⟩,
    ⟨1, some 23, .move (.t 0), none⟩,
    ⟨2, some 24, .bin .quo .i64 (.t 22) (.t 23), none⟩,
    ⟨3, some 25, .move (.t 1), none⟩,
    ⟨4, some 26, .move (.t 0), none⟩,
    ⟨5, some 27, .bin .quo .i64 (.t 25) (.t 26), none⟩,
    ⟨6, some 6, .move (.t 24), none⟩,
    ⟨7, some 7, .move (.t 27), none⟩]) .ret) .skip)) (.seq (.region [⟨0, some 29, .move (.t 1), none⟩,
    ⟨1, some 30, .move (.t 2), none⟩,
    ⟨2, some 31, .bin .sub .i64 (.t 30) (.k (.c (.int .i64 1))), none⟩,
    ⟨3, some 32, .call 61 [.t 29, .t 31] [.c (.int .i64), .c (.bool)], none⟩,
    ⟨4, some 28, .move (.t 32), none⟩,
    ⟨5, some 33, .ext 28 0, none⟩,
    ⟨6, some 34, .ext 28 1, none⟩,
    ⟨7, some 8, .move (.t 33), none⟩,
    ⟨8, some 9, .move (.t 34), none⟩]) (.seq (.seq (.region [⟨0, some 35, .move (.t 9), none⟩,
    ⟨1, some 36, .not (.t 35), none⟩]) (.cond (.t 36) (.region [⟨0, some 8, .move (.k (.c (.int .i64 9223372036854775807))), none⟩]) .skip)) (.cut [0, 1, 8] hodmanref8_Pages.c23))))
def hodmanref8_Pages.d : DFn := { ntmps := 44, res := [.t 6, .t 7], body := (.seq (.region [⟨0, some 6, .move (.k (.c (.int .i64 0))), none⟩,
    ⟨1, some 7, .move (.k (.c (.int .i64 0))), none⟩]) (.seq (.seq (.region [⟨0, some 10, .move (.t 0), none⟩,
    ⟨1, some 11, .cmp .lss .i64 (.t 10) (.k (.c (.int .i64 1))), none⟩,
    ⟨2, some 12, .move (.t 11), none⟩,
    ⟨3, some 13, .move (.t 1), some (12, false)⟩,
    ⟨4, some 14, .cmp .lss .i64 (.t 13) (.k (.c (.int .i64 0))), some (12, false)⟩,
    ⟨5, some 15, .pick (.t 12) (.k (.c (.bool true))) (.t 14), none⟩,
    ⟨6, some 16, .move (.t 15), none⟩,
    ⟨7, some 17, .move (.t 2), some (16, false)⟩,
    ⟨8, some 18, .cmp .lss .i64 (.t 17) (.k (.c (.int .i64 0))), some (16, false)⟩,
    ⟨9, some 19, .pick (.t 16) (.k (.c (.bool true))) (.t 18), none⟩]) (.cut [0, 1, 2, 19] hodmanref8_Pages.c6)) hodmanref8_Pages.c26)) }
def hodmanref8_Pages.k26 (M : Mach) (C : Call) : Kont := execC M.j C (M.ag C) hodmanref8_Pages.c26 ({ exits := [], ret := retK hodmanref8_Pages.d } : Env) (retK hodmanref8_Pages.d)
def hodmanref8_Pages.J6 (M : Mach) (C : Call) (page0 : Int) (at1 : Int) (n2 : Int) (t19 : Bool) (G : GH) : Option Res := M.j (execC M.j C (M.ag C) hodmanref8_Pages.c6 ({ exits := [], ret := retK hodmanref8_Pages.d } : Env) (hodmanref8_Pages.k26 M C)) [.v (.c (.int .i64 page0)), .v (.c (.int .i64 at1)), .v (.c (.int .i64 n2)), .und, .und, .und, .und, .und, .und, .und, .und, .und, .und, .und, .und, .und, .und, .und, .und, .v (.c (.bool t19)), .und, .und, .und, .und, .und, .und, .und, .und, .und, .und, .und, .und, .und, .und, .und, .und, .und, .und, .und, .und, .und, .und, .und, .und] G
def hodmanref8_Pages.J23 (M : Mach) (C : Call) (page0 : Int) (at1 : Int) (last8 : Int) (G : GH) : Option Res := M.j (execC M.j C (M.ag C) hodmanref8_Pages.c23 ({ exits := [], ret := retK hodmanref8_Pages.d } : Env) (retK hodmanref8_Pages.d)) [.v (.c (.int .i64 page0)), .v (.c (.int .i64 at1)), .und, .und, .und, .und, .und, .und, .v (.c (.int .i64 last8)), .und, .und, .und, .und, .und, .und, .und, .und, .und, .und, .und, .und, .und, .und, .und, .und, .und, .und, .und, .und, .und, .und, .und, .und, .und, .und, .und, .und, .und, .und, .und, .und, .und, .und, .und] G
theorem hodmanref8_Pages.J6_eq (M : Mach) (C : Call) (page0 : Int) (at1 : Int) (n2 : Int) (t19 : Bool) (G : GH) : hodmanref8_Pages.J6 M C page0 at1 n2 t19 G = (bif t19 then some ([.c (.int .i64 0), .c (.int .i64 0)], G) else bif decide (n2 = 0) then (binD .quo .i64 at1 page0).bind fun qx_1 => (binD .quo .i64 at1 page0).bind fun qx_2 => some ([.c (.int .i64 qx_1), .c (.int .i64 qx_2)], G) else (C hodmanref1_Add.id [.c (.int .i64 at1), .c (.int .i64 (IntKind.i64.wrap (n2 - 1)))] G).bind fun qr_3 => (((qr_3.1[0]?).bind V1.c?).bind (Cell.asI .i64)).bind fun qx_4 => (((qr_3.1[1]?).bind V1.c?).bind Cell.asB).bind fun qb_5 => bif (!qb_5) then hodmanref8_Pages.J23 M C page0 at1 9223372036854775807 qr_3.2 else hodmanref8_Pages.J23 M C page0 at1 qx_4 qr_3.2) := (M.hj _ _ _).trans (by kernel_rfl)
theorem hodmanref8_Pages.J23_eq (M : Mach) (C : Call) (page0 : Int) (at1 : Int) (last8 : Int) (G : GH) : hodmanref8_Pages.J23 M C page0 at1 last8 G = ((binD .quo .i64 at1 page0).bind fun qx_6 => (binD .quo .i64 last8 page0).bind fun qx_7 => some ([.c (.int .i64 qx_6), .c (.int .i64 (IntKind.i64.wrap (qx_7 + 1)))], G)) := (M.hj _ _ _).trans (by kernel_rfl)
def hodmanref8_Pages.f (M : Mach) (C : Call) (page0 : Int) (at1 : Int) (n2 : Int) (G : GH) : Option Res := bif decide (page0 < 1) then hodmanref8_Pages.J6 M C page0 at1 n2 true G else bif decide (at1 < 0) then hodmanref8_Pages.J6 M C page0 at1 n2 true G else hodmanref8_Pages.J6 M C page0 at1 n2 (decide (n2 < 0)) G
theorem hodmanref8_Pages.eq (M : Mach) (C : Call) (page0 : Int) (at1 : Int) (n2 : Int) (G : GH) : runF M C hodmanref8_Pages.d [.c (.int .i64 page0), .c (.int .i64 at1), .c (.int .i64 n2)] G = hodmanref8_Pages.f M C page0 at1 n2 G := by kernel_rfl

/- 63 hodman/hodmanref1.Product -/
def hodmanref1_Product.c6 : DCode := (.cond (.t 15) (.seq (.region [⟨0, some 6, .move (.k (.c (.int .i64 0))), none⟩,
    ⟨1, some 7, .move (.k (.c (.int .i64 2))), none⟩]) .ret) .skip)
def hodmanref1_Product.c14 : DCode := (.cond (.t 29) (.seq (.region [⟨0, some 6, .move (.k (.c (.int .i64 0))), none⟩,
    ⟨1, some 7, .move (.k (.c (.int .i64 4))), none⟩]) .ret) .skip)
def hodmanref1_Product.c18 : DCode := (.seq (.region [⟨0, some 30, .move (.t 8), none⟩,
    ⟨1, some 6, .move (.t 30), none⟩,
    ⟨2, some 7, .move (.k (.c (.int .i64 0))), none⟩]) .ret)
def hodmanref1_Product.c20 : DCode := (.seq (.region [⟨0, some 17, .move (.t 1), none⟩,
    ⟨1, some 18, .move (.t 2), none⟩,
    ⟨2, some 19, .call 68 [.t 17, .t 18] [.c (.int .i64), .c (.bool)], none⟩,
    ⟨3, some 16, .move (.t 19), none⟩,
    ⟨4, some 20, .ext 16 0, none⟩,
    ⟨5, some 21, .ext 16 1, none⟩,
    ⟨6, some 8, .move (.t 20), none⟩,
    ⟨7, some 9, .move (.t 21), none⟩]) (.seq (.seq (.region [⟨0, some 22, .move (.t 9), none⟩,
    ⟨1, some 23, .not (.t 22), none⟩,
    ⟨2, some 24, .move (.t 23), none⟩,
    ⟨3, some 25, .move (.t 8), some (24, false)⟩,
    ⟨4, some 26, .faddr 3 1, some (24, false)⟩,
    ⟨5, some 27, .ldL 26 31 (.c (.int .i64)), some (24, false)⟩,
    ⟨6, some 28, .cmp .gtr .i64 (.t 25) (.t 27), some (24, false)⟩,
    ⟨7, some 29, .pick (.t 24) (.k (.c (.bool true))) (.t 28), none⟩]) (.cut [8, 29] hodmanref1_Product.c14)) hodmanref1_Product.c18))
def hodmanref1_Product.d : DFn := { ntmps := 32, res := [.t 6, .t 7], body := (.seq (.region [⟨0, some 3, .boxv 31 [26] (.t 0) 8, none⟩,
    ⟨1, some 6, .move (.k (.c (.int .i64 0))), none⟩,
    ⟨2, some 7, .move (.k (.c (.int .i64 0))), none⟩]) (.seq (.seq (.region [⟨0, some 10, .move (.t 1), none⟩,
    ⟨1, some 11, .cmp .lss .i64 (.t 10) (.k (.c (.int .i64 0))), none⟩,
    ⟨2, some 12, .move (.t 11), none⟩,
    ⟨3, some 13, .move (.t 2), some (12, false)⟩,
    ⟨4, some 14, .cmp .lss .i64 (.t 13) (.k (.c (.int .i64 0))), some (12, false)⟩,
    ⟨5, some 15, .pick (.t 12) (.k (.c (.bool true))) (.t 14), none⟩]) (.cut [1, 2, 3, 15, 31] hodmanref1_Product.c6)) hodmanref1_Product.c20)) }
def hodmanref1_Product.k20 (M : Mach) (C : Call) : Kont := execC M.j C (M.ag C) hodmanref1_Product.c20 ({ exits := [], ret := retK hodmanref1_Product.d } : Env) (retK hodmanref1_Product.d)
def hodmanref1_Product.J6 (M : Mach) (C : Call) (n1 : Int) (s2 : Int) (t15 : Bool) (c31_0 : Int) (c31_1 : Int) (c31_2 : Int) (c31_3 : Int) (c31_4 : Int) (c31_5 : Int) (c31_6 : Int) (c31_7 : Int) (G : GH) : Option Res := M.j (execC M.j C (M.ag C) hodmanref1_Product.c6 ({ exits := [], ret := retK hodmanref1_Product.d } : Env) (hodmanref1_Product.k20 M C)) [.und, .v (.c (.int .i64 n1)), .v (.c (.int .i64 s2)), .ref 31 0, .und, .und, .und, .und, .und, .und, .und, .und, .und, .und, .und, .v (.c (.bool t15)), .und, .und, .und, .und, .und, .und, .und, .und, .und, .und, .und, .und, .und, .und, .und, .box [.int .i64 c31_0, .int .i64 c31_1, .int .i64 c31_2, .int .i64 c31_3, .int .i64 c31_4, .int .i64 c31_5, .int .i64 c31_6, .int .i64 c31_7]] G
def hodmanref1_Product.k18 (M : Mach) (C : Call) : Kont := execC M.j C (M.ag C) hodmanref1_Product.c18 ({ exits := [], ret := retK hodmanref1_Product.d } : Env) (retK hodmanref1_Product.d)
def hodmanref1_Product.J14 (M : Mach) (C : Call) (v8 : Int) (t29 : Bool) (G : GH) : Option Res := M.j (execC M.j C (M.ag C) hodmanref1_Product.c14 ({ exits := [], ret := retK hodmanref1_Product.d } : Env) (hodmanref1_Product.k18 M C)) [.und, .und, .und, .und, .und, .und, .und, .und, .v (.c (.int .i64 v8)), .und, .und, .und, .und, .und, .und, .und, .und, .und, .und, .und, .und, .und, .und, .und, .und, .und, .und, .und, .und, .v (.c (.bool t29)), .und, .und] G
theorem hodmanref1_Product.J6_eq (M : Mach) (C : Call) (n1 : Int) (s2 : Int) (t15 : Bool) (c31_0 : Int) (c31_1 : Int) (c31_2 : Int) (c31_3 : Int) (c31_4 : Int) (c31_5 : Int) (c31_6 : Int) (c31_7 : Int) (G : GH) : hodmanref1_Product.J6 M C n1 s2 t15 c31_0 c31_1 c31_2 c31_3 c31_4 c31_5 c31_6 c31_7 G = (bif t15 then some ([.c (.int .i64 0), .c (.int .i64 2)], G) else (C hodmanref1_Mul.id [.c (.int .i64 n1), .c (.int .i64 s2)] G).bind fun qr_1 => (((qr_1.1[0]?).bind V1.c?).bind (Cell.asI .i64)).bind fun qx_2 => (((qr_1.1[1]?).bind V1.c?).bind Cell.asB).bind fun qb_3 => bif (!qb_3) then hodmanref1_Product.J14 M C qx_2 true qr_1.2 else hodmanref1_Product.J14 M C qx_2 (decide (qx_2 > c31_1)) qr_1.2) := (M.hj _ _ _).trans (by kernel_rfl)
theorem hodmanref1_Product.J14_eq (M : Mach) (C : Call) (v8 : Int) (t29 : Bool) (G : GH) : hodmanref1_Product.J14 M C v8 t29 G = (bif t29 then some ([.c (.int .i64 0), .c (.int .i64 4)], G) else some ([.c (.int .i64 v8), .c (.int .i64 0)], G)) := (M.hj _ _ _).trans (by kernel_rfl)
def hodmanref1_Product.f (M : Mach) (C : Call) (c0_0 : Int) (c0_1 : Int) (c0_2 : Int) (c0_3 : Int) (c0_4 : Int) (c0_5 : Int) (c0_6 : Int) (c0_7 : Int) (n1 : Int) (s2 : Int) (G : GH) : Option Res := bif decide (n1 < 0) then hodmanref1_Product.J6 M C n1 s2 true c0_0 c0_1 c0_2 c0_3 c0_4 c0_5 c0_6 c0_7 G else hodmanref1_Product.J6 M C n1 s2 (decide (s2 < 0)) c0_0 c0_1 c0_2 c0_3 c0_4 c0_5 c0_6 c0_7 G
theorem hodmanref1_Product.eq (M : Mach) (C : Call) (c0_0 : Int) (c0_1 : Int) (c0_2 : Int) (c0_3 : Int) (c0_4 : Int) (c0_5 : Int) (c0_6 : Int) (c0_7 : Int) (n1 : Int) (s2 : Int) (G : GH) : runF M C hodmanref1_Product.d [.agg [.int .i64 c0_0, .int .i64 c0_1, .int .i64 c0_2, .int .i64 c0_3, .int .i64 c0_4, .int .i64 c0_5, .int .i64 c0_6, .int .i64 c0_7], .c (.int .i64 n1), .c (.int .i64 s2)] G = hodmanref1_Product.f M C c0_0 c0_1 c0_2 c0_3 c0_4 c0_5 c0_6 c0_7 n1 s2 G := by kernel_rfl

/- 19 (*hodman/hodmanplay.Picks).Raw -/
def hodmanplay_Picks_Raw.c10 : DCode := (.seq (.region [⟨0, some 30, .ldL 6 32 (.agg [.int .i64, .int .i64, .int .i64, .int .i64, .int .i64, .int .i64]), none⟩,
    ⟨1, none, .stL 4 31 (.t 30) 6, none⟩]) .ret)
def hodmanplay_Picks_Raw.d : DFn := { ntmps := 33, res := [.box 4 (some 6)], body := (.seq (.region [⟨0, some 4, .boxz 31 [] [.int .i64 0, .int .i64 0, .int .i64 0, .int .i64 0, .int .i64 0, .int .i64 0], none⟩]) (.seq (.region [⟨0, some 7, .move (.t 0), none⟩,
    ⟨1, some 8, .call 37 [.t 7, .k (.c (.int .i64 9))] [.c (.int .i64)], none⟩,
    ⟨2, some 9, .bin .add .i64 (.k (.c (.int .i64 1))) (.t 8), none⟩,
    ⟨3, some 5, .move (.t 9), none⟩]) (.seq (.region [⟨0, some 10, .move (.t 5), none⟩,
    ⟨1, some 11, .move (.t 5), none⟩,
    ⟨2, some 12, .move (.t 0), none⟩,
    ⟨3, some 13, .call 37 [.t 12, .k (.c (.int .i64 12))] [.c (.int .i64)], none⟩,
    ⟨4, some 14, .bin .add .i64 (.k (.c (.int .i64 1))) (.t 13), none⟩,
    ⟨5, some 15, .bin .mul .i64 (.t 11) (.t 14), none⟩,
    ⟨6, some 16, .move (.t 0), none⟩,
    ⟨7, some 17, .call 37 [.t 16, .k (.c (.int .i64 150))] [.c (.int .i64)], none⟩,
    ⟨8, some 18, .bin .add .i64 (.k (.c (.int .i64 1))) (.t 17), none⟩,
    ⟨9, some 19, .move (.t 0), none⟩,
    ⟨10, some 20, .call 37 [.t 19, .k (.c (.int .i64 30))] [.c (.int .i64)], none⟩,
    ⟨11, some 21, .bin .add .i64 (.k (.c (.int .i64 1))) (.t 20), none⟩,
    ⟨12, some 22, .move (.t 0), none⟩,
    ⟨13, some 23, .call 37 [.t 22, .k (.c (.int .i64 200))] [.c (.int .i64)], none⟩,
    ⟨14, some 24, .move (.t 0), none⟩,
    ⟨15, some 25, .call 37 [.t 24, .k (.c (.int .i64 20))] [.c (.int .i64)], none⟩,
    ⟨16, some 26, .bin .add .i64 (.k (.c (.int .i64 1))) (.t 25), none⟩,
    ⟨17, some 27, .build [.int .i64 0, .int .i64 0, .int .i64 0, .int .i64 0, .int .i64 0, .int .i64 0] [(0, 1, .t 10), (1, 1, .t 15), (2, 1, .t 18), (3, 1, .t 21), (5, 1, .t 23), (4, 1, .t 26)], none⟩,
    ⟨18, some 6, .boxz 32 [29] [.int .i64 0, .int .i64 0, .int .i64 0, .int .i64 0, .int .i64 0, .int .i64 0], none⟩,
    ⟨19, none, .stL 6 32 (.t 27) 6, none⟩]) (.seq (.seq (.region [⟨0, some 28, .move (.t 1), none⟩]) (.cond (.t 28) (.region [⟨0, some 29, .faddr 6 4, none⟩,
    ⟨1, none, .stL 29 32 (.k (.c (.int .i64 5000))) 1, none⟩]) .skip)) (.cut [4, 6, 31, 32] hodmanplay_Picks_Raw.c10))))) }
def hodmanplay_Picks_Raw.J10 (M : Mach) (C : Call) (x31_0 : Int) (x31_1 : Int) (x31_2 : Int) (x31_3 : Int) (x31_4 : Int) (x31_5 : Int) (r32_0 : Int) (r32_1 : Int) (r32_2 : Int) (r32_3 : Int) (r32_4 : Int) (r32_5 : Int) (G : GH) : Option Res := M.j (execC M.j C (M.ag C) hodmanplay_Picks_Raw.c10 ({ exits := [], ret := retK hodmanplay_Picks_Raw.d } : Env) (retK hodmanplay_Picks_Raw.d)) [.und, .und, .und, .und, .ref 31 0, .und, .ref 32 0, .und, .und, .und, .und, .und, .und, .und, .und, .und, .und, .und, .und, .und, .und, .und, .und, .und, .und, .und, .und, .und, .und, .und, .und, .box [.int .i64 x31_0, .int .i64 x31_1, .int .i64 x31_2, .int .i64 x31_3, .int .i64 x31_4, .int .i64 x31_5], .box [.int .i64 r32_0, .int .i64 r32_1, .int .i64 r32_2, .int .i64 r32_3, .int .i64 r32_4, .int .i64 r32_5]] G
theorem hodmanplay_Picks_Raw.J10_eq (M : Mach) (C : Call) (x31_0 : Int) (x31_1 : Int) (x31_2 : Int) (x31_3 : Int) (x31_4 : Int) (x31_5 : Int) (r32_0 : Int) (r32_1 : Int) (r32_2 : Int) (r32_3 : Int) (r32_4 : Int) (r32_5 : Int) (G : GH) : hodmanplay_Picks_Raw.J10 M C x31_0 x31_1 x31_2 x31_3 x31_4 x31_5 r32_0 r32_1 r32_2 r32_3 r32_4 r32_5 G = (some ([.agg [.int .i64 r32_0, .int .i64 r32_1, .int .i64 r32_2, .int .i64 r32_3, .int .i64 r32_4, .int .i64 r32_5]], G)) := (M.hj _ _ _).trans (by kernel_rfl)
def hodmanplay_Picks_Raw.f (M : Mach) (C : Call) (p0i : Nat) (p0o : Nat) (budget1 : Bool) (G : GH) : Option Res := (C hodmanplay_Picks_Num.id [.c (.ptr p0i p0o), .c (.int .i64 9)] G).bind fun qr_1 => (((qr_1.1[0]?).bind V1.c?).bind (Cell.asI .i64)).bind fun qx_2 => (C hodmanplay_Picks_Num.id [.c (.ptr p0i p0o), .c (.int .i64 12)] qr_1.2).bind fun qr_3 => (((qr_3.1[0]?).bind V1.c?).bind (Cell.asI .i64)).bind fun qx_4 => (C hodmanplay_Picks_Num.id [.c (.ptr p0i p0o), .c (.int .i64 150)] qr_3.2).bind fun qr_5 => (((qr_5.1[0]?).bind V1.c?).bind (Cell.asI .i64)).bind fun qx_6 => (C hodmanplay_Picks_Num.id [.c (.ptr p0i p0o), .c (.int .i64 30)] qr_5.2).bind fun qr_7 => (((qr_7.1[0]?).bind V1.c?).bind (Cell.asI .i64)).bind fun qx_8 => (C hodmanplay_Picks_Num.id [.c (.ptr p0i p0o), .c (.int .i64 200)] qr_7.2).bind fun qr_9 => (((qr_9.1[0]?).bind V1.c?).bind (Cell.asI .i64)).bind fun qx_10 => (C hodmanplay_Picks_Num.id [.c (.ptr p0i p0o), .c (.int .i64 20)] qr_9.2).bind fun qr_11 => (((qr_11.1[0]?).bind V1.c?).bind (Cell.asI .i64)).bind fun qx_12 => bif budget1 then hodmanplay_Picks_Raw.J10 M C 0 0 0 0 0 0 (IntKind.i64.wrap (1 + qx_2)) (IntKind.i64.wrap ((IntKind.i64.wrap (1 + qx_2)) * (IntKind.i64.wrap (1 + qx_4)))) (IntKind.i64.wrap (1 + qx_6)) (IntKind.i64.wrap (1 + qx_8)) 5000 qx_10 qr_11.2 else hodmanplay_Picks_Raw.J10 M C 0 0 0 0 0 0 (IntKind.i64.wrap (1 + qx_2)) (IntKind.i64.wrap ((IntKind.i64.wrap (1 + qx_2)) * (IntKind.i64.wrap (1 + qx_4)))) (IntKind.i64.wrap (1 + qx_6)) (IntKind.i64.wrap (1 + qx_8)) (IntKind.i64.wrap (1 + qx_12)) qx_10 qr_11.2
theorem hodmanplay_Picks_Raw.eq (M : Mach) (C : Call) (p0i : Nat) (p0o : Nat) (budget1 : Bool) (G : GH) : runF M C hodmanplay_Picks_Raw.d [.c (.ptr p0i p0o), .c (.bool budget1)] G = hodmanplay_Picks_Raw.f M C p0i p0o budget1 G := by kernel_rfl

/- 20 hodman/hodmanref17.New -/
def hodmanref17_New.d : DFn := { ntmps := 29, res := [.box 2 (some 14), .t 3], body := (.seq (.region [⟨0, some 1, .boxv 26 [] (.t 0) 6, none⟩,
    ⟨1, some 2, .boxz 27 [] [.int .i64 0, .int .i64 0, .int .i64 0, .int .i64 0, .int .i64 0, .int .i64 0, .int .i64 0, .int .i64 0, .sl 3 0 0 0, .int .i64 0, .int .i64 0, .int .i64 0, .sl 1 0 0 0, .sl 1 0 0 0], none⟩,
    ⟨2, some 3, .move (.k (.c (.int .i64 0))), none⟩]) (.seq (.region [⟨0, some 7, .ldL 1 26 (.agg [.int .i64, .int .i64, .int .i64, .int .i64, .int .i64, .int .i64]), none⟩,
    ⟨1, some 8, .call 24 [.t 7] [.agg [.int .i64, .int .i64, .int .i64, .int .i64, .int .i64, .int .i64, .int .i64, .int .i64], .c (.int .i64)], none⟩,
    ⟨2, some 6, .move (.t 8), none⟩,
    ⟨3, some 9, .ext 6 0, none⟩,
    ⟨4, some 10, .ext 6 1, none⟩,
    ⟨5, some 4, .boxz 28 [16, 18, 22] [.int .i64 0, .int .i64 0, .int .i64 0, .int .i64 0, .int .i64 0, .int .i64 0, .int .i64 0, .int .i64 0], none⟩,
    ⟨6, none, .stL 4 28 (.t 9) 8, none⟩,
    ⟨7, some 5, .move (.t 10), none⟩]) (.seq (.seq (.region [⟨0, some 11, .move (.t 5), none⟩,
    ⟨1, some 12, .cmp .neq .i64 (.t 11) (.k (.c (.int .i64 0))), none⟩]) (.cond (.t 12) (.seq (.region [⟨0, some 13, .build [.int .i64 0, .int .i64 0, .int .i64 0, .int .i64 0, .int .i64 0, .int .i64 0, .int .i64 0, .int .i64 0, .sl 3 0 0 0, .int .i64 0, .int .i64 0, .int .i64 0, .sl 1 0 0 0, .sl 1 0 0 0] [], none⟩,
    ⟨1, some 14, .move (.t 5), none⟩,
    ⟨2, none, .stL 2 27 (.t 13) 14, none⟩,
    ⟨3, some 3, .move (.t 14), none⟩]) .ret) .skip)) (.seq (.region [⟨0, some 15, .ldL 4 28 (.agg [.int .i64, .int .i64, .int .i64, .int .i64, .int .i64, .int .i64, .int .i64, .int .i64]), none⟩,
    ⟨1, some 16, .faddr 4 6, none⟩,
    ⟨2, some 17, .ldL 16 28 (.c (.int .i64)), none⟩,
    ⟨3, some 18, .faddr 4 4, none⟩,
    ⟨4, some 19, .ldL 18 28 (.c (.int .i64)), none⟩,
    ⟨5, some 20, .bin .quo .i64 (.t 17) (.t 19), none⟩,
    ⟨6, some 21, .mkslice (.t 20) 1 1 [.bool false], none⟩,
    ⟨7, some 22, .faddr 4 6, none⟩,
    ⟨8, some 23, .ldL 22 28 (.c (.int .i64)), none⟩,
    ⟨9, some 24, .mkslice (.t 23) 1 1 [.int .u8 0], none⟩,
    ⟨10, some 25, .build [.int .i64 0, .int .i64 0, .int .i64 0, .int .i64 0, .int .i64 0, .int .i64 0, .int .i64 0, .int .i64 0, .sl 3 0 0 0, .int .i64 0, .int .i64 0, .int .i64 0, .sl 1 0 0 0, .sl 1 0 0 0] [(0, 8, .t 15), (12, 1, .t 21), (13, 1, .t 24)], none⟩,
    ⟨11, none, .stL 2 27 (.t 25) 14, none⟩,
    ⟨12, some 3, .move (.k (.c (.int .i64 0))), none⟩]) .ret)))) }
def hodmanref17_New.f (M : Mach) (C : Call) (r0_0 : Int) (r0_1 : Int) (r0_2 : Int) (r0_3 : Int) (r0_4 : Int) (r0_5 : Int) (G : GH) : Option Res := (C hodmanref1_Of.id [.agg [.int .i64 r0_0, .int .i64 r0_1, .int .i64 r0_2, .int .i64 r0_3, .int .i64 r0_4, .int .i64 r0_5]] G).bind fun qr_1 => ((qr_1.1[0]?).bind V1.a?).bind fun qcs_2 => if qcs_2.length = 8 then (((qcs_2[0]?).bind (Cell.asI .i64)).bind fun qx_3 => ((qcs_2[1]?).bind (Cell.asI .i64)).bind fun qx_4 => ((qcs_2[2]?).bind (Cell.asI .i64)).bind fun qx_5 => ((qcs_2[3]?).bind (Cell.asI .i64)).bind fun qx_6 => ((qcs_2[4]?).bind (Cell.asI .i64)).bind fun qx_7 => ((qcs_2[5]?).bind (Cell.asI .i64)).bind fun qx_8 => ((qcs_2[6]?).bind (Cell.asI .i64)).bind fun qx_9 => ((qcs_2[7]?).bind (Cell.asI .i64)).bind fun qx_10 => (((qr_1.1[1]?).bind V1.c?).bind (Cell.asI .i64)).bind fun qx_11 => bif (!decide (qx_11 = 0)) then some ([.agg [.int .i64 0, .int .i64 0, .int .i64 0, .int .i64 0, .int .i64 0, .int .i64 0, .int .i64 0, .int .i64 0, .sl 3 0 0 0, .int .i64 0, .int .i64 0, .int .i64 0, .sl 1 0 0 0, .sl 1 0 0 0], .c (.int .i64 qx_11)], qr_1.2) else (binD .quo .i64 qx_9 qx_7).bind fun qx_12 => guardK (decide (0 ≤ qx_12 ∧ qx_12 ≤ (most : Int))) (let qG_13 := qr_1.2.alloc (.row (reps (Int.toNat qx_12) [.bool false]) false); guardK (decide (0 ≤ qx_9 ∧ qx_9 ≤ (most : Int))) (let qG_14 := qG_13.alloc (.row (reps (Int.toNat qx_9) [.int .u8 0]) false); some ([.agg [.int .i64 qx_3, .int .i64 qx_4, .int .i64 qx_5, .int .i64 qx_6, .int .i64 qx_7, .int .i64 qx_8, .int .i64 qx_9, .int .i64 qx_10, .sl 3 0 0 0, .int .i64 0, .int .i64 0, .int .i64 0, .sl 1 qr_1.2.next 0 (Int.toNat qx_12), .sl 1 qG_13.next 0 (Int.toNat qx_9)], .c (.int .i64 0)], qG_14)))) else none
theorem hodmanref17_New.eq (M : Mach) (C : Call) (r0_0 : Int) (r0_1 : Int) (r0_2 : Int) (r0_3 : Int) (r0_4 : Int) (r0_5 : Int) (G : GH) : runF M C hodmanref17_New.d [.agg [.int .i64 r0_0, .int .i64 r0_1, .int .i64 r0_2, .int .i64 r0_3, .int .i64 r0_4, .int .i64 r0_5]] G = hodmanref17_New.f M C r0_0 r0_1 r0_2 r0_3 r0_4 r0_5 G := by kernel_rfl

/- 37 (*hodman/hodmanplay.Picks).Num -/
def hodmanplay_Picks_Num.c6 : DCode := (.cond (.t 18) (.seq (.region [⟨0, some 4, .move (.k (.c (.int .i64 0))), none⟩]) .ret) .skip)
def hodmanplay_Picks_Num.c12 : DCode := (.seq (.region [⟨0, some 19, .move (.t 0), none⟩,
    ⟨1, some 20, .nilck (.t 19), none⟩,
    ⟨2, some 21, .faddr 20 1, none⟩,
    ⟨3, some 22, .ldG 21 (.c (.int .i64)), none⟩,
    ⟨4, some 23, .bin .add .i64 (.t 22) (.k (.c (.int .i64 1))), none⟩,
    ⟨5, some 24, .nilck (.t 19), none⟩,
    ⟨6, some 25, .faddr 24 1, none⟩,
    ⟨7, none, .stG 25 (.t 23) 1, none⟩]) (.seq (.region [⟨0, some 26, .move (.t 0), none⟩,
    ⟨1, some 27, .nilck (.t 26), none⟩,
    ⟨2, some 28, .faddr 27 0, none⟩,
    ⟨3, some 29, .ldG 28 (.c (.sl 1)), none⟩,
    ⟨4, some 30, .move (.t 0), none⟩,
    ⟨5, some 31, .nilck (.t 30), none⟩,
    ⟨6, some 32, .faddr 31 1, none⟩,
    ⟨7, some 33, .ldG 32 (.c (.int .i64)), none⟩,
    ⟨8, some 34, .bin .sub .i64 (.t 33) (.k (.c (.int .i64 1))), none⟩,
    ⟨9, some 35, .iaddr (.t 29) (.t 34) 1, none⟩,
    ⟨10, some 36, .ldG 35 (.c (.int .u8)), none⟩,
    ⟨11, some 37, .conv .i64 (.t 36), none⟩,
    ⟨12, some 38, .move (.t 1), none⟩,
    ⟨13, some 39, .bin .rem .i64 (.t 37) (.t 38), none⟩,
    ⟨14, some 4, .move (.t 39), none⟩]) .ret))
def hodmanplay_Picks_Num.d : DFn := { ntmps := 40, res := [.t 4], body := (.seq (.region [⟨0, some 4, .move (.k (.c (.int .i64 0))), none⟩]) (.seq (.seq (.region [⟨0, some 5, .move (.t 0), none⟩,
    ⟨1, some 6, .nilck (.t 5), none⟩,
    ⟨2, some 7, .faddr 6 1, none⟩,
    ⟨3, some 8, .ldG 7 (.c (.int .i64)), none⟩,
    ⟨4, some 9, .move (.t 0), none⟩,
    ⟨5, some 10, .nilck (.t 9), none⟩,
    ⟨6, some 11, .faddr 10 0, none⟩,
    ⟨7, some 12, .ldG 11 (.c (.sl 1)), none⟩,
    ⟨8, some 13, .len (.t 12), none⟩,
    ⟨9, some 14, .cmp .geq .i64 (.t 8) (.t 13), none⟩,
    ⟨10, some 15, .move (.t 14), none⟩,
    ⟨11, some 16, .move (.t 1), some (15, false)⟩,
    ⟨12, some 17, .cmp .lss .i64 (.t 16) (.k (.c (.int .i64 1))), some (15, false)⟩,
    ⟨13, some 18, .pick (.t 15) (.k (.c (.bool true))) (.t 17), none⟩]) (.cut [0, 1, 18] hodmanplay_Picks_Num.c6)) hodmanplay_Picks_Num.c12)) }
def hodmanplay_Picks_Num.k12 (M : Mach) (C : Call) : Kont := execC M.j C (M.ag C) hodmanplay_Picks_Num.c12 ({ exits := [], ret := retK hodmanplay_Picks_Num.d } : Env) (retK hodmanplay_Picks_Num.d)
def hodmanplay_Picks_Num.J6 (M : Mach) (C : Call) (p0i : Nat) (p0o : Nat) (m1 : Int) (t18 : Bool) (G : GH) : Option Res := M.j (execC M.j C (M.ag C) hodmanplay_Picks_Num.c6 ({ exits := [], ret := retK hodmanplay_Picks_Num.d } : Env) (hodmanplay_Picks_Num.k12 M C)) [.v (.c (.ptr p0i p0o)), .v (.c (.int .i64 m1)), .und, .und, .und, .und, .und, .und, .und, .und, .und, .und, .und, .und, .und, .und, .und, .und, .v (.c (.bool t18)), .und, .und, .und, .und, .und, .und, .und, .und, .und, .und, .und, .und, .und, .und, .und, .und, .und, .und, .und, .und, .und] G
theorem hodmanplay_Picks_Num.J6_eq (M : Mach) (C : Call) (p0i : Nat) (p0o : Nat) (m1 : Int) (t18 : Bool) (G : GH) : hodmanplay_Picks_Num.J6 M C p0i p0o m1 t18 G = (bif t18 then some ([.c (.int .i64 0)], G) else guardK (!Nat.beq p0i 0) (((G.ld p0i (p0o + 1)).bind (Cell.asI .i64)).bind fun qx_3 => guardK (!Nat.beq p0i 0) ((G.sts p0i (p0o + 1) [.int .i64 (IntKind.i64.wrap (qx_3 + 1))]).bind fun qG_4 => guardK (!Nat.beq p0i 0) (((qG_4.ld p0i (p0o + 0)).bind (Cell.asS 1)).bind fun qs_5 => guardK (!Nat.beq p0i 0) (((qG_4.ld p0i (p0o + 1)).bind (Cell.asI .i64)).bind fun qx_6 => guardK (decide (0 ≤ IntKind.i64.wrap (qx_6 - 1) ∧ IntKind.i64.wrap (qx_6 - 1) < ((qs_5.2.2 : Nat) : Int))) (((qG_4.ld qs_5.1 (qs_5.2.1 + Int.toNat (IntKind.i64.wrap (qx_6 - 1)) * 1)).bind (Cell.asI .u8)).bind fun qx_7 => (binD .rem .i64 (IntKind.i64.wrap qx_7) m1).bind fun qx_8 => some ([.c (.int .i64 qx_8)], qG_4))))))) := (M.hj _ _ _).trans (by kernel_rfl)
def hodmanplay_Picks_Num.f (M : Mach) (C : Call) (p0i : Nat) (p0o : Nat) (m1 : Int) (G : GH) : Option Res := guardK (!Nat.beq p0i 0) (((G.ld p0i (p0o + 1)).bind (Cell.asI .i64)).bind fun qx_1 => guardK (!Nat.beq p0i 0) (((G.ld p0i (p0o + 0)).bind (Cell.asS 1)).bind fun qs_2 => bif decide (qx_1 ≥ ((qs_2.2.2 : Nat) : Int)) then hodmanplay_Picks_Num.J6 M C p0i p0o m1 true G else hodmanplay_Picks_Num.J6 M C p0i p0o m1 (decide (m1 < 1)) G))
theorem hodmanplay_Picks_Num.eq (M : Mach) (C : Call) (p0i : Nat) (p0o : Nat) (m1 : Int) (G : GH) : runF M C hodmanplay_Picks_Num.d [.c (.ptr p0i p0o), .c (.int .i64 m1)] G = hodmanplay_Picks_Num.f M C p0i p0o m1 G := by kernel_rfl

/- 59 hodman/hodmanref8.Zero -/
def hodmanref8_Zero.c19 : DCode := (.seq (.seq (.region [⟨0, some 19, .move (.t 9), none⟩,
    ⟨1, some 20, .move (.t 2), none⟩,
    ⟨2, some 21, .cmp .lss .i64 (.t 19) (.t 20), none⟩]) (.cond (.t 21) .skip (.exit 0))) (.seq (.block 1 (.region [⟨0, some 24, .move (.t 8), none⟩,
    ⟨1, some 25, .move (.t 1), none⟩,
    ⟨2, some 26, .move (.t 9), none⟩,
    ⟨3, some 27, .bin .add .i64 (.t 25) (.t 26), none⟩,
    ⟨4, some 28, .iaddr (.t 24) (.t 27) 1, none⟩,
    ⟨5, none, .stG 28 (.k (.c (.int .u8 0))) 1, none⟩])) (.region [⟨0, some 22, .move (.t 9), none⟩,
    ⟨1, some 23, .bin .add .i64 (.t 22) (.k (.c (.int .i64 1))), none⟩,
    ⟨2, some 9, .move (.t 23), none⟩])))
def hodmanref8_Zero.c25 : DCode := (.seq (.region [⟨0, some 29, .move (.t 8), none⟩,
    ⟨1, some 6, .move (.t 29), none⟩,
    ⟨2, some 7, .move (.k (.c (.bool true))), none⟩]) .ret)
def hodmanref8_Zero.d : DFn := { ntmps := 30, res := [.t 6, .t 7], body := (.seq (.region [⟨0, some 6, .move (.k (.c (.sl 1 0 0 0))), none⟩,
    ⟨1, some 7, .move (.k (.c (.bool false))), none⟩]) (.seq (.seq (.region [⟨0, some 10, .move (.t 0), none⟩,
    ⟨1, some 11, .move (.t 1), none⟩,
    ⟨2, some 12, .move (.t 2), none⟩,
    ⟨3, some 13, .call 67 [.t 10, .t 11, .t 12] [.c (.bool)], none⟩,
    ⟨4, some 14, .not (.t 13), none⟩]) (.cond (.t 14) (.seq (.region [⟨0, some 15, .move (.t 0), none⟩,
    ⟨1, some 6, .move (.t 15), none⟩,
    ⟨2, some 7, .move (.k (.c (.bool false))), none⟩]) .ret) .skip)) (.seq (.region [⟨0, some 16, .bslice 0 1 [] [], none⟩,
    ⟨1, some 17, .move (.t 0), none⟩,
    ⟨2, some 18, .app (.t 16) (.t 17) 1 1, none⟩,
    ⟨3, some 8, .move (.t 18), none⟩]) (.seq (.seq (.region [⟨0, some 9, .move (.k (.c (.int .i64 0))), none⟩]) (.block 0 (.loop [1, 2, 8, 9] hodmanref8_Zero.c19))) hodmanref8_Zero.c25)))) }
def hodmanref8_Zero.k25 (M : Mach) (C : Call) : Kont := execC M.j C (M.ag C) hodmanref8_Zero.c25 ({ exits := [], ret := retK hodmanref8_Zero.d } : Env) (retK hodmanref8_Zero.d)
def hodmanref8_Zero.e21 (M : Mach) (C : Call) : Env := { exits := (0, (hodmanref8_Zero.k25 M C)) :: (({ exits := [], ret := retK hodmanref8_Zero.d } : Env)).exits, ret := (({ exits := [], ret := retK hodmanref8_Zero.d } : Env)).ret }
def hodmanref8_Zero.L20 (M : Mach) (C : Call) (at1 : Int) (n2 : Int) (out8i : Nat) (out8o : Nat) (out8n : Nat) (i9 : Int) (G : GH) : Option Res := M.ag C [1, 2, 8, 9] hodmanref8_Zero.c19 (hodmanref8_Zero.e21 M C) (hodmanref8_Zero.k25 M C) [.und, .v (.c (.int .i64 at1)), .v (.c (.int .i64 n2)), .und, .und, .und, .und, .und, .v (.c (.sl 1 out8i out8o out8n)), .v (.c (.int .i64 i9)), .und, .und, .und, .und, .und, .und, .und, .und, .und, .und, .und, .und, .und, .und, .und, .und, .und, .und, .und, .und] G
theorem hodmanref8_Zero.L20_eq (M : Mach) (C : Call) (at1 : Int) (n2 : Int) (out8i : Nat) (out8o : Nat) (out8n : Nat) (i9 : Int) (G : GH) : hodmanref8_Zero.L20 M C at1 n2 out8i out8o out8n i9 G = (bif decide (i9 < n2) then guardK (decide (0 ≤ IntKind.i64.wrap (at1 + i9) ∧ IntKind.i64.wrap (at1 + i9) < ((out8n : Nat) : Int))) ((G.sts out8i (out8o + Int.toNat (IntKind.i64.wrap (at1 + i9)) * 1) [.int .u8 0]).bind fun qG_6 => hodmanref8_Zero.L20 M C at1 n2 out8i out8o out8n (IntKind.i64.wrap (i9 + 1)) qG_6) else some ([.c (.sl 1 out8i out8o out8n), .c (.bool true)], G)) := (M.hs _ _ _ _ _ _ _).trans (by kernel_rfl)
def hodmanref8_Zero.f (M : Mach) (C : Call) (mem0i : Nat) (mem0o : Nat) (mem0n : Nat) (at1 : Int) (n2 : Int) (G : GH) : Option Res := (C hodmanref8_there.id [.c (.sl 1 mem0i mem0o mem0n), .c (.int .i64 at1), .c (.int .i64 n2)] G).bind fun qr_1 => (((qr_1.1[0]?).bind V1.c?).bind Cell.asB).bind fun qb_2 => bif (!qb_2) then some ([.c (.sl 1 mem0i mem0o mem0n), .c (.bool false)], qr_1.2) else let qG_3 := qr_1.2.alloc (.row [] false); (if mem0n = 0 then some [] else qG_3.lds mem0i mem0o (mem0n * 1)).bind fun qnew_4 => guardK (decide (0 + mem0n ≤ most)) ((qG_3.app qr_1.2.next 0 0 1 mem0n qnew_4).bind fun qp_5 => hodmanref8_Zero.L20 M C at1 n2 qp_5.1 qp_5.2.1 (0 + mem0n) 0 qp_5.2.2)
theorem hodmanref8_Zero.eq (M : Mach) (C : Call) (mem0i : Nat) (mem0o : Nat) (mem0n : Nat) (at1 : Int) (n2 : Int) (G : GH) : runF M C hodmanref8_Zero.d [.c (.sl 1 mem0i mem0o mem0n), .c (.int .i64 at1), .c (.int .i64 n2)] G = hodmanref8_Zero.f M C mem0i mem0o mem0n at1 n2 G := by kernel_rfl

/- 41 hodman/hodmanref8.Count -/
def hodmanref8_Count.c14 : DCode := (.region [⟨0, some 9, .move (.t 4), none⟩,
    ⟨1, some 10, .bin .add .i64 (.t 9) (.k (.c (.int .i64 1))), none⟩,
    ⟨2, some 4, .move (.t 10), none⟩])
def hodmanref8_Count.c16 : DCode := (.seq (.seq (.region [⟨0, some 5, .move (.t 4), none⟩,
    ⟨1, some 6, .move (.t 0), none⟩,
    ⟨2, some 7, .len (.t 6), none⟩,
    ⟨3, some 8, .cmp .lss .i64 (.t 5) (.t 7), none⟩]) (.cond (.t 8) .skip (.exit 0))) (.seq (.block 1 (.seq (.region [⟨0, some 11, .move (.t 0), none⟩,
    ⟨1, some 12, .move (.t 4), none⟩,
    ⟨2, some 13, .iaddr (.t 11) (.t 12) 1, none⟩,
    ⟨3, some 14, .ldG 13 (.c (.bool)), none⟩]) (.cond (.t 14) (.region [⟨0, some 15, .move (.t 3), none⟩,
    ⟨1, some 16, .bin .add .i64 (.t 15) (.k (.c (.int .i64 1))), none⟩,
    ⟨2, some 3, .move (.t 16), none⟩]) .skip))) (.cut [0, 3, 4] hodmanref8_Count.c14)))
def hodmanref8_Count.c17 : DCode := (.loop [0, 3, 4] hodmanref8_Count.c16)
def hodmanref8_Count.c22 : DCode := (.seq (.region [⟨0, some 17, .move (.t 3), none⟩,
    ⟨1, some 2, .move (.t 17), none⟩]) .ret)
def hodmanref8_Count.d : DFn := { ntmps := 18, res := [.t 2], body := (.seq (.region [⟨0, some 2, .move (.k (.c (.int .i64 0))), none⟩]) (.seq (.region [⟨0, some 3, .move (.k (.c (.int .i64 0))), none⟩]) (.seq (.seq (.region [⟨0, some 4, .move (.k (.c (.int .i64 0))), none⟩]) (.block 0 hodmanref8_Count.c17)) hodmanref8_Count.c22))) }
def hodmanref8_Count.k22 (M : Mach) (C : Call) : Kont := execC M.j C (M.ag C) hodmanref8_Count.c22 ({ exits := [], ret := retK hodmanref8_Count.d } : Env) (retK hodmanref8_Count.d)
def hodmanref8_Count.e18 (M : Mach) (C : Call) : Env := { exits := (0, (hodmanref8_Count.k22 M C)) :: (({ exits := [], ret := retK hodmanref8_Count.d } : Env)).exits, ret := (({ exits := [], ret := retK hodmanref8_Count.d } : Env)).ret }
def hodmanref8_Count.L17 (M : Mach) (C : Call) (l0i : Nat) (l0o : Nat) (l0n : Nat) (n3 : Int) (i4 : Int) (G : GH) : Option Res := M.ag C [0, 3, 4] hodmanref8_Count.c16 (hodmanref8_Count.e18 M C) (hodmanref8_Count.k22 M C) [.v (.c (.sl 1 l0i l0o l0n)), .und, .und, .v (.c (.int .i64 n3)), .v (.c (.int .i64 i4)), .und, .und, .und, .und, .und, .und, .und, .und, .und, .und, .und, .und, .und] G
def hodmanref8_Count.k17 (M : Mach) (C : Call) : Kont := fun tm G => M.ag C [0, 3, 4] hodmanref8_Count.c16 (hodmanref8_Count.e18 M C) (hodmanref8_Count.k22 M C) (restr [0, 3, 4] 0 tm) G
def hodmanref8_Count.J14 (M : Mach) (C : Call) (l0i : Nat) (l0o : Nat) (l0n : Nat) (n3 : Int) (i4 : Int) (G : GH) : Option Res := M.j (execC M.j C (M.ag C) hodmanref8_Count.c14 (hodmanref8_Count.e18 M C) (hodmanref8_Count.k17 M C)) [.v (.c (.sl 1 l0i l0o l0n)), .und, .und, .v (.c (.int .i64 n3)), .v (.c (.int .i64 i4)), .und, .und, .und, .und, .und, .und, .und, .und, .und, .und, .und, .und, .und] G
theorem hodmanref8_Count.L17_eq (M : Mach) (C : Call) (l0i : Nat) (l0o : Nat) (l0n : Nat) (n3 : Int) (i4 : Int) (G : GH) : hodmanref8_Count.L17 M C l0i l0o l0n n3 i4 G = (bif decide (i4 < ((l0n : Nat) : Int)) then guardK (decide (0 ≤ i4 ∧ i4 < ((l0n : Nat) : Int))) (((G.ld l0i (l0o + Int.toNat i4 * 1)).bind Cell.asB).bind fun qb_1 => bif qb_1 then hodmanref8_Count.J14 M C l0i l0o l0n (IntKind.i64.wrap (n3 + 1)) i4 G else hodmanref8_Count.J14 M C l0i l0o l0n n3 i4 G) else some ([.c (.int .i64 n3)], G)) := (M.hs _ _ _ _ _ _ _).trans (by kernel_rfl)
theorem hodmanref8_Count.J14_eq (M : Mach) (C : Call) (l0i : Nat) (l0o : Nat) (l0n : Nat) (n3 : Int) (i4 : Int) (G : GH) : hodmanref8_Count.J14 M C l0i l0o l0n n3 i4 G = (hodmanref8_Count.L17 M C l0i l0o l0n n3 (IntKind.i64.wrap (i4 + 1)) G) := (M.hj _ _ _).trans (by kernel_rfl)
def hodmanref8_Count.f (M : Mach) (C : Call) (l0i : Nat) (l0o : Nat) (l0n : Nat) (G : GH) : Option Res := hodmanref8_Count.L17 M C l0i l0o l0n 0 0 G
theorem hodmanref8_Count.eq (M : Mach) (C : Call) (l0i : Nat) (l0o : Nat) (l0n : Nat) (G : GH) : runF M C hodmanref8_Count.d [.c (.sl 1 l0i l0o l0n)] G = hodmanref8_Count.f M C l0i l0o l0n G := by kernel_rfl

/- 46 hodman/hodmanref1.Log -/
def hodmanref1_Log.c22 : DCode := (.region [⟨0, some 8, .move (.t 5), none⟩,
    ⟨1, some 9, .bin .add .i64 (.t 8) (.k (.c (.int .i64 1))), none⟩,
    ⟨2, some 5, .move (.t 9), none⟩])
def hodmanref1_Log.c24 : DCode := (.seq (.seq (.region [⟨0, some 6, .move (.t 5), none⟩,
    ⟨1, some 7, .cmp .lss .i64 (.t 6) (.k (.c (.int .i64 63))), none⟩]) (.cond (.t 7) .skip (.exit 0))) (.seq (.block 1 (.seq (.seq (.region [⟨0, some 10, .move (.t 4), none⟩,
    ⟨1, some 11, .move (.t 0), none⟩,
    ⟨2, some 12, .cmp .eql .i64 (.t 10) (.t 11), none⟩]) (.cond (.t 12) (.seq (.region [⟨0, some 13, .move (.t 5), none⟩,
    ⟨1, some 2, .move (.t 13), none⟩,
    ⟨2, some 3, .move (.k (.c (.bool true))), none⟩]) .ret) .skip)) (.seq (.region [⟨0, some 14, .move (.t 5), none⟩,
    ⟨1, some 15, .cmp .lss .i64 (.t 14) (.k (.c (.int .i64 62))), none⟩]) (.cond (.t 15) (.region [⟨0, some 16, .move (.t 4), none⟩,
    ⟨1, some 17, .bin .mul .i64 (.t 16) (.k (.c (.int .i64 2))), none⟩,
    ⟨2, some 4, .move (.t 17), none⟩]) .skip)))) (.cut [0, 4, 5] hodmanref1_Log.c22)))
def hodmanref1_Log.c25 : DCode := (.loop [0, 4, 5] hodmanref1_Log.c24)
def hodmanref1_Log.c30 : DCode := (.seq (.region [⟨0, some 2, .move (.k (.c (.int .i64 0))), none⟩,
    ⟨1, some 3, .move (.k (.c (.bool false))), none⟩]) .ret)
def hodmanref1_Log.d : DFn := { ntmps := 18, res := [.t 2, .t 3], body := (.seq (.region [⟨0, some 2, .move (.k (.c (.int .i64 0))), none⟩,
    ⟨1, some 3, .move (.k (.c (.bool false))), none⟩]) (.seq (.region [⟨0, some 4, .move (.k (.c (.int .i64 1))), none⟩]) (.seq (.seq (.region [⟨0, some 5, .move (.k (.c (.int .i64 0))), none⟩]) (.block 0 hodmanref1_Log.c25)) hodmanref1_Log.c30))) }
def hodmanref1_Log.k30 (M : Mach) (C : Call) : Kont := execC M.j C (M.ag C) hodmanref1_Log.c30 ({ exits := [], ret := retK hodmanref1_Log.d } : Env) (retK hodmanref1_Log.d)
def hodmanref1_Log.e26 (M : Mach) (C : Call) : Env := { exits := (0, (hodmanref1_Log.k30 M C)) :: (({ exits := [], ret := retK hodmanref1_Log.d } : Env)).exits, ret := (({ exits := [], ret := retK hodmanref1_Log.d } : Env)).ret }
def hodmanref1_Log.L25 (M : Mach) (C : Call) (v0 : Int) (p4 : Int) (n5 : Int) (G : GH) : Option Res := M.ag C [0, 4, 5] hodmanref1_Log.c24 (hodmanref1_Log.e26 M C) (hodmanref1_Log.k30 M C) [.v (.c (.int .i64 v0)), .und, .und, .und, .v (.c (.int .i64 p4)), .v (.c (.int .i64 n5)), .und, .und, .und, .und, .und, .und, .und, .und, .und, .und, .und, .und] G
def hodmanref1_Log.k25 (M : Mach) (C : Call) : Kont := fun tm G => M.ag C [0, 4, 5] hodmanref1_Log.c24 (hodmanref1_Log.e26 M C) (hodmanref1_Log.k30 M C) (restr [0, 4, 5] 0 tm) G
def hodmanref1_Log.J22 (M : Mach) (C : Call) (v0 : Int) (p4 : Int) (n5 : Int) (G : GH) : Option Res := M.j (execC M.j C (M.ag C) hodmanref1_Log.c22 (hodmanref1_Log.e26 M C) (hodmanref1_Log.k25 M C)) [.v (.c (.int .i64 v0)), .und, .und, .und, .v (.c (.int .i64 p4)), .v (.c (.int .i64 n5)), .und, .und, .und, .und, .und, .und, .und, .und, .und, .und, .und, .und] G
theorem hodmanref1_Log.L25_eq (M : Mach) (C : Call) (v0 : Int) (p4 : Int) (n5 : Int) (G : GH) : hodmanref1_Log.L25 M C v0 p4 n5 G = (bif decide (n5 < 63) then bif decide (p4 = v0) then some ([.c (.int .i64 n5), .c (.bool true)], G) else bif decide (n5 < 62) then hodmanref1_Log.J22 M C v0 (IntKind.i64.wrap (p4 * 2)) n5 G else hodmanref1_Log.J22 M C v0 p4 n5 G else some ([.c (.int .i64 0), .c (.bool false)], G)) := (M.hs _ _ _ _ _ _ _).trans (by kernel_rfl)
theorem hodmanref1_Log.J22_eq (M : Mach) (C : Call) (v0 : Int) (p4 : Int) (n5 : Int) (G : GH) : hodmanref1_Log.J22 M C v0 p4 n5 G = (hodmanref1_Log.L25 M C v0 p4 (IntKind.i64.wrap (n5 + 1)) G) := (M.hj _ _ _).trans (by kernel_rfl)
def hodmanref1_Log.f (M : Mach) (C : Call) (v0 : Int) (G : GH) : Option Res := hodmanref1_Log.L25 M C v0 1 0 G
theorem hodmanref1_Log.eq (M : Mach) (C : Call) (v0 : Int) (G : GH) : runF M C hodmanref1_Log.d [.c (.int .i64 v0)] G = hodmanref1_Log.f M C v0 G := by kernel_rfl

/- 44 hodman/hodmanref1.Up -/
def hodmanref1_Up.c6 : DCode := (.cond (.t 10) (.seq (.region [⟨0, some 2, .move (.k (.c (.int .i64 0))), none⟩,
    ⟨1, some 3, .move (.k (.c (.bool false))), none⟩]) .ret) .skip)
def hodmanref1_Up.c16 : DCode := (.seq (.seq (.region [⟨0, some 11, .move (.t 4), none⟩,
    ⟨1, some 12, .move (.t 0), none⟩,
    ⟨2, some 13, .cmp .lss .i64 (.t 11) (.t 12), none⟩]) (.cond (.t 13) .skip (.exit 0))) (.block 1 (.region [⟨0, some 14, .move (.t 4), none⟩,
    ⟨1, some 15, .bin .mul .i64 (.t 14) (.k (.c (.int .i64 2))), none⟩,
    ⟨2, some 4, .move (.t 15), none⟩])))
def hodmanref1_Up.c21 : DCode := (.seq (.region [⟨0, some 16, .move (.t 4), none⟩,
    ⟨1, some 2, .move (.t 16), none⟩,
    ⟨2, some 3, .move (.k (.c (.bool true))), none⟩]) .ret)
def hodmanref1_Up.c23 : DCode := (.seq (.region [⟨0, some 4, .move (.k (.c (.int .i64 1))), none⟩]) (.seq (.block 0 (.loop [0, 4] hodmanref1_Up.c16)) hodmanref1_Up.c21))
def hodmanref1_Up.d : DFn := { ntmps := 17, res := [.t 2, .t 3], body := (.seq (.region [⟨0, some 2, .move (.k (.c (.int .i64 0))), none⟩,
    ⟨1, some 3, .move (.k (.c (.bool false))), none⟩]) (.seq (.seq (.region [⟨0, some 5, .move (.t 0), none⟩,
    ⟨1, some 6, .cmp .lss .i64 (.t 5) (.k (.c (.int .i64 1))), none⟩,
    ⟨2, some 7, .move (.t 6), none⟩,
    ⟨3, some 8, .move (.t 0), some (7, false)⟩,
    ⟨4, some 9, .cmp .gtr .i64 (.t 8) (.k (.c (.int .i64 4611686018427387904))), some (7, false)⟩,
    ⟨5, some 10, .pick (.t 7) (.k (.c (.bool true))) (.t 9), none⟩]) (.cut [0, 10] hodmanref1_Up.c6)) hodmanref1_Up.c23)) }
def hodmanref1_Up.k23 (M : Mach) (C : Call) : Kont := execC M.j C (M.ag C) hodmanref1_Up.c23 ({ exits := [], ret := retK hodmanref1_Up.d } : Env) (retK hodmanref1_Up.d)
def hodmanref1_Up.J6 (M : Mach) (C : Call) (v0 : Int) (t10 : Bool) (G : GH) : Option Res := M.j (execC M.j C (M.ag C) hodmanref1_Up.c6 ({ exits := [], ret := retK hodmanref1_Up.d } : Env) (hodmanref1_Up.k23 M C)) [.v (.c (.int .i64 v0)), .und, .und, .und, .und, .und, .und, .und, .und, .und, .v (.c (.bool t10)), .und, .und, .und, .und, .und, .und] G
def hodmanref1_Up.k21 (M : Mach) (C : Call) : Kont := execC M.j C (M.ag C) hodmanref1_Up.c21 ({ exits := [], ret := retK hodmanref1_Up.d } : Env) (retK hodmanref1_Up.d)
def hodmanref1_Up.e18 (M : Mach) (C : Call) : Env := { exits := (0, (hodmanref1_Up.k21 M C)) :: (({ exits := [], ret := retK hodmanref1_Up.d } : Env)).exits, ret := (({ exits := [], ret := retK hodmanref1_Up.d } : Env)).ret }
def hodmanref1_Up.L17 (M : Mach) (C : Call) (v0 : Int) (p4 : Int) (G : GH) : Option Res := M.ag C [0, 4] hodmanref1_Up.c16 (hodmanref1_Up.e18 M C) (hodmanref1_Up.k21 M C) [.v (.c (.int .i64 v0)), .und, .und, .und, .v (.c (.int .i64 p4)), .und, .und, .und, .und, .und, .und, .und, .und, .und, .und, .und, .und] G
theorem hodmanref1_Up.J6_eq (M : Mach) (C : Call) (v0 : Int) (t10 : Bool) (G : GH) : hodmanref1_Up.J6 M C v0 t10 G = (bif t10 then some ([.c (.int .i64 0), .c (.bool false)], G) else hodmanref1_Up.L17 M C v0 1 G) := (M.hj _ _ _).trans (by kernel_rfl)
theorem hodmanref1_Up.L17_eq (M : Mach) (C : Call) (v0 : Int) (p4 : Int) (G : GH) : hodmanref1_Up.L17 M C v0 p4 G = (bif decide (p4 < v0) then hodmanref1_Up.L17 M C v0 (IntKind.i64.wrap (p4 * 2)) G else some ([.c (.int .i64 p4), .c (.bool true)], G)) := (M.hs _ _ _ _ _ _ _).trans (by kernel_rfl)
def hodmanref1_Up.f (M : Mach) (C : Call) (v0 : Int) (G : GH) : Option Res := bif decide (v0 < 1) then hodmanref1_Up.J6 M C v0 true G else hodmanref1_Up.J6 M C v0 (decide (v0 > 4611686018427387904)) G
theorem hodmanref1_Up.eq (M : Mach) (C : Call) (v0 : Int) (G : GH) : runF M C hodmanref1_Up.d [.c (.int .i64 v0)] G = hodmanref1_Up.f M C v0 G := by kernel_rfl

/- 61 hodman/hodmanref1.Add -/
def hodmanref1_Add.c6 : DCode := (.cond (.t 23) (.seq (.region [⟨0, some 4, .move (.k (.c (.int .i64 0))), none⟩,
    ⟨1, some 5, .move (.k (.c (.bool false))), none⟩]) .ret) .skip)
def hodmanref1_Add.c10 : DCode := (.seq (.region [⟨0, some 24, .move (.t 0), none⟩,
    ⟨1, some 25, .move (.t 1), none⟩,
    ⟨2, some 26, .bin .add .i64 (.t 24) (.t 25), none⟩,
    ⟨3, some 4, .move (.t 26), none⟩,
    ⟨4, some 5, .move (.k (.c (.bool true))), none⟩]) .ret)
def hodmanref1_Add.d : DFn := { ntmps := 27, res := [.t 4, .t 5], body := (.seq (.region [⟨0, some 4, .move (.k (.c (.int .i64 0))), none⟩,
    ⟨1, some 5, .move (.k (.c (.bool false))), none⟩]) (.seq (.seq (.region [⟨0, some 6, .move (.t 1), none⟩,
    ⟨1, some 7, .cmp .gtr .i64 (.t 6) (.k (.c (.int .i64 0))), none⟩,
    ⟨2, some 8, .move (.t 7), none⟩,
    ⟨3, some 9, .move (.t 0), some (8, true)⟩,
    ⟨4, some 10, .move (.t 1), some (8, true)⟩,
    ⟨5, some 11, .bin .sub .i64 (.k (.c (.int .i64 9223372036854775807))) (.t 10), some (8, true)⟩,
    ⟨6, some 12, .cmp .gtr .i64 (.t 9) (.t 11), some (8, true)⟩,
    ⟨7, some 13, .pick (.t 8) (.t 12) (.k (.c (.bool false))), none⟩,
    ⟨8, some 14, .move (.t 13), none⟩,
    ⟨9, some 15, .move (.t 1), some (14, false)⟩,
    ⟨10, some 16, .cmp .lss .i64 (.t 15) (.k (.c (.int .i64 0))), some (14, false)⟩,
    ⟨11, some 17, .move (.t 16), some (14, false)⟩,
    ⟨12, some 18, .move (.t 0), some (17, true)⟩,
    ⟨13, some 19, .move (.t 1), some (17, true)⟩,
    ⟨14, some 20, .bin .sub .i64 (.k (.c (.int .i64 (-9223372036854775808)))) (.t 19), some (17, true)⟩,
    ⟨15, some 21, .cmp .lss .i64 (.t 18) (.t 20), some (17, true)⟩,
    ⟨16, some 22, .pick (.t 17) (.t 21) (.k (.c (.bool false))), some (14, false)⟩,
    ⟨17, some 23, .pick (.t 14) (.k (.c (.bool true))) (.t 22), none⟩]) (.cut [0, 1, 23] hodmanref1_Add.c6)) hodmanref1_Add.c10)) }
def hodmanref1_Add.k10 (M : Mach) (C : Call) : Kont := execC M.j C (M.ag C) hodmanref1_Add.c10 ({ exits := [], ret := retK hodmanref1_Add.d } : Env) (retK hodmanref1_Add.d)
def hodmanref1_Add.J6 (M : Mach) (C : Call) (a0 : Int) (b1 : Int) (t23 : Bool) (G : GH) : Option Res := M.j (execC M.j C (M.ag C) hodmanref1_Add.c6 ({ exits := [], ret := retK hodmanref1_Add.d } : Env) (hodmanref1_Add.k10 M C)) [.v (.c (.int .i64 a0)), .v (.c (.int .i64 b1)), .und, .und, .und, .und, .und, .und, .und, .und, .und, .und, .und, .und, .und, .und, .und, .und, .und, .und, .und, .und, .und, .v (.c (.bool t23)), .und, .und, .und] G
theorem hodmanref1_Add.J6_eq (M : Mach) (C : Call) (a0 : Int) (b1 : Int) (t23 : Bool) (G : GH) : hodmanref1_Add.J6 M C a0 b1 t23 G = (bif t23 then some ([.c (.int .i64 0), .c (.bool false)], G) else some ([.c (.int .i64 (IntKind.i64.wrap (a0 + b1))), .c (.bool true)], G)) := (M.hj _ _ _).trans (by kernel_rfl)
def hodmanref1_Add.f (M : Mach) (C : Call) (a0 : Int) (b1 : Int) (G : GH) : Option Res := bif decide (b1 > 0) then bif decide (a0 > IntKind.i64.wrap (9223372036854775807 - b1)) then hodmanref1_Add.J6 M C a0 b1 true G else bif decide (b1 < 0) then hodmanref1_Add.J6 M C a0 b1 (decide (a0 < IntKind.i64.wrap ((-9223372036854775808) - b1))) G else hodmanref1_Add.J6 M C a0 b1 false G else bif decide (b1 < 0) then hodmanref1_Add.J6 M C a0 b1 (decide (a0 < IntKind.i64.wrap ((-9223372036854775808) - b1))) G else hodmanref1_Add.J6 M C a0 b1 false G
theorem hodmanref1_Add.eq (M : Mach) (C : Call) (a0 : Int) (b1 : Int) (G : GH) : runF M C hodmanref1_Add.d [.c (.int .i64 a0), .c (.int .i64 b1)] G = hodmanref1_Add.f M C a0 b1 G := by kernel_rfl

/- 45 hodman/hodmanref1.Round -/
def hodmanref1_Round.c6 : DCode := (.cond (.t 11) (.seq (.region [⟨0, some 4, .move (.k (.c (.int .i64 0))), none⟩,
    ⟨1, some 5, .move (.k (.c (.bool false))), none⟩]) .ret) .skip)
def hodmanref1_Round.c18 : DCode := (.seq (.seq (.region [⟨0, some 12, .move (.t 0), none⟩,
    ⟨1, some 13, .move (.t 1), none⟩,
    ⟨2, some 14, .bin .rem .i64 (.t 12) (.t 13), none⟩,
    ⟨3, some 15, .cmp .eql .i64 (.t 14) (.k (.c (.int .i64 0))), none⟩]) (.cond (.t 15) (.seq (.region [⟨0, some 16, .move (.t 0), none⟩,
    ⟨1, some 4, .move (.t 16), none⟩,
    ⟨2, some 5, .move (.k (.c (.bool true))), none⟩]) .ret) .skip)) (.seq (.region [⟨0, some 17, .move (.t 0), none⟩,
    ⟨1, some 18, .move (.t 0), none⟩,
    ⟨2, some 19, .move (.t 1), none⟩,
    ⟨3, some 20, .bin .rem .i64 (.t 18) (.t 19), none⟩,
    ⟨4, some 21, .bin .sub .i64 (.t 17) (.t 20), none⟩,
    ⟨5, some 22, .move (.t 1), none⟩,
    ⟨6, some 23, .call 61 [.t 21, .t 22] [.c (.int .i64), .c (.bool)], none⟩,
    ⟨7, some 24, .ext 23 0, none⟩,
    ⟨8, some 25, .ext 23 1, none⟩,
    ⟨9, some 4, .move (.t 24), none⟩,
    ⟨10, some 5, .move (.t 25), none⟩]) .ret))
def hodmanref1_Round.d : DFn := { ntmps := 26, res := [.t 4, .t 5], body := (.seq (.region [⟨0, some 4, .move (.k (.c (.int .i64 0))), none⟩,
    ⟨1, some 5, .move (.k (.c (.bool false))), none⟩]) (.seq (.seq (.region [⟨0, some 6, .move (.t 0), none⟩,
    ⟨1, some 7, .cmp .lss .i64 (.t 6) (.k (.c (.int .i64 0))), none⟩,
    ⟨2, some 8, .move (.t 7), none⟩,
    ⟨3, some 9, .move (.t 1), some (8, false)⟩,
    ⟨4, some 10, .cmp .lss .i64 (.t 9) (.k (.c (.int .i64 1))), some (8, false)⟩,
    ⟨5, some 11, .pick (.t 8) (.k (.c (.bool true))) (.t 10), none⟩]) (.cut [0, 1, 11] hodmanref1_Round.c6)) hodmanref1_Round.c18)) }
def hodmanref1_Round.k18 (M : Mach) (C : Call) : Kont := execC M.j C (M.ag C) hodmanref1_Round.c18 ({ exits := [], ret := retK hodmanref1_Round.d } : Env) (retK hodmanref1_Round.d)
def hodmanref1_Round.J6 (M : Mach) (C : Call) (v0 : Int) (to1 : Int) (t11 : Bool) (G : GH) : Option Res := M.j (execC M.j C (M.ag C) hodmanref1_Round.c6 ({ exits := [], ret := retK hodmanref1_Round.d } : Env) (hodmanref1_Round.k18 M C)) [.v (.c (.int .i64 v0)), .v (.c (.int .i64 to1)), .und, .und, .und, .und, .und, .und, .und, .und, .und, .v (.c (.bool t11)), .und, .und, .und, .und, .und, .und, .und, .und, .und, .und, .und, .und, .und, .und] G
theorem hodmanref1_Round.J6_eq (M : Mach) (C : Call) (v0 : Int) (to1 : Int) (t11 : Bool) (G : GH) : hodmanref1_Round.J6 M C v0 to1 t11 G = (bif t11 then some ([.c (.int .i64 0), .c (.bool false)], G) else (binD .rem .i64 v0 to1).bind fun qx_1 => bif decide (qx_1 = 0) then some ([.c (.int .i64 v0), .c (.bool true)], G) else (binD .rem .i64 v0 to1).bind fun qx_2 => (C hodmanref1_Add.id [.c (.int .i64 (IntKind.i64.wrap (v0 - qx_2))), .c (.int .i64 to1)] G).bind fun qr_3 => (((qr_3.1[0]?).bind V1.c?).bind (Cell.asI .i64)).bind fun qx_4 => (((qr_3.1[1]?).bind V1.c?).bind Cell.asB).bind fun qb_5 => some ([.c (.int .i64 qx_4), .c (.bool qb_5)], qr_3.2)) := (M.hj _ _ _).trans (by kernel_rfl)
def hodmanref1_Round.f (M : Mach) (C : Call) (v0 : Int) (to1 : Int) (G : GH) : Option Res := bif decide (v0 < 0) then hodmanref1_Round.J6 M C v0 to1 true G else hodmanref1_Round.J6 M C v0 to1 (decide (to1 < 1)) G
theorem hodmanref1_Round.eq (M : Mach) (C : Call) (v0 : Int) (to1 : Int) (G : GH) : runF M C hodmanref1_Round.d [.c (.int .i64 v0), .c (.int .i64 to1)] G = hodmanref1_Round.f M C v0 to1 G := by kernel_rfl

/- 50 hodman/conf.Ceil -/
def conf_Ceil.c6 : DCode := (.cond (.t 12) (.seq (.region [⟨0, some 4, .move (.k (.c (.int .i64 0))), none⟩]) .ret) .skip)
def conf_Ceil.c10 : DCode := (.seq (.region [⟨0, some 13, .faddr 2 2, none⟩,
    ⟨1, some 14, .ldL 13 21 (.c (.int .i64)), none⟩,
    ⟨2, some 15, .move (.t 1), none⟩,
    ⟨3, some 16, .faddr 2 2, none⟩,
    ⟨4, some 17, .ldL 16 21 (.c (.int .i64)), none⟩,
    ⟨5, some 18, .bin .shr .i64 (.t 17) (.k (.c (.int .u64 1))), none⟩,
    ⟨6, some 19, .bin .mul .i64 (.t 15) (.t 18), none⟩,
    ⟨7, some 20, .bin .add .i64 (.t 14) (.t 19), none⟩,
    ⟨8, some 4, .move (.t 20), none⟩]) .ret)
def conf_Ceil.d : DFn := { ntmps := 22, res := [.t 4], body := (.seq (.region [⟨0, some 2, .boxv 21 [9, 13, 16] (.t 0) 8, none⟩,
    ⟨1, some 4, .move (.k (.c (.int .i64 0))), none⟩]) (.seq (.seq (.region [⟨0, some 5, .move (.t 1), none⟩,
    ⟨1, some 6, .cmp .lss .i64 (.t 5) (.k (.c (.int .i64 0))), none⟩,
    ⟨2, some 7, .move (.t 6), none⟩,
    ⟨3, some 8, .move (.t 1), some (7, false)⟩,
    ⟨4, some 9, .faddr 2 3, some (7, false)⟩,
    ⟨5, some 10, .ldL 9 21 (.c (.int .i64)), some (7, false)⟩,
    ⟨6, some 11, .cmp .gtr .i64 (.t 8) (.t 10), some (7, false)⟩,
    ⟨7, some 12, .pick (.t 7) (.k (.c (.bool true))) (.t 11), none⟩]) (.cut [1, 2, 12, 21] conf_Ceil.c6)) conf_Ceil.c10)) }
def conf_Ceil.k10 (M : Mach) (C : Call) : Kont := execC M.j C (M.ag C) conf_Ceil.c10 ({ exits := [], ret := retK conf_Ceil.d } : Env) (retK conf_Ceil.d)
def conf_Ceil.J6 (M : Mach) (C : Call) (class1 : Int) (t12 : Bool) (c21_0 : Int) (c21_1 : Int) (c21_2 : Int) (c21_3 : Int) (c21_4 : Int) (c21_5 : Int) (c21_6 : Int) (c21_7 : Int) (G : GH) : Option Res := M.j (execC M.j C (M.ag C) conf_Ceil.c6 ({ exits := [], ret := retK conf_Ceil.d } : Env) (conf_Ceil.k10 M C)) [.und, .v (.c (.int .i64 class1)), .ref 21 0, .und, .und, .und, .und, .und, .und, .und, .und, .und, .v (.c (.bool t12)), .und, .und, .und, .und, .und, .und, .und, .und, .box [.int .i64 c21_0, .int .i64 c21_1, .int .i64 c21_2, .int .i64 c21_3, .int .i64 c21_4, .int .i64 c21_5, .int .i64 c21_6, .int .i64 c21_7]] G
theorem conf_Ceil.J6_eq (M : Mach) (C : Call) (class1 : Int) (t12 : Bool) (c21_0 : Int) (c21_1 : Int) (c21_2 : Int) (c21_3 : Int) (c21_4 : Int) (c21_5 : Int) (c21_6 : Int) (c21_7 : Int) (G : GH) : conf_Ceil.J6 M C class1 t12 c21_0 c21_1 c21_2 c21_3 c21_4 c21_5 c21_6 c21_7 G = (bif t12 then some ([.c (.int .i64 0)], G) else some ([.c (.int .i64 (IntKind.i64.wrap (c21_2 + (IntKind.i64.wrap (class1 * (Int.fdiv c21_2 (2 ^ (min (1 : Int).toNat IntKind.i64.bits))))))))], G)) := (M.hj _ _ _).trans (by kernel_rfl)
def conf_Ceil.f (M : Mach) (C : Call) (c0_0 : Int) (c0_1 : Int) (c0_2 : Int) (c0_3 : Int) (c0_4 : Int) (c0_5 : Int) (c0_6 : Int) (c0_7 : Int) (class1 : Int) (G : GH) : Option Res := bif decide (class1 < 0) then conf_Ceil.J6 M C class1 true c0_0 c0_1 c0_2 c0_3 c0_4 c0_5 c0_6 c0_7 G else conf_Ceil.J6 M C class1 (decide (class1 > c0_3)) c0_0 c0_1 c0_2 c0_3 c0_4 c0_5 c0_6 c0_7 G
theorem conf_Ceil.eq (M : Mach) (C : Call) (c0_0 : Int) (c0_1 : Int) (c0_2 : Int) (c0_3 : Int) (c0_4 : Int) (c0_5 : Int) (c0_6 : Int) (c0_7 : Int) (class1 : Int) (G : GH) : runF M C conf_Ceil.d [.agg [.int .i64 c0_0, .int .i64 c0_1, .int .i64 c0_2, .int .i64 c0_3, .int .i64 c0_4, .int .i64 c0_5, .int .i64 c0_6, .int .i64 c0_7], .c (.int .i64 class1)] G = conf_Ceil.f M C c0_0 c0_1 c0_2 c0_3 c0_4 c0_5 c0_6 c0_7 class1 G := by kernel_rfl

/- 53 hodman/tight.may -/
def tight_may.d : DFn := { ntmps := 37, res := [.t 2], body := (.seq (.region [⟨0, some 1, .boxv 36 [3, 7, 12, 17, 22, 27, 32] (.t 0) 8, none⟩,
    ⟨1, some 2, .move (.k (.c (.bool false))), none⟩]) (.seq (.region [⟨0, some 3, .faddr 1 0, none⟩,
    ⟨1, some 4, .ldL 3 36 (.c (.int .i64)), none⟩,
    ⟨2, some 5, .cmp .geq .i64 (.t 4) (.k (.c (.int .i64 1))), none⟩,
    ⟨3, some 6, .move (.t 5), none⟩,
    ⟨4, some 7, .faddr 1 0, some (6, true)⟩,
    ⟨5, some 8, .ldL 7 36 (.c (.int .i64)), some (6, true)⟩,
    ⟨6, some 9, .cmp .leq .i64 (.t 8) (.k (.c (.int .i64 65536))), some (6, true)⟩,
    ⟨7, some 10, .pick (.t 6) (.t 9) (.k (.c (.bool false))), none⟩,
    ⟨8, some 11, .move (.t 10), none⟩,
    ⟨9, some 12, .faddr 1 2, some (11, true)⟩,
    ⟨10, some 13, .ldL 12 36 (.c (.int .i64)), some (11, true)⟩,
    ⟨11, some 14, .cmp .geq .i64 (.t 13) (.k (.c (.int .i64 1))), some (11, true)⟩,
    ⟨12, some 15, .pick (.t 11) (.t 14) (.k (.c (.bool false))), none⟩,
    ⟨13, some 16, .move (.t 15), none⟩,
    ⟨14, some 17, .faddr 1 2, some (16, true)⟩,
    ⟨15, some 18, .ldL 17 36 (.c (.int .i64)), some (16, true)⟩,
    ⟨16, some 19, .cmp .leq .i64 (.t 18) (.k (.c (.int .i64 65536))), some (16, true)⟩,
    ⟨17, some 20, .pick (.t 16) (.t 19) (.k (.c (.bool false))), none⟩,
    ⟨18, some 21, .move (.t 20), none⟩,
    ⟨19, some 22, .faddr 1 3, some (21, true)⟩,
    ⟨20, some 23, .ldL 22 36 (.c (.int .i64)), some (21, true)⟩,
    ⟨21, some 24, .cmp .geq .i64 (.t 23) (.k (.c (.int .i64 0))), some (21, true)⟩,
    ⟨22, some 25, .pick (.t 21) (.t 24) (.k (.c (.bool false))), none⟩,
    ⟨23, some 26, .move (.t 25), none⟩,
    ⟨24, some 27, .faddr 1 3, some (26, true)⟩,
    ⟨25, some 28, .ldL 27 36 (.c (.int .i64)), some (26, true)⟩,
    ⟨26, some 29, .cmp .leq .i64 (.t 28) (.k (.c (.int .i64 16))), some (26, true)⟩,
    ⟨27, some 30, .pick (.t 26) (.t 29) (.k (.c (.bool false))), none⟩,
    ⟨28, some 31, .move (.t 30), none⟩,
    ⟨29, some 32, .faddr 1 6, some (31, true)⟩,
    ⟨30, some 33, .ldL 32 36 (.c (.int .i64)), some (31, true)⟩,
    ⟨31, some 34, .cmp .leq .i64 (.t 33) (.k (.c (.int .i64 65536))), some (31, true)⟩,
    ⟨32, some 35, .pick (.t 31) (.t 34) (.k (.c (.bool false))), none⟩,
    ⟨33, some 2, .move (.t 35), none⟩]) .ret)) }
def tight_may.f (M : Mach) (C : Call) (c0_0 : Int) (c0_1 : Int) (c0_2 : Int) (c0_3 : Int) (c0_4 : Int) (c0_5 : Int) (c0_6 : Int) (c0_7 : Int) (G : GH) : Option Res := bif decide (c0_0 ≥ 1) then bif decide (c0_0 ≤ 65536) then bif decide (c0_2 ≥ 1) then bif decide (c0_2 ≤ 65536) then bif decide (c0_3 ≥ 0) then bif decide (c0_3 ≤ 16) then some ([.c (.bool (decide (c0_6 ≤ 65536)))], G) else some ([.c (.bool false)], G) else some ([.c (.bool false)], G) else some ([.c (.bool false)], G) else some ([.c (.bool false)], G) else some ([.c (.bool false)], G) else some ([.c (.bool false)], G)
theorem tight_may.eq (M : Mach) (C : Call) (c0_0 : Int) (c0_1 : Int) (c0_2 : Int) (c0_3 : Int) (c0_4 : Int) (c0_5 : Int) (c0_6 : Int) (c0_7 : Int) (G : GH) : runF M C tight_may.d [.agg [.int .i64 c0_0, .int .i64 c0_1, .int .i64 c0_2, .int .i64 c0_3, .int .i64 c0_4, .int .i64 c0_5, .int .i64 c0_6, .int .i64 c0_7]] G = tight_may.f M C c0_0 c0_1 c0_2 c0_3 c0_4 c0_5 c0_6 c0_7 G := by kernel_rfl

/- 57 hodman/hodmanref1.Many -/
def hodmanref1_Many.d : DFn := { ntmps := 29, res := [.t 8, .t 9], body := (.seq (.region [⟨0, some 4, .boxv 28 [] (.t 0) 8, none⟩,
    ⟨1, some 8, .move (.k (.c (.int .i64 0))), none⟩,
    ⟨2, some 9, .move (.k (.c (.int .i64 0))), none⟩]) (.seq (.region [⟨0, some 13, .ldL 4 28 (.agg [.int .i64, .int .i64, .int .i64, .int .i64, .int .i64, .int .i64, .int .i64, .int .i64]), none⟩,
    ⟨1, some 14, .move (.t 2), none⟩,
    ⟨2, some 15, .move (.t 3), none⟩,
    ⟨3, some 16, .call 63 [.t 13, .t 14, .t 15] [.c (.int .i64), .c (.int .i64)], none⟩,
    ⟨4, some 12, .move (.t 16), none⟩,
    ⟨5, some 17, .ext 12 0, none⟩,
    ⟨6, some 18, .ext 12 1, none⟩,
    ⟨7, some 10, .move (.t 17), none⟩,
    ⟨8, some 11, .move (.t 18), none⟩]) (.seq (.seq (.region [⟨0, some 19, .move (.t 11), none⟩,
    ⟨1, some 20, .cmp .neq .i64 (.t 19) (.k (.c (.int .i64 0))), none⟩]) (.cond (.t 20) (.seq (.region [⟨0, some 21, .move (.t 11), none⟩,
    ⟨1, some 8, .move (.k (.c (.int .i64 0))), none⟩,
    ⟨2, some 9, .move (.t 21), none⟩]) .ret) .skip)) (.seq (.region [⟨0, some 22, .ldL 4 28 (.agg [.int .i64, .int .i64, .int .i64, .int .i64, .int .i64, .int .i64, .int .i64, .int .i64]), none⟩,
    ⟨1, some 23, .move (.t 1), none⟩,
    ⟨2, some 24, .move (.t 10), none⟩,
    ⟨3, some 25, .call 56 [.t 22, .t 23, .t 24, .k (.c (.int .i64 1))] [.c (.int .i64), .c (.int .i64)], none⟩,
    ⟨4, some 26, .ext 25 0, none⟩,
    ⟨5, some 27, .ext 25 1, none⟩,
    ⟨6, some 8, .move (.t 26), none⟩,
    ⟨7, some 9, .move (.t 27), none⟩]) .ret)))) }
def hodmanref1_Many.f (M : Mach) (C : Call) (c0_0 : Int) (c0_1 : Int) (c0_2 : Int) (c0_3 : Int) (c0_4 : Int) (c0_5 : Int) (c0_6 : Int) (c0_7 : Int) (live1 : Int) (n2 : Int) (s3 : Int) (G : GH) : Option Res := (C hodmanref1_Product.id [.agg [.int .i64 c0_0, .int .i64 c0_1, .int .i64 c0_2, .int .i64 c0_3, .int .i64 c0_4, .int .i64 c0_5, .int .i64 c0_6, .int .i64 c0_7], .c (.int .i64 n2), .c (.int .i64 s3)] G).bind fun qr_1 => (((qr_1.1[0]?).bind V1.c?).bind (Cell.asI .i64)).bind fun qx_2 => (((qr_1.1[1]?).bind V1.c?).bind (Cell.asI .i64)).bind fun qx_3 => bif (!decide (qx_3 = 0)) then some ([.c (.int .i64 0), .c (.int .i64 qx_3)], qr_1.2) else (C hodmanref1_New.id [.agg [.int .i64 c0_0, .int .i64 c0_1, .int .i64 c0_2, .int .i64 c0_3, .int .i64 c0_4, .int .i64 c0_5, .int .i64 c0_6, .int .i64 c0_7], .c (.int .i64 live1), .c (.int .i64 qx_2), .c (.int .i64 1)] qr_1.2).bind fun qr_4 => (((qr_4.1[0]?).bind V1.c?).bind (Cell.asI .i64)).bind fun qx_5 => (((qr_4.1[1]?).bind V1.c?).bind (Cell.asI .i64)).bind fun qx_6 => some ([.c (.int .i64 qx_5), .c (.int .i64 qx_6)], qr_4.2)
theorem hodmanref1_Many.eq (M : Mach) (C : Call) (c0_0 : Int) (c0_1 : Int) (c0_2 : Int) (c0_3 : Int) (c0_4 : Int) (c0_5 : Int) (c0_6 : Int) (c0_7 : Int) (live1 : Int) (n2 : Int) (s3 : Int) (G : GH) : runF M C hodmanref1_Many.d [.agg [.int .i64 c0_0, .int .i64 c0_1, .int .i64 c0_2, .int .i64 c0_3, .int .i64 c0_4, .int .i64 c0_5, .int .i64 c0_6, .int .i64 c0_7], .c (.int .i64 live1), .c (.int .i64 n2), .c (.int .i64 s3)] G = hodmanref1_Many.f M C c0_0 c0_1 c0_2 c0_3 c0_4 c0_5 c0_6 c0_7 live1 n2 s3 G := by kernel_rfl

/- 33 hodman/hodmanref17.Find -/
def hodmanref17_Find.c17 : DCode := (.seq (.seq (.region [⟨0, some 6, .move (.t 5), none⟩,
    ⟨1, some 7, .move (.t 0), none⟩,
    ⟨2, some 8, .len (.t 7), none⟩,
    ⟨3, some 9, .cmp .lss .i64 (.t 6) (.t 8), none⟩]) (.cond (.t 9) .skip (.exit 0))) (.seq (.block 1 (.seq (.region [⟨0, some 12, .move (.t 0), none⟩,
    ⟨1, some 13, .move (.t 5), none⟩,
    ⟨2, some 14, .iaddr (.t 12) (.t 13) 3, none⟩,
    ⟨3, some 15, .faddr 14 0, none⟩,
    ⟨4, some 16, .ldG 15 (.c (.int .i64)), none⟩,
    ⟨5, some 17, .move (.t 1), none⟩,
    ⟨6, some 18, .cmp .eql .i64 (.t 16) (.t 17), none⟩]) (.cond (.t 18) (.seq (.region [⟨0, some 19, .move (.t 5), none⟩,
    ⟨1, some 4, .move (.t 19), none⟩]) .ret) .skip))) (.region [⟨0, some 10, .move (.t 5), none⟩,
    ⟨1, some 11, .bin .add .i64 (.t 10) (.k (.c (.int .i64 1))), none⟩,
    ⟨2, some 5, .move (.t 11), none⟩])))
def hodmanref17_Find.c23 : DCode := (.seq (.region [⟨0, some 4, .move (.k (.c (.int .i64 (-1)))), none⟩]) .ret)
def hodmanref17_Find.d : DFn := { ntmps := 20, res := [.t 4], body := (.seq (.region [⟨0, some 4, .move (.k (.c (.int .i64 0))), none⟩]) (.seq (.seq (.region [⟨0, some 5, .move (.k (.c (.int .i64 0))), none⟩]) (.block 0 (.loop [0, 1, 5] hodmanref17_Find.c17))) hodmanref17_Find.c23)) }
def hodmanref17_Find.k23 (M : Mach) (C : Call) : Kont := execC M.j C (M.ag C) hodmanref17_Find.c23 ({ exits := [], ret := retK hodmanref17_Find.d } : Env) (retK hodmanref17_Find.d)
def hodmanref17_Find.e19 (M : Mach) (C : Call) : Env := { exits := (0, (hodmanref17_Find.k23 M C)) :: (({ exits := [], ret := retK hodmanref17_Find.d } : Env)).exits, ret := (({ exits := [], ret := retK hodmanref17_Find.d } : Env)).ret }
def hodmanref17_Find.L18 (M : Mach) (C : Call) (l0i : Nat) (l0o : Nat) (l0n : Nat) (at1 : Int) (i5 : Int) (G : GH) : Option Res := M.ag C [0, 1, 5] hodmanref17_Find.c17 (hodmanref17_Find.e19 M C) (hodmanref17_Find.k23 M C) [.v (.c (.sl 3 l0i l0o l0n)), .v (.c (.int .i64 at1)), .und, .und, .und, .v (.c (.int .i64 i5)), .und, .und, .und, .und, .und, .und, .und, .und, .und, .und, .und, .und, .und, .und] G
theorem hodmanref17_Find.L18_eq (M : Mach) (C : Call) (l0i : Nat) (l0o : Nat) (l0n : Nat) (at1 : Int) (i5 : Int) (G : GH) : hodmanref17_Find.L18 M C l0i l0o l0n at1 i5 G = (bif decide (i5 < ((l0n : Nat) : Int)) then guardK (decide (0 ≤ i5 ∧ i5 < ((l0n : Nat) : Int))) (((G.ld l0i ((l0o + Int.toNat i5 * 3) + 0)).bind (Cell.asI .i64)).bind fun qx_1 => bif decide (qx_1 = at1) then some ([.c (.int .i64 i5)], G) else hodmanref17_Find.L18 M C l0i l0o l0n at1 (IntKind.i64.wrap (i5 + 1)) G) else some ([.c (.int .i64 (-1))], G)) := (M.hs _ _ _ _ _ _ _).trans (by kernel_rfl)
def hodmanref17_Find.f (M : Mach) (C : Call) (l0i : Nat) (l0o : Nat) (l0n : Nat) (at1 : Int) (G : GH) : Option Res := hodmanref17_Find.L18 M C l0i l0o l0n at1 0 G
theorem hodmanref17_Find.eq (M : Mach) (C : Call) (l0i : Nat) (l0o : Nat) (l0n : Nat) (at1 : Int) (G : GH) : runF M C hodmanref17_Find.d [.c (.sl 3 l0i l0o l0n), .c (.int .i64 at1)] G = hodmanref17_Find.f M C l0i l0o l0n at1 G := by kernel_rfl

/- 56 hodman/hodmanref1.New -/
def hodmanref1_New.d : DFn := { ntmps := 30, res := [.t 8, .t 9], body := (.seq (.region [⟨0, some 4, .boxv 29 [23] (.t 0) 8, none⟩,
    ⟨1, some 8, .move (.k (.c (.int .i64 0))), none⟩,
    ⟨2, some 9, .move (.k (.c (.int .i64 0))), none⟩]) (.seq (.region [⟨0, some 13, .ldL 4 29 (.agg [.int .i64, .int .i64, .int .i64, .int .i64, .int .i64, .int .i64, .int .i64, .int .i64]), none⟩,
    ⟨1, some 14, .move (.t 2), none⟩,
    ⟨2, some 15, .move (.t 3), none⟩,
    ⟨3, some 16, .call 26 [.t 13, .t 14, .t 15] [.c (.int .i64), .c (.int .i64)], none⟩,
    ⟨4, some 12, .move (.t 16), none⟩,
    ⟨5, some 17, .ext 12 0, none⟩,
    ⟨6, some 18, .ext 12 1, none⟩,
    ⟨7, some 10, .move (.t 17), none⟩,
    ⟨8, some 11, .move (.t 18), none⟩]) (.seq (.seq (.region [⟨0, some 19, .move (.t 11), none⟩,
    ⟨1, some 20, .cmp .neq .i64 (.t 19) (.k (.c (.int .i64 0))), none⟩]) (.cond (.t 20) (.seq (.region [⟨0, some 21, .move (.t 11), none⟩,
    ⟨1, some 8, .move (.k (.c (.int .i64 0))), none⟩,
    ⟨2, some 9, .move (.t 21), none⟩]) .ret) .skip)) (.seq (.seq (.region [⟨0, some 22, .move (.t 1), none⟩,
    ⟨1, some 23, .faddr 4 2, none⟩,
    ⟨2, some 24, .ldL 23 29 (.c (.int .i64)), none⟩,
    ⟨3, some 25, .move (.t 10), none⟩,
    ⟨4, some 26, .bin .sub .i64 (.t 24) (.t 25), none⟩,
    ⟨5, some 27, .cmp .gtr .i64 (.t 22) (.t 26), none⟩]) (.cond (.t 27) (.seq (.region [⟨0, some 8, .move (.k (.c (.int .i64 0))), none⟩,
    ⟨1, some 9, .move (.k (.c (.int .i64 5))), none⟩]) .ret) .skip)) (.seq (.region [⟨0, some 28, .move (.t 10), none⟩,
    ⟨1, some 8, .move (.t 28), none⟩,
    ⟨2, some 9, .move (.k (.c (.int .i64 0))), none⟩]) .ret))))) }
def hodmanref1_New.f (M : Mach) (C : Call) (c0_0 : Int) (c0_1 : Int) (c0_2 : Int) (c0_3 : Int) (c0_4 : Int) (c0_5 : Int) (c0_6 : Int) (c0_7 : Int) (live1 : Int) (s2 : Int) (a3 : Int) (G : GH) : Option Res := (C hodmanref1_Charge.id [.agg [.int .i64 c0_0, .int .i64 c0_1, .int .i64 c0_2, .int .i64 c0_3, .int .i64 c0_4, .int .i64 c0_5, .int .i64 c0_6, .int .i64 c0_7], .c (.int .i64 s2), .c (.int .i64 a3)] G).bind fun qr_1 => (((qr_1.1[0]?).bind V1.c?).bind (Cell.asI .i64)).bind fun qx_2 => (((qr_1.1[1]?).bind V1.c?).bind (Cell.asI .i64)).bind fun qx_3 => bif (!decide (qx_3 = 0)) then some ([.c (.int .i64 0), .c (.int .i64 qx_3)], qr_1.2) else bif decide (live1 > IntKind.i64.wrap (c0_2 - qx_2)) then some ([.c (.int .i64 0), .c (.int .i64 5)], qr_1.2) else some ([.c (.int .i64 qx_2), .c (.int .i64 0)], qr_1.2)
theorem hodmanref1_New.eq (M : Mach) (C : Call) (c0_0 : Int) (c0_1 : Int) (c0_2 : Int) (c0_3 : Int) (c0_4 : Int) (c0_5 : Int) (c0_6 : Int) (c0_7 : Int) (live1 : Int) (s2 : Int) (a3 : Int) (G : GH) : runF M C hodmanref1_New.d [.agg [.int .i64 c0_0, .int .i64 c0_1, .int .i64 c0_2, .int .i64 c0_3, .int .i64 c0_4, .int .i64 c0_5, .int .i64 c0_6, .int .i64 c0_7], .c (.int .i64 live1), .c (.int .i64 s2), .c (.int .i64 a3)] G = hodmanref1_New.f M C c0_0 c0_1 c0_2 c0_3 c0_4 c0_5 c0_6 c0_7 live1 s2 a3 G := by kernel_rfl

/- 42 hodman/hodmanref17.wrong -/
def hodmanref17_wrong.d : DFn := { ntmps := 12, res := [.box 4 (some 14), .box 5 (some 8)], body := (.seq (.region [⟨0, some 2, .boxv 9 [] (.t 0) 14, none⟩,
    ⟨1, some 4, .boxz 10 [] [.int .i64 0, .int .i64 0, .int .i64 0, .int .i64 0, .int .i64 0, .int .i64 0, .int .i64 0, .int .i64 0, .sl 3 0 0 0, .int .i64 0, .int .i64 0, .int .i64 0, .sl 1 0 0 0, .sl 1 0 0 0], none⟩,
    ⟨2, some 5, .boxz 11 [] [.int .i64 0, .int .i64 0, .int .i64 0, .int .u8 0, .int .i64 0, .int .i64 0, .int .i64 0, .int .i64 0], none⟩]) (.seq (.region [⟨0, some 6, .ldL 2 9 (.agg [.int .i64, .int .i64, .int .i64, .int .i64, .int .i64, .int .i64, .int .i64, .int .i64, .sl 3, .int .i64, .int .i64, .int .i64, .sl 1, .sl 1]), none⟩,
    ⟨1, some 7, .move (.t 1), none⟩,
    ⟨2, some 8, .build [.int .i64 0, .int .i64 0, .int .i64 0, .int .u8 0, .int .i64 0, .int .i64 0, .int .i64 0, .int .i64 0] [(0, 1, .t 7)], none⟩,
    ⟨3, none, .stL 4 10 (.t 6) 14, none⟩,
    ⟨4, none, .stL 5 11 (.t 8) 8, none⟩]) .ret)) }
def hodmanref17_wrong.f (M : Mach) (C : Call) (m0_0 : Int) (m0_1 : Int) (m0_2 : Int) (m0_3 : Int) (m0_4 : Int) (m0_5 : Int) (m0_6 : Int) (m0_7 : Int) (m0_8i : Nat) (m0_8o : Nat) (m0_8n : Nat) (m0_9 : Int) (m0_10 : Int) (m0_11 : Int) (m0_12i : Nat) (m0_12o : Nat) (m0_12n : Nat) (m0_13i : Nat) (m0_13o : Nat) (m0_13n : Nat) (e1 : Int) (G : GH) : Option Res := some ([.agg [.int .i64 m0_0, .int .i64 m0_1, .int .i64 m0_2, .int .i64 m0_3, .int .i64 m0_4, .int .i64 m0_5, .int .i64 m0_6, .int .i64 m0_7, .sl 3 m0_8i m0_8o m0_8n, .int .i64 m0_9, .int .i64 m0_10, .int .i64 m0_11, .sl 1 m0_12i m0_12o m0_12n, .sl 1 m0_13i m0_13o m0_13n], .agg [.int .i64 e1, .int .i64 0, .int .i64 0, .int .u8 0, .int .i64 0, .int .i64 0, .int .i64 0, .int .i64 0]], G)
theorem hodmanref17_wrong.eq (M : Mach) (C : Call) (m0_0 : Int) (m0_1 : Int) (m0_2 : Int) (m0_3 : Int) (m0_4 : Int) (m0_5 : Int) (m0_6 : Int) (m0_7 : Int) (m0_8i : Nat) (m0_8o : Nat) (m0_8n : Nat) (m0_9 : Int) (m0_10 : Int) (m0_11 : Int) (m0_12i : Nat) (m0_12o : Nat) (m0_12n : Nat) (m0_13i : Nat) (m0_13o : Nat) (m0_13n : Nat) (e1 : Int) (G : GH) : runF M C hodmanref17_wrong.d [.agg [.int .i64 m0_0, .int .i64 m0_1, .int .i64 m0_2, .int .i64 m0_3, .int .i64 m0_4, .int .i64 m0_5, .int .i64 m0_6, .int .i64 m0_7, .sl 3 m0_8i m0_8o m0_8n, .int .i64 m0_9, .int .i64 m0_10, .int .i64 m0_11, .sl 1 m0_12i m0_12o m0_12n, .sl 1 m0_13i m0_13o m0_13n], .c (.int .i64 e1)] G = hodmanref17_wrong.f M C m0_0 m0_1 m0_2 m0_3 m0_4 m0_5 m0_6 m0_7 m0_8i m0_8o m0_8n m0_9 m0_10 m0_11 m0_12i m0_12o m0_12n m0_13i m0_13o m0_13n e1 G := by kernel_rfl

/- 67 hodman/hodmanref8.there -/
def hodmanref8_there.d : DFn := { ntmps := 27, res := [.t 6], body := (.seq (.region [⟨0, some 6, .move (.k (.c (.bool false))), none⟩]) (.seq (.region [⟨0, some 7, .move (.t 1), none⟩,
    ⟨1, some 8, .cmp .geq .i64 (.t 7) (.k (.c (.int .i64 0))), none⟩,
    ⟨2, some 9, .move (.t 8), none⟩,
    ⟨3, some 10, .move (.t 2), some (9, true)⟩,
    ⟨4, some 11, .cmp .geq .i64 (.t 10) (.k (.c (.int .i64 0))), some (9, true)⟩,
    ⟨5, some 12, .pick (.t 9) (.t 11) (.k (.c (.bool false))), none⟩,
    ⟨6, some 13, .move (.t 12), none⟩,
    ⟨7, some 14, .move (.t 1), some (13, true)⟩,
    ⟨8, some 15, .move (.t 0), some (13, true)⟩,
    ⟨9, some 16, .len (.t 15), some (13, true)⟩,
    ⟨10, some 17, .cmp .leq .i64 (.t 14) (.t 16), some (13, true)⟩,
    ⟨11, some 18, .pick (.t 13) (.t 17) (.k (.c (.bool false))), none⟩,
    ⟨12, some 19, .move (.t 18), none⟩,
    ⟨13, some 20, .move (.t 2), some (19, true)⟩,
    ⟨14, some 21, .move (.t 0), some (19, true)⟩,
    ⟨15, some 22, .len (.t 21), some (19, true)⟩,
    ⟨16, some 23, .move (.t 1), some (19, true)⟩,
    ⟨17, some 24, .bin .sub .i64 (.t 22) (.t 23), some (19, true)⟩,
    ⟨18, some 25, .cmp .leq .i64 (.t 20) (.t 24), some (19, true)⟩,
    ⟨19, some 26, .pick (.t 19) (.t 25) (.k (.c (.bool false))), none⟩,
    ⟨20, some 6, .move (.t 26), none⟩]) .ret)) }
def hodmanref8_there.f (M : Mach) (C : Call) (mem0i : Nat) (mem0o : Nat) (mem0n : Nat) (at1 : Int) (n2 : Int) (G : GH) : Option Res := bif decide (at1 ≥ 0) then bif decide (n2 ≥ 0) then bif decide (at1 ≤ ((mem0n : Nat) : Int)) then some ([.c (.bool (decide (n2 ≤ IntKind.i64.wrap (((mem0n : Nat) : Int) - at1))))], G) else some ([.c (.bool false)], G) else some ([.c (.bool false)], G) else some ([.c (.bool false)], G)
theorem hodmanref8_there.eq (M : Mach) (C : Call) (mem0i : Nat) (mem0o : Nat) (mem0n : Nat) (at1 : Int) (n2 : Int) (G : GH) : runF M C hodmanref8_there.d [.c (.sl 1 mem0i mem0o mem0n), .c (.int .i64 at1), .c (.int .i64 n2)] G = hodmanref8_there.f M C mem0i mem0o mem0n at1 n2 G := by kernel_rfl

/- 60 hodman/hodmanref1.Anew -/
def hodmanref1_Anew.d : DFn := { ntmps := 19, res := [.t 8, .t 9], body := (.seq (.region [⟨0, some 4, .boxv 18 [] (.t 0) 8, none⟩,
    ⟨1, some 8, .move (.k (.c (.int .i64 0))), none⟩,
    ⟨2, some 9, .move (.k (.c (.int .i64 0))), none⟩]) (.seq (.region [⟨0, some 10, .ldL 4 18 (.agg [.int .i64, .int .i64, .int .i64, .int .i64, .int .i64, .int .i64, .int .i64, .int .i64]), none⟩,
    ⟨1, some 11, .move (.t 1), none⟩,
    ⟨2, some 12, .move (.t 2), none⟩,
    ⟨3, some 13, .bin .sub .i64 (.t 11) (.t 12), none⟩,
    ⟨4, some 14, .move (.t 3), none⟩,
    ⟨5, some 15, .call 56 [.t 10, .t 13, .t 14, .k (.c (.int .i64 1))] [.c (.int .i64), .c (.int .i64)], none⟩,
    ⟨6, some 16, .ext 15 0, none⟩,
    ⟨7, some 17, .ext 15 1, none⟩,
    ⟨8, some 8, .move (.t 16), none⟩,
    ⟨9, some 9, .move (.t 17), none⟩]) .ret)) }
def hodmanref1_Anew.f (M : Mach) (C : Call) (c0_0 : Int) (c0_1 : Int) (c0_2 : Int) (c0_3 : Int) (c0_4 : Int) (c0_5 : Int) (c0_6 : Int) (c0_7 : Int) (live1 : Int) (old2 : Int) (s3 : Int) (G : GH) : Option Res := (C hodmanref1_New.id [.agg [.int .i64 c0_0, .int .i64 c0_1, .int .i64 c0_2, .int .i64 c0_3, .int .i64 c0_4, .int .i64 c0_5, .int .i64 c0_6, .int .i64 c0_7], .c (.int .i64 (IntKind.i64.wrap (live1 - old2))), .c (.int .i64 s3), .c (.int .i64 1)] G).bind fun qr_1 => (((qr_1.1[0]?).bind V1.c?).bind (Cell.asI .i64)).bind fun qx_2 => (((qr_1.1[1]?).bind V1.c?).bind (Cell.asI .i64)).bind fun qx_3 => some ([.c (.int .i64 qx_2), .c (.int .i64 qx_3)], qr_1.2)
theorem hodmanref1_Anew.eq (M : Mach) (C : Call) (c0_0 : Int) (c0_1 : Int) (c0_2 : Int) (c0_3 : Int) (c0_4 : Int) (c0_5 : Int) (c0_6 : Int) (c0_7 : Int) (live1 : Int) (old2 : Int) (s3 : Int) (G : GH) : runF M C hodmanref1_Anew.d [.agg [.int .i64 c0_0, .int .i64 c0_1, .int .i64 c0_2, .int .i64 c0_3, .int .i64 c0_4, .int .i64 c0_5, .int .i64 c0_6, .int .i64 c0_7], .c (.int .i64 live1), .c (.int .i64 old2), .c (.int .i64 s3)] G = hodmanref1_Anew.f M C c0_0 c0_1 c0_2 c0_3 c0_4 c0_5 c0_6 c0_7 live1 old2 s3 G := by kernel_rfl

/- 47 hodman/hodmanref8.Over -/
def hodmanref8_Over.d : DFn := { ntmps := 25, res := [.t 4], body := (.seq (.region [⟨0, some 2, .boxv 23 [5, 16, 18] (.t 0) 2, none⟩,
    ⟨1, some 3, .boxv 24 [7, 9, 14] (.t 1) 2, none⟩,
    ⟨2, some 4, .move (.k (.c (.bool false))), none⟩]) (.seq (.region [⟨0, some 5, .faddr 2 0, none⟩,
    ⟨1, some 6, .ldL 5 23 (.c (.int .i64)), none⟩,
    ⟨2, some 7, .faddr 3 0, none⟩,
    ⟨3, some 8, .ldL 7 24 (.c (.int .i64)), none⟩,
    ⟨4, some 9, .faddr 3 1, none⟩,
    ⟨5, some 10, .ldL 9 24 (.c (.int .i64)), none⟩,
    ⟨6, some 11, .bin .add .i64 (.t 8) (.t 10), none⟩,
    ⟨7, some 12, .cmp .lss .i64 (.t 6) (.t 11), none⟩,
    ⟨8, some 13, .move (.t 12), none⟩,
    ⟨9, some 14, .faddr 3 0, some (13, true)⟩,
    ⟨10, some 15, .ldL 14 24 (.c (.int .i64)), some (13, true)⟩,
    ⟨11, some 16, .faddr 2 0, some (13, true)⟩,
    ⟨12, some 17, .ldL 16 23 (.c (.int .i64)), some (13, true)⟩,
    ⟨13, some 18, .faddr 2 1, some (13, true)⟩,
    ⟨14, some 19, .ldL 18 23 (.c (.int .i64)), some (13, true)⟩,
    ⟨15, some 20, .bin .add .i64 (.t 17) (.t 19), some (13, true)⟩,
    ⟨16, some 21, .cmp .lss .i64 (.t 15) (.t 20), some (13, true)⟩,
    ⟨17, some 22, .pick (.t 13) (.t 21) (.k (.c (.bool false))), none⟩,
    ⟨18, some 4, .move (.t 22), none⟩]) .ret)) }
def hodmanref8_Over.f (M : Mach) (C : Call) (a0_0 : Int) (a0_1 : Int) (b1_0 : Int) (b1_1 : Int) (G : GH) : Option Res := bif decide (a0_0 < IntKind.i64.wrap (b1_0 + b1_1)) then some ([.c (.bool (decide (b1_0 < IntKind.i64.wrap (a0_0 + a0_1))))], G) else some ([.c (.bool false)], G)
theorem hodmanref8_Over.eq (M : Mach) (C : Call) (a0_0 : Int) (a0_1 : Int) (b1_0 : Int) (b1_1 : Int) (G : GH) : runF M C hodmanref8_Over.d [.agg [.int .i64 a0_0, .int .i64 a0_1], .agg [.int .i64 b1_0, .int .i64 b1_1]] G = hodmanref8_Over.f M C a0_0 a0_1 b1_0 b1_1 G := by kernel_rfl

/- 69 hodman/hodmanref8.Byte -/
def hodmanref8_Byte.d : DFn := { ntmps := 20, res := [.t 6], body := (.seq (.region [⟨0, some 6, .move (.k (.c (.int .u8 0))), none⟩]) (.seq (.region [⟨0, some 7, .move (.t 0), none⟩,
    ⟨1, some 8, .bin .rem .i64 (.t 7) (.k (.c (.int .i64 256))), none⟩,
    ⟨2, some 9, .move (.t 1), none⟩,
    ⟨3, some 10, .bin .rem .i64 (.t 9) (.k (.c (.int .i64 256))), none⟩,
    ⟨4, some 11, .bin .mul .i64 (.k (.c (.int .i64 31))) (.t 10), none⟩,
    ⟨5, some 12, .bin .add .i64 (.t 8) (.t 11), none⟩,
    ⟨6, some 13, .move (.t 2), none⟩,
    ⟨7, some 14, .bin .rem .i64 (.t 13) (.k (.c (.int .i64 256))), none⟩,
    ⟨8, some 15, .bin .mul .i64 (.k (.c (.int .i64 7))) (.t 14), none⟩,
    ⟨9, some 16, .bin .add .i64 (.t 12) (.t 15), none⟩,
    ⟨10, some 17, .bin .add .i64 (.t 16) (.k (.c (.int .i64 1))), none⟩,
    ⟨11, some 18, .bin .rem .i64 (.t 17) (.k (.c (.int .i64 256))), none⟩,
    ⟨12, some 19, .conv .u8 (.t 18), none⟩,
    ⟨13, some 6, .move (.t 19), none⟩]) .ret)) }
def hodmanref8_Byte.f (M : Mach) (C : Call) (seed0 : Int) (page1 : Int) (i2 : Int) (G : GH) : Option Res := some ([.c (.int .u8 (IntKind.u8.wrap (Int.tmod (IntKind.i64.wrap ((IntKind.i64.wrap ((IntKind.i64.wrap ((Int.tmod seed0 256) + (IntKind.i64.wrap (31 * (Int.tmod page1 256))))) + (IntKind.i64.wrap (7 * (Int.tmod i2 256))))) + 1)) 256)))], G)
theorem hodmanref8_Byte.eq (M : Mach) (C : Call) (seed0 : Int) (page1 : Int) (i2 : Int) (G : GH) : runF M C hodmanref8_Byte.d [.c (.int .i64 seed0), .c (.int .i64 page1), .c (.int .i64 i2)] G = hodmanref8_Byte.f M C seed0 page1 i2 G := by kernel_rfl

/- 16 hodman/tight.Stages -/
def tight_Stages.d : DFn := { ntmps := 9, res := [.t 2], body := (.seq (.region [⟨0, some 1, .boxv 8 [] (.t 0) 8, none⟩,
    ⟨1, some 2, .move (.k (.c (.sl 1 0 0 0))), none⟩]) (.seq (.region [⟨0, some 3, .ldL 1 8 (.agg [.int .i64, .int .i64, .int .i64, .int .i64, .int .i64, .int .i64, .int .i64, .int .i64]), none⟩,
    ⟨1, some 4, .call 36 [.t 3] [.c (.ptr)], none⟩,
    ⟨2, some 5, .nilck (.t 4), none⟩,
    ⟨3, some 6, .faddr 5 11, none⟩,
    ⟨4, some 7, .ldG 6 (.c (.sl 1)), none⟩,
    ⟨5, some 2, .move (.t 7), none⟩]) .ret)) }
def tight_Stages.f (M : Mach) (C : Call) (c0_0 : Int) (c0_1 : Int) (c0_2 : Int) (c0_3 : Int) (c0_4 : Int) (c0_5 : Int) (c0_6 : Int) (c0_7 : Int) (G : GH) : Option Res := (C tight_all.id [.agg [.int .i64 c0_0, .int .i64 c0_1, .int .i64 c0_2, .int .i64 c0_3, .int .i64 c0_4, .int .i64 c0_5, .int .i64 c0_6, .int .i64 c0_7]] G).bind fun qr_1 => (((qr_1.1[0]?).bind V1.c?).bind Cell.asP).bind fun qp_2 => guardK (!Nat.beq qp_2.1 0) (((qr_1.2.ld qp_2.1 (qp_2.2 + 11)).bind (Cell.asS 1)).bind fun qs_3 => some ([.c (.sl 1 qs_3.1 qs_3.2.1 qs_3.2.2)], qr_1.2))
theorem tight_Stages.eq (M : Mach) (C : Call) (c0_0 : Int) (c0_1 : Int) (c0_2 : Int) (c0_3 : Int) (c0_4 : Int) (c0_5 : Int) (c0_6 : Int) (c0_7 : Int) (G : GH) : runF M C tight_Stages.d [.agg [.int .i64 c0_0, .int .i64 c0_1, .int .i64 c0_2, .int .i64 c0_3, .int .i64 c0_4, .int .i64 c0_5, .int .i64 c0_6, .int .i64 c0_7]] G = tight_Stages.f M C c0_0 c0_1 c0_2 c0_3 c0_4 c0_5 c0_6 c0_7 G := by kernel_rfl

/- 18 hodman/tight.Script -/
def tight_Script.d : DFn := { ntmps := 9, res := [.t 2], body := (.seq (.region [⟨0, some 1, .boxv 8 [] (.t 0) 8, none⟩,
    ⟨1, some 2, .move (.k (.c (.sl 6 0 0 0))), none⟩]) (.seq (.region [⟨0, some 3, .ldL 1 8 (.agg [.int .i64, .int .i64, .int .i64, .int .i64, .int .i64, .int .i64, .int .i64, .int .i64]), none⟩,
    ⟨1, some 4, .call 36 [.t 3] [.c (.ptr)], none⟩,
    ⟨2, some 5, .nilck (.t 4), none⟩,
    ⟨3, some 6, .faddr 5 8, none⟩,
    ⟨4, some 7, .ldG 6 (.c (.sl 6)), none⟩,
    ⟨5, some 2, .move (.t 7), none⟩]) .ret)) }
def tight_Script.f (M : Mach) (C : Call) (c0_0 : Int) (c0_1 : Int) (c0_2 : Int) (c0_3 : Int) (c0_4 : Int) (c0_5 : Int) (c0_6 : Int) (c0_7 : Int) (G : GH) : Option Res := (C tight_all.id [.agg [.int .i64 c0_0, .int .i64 c0_1, .int .i64 c0_2, .int .i64 c0_3, .int .i64 c0_4, .int .i64 c0_5, .int .i64 c0_6, .int .i64 c0_7]] G).bind fun qr_1 => (((qr_1.1[0]?).bind V1.c?).bind Cell.asP).bind fun qp_2 => guardK (!Nat.beq qp_2.1 0) (((qr_1.2.ld qp_2.1 (qp_2.2 + 8)).bind (Cell.asS 6)).bind fun qs_3 => some ([.c (.sl 6 qs_3.1 qs_3.2.1 qs_3.2.2)], qr_1.2))
theorem tight_Script.eq (M : Mach) (C : Call) (c0_0 : Int) (c0_1 : Int) (c0_2 : Int) (c0_3 : Int) (c0_4 : Int) (c0_5 : Int) (c0_6 : Int) (c0_7 : Int) (G : GH) : runF M C tight_Script.d [.agg [.int .i64 c0_0, .int .i64 c0_1, .int .i64 c0_2, .int .i64 c0_3, .int .i64 c0_4, .int .i64 c0_5, .int .i64 c0_6, .int .i64 c0_7]] G = tight_Script.f M C c0_0 c0_1 c0_2 c0_3 c0_4 c0_5 c0_6 c0_7 G := by kernel_rfl

/- 13 hodman/hodmanplay.Made -/
def hodmanplay_Made.d : DFn := { ntmps := 6, res := [.t 2], body := (.seq (.region [⟨0, some 2, .move (.k (.c (.ptr 0 0))), none⟩]) (.seq (.region [⟨0, some 3, .move (.t 0), none⟩,
    ⟨1, some 4, .build [.sl 1 0 0 0, .int .i64 0] [(0, 1, .t 3)], none⟩,
    ⟨2, some 5, .newv (.t 4) 2, none⟩,
    ⟨3, some 2, .move (.t 5), none⟩]) .ret)) }
def hodmanplay_Made.f (M : Mach) (C : Call) (l0i : Nat) (l0o : Nat) (l0n : Nat) (G : GH) : Option Res := let qG_1 := G.alloc (.row [.sl 1 l0i l0o l0n, .int .i64 0] false); some ([.c (.ptr G.next 0)], qG_1)
theorem hodmanplay_Made.eq (M : Mach) (C : Call) (l0i : Nat) (l0o : Nat) (l0n : Nat) (G : GH) : runF M C hodmanplay_Made.d [.c (.sl 1 l0i l0o l0n)] G = hodmanplay_Made.f M C l0i l0o l0n G := by kernel_rfl
end Go.Proofs.D
