/- Texts of the proof (T1); no condition. -/
import Derived.Test.YtbgnjpbcdkegoaaTightDrivesa
import Derived.KernelRfl
set_option linter.unusedSimpArgs false
set_option linter.unusedVariables false
set_option linter.unusedVariables false
set_option maxRecDepth 100000
namespace Go.Proofs.D
open Go
/- 21 hodman/hodmanref17.Do -/
def hodmanref17_Do.c57 : DCode := (.cond (.t 55) (.seq (.region [⟨0, some 61, .faddr 2 8, none⟩,
    ⟨1, some 62, .ldL 61 82 (.c (.sl 3)), none⟩,
    ⟨2, some 63, .faddr 3 1, none⟩,
    ⟨3, some 64, .ldL 63 83 (.c (.int .i64)), none⟩,
    ⟨4, some 65, .call 33 [.t 62, .t 64] [.c (.int .i64)], none⟩,
    ⟨5, some 8, .move (.t 65), none⟩]) (.seq (.seq (.region [⟨0, some 66, .move (.t 8), none⟩,
    ⟨1, some 67, .cmp .lss .i64 (.t 66) (.k (.c (.int .i64 0))), none⟩]) (.cond (.t 67) (.seq (.region [⟨0, some 68, .ldL 2 82 (.agg [.int .i64, .int .i64, .int .i64, .int .i64, .int .i64, .int .i64, .int .i64, .int .i64, .sl 3, .int .i64, .int .i64, .int .i64, .sl 1, .sl 1]), none⟩,
    ⟨1, some 69, .call 42 [.t 68, .k (.c (.int .i64 8))] [.agg [.int .i64, .int .i64, .int .i64, .int .i64, .int .i64, .int .i64, .int .i64, .int .i64, .sl 3, .int .i64, .int .i64, .int .i64, .sl 1, .sl 1], .agg [.int .i64, .int .i64, .int .i64, .int .u8, .int .i64, .int .i64, .int .i64, .int .i64]], none⟩,
    ⟨2, some 70, .ext 69 0, none⟩,
    ⟨3, some 71, .ext 69 1, none⟩,
    ⟨4, none, .stL 4 84 (.t 70) 14, none⟩,
    ⟨5, none, .stL 5 85 (.t 71) 8, none⟩]) .ret) .skip)) (.seq (.region [⟨0, some 72, .ldL 2 82 (.agg [.int .i64, .int .i64, .int .i64, .int .i64, .int .i64, .int .i64, .int .i64, .int .i64, .sl 3, .int .i64, .int .i64, .int .i64, .sl 1, .sl 1]), none⟩,
    ⟨1, some 73, .ldL 3 83 (.agg [.int .i64, .int .i64, .int .i64, .int .i64, .int .i64, .int .u8]), none⟩,
    ⟨2, some 74, .move (.t 8), none⟩,
    ⟨3, some 75, .call 43 [.t 72, .t 73, .t 74] [.agg [.int .i64, .int .i64, .int .i64, .int .i64, .int .i64, .int .i64, .int .i64, .int .i64, .sl 3, .int .i64, .int .i64, .int .i64, .sl 1, .sl 1], .agg [.int .i64, .int .i64, .int .i64, .int .u8, .int .i64, .int .i64, .int .i64, .int .i64]], none⟩,
    ⟨4, some 76, .ext 75 0, none⟩,
    ⟨5, some 77, .ext 75 1, none⟩,
    ⟨6, none, .stL 4 84 (.t 76) 14, none⟩,
    ⟨7, none, .stL 5 85 (.t 77) 8, none⟩]) .ret))) .skip)
def hodmanref17_Do.c63 : DCode := (.cond (.t 11) (.seq (.region [⟨0, some 15, .ldL 2 82 (.agg [.int .i64, .int .i64, .int .i64, .int .i64, .int .i64, .int .i64, .int .i64, .int .i64, .sl 3, .int .i64, .int .i64, .int .i64, .sl 1, .sl 1]), none⟩,
    ⟨1, some 16, .ldL 3 83 (.agg [.int .i64, .int .i64, .int .i64, .int .i64, .int .i64, .int .u8]), none⟩,
    ⟨2, some 17, .call 38 [.t 15, .t 16] [.agg [.int .i64, .int .i64, .int .i64, .int .i64, .int .i64, .int .i64, .int .i64, .int .i64, .sl 3, .int .i64, .int .i64, .int .i64, .sl 1, .sl 1], .agg [.int .i64, .int .i64, .int .i64, .int .u8, .int .i64, .int .i64, .int .i64, .int .i64]], none⟩,
    ⟨3, some 18, .ext 17 0, none⟩,
    ⟨4, some 19, .ext 17 1, none⟩,
    ⟨5, none, .stL 4 84 (.t 18) 14, none⟩,
    ⟨6, none, .stL 5 85 (.t 19) 8, none⟩]) .ret) (.seq (.region [⟨0, some 21, .cmp .eql .i64 (.t 10) (.k (.c (.int .i64 9))), none⟩,
    ⟨1, some 20, .move (.t 21), none⟩]) (.cond (.t 20) (.seq (.region [⟨0, some 23, .faddr 2 12, none⟩,
    ⟨1, some 24, .ldL 23 82 (.c (.sl 1)), none⟩,
    ⟨2, some 25, .faddr 2 0, none⟩,
    ⟨3, some 26, .faddr 25 4, none⟩,
    ⟨4, some 27, .ldL 26 82 (.c (.int .i64)), none⟩,
    ⟨5, some 28, .faddr 2 0, none⟩,
    ⟨6, some 29, .faddr 28 6, none⟩,
    ⟨7, some 30, .ldL 29 82 (.c (.int .i64)), none⟩,
    ⟨8, some 31, .faddr 2 8, none⟩,
    ⟨9, some 32, .ldL 31 82 (.c (.sl 3)), none⟩,
    ⟨10, some 33, .call 40 [.t 27, .t 30, .t 32] [.c (.sl 1)], none⟩,
    ⟨11, some 34, .call 39 [.t 24, .t 33] [.c (.sl 1), .c (.int .i64)], none⟩,
    ⟨12, some 22, .move (.t 34), none⟩,
    ⟨13, some 35, .ext 22 0, none⟩,
    ⟨14, some 36, .ext 22 1, none⟩,
    ⟨15, some 6, .move (.t 35), none⟩,
    ⟨16, some 7, .move (.t 36), none⟩]) (.seq (.region [⟨0, some 37, .move (.t 6), none⟩,
    ⟨1, some 38, .faddr 2 12, none⟩,
    ⟨2, none, .stL 38 82 (.t 37) 1, none⟩]) (.seq (.region [⟨0, some 39, .ldL 2 82 (.agg [.int .i64, .int .i64, .int .i64, .int .i64, .int .i64, .int .i64, .int .i64, .int .i64, .sl 3, .int .i64, .int .i64, .int .i64, .sl 1, .sl 1]), none⟩,
    ⟨1, some 40, .move (.t 7), none⟩,
    ⟨2, some 41, .build [.int .i64 0, .int .i64 0, .int .i64 0, .int .u8 0, .int .i64 0, .int .i64 0, .int .i64 0, .int .i64 0] [(2, 1, .t 40)], none⟩,
    ⟨3, none, .stL 4 84 (.t 39) 14, none⟩,
    ⟨4, none, .stL 5 85 (.t 41) 8, none⟩]) .ret))) (.seq (.region [⟨0, some 43, .cmp .eql .i64 (.t 10) (.k (.c (.int .i64 10))), none⟩,
    ⟨1, some 42, .move (.t 43), none⟩]) (.cond (.t 42) (.seq (.region [⟨0, some 44, .ldL 2 82 (.agg [.int .i64, .int .i64, .int .i64, .int .i64, .int .i64, .int .i64, .int .i64, .int .i64, .sl 3, .int .i64, .int .i64, .int .i64, .sl 1, .sl 1]), none⟩,
    ⟨1, some 45, .faddr 2 9, none⟩,
    ⟨2, some 46, .ldL 45 82 (.c (.int .i64)), none⟩,
    ⟨3, some 47, .faddr 2 10, none⟩,
    ⟨4, some 48, .ldL 47 82 (.c (.int .i64)), none⟩,
    ⟨5, some 49, .faddr 2 11, none⟩,
    ⟨6, some 50, .ldL 49 82 (.c (.int .i64)), none⟩,
    ⟨7, some 51, .faddr 2 12, none⟩,
    ⟨8, some 52, .ldL 51 82 (.c (.sl 1)), none⟩,
    ⟨9, some 53, .call 41 [.t 52] [.c (.int .i64)], none⟩,
    ⟨10, some 54, .build [.int .i64 0, .int .i64 0, .int .i64 0, .int .u8 0, .int .i64 0, .int .i64 0, .int .i64 0, .int .i64 0] [(4, 1, .t 46), (5, 1, .t 48), (6, 1, .t 50), (7, 1, .t 53)], none⟩,
    ⟨11, none, .stL 4 84 (.t 44) 14, none⟩,
    ⟨12, none, .stL 5 85 (.t 54) 8, none⟩]) .ret) (.seq (.seq (.region [⟨0, some 56, .cmp .eql .i64 (.t 10) (.k (.c (.int .i64 4))), none⟩,
    ⟨1, some 55, .move (.t 56), none⟩]) (.cond (.t 55) .skip (.seq (.region [⟨0, some 57, .cmp .eql .i64 (.t 10) (.k (.c (.int .i64 5))), none⟩,
    ⟨1, some 55, .move (.t 57), none⟩]) (.cond (.t 55) .skip (.seq (.region [⟨0, some 58, .cmp .eql .i64 (.t 10) (.k (.c (.int .i64 6))), none⟩,
    ⟨1, some 55, .move (.t 58), none⟩]) (.cond (.t 55) .skip (.seq (.region [⟨0, some 59, .cmp .eql .i64 (.t 10) (.k (.c (.int .i64 7))), none⟩,
    ⟨1, some 55, .move (.t 59), none⟩]) (.cond (.t 55) .skip (.region [⟨0, some 60, .cmp .eql .i64 (.t 10) (.k (.c (.int .i64 8))), none⟩,
    ⟨1, some 55, .move (.t 60), none⟩]))))))))) (.cut [2, 3, 4, 5, 55, 82, 83, 84, 85] hodmanref17_Do.c57)))))))
def hodmanref17_Do.c69 : DCode := (.seq (.region [⟨0, some 78, .ldL 2 82 (.agg [.int .i64, .int .i64, .int .i64, .int .i64, .int .i64, .int .i64, .int .i64, .int .i64, .sl 3, .int .i64, .int .i64, .int .i64, .sl 1, .sl 1]), none⟩,
    ⟨1, some 79, .call 42 [.t 78, .k (.c (.int .i64 2))] [.agg [.int .i64, .int .i64, .int .i64, .int .i64, .int .i64, .int .i64, .int .i64, .int .i64, .sl 3, .int .i64, .int .i64, .int .i64, .sl 1, .sl 1], .agg [.int .i64, .int .i64, .int .i64, .int .u8, .int .i64, .int .i64, .int .i64, .int .i64]], none⟩,
    ⟨2, some 80, .ext 79 0, none⟩,
    ⟨3, some 81, .ext 79 1, none⟩,
    ⟨4, none, .stL 4 84 (.t 80) 14, none⟩,
    ⟨5, none, .stL 5 85 (.t 81) 8, none⟩]) .ret)
def hodmanref17_Do.d : DFn := { ntmps := 86, res := [.box 4 (some 14), .box 5 (some 8)], body := (.seq (.region [⟨0, some 2, .boxv 82 [23, 25, 26, 28, 29, 31, 38, 45, 47, 49, 51, 61] (.t 0) 14, none⟩,
    ⟨1, some 3, .boxv 83 [9, 63] (.t 1) 6, none⟩,
    ⟨2, some 4, .boxz 84 [] [.int .i64 0, .int .i64 0, .int .i64 0, .int .i64 0, .int .i64 0, .int .i64 0, .int .i64 0, .int .i64 0, .sl 3 0 0 0, .int .i64 0, .int .i64 0, .int .i64 0, .sl 1 0 0 0, .sl 1 0 0 0], none⟩,
    ⟨3, some 5, .boxz 85 [] [.int .i64 0, .int .i64 0, .int .i64 0, .int .u8 0, .int .i64 0, .int .i64 0, .int .i64 0, .int .i64 0], none⟩]) (.seq (.seq (.region [⟨0, some 9, .faddr 3 0, none⟩,
    ⟨1, some 10, .ldL 9 83 (.c (.int .i64)), none⟩]) (.block 0 (.seq (.seq (.region [⟨0, some 12, .cmp .eql .i64 (.t 10) (.k (.c (.int .i64 1))), none⟩,
    ⟨1, some 11, .move (.t 12), none⟩]) (.cond (.t 11) .skip (.seq (.region [⟨0, some 13, .cmp .eql .i64 (.t 10) (.k (.c (.int .i64 3))), none⟩,
    ⟨1, some 11, .move (.t 13), none⟩]) (.cond (.t 11) .skip (.region [⟨0, some 14, .cmp .eql .i64 (.t 10) (.k (.c (.int .i64 2))), none⟩,
    ⟨1, some 11, .move (.t 14), none⟩]))))) (.cut [2, 3, 4, 5, 10, 11, 82, 83, 84, 85] hodmanref17_Do.c63)))) hodmanref17_Do.c69)) }
def hodmanref17_Do.k69 (M : Mach) (C : Call) : Kont := execC M.j C (M.ag C) hodmanref17_Do.c69 ({ exits := [], ret := retK hodmanref17_Do.d } : Env) (retK hodmanref17_Do.d)
def hodmanref17_Do.e65 (M : Mach) (C : Call) : Env := { exits := (0, (hodmanref17_Do.k69 M C)) :: (({ exits := [], ret := retK hodmanref17_Do.d } : Env)).exits, ret := (({ exits := [], ret := retK hodmanref17_Do.d } : Env)).ret }
def hodmanref17_Do.J63 (M : Mach) (C : Call) (t10 : Int) (t11 : Bool) (m82_0 : Int) (m82_1 : Int) (m82_2 : Int) (m82_3 : Int) (m82_4 : Int) (m82_5 : Int) (m82_6 : Int) (m82_7 : Int) (m82_8i : Nat) (m82_8o : Nat) (m82_8n : Nat) (m82_9 : Int) (m82_10 : Int) (m82_11 : Int) (m82_12i : Nat) (m82_12o : Nat) (m82_12n : Nat) (m82_13i : Nat) (m82_13o : Nat) (m82_13n : Nat) (o83_0 : Int) (o83_1 : Int) (o83_2 : Int) (o83_3 : Int) (o83_4 : Int) (o83_5 : Int) (x84_0 : Int) (x84_1 : Int) (x84_2 : Int) (x84_3 : Int) (x84_4 : Int) (x84_5 : Int) (x84_6 : Int) (x84_7 : Int) (x84_8i : Nat) (x84_8o : Nat) (x84_8n : Nat) (x84_9 : Int) (x84_10 : Int) (x84_11 : Int) (x84_12i : Nat) (x84_12o : Nat) (x84_12n : Nat) (x84_13i : Nat) (x84_13o : Nat) (x84_13n : Nat) (x85_0 : Int) (x85_1 : Int) (x85_2 : Int) (x85_3 : Int) (x85_4 : Int) (x85_5 : Int) (x85_6 : Int) (x85_7 : Int) (G : GH) : Option Res := M.j (execC M.j C (M.ag C) hodmanref17_Do.c63 (hodmanref17_Do.e65 M C) (hodmanref17_Do.k69 M C)) [.und, .und, .ref 82 0, .ref 83 0, .ref 84 0, .ref 85 0, .und, .und, .und, .und, .v (.c (.int .i64 t10)), .v (.c (.bool t11)), .und, .und, .und, .und, .und, .und, .und, .und, .und, .und, .und, .und, .und, .und, .und, .und, .und, .und, .und, .und, .und, .und, .und, .und, .und, .und, .und, .und, .und, .und, .und, .und, .und, .und, .und, .und, .und, .und, .und, .und, .und, .und, .und, .und, .und, .und, .und, .und, .und, .und, .und, .und, .und, .und, .und, .und, .und, .und, .und, .und, .und, .und, .und, .und, .und, .und, .und, .und, .und, .und, .box [.int .i64 m82_0, .int .i64 m82_1, .int .i64 m82_2, .int .i64 m82_3, .int .i64 m82_4, .int .i64 m82_5, .int .i64 m82_6, .int .i64 m82_7, .sl 3 m82_8i m82_8o m82_8n, .int .i64 m82_9, .int .i64 m82_10, .int .i64 m82_11, .sl 1 m82_12i m82_12o m82_12n, .sl 1 m82_13i m82_13o m82_13n], .box [.int .i64 o83_0, .int .i64 o83_1, .int .i64 o83_2, .int .i64 o83_3, .int .i64 o83_4, .int .u8 o83_5], .box [.int .i64 x84_0, .int .i64 x84_1, .int .i64 x84_2, .int .i64 x84_3, .int .i64 x84_4, .int .i64 x84_5, .int .i64 x84_6, .int .i64 x84_7, .sl 3 x84_8i x84_8o x84_8n, .int .i64 x84_9, .int .i64 x84_10, .int .i64 x84_11, .sl 1 x84_12i x84_12o x84_12n, .sl 1 x84_13i x84_13o x84_13n], .box [.int .i64 x85_0, .int .i64 x85_1, .int .i64 x85_2, .int .u8 x85_3, .int .i64 x85_4, .int .i64 x85_5, .int .i64 x85_6, .int .i64 x85_7]] G
def hodmanref17_Do.J57 (M : Mach) (C : Call) (t55 : Bool) (m82_0 : Int) (m82_1 : Int) (m82_2 : Int) (m82_3 : Int) (m82_4 : Int) (m82_5 : Int) (m82_6 : Int) (m82_7 : Int) (m82_8i : Nat) (m82_8o : Nat) (m82_8n : Nat) (m82_9 : Int) (m82_10 : Int) (m82_11 : Int) (m82_12i : Nat) (m82_12o : Nat) (m82_12n : Nat) (m82_13i : Nat) (m82_13o : Nat) (m82_13n : Nat) (o83_0 : Int) (o83_1 : Int) (o83_2 : Int) (o83_3 : Int) (o83_4 : Int) (o83_5 : Int) (x84_0 : Int) (x84_1 : Int) (x84_2 : Int) (x84_3 : Int) (x84_4 : Int) (x84_5 : Int) (x84_6 : Int) (x84_7 : Int) (x84_8i : Nat) (x84_8o : Nat) (x84_8n : Nat) (x84_9 : Int) (x84_10 : Int) (x84_11 : Int) (x84_12i : Nat) (x84_12o : Nat) (x84_12n : Nat) (x84_13i : Nat) (x84_13o : Nat) (x84_13n : Nat) (x85_0 : Int) (x85_1 : Int) (x85_2 : Int) (x85_3 : Int) (x85_4 : Int) (x85_5 : Int) (x85_6 : Int) (x85_7 : Int) (G : GH) : Option Res := M.j (execC M.j C (M.ag C) hodmanref17_Do.c57 (hodmanref17_Do.e65 M C) (hodmanref17_Do.k69 M C)) [.und, .und, .ref 82 0, .ref 83 0, .ref 84 0, .ref 85 0, .und, .und, .und, .und, .und, .und, .und, .und, .und, .und, .und, .und, .und, .und, .und, .und, .und, .und, .und, .und, .und, .und, .und, .und, .und, .und, .und, .und, .und, .und, .und, .und, .und, .und, .und, .und, .und, .und, .und, .und, .und, .und, .und, .und, .und, .und, .und, .und, .und, .v (.c (.bool t55)), .und, .und, .und, .und, .und, .und, .und, .und, .und, .und, .und, .und, .und, .und, .und, .und, .und, .und, .und, .und, .und, .und, .und, .und, .und, .und, .box [.int .i64 m82_0, .int .i64 m82_1, .int .i64 m82_2, .int .i64 m82_3, .int .i64 m82_4, .int .i64 m82_5, .int .i64 m82_6, .int .i64 m82_7, .sl 3 m82_8i m82_8o m82_8n, .int .i64 m82_9, .int .i64 m82_10, .int .i64 m82_11, .sl 1 m82_12i m82_12o m82_12n, .sl 1 m82_13i m82_13o m82_13n], .box [.int .i64 o83_0, .int .i64 o83_1, .int .i64 o83_2, .int .i64 o83_3, .int .i64 o83_4, .int .u8 o83_5], .box [.int .i64 x84_0, .int .i64 x84_1, .int .i64 x84_2, .int .i64 x84_3, .int .i64 x84_4, .int .i64 x84_5, .int .i64 x84_6, .int .i64 x84_7, .sl 3 x84_8i x84_8o x84_8n, .int .i64 x84_9, .int .i64 x84_10, .int .i64 x84_11, .sl 1 x84_12i x84_12o x84_12n, .sl 1 x84_13i x84_13o x84_13n], .box [.int .i64 x85_0, .int .i64 x85_1, .int .i64 x85_2, .int .u8 x85_3, .int .i64 x85_4, .int .i64 x85_5, .int .i64 x85_6, .int .i64 x85_7]] G
theorem hodmanref17_Do.J63_eq (M : Mach) (C : Call) (t10 : Int) (t11 : Bool) (m82_0 : Int) (m82_1 : Int) (m82_2 : Int) (m82_3 : Int) (m82_4 : Int) (m82_5 : Int) (m82_6 : Int) (m82_7 : Int) (m82_8i : Nat) (m82_8o : Nat) (m82_8n : Nat) (m82_9 : Int) (m82_10 : Int) (m82_11 : Int) (m82_12i : Nat) (m82_12o : Nat) (m82_12n : Nat) (m82_13i : Nat) (m82_13o : Nat) (m82_13n : Nat) (o83_0 : Int) (o83_1 : Int) (o83_2 : Int) (o83_3 : Int) (o83_4 : Int) (o83_5 : Int) (x84_0 : Int) (x84_1 : Int) (x84_2 : Int) (x84_3 : Int) (x84_4 : Int) (x84_5 : Int) (x84_6 : Int) (x84_7 : Int) (x84_8i : Nat) (x84_8o : Nat) (x84_8n : Nat) (x84_9 : Int) (x84_10 : Int) (x84_11 : Int) (x84_12i : Nat) (x84_12o : Nat) (x84_12n : Nat) (x84_13i : Nat) (x84_13o : Nat) (x84_13n : Nat) (x85_0 : Int) (x85_1 : Int) (x85_2 : Int) (x85_3 : Int) (x85_4 : Int) (x85_5 : Int) (x85_6 : Int) (x85_7 : Int) (G : GH) : hodmanref17_Do.J63 M C t10 t11 m82_0 m82_1 m82_2 m82_3 m82_4 m82_5 m82_6 m82_7 m82_8i m82_8o m82_8n m82_9 m82_10 m82_11 m82_12i m82_12o m82_12n m82_13i m82_13o m82_13n o83_0 o83_1 o83_2 o83_3 o83_4 o83_5 x84_0 x84_1 x84_2 x84_3 x84_4 x84_5 x84_6 x84_7 x84_8i x84_8o x84_8n x84_9 x84_10 x84_11 x84_12i x84_12o x84_12n x84_13i x84_13o x84_13n x85_0 x85_1 x85_2 x85_3 x85_4 x85_5 x85_6 x85_7 G = (bif t11 then (C hodmanref17_give.id [.agg [.int .i64 m82_0, .int .i64 m82_1, .int .i64 m82_2, .int .i64 m82_3, .int .i64 m82_4, .int .i64 m82_5, .int .i64 m82_6, .int .i64 m82_7, .sl 3 m82_8i m82_8o m82_8n, .int .i64 m82_9, .int .i64 m82_10, .int .i64 m82_11, .sl 1 m82_12i m82_12o m82_12n, .sl 1 m82_13i m82_13o m82_13n], .agg [.int .i64 o83_0, .int .i64 o83_1, .int .i64 o83_2, .int .i64 o83_3, .int .i64 o83_4, .int .u8 o83_5]] G).bind fun qr_1 => ((qr_1.1[0]?).bind V1.a?).bind fun qcs_2 => if qcs_2.length = 14 then (((qcs_2[0]?).bind (Cell.asI .i64)).bind fun qx_3 => ((qcs_2[1]?).bind (Cell.asI .i64)).bind fun qx_4 => ((qcs_2[2]?).bind (Cell.asI .i64)).bind fun qx_5 => ((qcs_2[3]?).bind (Cell.asI .i64)).bind fun qx_6 => ((qcs_2[4]?).bind (Cell.asI .i64)).bind fun qx_7 => ((qcs_2[5]?).bind (Cell.asI .i64)).bind fun qx_8 => ((qcs_2[6]?).bind (Cell.asI .i64)).bind fun qx_9 => ((qcs_2[7]?).bind (Cell.asI .i64)).bind fun qx_10 => ((qcs_2[8]?).bind (Cell.asS 3)).bind fun qs_11 => ((qcs_2[9]?).bind (Cell.asI .i64)).bind fun qx_12 => ((qcs_2[10]?).bind (Cell.asI .i64)).bind fun qx_13 => ((qcs_2[11]?).bind (Cell.asI .i64)).bind fun qx_14 => ((qcs_2[12]?).bind (Cell.asS 1)).bind fun qs_15 => ((qcs_2[13]?).bind (Cell.asS 1)).bind fun qs_16 => ((qr_1.1[1]?).bind V1.a?).bind fun qcs_17 => if qcs_17.length = 8 then (((qcs_17[0]?).bind (Cell.asI .i64)).bind fun qx_18 => ((qcs_17[1]?).bind (Cell.asI .i64)).bind fun qx_19 => ((qcs_17[2]?).bind (Cell.asI .i64)).bind fun qx_20 => ((qcs_17[3]?).bind (Cell.asI .u8)).bind fun qx_21 => ((qcs_17[4]?).bind (Cell.asI .i64)).bind fun qx_22 => ((qcs_17[5]?).bind (Cell.asI .i64)).bind fun qx_23 => ((qcs_17[6]?).bind (Cell.asI .i64)).bind fun qx_24 => ((qcs_17[7]?).bind (Cell.asI .i64)).bind fun qx_25 => some ([.agg [.int .i64 qx_3, .int .i64 qx_4, .int .i64 qx_5, .int .i64 qx_6, .int .i64 qx_7, .int .i64 qx_8, .int .i64 qx_9, .int .i64 qx_10, .sl 3 qs_11.1 qs_11.2.1 qs_11.2.2, .int .i64 qx_12, .int .i64 qx_13, .int .i64 qx_14, .sl 1 qs_15.1 qs_15.2.1 qs_15.2.2, .sl 1 qs_16.1 qs_16.2.1 qs_16.2.2], .agg [.int .i64 qx_18, .int .i64 qx_19, .int .i64 qx_20, .int .u8 qx_21, .int .i64 qx_22, .int .i64 qx_23, .int .i64 qx_24, .int .i64 qx_25]], qr_1.2)) else none) else none else bif decide (t10 = 9) then (C hodmanref8_Met.id [.c (.int .i64 m82_4), .c (.int .i64 m82_6), .c (.sl 3 m82_8i m82_8o m82_8n)] G).bind fun qr_26 => (((qr_26.1[0]?).bind V1.c?).bind (Cell.asS 1)).bind fun qs_27 => (C hodmanref8_Trim.id [.c (.sl 1 m82_12i m82_12o m82_12n), .c (.sl 1 qs_27.1 qs_27.2.1 qs_27.2.2)] qr_26.2).bind fun qr_28 => (((qr_28.1[0]?).bind V1.c?).bind (Cell.asS 1)).bind fun qs_29 => (((qr_28.1[1]?).bind V1.c?).bind (Cell.asI .i64)).bind fun qx_30 => some ([.agg [.int .i64 m82_0, .int .i64 m82_1, .int .i64 m82_2, .int .i64 m82_3, .int .i64 m82_4, .int .i64 m82_5, .int .i64 m82_6, .int .i64 m82_7, .sl 3 m82_8i m82_8o m82_8n, .int .i64 m82_9, .int .i64 m82_10, .int .i64 m82_11, .sl 1 qs_29.1 qs_29.2.1 qs_29.2.2, .sl 1 m82_13i m82_13o m82_13n], .agg [.int .i64 0, .int .i64 0, .int .i64 qx_30, .int .u8 0, .int .i64 0, .int .i64 0, .int .i64 0, .int .i64 0]], qr_28.2) else bif decide (t10 = 10) then (C hodmanref8_Count.id [.c (.sl 1 m82_12i m82_12o m82_12n)] G).bind fun qr_31 => (((qr_31.1[0]?).bind V1.c?).bind (Cell.asI .i64)).bind fun qx_32 => some ([.agg [.int .i64 m82_0, .int .i64 m82_1, .int .i64 m82_2, .int .i64 m82_3, .int .i64 m82_4, .int .i64 m82_5, .int .i64 m82_6, .int .i64 m82_7, .sl 3 m82_8i m82_8o m82_8n, .int .i64 m82_9, .int .i64 m82_10, .int .i64 m82_11, .sl 1 m82_12i m82_12o m82_12n, .sl 1 m82_13i m82_13o m82_13n], .agg [.int .i64 0, .int .i64 0, .int .i64 0, .int .u8 0, .int .i64 m82_9, .int .i64 m82_10, .int .i64 m82_11, .int .i64 qx_32]], qr_31.2) else bif decide (t10 = 4) then hodmanref17_Do.J57 M C (decide (t10 = 4)) m82_0 m82_1 m82_2 m82_3 m82_4 m82_5 m82_6 m82_7 m82_8i m82_8o m82_8n m82_9 m82_10 m82_11 m82_12i m82_12o m82_12n m82_13i m82_13o m82_13n o83_0 o83_1 o83_2 o83_3 o83_4 o83_5 x84_0 x84_1 x84_2 x84_3 x84_4 x84_5 x84_6 x84_7 x84_8i x84_8o x84_8n x84_9 x84_10 x84_11 x84_12i x84_12o x84_12n x84_13i x84_13o x84_13n x85_0 x85_1 x85_2 x85_3 x85_4 x85_5 x85_6 x85_7 G else bif decide (t10 = 5) then hodmanref17_Do.J57 M C (decide (t10 = 5)) m82_0 m82_1 m82_2 m82_3 m82_4 m82_5 m82_6 m82_7 m82_8i m82_8o m82_8n m82_9 m82_10 m82_11 m82_12i m82_12o m82_12n m82_13i m82_13o m82_13n o83_0 o83_1 o83_2 o83_3 o83_4 o83_5 x84_0 x84_1 x84_2 x84_3 x84_4 x84_5 x84_6 x84_7 x84_8i x84_8o x84_8n x84_9 x84_10 x84_11 x84_12i x84_12o x84_12n x84_13i x84_13o x84_13n x85_0 x85_1 x85_2 x85_3 x85_4 x85_5 x85_6 x85_7 G else bif decide (t10 = 6) then hodmanref17_Do.J57 M C (decide (t10 = 6)) m82_0 m82_1 m82_2 m82_3 m82_4 m82_5 m82_6 m82_7 m82_8i m82_8o m82_8n m82_9 m82_10 m82_11 m82_12i m82_12o m82_12n m82_13i m82_13o m82_13n o83_0 o83_1 o83_2 o83_3 o83_4 o83_5 x84_0 x84_1 x84_2 x84_3 x84_4 x84_5 x84_6 x84_7 x84_8i x84_8o x84_8n x84_9 x84_10 x84_11 x84_12i x84_12o x84_12n x84_13i x84_13o x84_13n x85_0 x85_1 x85_2 x85_3 x85_4 x85_5 x85_6 x85_7 G else bif decide (t10 = 7) then hodmanref17_Do.J57 M C (decide (t10 = 7)) m82_0 m82_1 m82_2 m82_3 m82_4 m82_5 m82_6 m82_7 m82_8i m82_8o m82_8n m82_9 m82_10 m82_11 m82_12i m82_12o m82_12n m82_13i m82_13o m82_13n o83_0 o83_1 o83_2 o83_3 o83_4 o83_5 x84_0 x84_1 x84_2 x84_3 x84_4 x84_5 x84_6 x84_7 x84_8i x84_8o x84_8n x84_9 x84_10 x84_11 x84_12i x84_12o x84_12n x84_13i x84_13o x84_13n x85_0 x85_1 x85_2 x85_3 x85_4 x85_5 x85_6 x85_7 G else hodmanref17_Do.J57 M C (decide (t10 = 8)) m82_0 m82_1 m82_2 m82_3 m82_4 m82_5 m82_6 m82_7 m82_8i m82_8o m82_8n m82_9 m82_10 m82_11 m82_12i m82_12o m82_12n m82_13i m82_13o m82_13n o83_0 o83_1 o83_2 o83_3 o83_4 o83_5 x84_0 x84_1 x84_2 x84_3 x84_4 x84_5 x84_6 x84_7 x84_8i x84_8o x84_8n x84_9 x84_10 x84_11 x84_12i x84_12o x84_12n x84_13i x84_13o x84_13n x85_0 x85_1 x85_2 x85_3 x85_4 x85_5 x85_6 x85_7 G) := (M.hj _ _ _).trans (by kernel_rfl)
theorem hodmanref17_Do.J57_eq (M : Mach) (C : Call) (t55 : Bool) (m82_0 : Int) (m82_1 : Int) (m82_2 : Int) (m82_3 : Int) (m82_4 : Int) (m82_5 : Int) (m82_6 : Int) (m82_7 : Int) (m82_8i : Nat) (m82_8o : Nat) (m82_8n : Nat) (m82_9 : Int) (m82_10 : Int) (m82_11 : Int) (m82_12i : Nat) (m82_12o : Nat) (m82_12n : Nat) (m82_13i : Nat) (m82_13o : Nat) (m82_13n : Nat) (o83_0 : Int) (o83_1 : Int) (o83_2 : Int) (o83_3 : Int) (o83_4 : Int) (o83_5 : Int) (x84_0 : Int) (x84_1 : Int) (x84_2 : Int) (x84_3 : Int) (x84_4 : Int) (x84_5 : Int) (x84_6 : Int) (x84_7 : Int) (x84_8i : Nat) (x84_8o : Nat) (x84_8n : Nat) (x84_9 : Int) (x84_10 : Int) (x84_11 : Int) (x84_12i : Nat) (x84_12o : Nat) (x84_12n : Nat) (x84_13i : Nat) (x84_13o : Nat) (x84_13n : Nat) (x85_0 : Int) (x85_1 : Int) (x85_2 : Int) (x85_3 : Int) (x85_4 : Int) (x85_5 : Int) (x85_6 : Int) (x85_7 : Int) (G : GH) : hodmanref17_Do.J57 M C t55 m82_0 m82_1 m82_2 m82_3 m82_4 m82_5 m82_6 m82_7 m82_8i m82_8o m82_8n m82_9 m82_10 m82_11 m82_12i m82_12o m82_12n m82_13i m82_13o m82_13n o83_0 o83_1 o83_2 o83_3 o83_4 o83_5 x84_0 x84_1 x84_2 x84_3 x84_4 x84_5 x84_6 x84_7 x84_8i x84_8o x84_8n x84_9 x84_10 x84_11 x84_12i x84_12o x84_12n x84_13i x84_13o x84_13n x85_0 x85_1 x85_2 x85_3 x85_4 x85_5 x85_6 x85_7 G = (bif t55 then (C hodmanref17_Find.id [.c (.sl 3 m82_8i m82_8o m82_8n), .c (.int .i64 o83_1)] G).bind fun qr_33 => (((qr_33.1[0]?).bind V1.c?).bind (Cell.asI .i64)).bind fun qx_34 => bif decide (qx_34 < 0) then (C hodmanref17_wrong.id [.agg [.int .i64 m82_0, .int .i64 m82_1, .int .i64 m82_2, .int .i64 m82_3, .int .i64 m82_4, .int .i64 m82_5, .int .i64 m82_6, .int .i64 m82_7, .sl 3 m82_8i m82_8o m82_8n, .int .i64 m82_9, .int .i64 m82_10, .int .i64 m82_11, .sl 1 m82_12i m82_12o m82_12n, .sl 1 m82_13i m82_13o m82_13n], .c (.int .i64 8)] qr_33.2).bind fun qr_35 => ((qr_35.1[0]?).bind V1.a?).bind fun qcs_36 => if qcs_36.length = 14 then (((qcs_36[0]?).bind (Cell.asI .i64)).bind fun qx_37 => ((qcs_36[1]?).bind (Cell.asI .i64)).bind fun qx_38 => ((qcs_36[2]?).bind (Cell.asI .i64)).bind fun qx_39 => ((qcs_36[3]?).bind (Cell.asI .i64)).bind fun qx_40 => ((qcs_36[4]?).bind (Cell.asI .i64)).bind fun qx_41 => ((qcs_36[5]?).bind (Cell.asI .i64)).bind fun qx_42 => ((qcs_36[6]?).bind (Cell.asI .i64)).bind fun qx_43 => ((qcs_36[7]?).bind (Cell.asI .i64)).bind fun qx_44 => ((qcs_36[8]?).bind (Cell.asS 3)).bind fun qs_45 => ((qcs_36[9]?).bind (Cell.asI .i64)).bind fun qx_46 => ((qcs_36[10]?).bind (Cell.asI .i64)).bind fun qx_47 => ((qcs_36[11]?).bind (Cell.asI .i64)).bind fun qx_48 => ((qcs_36[12]?).bind (Cell.asS 1)).bind fun qs_49 => ((qcs_36[13]?).bind (Cell.asS 1)).bind fun qs_50 => ((qr_35.1[1]?).bind V1.a?).bind fun qcs_51 => if qcs_51.length = 8 then (((qcs_51[0]?).bind (Cell.asI .i64)).bind fun qx_52 => ((qcs_51[1]?).bind (Cell.asI .i64)).bind fun qx_53 => ((qcs_51[2]?).bind (Cell.asI .i64)).bind fun qx_54 => ((qcs_51[3]?).bind (Cell.asI .u8)).bind fun qx_55 => ((qcs_51[4]?).bind (Cell.asI .i64)).bind fun qx_56 => ((qcs_51[5]?).bind (Cell.asI .i64)).bind fun qx_57 => ((qcs_51[6]?).bind (Cell.asI .i64)).bind fun qx_58 => ((qcs_51[7]?).bind (Cell.asI .i64)).bind fun qx_59 => some ([.agg [.int .i64 qx_37, .int .i64 qx_38, .int .i64 qx_39, .int .i64 qx_40, .int .i64 qx_41, .int .i64 qx_42, .int .i64 qx_43, .int .i64 qx_44, .sl 3 qs_45.1 qs_45.2.1 qs_45.2.2, .int .i64 qx_46, .int .i64 qx_47, .int .i64 qx_48, .sl 1 qs_49.1 qs_49.2.1 qs_49.2.2, .sl 1 qs_50.1 qs_50.2.1 qs_50.2.2], .agg [.int .i64 qx_52, .int .i64 qx_53, .int .i64 qx_54, .int .u8 qx_55, .int .i64 qx_56, .int .i64 qx_57, .int .i64 qx_58, .int .i64 qx_59]], qr_35.2)) else none) else none else (C hodmanref17_of.id [.agg [.int .i64 m82_0, .int .i64 m82_1, .int .i64 m82_2, .int .i64 m82_3, .int .i64 m82_4, .int .i64 m82_5, .int .i64 m82_6, .int .i64 m82_7, .sl 3 m82_8i m82_8o m82_8n, .int .i64 m82_9, .int .i64 m82_10, .int .i64 m82_11, .sl 1 m82_12i m82_12o m82_12n, .sl 1 m82_13i m82_13o m82_13n], .agg [.int .i64 o83_0, .int .i64 o83_1, .int .i64 o83_2, .int .i64 o83_3, .int .i64 o83_4, .int .u8 o83_5], .c (.int .i64 qx_34)] qr_33.2).bind fun qr_60 => ((qr_60.1[0]?).bind V1.a?).bind fun qcs_61 => if qcs_61.length = 14 then (((qcs_61[0]?).bind (Cell.asI .i64)).bind fun qx_62 => ((qcs_61[1]?).bind (Cell.asI .i64)).bind fun qx_63 => ((qcs_61[2]?).bind (Cell.asI .i64)).bind fun qx_64 => ((qcs_61[3]?).bind (Cell.asI .i64)).bind fun qx_65 => ((qcs_61[4]?).bind (Cell.asI .i64)).bind fun qx_66 => ((qcs_61[5]?).bind (Cell.asI .i64)).bind fun qx_67 => ((qcs_61[6]?).bind (Cell.asI .i64)).bind fun qx_68 => ((qcs_61[7]?).bind (Cell.asI .i64)).bind fun qx_69 => ((qcs_61[8]?).bind (Cell.asS 3)).bind fun qs_70 => ((qcs_61[9]?).bind (Cell.asI .i64)).bind fun qx_71 => ((qcs_61[10]?).bind (Cell.asI .i64)).bind fun qx_72 => ((qcs_61[11]?).bind (Cell.asI .i64)).bind fun qx_73 => ((qcs_61[12]?).bind (Cell.asS 1)).bind fun qs_74 => ((qcs_61[13]?).bind (Cell.asS 1)).bind fun qs_75 => ((qr_60.1[1]?).bind V1.a?).bind fun qcs_76 => if qcs_76.length = 8 then (((qcs_76[0]?).bind (Cell.asI .i64)).bind fun qx_77 => ((qcs_76[1]?).bind (Cell.asI .i64)).bind fun qx_78 => ((qcs_76[2]?).bind (Cell.asI .i64)).bind fun qx_79 => ((qcs_76[3]?).bind (Cell.asI .u8)).bind fun qx_80 => ((qcs_76[4]?).bind (Cell.asI .i64)).bind fun qx_81 => ((qcs_76[5]?).bind (Cell.asI .i64)).bind fun qx_82 => ((qcs_76[6]?).bind (Cell.asI .i64)).bind fun qx_83 => ((qcs_76[7]?).bind (Cell.asI .i64)).bind fun qx_84 => some ([.agg [.int .i64 qx_62, .int .i64 qx_63, .int .i64 qx_64, .int .i64 qx_65, .int .i64 qx_66, .int .i64 qx_67, .int .i64 qx_68, .int .i64 qx_69, .sl 3 qs_70.1 qs_70.2.1 qs_70.2.2, .int .i64 qx_71, .int .i64 qx_72, .int .i64 qx_73, .sl 1 qs_74.1 qs_74.2.1 qs_74.2.2, .sl 1 qs_75.1 qs_75.2.1 qs_75.2.2], .agg [.int .i64 qx_77, .int .i64 qx_78, .int .i64 qx_79, .int .u8 qx_80, .int .i64 qx_81, .int .i64 qx_82, .int .i64 qx_83, .int .i64 qx_84]], qr_60.2)) else none) else none else (C hodmanref17_wrong.id [.agg [.int .i64 m82_0, .int .i64 m82_1, .int .i64 m82_2, .int .i64 m82_3, .int .i64 m82_4, .int .i64 m82_5, .int .i64 m82_6, .int .i64 m82_7, .sl 3 m82_8i m82_8o m82_8n, .int .i64 m82_9, .int .i64 m82_10, .int .i64 m82_11, .sl 1 m82_12i m82_12o m82_12n, .sl 1 m82_13i m82_13o m82_13n], .c (.int .i64 2)] G).bind fun qr_85 => ((qr_85.1[0]?).bind V1.a?).bind fun qcs_86 => if qcs_86.length = 14 then (((qcs_86[0]?).bind (Cell.asI .i64)).bind fun qx_87 => ((qcs_86[1]?).bind (Cell.asI .i64)).bind fun qx_88 => ((qcs_86[2]?).bind (Cell.asI .i64)).bind fun qx_89 => ((qcs_86[3]?).bind (Cell.asI .i64)).bind fun qx_90 => ((qcs_86[4]?).bind (Cell.asI .i64)).bind fun qx_91 => ((qcs_86[5]?).bind (Cell.asI .i64)).bind fun qx_92 => ((qcs_86[6]?).bind (Cell.asI .i64)).bind fun qx_93 => ((qcs_86[7]?).bind (Cell.asI .i64)).bind fun qx_94 => ((qcs_86[8]?).bind (Cell.asS 3)).bind fun qs_95 => ((qcs_86[9]?).bind (Cell.asI .i64)).bind fun qx_96 => ((qcs_86[10]?).bind (Cell.asI .i64)).bind fun qx_97 => ((qcs_86[11]?).bind (Cell.asI .i64)).bind fun qx_98 => ((qcs_86[12]?).bind (Cell.asS 1)).bind fun qs_99 => ((qcs_86[13]?).bind (Cell.asS 1)).bind fun qs_100 => ((qr_85.1[1]?).bind V1.a?).bind fun qcs_101 => if qcs_101.length = 8 then (((qcs_101[0]?).bind (Cell.asI .i64)).bind fun qx_102 => ((qcs_101[1]?).bind (Cell.asI .i64)).bind fun qx_103 => ((qcs_101[2]?).bind (Cell.asI .i64)).bind fun qx_104 => ((qcs_101[3]?).bind (Cell.asI .u8)).bind fun qx_105 => ((qcs_101[4]?).bind (Cell.asI .i64)).bind fun qx_106 => ((qcs_101[5]?).bind (Cell.asI .i64)).bind fun qx_107 => ((qcs_101[6]?).bind (Cell.asI .i64)).bind fun qx_108 => ((qcs_101[7]?).bind (Cell.asI .i64)).bind fun qx_109 => some ([.agg [.int .i64 qx_87, .int .i64 qx_88, .int .i64 qx_89, .int .i64 qx_90, .int .i64 qx_91, .int .i64 qx_92, .int .i64 qx_93, .int .i64 qx_94, .sl 3 qs_95.1 qs_95.2.1 qs_95.2.2, .int .i64 qx_96, .int .i64 qx_97, .int .i64 qx_98, .sl 1 qs_99.1 qs_99.2.1 qs_99.2.2, .sl 1 qs_100.1 qs_100.2.1 qs_100.2.2], .agg [.int .i64 qx_102, .int .i64 qx_103, .int .i64 qx_104, .int .u8 qx_105, .int .i64 qx_106, .int .i64 qx_107, .int .i64 qx_108, .int .i64 qx_109]], qr_85.2)) else none) else none) := (M.hj _ _ _).trans (by kernel_rfl)
def hodmanref17_Do.f (M : Mach) (C : Call) (m0_0 : Int) (m0_1 : Int) (m0_2 : Int) (m0_3 : Int) (m0_4 : Int) (m0_5 : Int) (m0_6 : Int) (m0_7 : Int) (m0_8i : Nat) (m0_8o : Nat) (m0_8n : Nat) (m0_9 : Int) (m0_10 : Int) (m0_11 : Int) (m0_12i : Nat) (m0_12o : Nat) (m0_12n : Nat) (m0_13i : Nat) (m0_13o : Nat) (m0_13n : Nat) (o1_0 : Int) (o1_1 : Int) (o1_2 : Int) (o1_3 : Int) (o1_4 : Int) (o1_5 : Int) (G : GH) : Option Res := bif decide (o1_0 = 1) then hodmanref17_Do.J63 M C o1_0 (decide (o1_0 = 1)) m0_0 m0_1 m0_2 m0_3 m0_4 m0_5 m0_6 m0_7 m0_8i m0_8o m0_8n m0_9 m0_10 m0_11 m0_12i m0_12o m0_12n m0_13i m0_13o m0_13n o1_0 o1_1 o1_2 o1_3 o1_4 o1_5 0 0 0 0 0 0 0 0 0 0 0 0 0 0 0 0 0 0 0 0 0 0 0 0 0 0 0 0 G else bif decide (o1_0 = 3) then hodmanref17_Do.J63 M C o1_0 (decide (o1_0 = 3)) m0_0 m0_1 m0_2 m0_3 m0_4 m0_5 m0_6 m0_7 m0_8i m0_8o m0_8n m0_9 m0_10 m0_11 m0_12i m0_12o m0_12n m0_13i m0_13o m0_13n o1_0 o1_1 o1_2 o1_3 o1_4 o1_5 0 0 0 0 0 0 0 0 0 0 0 0 0 0 0 0 0 0 0 0 0 0 0 0 0 0 0 0 G else hodmanref17_Do.J63 M C o1_0 (decide (o1_0 = 2)) m0_0 m0_1 m0_2 m0_3 m0_4 m0_5 m0_6 m0_7 m0_8i m0_8o m0_8n m0_9 m0_10 m0_11 m0_12i m0_12o m0_12n m0_13i m0_13o m0_13n o1_0 o1_1 o1_2 o1_3 o1_4 o1_5 0 0 0 0 0 0 0 0 0 0 0 0 0 0 0 0 0 0 0 0 0 0 0 0 0 0 0 0 G
theorem hodmanref17_Do.eq (M : Mach) (C : Call) (m0_0 : Int) (m0_1 : Int) (m0_2 : Int) (m0_3 : Int) (m0_4 : Int) (m0_5 : Int) (m0_6 : Int) (m0_7 : Int) (m0_8i : Nat) (m0_8o : Nat) (m0_8n : Nat) (m0_9 : Int) (m0_10 : Int) (m0_11 : Int) (m0_12i : Nat) (m0_12o : Nat) (m0_12n : Nat) (m0_13i : Nat) (m0_13o : Nat) (m0_13n : Nat) (o1_0 : Int) (o1_1 : Int) (o1_2 : Int) (o1_3 : Int) (o1_4 : Int) (o1_5 : Int) (G : GH) : runF M C hodmanref17_Do.d [.agg [.int .i64 m0_0, .int .i64 m0_1, .int .i64 m0_2, .int .i64 m0_3, .int .i64 m0_4, .int .i64 m0_5, .int .i64 m0_6, .int .i64 m0_7, .sl 3 m0_8i m0_8o m0_8n, .int .i64 m0_9, .int .i64 m0_10, .int .i64 m0_11, .sl 1 m0_12i m0_12o m0_12n, .sl 1 m0_13i m0_13o m0_13n], .agg [.int .i64 o1_0, .int .i64 o1_1, .int .i64 o1_2, .int .i64 o1_3, .int .i64 o1_4, .int .u8 o1_5]] G = hodmanref17_Do.f M C m0_0 m0_1 m0_2 m0_3 m0_4 m0_5 m0_6 m0_7 m0_8i m0_8o m0_8n m0_9 m0_10 m0_11 m0_12i m0_12o m0_12n m0_13i m0_13o m0_13n o1_0 o1_1 o1_2 o1_3 o1_4 o1_5 G := by kernel_rfl

/- 38 hodman/hodmanref17.give -/
def hodmanref17_give.c37 : DCode := (.seq (.region [⟨0, some 85, .ldL 10 92 (.agg [.int .i64, .int .i64, .int .i64, .int .i64, .int .i64, .int .i64, .int .i64, .int .i64, .sl 3, .int .i64, .int .i64, .int .i64, .sl 1, .sl 1]), none⟩,
    ⟨1, some 86, .move (.t 11), none⟩,
    ⟨2, some 87, .build [.int .i64 0, .int .i64 0, .int .i64 0, .int .u8 0, .int .i64 0, .int .i64 0, .int .i64 0, .int .i64 0] [(1, 1, .t 86)], none⟩,
    ⟨3, none, .stL 4 90 (.t 85) 14, none⟩,
    ⟨4, none, .stL 5 91 (.t 87) 8, none⟩]) .ret)
def hodmanref17_give.c41 : DCode := (.seq (.seq (.region [⟨0, some 49, .move (.t 9), none⟩,
    ⟨1, some 50, .cmp .neq .i64 (.t 49) (.k (.c (.int .i64 0))), none⟩]) (.cond (.t 50) (.seq (.region [⟨0, some 51, .ldL 2 88 (.agg [.int .i64, .int .i64, .int .i64, .int .i64, .int .i64, .int .i64, .int .i64, .int .i64, .sl 3, .int .i64, .int .i64, .int .i64, .sl 1, .sl 1]), none⟩,
    ⟨1, some 52, .move (.t 9), none⟩,
    ⟨2, some 53, .call 42 [.t 51, .t 52] [.agg [.int .i64, .int .i64, .int .i64, .int .i64, .int .i64, .int .i64, .int .i64, .int .i64, .sl 3, .int .i64, .int .i64, .int .i64, .sl 1, .sl 1], .agg [.int .i64, .int .i64, .int .i64, .int .u8, .int .i64, .int .i64, .int .i64, .int .i64]], none⟩,
    ⟨3, some 54, .ext 53 0, none⟩,
    ⟨4, some 55, .ext 53 1, none⟩,
    ⟨5, none, .stL 4 90 (.t 54) 14, none⟩,
    ⟨6, none, .stL 5 91 (.t 55) 8, none⟩]) .ret) .skip)) (.seq (.region [⟨0, some 57, .ldL 2 88 (.agg [.int .i64, .int .i64, .int .i64, .int .i64, .int .i64, .int .i64, .int .i64, .int .i64, .sl 3, .int .i64, .int .i64, .int .i64, .sl 1, .sl 1]), none⟩,
    ⟨1, some 58, .faddr 2 8, none⟩,
    ⟨2, some 59, .ldL 58 88 (.c (.sl 3)), none⟩,
    ⟨3, some 60, .move (.t 8), none⟩,
    ⟨4, some 61, .move (.t 7), none⟩,
    ⟨5, some 62, .call 58 [.t 57, .t 59, .t 60, .t 61] [.agg [.int .i64, .int .i64, .int .i64, .int .i64, .int .i64, .int .i64, .int .i64, .int .i64, .sl 3, .int .i64, .int .i64, .int .i64, .sl 1, .sl 1], .c (.int .i64), .c (.int .i64)], none⟩,
    ⟨6, some 56, .move (.t 62), none⟩,
    ⟨7, some 63, .ext 56 0, none⟩,
    ⟨8, some 64, .ext 56 1, none⟩,
    ⟨9, some 65, .ext 56 2, none⟩,
    ⟨10, some 10, .boxz 92 [77, 84] [.int .i64 0, .int .i64 0, .int .i64 0, .int .i64 0, .int .i64 0, .int .i64 0, .int .i64 0, .int .i64 0, .sl 3 0 0 0, .int .i64 0, .int .i64 0, .int .i64 0, .sl 1 0 0 0, .sl 1 0 0 0], none⟩,
    ⟨11, none, .stL 10 92 (.t 63) 14, none⟩,
    ⟨12, some 11, .move (.t 64), none⟩,
    ⟨13, some 9, .move (.t 65), none⟩]) (.seq (.seq (.region [⟨0, some 66, .move (.t 9), none⟩,
    ⟨1, some 67, .cmp .neq .i64 (.t 66) (.k (.c (.int .i64 0))), none⟩]) (.cond (.t 67) (.seq (.region [⟨0, some 68, .ldL 2 88 (.agg [.int .i64, .int .i64, .int .i64, .int .i64, .int .i64, .int .i64, .int .i64, .int .i64, .sl 3, .int .i64, .int .i64, .int .i64, .sl 1, .sl 1]), none⟩,
    ⟨1, some 69, .move (.t 9), none⟩,
    ⟨2, some 70, .call 42 [.t 68, .t 69] [.agg [.int .i64, .int .i64, .int .i64, .int .i64, .int .i64, .int .i64, .int .i64, .int .i64, .sl 3, .int .i64, .int .i64, .int .i64, .sl 1, .sl 1], .agg [.int .i64, .int .i64, .int .i64, .int .u8, .int .i64, .int .i64, .int .i64, .int .i64]], none⟩,
    ⟨3, some 71, .ext 70 0, none⟩,
    ⟨4, some 72, .ext 70 1, none⟩,
    ⟨5, none, .stL 4 90 (.t 71) 14, none⟩,
    ⟨6, none, .stL 5 91 (.t 72) 8, none⟩]) .ret) .skip)) (.seq (.seq (.region [⟨0, some 73, .faddr 3 0, none⟩,
    ⟨1, some 74, .ldL 73 89 (.c (.int .i64)), none⟩,
    ⟨2, some 75, .cmp .eql .i64 (.t 74) (.k (.c (.int .i64 2))), none⟩]) (.cond (.t 75) (.region [⟨0, some 77, .faddr 10 13, none⟩,
    ⟨1, some 78, .ldL 77 92 (.c (.sl 1)), none⟩,
    ⟨2, some 79, .move (.t 11), none⟩,
    ⟨3, some 80, .move (.t 8), none⟩,
    ⟨4, some 81, .call 59 [.t 78, .t 79, .t 80] [.c (.sl 1), .c (.bool)], none⟩,
    ⟨5, some 76, .move (.t 81), none⟩,
    ⟨6, some 82, .ext 76 0, none⟩,
    ⟨7, some 83, .ext 76 1, none⟩,
    ⟨8, some 84, .faddr 10 13, none⟩,
    ⟨9, none, .stL 84 92 (.t 82) 1, none⟩]) .skip)) (.cut [4, 5, 10, 11, 90, 91, 92] hodmanref17_give.c37)))))
def hodmanref17_give.c43 : DCode := (.seq (.region [⟨0, some 20, .faddr 2 0, none⟩,
    ⟨1, some 21, .ldL 20 88 (.agg [.int .i64, .int .i64, .int .i64, .int .i64, .int .i64, .int .i64, .int .i64, .int .i64]), none⟩,
    ⟨2, some 22, .faddr 2 9, none⟩,
    ⟨3, some 23, .ldL 22 88 (.c (.int .i64)), none⟩,
    ⟨4, some 24, .move (.t 7), none⟩,
    ⟨5, some 25, .move (.t 6), none⟩,
    ⟨6, some 26, .call 56 [.t 21, .t 23, .t 24, .t 25] [.c (.int .i64), .c (.int .i64)], none⟩,
    ⟨7, some 19, .move (.t 26), none⟩,
    ⟨8, some 27, .ext 19 0, none⟩,
    ⟨9, some 28, .ext 19 1, none⟩,
    ⟨10, some 8, .move (.t 27), none⟩,
    ⟨11, some 9, .move (.t 28), none⟩]) (.seq (.seq (.region [⟨0, some 29, .faddr 3 0, none⟩,
    ⟨1, some 30, .ldL 29 89 (.c (.int .i64)), none⟩,
    ⟨2, some 31, .cmp .eql .i64 (.t 30) (.k (.c (.int .i64 2))), none⟩]) (.cond (.t 31) (.seq (.region [⟨0, some 33, .faddr 2 0, none⟩,
    ⟨1, some 34, .ldL 33 88 (.agg [.int .i64, .int .i64, .int .i64, .int .i64, .int .i64, .int .i64, .int .i64, .int .i64]), none⟩,
    ⟨2, some 35, .faddr 2 9, none⟩,
    ⟨3, some 36, .ldL 35 88 (.c (.int .i64)), none⟩,
    ⟨4, some 37, .faddr 3 4, none⟩,
    ⟨5, some 38, .ldL 37 89 (.c (.int .i64)), none⟩,
    ⟨6, some 39, .faddr 3 2, none⟩,
    ⟨7, some 40, .ldL 39 89 (.c (.int .i64)), none⟩,
    ⟨8, some 41, .call 57 [.t 34, .t 36, .t 38, .t 40] [.c (.int .i64), .c (.int .i64)], none⟩,
    ⟨9, some 32, .move (.t 41), none⟩,
    ⟨10, some 42, .ext 32 0, none⟩,
    ⟨11, some 43, .ext 32 1, none⟩,
    ⟨12, some 8, .move (.t 42), none⟩,
    ⟨13, some 9, .move (.t 43), none⟩]) (.region [⟨0, some 44, .faddr 3 4, none⟩,
    ⟨1, some 45, .ldL 44 89 (.c (.int .i64)), none⟩,
    ⟨2, some 46, .faddr 3 2, none⟩,
    ⟨3, some 47, .ldL 46 89 (.c (.int .i64)), none⟩,
    ⟨4, some 48, .bin .mul .i64 (.t 45) (.t 47), none⟩,
    ⟨5, some 7, .move (.t 48), none⟩])) .skip)) (.cut [2, 3, 4, 5, 7, 8, 9, 88, 89, 90, 91] hodmanref17_give.c41)))
def hodmanref17_give.d : DFn := { ntmps := 93, res := [.box 4 (some 14), .box 5 (some 8)], body := (.seq (.region [⟨0, some 2, .boxv 88 [20, 22, 33, 35, 58] (.t 0) 14, none⟩,
    ⟨1, some 3, .boxv 89 [12, 14, 17, 29, 37, 39, 44, 46, 73] (.t 1) 6, none⟩,
    ⟨2, some 4, .boxz 90 [] [.int .i64 0, .int .i64 0, .int .i64 0, .int .i64 0, .int .i64 0, .int .i64 0, .int .i64 0, .int .i64 0, .sl 3 0 0 0, .int .i64 0, .int .i64 0, .int .i64 0, .sl 1 0 0 0, .sl 1 0 0 0], none⟩,
    ⟨3, some 5, .boxz 91 [] [.int .i64 0, .int .i64 0, .int .i64 0, .int .u8 0, .int .i64 0, .int .i64 0, .int .i64 0, .int .i64 0], none⟩]) (.seq (.region [⟨0, some 12, .faddr 3 2, none⟩,
    ⟨1, some 13, .ldL 12 89 (.c (.int .i64)), none⟩,
    ⟨2, some 6, .move (.k (.c (.int .i64 1))), none⟩,
    ⟨3, some 7, .move (.t 13), none⟩]) (.seq (.seq (.region [⟨0, some 14, .faddr 3 0, none⟩,
    ⟨1, some 15, .ldL 14 89 (.c (.int .i64)), none⟩,
    ⟨2, some 16, .cmp .eql .i64 (.t 15) (.k (.c (.int .i64 3))), none⟩]) (.cond (.t 16) (.region [⟨0, some 17, .faddr 3 3, none⟩,
    ⟨1, some 18, .ldL 17 89 (.c (.int .i64)), none⟩,
    ⟨2, some 6, .move (.t 18), none⟩]) .skip)) (.cut [2, 3, 4, 5, 6, 7, 88, 89, 90, 91] hodmanref17_give.c43)))) }
def hodmanref17_give.J43 (M : Mach) (C : Call) (a6 : Int) (s7 : Int) (m88_0 : Int) (m88_1 : Int) (m88_2 : Int) (m88_3 : Int) (m88_4 : Int) (m88_5 : Int) (m88_6 : Int) (m88_7 : Int) (m88_8i : Nat) (m88_8o : Nat) (m88_8n : Nat) (m88_9 : Int) (m88_10 : Int) (m88_11 : Int) (m88_12i : Nat) (m88_12o : Nat) (m88_12n : Nat) (m88_13i : Nat) (m88_13o : Nat) (m88_13n : Nat) (o89_0 : Int) (o89_1 : Int) (o89_2 : Int) (o89_3 : Int) (o89_4 : Int) (o89_5 : Int) (x90_0 : Int) (x90_1 : Int) (x90_2 : Int) (x90_3 : Int) (x90_4 : Int) (x90_5 : Int) (x90_6 : Int) (x90_7 : Int) (x90_8i : Nat) (x90_8o : Nat) (x90_8n : Nat) (x90_9 : Int) (x90_10 : Int) (x90_11 : Int) (x90_12i : Nat) (x90_12o : Nat) (x90_12n : Nat) (x90_13i : Nat) (x90_13o : Nat) (x90_13n : Nat) (x91_0 : Int) (x91_1 : Int) (x91_2 : Int) (x91_3 : Int) (x91_4 : Int) (x91_5 : Int) (x91_6 : Int) (x91_7 : Int) (G : GH) : Option Res := M.j (execC M.j C (M.ag C) hodmanref17_give.c43 ({ exits := [], ret := retK hodmanref17_give.d } : Env) (retK hodmanref17_give.d)) [.und, .und, .ref 88 0, .ref 89 0, .ref 90 0, .ref 91 0, .v (.c (.int .i64 a6)), .v (.c (.int .i64 s7)), .und, .und, .und, .und, .und, .und, .und, .und, .und, .und, .und, .und, .und, .und, .und, .und, .und, .und, .und, .und, .und, .und, .und, .und, .und, .und, .und, .und, .und, .und, .und, .und, .und, .und, .und, .und, .und, .und, .und, .und, .und, .und, .und, .und, .und, .und, .und, .und, .und, .und, .und, .und, .und, .und, .und, .und, .und, .und, .und, .und, .und, .und, .und, .und, .und, .und, .und, .und, .und, .und, .und, .und, .und, .und, .und, .und, .und, .und, .und, .und, .box [.int .i64 m88_0, .int .i64 m88_1, .int .i64 m88_2, .int .i64 m88_3, .int .i64 m88_4, .int .i64 m88_5, .int .i64 m88_6, .int .i64 m88_7, .sl 3 m88_8i m88_8o m88_8n, .int .i64 m88_9, .int .i64 m88_10, .int .i64 m88_11, .sl 1 m88_12i m88_12o m88_12n, .sl 1 m88_13i m88_13o m88_13n], .box [.int .i64 o89_0, .int .i64 o89_1, .int .i64 o89_2, .int .i64 o89_3, .int .i64 o89_4, .int .u8 o89_5], .box [.int .i64 x90_0, .int .i64 x90_1, .int .i64 x90_2, .int .i64 x90_3, .int .i64 x90_4, .int .i64 x90_5, .int .i64 x90_6, .int .i64 x90_7, .sl 3 x90_8i x90_8o x90_8n, .int .i64 x90_9, .int .i64 x90_10, .int .i64 x90_11, .sl 1 x90_12i x90_12o x90_12n, .sl 1 x90_13i x90_13o x90_13n], .box [.int .i64 x91_0, .int .i64 x91_1, .int .i64 x91_2, .int .u8 x91_3, .int .i64 x91_4, .int .i64 x91_5, .int .i64 x91_6, .int .i64 x91_7], .und] G
def hodmanref17_give.J41 (M : Mach) (C : Call) (s7 : Int) (n8 : Int) (e9 : Int) (m88_0 : Int) (m88_1 : Int) (m88_2 : Int) (m88_3 : Int) (m88_4 : Int) (m88_5 : Int) (m88_6 : Int) (m88_7 : Int) (m88_8i : Nat) (m88_8o : Nat) (m88_8n : Nat) (m88_9 : Int) (m88_10 : Int) (m88_11 : Int) (m88_12i : Nat) (m88_12o : Nat) (m88_12n : Nat) (m88_13i : Nat) (m88_13o : Nat) (m88_13n : Nat) (o89_0 : Int) (o89_1 : Int) (o89_2 : Int) (o89_3 : Int) (o89_4 : Int) (o89_5 : Int) (x90_0 : Int) (x90_1 : Int) (x90_2 : Int) (x90_3 : Int) (x90_4 : Int) (x90_5 : Int) (x90_6 : Int) (x90_7 : Int) (x90_8i : Nat) (x90_8o : Nat) (x90_8n : Nat) (x90_9 : Int) (x90_10 : Int) (x90_11 : Int) (x90_12i : Nat) (x90_12o : Nat) (x90_12n : Nat) (x90_13i : Nat) (x90_13o : Nat) (x90_13n : Nat) (x91_0 : Int) (x91_1 : Int) (x91_2 : Int) (x91_3 : Int) (x91_4 : Int) (x91_5 : Int) (x91_6 : Int) (x91_7 : Int) (G : GH) : Option Res := M.j (execC M.j C (M.ag C) hodmanref17_give.c41 ({ exits := [], ret := retK hodmanref17_give.d } : Env) (retK hodmanref17_give.d)) [.und, .und, .ref 88 0, .ref 89 0, .ref 90 0, .ref 91 0, .und, .v (.c (.int .i64 s7)), .v (.c (.int .i64 n8)), .v (.c (.int .i64 e9)), .und, .und, .und, .und, .und, .und, .und, .und, .und, .und, .und, .und, .und, .und, .und, .und, .und, .und, .und, .und, .und, .und, .und, .und, .und, .und, .und, .und, .und, .und, .und, .und, .und, .und, .und, .und, .und, .und, .und, .und, .und, .und, .und, .und, .und, .und, .und, .und, .und, .und, .und, .und, .und, .und, .und, .und, .und, .und, .und, .und, .und, .und, .und, .und, .und, .und, .und, .und, .und, .und, .und, .und, .und, .und, .und, .und, .und, .und, .box [.int .i64 m88_0, .int .i64 m88_1, .int .i64 m88_2, .int .i64 m88_3, .int .i64 m88_4, .int .i64 m88_5, .int .i64 m88_6, .int .i64 m88_7, .sl 3 m88_8i m88_8o m88_8n, .int .i64 m88_9, .int .i64 m88_10, .int .i64 m88_11, .sl 1 m88_12i m88_12o m88_12n, .sl 1 m88_13i m88_13o m88_13n], .box [.int .i64 o89_0, .int .i64 o89_1, .int .i64 o89_2, .int .i64 o89_3, .int .i64 o89_4, .int .u8 o89_5], .box [.int .i64 x90_0, .int .i64 x90_1, .int .i64 x90_2, .int .i64 x90_3, .int .i64 x90_4, .int .i64 x90_5, .int .i64 x90_6, .int .i64 x90_7, .sl 3 x90_8i x90_8o x90_8n, .int .i64 x90_9, .int .i64 x90_10, .int .i64 x90_11, .sl 1 x90_12i x90_12o x90_12n, .sl 1 x90_13i x90_13o x90_13n], .box [.int .i64 x91_0, .int .i64 x91_1, .int .i64 x91_2, .int .u8 x91_3, .int .i64 x91_4, .int .i64 x91_5, .int .i64 x91_6, .int .i64 x91_7], .und] G
def hodmanref17_give.J37 (M : Mach) (C : Call) (at11 : Int) (x90_0 : Int) (x90_1 : Int) (x90_2 : Int) (x90_3 : Int) (x90_4 : Int) (x90_5 : Int) (x90_6 : Int) (x90_7 : Int) (x90_8i : Nat) (x90_8o : Nat) (x90_8n : Nat) (x90_9 : Int) (x90_10 : Int) (x90_11 : Int) (x90_12i : Nat) (x90_12o : Nat) (x90_12n : Nat) (x90_13i : Nat) (x90_13o : Nat) (x90_13n : Nat) (x91_0 : Int) (x91_1 : Int) (x91_2 : Int) (x91_3 : Int) (x91_4 : Int) (x91_5 : Int) (x91_6 : Int) (x91_7 : Int) (x92_0 : Int) (x92_1 : Int) (x92_2 : Int) (x92_3 : Int) (x92_4 : Int) (x92_5 : Int) (x92_6 : Int) (x92_7 : Int) (x92_8i : Nat) (x92_8o : Nat) (x92_8n : Nat) (x92_9 : Int) (x92_10 : Int) (x92_11 : Int) (x92_12i : Nat) (x92_12o : Nat) (x92_12n : Nat) (x92_13i : Nat) (x92_13o : Nat) (x92_13n : Nat) (G : GH) : Option Res := M.j (execC M.j C (M.ag C) hodmanref17_give.c37 ({ exits := [], ret := retK hodmanref17_give.d } : Env) (retK hodmanref17_give.d)) [.und, .und, .und, .und, .ref 90 0, .ref 91 0, .und, .und, .und, .und, .ref 92 0, .v (.c (.int .i64 at11)), .und, .und, .und, .und, .und, .und, .und, .und, .und, .und, .und, .und, .und, .und, .und, .und, .und, .und, .und, .und, .und, .und, .und, .und, .und, .und, .und, .und, .und, .und, .und, .und, .und, .und, .und, .und, .und, .und, .und, .und, .und, .und, .und, .und, .und, .und, .und, .und, .und, .und, .und, .und, .und, .und, .und, .und, .und, .und, .und, .und, .und, .und, .und, .und, .und, .und, .und, .und, .und, .und, .und, .und, .und, .und, .und, .und, .und, .und, .box [.int .i64 x90_0, .int .i64 x90_1, .int .i64 x90_2, .int .i64 x90_3, .int .i64 x90_4, .int .i64 x90_5, .int .i64 x90_6, .int .i64 x90_7, .sl 3 x90_8i x90_8o x90_8n, .int .i64 x90_9, .int .i64 x90_10, .int .i64 x90_11, .sl 1 x90_12i x90_12o x90_12n, .sl 1 x90_13i x90_13o x90_13n], .box [.int .i64 x91_0, .int .i64 x91_1, .int .i64 x91_2, .int .u8 x91_3, .int .i64 x91_4, .int .i64 x91_5, .int .i64 x91_6, .int .i64 x91_7], .box [.int .i64 x92_0, .int .i64 x92_1, .int .i64 x92_2, .int .i64 x92_3, .int .i64 x92_4, .int .i64 x92_5, .int .i64 x92_6, .int .i64 x92_7, .sl 3 x92_8i x92_8o x92_8n, .int .i64 x92_9, .int .i64 x92_10, .int .i64 x92_11, .sl 1 x92_12i x92_12o x92_12n, .sl 1 x92_13i x92_13o x92_13n]] G
theorem hodmanref17_give.J43_eq (M : Mach) (C : Call) (a6 : Int) (s7 : Int) (m88_0 : Int) (m88_1 : Int) (m88_2 : Int) (m88_3 : Int) (m88_4 : Int) (m88_5 : Int) (m88_6 : Int) (m88_7 : Int) (m88_8i : Nat) (m88_8o : Nat) (m88_8n : Nat) (m88_9 : Int) (m88_10 : Int) (m88_11 : Int) (m88_12i : Nat) (m88_12o : Nat) (m88_12n : Nat) (m88_13i : Nat) (m88_13o : Nat) (m88_13n : Nat) (o89_0 : Int) (o89_1 : Int) (o89_2 : Int) (o89_3 : Int) (o89_4 : Int) (o89_5 : Int) (x90_0 : Int) (x90_1 : Int) (x90_2 : Int) (x90_3 : Int) (x90_4 : Int) (x90_5 : Int) (x90_6 : Int) (x90_7 : Int) (x90_8i : Nat) (x90_8o : Nat) (x90_8n : Nat) (x90_9 : Int) (x90_10 : Int) (x90_11 : Int) (x90_12i : Nat) (x90_12o : Nat) (x90_12n : Nat) (x90_13i : Nat) (x90_13o : Nat) (x90_13n : Nat) (x91_0 : Int) (x91_1 : Int) (x91_2 : Int) (x91_3 : Int) (x91_4 : Int) (x91_5 : Int) (x91_6 : Int) (x91_7 : Int) (G : GH) : hodmanref17_give.J43 M C a6 s7 m88_0 m88_1 m88_2 m88_3 m88_4 m88_5 m88_6 m88_7 m88_8i m88_8o m88_8n m88_9 m88_10 m88_11 m88_12i m88_12o m88_12n m88_13i m88_13o m88_13n o89_0 o89_1 o89_2 o89_3 o89_4 o89_5 x90_0 x90_1 x90_2 x90_3 x90_4 x90_5 x90_6 x90_7 x90_8i x90_8o x90_8n x90_9 x90_10 x90_11 x90_12i x90_12o x90_12n x90_13i x90_13o x90_13n x91_0 x91_1 x91_2 x91_3 x91_4 x91_5 x91_6 x91_7 G = ((C hodmanref1_New.id [.agg [.int .i64 m88_0, .int .i64 m88_1, .int .i64 m88_2, .int .i64 m88_3, .int .i64 m88_4, .int .i64 m88_5, .int .i64 m88_6, .int .i64 m88_7], .c (.int .i64 m88_9), .c (.int .i64 s7), .c (.int .i64 a6)] G).bind fun qr_1 => (((qr_1.1[0]?).bind V1.c?).bind (Cell.asI .i64)).bind fun qx_2 => (((qr_1.1[1]?).bind V1.c?).bind (Cell.asI .i64)).bind fun qx_3 => bif decide (o89_0 = 2) then (C hodmanref1_Many.id [.agg [.int .i64 m88_0, .int .i64 m88_1, .int .i64 m88_2, .int .i64 m88_3, .int .i64 m88_4, .int .i64 m88_5, .int .i64 m88_6, .int .i64 m88_7], .c (.int .i64 m88_9), .c (.int .i64 o89_4), .c (.int .i64 o89_2)] qr_1.2).bind fun qr_4 => (((qr_4.1[0]?).bind V1.c?).bind (Cell.asI .i64)).bind fun qx_5 => (((qr_4.1[1]?).bind V1.c?).bind (Cell.asI .i64)).bind fun qx_6 => hodmanref17_give.J41 M C (IntKind.i64.wrap (o89_4 * o89_2)) qx_5 qx_6 m88_0 m88_1 m88_2 m88_3 m88_4 m88_5 m88_6 m88_7 m88_8i m88_8o m88_8n m88_9 m88_10 m88_11 m88_12i m88_12o m88_12n m88_13i m88_13o m88_13n o89_0 o89_1 o89_2 o89_3 o89_4 o89_5 x90_0 x90_1 x90_2 x90_3 x90_4 x90_5 x90_6 x90_7 x90_8i x90_8o x90_8n x90_9 x90_10 x90_11 x90_12i x90_12o x90_12n x90_13i x90_13o x90_13n x91_0 x91_1 x91_2 x91_3 x91_4 x91_5 x91_6 x91_7 qr_4.2 else hodmanref17_give.J41 M C s7 qx_2 qx_3 m88_0 m88_1 m88_2 m88_3 m88_4 m88_5 m88_6 m88_7 m88_8i m88_8o m88_8n m88_9 m88_10 m88_11 m88_12i m88_12o m88_12n m88_13i m88_13o m88_13n o89_0 o89_1 o89_2 o89_3 o89_4 o89_5 x90_0 x90_1 x90_2 x90_3 x90_4 x90_5 x90_6 x90_7 x90_8i x90_8o x90_8n x90_9 x90_10 x90_11 x90_12i x90_12o x90_12n x90_13i x90_13o x90_13n x91_0 x91_1 x91_2 x91_3 x91_4 x91_5 x91_6 x91_7 qr_1.2) := (M.hj _ _ _).trans (by kernel_rfl)
theorem hodmanref17_give.J41_eq (M : Mach) (C : Call) (s7 : Int) (n8 : Int) (e9 : Int) (m88_0 : Int) (m88_1 : Int) (m88_2 : Int) (m88_3 : Int) (m88_4 : Int) (m88_5 : Int) (m88_6 : Int) (m88_7 : Int) (m88_8i : Nat) (m88_8o : Nat) (m88_8n : Nat) (m88_9 : Int) (m88_10 : Int) (m88_11 : Int) (m88_12i : Nat) (m88_12o : Nat) (m88_12n : Nat) (m88_13i : Nat) (m88_13o : Nat) (m88_13n : Nat) (o89_0 : Int) (o89_1 : Int) (o89_2 : Int) (o89_3 : Int) (o89_4 : Int) (o89_5 : Int) (x90_0 : Int) (x90_1 : Int) (x90_2 : Int) (x90_3 : Int) (x90_4 : Int) (x90_5 : Int) (x90_6 : Int) (x90_7 : Int) (x90_8i : Nat) (x90_8o : Nat) (x90_8n : Nat) (x90_9 : Int) (x90_10 : Int) (x90_11 : Int) (x90_12i : Nat) (x90_12o : Nat) (x90_12n : Nat) (x90_13i : Nat) (x90_13o : Nat) (x90_13n : Nat) (x91_0 : Int) (x91_1 : Int) (x91_2 : Int) (x91_3 : Int) (x91_4 : Int) (x91_5 : Int) (x91_6 : Int) (x91_7 : Int) (G : GH) : hodmanref17_give.J41 M C s7 n8 e9 m88_0 m88_1 m88_2 m88_3 m88_4 m88_5 m88_6 m88_7 m88_8i m88_8o m88_8n m88_9 m88_10 m88_11 m88_12i m88_12o m88_12n m88_13i m88_13o m88_13n o89_0 o89_1 o89_2 o89_3 o89_4 o89_5 x90_0 x90_1 x90_2 x90_3 x90_4 x90_5 x90_6 x90_7 x90_8i x90_8o x90_8n x90_9 x90_10 x90_11 x90_12i x90_12o x90_12n x90_13i x90_13o x90_13n x91_0 x91_1 x91_2 x91_3 x91_4 x91_5 x91_6 x91_7 G = (bif (!decide (e9 = 0)) then (C hodmanref17_wrong.id [.agg [.int .i64 m88_0, .int .i64 m88_1, .int .i64 m88_2, .int .i64 m88_3, .int .i64 m88_4, .int .i64 m88_5, .int .i64 m88_6, .int .i64 m88_7, .sl 3 m88_8i m88_8o m88_8n, .int .i64 m88_9, .int .i64 m88_10, .int .i64 m88_11, .sl 1 m88_12i m88_12o m88_12n, .sl 1 m88_13i m88_13o m88_13n], .c (.int .i64 e9)] G).bind fun qr_7 => ((qr_7.1[0]?).bind V1.a?).bind fun qcs_8 => if qcs_8.length = 14 then (((qcs_8[0]?).bind (Cell.asI .i64)).bind fun qx_9 => ((qcs_8[1]?).bind (Cell.asI .i64)).bind fun qx_10 => ((qcs_8[2]?).bind (Cell.asI .i64)).bind fun qx_11 => ((qcs_8[3]?).bind (Cell.asI .i64)).bind fun qx_12 => ((qcs_8[4]?).bind (Cell.asI .i64)).bind fun qx_13 => ((qcs_8[5]?).bind (Cell.asI .i64)).bind fun qx_14 => ((qcs_8[6]?).bind (Cell.asI .i64)).bind fun qx_15 => ((qcs_8[7]?).bind (Cell.asI .i64)).bind fun qx_16 => ((qcs_8[8]?).bind (Cell.asS 3)).bind fun qs_17 => ((qcs_8[9]?).bind (Cell.asI .i64)).bind fun qx_18 => ((qcs_8[10]?).bind (Cell.asI .i64)).bind fun qx_19 => ((qcs_8[11]?).bind (Cell.asI .i64)).bind fun qx_20 => ((qcs_8[12]?).bind (Cell.asS 1)).bind fun qs_21 => ((qcs_8[13]?).bind (Cell.asS 1)).bind fun qs_22 => ((qr_7.1[1]?).bind V1.a?).bind fun qcs_23 => if qcs_23.length = 8 then (((qcs_23[0]?).bind (Cell.asI .i64)).bind fun qx_24 => ((qcs_23[1]?).bind (Cell.asI .i64)).bind fun qx_25 => ((qcs_23[2]?).bind (Cell.asI .i64)).bind fun qx_26 => ((qcs_23[3]?).bind (Cell.asI .u8)).bind fun qx_27 => ((qcs_23[4]?).bind (Cell.asI .i64)).bind fun qx_28 => ((qcs_23[5]?).bind (Cell.asI .i64)).bind fun qx_29 => ((qcs_23[6]?).bind (Cell.asI .i64)).bind fun qx_30 => ((qcs_23[7]?).bind (Cell.asI .i64)).bind fun qx_31 => some ([.agg [.int .i64 qx_9, .int .i64 qx_10, .int .i64 qx_11, .int .i64 qx_12, .int .i64 qx_13, .int .i64 qx_14, .int .i64 qx_15, .int .i64 qx_16, .sl 3 qs_17.1 qs_17.2.1 qs_17.2.2, .int .i64 qx_18, .int .i64 qx_19, .int .i64 qx_20, .sl 1 qs_21.1 qs_21.2.1 qs_21.2.2, .sl 1 qs_22.1 qs_22.2.1 qs_22.2.2], .agg [.int .i64 qx_24, .int .i64 qx_25, .int .i64 qx_26, .int .u8 qx_27, .int .i64 qx_28, .int .i64 qx_29, .int .i64 qx_30, .int .i64 qx_31]], qr_7.2)) else none) else none else (C hodmanref17_place.id [.agg [.int .i64 m88_0, .int .i64 m88_1, .int .i64 m88_2, .int .i64 m88_3, .int .i64 m88_4, .int .i64 m88_5, .int .i64 m88_6, .int .i64 m88_7, .sl 3 m88_8i m88_8o m88_8n, .int .i64 m88_9, .int .i64 m88_10, .int .i64 m88_11, .sl 1 m88_12i m88_12o m88_12n, .sl 1 m88_13i m88_13o m88_13n], .c (.sl 3 m88_8i m88_8o m88_8n), .c (.int .i64 n8), .c (.int .i64 s7)] G).bind fun qr_32 => ((qr_32.1[0]?).bind V1.a?).bind fun qcs_33 => if qcs_33.length = 14 then (((qcs_33[0]?).bind (Cell.asI .i64)).bind fun qx_34 => ((qcs_33[1]?).bind (Cell.asI .i64)).bind fun qx_35 => ((qcs_33[2]?).bind (Cell.asI .i64)).bind fun qx_36 => ((qcs_33[3]?).bind (Cell.asI .i64)).bind fun qx_37 => ((qcs_33[4]?).bind (Cell.asI .i64)).bind fun qx_38 => ((qcs_33[5]?).bind (Cell.asI .i64)).bind fun qx_39 => ((qcs_33[6]?).bind (Cell.asI .i64)).bind fun qx_40 => ((qcs_33[7]?).bind (Cell.asI .i64)).bind fun qx_41 => ((qcs_33[8]?).bind (Cell.asS 3)).bind fun qs_42 => ((qcs_33[9]?).bind (Cell.asI .i64)).bind fun qx_43 => ((qcs_33[10]?).bind (Cell.asI .i64)).bind fun qx_44 => ((qcs_33[11]?).bind (Cell.asI .i64)).bind fun qx_45 => ((qcs_33[12]?).bind (Cell.asS 1)).bind fun qs_46 => ((qcs_33[13]?).bind (Cell.asS 1)).bind fun qs_47 => (((qr_32.1[1]?).bind V1.c?).bind (Cell.asI .i64)).bind fun qx_48 => (((qr_32.1[2]?).bind V1.c?).bind (Cell.asI .i64)).bind fun qx_49 => bif (!decide (qx_49 = 0)) then (C hodmanref17_wrong.id [.agg [.int .i64 m88_0, .int .i64 m88_1, .int .i64 m88_2, .int .i64 m88_3, .int .i64 m88_4, .int .i64 m88_5, .int .i64 m88_6, .int .i64 m88_7, .sl 3 m88_8i m88_8o m88_8n, .int .i64 m88_9, .int .i64 m88_10, .int .i64 m88_11, .sl 1 m88_12i m88_12o m88_12n, .sl 1 m88_13i m88_13o m88_13n], .c (.int .i64 qx_49)] qr_32.2).bind fun qr_50 => ((qr_50.1[0]?).bind V1.a?).bind fun qcs_51 => if qcs_51.length = 14 then (((qcs_51[0]?).bind (Cell.asI .i64)).bind fun qx_52 => ((qcs_51[1]?).bind (Cell.asI .i64)).bind fun qx_53 => ((qcs_51[2]?).bind (Cell.asI .i64)).bind fun qx_54 => ((qcs_51[3]?).bind (Cell.asI .i64)).bind fun qx_55 => ((qcs_51[4]?).bind (Cell.asI .i64)).bind fun qx_56 => ((qcs_51[5]?).bind (Cell.asI .i64)).bind fun qx_57 => ((qcs_51[6]?).bind (Cell.asI .i64)).bind fun qx_58 => ((qcs_51[7]?).bind (Cell.asI .i64)).bind fun qx_59 => ((qcs_51[8]?).bind (Cell.asS 3)).bind fun qs_60 => ((qcs_51[9]?).bind (Cell.asI .i64)).bind fun qx_61 => ((qcs_51[10]?).bind (Cell.asI .i64)).bind fun qx_62 => ((qcs_51[11]?).bind (Cell.asI .i64)).bind fun qx_63 => ((qcs_51[12]?).bind (Cell.asS 1)).bind fun qs_64 => ((qcs_51[13]?).bind (Cell.asS 1)).bind fun qs_65 => ((qr_50.1[1]?).bind V1.a?).bind fun qcs_66 => if qcs_66.length = 8 then (((qcs_66[0]?).bind (Cell.asI .i64)).bind fun qx_67 => ((qcs_66[1]?).bind (Cell.asI .i64)).bind fun qx_68 => ((qcs_66[2]?).bind (Cell.asI .i64)).bind fun qx_69 => ((qcs_66[3]?).bind (Cell.asI .u8)).bind fun qx_70 => ((qcs_66[4]?).bind (Cell.asI .i64)).bind fun qx_71 => ((qcs_66[5]?).bind (Cell.asI .i64)).bind fun qx_72 => ((qcs_66[6]?).bind (Cell.asI .i64)).bind fun qx_73 => ((qcs_66[7]?).bind (Cell.asI .i64)).bind fun qx_74 => some ([.agg [.int .i64 qx_52, .int .i64 qx_53, .int .i64 qx_54, .int .i64 qx_55, .int .i64 qx_56, .int .i64 qx_57, .int .i64 qx_58, .int .i64 qx_59, .sl 3 qs_60.1 qs_60.2.1 qs_60.2.2, .int .i64 qx_61, .int .i64 qx_62, .int .i64 qx_63, .sl 1 qs_64.1 qs_64.2.1 qs_64.2.2, .sl 1 qs_65.1 qs_65.2.1 qs_65.2.2], .agg [.int .i64 qx_67, .int .i64 qx_68, .int .i64 qx_69, .int .u8 qx_70, .int .i64 qx_71, .int .i64 qx_72, .int .i64 qx_73, .int .i64 qx_74]], qr_50.2)) else none) else none else bif decide (o89_0 = 2) then (C hodmanref8_Zero.id [.c (.sl 1 qs_47.1 qs_47.2.1 qs_47.2.2), .c (.int .i64 qx_48), .c (.int .i64 n8)] qr_32.2).bind fun qr_75 => (((qr_75.1[0]?).bind V1.c?).bind (Cell.asS 1)).bind fun qs_76 => (((qr_75.1[1]?).bind V1.c?).bind Cell.asB).bind fun qb_77 => hodmanref17_give.J37 M C qx_48 x90_0 x90_1 x90_2 x90_3 x90_4 x90_5 x90_6 x90_7 x90_8i x90_8o x90_8n x90_9 x90_10 x90_11 x90_12i x90_12o x90_12n x90_13i x90_13o x90_13n x91_0 x91_1 x91_2 x91_3 x91_4 x91_5 x91_6 x91_7 qx_34 qx_35 qx_36 qx_37 qx_38 qx_39 qx_40 qx_41 qs_42.1 qs_42.2.1 qs_42.2.2 qx_43 qx_44 qx_45 qs_46.1 qs_46.2.1 qs_46.2.2 qs_76.1 qs_76.2.1 qs_76.2.2 qr_75.2 else hodmanref17_give.J37 M C qx_48 x90_0 x90_1 x90_2 x90_3 x90_4 x90_5 x90_6 x90_7 x90_8i x90_8o x90_8n x90_9 x90_10 x90_11 x90_12i x90_12o x90_12n x90_13i x90_13o x90_13n x91_0 x91_1 x91_2 x91_3 x91_4 x91_5 x91_6 x91_7 qx_34 qx_35 qx_36 qx_37 qx_38 qx_39 qx_40 qx_41 qs_42.1 qs_42.2.1 qs_42.2.2 qx_43 qx_44 qx_45 qs_46.1 qs_46.2.1 qs_46.2.2 qs_47.1 qs_47.2.1 qs_47.2.2 qr_32.2) else none) := (M.hj _ _ _).trans (by kernel_rfl)
theorem hodmanref17_give.J37_eq (M : Mach) (C : Call) (at11 : Int) (x90_0 : Int) (x90_1 : Int) (x90_2 : Int) (x90_3 : Int) (x90_4 : Int) (x90_5 : Int) (x90_6 : Int) (x90_7 : Int) (x90_8i : Nat) (x90_8o : Nat) (x90_8n : Nat) (x90_9 : Int) (x90_10 : Int) (x90_11 : Int) (x90_12i : Nat) (x90_12o : Nat) (x90_12n : Nat) (x90_13i : Nat) (x90_13o : Nat) (x90_13n : Nat) (x91_0 : Int) (x91_1 : Int) (x91_2 : Int) (x91_3 : Int) (x91_4 : Int) (x91_5 : Int) (x91_6 : Int) (x91_7 : Int) (x92_0 : Int) (x92_1 : Int) (x92_2 : Int) (x92_3 : Int) (x92_4 : Int) (x92_5 : Int) (x92_6 : Int) (x92_7 : Int) (x92_8i : Nat) (x92_8o : Nat) (x92_8n : Nat) (x92_9 : Int) (x92_10 : Int) (x92_11 : Int) (x92_12i : Nat) (x92_12o : Nat) (x92_12n : Nat) (x92_13i : Nat) (x92_13o : Nat) (x92_13n : Nat) (G : GH) : hodmanref17_give.J37 M C at11 x90_0 x90_1 x90_2 x90_3 x90_4 x90_5 x90_6 x90_7 x90_8i x90_8o x90_8n x90_9 x90_10 x90_11 x90_12i x90_12o x90_12n x90_13i x90_13o x90_13n x91_0 x91_1 x91_2 x91_3 x91_4 x91_5 x91_6 x91_7 x92_0 x92_1 x92_2 x92_3 x92_4 x92_5 x92_6 x92_7 x92_8i x92_8o x92_8n x92_9 x92_10 x92_11 x92_12i x92_12o x92_12n x92_13i x92_13o x92_13n G = (some ([.agg [.int .i64 x92_0, .int .i64 x92_1, .int .i64 x92_2, .int .i64 x92_3, .int .i64 x92_4, .int .i64 x92_5, .int .i64 x92_6, .int .i64 x92_7, .sl 3 x92_8i x92_8o x92_8n, .int .i64 x92_9, .int .i64 x92_10, .int .i64 x92_11, .sl 1 x92_12i x92_12o x92_12n, .sl 1 x92_13i x92_13o x92_13n], .agg [.int .i64 0, .int .i64 at11, .int .i64 0, .int .u8 0, .int .i64 0, .int .i64 0, .int .i64 0, .int .i64 0]], G)) := (M.hj _ _ _).trans (by kernel_rfl)
def hodmanref17_give.f (M : Mach) (C : Call) (m0_0 : Int) (m0_1 : Int) (m0_2 : Int) (m0_3 : Int) (m0_4 : Int) (m0_5 : Int) (m0_6 : Int) (m0_7 : Int) (m0_8i : Nat) (m0_8o : Nat) (m0_8n : Nat) (m0_9 : Int) (m0_10 : Int) (m0_11 : Int) (m0_12i : Nat) (m0_12o : Nat) (m0_12n : Nat) (m0_13i : Nat) (m0_13o : Nat) (m0_13n : Nat) (o1_0 : Int) (o1_1 : Int) (o1_2 : Int) (o1_3 : Int) (o1_4 : Int) (o1_5 : Int) (G : GH) : Option Res := bif decide (o1_0 = 3) then hodmanref17_give.J43 M C o1_3 o1_2 m0_0 m0_1 m0_2 m0_3 m0_4 m0_5 m0_6 m0_7 m0_8i m0_8o m0_8n m0_9 m0_10 m0_11 m0_12i m0_12o m0_12n m0_13i m0_13o m0_13n o1_0 o1_1 o1_2 o1_3 o1_4 o1_5 0 0 0 0 0 0 0 0 0 0 0 0 0 0 0 0 0 0 0 0 0 0 0 0 0 0 0 0 G else hodmanref17_give.J43 M C 1 o1_2 m0_0 m0_1 m0_2 m0_3 m0_4 m0_5 m0_6 m0_7 m0_8i m0_8o m0_8n m0_9 m0_10 m0_11 m0_12i m0_12o m0_12n m0_13i m0_13o m0_13n o1_0 o1_1 o1_2 o1_3 o1_4 o1_5 0 0 0 0 0 0 0 0 0 0 0 0 0 0 0 0 0 0 0 0 0 0 0 0 0 0 0 0 G
theorem hodmanref17_give.eq (M : Mach) (C : Call) (m0_0 : Int) (m0_1 : Int) (m0_2 : Int) (m0_3 : Int) (m0_4 : Int) (m0_5 : Int) (m0_6 : Int) (m0_7 : Int) (m0_8i : Nat) (m0_8o : Nat) (m0_8n : Nat) (m0_9 : Int) (m0_10 : Int) (m0_11 : Int) (m0_12i : Nat) (m0_12o : Nat) (m0_12n : Nat) (m0_13i : Nat) (m0_13o : Nat) (m0_13n : Nat) (o1_0 : Int) (o1_1 : Int) (o1_2 : Int) (o1_3 : Int) (o1_4 : Int) (o1_5 : Int) (G : GH) : runF M C hodmanref17_give.d [.agg [.int .i64 m0_0, .int .i64 m0_1, .int .i64 m0_2, .int .i64 m0_3, .int .i64 m0_4, .int .i64 m0_5, .int .i64 m0_6, .int .i64 m0_7, .sl 3 m0_8i m0_8o m0_8n, .int .i64 m0_9, .int .i64 m0_10, .int .i64 m0_11, .sl 1 m0_12i m0_12o m0_12n, .sl 1 m0_13i m0_13o m0_13n], .agg [.int .i64 o1_0, .int .i64 o1_1, .int .i64 o1_2, .int .i64 o1_3, .int .i64 o1_4, .int .u8 o1_5]] G = hodmanref17_give.f M C m0_0 m0_1 m0_2 m0_3 m0_4 m0_5 m0_6 m0_7 m0_8i m0_8o m0_8n m0_9 m0_10 m0_11 m0_12i m0_12o m0_12n m0_13i m0_13o m0_13n o1_0 o1_1 o1_2 o1_3 o1_4 o1_5 G := by kernel_rfl

/- 24 hodman/hodmanref1.Of -/
def hodmanref1_Of.c13 : DCode := (.cond (.t 31) (.seq (.region [⟨0, some 32, .build [.int .i64 0, .int .i64 0, .int .i64 0, .int .i64 0, .int .i64 0, .int .i64 0, .int .i64 0, .int .i64 0] [], none⟩,
    ⟨1, none, .stL 2 123 (.t 32) 8, none⟩,
    ⟨2, some 3, .move (.k (.c (.int .i64 1))), none⟩]) .ret) .skip)
def hodmanref1_Of.c16 : DCode := (.region [⟨0, some 18, .move (.t 5), none⟩,
    ⟨1, some 19, .bin .add .i64 (.t 18) (.k (.c (.int .i64 1))), none⟩,
    ⟨2, some 5, .move (.t 19), none⟩])
def hodmanref1_Of.c18 : DCode := (.seq (.seq (.region [⟨0, some 16, .move (.t 5), none⟩,
    ⟨1, some 17, .cmp .lss .i64 (.t 16) (.k (.c (.int .i64 4))), none⟩]) (.cond (.t 17) .skip (.exit 0))) (.seq (.block 1 (.seq (.region [⟨0, some 20, .move (.t 4), none⟩,
    ⟨1, some 21, .move (.t 5), none⟩,
    ⟨2, some 22, .iaddr (.t 20) (.t 21) 1, none⟩,
    ⟨3, some 23, .ldG 22 (.c (.int .i64)), none⟩,
    ⟨4, some 24, .cmp .lss .i64 (.t 23) (.k (.c (.int .i64 1))), none⟩,
    ⟨5, some 25, .move (.t 24), none⟩,
    ⟨6, some 26, .move (.t 4), some (25, false)⟩,
    ⟨7, some 27, .move (.t 5), some (25, false)⟩,
    ⟨8, some 28, .iaddr (.t 26) (.t 27) 1, some (25, false)⟩,
    ⟨9, some 29, .ldG 28 (.c (.int .i64)), some (25, false)⟩,
    ⟨10, some 30, .cmp .gtr .i64 (.t 29) (.k (.c (.int .i64 65536))), some (25, false)⟩,
    ⟨11, some 31, .pick (.t 25) (.k (.c (.bool true))) (.t 30), none⟩]) (.cut [1, 2, 4, 5, 31, 122, 123] hodmanref1_Of.c13))) hodmanref1_Of.c16))
def hodmanref1_Of.c19 : DCode := (.loop [1, 2, 4, 5, 122, 123] hodmanref1_Of.c18)
def hodmanref1_Of.c27 : DCode := (.cond (.t 50) (.seq (.region [⟨0, some 51, .build [.int .i64 0, .int .i64 0, .int .i64 0, .int .i64 0, .int .i64 0, .int .i64 0, .int .i64 0, .int .i64 0] [], none⟩,
    ⟨1, none, .stL 2 123 (.t 51) 8, none⟩,
    ⟨2, some 3, .move (.k (.c (.int .i64 1))), none⟩]) .ret) .skip)
def hodmanref1_Of.c53 : DCode := (.seq (.region [⟨0, some 52, .faddr 1 4, none⟩,
    ⟨1, some 53, .ldL 52 122 (.c (.int .i64)), none⟩,
    ⟨2, some 54, .faddr 1 5, none⟩,
    ⟨3, some 55, .ldL 54 122 (.c (.int .i64)), none⟩,
    ⟨4, some 56, .build [.int .i64 0, .int .i64 0, .int .i64 0, .int .i64 0, .int .i64 0, .int .i64 0, .int .i64 0, .int .i64 0] [(5, 1, .t 53), (7, 1, .t 55)], none⟩,
    ⟨5, some 6, .boxz 124 [63, 67, 73, 77, 83, 87, 89, 96, 98, 100, 106, 107, 109, 111, 116, 117] [.int .i64 0, .int .i64 0, .int .i64 0, .int .i64 0, .int .i64 0, .int .i64 0, .int .i64 0, .int .i64 0], none⟩,
    ⟨6, none, .stL 6 124 (.t 56) 8, none⟩]) (.seq (.region [⟨0, some 58, .faddr 1 0, none⟩,
    ⟨1, some 59, .ldL 58 122 (.c (.int .i64)), none⟩,
    ⟨2, some 60, .call 44 [.t 59] [.c (.int .i64), .c (.bool)], none⟩,
    ⟨3, some 57, .move (.t 60), none⟩,
    ⟨4, some 61, .ext 57 0, none⟩,
    ⟨5, some 62, .ext 57 1, none⟩,
    ⟨6, some 63, .faddr 6 0, none⟩,
    ⟨7, none, .stL 63 124 (.t 61) 1, none⟩]) (.seq (.region [⟨0, some 65, .faddr 1 1, none⟩,
    ⟨1, some 66, .ldL 65 122 (.c (.int .i64)), none⟩,
    ⟨2, some 67, .faddr 6 0, none⟩,
    ⟨3, some 68, .ldL 67 124 (.c (.int .i64)), none⟩,
    ⟨4, some 69, .mx (.t 66) [.t 68], none⟩,
    ⟨5, some 70, .call 44 [.t 69] [.c (.int .i64), .c (.bool)], none⟩,
    ⟨6, some 64, .move (.t 70), none⟩,
    ⟨7, some 71, .ext 64 0, none⟩,
    ⟨8, some 72, .ext 64 1, none⟩,
    ⟨9, some 73, .faddr 6 1, none⟩,
    ⟨10, none, .stL 73 124 (.t 71) 1, none⟩]) (.seq (.region [⟨0, some 75, .faddr 1 3, none⟩,
    ⟨1, some 76, .ldL 75 122 (.c (.int .i64)), none⟩,
    ⟨2, some 77, .faddr 6 0, none⟩,
    ⟨3, some 78, .ldL 77 124 (.c (.int .i64)), none⟩,
    ⟨4, some 79, .mx (.t 76) [.t 78], none⟩,
    ⟨5, some 80, .call 44 [.t 79] [.c (.int .i64), .c (.bool)], none⟩,
    ⟨6, some 74, .move (.t 80), none⟩,
    ⟨7, some 81, .ext 74 0, none⟩,
    ⟨8, some 82, .ext 74 1, none⟩,
    ⟨9, some 83, .faddr 6 4, none⟩,
    ⟨10, none, .stL 83 124 (.t 81) 1, none⟩]) (.seq (.region [⟨0, some 85, .faddr 1 2, none⟩,
    ⟨1, some 86, .ldL 85 122 (.c (.int .i64)), none⟩,
    ⟨2, some 87, .faddr 6 1, none⟩,
    ⟨3, some 88, .ldL 87 124 (.c (.int .i64)), none⟩,
    ⟨4, some 89, .faddr 6 4, none⟩,
    ⟨5, some 90, .ldL 89 124 (.c (.int .i64)), none⟩,
    ⟨6, some 91, .mx (.t 88) [.t 90], none⟩,
    ⟨7, some 92, .bin .mul .i64 (.k (.c (.int .i64 2))) (.t 91), none⟩,
    ⟨8, some 93, .call 45 [.t 86, .t 92] [.c (.int .i64), .c (.bool)], none⟩,
    ⟨9, some 84, .move (.t 93), none⟩,
    ⟨10, some 94, .ext 84 0, none⟩,
    ⟨11, some 95, .ext 84 1, none⟩,
    ⟨12, some 96, .faddr 6 2, none⟩,
    ⟨13, none, .stL 96 124 (.t 94) 1, none⟩]) (.seq (.region [⟨0, some 98, .faddr 6 1, none⟩,
    ⟨1, some 99, .ldL 98 124 (.c (.int .i64)), none⟩,
    ⟨2, some 100, .faddr 6 0, none⟩,
    ⟨3, some 101, .ldL 100 124 (.c (.int .i64)), none⟩,
    ⟨4, some 102, .bin .quo .i64 (.t 99) (.t 101), none⟩,
    ⟨5, some 103, .call 46 [.t 102] [.c (.int .i64), .c (.bool)], none⟩,
    ⟨6, some 97, .move (.t 103), none⟩,
    ⟨7, some 104, .ext 97 0, none⟩,
    ⟨8, some 105, .ext 97 1, none⟩,
    ⟨9, some 106, .faddr 6 3, none⟩,
    ⟨10, none, .stL 106 124 (.t 104) 1, none⟩]) (.seq (.region [⟨0, some 107, .faddr 6 2, none⟩,
    ⟨1, some 108, .ldL 107 124 (.c (.int .i64)), none⟩,
    ⟨2, some 109, .faddr 6 3, none⟩,
    ⟨3, some 110, .ldL 109 124 (.c (.int .i64)), none⟩,
    ⟨4, some 111, .faddr 6 2, none⟩,
    ⟨5, some 112, .ldL 111 124 (.c (.int .i64)), none⟩,
    ⟨6, some 113, .bin .quo .i64 (.t 112) (.k (.c (.int .i64 2))), none⟩,
    ⟨7, some 114, .bin .mul .i64 (.t 110) (.t 113), none⟩,
    ⟨8, some 115, .bin .add .i64 (.t 108) (.t 114), none⟩,
    ⟨9, some 116, .faddr 6 6, none⟩,
    ⟨10, none, .stL 116 124 (.t 115) 1, none⟩]) (.seq (.seq (.region [⟨0, some 117, .faddr 6 6, none⟩,
    ⟨1, some 118, .ldL 117 124 (.c (.int .i64)), none⟩,
    ⟨2, some 119, .cmp .gtr .i64 (.t 118) (.k (.c (.int .i64 65536))), none⟩]) (.cond (.t 119) (.seq (.region [⟨0, some 120, .build [.int .i64 0, .int .i64 0, .int .i64 0, .int .i64 0, .int .i64 0, .int .i64 0, .int .i64 0, .int .i64 0] [], none⟩,
    ⟨1, none, .stL 2 123 (.t 120) 8, none⟩,
    ⟨2, some 3, .move (.k (.c (.int .i64 1))), none⟩]) .ret) .skip)) (.seq (.region [⟨0, some 121, .ldL 6 124 (.agg [.int .i64, .int .i64, .int .i64, .int .i64, .int .i64, .int .i64, .int .i64, .int .i64]), none⟩,
    ⟨1, none, .stL 2 123 (.t 121) 8, none⟩,
    ⟨2, some 3, .move (.k (.c (.int .i64 0))), none⟩]) .ret)))))))))
def hodmanref1_Of.c54 : DCode := (.seq (.seq (.region [⟨0, some 33, .faddr 1 4, none⟩,
    ⟨1, some 34, .ldL 33 122 (.c (.int .i64)), none⟩,
    ⟨2, some 35, .cmp .lss .i64 (.t 34) (.k (.c (.int .i64 0))), none⟩,
    ⟨3, some 36, .move (.t 35), none⟩,
    ⟨4, some 37, .faddr 1 4, some (36, false)⟩,
    ⟨5, some 38, .ldL 37 122 (.c (.int .i64)), some (36, false)⟩,
    ⟨6, some 39, .cmp .gtr .i64 (.t 38) (.k (.c (.int .i64 65536))), some (36, false)⟩,
    ⟨7, some 40, .pick (.t 36) (.k (.c (.bool true))) (.t 39), none⟩,
    ⟨8, some 41, .move (.t 40), none⟩,
    ⟨9, some 42, .faddr 1 5, some (41, false)⟩,
    ⟨10, some 43, .ldL 42 122 (.c (.int .i64)), some (41, false)⟩,
    ⟨11, some 44, .cmp .lss .i64 (.t 43) (.k (.c (.int .i64 0))), some (41, false)⟩,
    ⟨12, some 45, .pick (.t 41) (.k (.c (.bool true))) (.t 44), none⟩,
    ⟨13, some 46, .move (.t 45), none⟩,
    ⟨14, some 47, .faddr 1 5, some (46, false)⟩,
    ⟨15, some 48, .ldL 47 122 (.c (.int .i64)), some (46, false)⟩,
    ⟨16, some 49, .cmp .gtr .i64 (.t 48) (.k (.c (.int .i64 255))), some (46, false)⟩,
    ⟨17, some 50, .pick (.t 46) (.k (.c (.bool true))) (.t 49), none⟩]) (.cut [1, 2, 50, 122, 123] hodmanref1_Of.c27)) hodmanref1_Of.c53)
def hodmanref1_Of.d : DFn := { ntmps := 125, res := [.box 2 (some 8), .t 3], body := (.seq (.region [⟨0, some 1, .boxv 122 [7, 9, 11, 13, 33, 37, 42, 47, 52, 54, 58, 65, 75, 85] (.t 0) 6, none⟩,
    ⟨1, some 2, .boxz 123 [] [.int .i64 0, .int .i64 0, .int .i64 0, .int .i64 0, .int .i64 0, .int .i64 0, .int .i64 0, .int .i64 0], none⟩,
    ⟨2, some 3, .move (.k (.c (.int .i64 0))), none⟩]) (.seq (.region [⟨0, some 7, .faddr 1 0, none⟩,
    ⟨1, some 8, .ldL 7 122 (.c (.int .i64)), none⟩,
    ⟨2, some 9, .faddr 1 1, none⟩,
    ⟨3, some 10, .ldL 9 122 (.c (.int .i64)), none⟩,
    ⟨4, some 11, .faddr 1 2, none⟩,
    ⟨5, some 12, .ldL 11 122 (.c (.int .i64)), none⟩,
    ⟨6, some 13, .faddr 1 3, none⟩,
    ⟨7, some 14, .ldL 13 122 (.c (.int .i64)), none⟩,
    ⟨8, some 15, .bslice 4 1 [.int .i64 0, .int .i64 0, .int .i64 0, .int .i64 0] [(0, 1, .t 8), (1, 1, .t 10), (2, 1, .t 12), (3, 1, .t 14)], none⟩,
    ⟨9, some 4, .move (.t 15), none⟩]) (.seq (.seq (.region [⟨0, some 5, .move (.k (.c (.int .i64 0))), none⟩]) (.block 0 hodmanref1_Of.c19)) hodmanref1_Of.c54))) }
def hodmanref1_Of.k54 (M : Mach) (C : Call) : Kont := execC M.j C (M.ag C) hodmanref1_Of.c54 ({ exits := [], ret := retK hodmanref1_Of.d } : Env) (retK hodmanref1_Of.d)
def hodmanref1_Of.e20 (M : Mach) (C : Call) : Env := { exits := (0, (hodmanref1_Of.k54 M C)) :: (({ exits := [], ret := retK hodmanref1_Of.d } : Env)).exits, ret := (({ exits := [], ret := retK hodmanref1_Of.d } : Env)).ret }
def hodmanref1_Of.L19 (M : Mach) (C : Call) (l4i : Nat) (l4o : Nat) (l4n : Nat) (i5 : Int) (r122_0 : Int) (r122_1 : Int) (r122_2 : Int) (r122_3 : Int) (r122_4 : Int) (r122_5 : Int) (x123_0 : Int) (x123_1 : Int) (x123_2 : Int) (x123_3 : Int) (x123_4 : Int) (x123_5 : Int) (x123_6 : Int) (x123_7 : Int) (G : GH) : Option Res := M.ag C [1, 2, 4, 5, 122, 123] hodmanref1_Of.c18 (hodmanref1_Of.e20 M C) (hodmanref1_Of.k54 M C) [.und, .ref 122 0, .ref 123 0, .und, .v (.c (.sl 1 l4i l4o l4n)), .v (.c (.int .i64 i5)), .und, .und, .und, .und, .und, .und, .und, .und, .und, .und, .und, .und, .und, .und, .und, .und, .und, .und, .und, .und, .und, .und, .und, .und, .und, .und, .und, .und, .und, .und, .und, .und, .und, .und, .und, .und, .und, .und, .und, .und, .und, .und, .und, .und, .und, .und, .und, .und, .und, .und, .und, .und, .und, .und, .und, .und, .und, .und, .und, .und, .und, .und, .und, .und, .und, .und, .und, .und, .und, .und, .und, .und, .und, .und, .und, .und, .und, .und, .und, .und, .und, .und, .und, .und, .und, .und, .und, .und, .und, .und, .und, .und, .und, .und, .und, .und, .und, .und, .und, .und, .und, .und, .und, .und, .und, .und, .und, .und, .und, .und, .und, .und, .und, .und, .und, .und, .box [.int .i64 r122_0, .int .i64 r122_1, .int .i64 r122_2, .int .i64 r122_3, .int .i64 r122_4, .int .i64 r122_5], .box [.int .i64 x123_0, .int .i64 x123_1, .int .i64 x123_2, .int .i64 x123_3, .int .i64 x123_4, .int .i64 x123_5, .int .i64 x123_6, .int .i64 x123_7], .und] G
def hodmanref1_Of.k19 (M : Mach) (C : Call) : Kont := fun tm G => M.ag C [1, 2, 4, 5, 122, 123] hodmanref1_Of.c18 (hodmanref1_Of.e20 M C) (hodmanref1_Of.k54 M C) (restr [1, 2, 4, 5, 122, 123] 0 tm) G
def hodmanref1_Of.k16 (M : Mach) (C : Call) : Kont := execC M.j C (M.ag C) hodmanref1_Of.c16 (hodmanref1_Of.e20 M C) (hodmanref1_Of.k19 M C)
def hodmanref1_Of.e15 (M : Mach) (C : Call) : Env := { exits := (1, (hodmanref1_Of.k16 M C)) :: ((hodmanref1_Of.e20 M C)).exits, ret := ((hodmanref1_Of.e20 M C)).ret }
def hodmanref1_Of.J13 (M : Mach) (C : Call) (l4i : Nat) (l4o : Nat) (l4n : Nat) (i5 : Int) (t31 : Bool) (r122_0 : Int) (r122_1 : Int) (r122_2 : Int) (r122_3 : Int) (r122_4 : Int) (r122_5 : Int) (x123_0 : Int) (x123_1 : Int) (x123_2 : Int) (x123_3 : Int) (x123_4 : Int) (x123_5 : Int) (x123_6 : Int) (x123_7 : Int) (G : GH) : Option Res := M.j (execC M.j C (M.ag C) hodmanref1_Of.c13 (hodmanref1_Of.e15 M C) (hodmanref1_Of.k16 M C)) [.und, .ref 122 0, .ref 123 0, .und, .v (.c (.sl 1 l4i l4o l4n)), .v (.c (.int .i64 i5)), .und, .und, .und, .und, .und, .und, .und, .und, .und, .und, .und, .und, .und, .und, .und, .und, .und, .und, .und, .und, .und, .und, .und, .und, .und, .v (.c (.bool t31)), .und, .und, .und, .und, .und, .und, .und, .und, .und, .und, .und, .und, .und, .und, .und, .und, .und, .und, .und, .und, .und, .und, .und, .und, .und, .und, .und, .und, .und, .und, .und, .und, .und, .und, .und, .und, .und, .und, .und, .und, .und, .und, .und, .und, .und, .und, .und, .und, .und, .und, .und, .und, .und, .und, .und, .und, .und, .und, .und, .und, .und, .und, .und, .und, .und, .und, .und, .und, .und, .und, .und, .und, .und, .und, .und, .und, .und, .und, .und, .und, .und, .und, .und, .und, .und, .und, .und, .und, .und, .und, .box [.int .i64 r122_0, .int .i64 r122_1, .int .i64 r122_2, .int .i64 r122_3, .int .i64 r122_4, .int .i64 r122_5], .box [.int .i64 x123_0, .int .i64 x123_1, .int .i64 x123_2, .int .i64 x123_3, .int .i64 x123_4, .int .i64 x123_5, .int .i64 x123_6, .int .i64 x123_7], .und] G
def hodmanref1_Of.k53 (M : Mach) (C : Call) : Kont := execC M.j C (M.ag C) hodmanref1_Of.c53 ({ exits := [], ret := retK hodmanref1_Of.d } : Env) (retK hodmanref1_Of.d)
def hodmanref1_Of.J27 (M : Mach) (C : Call) (t50 : Bool) (r122_0 : Int) (r122_1 : Int) (r122_2 : Int) (r122_3 : Int) (r122_4 : Int) (r122_5 : Int) (x123_0 : Int) (x123_1 : Int) (x123_2 : Int) (x123_3 : Int) (x123_4 : Int) (x123_5 : Int) (x123_6 : Int) (x123_7 : Int) (G : GH) : Option Res := M.j (execC M.j C (M.ag C) hodmanref1_Of.c27 ({ exits := [], ret := retK hodmanref1_Of.d } : Env) (hodmanref1_Of.k53 M C)) [.und, .ref 122 0, .ref 123 0, .und, .und, .und, .und, .und, .und, .und, .und, .und, .und, .und, .und, .und, .und, .und, .und, .und, .und, .und, .und, .und, .und, .und, .und, .und, .und, .und, .und, .und, .und, .und, .und, .und, .und, .und, .und, .und, .und, .und, .und, .und, .und, .und, .und, .und, .und, .und, .v (.c (.bool t50)), .und, .und, .und, .und, .und, .und, .und, .und, .und, .und, .und, .und, .und, .und, .und, .und, .und, .und, .und, .und, .und, .und, .und, .und, .und, .und, .und, .und, .und, .und, .und, .und, .und, .und, .und, .und, .und, .und, .und, .und, .und, .und, .und, .und, .und, .und, .und, .und, .und, .und, .und, .und, .und, .und, .und, .und, .und, .und, .und, .und, .und, .und, .und, .und, .und, .und, .und, .und, .und, .und, .und, .box [.int .i64 r122_0, .int .i64 r122_1, .int .i64 r122_2, .int .i64 r122_3, .int .i64 r122_4, .int .i64 r122_5], .box [.int .i64 x123_0, .int .i64 x123_1, .int .i64 x123_2, .int .i64 x123_3, .int .i64 x123_4, .int .i64 x123_5, .int .i64 x123_6, .int .i64 x123_7], .und] G
theorem hodmanref1_Of.L19_eq (M : Mach) (C : Call) (l4i : Nat) (l4o : Nat) (l4n : Nat) (i5 : Int) (r122_0 : Int) (r122_1 : Int) (r122_2 : Int) (r122_3 : Int) (r122_4 : Int) (r122_5 : Int) (x123_0 : Int) (x123_1 : Int) (x123_2 : Int) (x123_3 : Int) (x123_4 : Int) (x123_5 : Int) (x123_6 : Int) (x123_7 : Int) (G : GH) : hodmanref1_Of.L19 M C l4i l4o l4n i5 r122_0 r122_1 r122_2 r122_3 r122_4 r122_5 x123_0 x123_1 x123_2 x123_3 x123_4 x123_5 x123_6 x123_7 G = (bif decide (i5 < 4) then guardK (decide (0 ≤ i5 ∧ i5 < ((l4n : Nat) : Int))) (((G.ld l4i (l4o + Int.toNat i5 * 1)).bind (Cell.asI .i64)).bind fun qx_2 => bif decide (qx_2 < 1) then hodmanref1_Of.J13 M C l4i l4o l4n i5 true r122_0 r122_1 r122_2 r122_3 r122_4 r122_5 x123_0 x123_1 x123_2 x123_3 x123_4 x123_5 x123_6 x123_7 G else guardK (decide (0 ≤ i5 ∧ i5 < ((l4n : Nat) : Int))) (((G.ld l4i (l4o + Int.toNat i5 * 1)).bind (Cell.asI .i64)).bind fun qx_3 => hodmanref1_Of.J13 M C l4i l4o l4n i5 (decide (qx_3 > 65536)) r122_0 r122_1 r122_2 r122_3 r122_4 r122_5 x123_0 x123_1 x123_2 x123_3 x123_4 x123_5 x123_6 x123_7 G)) else bif decide (r122_4 < 0) then hodmanref1_Of.J27 M C true r122_0 r122_1 r122_2 r122_3 r122_4 r122_5 x123_0 x123_1 x123_2 x123_3 x123_4 x123_5 x123_6 x123_7 G else bif decide (r122_4 > 65536) then hodmanref1_Of.J27 M C true r122_0 r122_1 r122_2 r122_3 r122_4 r122_5 x123_0 x123_1 x123_2 x123_3 x123_4 x123_5 x123_6 x123_7 G else bif decide (r122_5 < 0) then hodmanref1_Of.J27 M C true r122_0 r122_1 r122_2 r122_3 r122_4 r122_5 x123_0 x123_1 x123_2 x123_3 x123_4 x123_5 x123_6 x123_7 G else hodmanref1_Of.J27 M C (decide (r122_5 > 255)) r122_0 r122_1 r122_2 r122_3 r122_4 r122_5 x123_0 x123_1 x123_2 x123_3 x123_4 x123_5 x123_6 x123_7 G) := (M.hs _ _ _ _ _ _ _).trans (by kernel_rfl)
theorem hodmanref1_Of.J13_eq (M : Mach) (C : Call) (l4i : Nat) (l4o : Nat) (l4n : Nat) (i5 : Int) (t31 : Bool) (r122_0 : Int) (r122_1 : Int) (r122_2 : Int) (r122_3 : Int) (r122_4 : Int) (r122_5 : Int) (x123_0 : Int) (x123_1 : Int) (x123_2 : Int) (x123_3 : Int) (x123_4 : Int) (x123_5 : Int) (x123_6 : Int) (x123_7 : Int) (G : GH) : hodmanref1_Of.J13 M C l4i l4o l4n i5 t31 r122_0 r122_1 r122_2 r122_3 r122_4 r122_5 x123_0 x123_1 x123_2 x123_3 x123_4 x123_5 x123_6 x123_7 G = (bif t31 then some ([.agg [.int .i64 0, .int .i64 0, .int .i64 0, .int .i64 0, .int .i64 0, .int .i64 0, .int .i64 0, .int .i64 0], .c (.int .i64 1)], G) else hodmanref1_Of.L19 M C l4i l4o l4n (IntKind.i64.wrap (i5 + 1)) r122_0 r122_1 r122_2 r122_3 r122_4 r122_5 x123_0 x123_1 x123_2 x123_3 x123_4 x123_5 x123_6 x123_7 G) := (M.hj _ _ _).trans (by kernel_rfl)
theorem hodmanref1_Of.J27_eq (M : Mach) (C : Call) (t50 : Bool) (r122_0 : Int) (r122_1 : Int) (r122_2 : Int) (r122_3 : Int) (r122_4 : Int) (r122_5 : Int) (x123_0 : Int) (x123_1 : Int) (x123_2 : Int) (x123_3 : Int) (x123_4 : Int) (x123_5 : Int) (x123_6 : Int) (x123_7 : Int) (G : GH) : hodmanref1_Of.J27 M C t50 r122_0 r122_1 r122_2 r122_3 r122_4 r122_5 x123_0 x123_1 x123_2 x123_3 x123_4 x123_5 x123_6 x123_7 G = (bif t50 then some ([.agg [.int .i64 0, .int .i64 0, .int .i64 0, .int .i64 0, .int .i64 0, .int .i64 0, .int .i64 0, .int .i64 0], .c (.int .i64 1)], G) else (C hodmanref1_Up.id [.c (.int .i64 r122_0)] G).bind fun qr_4 => (((qr_4.1[0]?).bind V1.c?).bind (Cell.asI .i64)).bind fun qx_5 => (((qr_4.1[1]?).bind V1.c?).bind Cell.asB).bind fun qb_6 => (C hodmanref1_Up.id [.c (.int .i64 (mx2 r122_1 qx_5))] qr_4.2).bind fun qr_7 => (((qr_7.1[0]?).bind V1.c?).bind (Cell.asI .i64)).bind fun qx_8 => (((qr_7.1[1]?).bind V1.c?).bind Cell.asB).bind fun qb_9 => (C hodmanref1_Up.id [.c (.int .i64 (mx2 r122_3 qx_5))] qr_7.2).bind fun qr_10 => (((qr_10.1[0]?).bind V1.c?).bind (Cell.asI .i64)).bind fun qx_11 => (((qr_10.1[1]?).bind V1.c?).bind Cell.asB).bind fun qb_12 => (C hodmanref1_Round.id [.c (.int .i64 r122_2), .c (.int .i64 (IntKind.i64.wrap (2 * (mx2 qx_8 qx_11))))] qr_10.2).bind fun qr_13 => (((qr_13.1[0]?).bind V1.c?).bind (Cell.asI .i64)).bind fun qx_14 => (((qr_13.1[1]?).bind V1.c?).bind Cell.asB).bind fun qb_15 => (binD .quo .i64 qx_8 qx_5).bind fun qx_16 => (C hodmanref1_Log.id [.c (.int .i64 qx_16)] qr_13.2).bind fun qr_17 => (((qr_17.1[0]?).bind V1.c?).bind (Cell.asI .i64)).bind fun qx_18 => (((qr_17.1[1]?).bind V1.c?).bind Cell.asB).bind fun qb_19 => bif decide (IntKind.i64.wrap (qx_14 + (IntKind.i64.wrap (qx_18 * (IntKind.i64.wrap (Int.tdiv qx_14 2))))) > 65536) then some ([.agg [.int .i64 0, .int .i64 0, .int .i64 0, .int .i64 0, .int .i64 0, .int .i64 0, .int .i64 0, .int .i64 0], .c (.int .i64 1)], qr_17.2) else some ([.agg [.int .i64 qx_5, .int .i64 qx_8, .int .i64 qx_14, .int .i64 qx_18, .int .i64 qx_11, .int .i64 r122_4, .int .i64 (IntKind.i64.wrap (qx_14 + (IntKind.i64.wrap (qx_18 * (IntKind.i64.wrap (Int.tdiv qx_14 2)))))), .int .i64 r122_5], .c (.int .i64 0)], qr_17.2)) := (M.hj _ _ _).trans (by kernel_rfl)
def hodmanref1_Of.f (M : Mach) (C : Call) (r0_0 : Int) (r0_1 : Int) (r0_2 : Int) (r0_3 : Int) (r0_4 : Int) (r0_5 : Int) (G : GH) : Option Res := let qG_1 := G.alloc (.row [.int .i64 r0_0, .int .i64 r0_1, .int .i64 r0_2, .int .i64 r0_3] false); hodmanref1_Of.L19 M C G.next 0 4 0 r0_0 r0_1 r0_2 r0_3 r0_4 r0_5 0 0 0 0 0 0 0 0 qG_1
theorem hodmanref1_Of.eq (M : Mach) (C : Call) (r0_0 : Int) (r0_1 : Int) (r0_2 : Int) (r0_3 : Int) (r0_4 : Int) (r0_5 : Int) (G : GH) : runF M C hodmanref1_Of.d [.agg [.int .i64 r0_0, .int .i64 r0_1, .int .i64 r0_2, .int .i64 r0_3, .int .i64 r0_4, .int .i64 r0_5]] G = hodmanref1_Of.f M C r0_0 r0_1 r0_2 r0_3 r0_4 r0_5 G := by kernel_rfl

/- 40 hodman/hodmanref8.Met -/
def hodmanref8_Met.c6 : DCode := (.cond (.t 19) (.seq (.region [⟨0, some 6, .move (.k (.c (.sl 1 0 0 0))), none⟩]) .ret) .skip)
def hodmanref8_Met.c23 : DCode := (.region [⟨0, some 34, .move (.t 9), none⟩,
    ⟨1, some 35, .bin .add .i64 (.t 34) (.k (.c (.int .i64 1))), none⟩,
    ⟨2, some 9, .move (.t 35), none⟩])
def hodmanref8_Met.c25 : DCode := (.seq (.seq (.region [⟨0, some 30, .move (.t 9), none⟩,
    ⟨1, some 31, .move (.t 2), none⟩,
    ⟨2, some 32, .len (.t 31), none⟩,
    ⟨3, some 33, .cmp .lss .i64 (.t 30) (.t 32), none⟩]) (.cond (.t 33) .skip (.exit 2))) (.seq (.block 3 (.region [⟨0, some 36, .move (.t 7), none⟩,
    ⟨1, some 37, .move (.t 8), none⟩,
    ⟨2, some 38, .move (.t 7), none⟩,
    ⟨3, some 39, .move (.t 8), none⟩,
    ⟨4, some 40, .iaddr (.t 38) (.t 39) 1, none⟩,
    ⟨5, some 41, .ldG 40 (.c (.bool)), none⟩,
    ⟨6, some 42, .move (.t 41), none⟩,
    ⟨7, some 43, .move (.t 8), some (42, false)⟩,
    ⟨8, some 44, .move (.t 0), some (42, false)⟩,
    ⟨9, some 45, .bin .mul .i64 (.t 43) (.t 44), some (42, false)⟩,
    ⟨10, some 46, .move (.t 0), some (42, false)⟩,
    ⟨11, some 47, .build [.int .i64 0, .int .i64 0] [(0, 1, .t 45), (1, 1, .t 46)], some (42, false)⟩,
    ⟨12, some 48, .move (.t 2), some (42, false)⟩,
    ⟨13, some 49, .move (.t 9), some (42, false)⟩,
    ⟨14, some 50, .iaddr (.t 48) (.t 49) 3, some (42, false)⟩,
    ⟨15, some 51, .faddr 50 0, some (42, false)⟩,
    ⟨16, some 52, .ldG 51 (.c (.int .i64)), some (42, false)⟩,
    ⟨17, some 53, .move (.t 2), some (42, false)⟩,
    ⟨18, some 54, .move (.t 9), some (42, false)⟩,
    ⟨19, some 55, .iaddr (.t 53) (.t 54) 3, some (42, false)⟩,
    ⟨20, some 56, .faddr 55 1, some (42, false)⟩,
    ⟨21, some 57, .ldG 56 (.c (.int .i64)), some (42, false)⟩,
    ⟨22, some 58, .build [.int .i64 0, .int .i64 0] [(0, 1, .t 52), (1, 1, .t 57)], some (42, false)⟩,
    ⟨23, some 59, .call 47 [.t 47, .t 58] [.c (.bool)], some (42, false)⟩,
    ⟨24, some 60, .pick (.t 42) (.k (.c (.bool true))) (.t 59), none⟩,
    ⟨25, some 61, .iaddr (.t 36) (.t 37) 1, none⟩,
    ⟨26, none, .stG 61 (.t 60) 1, none⟩])) (.cut [0, 2, 7, 8, 9] hodmanref8_Met.c23)))
def hodmanref8_Met.c26 : DCode := (.loop [0, 2, 7, 8, 9] hodmanref8_Met.c25)
def hodmanref8_Met.c30 : DCode := (.region [⟨0, some 28, .move (.t 8), none⟩,
    ⟨1, some 29, .bin .add .i64 (.t 28) (.k (.c (.int .i64 1))), none⟩,
    ⟨2, some 8, .move (.t 29), none⟩])
def hodmanref8_Met.c32 : DCode := (.seq (.seq (.region [⟨0, some 24, .move (.t 8), none⟩,
    ⟨1, some 25, .move (.t 7), none⟩,
    ⟨2, some 26, .len (.t 25), none⟩,
    ⟨3, some 27, .cmp .lss .i64 (.t 24) (.t 26), none⟩]) (.cond (.t 27) .skip (.exit 0))) (.seq (.block 1 (.seq (.region [⟨0, some 9, .move (.k (.c (.int .i64 0))), none⟩]) (.block 2 hodmanref8_Met.c26))) hodmanref8_Met.c30))
def hodmanref8_Met.c33 : DCode := (.loop [0, 2, 7, 8] hodmanref8_Met.c32)
def hodmanref8_Met.c38 : DCode := (.seq (.region [⟨0, some 62, .move (.t 7), none⟩,
    ⟨1, some 6, .move (.t 62), none⟩]) .ret)
def hodmanref8_Met.c40 : DCode := (.seq (.region [⟨0, some 20, .move (.t 1), none⟩,
    ⟨1, some 21, .move (.t 0), none⟩,
    ⟨2, some 22, .bin .quo .i64 (.t 20) (.t 21), none⟩,
    ⟨3, some 23, .mkslice (.t 22) 1 1 [.bool false], none⟩,
    ⟨4, some 7, .move (.t 23), none⟩]) (.seq (.seq (.region [⟨0, some 8, .move (.k (.c (.int .i64 0))), none⟩]) (.block 0 hodmanref8_Met.c33)) hodmanref8_Met.c38))
def hodmanref8_Met.d : DFn := { ntmps := 63, res := [.t 6], body := (.seq (.region [⟨0, some 6, .move (.k (.c (.sl 1 0 0 0))), none⟩]) (.seq (.seq (.region [⟨0, some 10, .move (.t 0), none⟩,
    ⟨1, some 11, .cmp .lss .i64 (.t 10) (.k (.c (.int .i64 1))), none⟩,
    ⟨2, some 12, .move (.t 11), none⟩,
    ⟨3, some 13, .move (.t 1), some (12, false)⟩,
    ⟨4, some 14, .cmp .lss .i64 (.t 13) (.k (.c (.int .i64 0))), some (12, false)⟩,
    ⟨5, some 15, .pick (.t 12) (.k (.c (.bool true))) (.t 14), none⟩,
    ⟨6, some 16, .move (.t 15), none⟩,
    ⟨7, some 17, .move (.t 1), some (16, false)⟩,
    ⟨8, some 18, .cmp .gtr .i64 (.t 17) (.k (.c (.int .i64 65536))), some (16, false)⟩,
    ⟨9, some 19, .pick (.t 16) (.k (.c (.bool true))) (.t 18), none⟩]) (.cut [0, 1, 2, 19] hodmanref8_Met.c6)) hodmanref8_Met.c40)) }
def hodmanref8_Met.k40 (M : Mach) (C : Call) : Kont := execC M.j C (M.ag C) hodmanref8_Met.c40 ({ exits := [], ret := retK hodmanref8_Met.d } : Env) (retK hodmanref8_Met.d)
def hodmanref8_Met.J6 (M : Mach) (C : Call) (page0 : Int) (size1 : Int) (l2i : Nat) (l2o : Nat) (l2n : Nat) (t19 : Bool) (G : GH) : Option Res := M.j (execC M.j C (M.ag C) hodmanref8_Met.c6 ({ exits := [], ret := retK hodmanref8_Met.d } : Env) (hodmanref8_Met.k40 M C)) [.v (.c (.int .i64 page0)), .v (.c (.int .i64 size1)), .v (.c (.sl 3 l2i l2o l2n)), .und, .und, .und, .und, .und, .und, .und, .und, .und, .und, .und, .und, .und, .und, .und, .und, .v (.c (.bool t19)), .und, .und, .und, .und, .und, .und, .und, .und, .und, .und, .und, .und, .und, .und, .und, .und, .und, .und, .und, .und, .und, .und, .und, .und, .und, .und, .und, .und, .und, .und, .und, .und, .und, .und, .und, .und, .und, .und, .und, .und, .und, .und, .und] G
def hodmanref8_Met.k38 (M : Mach) (C : Call) : Kont := execC M.j C (M.ag C) hodmanref8_Met.c38 ({ exits := [], ret := retK hodmanref8_Met.d } : Env) (retK hodmanref8_Met.d)
def hodmanref8_Met.e34 (M : Mach) (C : Call) : Env := { exits := (0, (hodmanref8_Met.k38 M C)) :: (({ exits := [], ret := retK hodmanref8_Met.d } : Env)).exits, ret := (({ exits := [], ret := retK hodmanref8_Met.d } : Env)).ret }
def hodmanref8_Met.L33 (M : Mach) (C : Call) (page0 : Int) (l2i : Nat) (l2o : Nat) (l2n : Nat) (out7i : Nat) (out7o : Nat) (out7n : Nat) (i8 : Int) (G : GH) : Option Res := M.ag C [0, 2, 7, 8] hodmanref8_Met.c32 (hodmanref8_Met.e34 M C) (hodmanref8_Met.k38 M C) [.v (.c (.int .i64 page0)), .und, .v (.c (.sl 3 l2i l2o l2n)), .und, .und, .und, .und, .v (.c (.sl 1 out7i out7o out7n)), .v (.c (.int .i64 i8)), .und, .und, .und, .und, .und, .und, .und, .und, .und, .und, .und, .und, .und, .und, .und, .und, .und, .und, .und, .und, .und, .und, .und, .und, .und, .und, .und, .und, .und, .und, .und, .und, .und, .und, .und, .und, .und, .und, .und, .und, .und, .und, .und, .und, .und, .und, .und, .und, .und, .und, .und, .und, .und, .und] G
def hodmanref8_Met.k33 (M : Mach) (C : Call) : Kont := fun tm G => M.ag C [0, 2, 7, 8] hodmanref8_Met.c32 (hodmanref8_Met.e34 M C) (hodmanref8_Met.k38 M C) (restr [0, 2, 7, 8] 0 tm) G
def hodmanref8_Met.k30 (M : Mach) (C : Call) : Kont := execC M.j C (M.ag C) hodmanref8_Met.c30 (hodmanref8_Met.e34 M C) (hodmanref8_Met.k33 M C)
def hodmanref8_Met.e29 (M : Mach) (C : Call) : Env := { exits := (1, (hodmanref8_Met.k30 M C)) :: ((hodmanref8_Met.e34 M C)).exits, ret := ((hodmanref8_Met.e34 M C)).ret }
def hodmanref8_Met.e27 (M : Mach) (C : Call) : Env := { exits := (2, (hodmanref8_Met.k30 M C)) :: ((hodmanref8_Met.e29 M C)).exits, ret := ((hodmanref8_Met.e29 M C)).ret }
def hodmanref8_Met.L26 (M : Mach) (C : Call) (page0 : Int) (l2i : Nat) (l2o : Nat) (l2n : Nat) (out7i : Nat) (out7o : Nat) (out7n : Nat) (i8 : Int) (k9 : Int) (G : GH) : Option Res := M.ag C [0, 2, 7, 8, 9] hodmanref8_Met.c25 (hodmanref8_Met.e27 M C) (hodmanref8_Met.k30 M C) [.v (.c (.int .i64 page0)), .und, .v (.c (.sl 3 l2i l2o l2n)), .und, .und, .und, .und, .v (.c (.sl 1 out7i out7o out7n)), .v (.c (.int .i64 i8)), .v (.c (.int .i64 k9)), .und, .und, .und, .und, .und, .und, .und, .und, .und, .und, .und, .und, .und, .und, .und, .und, .und, .und, .und, .und, .und, .und, .und, .und, .und, .und, .und, .und, .und, .und, .und, .und, .und, .und, .und, .und, .und, .und, .und, .und, .und, .und, .und, .und, .und, .und, .und, .und, .und, .und, .und, .und, .und] G
def hodmanref8_Met.k26 (M : Mach) (C : Call) : Kont := fun tm G => M.ag C [0, 2, 7, 8, 9] hodmanref8_Met.c25 (hodmanref8_Met.e27 M C) (hodmanref8_Met.k30 M C) (restr [0, 2, 7, 8, 9] 0 tm) G
def hodmanref8_Met.J23 (M : Mach) (C : Call) (page0 : Int) (l2i : Nat) (l2o : Nat) (l2n : Nat) (out7i : Nat) (out7o : Nat) (out7n : Nat) (i8 : Int) (k9 : Int) (G : GH) : Option Res := M.j (execC M.j C (M.ag C) hodmanref8_Met.c23 (hodmanref8_Met.e27 M C) (hodmanref8_Met.k26 M C)) [.v (.c (.int .i64 page0)), .und, .v (.c (.sl 3 l2i l2o l2n)), .und, .und, .und, .und, .v (.c (.sl 1 out7i out7o out7n)), .v (.c (.int .i64 i8)), .v (.c (.int .i64 k9)), .und, .und, .und, .und, .und, .und, .und, .und, .und, .und, .und, .und, .und, .und, .und, .und, .und, .und, .und, .und, .und, .und, .und, .und, .und, .und, .und, .und, .und, .und, .und, .und, .und, .und, .und, .und, .und, .und, .und, .und, .und, .und, .und, .und, .und, .und, .und, .und, .und, .und, .und, .und, .und] G
theorem hodmanref8_Met.J6_eq (M : Mach) (C : Call) (page0 : Int) (size1 : Int) (l2i : Nat) (l2o : Nat) (l2n : Nat) (t19 : Bool) (G : GH) : hodmanref8_Met.J6 M C page0 size1 l2i l2o l2n t19 G = (bif t19 then some ([.c (.sl 1 0 0 0)], G) else (binD .quo .i64 size1 page0).bind fun qx_1 => guardK (decide (0 ≤ qx_1 ∧ qx_1 ≤ (most : Int))) (let qG_2 := G.alloc (.row (reps (Int.toNat qx_1) [.bool false]) false); hodmanref8_Met.L33 M C page0 l2i l2o l2n G.next 0 (Int.toNat qx_1) 0 qG_2)) := (M.hj _ _ _).trans (by kernel_rfl)
theorem hodmanref8_Met.L33_eq (M : Mach) (C : Call) (page0 : Int) (l2i : Nat) (l2o : Nat) (l2n : Nat) (out7i : Nat) (out7o : Nat) (out7n : Nat) (i8 : Int) (G : GH) : hodmanref8_Met.L33 M C page0 l2i l2o l2n out7i out7o out7n i8 G = (bif decide (i8 < ((out7n : Nat) : Int)) then hodmanref8_Met.L26 M C page0 l2i l2o l2n out7i out7o out7n i8 0 G else some ([.c (.sl 1 out7i out7o out7n)], G)) := (M.hs _ _ _ _ _ _ _).trans (by kernel_rfl)
theorem hodmanref8_Met.L26_eq (M : Mach) (C : Call) (page0 : Int) (l2i : Nat) (l2o : Nat) (l2n : Nat) (out7i : Nat) (out7o : Nat) (out7n : Nat) (i8 : Int) (k9 : Int) (G : GH) : hodmanref8_Met.L26 M C page0 l2i l2o l2n out7i out7o out7n i8 k9 G = (bif decide (k9 < ((l2n : Nat) : Int)) then guardK (decide (0 ≤ i8 ∧ i8 < ((out7n : Nat) : Int))) (((G.ld out7i (out7o + Int.toNat i8 * 1)).bind Cell.asB).bind fun qb_3 => bif qb_3 then guardK (decide (0 ≤ i8 ∧ i8 < ((out7n : Nat) : Int))) ((G.sts out7i (out7o + Int.toNat i8 * 1) [.bool true]).bind fun qG_4 => hodmanref8_Met.J23 M C page0 l2i l2o l2n out7i out7o out7n i8 k9 qG_4) else guardK (decide (0 ≤ k9 ∧ k9 < ((l2n : Nat) : Int))) (((G.ld l2i ((l2o + Int.toNat k9 * 3) + 0)).bind (Cell.asI .i64)).bind fun qx_5 => guardK (decide (0 ≤ k9 ∧ k9 < ((l2n : Nat) : Int))) (((G.ld l2i ((l2o + Int.toNat k9 * 3) + 1)).bind (Cell.asI .i64)).bind fun qx_6 => (C hodmanref8_Over.id [.agg [.int .i64 (IntKind.i64.wrap (i8 * page0)), .int .i64 page0], .agg [.int .i64 qx_5, .int .i64 qx_6]] G).bind fun qr_7 => (((qr_7.1[0]?).bind V1.c?).bind Cell.asB).bind fun qb_8 => guardK (decide (0 ≤ i8 ∧ i8 < ((out7n : Nat) : Int))) ((qr_7.2.sts out7i (out7o + Int.toNat i8 * 1) [.bool qb_8]).bind fun qG_9 => hodmanref8_Met.J23 M C page0 l2i l2o l2n out7i out7o out7n i8 k9 qG_9)))) else hodmanref8_Met.L33 M C page0 l2i l2o l2n out7i out7o out7n (IntKind.i64.wrap (i8 + 1)) G) := (M.hs _ _ _ _ _ _ _).trans (by kernel_rfl)
theorem hodmanref8_Met.J23_eq (M : Mach) (C : Call) (page0 : Int) (l2i : Nat) (l2o : Nat) (l2n : Nat) (out7i : Nat) (out7o : Nat) (out7n : Nat) (i8 : Int) (k9 : Int) (G : GH) : hodmanref8_Met.J23 M C page0 l2i l2o l2n out7i out7o out7n i8 k9 G = (hodmanref8_Met.L26 M C page0 l2i l2o l2n out7i out7o out7n i8 (IntKind.i64.wrap (k9 + 1)) G) := (M.hj _ _ _).trans (by kernel_rfl)
def hodmanref8_Met.f (M : Mach) (C : Call) (page0 : Int) (size1 : Int) (l2i : Nat) (l2o : Nat) (l2n : Nat) (G : GH) : Option Res := bif decide (page0 < 1) then hodmanref8_Met.J6 M C page0 size1 l2i l2o l2n true G else bif decide (size1 < 0) then hodmanref8_Met.J6 M C page0 size1 l2i l2o l2n true G else hodmanref8_Met.J6 M C page0 size1 l2i l2o l2n (decide (size1 > 65536)) G
theorem hodmanref8_Met.eq (M : Mach) (C : Call) (page0 : Int) (size1 : Int) (l2i : Nat) (l2o : Nat) (l2n : Nat) (G : GH) : runF M C hodmanref8_Met.d [.c (.int .i64 page0), .c (.int .i64 size1), .c (.sl 3 l2i l2o l2n)] G = hodmanref8_Met.f M C page0 size1 l2i l2o l2n G := by kernel_rfl

/- 27 hodman/hodmanref17.Lowest -/
def hodmanref17_Lowest.c12 : DCode := (.cond (.t 26) .skip (.exit 2))
def hodmanref17_Lowest.c17 : DCode := (.seq (.block 3 (.region [⟨0, some 29, .move (.t 8), none⟩,
    ⟨1, some 30, .move (.t 2), none⟩,
    ⟨2, some 31, .build [.int .i64 0, .int .i64 0] [(0, 1, .t 29), (1, 1, .t 30)], none⟩,
    ⟨3, some 32, .move (.t 1), none⟩,
    ⟨4, some 33, .move (.t 10), none⟩,
    ⟨5, some 34, .iaddr (.t 32) (.t 33) 3, none⟩,
    ⟨6, some 35, .faddr 34 0, none⟩,
    ⟨7, some 36, .ldG 35 (.c (.int .i64)), none⟩,
    ⟨8, some 37, .move (.t 1), none⟩,
    ⟨9, some 38, .move (.t 10), none⟩,
    ⟨10, some 39, .iaddr (.t 37) (.t 38) 3, none⟩,
    ⟨11, some 40, .faddr 39 1, none⟩,
    ⟨12, some 41, .ldG 40 (.c (.int .i64)), none⟩,
    ⟨13, some 42, .build [.int .i64 0, .int .i64 0] [(0, 1, .t 36), (1, 1, .t 41)], none⟩,
    ⟨14, some 43, .call 47 [.t 31, .t 42] [.c (.bool)], none⟩,
    ⟨15, some 44, .not (.t 43), none⟩,
    ⟨16, some 9, .move (.t 44), none⟩])) (.region [⟨0, some 27, .move (.t 10), none⟩,
    ⟨1, some 28, .bin .add .i64 (.t 27) (.k (.c (.int .i64 1))), none⟩,
    ⟨2, some 10, .move (.t 28), none⟩]))
def hodmanref17_Lowest.c18 : DCode := (.seq (.seq (.region [⟨0, some 20, .move (.t 10), none⟩,
    ⟨1, some 21, .move (.t 1), none⟩,
    ⟨2, some 22, .len (.t 21), none⟩,
    ⟨3, some 23, .cmp .lss .i64 (.t 20) (.t 22), none⟩,
    ⟨4, some 24, .move (.t 23), none⟩,
    ⟨5, some 25, .move (.t 9), some (24, true)⟩,
    ⟨6, some 26, .pick (.t 24) (.t 25) (.k (.c (.bool false))), none⟩]) (.cut [1, 2, 3, 8, 9, 10, 26, 47] hodmanref17_Lowest.c12)) hodmanref17_Lowest.c17)
def hodmanref17_Lowest.c19 : DCode := (.loop [1, 2, 3, 8, 9, 10, 47] hodmanref17_Lowest.c18)
def hodmanref17_Lowest.c28 : DCode := (.seq (.region [⟨0, some 45, .move (.t 9), none⟩]) (.cond (.t 45) (.seq (.region [⟨0, some 46, .move (.t 8), none⟩,
    ⟨1, some 6, .move (.t 46), none⟩,
    ⟨2, some 7, .move (.k (.c (.bool true))), none⟩]) .ret) .skip))
def hodmanref17_Lowest.c32 : DCode := (.region [⟨0, some 17, .move (.t 8), none⟩,
    ⟨1, some 18, .move (.t 2), none⟩,
    ⟨2, some 19, .bin .add .i64 (.t 17) (.t 18), none⟩,
    ⟨3, some 8, .move (.t 19), none⟩])
def hodmanref17_Lowest.c34 : DCode := (.seq (.seq (.region [⟨0, some 11, .move (.t 8), none⟩,
    ⟨1, some 12, .move (.t 2), none⟩,
    ⟨2, some 13, .bin .add .i64 (.t 11) (.t 12), none⟩,
    ⟨3, some 14, .faddr 3 6, none⟩,
    ⟨4, some 15, .ldL 14 47 (.c (.int .i64)), none⟩,
    ⟨5, some 16, .cmp .leq .i64 (.t 13) (.t 15), none⟩]) (.cond (.t 16) .skip (.exit 0))) (.seq (.block 1 (.seq (.region [⟨0, some 9, .move (.k (.c (.bool true))), none⟩]) (.seq (.seq (.region [⟨0, some 10, .move (.k (.c (.int .i64 0))), none⟩]) (.block 2 hodmanref17_Lowest.c19)) hodmanref17_Lowest.c28))) hodmanref17_Lowest.c32))
def hodmanref17_Lowest.c35 : DCode := (.loop [1, 2, 3, 8, 47] hodmanref17_Lowest.c34)
def hodmanref17_Lowest.c40 : DCode := (.seq (.region [⟨0, some 6, .move (.k (.c (.int .i64 0))), none⟩,
    ⟨1, some 7, .move (.k (.c (.bool false))), none⟩]) .ret)
def hodmanref17_Lowest.d : DFn := { ntmps := 48, res := [.t 6, .t 7], body := (.seq (.region [⟨0, some 3, .boxv 47 [14] (.t 0) 8, none⟩,
    ⟨1, some 6, .move (.k (.c (.int .i64 0))), none⟩,
    ⟨2, some 7, .move (.k (.c (.bool false))), none⟩]) (.seq (.seq (.region [⟨0, some 8, .move (.k (.c (.int .i64 0))), none⟩]) (.block 0 hodmanref17_Lowest.c35)) hodmanref17_Lowest.c40)) }
def hodmanref17_Lowest.k40 (M : Mach) (C : Call) : Kont := execC M.j C (M.ag C) hodmanref17_Lowest.c40 ({ exits := [], ret := retK hodmanref17_Lowest.d } : Env) (retK hodmanref17_Lowest.d)
def hodmanref17_Lowest.e36 (M : Mach) (C : Call) : Env := { exits := (0, (hodmanref17_Lowest.k40 M C)) :: (({ exits := [], ret := retK hodmanref17_Lowest.d } : Env)).exits, ret := (({ exits := [], ret := retK hodmanref17_Lowest.d } : Env)).ret }
def hodmanref17_Lowest.L35 (M : Mach) (C : Call) (l1i : Nat) (l1o : Nat) (l1n : Nat) (charge2 : Int) (at8 : Int) (c47_0 : Int) (c47_1 : Int) (c47_2 : Int) (c47_3 : Int) (c47_4 : Int) (c47_5 : Int) (c47_6 : Int) (c47_7 : Int) (G : GH) : Option Res := M.ag C [1, 2, 3, 8, 47] hodmanref17_Lowest.c34 (hodmanref17_Lowest.e36 M C) (hodmanref17_Lowest.k40 M C) [.und, .v (.c (.sl 3 l1i l1o l1n)), .v (.c (.int .i64 charge2)), .ref 47 0, .und, .und, .und, .und, .v (.c (.int .i64 at8)), .und, .und, .und, .und, .und, .und, .und, .und, .und, .und, .und, .und, .und, .und, .und, .und, .und, .und, .und, .und, .und, .und, .und, .und, .und, .und, .und, .und, .und, .und, .und, .und, .und, .und, .und, .und, .und, .und, .box [.int .i64 c47_0, .int .i64 c47_1, .int .i64 c47_2, .int .i64 c47_3, .int .i64 c47_4, .int .i64 c47_5, .int .i64 c47_6, .int .i64 c47_7]] G
def hodmanref17_Lowest.k35 (M : Mach) (C : Call) : Kont := fun tm G => M.ag C [1, 2, 3, 8, 47] hodmanref17_Lowest.c34 (hodmanref17_Lowest.e36 M C) (hodmanref17_Lowest.k40 M C) (restr [1, 2, 3, 8, 47] 0 tm) G
def hodmanref17_Lowest.k32 (M : Mach) (C : Call) : Kont := execC M.j C (M.ag C) hodmanref17_Lowest.c32 (hodmanref17_Lowest.e36 M C) (hodmanref17_Lowest.k35 M C)
def hodmanref17_Lowest.e31 (M : Mach) (C : Call) : Env := { exits := (1, (hodmanref17_Lowest.k32 M C)) :: ((hodmanref17_Lowest.e36 M C)).exits, ret := ((hodmanref17_Lowest.e36 M C)).ret }
def hodmanref17_Lowest.k28 (M : Mach) (C : Call) : Kont := execC M.j C (M.ag C) hodmanref17_Lowest.c28 (hodmanref17_Lowest.e31 M C) (hodmanref17_Lowest.k32 M C)
def hodmanref17_Lowest.e20 (M : Mach) (C : Call) : Env := { exits := (2, (hodmanref17_Lowest.k28 M C)) :: ((hodmanref17_Lowest.e31 M C)).exits, ret := ((hodmanref17_Lowest.e31 M C)).ret }
def hodmanref17_Lowest.L19 (M : Mach) (C : Call) (l1i : Nat) (l1o : Nat) (l1n : Nat) (charge2 : Int) (at8 : Int) (free9 : Bool) (i10 : Int) (c47_0 : Int) (c47_1 : Int) (c47_2 : Int) (c47_3 : Int) (c47_4 : Int) (c47_5 : Int) (c47_6 : Int) (c47_7 : Int) (G : GH) : Option Res := M.ag C [1, 2, 3, 8, 9, 10, 47] hodmanref17_Lowest.c18 (hodmanref17_Lowest.e20 M C) (hodmanref17_Lowest.k28 M C) [.und, .v (.c (.sl 3 l1i l1o l1n)), .v (.c (.int .i64 charge2)), .ref 47 0, .und, .und, .und, .und, .v (.c (.int .i64 at8)), .v (.c (.bool free9)), .v (.c (.int .i64 i10)), .und, .und, .und, .und, .und, .und, .und, .und, .und, .und, .und, .und, .und, .und, .und, .und, .und, .und, .und, .und, .und, .und, .und, .und, .und, .und, .und, .und, .und, .und, .und, .und, .und, .und, .und, .und, .box [.int .i64 c47_0, .int .i64 c47_1, .int .i64 c47_2, .int .i64 c47_3, .int .i64 c47_4, .int .i64 c47_5, .int .i64 c47_6, .int .i64 c47_7]] G
def hodmanref17_Lowest.k19 (M : Mach) (C : Call) : Kont := fun tm G => M.ag C [1, 2, 3, 8, 9, 10, 47] hodmanref17_Lowest.c18 (hodmanref17_Lowest.e20 M C) (hodmanref17_Lowest.k28 M C) (restr [1, 2, 3, 8, 9, 10, 47] 0 tm) G
def hodmanref17_Lowest.k17 (M : Mach) (C : Call) : Kont := execC M.j C (M.ag C) hodmanref17_Lowest.c17 (hodmanref17_Lowest.e20 M C) (hodmanref17_Lowest.k19 M C)
def hodmanref17_Lowest.J12 (M : Mach) (C : Call) (l1i : Nat) (l1o : Nat) (l1n : Nat) (charge2 : Int) (at8 : Int) (free9 : Bool) (i10 : Int) (t26 : Bool) (c47_0 : Int) (c47_1 : Int) (c47_2 : Int) (c47_3 : Int) (c47_4 : Int) (c47_5 : Int) (c47_6 : Int) (c47_7 : Int) (G : GH) : Option Res := M.j (execC M.j C (M.ag C) hodmanref17_Lowest.c12 (hodmanref17_Lowest.e20 M C) (hodmanref17_Lowest.k17 M C)) [.und, .v (.c (.sl 3 l1i l1o l1n)), .v (.c (.int .i64 charge2)), .ref 47 0, .und, .und, .und, .und, .v (.c (.int .i64 at8)), .v (.c (.bool free9)), .v (.c (.int .i64 i10)), .und, .und, .und, .und, .und, .und, .und, .und, .und, .und, .und, .und, .und, .und, .und, .v (.c (.bool t26)), .und, .und, .und, .und, .und, .und, .und, .und, .und, .und, .und, .und, .und, .und, .und, .und, .und, .und, .und, .und, .box [.int .i64 c47_0, .int .i64 c47_1, .int .i64 c47_2, .int .i64 c47_3, .int .i64 c47_4, .int .i64 c47_5, .int .i64 c47_6, .int .i64 c47_7]] G
theorem hodmanref17_Lowest.L35_eq (M : Mach) (C : Call) (l1i : Nat) (l1o : Nat) (l1n : Nat) (charge2 : Int) (at8 : Int) (c47_0 : Int) (c47_1 : Int) (c47_2 : Int) (c47_3 : Int) (c47_4 : Int) (c47_5 : Int) (c47_6 : Int) (c47_7 : Int) (G : GH) : hodmanref17_Lowest.L35 M C l1i l1o l1n charge2 at8 c47_0 c47_1 c47_2 c47_3 c47_4 c47_5 c47_6 c47_7 G = (bif decide (IntKind.i64.wrap (at8 + charge2) ≤ c47_6) then hodmanref17_Lowest.L19 M C l1i l1o l1n charge2 at8 true 0 c47_0 c47_1 c47_2 c47_3 c47_4 c47_5 c47_6 c47_7 G else some ([.c (.int .i64 0), .c (.bool false)], G)) := (M.hs _ _ _ _ _ _ _).trans (by kernel_rfl)
theorem hodmanref17_Lowest.L19_eq (M : Mach) (C : Call) (l1i : Nat) (l1o : Nat) (l1n : Nat) (charge2 : Int) (at8 : Int) (free9 : Bool) (i10 : Int) (c47_0 : Int) (c47_1 : Int) (c47_2 : Int) (c47_3 : Int) (c47_4 : Int) (c47_5 : Int) (c47_6 : Int) (c47_7 : Int) (G : GH) : hodmanref17_Lowest.L19 M C l1i l1o l1n charge2 at8 free9 i10 c47_0 c47_1 c47_2 c47_3 c47_4 c47_5 c47_6 c47_7 G = (bif decide (i10 < ((l1n : Nat) : Int)) then hodmanref17_Lowest.J12 M C l1i l1o l1n charge2 at8 free9 i10 free9 c47_0 c47_1 c47_2 c47_3 c47_4 c47_5 c47_6 c47_7 G else hodmanref17_Lowest.J12 M C l1i l1o l1n charge2 at8 free9 i10 false c47_0 c47_1 c47_2 c47_3 c47_4 c47_5 c47_6 c47_7 G) := (M.hs _ _ _ _ _ _ _).trans (by kernel_rfl)
theorem hodmanref17_Lowest.J12_eq (M : Mach) (C : Call) (l1i : Nat) (l1o : Nat) (l1n : Nat) (charge2 : Int) (at8 : Int) (free9 : Bool) (i10 : Int) (t26 : Bool) (c47_0 : Int) (c47_1 : Int) (c47_2 : Int) (c47_3 : Int) (c47_4 : Int) (c47_5 : Int) (c47_6 : Int) (c47_7 : Int) (G : GH) : hodmanref17_Lowest.J12 M C l1i l1o l1n charge2 at8 free9 i10 t26 c47_0 c47_1 c47_2 c47_3 c47_4 c47_5 c47_6 c47_7 G = (bif t26 then guardK (decide (0 ≤ i10 ∧ i10 < ((l1n : Nat) : Int))) (((G.ld l1i ((l1o + Int.toNat i10 * 3) + 0)).bind (Cell.asI .i64)).bind fun qx_1 => guardK (decide (0 ≤ i10 ∧ i10 < ((l1n : Nat) : Int))) (((G.ld l1i ((l1o + Int.toNat i10 * 3) + 1)).bind (Cell.asI .i64)).bind fun qx_2 => (C hodmanref8_Over.id [.agg [.int .i64 at8, .int .i64 charge2], .agg [.int .i64 qx_1, .int .i64 qx_2]] G).bind fun qr_3 => (((qr_3.1[0]?).bind V1.c?).bind Cell.asB).bind fun qb_4 => hodmanref17_Lowest.L19 M C l1i l1o l1n charge2 at8 (!qb_4) (IntKind.i64.wrap (i10 + 1)) c47_0 c47_1 c47_2 c47_3 c47_4 c47_5 c47_6 c47_7 qr_3.2)) else bif free9 then some ([.c (.int .i64 at8), .c (.bool true)], G) else hodmanref17_Lowest.L35 M C l1i l1o l1n charge2 (IntKind.i64.wrap (at8 + charge2)) c47_0 c47_1 c47_2 c47_3 c47_4 c47_5 c47_6 c47_7 G) := (M.hj _ _ _).trans (by kernel_rfl)
def hodmanref17_Lowest.f (M : Mach) (C : Call) (c0_0 : Int) (c0_1 : Int) (c0_2 : Int) (c0_3 : Int) (c0_4 : Int) (c0_5 : Int) (c0_6 : Int) (c0_7 : Int) (l1i : Nat) (l1o : Nat) (l1n : Nat) (charge2 : Int) (G : GH) : Option Res := hodmanref17_Lowest.L35 M C l1i l1o l1n charge2 0 c0_0 c0_1 c0_2 c0_3 c0_4 c0_5 c0_6 c0_7 G
theorem hodmanref17_Lowest.eq (M : Mach) (C : Call) (c0_0 : Int) (c0_1 : Int) (c0_2 : Int) (c0_3 : Int) (c0_4 : Int) (c0_5 : Int) (c0_6 : Int) (c0_7 : Int) (l1i : Nat) (l1o : Nat) (l1n : Nat) (charge2 : Int) (G : GH) : runF M C hodmanref17_Lowest.d [.agg [.int .i64 c0_0, .int .i64 c0_1, .int .i64 c0_2, .int .i64 c0_3, .int .i64 c0_4, .int .i64 c0_5, .int .i64 c0_6, .int .i64 c0_7], .c (.sl 3 l1i l1o l1n), .c (.int .i64 charge2)] G = hodmanref17_Lowest.f M C c0_0 c0_1 c0_2 c0_3 c0_4 c0_5 c0_6 c0_7 l1i l1o l1n charge2 G := by kernel_rfl

/- 39 hodman/hodmanref8.Trim -/
def hodmanref8_Trim.c13 : DCode := (.cond (.t 47) (.region [⟨0, some 48, .move (.t 7), none⟩,
    ⟨1, some 49, .bin .add .i64 (.t 48) (.k (.c (.int .i64 1))), none⟩,
    ⟨2, some 7, .move (.t 49), none⟩]) .skip)
def hodmanref8_Trim.c14 : DCode := (.seq (.region [⟨0, some 37, .move (.t 0), none⟩,
    ⟨1, some 38, .move (.t 8), none⟩,
    ⟨2, some 39, .iaddr (.t 37) (.t 38) 1, none⟩,
    ⟨3, some 40, .ldG 39 (.c (.bool)), none⟩,
    ⟨4, some 41, .move (.t 40), none⟩,
    ⟨5, some 42, .move (.t 6), some (41, true)⟩,
    ⟨6, some 43, .move (.t 8), some (41, true)⟩,
    ⟨7, some 44, .iaddr (.t 42) (.t 43) 1, some (41, true)⟩,
    ⟨8, some 45, .ldG 44 (.c (.bool)), some (41, true)⟩,
    ⟨9, some 46, .not (.t 45), some (41, true)⟩,
    ⟨10, some 47, .pick (.t 41) (.t 46) (.k (.c (.bool false))), none⟩]) (.cut [0, 1, 6, 7, 8, 47] hodmanref8_Trim.c13))
def hodmanref8_Trim.c17 : DCode := (.region [⟨0, some 16, .move (.t 8), none⟩,
    ⟨1, some 17, .bin .add .i64 (.t 16) (.k (.c (.int .i64 1))), none⟩,
    ⟨2, some 8, .move (.t 17), none⟩])
def hodmanref8_Trim.c19 : DCode := (.seq (.seq (.region [⟨0, some 12, .move (.t 8), none⟩,
    ⟨1, some 13, .move (.t 0), none⟩,
    ⟨2, some 14, .len (.t 13), none⟩,
    ⟨3, some 15, .cmp .lss .i64 (.t 12) (.t 14), none⟩]) (.cond (.t 15) .skip (.exit 0))) (.seq (.block 1 (.seq (.region [⟨0, some 18, .move (.t 6), none⟩,
    ⟨1, some 19, .move (.t 8), none⟩,
    ⟨2, some 20, .move (.t 0), none⟩,
    ⟨3, some 21, .move (.t 8), none⟩,
    ⟨4, some 22, .iaddr (.t 20) (.t 21) 1, none⟩,
    ⟨5, some 23, .ldG 22 (.c (.bool)), none⟩,
    ⟨6, some 24, .move (.t 23), none⟩,
    ⟨7, some 25, .move (.t 8), some (24, true)⟩,
    ⟨8, some 26, .move (.t 1), some (24, true)⟩,
    ⟨9, some 27, .len (.t 26), some (24, true)⟩,
    ⟨10, some 28, .cmp .lss .i64 (.t 25) (.t 27), some (24, true)⟩,
    ⟨11, some 29, .pick (.t 24) (.t 28) (.k (.c (.bool false))), none⟩,
    ⟨12, some 30, .move (.t 29), none⟩,
    ⟨13, some 31, .move (.t 1), some (30, true)⟩,
    ⟨14, some 32, .move (.t 8), some (30, true)⟩,
    ⟨15, some 33, .iaddr (.t 31) (.t 32) 1, some (30, true)⟩,
    ⟨16, some 34, .ldG 33 (.c (.bool)), some (30, true)⟩,
    ⟨17, some 35, .pick (.t 30) (.t 34) (.k (.c (.bool false))), none⟩,
    ⟨18, some 36, .iaddr (.t 18) (.t 19) 1, none⟩,
    ⟨19, none, .stG 36 (.t 35) 1, none⟩]) (.cut [0, 1, 6, 7, 8] hodmanref8_Trim.c14))) (.cut [0, 1, 6, 7, 8] hodmanref8_Trim.c17)))
def hodmanref8_Trim.c20 : DCode := (.loop [0, 1, 6, 7, 8] hodmanref8_Trim.c19)
def hodmanref8_Trim.c25 : DCode := (.seq (.region [⟨0, some 50, .move (.t 6), none⟩,
    ⟨1, some 51, .move (.t 7), none⟩,
    ⟨2, some 4, .move (.t 50), none⟩,
    ⟨3, some 5, .move (.t 51), none⟩]) .ret)
def hodmanref8_Trim.d : DFn := { ntmps := 52, res := [.t 4, .t 5], body := (.seq (.region [⟨0, some 4, .move (.k (.c (.sl 1 0 0 0))), none⟩,
    ⟨1, some 5, .move (.k (.c (.int .i64 0))), none⟩]) (.seq (.region [⟨0, some 9, .move (.t 0), none⟩,
    ⟨1, some 10, .len (.t 9), none⟩,
    ⟨2, some 11, .mkslice (.t 10) 1 1 [.bool false], none⟩,
    ⟨3, some 6, .move (.t 11), none⟩]) (.seq (.region [⟨0, some 7, .move (.k (.c (.int .i64 0))), none⟩]) (.seq (.seq (.region [⟨0, some 8, .move (.k (.c (.int .i64 0))), none⟩]) (.block 0 hodmanref8_Trim.c20)) hodmanref8_Trim.c25)))) }
def hodmanref8_Trim.k25 (M : Mach) (C : Call) : Kont := execC M.j C (M.ag C) hodmanref8_Trim.c25 ({ exits := [], ret := retK hodmanref8_Trim.d } : Env) (retK hodmanref8_Trim.d)
def hodmanref8_Trim.e21 (M : Mach) (C : Call) : Env := { exits := (0, (hodmanref8_Trim.k25 M C)) :: (({ exits := [], ret := retK hodmanref8_Trim.d } : Env)).exits, ret := (({ exits := [], ret := retK hodmanref8_Trim.d } : Env)).ret }
def hodmanref8_Trim.L20 (M : Mach) (C : Call) (on0i : Nat) (on0o : Nat) (on0n : Nat) (met1i : Nat) (met1o : Nat) (met1n : Nat) (out6i : Nat) (out6o : Nat) (out6n : Nat) (gone7 : Int) (i8 : Int) (G : GH) : Option Res := M.ag C [0, 1, 6, 7, 8] hodmanref8_Trim.c19 (hodmanref8_Trim.e21 M C) (hodmanref8_Trim.k25 M C) [.v (.c (.sl 1 on0i on0o on0n)), .v (.c (.sl 1 met1i met1o met1n)), .und, .und, .und, .und, .v (.c (.sl 1 out6i out6o out6n)), .v (.c (.int .i64 gone7)), .v (.c (.int .i64 i8)), .und, .und, .und, .und, .und, .und, .und, .und, .und, .und, .und, .und, .und, .und, .und, .und, .und, .und, .und, .und, .und, .und, .und, .und, .und, .und, .und, .und, .und, .und, .und, .und, .und, .und, .und, .und, .und, .und, .und, .und, .und, .und, .und] G
def hodmanref8_Trim.k20 (M : Mach) (C : Call) : Kont := fun tm G => M.ag C [0, 1, 6, 7, 8] hodmanref8_Trim.c19 (hodmanref8_Trim.e21 M C) (hodmanref8_Trim.k25 M C) (restr [0, 1, 6, 7, 8] 0 tm) G
def hodmanref8_Trim.k17 (M : Mach) (C : Call) : Kont := execC M.j C (M.ag C) (.cut [0, 1, 6, 7, 8] hodmanref8_Trim.c17) (hodmanref8_Trim.e21 M C) (hodmanref8_Trim.k20 M C)
def hodmanref8_Trim.e16 (M : Mach) (C : Call) : Env := { exits := (1, (hodmanref8_Trim.k17 M C)) :: ((hodmanref8_Trim.e21 M C)).exits, ret := ((hodmanref8_Trim.e21 M C)).ret }
def hodmanref8_Trim.J14 (M : Mach) (C : Call) (on0i : Nat) (on0o : Nat) (on0n : Nat) (met1i : Nat) (met1o : Nat) (met1n : Nat) (out6i : Nat) (out6o : Nat) (out6n : Nat) (gone7 : Int) (i8 : Int) (G : GH) : Option Res := M.j (execC M.j C (M.ag C) hodmanref8_Trim.c14 (hodmanref8_Trim.e16 M C) (hodmanref8_Trim.k17 M C)) [.v (.c (.sl 1 on0i on0o on0n)), .v (.c (.sl 1 met1i met1o met1n)), .und, .und, .und, .und, .v (.c (.sl 1 out6i out6o out6n)), .v (.c (.int .i64 gone7)), .v (.c (.int .i64 i8)), .und, .und, .und, .und, .und, .und, .und, .und, .und, .und, .und, .und, .und, .und, .und, .und, .und, .und, .und, .und, .und, .und, .und, .und, .und, .und, .und, .und, .und, .und, .und, .und, .und, .und, .und, .und, .und, .und, .und, .und, .und, .und, .und] G
def hodmanref8_Trim.J13 (M : Mach) (C : Call) (on0i : Nat) (on0o : Nat) (on0n : Nat) (met1i : Nat) (met1o : Nat) (met1n : Nat) (out6i : Nat) (out6o : Nat) (out6n : Nat) (gone7 : Int) (i8 : Int) (t47 : Bool) (G : GH) : Option Res := M.j (execC M.j C (M.ag C) hodmanref8_Trim.c13 (hodmanref8_Trim.e16 M C) (hodmanref8_Trim.k17 M C)) [.v (.c (.sl 1 on0i on0o on0n)), .v (.c (.sl 1 met1i met1o met1n)), .und, .und, .und, .und, .v (.c (.sl 1 out6i out6o out6n)), .v (.c (.int .i64 gone7)), .v (.c (.int .i64 i8)), .und, .und, .und, .und, .und, .und, .und, .und, .und, .und, .und, .und, .und, .und, .und, .und, .und, .und, .und, .und, .und, .und, .und, .und, .und, .und, .und, .und, .und, .und, .und, .und, .und, .und, .und, .und, .und, .und, .v (.c (.bool t47)), .und, .und, .und, .und] G
def hodmanref8_Trim.J17 (M : Mach) (C : Call) (on0i : Nat) (on0o : Nat) (on0n : Nat) (met1i : Nat) (met1o : Nat) (met1n : Nat) (out6i : Nat) (out6o : Nat) (out6n : Nat) (gone7 : Int) (i8 : Int) (G : GH) : Option Res := M.j (execC M.j C (M.ag C) hodmanref8_Trim.c17 (hodmanref8_Trim.e21 M C) (hodmanref8_Trim.k20 M C)) [.v (.c (.sl 1 on0i on0o on0n)), .v (.c (.sl 1 met1i met1o met1n)), .und, .und, .und, .und, .v (.c (.sl 1 out6i out6o out6n)), .v (.c (.int .i64 gone7)), .v (.c (.int .i64 i8)), .und, .und, .und, .und, .und, .und, .und, .und, .und, .und, .und, .und, .und, .und, .und, .und, .und, .und, .und, .und, .und, .und, .und, .und, .und, .und, .und, .und, .und, .und, .und, .und, .und, .und, .und, .und, .und, .und, .und, .und, .und, .und, .und] G
theorem hodmanref8_Trim.L20_eq (M : Mach) (C : Call) (on0i : Nat) (on0o : Nat) (on0n : Nat) (met1i : Nat) (met1o : Nat) (met1n : Nat) (out6i : Nat) (out6o : Nat) (out6n : Nat) (gone7 : Int) (i8 : Int) (G : GH) : hodmanref8_Trim.L20 M C on0i on0o on0n met1i met1o met1n out6i out6o out6n gone7 i8 G = (bif decide (i8 < ((on0n : Nat) : Int)) then guardK (decide (0 ≤ i8 ∧ i8 < ((on0n : Nat) : Int))) (((G.ld on0i (on0o + Int.toNat i8 * 1)).bind Cell.asB).bind fun qb_2 => bif qb_2 then bif decide (i8 < ((met1n : Nat) : Int)) then guardK (decide (0 ≤ i8 ∧ i8 < ((met1n : Nat) : Int))) (((G.ld met1i (met1o + Int.toNat i8 * 1)).bind Cell.asB).bind fun qb_3 => guardK (decide (0 ≤ i8 ∧ i8 < ((out6n : Nat) : Int))) ((G.sts out6i (out6o + Int.toNat i8 * 1) [.bool qb_3]).bind fun qG_4 => hodmanref8_Trim.J14 M C on0i on0o on0n met1i met1o met1n out6i out6o out6n gone7 i8 qG_4)) else guardK (decide (0 ≤ i8 ∧ i8 < ((out6n : Nat) : Int))) ((G.sts out6i (out6o + Int.toNat i8 * 1) [.bool false]).bind fun qG_5 => hodmanref8_Trim.J14 M C on0i on0o on0n met1i met1o met1n out6i out6o out6n gone7 i8 qG_5) else guardK (decide (0 ≤ i8 ∧ i8 < ((out6n : Nat) : Int))) ((G.sts out6i (out6o + Int.toNat i8 * 1) [.bool false]).bind fun qG_6 => hodmanref8_Trim.J14 M C on0i on0o on0n met1i met1o met1n out6i out6o out6n gone7 i8 qG_6)) else some ([.c (.sl 1 out6i out6o out6n), .c (.int .i64 gone7)], G)) := (M.hs _ _ _ _ _ _ _).trans (by kernel_rfl)
theorem hodmanref8_Trim.J14_eq (M : Mach) (C : Call) (on0i : Nat) (on0o : Nat) (on0n : Nat) (met1i : Nat) (met1o : Nat) (met1n : Nat) (out6i : Nat) (out6o : Nat) (out6n : Nat) (gone7 : Int) (i8 : Int) (G : GH) : hodmanref8_Trim.J14 M C on0i on0o on0n met1i met1o met1n out6i out6o out6n gone7 i8 G = (guardK (decide (0 ≤ i8 ∧ i8 < ((on0n : Nat) : Int))) (((G.ld on0i (on0o + Int.toNat i8 * 1)).bind Cell.asB).bind fun qb_7 => bif qb_7 then guardK (decide (0 ≤ i8 ∧ i8 < ((out6n : Nat) : Int))) (((G.ld out6i (out6o + Int.toNat i8 * 1)).bind Cell.asB).bind fun qb_8 => hodmanref8_Trim.J13 M C on0i on0o on0n met1i met1o met1n out6i out6o out6n gone7 i8 (!qb_8) G) else hodmanref8_Trim.J13 M C on0i on0o on0n met1i met1o met1n out6i out6o out6n gone7 i8 false G)) := (M.hj _ _ _).trans (by kernel_rfl)
theorem hodmanref8_Trim.J13_eq (M : Mach) (C : Call) (on0i : Nat) (on0o : Nat) (on0n : Nat) (met1i : Nat) (met1o : Nat) (met1n : Nat) (out6i : Nat) (out6o : Nat) (out6n : Nat) (gone7 : Int) (i8 : Int) (t47 : Bool) (G : GH) : hodmanref8_Trim.J13 M C on0i on0o on0n met1i met1o met1n out6i out6o out6n gone7 i8 t47 G = (bif t47 then hodmanref8_Trim.J17 M C on0i on0o on0n met1i met1o met1n out6i out6o out6n (IntKind.i64.wrap (gone7 + 1)) i8 G else hodmanref8_Trim.J17 M C on0i on0o on0n met1i met1o met1n out6i out6o out6n gone7 i8 G) := (M.hj _ _ _).trans (by kernel_rfl)
theorem hodmanref8_Trim.J17_eq (M : Mach) (C : Call) (on0i : Nat) (on0o : Nat) (on0n : Nat) (met1i : Nat) (met1o : Nat) (met1n : Nat) (out6i : Nat) (out6o : Nat) (out6n : Nat) (gone7 : Int) (i8 : Int) (G : GH) : hodmanref8_Trim.J17 M C on0i on0o on0n met1i met1o met1n out6i out6o out6n gone7 i8 G = (hodmanref8_Trim.L20 M C on0i on0o on0n met1i met1o met1n out6i out6o out6n gone7 (IntKind.i64.wrap (i8 + 1)) G) := (M.hj _ _ _).trans (by kernel_rfl)
def hodmanref8_Trim.f (M : Mach) (C : Call) (on0i : Nat) (on0o : Nat) (on0n : Nat) (met1i : Nat) (met1o : Nat) (met1n : Nat) (G : GH) : Option Res := guardK (decide (0 ≤ ((on0n : Nat) : Int) ∧ ((on0n : Nat) : Int) ≤ (most : Int))) (let qG_1 := G.alloc (.row (reps (Int.toNat ((on0n : Nat) : Int)) [.bool false]) false); hodmanref8_Trim.L20 M C on0i on0o on0n met1i met1o met1n G.next 0 (Int.toNat ((on0n : Nat) : Int)) 0 0 qG_1)
theorem hodmanref8_Trim.eq (M : Mach) (C : Call) (on0i : Nat) (on0o : Nat) (on0n : Nat) (met1i : Nat) (met1o : Nat) (met1n : Nat) (G : GH) : runF M C hodmanref8_Trim.d [.c (.sl 1 on0i on0o on0n), .c (.sl 1 met1i met1o met1n)] G = hodmanref8_Trim.f M C on0i on0o on0n met1i met1o met1n G := by kernel_rfl

/- 35 hodman/hodmanref17.put -/
def hodmanref17_put.c12 : DCode := (.cond (.t 25) (.region [⟨0, some 26, .move (.t 5), none⟩,
    ⟨1, some 27, .ldL 3 44 (.agg [.int .i64, .int .i64, .int .i64]), none⟩,
    ⟨2, some 28, .bslice 1 3 [.int .i64 0, .int .i64 0, .int .i64 0] [(0, 3, .t 27)], none⟩,
    ⟨3, some 29, .app (.t 26) (.t 28) 3 24, none⟩,
    ⟨4, some 5, .move (.t 29), none⟩,
    ⟨5, some 6, .move (.k (.c (.bool true))), none⟩]) .skip)
def hodmanref17_put.c14 : DCode := (.region [⟨0, some 30, .move (.t 5), none⟩,
    ⟨1, some 31, .move (.t 0), none⟩,
    ⟨2, some 32, .move (.t 7), none⟩,
    ⟨3, some 33, .iaddr (.t 31) (.t 32) 3, none⟩,
    ⟨4, some 34, .ldG 33 (.agg [.int .i64, .int .i64, .int .i64]), none⟩,
    ⟨5, some 35, .bslice 1 3 [.int .i64 0, .int .i64 0, .int .i64 0] [(0, 3, .t 34)], none⟩,
    ⟨6, some 36, .app (.t 30) (.t 35) 3 24, none⟩,
    ⟨7, some 5, .move (.t 36), none⟩])
def hodmanref17_put.c17 : DCode := (.region [⟨0, some 12, .move (.t 7), none⟩,
    ⟨1, some 13, .bin .add .i64 (.t 12) (.k (.c (.int .i64 1))), none⟩,
    ⟨2, some 7, .move (.t 13), none⟩])
def hodmanref17_put.c19 : DCode := (.seq (.seq (.region [⟨0, some 8, .move (.t 7), none⟩,
    ⟨1, some 9, .move (.t 0), none⟩,
    ⟨2, some 10, .len (.t 9), none⟩,
    ⟨3, some 11, .cmp .lss .i64 (.t 8) (.t 10), none⟩]) (.cond (.t 11) .skip (.exit 0))) (.seq (.block 1 (.seq (.seq (.region [⟨0, some 14, .move (.t 6), none⟩,
    ⟨1, some 15, .not (.t 14), none⟩,
    ⟨2, some 16, .move (.t 15), none⟩,
    ⟨3, some 17, .move (.t 0), some (16, true)⟩,
    ⟨4, some 18, .move (.t 7), some (16, true)⟩,
    ⟨5, some 19, .iaddr (.t 17) (.t 18) 3, some (16, true)⟩,
    ⟨6, some 20, .faddr 19 0, some (16, true)⟩,
    ⟨7, some 21, .ldG 20 (.c (.int .i64)), some (16, true)⟩,
    ⟨8, some 22, .faddr 3 0, some (16, true)⟩,
    ⟨9, some 23, .ldL 22 44 (.c (.int .i64)), some (16, true)⟩,
    ⟨10, some 24, .cmp .gtr .i64 (.t 21) (.t 23), some (16, true)⟩,
    ⟨11, some 25, .pick (.t 16) (.t 24) (.k (.c (.bool false))), none⟩]) (.cut [0, 3, 5, 6, 7, 25, 44] hodmanref17_put.c12)) (.cut [0, 3, 5, 6, 7, 44] hodmanref17_put.c14))) hodmanref17_put.c17))
def hodmanref17_put.c20 : DCode := (.loop [0, 3, 5, 6, 7, 44] hodmanref17_put.c19)
def hodmanref17_put.c30 : DCode := (.seq (.region [⟨0, some 43, .move (.t 5), none⟩,
    ⟨1, some 4, .move (.t 43), none⟩]) .ret)
def hodmanref17_put.c31 : DCode := (.seq (.seq (.region [⟨0, some 37, .move (.t 6), none⟩,
    ⟨1, some 38, .not (.t 37), none⟩]) (.cond (.t 38) (.region [⟨0, some 39, .move (.t 5), none⟩,
    ⟨1, some 40, .ldL 3 44 (.agg [.int .i64, .int .i64, .int .i64]), none⟩,
    ⟨2, some 41, .bslice 1 3 [.int .i64 0, .int .i64 0, .int .i64 0] [(0, 3, .t 40)], none⟩,
    ⟨3, some 42, .app (.t 39) (.t 41) 3 24, none⟩,
    ⟨4, some 5, .move (.t 42), none⟩]) .skip)) (.cut [5] hodmanref17_put.c30))
def hodmanref17_put.d : DFn := { ntmps := 45, res := [.t 4], body := (.seq (.region [⟨0, some 3, .boxv 44 [22] (.t 1) 3, none⟩,
    ⟨1, some 4, .move (.k (.c (.sl 3 0 0 0))), none⟩]) (.seq (.region [⟨0, some 5, .move (.k (.c (.sl 3 0 0 0))), none⟩]) (.seq (.region [⟨0, some 6, .move (.k (.c (.bool false))), none⟩]) (.seq (.seq (.region [⟨0, some 7, .move (.k (.c (.int .i64 0))), none⟩]) (.block 0 hodmanref17_put.c20)) hodmanref17_put.c31)))) }
def hodmanref17_put.k31 (M : Mach) (C : Call) : Kont := execC M.j C (M.ag C) hodmanref17_put.c31 ({ exits := [], ret := retK hodmanref17_put.d } : Env) (retK hodmanref17_put.d)
def hodmanref17_put.e21 (M : Mach) (C : Call) : Env := { exits := (0, (hodmanref17_put.k31 M C)) :: (({ exits := [], ret := retK hodmanref17_put.d } : Env)).exits, ret := (({ exits := [], ret := retK hodmanref17_put.d } : Env)).ret }
def hodmanref17_put.L20 (M : Mach) (C : Call) (l0i : Nat) (l0o : Nat) (l0n : Nat) (out5i : Nat) (out5o : Nat) (out5n : Nat) (done6 : Bool) (i7 : Int) (b44_0 : Int) (b44_1 : Int) (b44_2 : Int) (G : GH) : Option Res := M.ag C [0, 3, 5, 6, 7, 44] hodmanref17_put.c19 (hodmanref17_put.e21 M C) (hodmanref17_put.k31 M C) [.v (.c (.sl 3 l0i l0o l0n)), .und, .und, .ref 44 0, .und, .v (.c (.sl 3 out5i out5o out5n)), .v (.c (.bool done6)), .v (.c (.int .i64 i7)), .und, .und, .und, .und, .und, .und, .und, .und, .und, .und, .und, .und, .und, .und, .und, .und, .und, .und, .und, .und, .und, .und, .und, .und, .und, .und, .und, .und, .und, .und, .und, .und, .und, .und, .und, .und, .box [.int .i64 b44_0, .int .i64 b44_1, .int .i64 b44_2]] G
def hodmanref17_put.k20 (M : Mach) (C : Call) : Kont := fun tm G => M.ag C [0, 3, 5, 6, 7, 44] hodmanref17_put.c19 (hodmanref17_put.e21 M C) (hodmanref17_put.k31 M C) (restr [0, 3, 5, 6, 7, 44] 0 tm) G
def hodmanref17_put.k17 (M : Mach) (C : Call) : Kont := execC M.j C (M.ag C) hodmanref17_put.c17 (hodmanref17_put.e21 M C) (hodmanref17_put.k20 M C)
def hodmanref17_put.e16 (M : Mach) (C : Call) : Env := { exits := (1, (hodmanref17_put.k17 M C)) :: ((hodmanref17_put.e21 M C)).exits, ret := ((hodmanref17_put.e21 M C)).ret }
def hodmanref17_put.k14 (M : Mach) (C : Call) : Kont := execC M.j C (M.ag C) (.cut [0, 3, 5, 6, 7, 44] hodmanref17_put.c14) (hodmanref17_put.e16 M C) (hodmanref17_put.k17 M C)
def hodmanref17_put.J12 (M : Mach) (C : Call) (l0i : Nat) (l0o : Nat) (l0n : Nat) (out5i : Nat) (out5o : Nat) (out5n : Nat) (done6 : Bool) (i7 : Int) (t25 : Bool) (b44_0 : Int) (b44_1 : Int) (b44_2 : Int) (G : GH) : Option Res := M.j (execC M.j C (M.ag C) hodmanref17_put.c12 (hodmanref17_put.e16 M C) (hodmanref17_put.k14 M C)) [.v (.c (.sl 3 l0i l0o l0n)), .und, .und, .ref 44 0, .und, .v (.c (.sl 3 out5i out5o out5n)), .v (.c (.bool done6)), .v (.c (.int .i64 i7)), .und, .und, .und, .und, .und, .und, .und, .und, .und, .und, .und, .und, .und, .und, .und, .und, .und, .v (.c (.bool t25)), .und, .und, .und, .und, .und, .und, .und, .und, .und, .und, .und, .und, .und, .und, .und, .und, .und, .und, .box [.int .i64 b44_0, .int .i64 b44_1, .int .i64 b44_2]] G
def hodmanref17_put.J30 (M : Mach) (C : Call) (out5i : Nat) (out5o : Nat) (out5n : Nat) (G : GH) : Option Res := M.j (execC M.j C (M.ag C) hodmanref17_put.c30 ({ exits := [], ret := retK hodmanref17_put.d } : Env) (retK hodmanref17_put.d)) [.und, .und, .und, .und, .und, .v (.c (.sl 3 out5i out5o out5n)), .und, .und, .und, .und, .und, .und, .und, .und, .und, .und, .und, .und, .und, .und, .und, .und, .und, .und, .und, .und, .und, .und, .und, .und, .und, .und, .und, .und, .und, .und, .und, .und, .und, .und, .und, .und, .und, .und, .und] G
def hodmanref17_put.J14 (M : Mach) (C : Call) (l0i : Nat) (l0o : Nat) (l0n : Nat) (out5i : Nat) (out5o : Nat) (out5n : Nat) (done6 : Bool) (i7 : Int) (b44_0 : Int) (b44_1 : Int) (b44_2 : Int) (G : GH) : Option Res := M.j (execC M.j C (M.ag C) hodmanref17_put.c14 (hodmanref17_put.e16 M C) (hodmanref17_put.k17 M C)) [.v (.c (.sl 3 l0i l0o l0n)), .und, .und, .ref 44 0, .und, .v (.c (.sl 3 out5i out5o out5n)), .v (.c (.bool done6)), .v (.c (.int .i64 i7)), .und, .und, .und, .und, .und, .und, .und, .und, .und, .und, .und, .und, .und, .und, .und, .und, .und, .und, .und, .und, .und, .und, .und, .und, .und, .und, .und, .und, .und, .und, .und, .und, .und, .und, .und, .und, .box [.int .i64 b44_0, .int .i64 b44_1, .int .i64 b44_2]] G
theorem hodmanref17_put.L20_eq (M : Mach) (C : Call) (l0i : Nat) (l0o : Nat) (l0n : Nat) (out5i : Nat) (out5o : Nat) (out5n : Nat) (done6 : Bool) (i7 : Int) (b44_0 : Int) (b44_1 : Int) (b44_2 : Int) (G : GH) : hodmanref17_put.L20 M C l0i l0o l0n out5i out5o out5n done6 i7 b44_0 b44_1 b44_2 G = (bif decide (i7 < ((l0n : Nat) : Int)) then bif (!done6) then guardK (decide (0 ≤ i7 ∧ i7 < ((l0n : Nat) : Int))) (((G.ld l0i ((l0o + Int.toNat i7 * 3) + 0)).bind (Cell.asI .i64)).bind fun qx_1 => hodmanref17_put.J12 M C l0i l0o l0n out5i out5o out5n done6 i7 (decide (qx_1 > b44_0)) b44_0 b44_1 b44_2 G) else hodmanref17_put.J12 M C l0i l0o l0n out5i out5o out5n done6 i7 false b44_0 b44_1 b44_2 G else bif (!done6) then let qG_2 := G.alloc (.row [.int .i64 b44_0, .int .i64 b44_1, .int .i64 b44_2] false); (if 1 = 0 then some [] else qG_2.lds G.next 0 (1 * 3)).bind fun qnew_3 => guardK (decide (out5n + 1 ≤ most)) ((qG_2.app out5i out5o out5n 3 1 qnew_3).bind fun qp_4 => hodmanref17_put.J30 M C qp_4.1 qp_4.2.1 (out5n + 1) qp_4.2.2) else hodmanref17_put.J30 M C out5i out5o out5n G) := (M.hs _ _ _ _ _ _ _).trans (by kernel_rfl)
theorem hodmanref17_put.J12_eq (M : Mach) (C : Call) (l0i : Nat) (l0o : Nat) (l0n : Nat) (out5i : Nat) (out5o : Nat) (out5n : Nat) (done6 : Bool) (i7 : Int) (t25 : Bool) (b44_0 : Int) (b44_1 : Int) (b44_2 : Int) (G : GH) : hodmanref17_put.J12 M C l0i l0o l0n out5i out5o out5n done6 i7 t25 b44_0 b44_1 b44_2 G = (bif t25 then let qG_5 := G.alloc (.row [.int .i64 b44_0, .int .i64 b44_1, .int .i64 b44_2] false); (if 1 = 0 then some [] else qG_5.lds G.next 0 (1 * 3)).bind fun qnew_6 => guardK (decide (out5n + 1 ≤ most)) ((qG_5.app out5i out5o out5n 3 1 qnew_6).bind fun qp_7 => hodmanref17_put.J14 M C l0i l0o l0n qp_7.1 qp_7.2.1 (out5n + 1) true i7 b44_0 b44_1 b44_2 qp_7.2.2) else hodmanref17_put.J14 M C l0i l0o l0n out5i out5o out5n done6 i7 b44_0 b44_1 b44_2 G) := (M.hj _ _ _).trans (by kernel_rfl)
theorem hodmanref17_put.J30_eq (M : Mach) (C : Call) (out5i : Nat) (out5o : Nat) (out5n : Nat) (G : GH) : hodmanref17_put.J30 M C out5i out5o out5n G = (some ([.c (.sl 3 out5i out5o out5n)], G)) := (M.hj _ _ _).trans (by kernel_rfl)
theorem hodmanref17_put.J14_eq (M : Mach) (C : Call) (l0i : Nat) (l0o : Nat) (l0n : Nat) (out5i : Nat) (out5o : Nat) (out5n : Nat) (done6 : Bool) (i7 : Int) (b44_0 : Int) (b44_1 : Int) (b44_2 : Int) (G : GH) : hodmanref17_put.J14 M C l0i l0o l0n out5i out5o out5n done6 i7 b44_0 b44_1 b44_2 G = (guardK (decide (0 ≤ i7 ∧ i7 < ((l0n : Nat) : Int))) (((G.ld l0i ((l0o + Int.toNat i7 * 3) + 0)).bind (Cell.asI .i64)).bind fun qx_8 => ((G.ld l0i ((l0o + Int.toNat i7 * 3) + 1)).bind (Cell.asI .i64)).bind fun qx_9 => ((G.ld l0i ((l0o + Int.toNat i7 * 3) + 2)).bind (Cell.asI .i64)).bind fun qx_10 => let qG_11 := G.alloc (.row [.int .i64 qx_8, .int .i64 qx_9, .int .i64 qx_10] false); (if 1 = 0 then some [] else qG_11.lds G.next 0 (1 * 3)).bind fun qnew_12 => guardK (decide (out5n + 1 ≤ most)) ((qG_11.app out5i out5o out5n 3 1 qnew_12).bind fun qp_13 => hodmanref17_put.L20 M C l0i l0o l0n qp_13.1 qp_13.2.1 (out5n + 1) done6 (IntKind.i64.wrap (i7 + 1)) b44_0 b44_1 b44_2 qp_13.2.2))) := (M.hj _ _ _).trans (by kernel_rfl)
def hodmanref17_put.f (M : Mach) (C : Call) (l0i : Nat) (l0o : Nat) (l0n : Nat) (b1_0 : Int) (b1_1 : Int) (b1_2 : Int) (G : GH) : Option Res := hodmanref17_put.L20 M C l0i l0o l0n 0 0 0 false 0 b1_0 b1_1 b1_2 G
theorem hodmanref17_put.eq (M : Mach) (C : Call) (l0i : Nat) (l0o : Nat) (l0n : Nat) (b1_0 : Int) (b1_1 : Int) (b1_2 : Int) (G : GH) : runF M C hodmanref17_put.d [.c (.sl 3 l0i l0o l0n), .agg [.int .i64 b1_0, .int .i64 b1_1, .int .i64 b1_2]] G = hodmanref17_put.f M C l0i l0o l0n b1_0 b1_1 b1_2 G := by kernel_rfl

/- 54 (*hodman/tight.writer).frees -/
def tight_writer_frees.c22 : DCode := (.region [⟨0, some 64, .bin .add .i64 (.t 24) (.k (.c (.int .i64 1))), none⟩,
    ⟨1, some 24, .move (.t 64), none⟩])
def tight_writer_frees.c25 : DCode := (.seq (.region [⟨0, some 25, .cmp .lss .i64 (.t 24) (.t 23), none⟩]) (.seq (.cond (.t 25) .skip (.exit 0)) (.seq (.block 1 (.seq (.region [⟨0, some 26, .iaddr (.t 22) (.t 24) 2, none⟩,
    ⟨1, some 27, .ldG 26 (.agg [.int .i64, .int .i64]), none⟩,
    ⟨2, some 8, .boxz 69 [29, 42, 53] [.int .i64 0, .int .i64 0], none⟩,
    ⟨3, none, .stL 8 69 (.t 27) 2, none⟩]) (.seq (.region [⟨0, some 28, .move (.t 1), none⟩,
    ⟨1, some 29, .faddr 8 0, none⟩,
    ⟨2, some 30, .ldL 29 69 (.c (.int .i64)), none⟩,
    ⟨3, some 31, .move (.t 4), none⟩,
    ⟨4, some 32, .bin .quo .i64 (.t 30) (.t 31), none⟩,
    ⟨5, some 33, .build [.int .i64 0, .int .i64 0] [(0, 1, .t 28), (1, 1, .t 32)], none⟩,
    ⟨6, some 9, .boxz 70 [] [.int .i64 0, .int .i64 0], none⟩,
    ⟨7, none, .stL 9 70 (.t 33) 2, none⟩]) (.seq (.region [⟨0, some 34, .move (.t 5), none⟩,
    ⟨1, some 35, .ldL 9 70 (.agg [.int .i64, .int .i64]), none⟩,
    ⟨2, some 36, .lkup (.agg [.int .i64, .int .i64]) (.t 34) (.t 35) (.c (.bool false)) (.c (.bool)) false, none⟩]) (.cond (.t 36) (.seq (.region [⟨0, some 37, .move (.t 0), none⟩,
    ⟨1, some 38, .move (.t 0), none⟩,
    ⟨2, some 39, .nilck (.t 38), none⟩,
    ⟨3, some 40, .faddr 39 8, none⟩,
    ⟨4, some 41, .ldG 40 (.c (.sl 6)), none⟩,
    ⟨5, some 42, .faddr 8 0, none⟩,
    ⟨6, some 43, .ldL 42 69 (.c (.int .i64)), none⟩,
    ⟨7, some 44, .build [.int .i64 0, .int .i64 0, .int .i64 0, .int .i64 0, .int .i64 0, .int .u8 0] [(0, 1, .k (.c (.int .i64 5))), (1, 1, .t 43)], none⟩,
    ⟨8, some 45, .bslice 1 6 [.int .i64 0, .int .i64 0, .int .i64 0, .int .i64 0, .int .i64 0, .int .u8 0] [(0, 6, .t 44)], none⟩,
    ⟨9, some 46, .app (.t 41) (.t 45) 6 48, none⟩,
    ⟨10, some 47, .nilck (.t 37), none⟩,
    ⟨11, some 48, .faddr 47 8, none⟩,
    ⟨12, none, .stG 48 (.t 46) 1, none⟩]) (.region [⟨0, some 49, .move (.t 0), none⟩,
    ⟨1, some 50, .nilck (.t 49), none⟩,
    ⟨2, some 51, .faddr 50 10, none⟩,
    ⟨3, some 52, .ldG 51 (.c (.int .i64)), none⟩,
    ⟨4, some 53, .faddr 8 1, none⟩,
    ⟨5, some 54, .ldL 53 69 (.c (.int .i64)), none⟩,
    ⟨6, some 55, .bin .sub .i64 (.t 52) (.t 54), none⟩,
    ⟨7, some 56, .nilck (.t 49), none⟩,
    ⟨8, some 57, .faddr 56 10, none⟩,
    ⟨9, none, .stG 57 (.t 55) 1, none⟩])) (.seq (.region [⟨0, some 58, .move (.t 5), none⟩,
    ⟨1, some 59, .ldL 9 70 (.agg [.int .i64, .int .i64]), none⟩,
    ⟨2, none, .mupd (.agg [.int .i64, .int .i64]) (.t 58) (.t 59) (.k (.c (.bool true))), none⟩]) (.region [⟨0, some 60, .move (.t 6), none⟩,
    ⟨1, some 61, .ldL 8 69 (.agg [.int .i64, .int .i64]), none⟩,
    ⟨2, some 62, .bslice 1 2 [.int .i64 0, .int .i64 0] [(0, 2, .t 61)], none⟩,
    ⟨3, some 63, .app (.t 60) (.t 62) 2 16, none⟩,
    ⟨4, some 6, .move (.t 63), none⟩]))))))) (.cut [0, 1, 4, 5, 6, 22, 23, 24] tight_writer_frees.c22))))
def tight_writer_frees.c26 : DCode := (.loop [0, 1, 4, 5, 6, 22, 23, 24] tight_writer_frees.c25)
def tight_writer_frees.c29 : DCode := (.region [⟨0, some 65, .move (.t 0), none⟩,
    ⟨1, some 66, .move (.t 6), none⟩,
    ⟨2, some 67, .nilck (.t 65), none⟩,
    ⟨3, some 68, .faddr 67 9, none⟩,
    ⟨4, none, .stG 68 (.t 66) 1, none⟩])
def tight_writer_frees.d : DFn := { ntmps := 71, res := [], body := (.seq (.region [⟨0, some 10, .move (.t 0), none⟩,
    ⟨1, some 11, .nilck (.t 10), none⟩,
    ⟨2, some 12, .faddr 11 0, none⟩,
    ⟨3, some 13, .faddr 12 0, none⟩,
    ⟨4, some 14, .ldG 13 (.c (.int .i64)), none⟩,
    ⟨5, some 15, .move (.t 1), none⟩,
    ⟨6, some 16, .conv .u64 (.t 15), none⟩,
    ⟨7, some 17, .bin .shl .i64 (.t 14) (.t 16), none⟩,
    ⟨8, some 4, .move (.t 17), none⟩]) (.seq (.region [⟨0, some 18, .mkmap (.agg [.int .i64, .int .i64]), none⟩,
    ⟨1, some 5, .move (.t 18), none⟩]) (.seq (.region [⟨0, some 6, .move (.k (.c (.sl 2 0 0 0))), none⟩]) (.seq (.seq (.region [⟨0, some 19, .move (.t 0), none⟩,
    ⟨1, some 20, .nilck (.t 19), none⟩,
    ⟨2, some 21, .faddr 20 9, none⟩,
    ⟨3, some 22, .ldG 21 (.c (.sl 2)), none⟩,
    ⟨4, some 23, .len (.t 22), none⟩,
    ⟨5, some 24, .move (.k (.c (.int .i64 0))), none⟩]) (.block 0 tight_writer_frees.c26)) tight_writer_frees.c29)))) }
def tight_writer_frees.k29 (M : Mach) (C : Call) : Kont := execC M.j C (M.ag C) tight_writer_frees.c29 ({ exits := [], ret := retK tight_writer_frees.d } : Env) (retK tight_writer_frees.d)
def tight_writer_frees.e27 (M : Mach) (C : Call) : Env := { exits := (0, (tight_writer_frees.k29 M C)) :: (({ exits := [], ret := retK tight_writer_frees.d } : Env)).exits, ret := (({ exits := [], ret := retK tight_writer_frees.d } : Env)).ret }
def tight_writer_frees.L26 (M : Mach) (C : Call) (w0i : Nat) (w0o : Nat) (k1 : Int) (size4 : Int) (first5 : Nat) (rest6i : Nat) (rest6o : Nat) (rest6n : Nat) (t22i : Nat) (t22o : Nat) (t22n : Nat) (t23 : Int) (t24 : Int) (G : GH) : Option Res := M.ag C [0, 1, 4, 5, 6, 22, 23, 24] tight_writer_frees.c25 (tight_writer_frees.e27 M C) (tight_writer_frees.k29 M C) [.v (.c (.ptr w0i w0o)), .v (.c (.int .i64 k1)), .und, .und, .v (.c (.int .i64 size4)), .v (.c (.map first5)), .v (.c (.sl 2 rest6i rest6o rest6n)), .und, .und, .und, .und, .und, .und, .und, .und, .und, .und, .und, .und, .und, .und, .und, .v (.c (.sl 2 t22i t22o t22n)), .v (.c (.int .i64 t23)), .v (.c (.int .i64 t24)), .und, .und, .und, .und, .und, .und, .und, .und, .und, .und, .und, .und, .und, .und, .und, .und, .und, .und, .und, .und, .und, .und, .und, .und, .und, .und, .und, .und, .und, .und, .und, .und, .und, .und, .und, .und, .und, .und, .und, .und, .und, .und, .und, .und, .und, .und] G
def tight_writer_frees.k26 (M : Mach) (C : Call) : Kont := fun tm G => M.ag C [0, 1, 4, 5, 6, 22, 23, 24] tight_writer_frees.c25 (tight_writer_frees.e27 M C) (tight_writer_frees.k29 M C) (restr [0, 1, 4, 5, 6, 22, 23, 24] 0 tm) G
def tight_writer_frees.J22 (M : Mach) (C : Call) (w0i : Nat) (w0o : Nat) (k1 : Int) (size4 : Int) (first5 : Nat) (rest6i : Nat) (rest6o : Nat) (rest6n : Nat) (t22i : Nat) (t22o : Nat) (t22n : Nat) (t23 : Int) (t24 : Int) (G : GH) : Option Res := M.j (execC M.j C (M.ag C) tight_writer_frees.c22 (tight_writer_frees.e27 M C) (tight_writer_frees.k26 M C)) [.v (.c (.ptr w0i w0o)), .v (.c (.int .i64 k1)), .und, .und, .v (.c (.int .i64 size4)), .v (.c (.map first5)), .v (.c (.sl 2 rest6i rest6o rest6n)), .und, .und, .und, .und, .und, .und, .und, .und, .und, .und, .und, .und, .und, .und, .und, .v (.c (.sl 2 t22i t22o t22n)), .v (.c (.int .i64 t23)), .v (.c (.int .i64 t24)), .und, .und, .und, .und, .und, .und, .und, .und, .und, .und, .und, .und, .und, .und, .und, .und, .und, .und, .und, .und, .und, .und, .und, .und, .und, .und, .und, .und, .und, .und, .und, .und, .und, .und, .und, .und, .und, .und, .und, .und, .und, .und, .und, .und, .und, .und] G
theorem tight_writer_frees.L26_eq (M : Mach) (C : Call) (w0i : Nat) (w0o : Nat) (k1 : Int) (size4 : Int) (first5 : Nat) (rest6i : Nat) (rest6o : Nat) (rest6n : Nat) (t22i : Nat) (t22o : Nat) (t22n : Nat) (t23 : Int) (t24 : Int) (G : GH) : tight_writer_frees.L26 M C w0i w0o k1 size4 first5 rest6i rest6o rest6n t22i t22o t22n t23 t24 G = (bif decide (t24 < t23) then guardK (decide (0 ≤ t24 ∧ t24 < ((t22n : Nat) : Int))) (((G.ld t22i ((t22o + Int.toNat t24 * 2) + 0)).bind (Cell.asI .i64)).bind fun qx_5 => ((G.ld t22i ((t22o + Int.toNat t24 * 2) + 1)).bind (Cell.asI .i64)).bind fun qx_6 => (binD .quo .i64 qx_5 size4).bind fun qx_7 => (G.ents0 (.agg [.int .i64, .int .i64]) first5).bind fun qes_8 => ((((some ((mapGet qes_8 (.agg [.int .i64 k1, .int .i64 qx_7])).getD (.c (.bool false))))).bind V1.c?).bind Cell.asB).bind fun qb_9 => bif qb_9 then guardK (!Nat.beq w0i 0) (((G.ld w0i (w0o + 8)).bind (Cell.asS 6)).bind fun qs_10 => let qG_11 := G.alloc (.row [.int .i64 5, .int .i64 qx_5, .int .i64 0, .int .i64 0, .int .i64 0, .int .u8 0] false); (if 1 = 0 then some [] else qG_11.lds G.next 0 (1 * 6)).bind fun qnew_12 => guardK (decide (qs_10.2.2 + 1 ≤ most)) ((qG_11.app qs_10.1 qs_10.2.1 qs_10.2.2 6 1 qnew_12).bind fun qp_13 => guardK (!Nat.beq w0i 0) ((qp_13.2.2.sts w0i (w0o + 8) [.sl 6 qp_13.1 qp_13.2.1 (qs_10.2.2 + 1)]).bind fun qG_14 => guardK (!Nat.beq w0i 0) (((qG_14.ld w0i (w0o + 10)).bind (Cell.asI .i64)).bind fun qx_15 => guardK (!Nat.beq w0i 0) ((qG_14.sts w0i (w0o + 10) [.int .i64 (IntKind.i64.wrap (qx_15 - qx_6))]).bind fun qG_16 => tight_writer_frees.J22 M C w0i w0o k1 size4 first5 rest6i rest6o rest6n t22i t22o t22n t23 t24 qG_16))))) else (G.ents (.agg [.int .i64, .int .i64]) first5).bind fun qes_17 => let qG_18 := G.set first5 (some (.map (.agg [.int .i64, .int .i64]) (mapPut qes_17 (.agg [.int .i64 k1, .int .i64 qx_7]) (.c (.bool true))))); let qG_19 := qG_18.alloc (.row [.int .i64 qx_5, .int .i64 qx_6] false); (if 1 = 0 then some [] else qG_19.lds qG_18.next 0 (1 * 2)).bind fun qnew_20 => guardK (decide (rest6n + 1 ≤ most)) ((qG_19.app rest6i rest6o rest6n 2 1 qnew_20).bind fun qp_21 => tight_writer_frees.J22 M C w0i w0o k1 size4 first5 qp_21.1 qp_21.2.1 (rest6n + 1) t22i t22o t22n t23 t24 qp_21.2.2)) else guardK (!Nat.beq w0i 0) ((G.sts w0i (w0o + 9) [.sl 2 rest6i rest6o rest6n]).bind fun qG_22 => some ([], qG_22))) := (M.hs _ _ _ _ _ _ _).trans (by kernel_rfl)
theorem tight_writer_frees.J22_eq (M : Mach) (C : Call) (w0i : Nat) (w0o : Nat) (k1 : Int) (size4 : Int) (first5 : Nat) (rest6i : Nat) (rest6o : Nat) (rest6n : Nat) (t22i : Nat) (t22o : Nat) (t22n : Nat) (t23 : Int) (t24 : Int) (G : GH) : tight_writer_frees.J22 M C w0i w0o k1 size4 first5 rest6i rest6o rest6n t22i t22o t22n t23 t24 G = (tight_writer_frees.L26 M C w0i w0o k1 size4 first5 rest6i rest6o rest6n t22i t22o t22n t23 (IntKind.i64.wrap (t24 + 1)) G) := (M.hj _ _ _).trans (by kernel_rfl)
def tight_writer_frees.f (M : Mach) (C : Call) (w0i : Nat) (w0o : Nat) (k1 : Int) (G : GH) : Option Res := guardK (!Nat.beq w0i 0) (((G.ld w0i ((w0o + 0) + 0)).bind (Cell.asI .i64)).bind fun qx_1 => (binD .shl .i64 qx_1 (IntKind.u64.wrap k1)).bind fun qx_2 => let qG_3 := G.alloc (.map (.agg [.int .i64, .int .i64]) []); guardK (!Nat.beq w0i 0) (((qG_3.ld w0i (w0o + 9)).bind (Cell.asS 2)).bind fun qs_4 => tight_writer_frees.L26 M C w0i w0o k1 qx_2 G.next 0 0 0 qs_4.1 qs_4.2.1 qs_4.2.2 ((qs_4.2.2 : Nat) : Int) 0 qG_3))
theorem tight_writer_frees.eq (M : Mach) (C : Call) (w0i : Nat) (w0o : Nat) (k1 : Int) (G : GH) : runF M C tight_writer_frees.d [.c (.ptr w0i w0o), .c (.int .i64 k1)] G = tight_writer_frees.f M C w0i w0o k1 G := by kernel_rfl

/- 59 hodman/hodmanref8.Zero -/
def hodmanref8_Zero.c19 : DCode := (.seq (.seq (.region [⟨0, some 19, .move (.t 9), none⟩,
    ⟨1, some 20, .move (.t 2), none⟩,
    ⟨2, some 21, .cmp .lss .i64 (.t 19) (.t 20), none⟩]) (.cond (.t 21) .skip (.exit 0))) (.seq (.block 1 (.region [⟨0, some 24, .move (.t 8), none⟩,
    ⟨1, some 25, .move (.t 1), none⟩,
    ⟨2, some 26, .move (.t 9), none⟩,
    ⟨3, some 27, .bin .add .i64 (.t 25) (.t 26), none⟩,
    ⟨4, some 28, .iaddr (.t 24) (.t 27) 1, none⟩,
    ⟨5, none, .stG 28 (.k (.c (.int .u8 0))) 1, none⟩])) (.region [⟨0, some 22, .move (.t 9), none⟩,
    ⟨1, some 23, .bin .add .i64 (.t 22) (.k (.c (.int .i64 1))), none⟩,
    ⟨2, some 9, .move (.t 23), none⟩])))
def hodmanref8_Zero.c25 : DCode := (.seq (.region [⟨0, some 29, .move (.t 8), none⟩,
    ⟨1, some 6, .move (.t 29), none⟩,
    ⟨2, some 7, .move (.k (.c (.bool true))), none⟩]) .ret)
def hodmanref8_Zero.d : DFn := { ntmps := 30, res := [.t 6, .t 7], body := (.seq (.region [⟨0, some 6, .move (.k (.c (.sl 1 0 0 0))), none⟩,
    ⟨1, some 7, .move (.k (.c (.bool false))), none⟩]) (.seq (.seq (.region [⟨0, some 10, .move (.t 0), none⟩,
    ⟨1, some 11, .move (.t 1), none⟩,
    ⟨2, some 12, .move (.t 2), none⟩,
    ⟨3, some 13, .call 67 [.t 10, .t 11, .t 12] [.c (.bool)], none⟩,
    ⟨4, some 14, .not (.t 13), none⟩]) (.cond (.t 14) (.seq (.region [⟨0, some 15, .move (.t 0), none⟩,
    ⟨1, some 6, .move (.t 15), none⟩,
    ⟨2, some 7, .move (.k (.c (.bool false))), none⟩]) .ret) .skip)) (.seq (.region [⟨0, some 16, .bslice 0 1 [] [], none⟩,
    ⟨1, some 17, .move (.t 0), none⟩,
    ⟨2, some 18, .app (.t 16) (.t 17) 1 1, none⟩,
    ⟨3, some 8, .move (.t 18), none⟩]) (.seq (.seq (.region [⟨0, some 9, .move (.k (.c (.int .i64 0))), none⟩]) (.block 0 (.loop [1, 2, 8, 9] hodmanref8_Zero.c19))) hodmanref8_Zero.c25)))) }
def hodmanref8_Zero.k25 (M : Mach) (C : Call) : Kont := execC M.j C (M.ag C) hodmanref8_Zero.c25 ({ exits := [], ret := retK hodmanref8_Zero.d } : Env) (retK hodmanref8_Zero.d)
def hodmanref8_Zero.e21 (M : Mach) (C : Call) : Env := { exits := (0, (hodmanref8_Zero.k25 M C)) :: (({ exits := [], ret := retK hodmanref8_Zero.d } : Env)).exits, ret := (({ exits := [], ret := retK hodmanref8_Zero.d } : Env)).ret }
def hodmanref8_Zero.L20 (M : Mach) (C : Call) (at1 : Int) (n2 : Int) (out8i : Nat) (out8o : Nat) (out8n : Nat) (i9 : Int) (G : GH) : Option Res := M.ag C [1, 2, 8, 9] hodmanref8_Zero.c19 (hodmanref8_Zero.e21 M C) (hodmanref8_Zero.k25 M C) [.und, .v (.c (.int .i64 at1)), .v (.c (.int .i64 n2)), .und, .und, .und, .und, .und, .v (.c (.sl 1 out8i out8o out8n)), .v (.c (.int .i64 i9)), .und, .und, .und, .und, .und, .und, .und, .und, .und, .und, .und, .und, .und, .und, .und, .und, .und, .und, .und, .und] G
theorem hodmanref8_Zero.L20_eq (M : Mach) (C : Call) (at1 : Int) (n2 : Int) (out8i : Nat) (out8o : Nat) (out8n : Nat) (i9 : Int) (G : GH) : hodmanref8_Zero.L20 M C at1 n2 out8i out8o out8n i9 G = (bif decide (i9 < n2) then guardK (decide (0 ≤ IntKind.i64.wrap (at1 + i9) ∧ IntKind.i64.wrap (at1 + i9) < ((out8n : Nat) : Int))) ((G.sts out8i (out8o + Int.toNat (IntKind.i64.wrap (at1 + i9)) * 1) [.int .u8 0]).bind fun qG_6 => hodmanref8_Zero.L20 M C at1 n2 out8i out8o out8n (IntKind.i64.wrap (i9 + 1)) qG_6) else some ([.c (.sl 1 out8i out8o out8n), .c (.bool true)], G)) := (M.hs _ _ _ _ _ _ _).trans (by kernel_rfl)
def hodmanref8_Zero.f (M : Mach) (C : Call) (mem0i : Nat) (mem0o : Nat) (mem0n : Nat) (at1 : Int) (n2 : Int) (G : GH) : Option Res := (C hodmanref8_there.id [.c (.sl 1 mem0i mem0o mem0n), .c (.int .i64 at1), .c (.int .i64 n2)] G).bind fun qr_1 => (((qr_1.1[0]?).bind V1.c?).bind Cell.asB).bind fun qb_2 => bif (!qb_2) then some ([.c (.sl 1 mem0i mem0o mem0n), .c (.bool false)], qr_1.2) else let qG_3 := qr_1.2.alloc (.row [] false); (if mem0n = 0 then some [] else qG_3.lds mem0i mem0o (mem0n * 1)).bind fun qnew_4 => guardK (decide (0 + mem0n ≤ most)) ((qG_3.app qr_1.2.next 0 0 1 mem0n qnew_4).bind fun qp_5 => hodmanref8_Zero.L20 M C at1 n2 qp_5.1 qp_5.2.1 (0 + mem0n) 0 qp_5.2.2)
theorem hodmanref8_Zero.eq (M : Mach) (C : Call) (mem0i : Nat) (mem0o : Nat) (mem0n : Nat) (at1 : Int) (n2 : Int) (G : GH) : runF M C hodmanref8_Zero.d [.c (.sl 1 mem0i mem0o mem0n), .c (.int .i64 at1), .c (.int .i64 n2)] G = hodmanref8_Zero.f M C mem0i mem0o mem0n at1 n2 G := by kernel_rfl
end Go.Proofs.D
