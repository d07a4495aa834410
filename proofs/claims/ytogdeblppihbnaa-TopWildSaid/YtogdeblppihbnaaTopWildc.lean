/- Texts of the proof (T1); no condition. -/
import Derived.Test.YtogdeblppihbnaaTopWilda
import Derived.KernelRfl
set_option linter.unusedSimpArgs false
set_option linter.unusedVariables false
set_option linter.unusedVariables false
set_option maxRecDepth 100000
namespace Go.Proofs.D
open Go
variable (M : Mach) (C : Call)
namespace ceil_Within
def c13 : DCode := (.cond (.t 34) (.seq (.region [oP 0 4 (.move (.k (.c (.bool false))))]) .ret) .skip)
def c18 : DCode := (.region [oP 0 35 (.bin .add .i64 (.t 11) (.k (.c (.int .i64 1)))),
 mV 1 11 35])
def c21 : DCode := (.seq (.region [oP 0 12 (.cmp .lss .i64 (.t 11) (.t 10))]) (.seq (.cond (.t 12) .skip (.exit 0)) (.seq (.block 1 (.seq (.region [oP 0 13 (.iaddr (.t 9) (.t 11) 3),
 oP 1 14 (.ldG 13 (.agg (iS 3))),
 oP 2 6 (.boxz 37 [17, 25, 30] [.int .i64 0, .int .i64 0, .int .i64 0]),
 ⟨3, none, .stL 6 37 (.t 14) 3, none⟩]) (.seq (.region [oP 0 16 (.ldL 2 36 (.agg (iS 8))),
 oP 1 17 (.faddr 6 1),
 oP 2 18 (.ldL 17 37 (.c (.int .i64))),
 oP 3 19 (.call 39 [.t 16, .t 18] [.c (.int .i64), .c (.bool)]),
 mV 4 15 19,
 oP 5 20 (.ext 15 0),
 oP 6 21 (.ext 15 1),
 mV 7 7 20,
 mV 8 8 21]) (.seq (.region [mV 0 22 8,
 oP 1 23 (.not (.t 22)),
 mV 2 24 23,
 ⟨3, some 25, .faddr 6 0, some (24, false)⟩,
 ⟨4, some 26, .ldL 25 37 (.c (.int .i64)), some (24, false)⟩,
 ⟨5, some 27, .ldL 2 36 (.agg (iS 8)), some (24, false)⟩,
 ⟨6, some 28, .move (.t 7), some (24, false)⟩,
 ⟨7, some 29, .call 20 [.t 27, .t 28] [.c (.int .i64)], some (24, false)⟩,
 ⟨8, some 30, .faddr 6 1, some (24, false)⟩,
 ⟨9, some 31, .ldL 30 37 (.c (.int .i64)), some (24, false)⟩,
 ⟨10, some 32, .bin .sub .i64 (.t 29) (.t 31), some (24, false)⟩,
 ⟨11, some 33, .cmp .gtr .i64 (.t 26) (.t 32), some (24, false)⟩,
 oP 12 34 (.pick (.t 24) (.k (.c (.bool true))) (.t 33))]) (.cut [2, 9, 10, 11, 34, 36] c13))))) c18)))
def c22 : DCode := (.loop [2, 9, 10, 11, 36] c21)
def c27 : DCode := (.seq (.region [oP 0 4 (.move (.k (.c (.bool true))))]) .ret)
def d : DFn := { ntmps := 38, res := [.t 4], body := (.seq (.region [oP 0 2 (.boxv 36 [] (.t 0) 8),
 oP 1 4 (.move (.k (.c (.bool false))))]) (.seq (.seq (.region [mV 0 9 1,
 oP 1 10 (.len (.t 9)),
 oP 2 11 (.move (.k (.c (.int .i64 0))))]) (.block 0 c22)) c27)) }
def k27 : Kont := execC M.j C (M.ag C) c27 ({ exits := [], ret := retK d } : Env) (retK d)
def e23 : Env := { exits := (0, (k27 M C)) :: (({ exits := [], ret := retK d } : Env)).exits, ret := (({ exits := [], ret := retK d } : Env)).ret }
def L22 (u1i u1o u1n : Nat) (u2 u3 u4 u5 u6 u7 u8 u9 u10 u11 : Int) (G : GH) : Option Res := M.ag C [2, 9, 10, 11, 36] c21 (e23 M C) (k27 M C) (uS 2 (.ref 36 0 :: (uS 6 (.v (.c (.sl 3 u1i u1o u1n)) :: (.v (.c (.int .i64 u2)) :: (.v (.c (.int .i64 u3)) :: (uS 24 (.box [.int .i64 u4, .int .i64 u5, .int .i64 u6, .int .i64 u7, .int .i64 u8, .int .i64 u9, .int .i64 u10, .int .i64 u11] :: (uS 1 []))))))))) G
def k22 : Kont := fun tm G => M.ag C [2, 9, 10, 11, 36] c21 (e23 M C) (k27 M C) (restr [2, 9, 10, 11, 36] 0 tm) G
def k18 : Kont := execC M.j C (M.ag C) c18 (e23 M C) (k22 M C)
def e17 : Env := { exits := (1, (k18 M C)) :: ((e23 M C)).exits, ret := ((e23 M C)).ret }
def J13 (u1i u1o u1n : Nat) (u2 u3 : Int) (u4 : Bool) (u5 u6 u7 u8 u9 u10 u11 u12 : Int) (G : GH) : Option Res := M.j (execC M.j C (M.ag C) c13 (e17 M C) (k18 M C)) (uS 2 (.ref 36 0 :: (uS 6 (.v (.c (.sl 3 u1i u1o u1n)) :: (.v (.c (.int .i64 u2)) :: (.v (.c (.int .i64 u3)) :: (uS 22 (.v (.c (.bool u4)) :: (uS 1 (.box [.int .i64 u5, .int .i64 u6, .int .i64 u7, .int .i64 u8, .int .i64 u9, .int .i64 u10, .int .i64 u11, .int .i64 u12] :: (uS 1 []))))))))))) G
theorem L22_eq (u1i u1o u1n : Nat) (u2 u3 u4 u5 u6 u7 u8 u9 u10 u11 : Int) (G : GH) : L22 M C u1i u1o u1n u2 u3 u4 u5 u6 u7 u8 u9 u10 u11 G = (bif decide (u3 < u2) then guardK (decide (0 ≤ u3 ∧ u3 < ((u1n : Nat) : Int))) (((G.ld u1i ((u1o + Int.toNat u3 * 3) + 0)).bind (Cell.asI .i64)).bind fun q1 => ((G.ld u1i ((u1o + Int.toNat u3 * 3) + 1)).bind (Cell.asI .i64)).bind fun q2 => ((G.ld u1i ((u1o + Int.toNat u3 * 3) + 2)).bind (Cell.asI .i64)).bind fun q3 => (C conf_Shift.id [.agg [.int .i64 u4, .int .i64 u5, .int .i64 u6, .int .i64 u7, .int .i64 u8, .int .i64 u9, .int .i64 u10, .int .i64 u11], .c (.int .i64 q2)] G).bind fun q4 => (((q4.1[0]?).bind V1.c?).bind (Cell.asI .i64)).bind fun q5 => (((q4.1[1]?).bind V1.c?).bind Cell.asB).bind fun q6 => bif (!q6) then J13 M C u1i u1o u1n u2 u3 true u4 u5 u6 u7 u8 u9 u10 u11 q4.2 else (C conf_Ceil.id [.agg [.int .i64 u4, .int .i64 u5, .int .i64 u6, .int .i64 u7, .int .i64 u8, .int .i64 u9, .int .i64 u10, .int .i64 u11], .c (.int .i64 q5)] q4.2).bind fun q7 => (((q7.1[0]?).bind V1.c?).bind (Cell.asI .i64)).bind fun q8 => J13 M C u1i u1o u1n u2 u3 (decide (q1 > IntKind.i64.wrap (q8 - q2))) u4 u5 u6 u7 u8 u9 u10 u11 q7.2) else some ([.c (.bool true)], G)) := (M.hs _ _ _ _ _ _ _).trans (by kernel_rfl)
theorem J13_eq (u1i u1o u1n : Nat) (u2 u3 : Int) (u4 : Bool) (u5 u6 u7 u8 u9 u10 u11 u12 : Int) (G : GH) : J13 M C u1i u1o u1n u2 u3 u4 u5 u6 u7 u8 u9 u10 u11 u12 G = (bif u4 then some ([.c (.bool false)], G) else L22 M C u1i u1o u1n u2 (IntKind.i64.wrap (u3 + 1)) u5 u6 u7 u8 u9 u10 u11 u12 G) := (M.hj _ _ _).trans (by kernel_rfl)
def f (u1 u2 u3 u4 u5 u6 u7 u8 : Int) (u9i u9o u9n : Nat) (G : GH) : Option Res := L22 M C u9i u9o u9n ((u9n : Nat) : Int) 0 u1 u2 u3 u4 u5 u6 u7 u8 G
theorem eq (u1 u2 u3 u4 u5 u6 u7 u8 : Int) (u9i u9o u9n : Nat) (G : GH) : runF M C d [.agg [.int .i64 u1, .int .i64 u2, .int .i64 u3, .int .i64 u4, .int .i64 u5, .int .i64 u6, .int .i64 u7, .int .i64 u8], .c (.sl 3 u9i u9o u9n)] G = f M C u1 u2 u3 u4 u5 u6 u7 u8 u9i u9o u9n G := by kernel_rfl
end ceil_Within
namespace place_Release
def c7 : DCode := (.cond (.t 36) (.seq (.region [oP 0 37 (.ldL 2 54 (.agg [.int .i64, .sl 2, .sl 2])),
 oP 1 38 (.call 78 [.t 37] [.agg [.int .i64, .sl 2, .sl 2]]),
 ⟨2, none, .stL 4 55 (.t 38) 3, none⟩,
 oP 3 5 (.move (.k (.c (.int .i64 0)))),
 oP 4 6 (.move (.k (.c (.bool false))))]) .ret) .skip)
def c13 : DCode := (.seq (.region [oP 0 39 (.faddr 2 1),
 oP 1 40 (.ldL 39 54 (.agg [.sl 2])),
 mV 2 41 1,
 oP 3 42 (.faddr 2 0),
 oP 4 43 (.ldL 42 54 (.c (.int .i64))),
 oP 5 44 (.bin .quo .i64 (.t 41) (.t 43)),
 mV 6 45 8,
 oP 7 46 (.conv .u64 (.t 45)),
 oP 8 47 (.bin .shl .i64 (.k (.c (.int .i64 1))) (.t 46)),
 oP 9 48 (.call 79 [.t 40, .t 44, .t 47, .k (.c (.bool false))] [.agg [.sl 2]]),
 mV 10 49 7,
 oP 11 50 (.faddr 2 1),
 ⟨12, none, .stL 50 54 (.t 48) 1, none⟩,
 oP 13 51 (.faddr 2 2),
 ⟨14, none, .stL 51 54 (.t 49) 1, none⟩]) (.seq (.region [oP 0 52 (.ldL 2 54 (.agg [.int .i64, .sl 2, .sl 2])),
 mV 1 53 8,
 ⟨2, none, .stL 4 55 (.t 52) 3, none⟩,
 mV 3 5 53,
 oP 4 6 (.move (.k (.c (.bool true))))]) .ret))
def d : DFn := { ntmps := 56, res := [.box 4 (some 3), .t 5, .t 6], body := (.seq (.region [oP 0 2 (.boxv 54 [11, 21, 31, 32, 39, 42, 50, 51] (.t 0) 3),
 oP 1 4 (.boxz 55 [] [.int .i64 0, .sl 2 0 0 0, .sl 2 0 0 0]),
 oP 2 5 (.move (.k (.c (.int .i64 0)))),
 oP 3 6 (.move (.k (.c (.bool false))))]) (.seq (.region [oP 0 11 (.faddr 2 2),
 oP 1 12 (.ldL 11 54 (.c (.sl 2))),
 mV 2 13 1,
 oP 3 14 (.call 77 [.t 12, .t 13] [.c (.sl 2), .c (.int .i64), .c (.bool)]),
 mV 4 10 14,
 oP 5 15 (.ext 10 0),
 oP 6 16 (.ext 10 1),
 oP 7 17 (.ext 10 2),
 mV 8 7 15,
 mV 9 8 16,
 mV 10 9 17]) (.seq (.seq (.region [mV 0 18 9,
 oP 1 19 (.not (.t 18)),
 mV 2 20 19,
 ⟨3, some 21, .faddr 2 0, some (20, false)⟩,
 ⟨4, some 22, .ldL 21 54 (.c (.int .i64)), some (20, false)⟩,
 ⟨5, some 23, .cmp .lss .i64 (.t 22) (.k (.c (.int .i64 1))), some (20, false)⟩,
 oP 6 24 (.pick (.t 20) (.k (.c (.bool true))) (.t 23)),
 mV 7 25 24,
 ⟨8, some 26, .move (.t 8), some (25, false)⟩,
 ⟨9, some 27, .cmp .lss .i64 (.t 26) (.k (.c (.int .i64 0))), some (25, false)⟩,
 oP 10 28 (.pick (.t 25) (.k (.c (.bool true))) (.t 27)),
 mV 11 29 28,
 ⟨12, some 30, .move (.t 8), some (29, false)⟩,
 ⟨13, some 31, .faddr 2 1, some (29, false)⟩,
 ⟨14, some 32, .faddr 31 0, some (29, false)⟩,
 ⟨15, some 33, .ldL 32 54 (.c (.sl 2)), some (29, false)⟩,
 ⟨16, some 34, .len (.t 33), some (29, false)⟩,
 ⟨17, some 35, .cmp .geq .i64 (.t 30) (.t 34), some (29, false)⟩,
 oP 18 36 (.pick (.t 29) (.k (.c (.bool true))) (.t 35))]) (.cut [1, 2, 4, 7, 8, 36, 54, 55] c7)) c13))) }
def k13 : Kont := execC M.j C (M.ag C) c13 ({ exits := [], ret := retK d } : Env) (retK d)
def J7 (u1 : Int) (u2i u2o u2n : Nat) (u3 : Int) (u4 : Bool) (u5 : Int) (u6i u6o u6n u7i u7o u7n : Nat) (u8 : Int) (u9i u9o u9n u10i u10o u10n : Nat) (G : GH) : Option Res := M.j (execC M.j C (M.ag C) c7 ({ exits := [], ret := retK d } : Env) (k13 M C)) (uS 1 (.v (.c (.int .i64 u1)) :: (.ref 54 0 :: (uS 1 (.ref 55 0 :: (uS 2 (.v (.c (.sl 2 u2i u2o u2n)) :: (.v (.c (.int .i64 u3)) :: (uS 27 (.v (.c (.bool u4)) :: (uS 17 (.box [.int .i64 u5, .sl 2 u6i u6o u6n, .sl 2 u7i u7o u7n] :: (.box [.int .i64 u8, .sl 2 u9i u9o u9n, .sl 2 u10i u10o u10n] :: []))))))))))))) G
theorem J7_eq (u1 : Int) (u2i u2o u2n : Nat) (u3 : Int) (u4 : Bool) (u5 : Int) (u6i u6o u6n u7i u7o u7n : Nat) (u8 : Int) (u9i u9o u9n u10i u10o u10n : Nat) (G : GH) : J7 M C u1 u2i u2o u2n u3 u4 u5 u6i u6o u6n u7i u7o u7n u8 u9i u9o u9n u10i u10o u10n G = (bif u4 then (C place_twin.id [.agg [.int .i64 u5, .sl 2 u6i u6o u6n, .sl 2 u7i u7o u7n]] G).bind fun q5 => ((q5.1[0]?).bind V1.a?).bind fun q6 => if q6.length = 3 then (((q6[0]?).bind (Cell.asI .i64)).bind fun q7 => ((q6[1]?).bind (Cell.asS 2)).bind fun q8 => ((q6[2]?).bind (Cell.asS 2)).bind fun q9 => some ([.agg [.int .i64 q7, .sl 2 q8.1 q8.2.1 q8.2.2, .sl 2 q9.1 q9.2.1 q9.2.2], .c (.int .i64 0), .c (.bool false)], q5.2)) else none else (binD .quo .i64 u1 u5).bind fun q10 => (binD .shl .i64 1 (IntKind.u64.wrap u3)).bind fun q11 => (C slots_Use.id [.agg [.sl 2 u6i u6o u6n], .c (.int .i64 q10), .c (.int .i64 q11), .c (.bool false)] G).bind fun q12 => ((q12.1[0]?).bind V1.a?).bind fun q13 => if q13.length = 1 then (((q13[0]?).bind (Cell.asS 2)).bind fun q14 => some ([.agg [.int .i64 u5, .sl 2 q14.1 q14.2.1 q14.2.2, .sl 2 u2i u2o u2n], .c (.int .i64 u3), .c (.bool true)], q12.2)) else none) := (M.hj _ _ _).trans (by kernel_rfl)
def f (u1 : Int) (u2i u2o u2n u3i u3o u3n : Nat) (u4 : Int) (G : GH) : Option Res := (C side_Take.id [.c (.sl 2 u3i u3o u3n), .c (.int .i64 u4)] G).bind fun q1 => (((q1.1[0]?).bind V1.c?).bind (Cell.asS 2)).bind fun q2 => (((q1.1[1]?).bind V1.c?).bind (Cell.asI .i64)).bind fun q3 => (((q1.1[2]?).bind V1.c?).bind Cell.asB).bind fun q4 => bif (!q4) then J7 M C u4 q2.1 q2.2.1 q2.2.2 q3 true u1 u2i u2o u2n u3i u3o u3n 0 0 0 0 0 0 0 q1.2 else bif decide (u1 < 1) then J7 M C u4 q2.1 q2.2.1 q2.2.2 q3 true u1 u2i u2o u2n u3i u3o u3n 0 0 0 0 0 0 0 q1.2 else bif decide (q3 < 0) then J7 M C u4 q2.1 q2.2.1 q2.2.2 q3 true u1 u2i u2o u2n u3i u3o u3n 0 0 0 0 0 0 0 q1.2 else J7 M C u4 q2.1 q2.2.1 q2.2.2 q3 (decide (q3 ≥ ((u2n : Nat) : Int))) u1 u2i u2o u2n u3i u3o u3n 0 0 0 0 0 0 0 q1.2
theorem eq (u1 : Int) (u2i u2o u2n u3i u3o u3n : Nat) (u4 : Int) (G : GH) : runF M C d [.agg [.int .i64 u1, .sl 2 u2i u2o u2n, .sl 2 u3i u3o u3n], .c (.int .i64 u4)] G = f M C u1 u2i u2o u2n u3i u3o u3n u4 G := by kernel_rfl
end place_Release
namespace slots_New
def c6 : DCode := (.cond (.t 29) (.seq (.region [oP 0 30 (.ldL 4 47 (.agg [.sl 2])),
 ⟨1, none, .stL 4 47 (.t 30) 1, none⟩]) .ret) .skip)
def c20 : DCode := (.seq (.region [oP 0 33 (.cmp .lss .i64 (.t 32) (.t 31))]) (.seq (.cond (.t 33) .skip (.exit 0)) (.seq (.block 1 (.seq (.region [mV 0 34 32,
 mV 1 5 34]) (.region [oP 0 35 (.faddr 4 0),
 oP 1 36 (.ldL 35 47 (.c (.sl 2))),
 mV 2 37 0,
 mV 3 38 5,
 oP 4 39 (.conv .u64 (.t 38)),
 oP 5 40 (.bin .shr .i64 (.t 37) (.t 39)),
 oP 6 41 (.call 59 [.t 40] [.agg [.int .i64, .sl 1]]),
 oP 7 42 (.bslice 1 2 [.int .i64 0, .sl 1 0 0 0] [(0, 2, .t 41)]),
 oP 8 43 (.app (.t 36) (.t 42) 2 32),
 oP 9 44 (.faddr 4 0),
 ⟨10, none, .stL 44 47 (.t 43) 1, none⟩]))) (.region [oP 0 45 (.bin .add .i64 (.t 32) (.k (.c (.int .i64 1)))),
 mV 1 32 45]))))
def c26 : DCode := (.seq (.region [oP 0 46 (.ldL 4 47 (.agg [.sl 2])),
 ⟨1, none, .stL 4 47 (.t 46) 1, none⟩]) .ret)
def c27 : DCode := (.seq (.seq (.region [mV 0 31 1,
 oP 1 32 (.move (.k (.c (.int .i64 0))))]) (.block 0 (.loop [0, 4, 31, 32, 47] c20))) c26)
def d : DFn := { ntmps := 48, res := [.box 4 (some 1)], body := (.seq (.region [oP 0 4 (.boxz 47 [35, 44] [.sl 2 0 0 0])]) (.seq (.seq (.region [mV 0 6 1,
 oP 1 7 (.cmp .lss .i64 (.t 6) (.k (.c (.int .i64 1)))),
 mV 2 8 7,
 ⟨3, some 9, .move (.t 1), some (8, false)⟩,
 ⟨4, some 10, .cmp .gtr .i64 (.t 9) (.k (.c (.int .i64 17))), some (8, false)⟩,
 oP 5 11 (.pick (.t 8) (.k (.c (.bool true))) (.t 10)),
 mV 6 12 11,
 ⟨7, some 13, .move (.t 0), some (12, false)⟩,
 ⟨8, some 14, .cmp .lss .i64 (.t 13) (.k (.c (.int .i64 1))), some (12, false)⟩,
 oP 9 15 (.pick (.t 12) (.k (.c (.bool true))) (.t 14)),
 mV 10 16 15,
 ⟨11, some 17, .move (.t 0), some (16, false)⟩,
 ⟨12, some 18, .cmp .gtr .i64 (.t 17) (.k (.c (.int .i64 65536))), some (16, false)⟩,
 oP 13 19 (.pick (.t 16) (.k (.c (.bool true))) (.t 18)),
 mV 14 20 19,
 ⟨15, some 21, .move (.t 0), some (20, false)⟩,
 ⟨16, some 22, .move (.t 1), some (20, false)⟩,
 ⟨17, some 23, .bin .sub .i64 (.t 22) (.k (.c (.int .i64 1))), some (20, false)⟩,
 ⟨18, some 24, .conv .u64 (.t 23), some (20, false)⟩,
 ⟨19, some 25, .bin .shl .i64 (.k (.c (.int .i64 1))) (.t 24), some (20, false)⟩,
 ⟨20, some 26, .bin .sub .i64 (.t 25) (.k (.c (.int .i64 1))), some (20, false)⟩,
 ⟨21, some 27, .bin .and .i64 (.t 21) (.t 26), some (20, false)⟩,
 ⟨22, some 28, .cmp .neq .i64 (.t 27) (.k (.c (.int .i64 0))), some (20, false)⟩,
 oP 23 29 (.pick (.t 20) (.k (.c (.bool true))) (.t 28))]) (.cut [0, 1, 4, 29, 47] c6)) c27)) }
def k27 : Kont := execC M.j C (M.ag C) c27 ({ exits := [], ret := retK d } : Env) (retK d)
def J6 (u1 u2 : Int) (u3 : Bool) (u4i u4o u4n : Nat) (G : GH) : Option Res := M.j (execC M.j C (M.ag C) c6 ({ exits := [], ret := retK d } : Env) (k27 M C)) (.v (.c (.int .i64 u1)) :: (.v (.c (.int .i64 u2)) :: (uS 2 (.ref 47 0 :: (uS 24 (.v (.c (.bool u3)) :: (uS 17 (.box [.sl 2 u4i u4o u4n] :: [])))))))) G
def k26 : Kont := execC M.j C (M.ag C) c26 ({ exits := [], ret := retK d } : Env) (retK d)
def e22 : Env := { exits := (0, (k26 M C)) :: (({ exits := [], ret := retK d } : Env)).exits, ret := (({ exits := [], ret := retK d } : Env)).ret }
def L21 (u1 u2 u3 : Int) (u4i u4o u4n : Nat) (G : GH) : Option Res := M.ag C [0, 4, 31, 32, 47] c20 (e22 M C) (k26 M C) (.v (.c (.int .i64 u1)) :: (uS 3 (.ref 47 0 :: (uS 26 (.v (.c (.int .i64 u2)) :: (.v (.c (.int .i64 u3)) :: (uS 14 (.box [.sl 2 u4i u4o u4n] :: [])))))))) G
theorem J6_eq (u1 u2 : Int) (u3 : Bool) (u4i u4o u4n : Nat) (G : GH) : J6 M C u1 u2 u3 u4i u4o u4n G = (bif u3 then some ([.agg [.sl 2 u4i u4o u4n]], G) else L21 M C u1 u2 0 u4i u4o u4n G) := (M.hj _ _ _).trans (by kernel_rfl)
theorem L21_eq (u1 u2 u3 : Int) (u4i u4o u4n : Nat) (G : GH) : L21 M C u1 u2 u3 u4i u4o u4n G = (bif decide (u3 < u2) then (binD .shr .i64 u1 (IntKind.u64.wrap u3)).bind fun q2 => (C tree_New.id [.c (.int .i64 q2)] G).bind fun q3 => ((q3.1[0]?).bind V1.a?).bind fun q4 => if q4.length = 2 then (((q4[0]?).bind (Cell.asI .i64)).bind fun q5 => ((q4[1]?).bind (Cell.asS 1)).bind fun q6 => let q7 := q3.2.alloc (.row [.int .i64 q5, .sl 1 q6.1 q6.2.1 q6.2.2] false); (if 1 = 0 then some [] else q7.lds q3.2.next 0 (1 * 2)).bind fun q8 => guardK (decide (u4n + 1 ≤ most)) ((q7.app u4i u4o u4n 2 1 q8).bind fun q9 => L21 M C u1 u2 (IntKind.i64.wrap (u3 + 1)) q9.1 q9.2.1 (u4n + 1) q9.2.2)) else none else some ([.agg [.sl 2 u4i u4o u4n]], G)) := (M.hs _ _ _ _ _ _ _).trans (by kernel_rfl)
def f (u1 u2 : Int) (G : GH) : Option Res := bif decide (u2 < 1) then J6 M C u1 u2 true 0 0 0 G else bif decide (u2 > 17) then J6 M C u1 u2 true 0 0 0 G else bif decide (u1 < 1) then J6 M C u1 u2 true 0 0 0 G else bif decide (u1 > 65536) then J6 M C u1 u2 true 0 0 0 G else (binD .shl .i64 1 (IntKind.u64.wrap (IntKind.i64.wrap (u2 - 1)))).bind fun q1 => J6 M C u1 u2 (!decide (IntKind.i64.wrap (((BitVec.ofInt IntKind.i64.bits u1) &&& (BitVec.ofInt IntKind.i64.bits (IntKind.i64.wrap (q1 - 1)))).toNat : Int) = 0)) 0 0 0 G
theorem eq (u1 u2 : Int) (G : GH) : runF M C d [.c (.int .i64 u1), .c (.int .i64 u2)] G = f M C u1 u2 G := by kernel_rfl
end slots_New
namespace tree_sums
def c14 : DCode := (.region [oP 0 37 (.ldL 4 43 (.agg [.int .i64, .sl 1])),
 mV 1 38 1,
 mV 2 39 8,
 oP 3 40 (.bin .quo .i64 (.t 39) (.k (.c (.int .i64 64)))),
 mV 4 41 10,
 oP 5 42 (.call 96 [.t 37, .t 38, .t 40, .t 41] [])])
def c19 : DCode := (.region [mV 0 15 8,
 oP 1 16 (.bin .add .i64 (.t 15) (.k (.c (.int .i64 1)))),
 mV 2 8 16])
def c21 : DCode := (.seq (.seq (.region [mV 0 12 8,
 mV 1 13 3,
 oP 2 14 (.cmp .leq .i64 (.t 12) (.t 13))]) (.cond (.t 14) .skip (.exit 0))) (.seq (.block 1 (.seq (.region [mV 0 17 8,
 oP 1 18 (.conv .u64 (.t 17)),
 oP 2 19 (.bin .rem .u64 (.t 18) (.k (.c (.int .u64 64)))),
 oP 3 20 (.bin .shl .u64 (.k (.c (.int .u64 1))) (.t 19)),
 mV 4 9 20]) (.seq (.region [oP 0 21 (.ldL 4 43 (.agg [.int .i64, .sl 1])),
 mV 1 22 1,
 mV 2 23 8,
 oP 3 24 (.bin .quo .i64 (.t 23) (.k (.c (.int .i64 64)))),
 oP 4 25 (.call 95 [.t 21, .t 22, .t 24] [.c (.int .u64)]),
 mV 5 26 9,
 oP 6 27 (.bin .andNot .u64 (.t 25) (.t 26)),
 mV 7 10 27]) (.seq (.seq (.region [oP 0 28 (.ldL 4 43 (.agg [.int .i64, .sl 1])),
 mV 1 29 1,
 oP 2 30 (.bin .sub .i64 (.t 29) (.k (.c (.int .i64 1)))),
 mV 3 31 8,
 oP 4 32 (.call 95 [.t 28, .t 30, .t 31] [.c (.int .u64)]),
 oP 5 33 (.cmp .eql .u64 (.t 32) (.k (.c (.int .u64 18446744073709551615))))]) (.cond (.t 33) (.region [mV 0 34 10,
 mV 1 35 9,
 oP 2 36 (.bin .or .u64 (.t 34) (.t 35)),
 mV 3 10 36]) .skip)) (.cut [1, 3, 4, 8, 10, 43] c14))))) c19))
def c22 : DCode := (.loop [1, 3, 4, 8, 43] c21)
def d : DFn := { ntmps := 44, res := [], body := (.seq (.region [oP 0 4 (.boxv 43 [] (.t 0) 2)]) (.seq (.region [mV 0 11 2,
 mV 1 8 11]) (.block 0 c22))) }
def e23 (M : Mach) (C : Call) : Env := { exits := (0, (retK d)) :: (({ exits := [], ret := retK d } : Env)).exits, ret := (({ exits := [], ret := retK d } : Env)).ret }
def L22 (u1 u2 u3 u4 : Int) (u5i u5o u5n : Nat) (G : GH) : Option Res := M.ag C [1, 3, 4, 8, 43] c21 (e23 M C) (retK d) (uS 1 (.v (.c (.int .i64 u1)) :: (uS 1 (.v (.c (.int .i64 u2)) :: (.ref 43 0 :: (uS 3 (.v (.c (.int .i64 u3)) :: (uS 34 (.box [.int .i64 u4, .sl 1 u5i u5o u5n] :: []))))))))) G
def k22 : Kont := fun tm G => M.ag C [1, 3, 4, 8, 43] c21 (e23 M C) (retK d) (restr [1, 3, 4, 8, 43] 0 tm) G
def k19 : Kont := execC M.j C (M.ag C) c19 (e23 M C) (k22 M C)
def e18 : Env := { exits := (1, (k19 M C)) :: ((e23 M C)).exits, ret := ((e23 M C)).ret }
def J14 (u1 u2 u3 u4 u5 : Int) (u6i u6o u6n : Nat) (G : GH) : Option Res := M.j (execC M.j C (M.ag C) c14 (e18 M C) (k19 M C)) (uS 1 (.v (.c (.int .i64 u1)) :: (uS 1 (.v (.c (.int .i64 u2)) :: (.ref 43 0 :: (uS 3 (.v (.c (.int .i64 u3)) :: (uS 1 (.v (.c (.int .u64 u4)) :: (uS 32 (.box [.int .i64 u5, .sl 1 u6i u6o u6n] :: []))))))))))) G
theorem L22_eq (u1 u2 u3 u4 : Int) (u5i u5o u5n : Nat) (G : GH) : L22 M C u1 u2 u3 u4 u5i u5o u5n G = (bif decide (u3 ≤ u2) then (binD .shl .u64 1 (Int.tmod (IntKind.u64.wrap u3) 64)).bind fun q1 => (C tree_at.id [.agg [.int .i64 u4, .sl 1 u5i u5o u5n], .c (.int .i64 u1), .c (.int .i64 (IntKind.i64.wrap (Int.tdiv u3 64)))] G).bind fun q2 => (((q2.1[0]?).bind V1.c?).bind (Cell.asI .u64)).bind fun q3 => (C tree_at.id [.agg [.int .i64 u4, .sl 1 u5i u5o u5n], .c (.int .i64 (IntKind.i64.wrap (u1 - 1))), .c (.int .i64 u3)] q2.2).bind fun q4 => (((q4.1[0]?).bind V1.c?).bind (Cell.asI .u64)).bind fun q5 => bif decide (q5 = 18446744073709551615) then J14 M C u1 u2 u3 (IntKind.u64.wrap (((BitVec.ofInt IntKind.u64.bits (IntKind.u64.wrap (((BitVec.ofInt IntKind.u64.bits q3) &&& ~~~ (BitVec.ofInt IntKind.u64.bits q1)).toNat : Int))) ||| (BitVec.ofInt IntKind.u64.bits q1)).toNat : Int)) u4 u5i u5o u5n q4.2 else J14 M C u1 u2 u3 (IntKind.u64.wrap (((BitVec.ofInt IntKind.u64.bits q3) &&& ~~~ (BitVec.ofInt IntKind.u64.bits q1)).toNat : Int)) u4 u5i u5o u5n q4.2 else some ([], G)) := (M.hs _ _ _ _ _ _ _).trans (by kernel_rfl)
theorem J14_eq (u1 u2 u3 u4 u5 : Int) (u6i u6o u6n : Nat) (G : GH) : J14 M C u1 u2 u3 u4 u5 u6i u6o u6n G = ((C tree_put.id [.agg [.int .i64 u5, .sl 1 u6i u6o u6n], .c (.int .i64 u1), .c (.int .i64 (IntKind.i64.wrap (Int.tdiv u3 64))), .c (.int .u64 u4)] G).bind fun q6 => L22 M C u1 u2 (IntKind.i64.wrap (u3 + 1)) u5 u6i u6o u6n q6.2) := (M.hj _ _ _).trans (by kernel_rfl)
def f (u1 : Int) (u2i u2o u2n : Nat) (u3 u4 u5 : Int) (G : GH) : Option Res := L22 M C u3 u5 u4 u1 u2i u2o u2n G
theorem eq (u1 : Int) (u2i u2o u2n : Nat) (u3 u4 u5 : Int) (G : GH) : runF M C d [.agg [.int .i64 u1, .sl 1 u2i u2o u2n], .c (.int .i64 u3), .c (.int .i64 u4), .c (.int .i64 u5)] G = f M C u1 u2i u2o u2n u3 u4 u5 G := by kernel_rfl
end tree_sums
namespace api_Mark_int
def c16 : DCode := (.seq (.seq (.region [mV 0 15 9,
 mV 1 16 10,
 oP 2 17 (.cmp .lss .i64 (.t 15) (.t 16))]) (.cond (.t 17) .skip (.exit 0))) (.block 1 (.seq (.region [mV 0 18 9,
 mV 1 19 10,
 oP 2 20 (.bin .add .i64 (.t 18) (.t 19)),
 oP 3 21 (.conv .u64 (.t 20)),
 oP 4 22 (.bin .shr .u64 (.t 21) (.k (.c (.int .u64 1)))),
 oP 5 23 (.conv .i64 (.t 22)),
 mV 6 11 23]) (.seq (.region [mV 0 24 2,
 mV 1 25 0,
 mV 2 26 11,
 oP 3 27 (.iaddr (.t 25) (.t 26) 2),
 oP 4 28 (.ldG 27 (.agg (iS 2))),
 mV 5 29 1,
 oP 6 30 (.callT (.t 24) [.t 28, .t 29] [.c (.int .i64)]),
 oP 7 31 (.cmp .lss .i64 (.t 30) (.k (.c (.int .i64 0))))]) (.cond (.t 31) (.region [mV 0 32 11,
 oP 1 33 (.bin .add .i64 (.t 32) (.k (.c (.int .i64 1)))),
 mV 2 9 33]) (.region [mV 0 34 11,
 mV 1 10 34]))))))
def c21 : DCode := (.seq (.region [mV 0 35 9,
 mV 1 36 9,
 mV 2 37 8,
 oP 3 38 (.cmp .lss .i64 (.t 36) (.t 37)),
 mV 4 39 38,
 ⟨5, some 40, .move (.t 2), some (39, true)⟩,
 ⟨6, some 41, .move (.t 0), some (39, true)⟩,
 ⟨7, some 42, .move (.t 9), some (39, true)⟩,
 ⟨8, some 43, .iaddr (.t 41) (.t 42) 2, some (39, true)⟩,
 ⟨9, some 44, .ldG 43 (.agg (iS 2)), some (39, true)⟩,
 ⟨10, some 45, .move (.t 1), some (39, true)⟩,
 ⟨11, some 46, .callT (.t 40) [.t 44, .t 45] [.c (.int .i64)], some (39, true)⟩,
 ⟨12, some 47, .cmp .eql .i64 (.t 46) (.k (.c (.int .i64 0))), some (39, true)⟩,
 oP 13 48 (.pick (.t 39) (.t 47) (.k (.c (.bool false)))),
 mV 14 6 35,
 mV 15 7 48]) .ret)
def d : DFn := { ntmps := 49, res := [.t 6, .t 7], body := (.seq (.region [oP 0 6 (.move (.k (.c (.int .i64 0)))),
 oP 1 7 (.move (.k (.c (.bool false))))]) (.seq (.region [mV 0 12 0,
 oP 1 13 (.len (.t 12)),
 mV 2 8 13]) (.seq (.region [mV 0 14 8,
 oP 1 9 (.move (.k (.c (.int .i64 0)))),
 mV 2 10 14]) (.seq (.block 0 (.loop [0, 1, 2, 8, 9, 10] c16)) c21)))) }
def k21 : Kont := execC M.j C (M.ag C) c21 ({ exits := [], ret := retK d } : Env) (retK d)
def e18 : Env := { exits := (0, (k21 M C)) :: (({ exits := [], ret := retK d } : Env)).exits, ret := (({ exits := [], ret := retK d } : Env)).ret }
def L17 (u1i u1o u1n : Nat) (u2 : Int) (u3 : Nat) (u4 u5 u6 : Int) (G : GH) : Option Res := M.ag C [0, 1, 2, 8, 9, 10] c16 (e18 M C) (k21 M C) (.v (.c (.sl 2 u1i u1o u1n)) :: (.v (.c (.int .i64 u2)) :: (.v (.c (.fn u3)) :: (uS 5 (.v (.c (.int .i64 u4)) :: (.v (.c (.int .i64 u5)) :: (.v (.c (.int .i64 u6)) :: (uS 38 [])))))))) G
theorem L17_eq (u1i u1o u1n : Nat) (u2 : Int) (u3 : Nat) (u4 u5 u6 : Int) (G : GH) : L17 M C u1i u1o u1n u2 u3 u4 u5 u6 G = (bif decide (u5 < u6) then guardK (decide (0 ≤ IntKind.i64.wrap (Int.fdiv (IntKind.u64.wrap (IntKind.i64.wrap (u5 + u6))) (2 ^ (min (1 : Int).toNat IntKind.u64.bits))) ∧ IntKind.i64.wrap (Int.fdiv (IntKind.u64.wrap (IntKind.i64.wrap (u5 + u6))) (2 ^ (min (1 : Int).toNat IntKind.u64.bits))) < ((u1n : Nat) : Int))) (((G.ld u1i ((u1o + Int.toNat (IntKind.i64.wrap (Int.fdiv (IntKind.u64.wrap (IntKind.i64.wrap (u5 + u6))) (2 ^ (min (1 : Int).toNat IntKind.u64.bits)))) * 2) + 0)).bind (Cell.asI .i64)).bind fun q1 => ((G.ld u1i ((u1o + Int.toNat (IntKind.i64.wrap (Int.fdiv (IntKind.u64.wrap (IntKind.i64.wrap (u5 + u6))) (2 ^ (min (1 : Int).toNat IntKind.u64.bits)))) * 2) + 1)).bind (Cell.asI .i64)).bind fun q2 => (C u3 [.agg [.int .i64 q1, .int .i64 q2], .c (.int .i64 u2)] G).bind fun q3 => chk (Nat.beq q3.1.length 1) ((((q3.1[0]?).bind V1.c?).bind (Cell.asI .i64)).bind fun q4 => bif decide (q4 < 0) then L17 M C u1i u1o u1n u2 u3 u4 (IntKind.i64.wrap ((IntKind.i64.wrap (Int.fdiv (IntKind.u64.wrap (IntKind.i64.wrap (u5 + u6))) (2 ^ (min (1 : Int).toNat IntKind.u64.bits)))) + 1)) u6 q3.2 else L17 M C u1i u1o u1n u2 u3 u4 u5 (IntKind.i64.wrap (Int.fdiv (IntKind.u64.wrap (IntKind.i64.wrap (u5 + u6))) (2 ^ (min (1 : Int).toNat IntKind.u64.bits)))) q3.2)) else bif decide (u5 < u4) then guardK (decide (0 ≤ u5 ∧ u5 < ((u1n : Nat) : Int))) (((G.ld u1i ((u1o + Int.toNat u5 * 2) + 0)).bind (Cell.asI .i64)).bind fun q5 => ((G.ld u1i ((u1o + Int.toNat u5 * 2) + 1)).bind (Cell.asI .i64)).bind fun q6 => (C u3 [.agg [.int .i64 q5, .int .i64 q6], .c (.int .i64 u2)] G).bind fun q7 => chk (Nat.beq q7.1.length 1) ((((q7.1[0]?).bind V1.c?).bind (Cell.asI .i64)).bind fun q8 => some ([.c (.int .i64 u5), .c (.bool (decide (q8 = 0)))], q7.2))) else some ([.c (.int .i64 u5), .c (.bool false)], G)) := (M.hs _ _ _ _ _ _ _).trans (by kernel_rfl)
def f (u1i u1o u1n : Nat) (u2 : Int) (u3 : Nat) (G : GH) : Option Res := L17 M C u1i u1o u1n u2 u3 ((u1n : Nat) : Int) 0 ((u1n : Nat) : Int) G
theorem eq (u1i u1o u1n : Nat) (u2 : Int) (u3 : Nat) (G : GH) : runF M C d [.c (.sl 2 u1i u1o u1n), .c (.int .i64 u2), .c (.fn u3)] G = f M C u1i u1o u1n u2 u3 G := by kernel_rfl
end api_Mark_int
namespace place_New
def c6 : DCode := (.cond (.t 21) (.seq (.region [oP 0 22 (.ldL 6 40 (.agg [.int .i64, .sl 2, .sl 2])),
 ⟨1, none, .stL 6 40 (.t 22) 3, none⟩,
 oP 2 7 (.move (.k (.c (.bool false))))]) .ret) .skip)
def c14 : DCode := (.cond (.t 35) (.seq (.region [oP 0 36 (.ldL 6 40 (.agg [.int .i64, .sl 2, .sl 2])),
 ⟨1, none, .stL 6 40 (.t 36) 3, none⟩,
 oP 2 7 (.move (.k (.c (.bool false))))]) .ret) .skip)
def c18 : DCode := (.seq (.region [mV 0 37 0,
 oP 1 38 (.ldL 8 41 (.agg [.sl 2])),
 oP 2 39 (.build [.int .i64 0, .sl 2 0 0 0, .sl 2 0 0 0] [(0, 1, .t 37), (1, 1, .t 38)]),
 ⟨3, none, .stL 6 40 (.t 39) 3, none⟩,
 oP 4 7 (.move (.k (.c (.bool true))))]) .ret)
def c20 : DCode := (.seq (.region [mV 0 23 1,
 mV 1 24 2,
 oP 2 25 (.call 44 [.t 23, .t 24] [.agg [.sl 2]]),
 oP 3 8 (.boxz 41 [26] [.sl 2 0 0 0]),
 ⟨4, none, .stL 8 41 (.t 25) 1, none⟩]) (.seq (.seq (.region [oP 0 26 (.faddr 8 0),
 oP 1 27 (.ldL 26 41 (.c (.sl 2))),
 oP 2 28 (.len (.t 27)),
 oP 3 29 (.cmp .eql .i64 (.t 28) (.k (.c (.int .i64 0)))),
 mV 4 30 29,
 ⟨5, some 31, .move (.t 1), some (30, false)⟩,
 ⟨6, some 32, .move (.t 0), some (30, false)⟩,
 ⟨7, some 33, .bin .quo .i64 (.k (.c (.int .i64 65536))) (.t 32), some (30, false)⟩,
 ⟨8, some 34, .cmp .gtr .i64 (.t 31) (.t 33), some (30, false)⟩,
 oP 9 35 (.pick (.t 30) (.k (.c (.bool true))) (.t 34))]) (.cut [0, 6, 8, 35, 40, 41] c14)) c18))
def d : DFn := { ntmps := 42, res := [.box 6 (some 3), .t 7], body := (.seq (.region [oP 0 6 (.boxz 40 [] [.int .i64 0, .sl 2 0 0 0, .sl 2 0 0 0]),
 oP 1 7 (.move (.k (.c (.bool false))))]) (.seq (.seq (.region [mV 0 9 0,
 oP 1 10 (.cmp .lss .i64 (.t 9) (.k (.c (.int .i64 1)))),
 mV 2 11 10,
 ⟨3, some 12, .move (.t 0), some (11, false)⟩,
 ⟨4, some 13, .cmp .gtr .i64 (.t 12) (.k (.c (.int .i64 65536))), some (11, false)⟩,
 oP 5 14 (.pick (.t 11) (.k (.c (.bool true))) (.t 13)),
 mV 6 15 14,
 ⟨7, some 16, .move (.t 0), some (15, false)⟩,
 ⟨8, some 17, .move (.t 0), some (15, false)⟩,
 ⟨9, some 18, .bin .sub .i64 (.t 17) (.k (.c (.int .i64 1))), some (15, false)⟩,
 ⟨10, some 19, .bin .and .i64 (.t 16) (.t 18), some (15, false)⟩,
 ⟨11, some 20, .cmp .neq .i64 (.t 19) (.k (.c (.int .i64 0))), some (15, false)⟩,
 oP 12 21 (.pick (.t 15) (.k (.c (.bool true))) (.t 20))]) (.cut [0, 1, 2, 6, 21, 40] c6)) c20)) }
def k20 : Kont := execC M.j C (M.ag C) c20 ({ exits := [], ret := retK d } : Env) (retK d)
def J6 (u1 u2 u3 : Int) (u4 : Bool) (u5 : Int) (u6i u6o u6n u7i u7o u7n : Nat) (G : GH) : Option Res := M.j (execC M.j C (M.ag C) c6 ({ exits := [], ret := retK d } : Env) (k20 M C)) (.v (.c (.int .i64 u1)) :: (.v (.c (.int .i64 u2)) :: (.v (.c (.int .i64 u3)) :: (uS 3 (.ref 40 0 :: (uS 14 (.v (.c (.bool u4)) :: (uS 18 (.box [.int .i64 u5, .sl 2 u6i u6o u6n, .sl 2 u7i u7o u7n] :: (uS 1 [])))))))))) G
def k18 : Kont := execC M.j C (M.ag C) c18 ({ exits := [], ret := retK d } : Env) (retK d)
def J14 (u1 : Int) (u2 : Bool) (u3 : Int) (u4i u4o u4n u5i u5o u5n u6i u6o u6n : Nat) (G : GH) : Option Res := M.j (execC M.j C (M.ag C) c14 ({ exits := [], ret := retK d } : Env) (k18 M C)) (.v (.c (.int .i64 u1)) :: (uS 5 (.ref 40 0 :: (uS 1 (.ref 41 0 :: (uS 26 (.v (.c (.bool u2)) :: (uS 4 (.box [.int .i64 u3, .sl 2 u4i u4o u4n, .sl 2 u5i u5o u5n] :: (.box [.sl 2 u6i u6o u6n] :: [])))))))))) G
theorem J6_eq (u1 u2 u3 : Int) (u4 : Bool) (u5 : Int) (u6i u6o u6n u7i u7o u7n : Nat) (G : GH) : J6 M C u1 u2 u3 u4 u5 u6i u6o u6n u7i u7o u7n G = (bif u4 then some ([.agg [.int .i64 u5, .sl 2 u6i u6o u6n, .sl 2 u7i u7o u7n], .c (.bool false)], G) else (C slots_New.id [.c (.int .i64 u2), .c (.int .i64 u3)] G).bind fun q1 => ((q1.1[0]?).bind V1.a?).bind fun q2 => if q2.length = 1 then (((q2[0]?).bind (Cell.asS 2)).bind fun q3 => bif decide (((q3.2.2 : Nat) : Int) = 0) then J14 M C u1 true u5 u6i u6o u6n u7i u7o u7n q3.1 q3.2.1 q3.2.2 q1.2 else (binD .quo .i64 65536 u1).bind fun q4 => J14 M C u1 (decide (u2 > q4)) u5 u6i u6o u6n u7i u7o u7n q3.1 q3.2.1 q3.2.2 q1.2) else none) := (M.hj _ _ _).trans (by kernel_rfl)
theorem J14_eq (u1 : Int) (u2 : Bool) (u3 : Int) (u4i u4o u4n u5i u5o u5n u6i u6o u6n : Nat) (G : GH) : J14 M C u1 u2 u3 u4i u4o u4n u5i u5o u5n u6i u6o u6n G = (bif u2 then some ([.agg [.int .i64 u3, .sl 2 u4i u4o u4n, .sl 2 u5i u5o u5n], .c (.bool false)], G) else some ([.agg [.int .i64 u1, .sl 2 u6i u6o u6n, .sl 2 0 0 0], .c (.bool true)], G)) := (M.hj _ _ _).trans (by kernel_rfl)
def f (u1 u2 u3 : Int) (G : GH) : Option Res := bif decide (u1 < 1) then J6 M C u1 u2 u3 true 0 0 0 0 0 0 0 G else bif decide (u1 > 65536) then J6 M C u1 u2 u3 true 0 0 0 0 0 0 0 G else J6 M C u1 u2 u3 (!decide (IntKind.i64.wrap (((BitVec.ofInt IntKind.i64.bits u1) &&& (BitVec.ofInt IntKind.i64.bits (IntKind.i64.wrap (u1 - 1)))).toNat : Int) = 0)) 0 0 0 0 0 0 0 G
theorem eq (u1 u2 u3 : Int) (G : GH) : runF M C d [.c (.int .i64 u1), .c (.int .i64 u2), .c (.int .i64 u3)] G = f M C u1 u2 u3 G := by kernel_rfl
end place_New
namespace class_Charge
def c7 : DCode := (.cond (.t 24) (.seq (.region [oP 0 6 (.move (.k (.c (.int .i64 0)))),
 oP 1 7 (.move (.k (.c (.int .i64 3))))]) .ret) .skip)
def c15 : DCode := (.cond (.t 32) (.seq (.region [oP 0 6 (.move (.k (.c (.int .i64 0)))),
 oP 1 7 (.move (.k (.c (.int .i64 4))))]) .ret) .skip)
def c21 : DCode := (.seq (.region [mV 0 34 1,
 mV 1 35 2,
 oP 2 36 (.faddr 3 0),
 oP 3 37 (.ldL 36 43 (.c (.int .i64))),
 oP 4 38 (.mx (.t 34) [.t 35, .t 37]),
 oP 5 39 (.call 36 [.t 38] [.c (.int .i64), .c (.bool)]),
 mV 6 33 39,
 oP 7 40 (.ext 33 0),
 oP 8 41 (.ext 33 1),
 mV 9 10 40,
 mV 10 11 41]) (.seq (.region [mV 0 42 10,
 mV 1 6 42,
 oP 2 7 (.move (.k (.c (.int .i64 0))))]) .ret))
def c22 : DCode := (.seq (.seq (.region [mV 0 25 1,
 oP 1 26 (.cmp .lss .i64 (.t 25) (.k (.c (.int .i64 0)))),
 mV 2 27 26,
 ⟨3, some 28, .move (.t 1), some (27, false)⟩,
 ⟨4, some 29, .faddr 3 1, some (27, false)⟩,
 ⟨5, some 30, .ldL 29 43 (.c (.int .i64)), some (27, false)⟩,
 ⟨6, some 31, .cmp .gtr .i64 (.t 28) (.t 30), some (27, false)⟩,
 oP 7 32 (.pick (.t 27) (.k (.c (.bool true))) (.t 31))]) (.cut [1, 2, 3, 32, 43] c15)) c21)
def d : DFn := { ntmps := 44, res := [.t 6, .t 7], body := (.seq (.region [oP 0 3 (.boxv 43 [21, 29, 36] (.t 0) 8),
 oP 1 6 (.move (.k (.c (.int .i64 0)))),
 oP 2 7 (.move (.k (.c (.int .i64 0))))]) (.seq (.seq (.region [mV 0 13 2,
 oP 1 14 (.call 38 [.t 13] [.c (.int .i64), .c (.bool)]),
 mV 2 12 14,
 oP 3 15 (.ext 12 0),
 oP 4 16 (.ext 12 1),
 mV 5 8 15,
 mV 6 9 16]) (.seq (.region [mV 0 17 9,
 oP 1 18 (.not (.t 17)),
 mV 2 19 18,
 ⟨3, some 20, .move (.t 2), some (19, false)⟩,
 ⟨4, some 21, .faddr 3 1, some (19, false)⟩,
 ⟨5, some 22, .ldL 21 43 (.c (.int .i64)), some (19, false)⟩,
 ⟨6, some 23, .cmp .gtr .i64 (.t 20) (.t 22), some (19, false)⟩,
 oP 7 24 (.pick (.t 19) (.k (.c (.bool true))) (.t 23))]) (.cut [1, 2, 3, 24, 43] c7))) c22)) }
def k22 : Kont := execC M.j C (M.ag C) c22 ({ exits := [], ret := retK d } : Env) (retK d)
def J7 (u1 u2 : Int) (u3 : Bool) (u4 u5 u6 u7 u8 u9 u10 u11 : Int) (G : GH) : Option Res := M.j (execC M.j C (M.ag C) c7 ({ exits := [], ret := retK d } : Env) (k22 M C)) (uS 1 (.v (.c (.int .i64 u1)) :: (.v (.c (.int .i64 u2)) :: (.ref 43 0 :: (uS 20 (.v (.c (.bool u3)) :: (uS 18 (.box [.int .i64 u4, .int .i64 u5, .int .i64 u6, .int .i64 u7, .int .i64 u8, .int .i64 u9, .int .i64 u10, .int .i64 u11] :: [])))))))) G
def k21 : Kont := execC M.j C (M.ag C) c21 ({ exits := [], ret := retK d } : Env) (retK d)
def J15 (u1 u2 : Int) (u3 : Bool) (u4 u5 u6 u7 u8 u9 u10 u11 : Int) (G : GH) : Option Res := M.j (execC M.j C (M.ag C) c15 ({ exits := [], ret := retK d } : Env) (k21 M C)) (uS 1 (.v (.c (.int .i64 u1)) :: (.v (.c (.int .i64 u2)) :: (.ref 43 0 :: (uS 28 (.v (.c (.bool u3)) :: (uS 10 (.box [.int .i64 u4, .int .i64 u5, .int .i64 u6, .int .i64 u7, .int .i64 u8, .int .i64 u9, .int .i64 u10, .int .i64 u11] :: [])))))))) G
theorem J7_eq (u1 u2 : Int) (u3 : Bool) (u4 u5 u6 u7 u8 u9 u10 u11 : Int) (G : GH) : J7 M C u1 u2 u3 u4 u5 u6 u7 u8 u9 u10 u11 G = (bif u3 then some ([.c (.int .i64 0), .c (.int .i64 3)], G) else bif decide (u1 < 0) then J15 M C u1 u2 true u4 u5 u6 u7 u8 u9 u10 u11 G else J15 M C u1 u2 (decide (u1 > u5)) u4 u5 u6 u7 u8 u9 u10 u11 G) := (M.hj _ _ _).trans (by kernel_rfl)
theorem J15_eq (u1 u2 : Int) (u3 : Bool) (u4 u5 u6 u7 u8 u9 u10 u11 : Int) (G : GH) : J15 M C u1 u2 u3 u4 u5 u6 u7 u8 u9 u10 u11 G = (bif u3 then some ([.c (.int .i64 0), .c (.int .i64 4)], G) else (C calc_Up.id [.c (.int .i64 (mx2 (mx2 u1 u2) u4))] G).bind fun q4 => (((q4.1[0]?).bind V1.c?).bind (Cell.asI .i64)).bind fun q5 => (((q4.1[1]?).bind V1.c?).bind Cell.asB).bind fun q6 => some ([.c (.int .i64 q5), .c (.int .i64 0)], q4.2)) := (M.hj _ _ _).trans (by kernel_rfl)
def f (u1 u2 u3 u4 u5 u6 u7 u8 u9 u10 : Int) (G : GH) : Option Res := (C calc_Log.id [.c (.int .i64 u10)] G).bind fun q1 => (((q1.1[0]?).bind V1.c?).bind (Cell.asI .i64)).bind fun q2 => (((q1.1[1]?).bind V1.c?).bind Cell.asB).bind fun q3 => bif (!q3) then J7 M C u9 u10 true u1 u2 u3 u4 u5 u6 u7 u8 q1.2 else J7 M C u9 u10 (decide (u10 > u2)) u1 u2 u3 u4 u5 u6 u7 u8 q1.2
theorem eq (u1 u2 u3 u4 u5 u6 u7 u8 u9 u10 : Int) (G : GH) : runF M C d [.agg [.int .i64 u1, .int .i64 u2, .int .i64 u3, .int .i64 u4, .int .i64 u5, .int .i64 u6, .int .i64 u7, .int .i64 u8], .c (.int .i64 u9), .c (.int .i64 u10)] G = f M C u1 u2 u3 u4 u5 u6 u7 u8 u9 u10 G := by kernel_rfl
end class_Charge
namespace heap_New
def d : DFn := { ntmps := 54, res := [.t 2, .t 3], body := (.seq (.region [oP 0 1 (.boxv 52 [] (.t 0) 6),
 oP 1 2 (.move (.k (.c (.ptr 0 0)))),
 oP 2 3 (.move (.k (.c (.int .i64 0))))]) (.seq (.region [oP 0 8 (.ldL 1 52 (.agg (iS 6))),
 oP 1 9 (.call 15 [.t 8] [.agg (iS 8), .c (.int .i64)]),
 mV 2 7 9,
 oP 3 10 (.ext 7 0),
 oP 4 11 (.ext 7 1),
 oP 5 4 (.boxz 53 [17, 19, 23, 25, 29, 36, 38, 40, 43] [.int .i64 0, .int .i64 0, .int .i64 0, .int .i64 0, .int .i64 0, .int .i64 0, .int .i64 0, .int .i64 0]),
 ⟨6, none, .stL 4 53 (.t 10) 8, none⟩,
 mV 7 5 11]) (.seq (.seq (.region [mV 0 12 5,
 oP 1 13 (.cmp .neq .i64 (.t 12) (.k (.c (.int .i64 0))))]) (.cond (.t 13) (.seq (.region [mV 0 14 5,
 oP 1 2 (.move (.k (.c (.ptr 0 0)))),
 mV 2 3 14]) .ret) .skip)) (.seq (.region [oP 0 15 (.ldL 4 53 (.agg (iS 8))),
 oP 1 16 (.mkmap (.agg [.int .i64])),
 oP 2 17 (.faddr 4 6),
 oP 3 18 (.ldL 17 53 (.c (.int .i64))),
 oP 4 19 (.faddr 4 4),
 oP 5 20 (.ldL 19 53 (.c (.int .i64))),
 oP 6 21 (.bin .quo .i64 (.t 18) (.t 20)),
 oP 7 22 (.mkslice (.t 21) 1 8 [.int .i64 0]),
 oP 8 23 (.faddr 4 6),
 oP 9 24 (.ldL 23 53 (.c (.int .i64))),
 oP 10 25 (.faddr 4 4),
 oP 11 26 (.ldL 25 53 (.c (.int .i64))),
 oP 12 27 (.bin .quo .i64 (.t 24) (.t 26)),
 oP 13 28 (.mkslice (.t 27) 1 1 [.bool false]),
 oP 14 29 (.faddr 4 6),
 oP 15 30 (.ldL 29 53 (.c (.int .i64))),
 oP 16 31 (.mkslice (.t 30) 1 1 [.int .u8 0]),
 oP 17 32 (.build [.int .i64 0, .int .i64 0, .int .i64 0, .int .i64 0, .int .i64 0, .int .i64 0, .int .i64 0, .int .i64 0, .int .i64 0, .sl 2 0 0 0, .sl 2 0 0 0, .map 0, .int .i64 0, .int .i64 0, .int .i64 0, .sl 1 0 0 0, .sl 1 0 0 0, .sl 1 0 0 0] [(0, 8, .t 15), (11, 1, .t 16), (15, 1, .t 22), (16, 1, .t 28), (17, 1, .t 31)]),
 oP 18 33 (.newv (.t 32) 18),
 mV 19 6 33]) (.seq (.region [mV 0 35 6,
 oP 1 36 (.faddr 4 0),
 oP 2 37 (.ldL 36 53 (.c (.int .i64))),
 oP 3 38 (.faddr 4 6),
 oP 4 39 (.ldL 38 53 (.c (.int .i64))),
 oP 5 40 (.faddr 4 0),
 oP 6 41 (.ldL 40 53 (.c (.int .i64))),
 oP 7 42 (.bin .quo .i64 (.t 39) (.t 41)),
 oP 8 43 (.faddr 4 3),
 oP 9 44 (.ldL 43 53 (.c (.int .i64))),
 oP 10 45 (.bin .add .i64 (.t 44) (.k (.c (.int .i64 1)))),
 oP 11 46 (.call 24 [.t 37, .t 42, .t 45] [.agg [.int .i64, .sl 2, .sl 2], .c (.bool)]),
 mV 12 34 46,
 oP 13 47 (.ext 34 0),
 oP 14 48 (.ext 34 1),
 oP 15 49 (.nilck (.t 35)),
 oP 16 50 (.faddr 49 8),
 ⟨17, none, .stG 50 (.t 47) 3, none⟩]) (.seq (.region [mV 0 51 6,
 mV 1 2 51,
 oP 2 3 (.move (.k (.c (.int .i64 0))))]) .ret)))))) }
def f (M : Mach) (C : Call) (u1 u2 u3 u4 u5 u6 : Int) (G : GH) : Option Res := (C conf_Of.id [.agg [.int .i64 u1, .int .i64 u2, .int .i64 u3, .int .i64 u4, .int .i64 u5, .int .i64 u6]] G).bind fun q1 => ((q1.1[0]?).bind V1.a?).bind fun q2 => if q2.length = 8 then (((q2[0]?).bind (Cell.asI .i64)).bind fun q3 => ((q2[1]?).bind (Cell.asI .i64)).bind fun q4 => ((q2[2]?).bind (Cell.asI .i64)).bind fun q5 => ((q2[3]?).bind (Cell.asI .i64)).bind fun q6 => ((q2[4]?).bind (Cell.asI .i64)).bind fun q7 => ((q2[5]?).bind (Cell.asI .i64)).bind fun q8 => ((q2[6]?).bind (Cell.asI .i64)).bind fun q9 => ((q2[7]?).bind (Cell.asI .i64)).bind fun q10 => (((q1.1[1]?).bind V1.c?).bind (Cell.asI .i64)).bind fun q11 => bif (!decide (q11 = 0)) then some ([.c (.ptr 0 0), .c (.int .i64 q11)], q1.2) else let q12 := q1.2.alloc (.map (.agg [.int .i64]) []); (binD .quo .i64 q9 q7).bind fun q13 => guardK (decide (0 ≤ q13 ∧ q13 ≤ (most : Int))) (let q14 := q12.alloc (.row (reps (Int.toNat q13) [.int .i64 0]) false); (binD .quo .i64 q9 q7).bind fun q15 => guardK (decide (0 ≤ q15 ∧ q15 ≤ (most : Int))) (let q16 := q14.alloc (.row (reps (Int.toNat q15) [.bool false]) false); guardK (decide (0 ≤ q9 ∧ q9 ≤ (most : Int))) (let q17 := q16.alloc (.row (reps (Int.toNat q9) [.int .u8 0]) false); let q18 := q17.alloc (.row [.int .i64 q3, .int .i64 q4, .int .i64 q5, .int .i64 q6, .int .i64 q7, .int .i64 q8, .int .i64 q9, .int .i64 q10, .int .i64 0, .sl 2 0 0 0, .sl 2 0 0 0, .map q1.2.next, .int .i64 0, .int .i64 0, .int .i64 0, .sl 1 q12.next 0 (Int.toNat q13), .sl 1 q14.next 0 (Int.toNat q15), .sl 1 q16.next 0 (Int.toNat q9)] false); (binD .quo .i64 q9 q3).bind fun q19 => (C place_New.id [.c (.int .i64 q3), .c (.int .i64 q19), .c (.int .i64 (IntKind.i64.wrap (q6 + 1)))] q18).bind fun q20 => ((q20.1[0]?).bind V1.a?).bind fun q21 => if q21.length = 3 then (((q21[0]?).bind (Cell.asI .i64)).bind fun q22 => ((q21[1]?).bind (Cell.asS 2)).bind fun q23 => ((q21[2]?).bind (Cell.asS 2)).bind fun q24 => (((q20.1[1]?).bind V1.c?).bind Cell.asB).bind fun q25 => guardK (!Nat.beq q17.next 0) ((q20.2.sts q17.next (0 + 8) [.int .i64 q22, .sl 2 q23.1 q23.2.1 q23.2.2, .sl 2 q24.1 q24.2.1 q24.2.2]).bind fun q26 => some ([.c (.ptr q17.next 0), .c (.int .i64 0)], q26))) else none)))) else none
theorem eq (u1 u2 u3 u4 u5 u6 : Int) (G : GH) : runF M C d [.agg [.int .i64 u1, .int .i64 u2, .int .i64 u3, .int .i64 u4, .int .i64 u5, .int .i64 u6]] G = f M C u1 u2 u3 u4 u5 u6 G := by kernel_rfl
end heap_New
namespace conf_Shift
def c6 : DCode := (.cond (.t 23) (.seq (.region [oP 0 4 (.move (.k (.c (.int .i64 0)))),
 oP 1 5 (.move (.k (.c (.bool false))))]) .ret) .skip)
def c14 : DCode := (.cond (.t 39) (.seq (.region [oP 0 4 (.move (.k (.c (.int .i64 0)))),
 oP 1 5 (.move (.k (.c (.bool false))))]) .ret) .skip)
def c18 : DCode := (.seq (.region [mV 0 40 6,
 mV 1 4 40,
 oP 2 5 (.move (.k (.c (.bool true))))]) .ret)
def c20 : DCode := (.seq (.region [mV 0 25 1,
 oP 1 26 (.faddr 2 0),
 oP 2 27 (.ldL 26 41 (.c (.int .i64))),
 oP 3 28 (.bin .quo .i64 (.t 25) (.t 27)),
 oP 4 29 (.call 38 [.t 28] [.c (.int .i64), .c (.bool)]),
 mV 5 24 29,
 oP 6 30 (.ext 24 0),
 oP 7 31 (.ext 24 1),
 mV 8 6 30,
 mV 9 7 31]) (.seq (.seq (.region [mV 0 32 7,
 oP 1 33 (.not (.t 32)),
 mV 2 34 33,
 ⟨3, some 35, .move (.t 6), some (34, false)⟩,
 ⟨4, some 36, .faddr 2 3, some (34, false)⟩,
 ⟨5, some 37, .ldL 36 41 (.c (.int .i64)), some (34, false)⟩,
 ⟨6, some 38, .cmp .gtr .i64 (.t 35) (.t 37), some (34, false)⟩,
 oP 7 39 (.pick (.t 34) (.k (.c (.bool true))) (.t 38))]) (.cut [6, 39] c14)) c18))
def d : DFn := { ntmps := 42, res := [.t 4, .t 5], body := (.seq (.region [oP 0 2 (.boxv 41 [8, 13, 19, 26, 36] (.t 0) 8),
 oP 1 4 (.move (.k (.c (.int .i64 0)))),
 oP 2 5 (.move (.k (.c (.bool false))))]) (.seq (.seq (.region [oP 0 8 (.faddr 2 0),
 oP 1 9 (.ldL 8 41 (.c (.int .i64))),
 oP 2 10 (.cmp .lss .i64 (.t 9) (.k (.c (.int .i64 1)))),
 mV 3 11 10,
 ⟨4, some 12, .move (.t 1), some (11, false)⟩,
 ⟨5, some 13, .faddr 2 0, some (11, false)⟩,
 ⟨6, some 14, .ldL 13 41 (.c (.int .i64)), some (11, false)⟩,
 ⟨7, some 15, .cmp .lss .i64 (.t 12) (.t 14), some (11, false)⟩,
 oP 8 16 (.pick (.t 11) (.k (.c (.bool true))) (.t 15)),
 mV 9 17 16,
 ⟨10, some 18, .move (.t 1), some (17, false)⟩,
 ⟨11, some 19, .faddr 2 0, some (17, false)⟩,
 ⟨12, some 20, .ldL 19 41 (.c (.int .i64)), some (17, false)⟩,
 ⟨13, some 21, .bin .rem .i64 (.t 18) (.t 20), some (17, false)⟩,
 ⟨14, some 22, .cmp .neq .i64 (.t 21) (.k (.c (.int .i64 0))), some (17, false)⟩,
 oP 15 23 (.pick (.t 17) (.k (.c (.bool true))) (.t 22))]) (.cut [1, 2, 23, 41] c6)) c20)) }
def k20 : Kont := execC M.j C (M.ag C) c20 ({ exits := [], ret := retK d } : Env) (retK d)
def J6 (u1 : Int) (u2 : Bool) (u3 u4 u5 u6 u7 u8 u9 u10 : Int) (G : GH) : Option Res := M.j (execC M.j C (M.ag C) c6 ({ exits := [], ret := retK d } : Env) (k20 M C)) (uS 1 (.v (.c (.int .i64 u1)) :: (.ref 41 0 :: (uS 20 (.v (.c (.bool u2)) :: (uS 17 (.box [.int .i64 u3, .int .i64 u4, .int .i64 u5, .int .i64 u6, .int .i64 u7, .int .i64 u8, .int .i64 u9, .int .i64 u10] :: []))))))) G
def k18 : Kont := execC M.j C (M.ag C) c18 ({ exits := [], ret := retK d } : Env) (retK d)
def J14 (u1 : Int) (u2 : Bool) (G : GH) : Option Res := M.j (execC M.j C (M.ag C) c14 ({ exits := [], ret := retK d } : Env) (k18 M C)) (uS 6 (.v (.c (.int .i64 u1)) :: (uS 32 (.v (.c (.bool u2)) :: (uS 2 []))))) G
theorem J6_eq (u1 : Int) (u2 : Bool) (u3 u4 u5 u6 u7 u8 u9 u10 : Int) (G : GH) : J6 M C u1 u2 u3 u4 u5 u6 u7 u8 u9 u10 G = (bif u2 then some ([.c (.int .i64 0), .c (.bool false)], G) else (binD .quo .i64 u1 u3).bind fun q2 => (C calc_Log.id [.c (.int .i64 q2)] G).bind fun q3 => (((q3.1[0]?).bind V1.c?).bind (Cell.asI .i64)).bind fun q4 => (((q3.1[1]?).bind V1.c?).bind Cell.asB).bind fun q5 => bif (!q5) then J14 M C q4 true q3.2 else J14 M C q4 (decide (q4 > u6)) q3.2) := (M.hj _ _ _).trans (by kernel_rfl)
theorem J14_eq (u1 : Int) (u2 : Bool) (G : GH) : J14 M C u1 u2 G = (bif u2 then some ([.c (.int .i64 0), .c (.bool false)], G) else some ([.c (.int .i64 u1), .c (.bool true)], G)) := (M.hj _ _ _).trans (by kernel_rfl)
def f (u1 u2 u3 u4 u5 u6 u7 u8 u9 : Int) (G : GH) : Option Res := bif decide (u1 < 1) then J6 M C u9 true u1 u2 u3 u4 u5 u6 u7 u8 G else bif decide (u9 < u1) then J6 M C u9 true u1 u2 u3 u4 u5 u6 u7 u8 G else (binD .rem .i64 u9 u1).bind fun q1 => J6 M C u9 (!decide (q1 = 0)) u1 u2 u3 u4 u5 u6 u7 u8 G
theorem eq (u1 u2 u3 u4 u5 u6 u7 u8 u9 : Int) (G : GH) : runF M C d [.agg [.int .i64 u1, .int .i64 u2, .int .i64 u3, .int .i64 u4, .int .i64 u5, .int .i64 u6, .int .i64 u7, .int .i64 u8], .c (.int .i64 u9)] G = f M C u1 u2 u3 u4 u5 u6 u7 u8 u9 G := by kernel_rfl
end conf_Shift
namespace calc_Mul
def c10 : DCode := (.cond (.t 14) (.seq (.region [oP 0 4 (.move (.k (.c (.int .i64 0)))),
 oP 1 5 (.move (.k (.c (.bool false))))]) .ret) .skip)
def c12 : DCode := (.cond (.t 7) (.seq (.region [oP 0 4 (.move (.k (.c (.int .i64 0)))),
 oP 1 5 (.move (.k (.c (.bool true))))]) .ret) (.seq (.region [mV 0 15 0,
 oP 1 16 (.cmp .eql .i64 (.t 15) (.k (.c (.int .i64 (-1))))),
 mV 2 17 16,
 ⟨3, some 18, .move (.t 1), some (17, true)⟩,
 ⟨4, some 19, .cmp .eql .i64 (.t 18) (.k (.c (.int .i64 (-9223372036854775808)))), some (17, true)⟩,
 oP 5 20 (.pick (.t 17) (.t 19) (.k (.c (.bool false)))),
 mV 6 21 20,
 ⟨7, some 22, .move (.t 1), some (21, false)⟩,
 ⟨8, some 23, .cmp .eql .i64 (.t 22) (.k (.c (.int .i64 (-1)))), some (21, false)⟩,
 ⟨9, some 24, .move (.t 23), some (21, false)⟩,
 ⟨10, some 25, .move (.t 0), some (24, true)⟩,
 ⟨11, some 26, .cmp .eql .i64 (.t 25) (.k (.c (.int .i64 (-9223372036854775808)))), some (24, true)⟩,
 ⟨12, some 27, .pick (.t 24) (.t 26) (.k (.c (.bool false))), some (21, false)⟩,
 oP 13 28 (.pick (.t 21) (.k (.c (.bool true))) (.t 27)),
 mV 14 14 28]) (.cut [0, 1, 14] c10)))
def c27 : DCode := (.seq (.region [mV 0 29 0,
 oP 1 30 (.conv .u64 (.t 29)),
 mV 2 31 1,
 oP 3 32 (.conv .u64 (.t 31)),
 oP 4 33 (.bin .mul .u64 (.t 30) (.t 32)),
 oP 5 34 (.conv .i64 (.t 33)),
 mV 6 6 34]) (.seq (.seq (.region [mV 0 35 6,
 mV 1 36 1,
 oP 2 37 (.bin .quo .i64 (.t 35) (.t 36)),
 mV 3 38 0,
 oP 4 39 (.cmp .neq .i64 (.t 37) (.t 38))]) (.cond (.t 39) (.seq (.region [oP 0 4 (.move (.k (.c (.int .i64 0)))),
 oP 1 5 (.move (.k (.c (.bool false))))]) .ret) .skip)) (.seq (.region [mV 0 40 6,
 mV 1 4 40,
 oP 2 5 (.move (.k (.c (.bool true))))]) .ret)))
def d : DFn := { ntmps := 41, res := [.t 4, .t 5], body := (.seq (.region [oP 0 4 (.move (.k (.c (.int .i64 0)))),
 oP 1 5 (.move (.k (.c (.bool false))))]) (.seq (.block 0 (.seq (.region [mV 0 8 0,
 oP 1 9 (.cmp .eql .i64 (.t 8) (.k (.c (.int .i64 0)))),
 mV 2 10 9,
 ⟨3, some 11, .move (.t 1), some (10, false)⟩,
 ⟨4, some 12, .cmp .eql .i64 (.t 11) (.k (.c (.int .i64 0))), some (10, false)⟩,
 oP 5 13 (.pick (.t 10) (.k (.c (.bool true))) (.t 12)),
 mV 6 7 13]) (.cut [0, 1, 7] c12))) c27)) }
def k27 : Kont := execC M.j C (M.ag C) c27 ({ exits := [], ret := retK d } : Env) (retK d)
def e14 : Env := { exits := (0, (k27 M C)) :: (({ exits := [], ret := retK d } : Env)).exits, ret := (({ exits := [], ret := retK d } : Env)).ret }
def J12 (u1 u2 : Int) (u3 : Bool) (G : GH) : Option Res := M.j (execC M.j C (M.ag C) c12 (e14 M C) (k27 M C)) (.v (.c (.int .i64 u1)) :: (.v (.c (.int .i64 u2)) :: (uS 5 (.v (.c (.bool u3)) :: (uS 33 []))))) G
def J10 (u1 u2 : Int) (u3 : Bool) (G : GH) : Option Res := M.j (execC M.j C (M.ag C) c10 (e14 M C) (k27 M C)) (.v (.c (.int .i64 u1)) :: (.v (.c (.int .i64 u2)) :: (uS 12 (.v (.c (.bool u3)) :: (uS 26 []))))) G
theorem J12_eq (u1 u2 : Int) (u3 : Bool) (G : GH) : J12 M C u1 u2 u3 G = (bif u3 then some ([.c (.int .i64 0), .c (.bool true)], G) else bif decide (u1 = (-1)) then bif decide (u2 = (-9223372036854775808)) then J10 M C u1 u2 true G else bif decide (u2 = (-1)) then J10 M C u1 u2 (decide (u1 = (-9223372036854775808))) G else J10 M C u1 u2 false G else bif decide (u2 = (-1)) then J10 M C u1 u2 (decide (u1 = (-9223372036854775808))) G else J10 M C u1 u2 false G) := (M.hj _ _ _).trans (by kernel_rfl)
theorem J10_eq (u1 u2 : Int) (u3 : Bool) (G : GH) : J10 M C u1 u2 u3 G = (bif u3 then some ([.c (.int .i64 0), .c (.bool false)], G) else (binD .quo .i64 (IntKind.i64.wrap (IntKind.u64.wrap ((IntKind.u64.wrap u1) * (IntKind.u64.wrap u2)))) u2).bind fun q1 => bif (!decide (q1 = u1)) then some ([.c (.int .i64 0), .c (.bool false)], G) else some ([.c (.int .i64 (IntKind.i64.wrap (IntKind.u64.wrap ((IntKind.u64.wrap u1) * (IntKind.u64.wrap u2))))), .c (.bool true)], G)) := (M.hj _ _ _).trans (by kernel_rfl)
def f (u1 u2 : Int) (G : GH) : Option Res := bif decide (u1 = 0) then J12 M C u1 u2 true G else J12 M C u1 u2 (decide (u2 = 0)) G
theorem eq (u1 u2 : Int) (G : GH) : runF M C d [.c (.int .i64 u1), .c (.int .i64 u2)] G = f M C u1 u2 G := by kernel_rfl
end calc_Mul
namespace pin_Pages
def c6 : DCode := (.cond (.t 18) (.seq (.region [oP 0 6 (.move (.k (.c (.int .i64 0)))),
 oP 1 7 (.move (.k (.c (.int .i64 0))))]) .ret) .skip)
def c24 : DCode := (.seq (.region [mV 0 35 6,
 mV 1 36 8,
 mV 2 37 0,
 oP 3 38 (.bin .quo .i64 (.t 36) (.t 37)),
 oP 4 39 (.bin .add .i64 (.t 38) (.k (.c (.int .i64 1)))),
 mV 5 6 35,
 mV 6 7 39]) .ret)
def c28 : DCode := (.seq (.region [mV 0 19 1,
 mV 1 20 0,
 oP 2 21 (.bin .quo .i64 (.t 19) (.t 20)),
 mV 3 6 21]) (.seq (.seq (.region [mV 0 22 2,
 oP 1 23 (.cmp .eql .i64 (.t 22) (.k (.c (.int .i64 0))))]) (.cond (.t 23) (.seq (.region [mV 0 24 6,
 mV 1 25 6,
 mV 2 6 24,
 mV 3 7 25]) .ret) .skip)) (.seq (.region [oP 0 8 (.move (.k (.c (.int .i64 9223372036854775807))))]) (.seq (.seq (.region [mV 0 26 2,
 oP 1 27 (.bin .sub .i64 (.t 26) (.k (.c (.int .i64 1)))),
 mV 2 28 1,
 oP 3 29 (.bin .sub .i64 (.k (.c (.int .i64 9223372036854775807))) (.t 28)),
 oP 4 30 (.cmp .leq .i64 (.t 27) (.t 29))]) (.cond (.t 30) (.region [mV 0 31 1,
 mV 1 32 2,
 oP 2 33 (.bin .add .i64 (.t 31) (.t 32)),
 oP 3 34 (.bin .sub .i64 (.t 33) (.k (.c (.int .i64 1)))),
 mV 4 8 34]) .skip)) (.cut [0, 6, 8] c24)))))
def d : DFn := { ntmps := 40, res := [.t 6, .t 7], body := (.seq (.region [oP 0 6 (.move (.k (.c (.int .i64 0)))),
 oP 1 7 (.move (.k (.c (.int .i64 0))))]) (.seq (.seq (.region [mV 0 9 0,
 oP 1 10 (.cmp .lss .i64 (.t 9) (.k (.c (.int .i64 1)))),
 mV 2 11 10,
 ⟨3, some 12, .move (.t 1), some (11, false)⟩,
 ⟨4, some 13, .cmp .lss .i64 (.t 12) (.k (.c (.int .i64 0))), some (11, false)⟩,
 oP 5 14 (.pick (.t 11) (.k (.c (.bool true))) (.t 13)),
 mV 6 15 14,
 ⟨7, some 16, .move (.t 2), some (15, false)⟩,
 ⟨8, some 17, .cmp .lss .i64 (.t 16) (.k (.c (.int .i64 0))), some (15, false)⟩,
 oP 9 18 (.pick (.t 15) (.k (.c (.bool true))) (.t 17))]) (.cut [0, 1, 2, 18] c6)) c28)) }
def k28 : Kont := execC M.j C (M.ag C) c28 ({ exits := [], ret := retK d } : Env) (retK d)
def J6 (u1 u2 u3 : Int) (u4 : Bool) (G : GH) : Option Res := M.j (execC M.j C (M.ag C) c6 ({ exits := [], ret := retK d } : Env) (k28 M C)) (.v (.c (.int .i64 u1)) :: (.v (.c (.int .i64 u2)) :: (.v (.c (.int .i64 u3)) :: (uS 15 (.v (.c (.bool u4)) :: (uS 21 [])))))) G
def J24 (u1 u2 u3 : Int) (G : GH) : Option Res := M.j (execC M.j C (M.ag C) c24 ({ exits := [], ret := retK d } : Env) (retK d)) (.v (.c (.int .i64 u1)) :: (uS 5 (.v (.c (.int .i64 u2)) :: (uS 1 (.v (.c (.int .i64 u3)) :: (uS 31 [])))))) G
theorem J6_eq (u1 u2 u3 : Int) (u4 : Bool) (G : GH) : J6 M C u1 u2 u3 u4 G = (bif u4 then some ([.c (.int .i64 0), .c (.int .i64 0)], G) else (binD .quo .i64 u2 u1).bind fun q1 => bif decide (u3 = 0) then some ([.c (.int .i64 q1), .c (.int .i64 q1)], G) else bif decide (IntKind.i64.wrap (u3 - 1) ≤ IntKind.i64.wrap (9223372036854775807 - u2)) then J24 M C u1 q1 (IntKind.i64.wrap ((IntKind.i64.wrap (u2 + u3)) - 1)) G else J24 M C u1 q1 9223372036854775807 G) := (M.hj _ _ _).trans (by kernel_rfl)
theorem J24_eq (u1 u2 u3 : Int) (G : GH) : J24 M C u1 u2 u3 G = ((binD .quo .i64 u3 u1).bind fun q2 => some ([.c (.int .i64 u2), .c (.int .i64 (IntKind.i64.wrap (q2 + 1)))], G)) := (M.hj _ _ _).trans (by kernel_rfl)
def f (u1 u2 u3 : Int) (G : GH) : Option Res := bif decide (u1 < 1) then J6 M C u1 u2 u3 true G else bif decide (u2 < 0) then J6 M C u1 u2 u3 true G else J6 M C u1 u2 u3 (decide (u3 < 0)) G
theorem eq (u1 u2 u3 : Int) (G : GH) : runF M C d [.c (.int .i64 u1), .c (.int .i64 u2), .c (.int .i64 u3)] G = f M C u1 u2 u3 G := by kernel_rfl
end pin_Pages
namespace class_Product
def c6 : DCode := (.cond (.t 15) (.seq (.region [oP 0 6 (.move (.k (.c (.int .i64 0)))),
 oP 1 7 (.move (.k (.c (.int .i64 2))))]) .ret) .skip)
def c14 : DCode := (.cond (.t 29) (.seq (.region [oP 0 6 (.move (.k (.c (.int .i64 0)))),
 oP 1 7 (.move (.k (.c (.int .i64 4))))]) .ret) .skip)
def c18 : DCode := (.seq (.region [mV 0 30 8,
 mV 1 6 30,
 oP 2 7 (.move (.k (.c (.int .i64 0))))]) .ret)
def c20 : DCode := (.seq (.region [mV 0 17 1,
 mV 1 18 2,
 oP 2 19 (.call 62 [.t 17, .t 18] [.c (.int .i64), .c (.bool)]),
 mV 3 16 19,
 oP 4 20 (.ext 16 0),
 oP 5 21 (.ext 16 1),
 mV 6 8 20,
 mV 7 9 21]) (.seq (.seq (.region [mV 0 22 9,
 oP 1 23 (.not (.t 22)),
 mV 2 24 23,
 ⟨3, some 25, .move (.t 8), some (24, false)⟩,
 ⟨4, some 26, .faddr 3 1, some (24, false)⟩,
 ⟨5, some 27, .ldL 26 31 (.c (.int .i64)), some (24, false)⟩,
 ⟨6, some 28, .cmp .gtr .i64 (.t 25) (.t 27), some (24, false)⟩,
 oP 7 29 (.pick (.t 24) (.k (.c (.bool true))) (.t 28))]) (.cut [8, 29] c14)) c18))
def d : DFn := { ntmps := 32, res := [.t 6, .t 7], body := (.seq (.region [oP 0 3 (.boxv 31 [26] (.t 0) 8),
 oP 1 6 (.move (.k (.c (.int .i64 0)))),
 oP 2 7 (.move (.k (.c (.int .i64 0))))]) (.seq (.seq (.region [mV 0 10 1,
 oP 1 11 (.cmp .lss .i64 (.t 10) (.k (.c (.int .i64 0)))),
 mV 2 12 11,
 ⟨3, some 13, .move (.t 2), some (12, false)⟩,
 ⟨4, some 14, .cmp .lss .i64 (.t 13) (.k (.c (.int .i64 0))), some (12, false)⟩,
 oP 5 15 (.pick (.t 12) (.k (.c (.bool true))) (.t 14))]) (.cut [1, 2, 3, 15, 31] c6)) c20)) }
def k20 : Kont := execC M.j C (M.ag C) c20 ({ exits := [], ret := retK d } : Env) (retK d)
def J6 (u1 u2 : Int) (u3 : Bool) (u4 u5 u6 u7 u8 u9 u10 u11 : Int) (G : GH) : Option Res := M.j (execC M.j C (M.ag C) c6 ({ exits := [], ret := retK d } : Env) (k20 M C)) (uS 1 (.v (.c (.int .i64 u1)) :: (.v (.c (.int .i64 u2)) :: (.ref 31 0 :: (uS 11 (.v (.c (.bool u3)) :: (uS 15 (.box [.int .i64 u4, .int .i64 u5, .int .i64 u6, .int .i64 u7, .int .i64 u8, .int .i64 u9, .int .i64 u10, .int .i64 u11] :: [])))))))) G
def k18 : Kont := execC M.j C (M.ag C) c18 ({ exits := [], ret := retK d } : Env) (retK d)
def J14 (u1 : Int) (u2 : Bool) (G : GH) : Option Res := M.j (execC M.j C (M.ag C) c14 ({ exits := [], ret := retK d } : Env) (k18 M C)) (uS 8 (.v (.c (.int .i64 u1)) :: (uS 20 (.v (.c (.bool u2)) :: (uS 2 []))))) G
theorem J6_eq (u1 u2 : Int) (u3 : Bool) (u4 u5 u6 u7 u8 u9 u10 u11 : Int) (G : GH) : J6 M C u1 u2 u3 u4 u5 u6 u7 u8 u9 u10 u11 G = (bif u3 then some ([.c (.int .i64 0), .c (.int .i64 2)], G) else (C calc_Mul.id [.c (.int .i64 u1), .c (.int .i64 u2)] G).bind fun q1 => (((q1.1[0]?).bind V1.c?).bind (Cell.asI .i64)).bind fun q2 => (((q1.1[1]?).bind V1.c?).bind Cell.asB).bind fun q3 => bif (!q3) then J14 M C q2 true q1.2 else J14 M C q2 (decide (q2 > u5)) q1.2) := (M.hj _ _ _).trans (by kernel_rfl)
theorem J14_eq (u1 : Int) (u2 : Bool) (G : GH) : J14 M C u1 u2 G = (bif u2 then some ([.c (.int .i64 0), .c (.int .i64 4)], G) else some ([.c (.int .i64 u1), .c (.int .i64 0)], G)) := (M.hj _ _ _).trans (by kernel_rfl)
def f (u1 u2 u3 u4 u5 u6 u7 u8 u9 u10 : Int) (G : GH) : Option Res := bif decide (u9 < 0) then J6 M C u9 u10 true u1 u2 u3 u4 u5 u6 u7 u8 G else J6 M C u9 u10 (decide (u10 < 0)) u1 u2 u3 u4 u5 u6 u7 u8 G
theorem eq (u1 u2 u3 u4 u5 u6 u7 u8 u9 u10 : Int) (G : GH) : runF M C d [.agg [.int .i64 u1, .int .i64 u2, .int .i64 u3, .int .i64 u4, .int .i64 u5, .int .i64 u6, .int .i64 u7, .int .i64 u8], .c (.int .i64 u9), .c (.int .i64 u10)] G = f M C u1 u2 u3 u4 u5 u6 u7 u8 u9 u10 G := by kernel_rfl
end class_Product
namespace wire_one
def d : DFn := { ntmps := 69, res := [.pt 4 (some 6), .t 5, .t 6], body := (.seq (.region [oP 0 4 (.newz [.int .i64 0, .int .i64 0, .int .i64 0, .int .i64 0, .int .i64 0, .int .u8 0]),
 oP 1 5 (.move (.k (.c (.int .i64 0)))),
 oP 2 6 (.move (.k (.c (.bool false))))]) (.seq (.region [mV 0 9 0,
 oP 1 10 (.faddr 4 0),
 ⟨2, none, .stG 10 (.t 9) 1, none⟩]) (.seq (.seq (.region [mV 0 11 0,
 oP 1 12 (.call 69 [.t 11] [.c (.str)]),
 oP 2 13 (.sbytes (.t 12)),
 oP 3 14 (.len (.t 13)),
 oP 4 15 (.move (.k (.c (.int .i64 0))))]) (.block 0 (.loop [0, 1, 4, 5, 13, 14, 15] (.seq (.region [oP 0 16 (.cmp .lss .i64 (.t 15) (.t 14))]) (.seq (.cond (.t 16) .skip (.exit 0)) (.seq (.block 1 (.seq (.region [oP 0 17 (.iaddr (.t 13) (.t 15) 1),
 oP 1 18 (.ldG 17 (.c (.int .u8))),
 mV 2 8 18]) (.seq (.seq (.region [mV 0 19 1,
 oP 1 20 (.len (.t 19)),
 mV 2 21 5,
 oP 3 22 (.bin .sub .i64 (.t 20) (.t 21)),
 oP 4 23 (.cmp .lss .i64 (.t 22) (.k (.c (.int .i64 3))))]) (.cond (.t 23) (.seq (.region [oP 0 24 (.ldG 4 (.agg [.int .i64, .int .i64, .int .i64, .int .i64, .int .i64, .int .u8])),
 ⟨1, none, .stG 4 (.t 24) 6, none⟩,
 oP 2 5 (.move (.k (.c (.int .i64 0)))),
 oP 3 6 (.move (.k (.c (.bool false))))]) .ret) .skip)) (.seq (.region [mV 0 25 8,
 mV 2 27 1,
 mV 3 28 5,
 oP 4 29 (.iaddr (.t 27) (.t 28) 1),
 oP 5 30 (.ldG 29 (.c (.int .u8))),
 oP 6 31 (.conv .i64 (.t 30)),
 oP 7 32 (.bin .shl .i64 (.t 31) (.k (.c (.int .u64 16)))),
 mV 8 33 1,
 mV 9 34 5,
 oP 10 35 (.bin .add .i64 (.t 34) (.k (.c (.int .i64 1)))),
 oP 11 36 (.iaddr (.t 33) (.t 35) 1),
 oP 12 37 (.ldG 36 (.c (.int .u8))),
 oP 13 38 (.conv .i64 (.t 37)),
 oP 14 39 (.bin .shl .i64 (.t 38) (.k (.c (.int .u64 8)))),
 oP 15 40 (.bin .or .i64 (.t 32) (.t 39)),
 mV 16 41 1,
 mV 17 42 5,
 oP 18 43 (.bin .add .i64 (.t 42) (.k (.c (.int .i64 2)))),
 oP 19 44 (.iaddr (.t 41) (.t 43) 1),
 oP 20 45 (.ldG 44 (.c (.int .u8))),
 oP 21 46 (.conv .i64 (.t 45)),
 oP 22 47 (.bin .or .i64 (.t 40) (.t 46)),
 oP 1 26 (.call 70 [.t 4, .t 25] [.c (.ptr)]),
 ⟨9999, none, .reG 30 29 (.c (.int .u8)), none⟩,
 ⟨9999, none, .reG 37 36 (.c (.int .u8)), none⟩,
 ⟨9999, none, .reG 45 44 (.c (.int .u8)), none⟩,
 oP 23 48 (.nilck (.t 26)),
 ⟨24, none, .stG 48 (.t 47) 1, none⟩]) (.region [mV 0 49 5,
 oP 1 50 (.bin .add .i64 (.t 49) (.k (.c (.int .i64 3)))),
 mV 2 5 50]))))) (.region [oP 0 51 (.bin .add .i64 (.t 15) (.k (.c (.int .i64 1)))),
 mV 1 15 51]))))))) (.seq (.seq (.region [mV 0 52 0,
 oP 1 53 (.cmp .neq .i64 (.t 52) (.k (.c (.int .i64 8))))]) (.cond (.t 53) (.seq (.region [oP 0 54 (.ldG 4 (.agg [.int .i64, .int .i64, .int .i64, .int .i64, .int .i64, .int .u8])),
 mV 1 55 5,
 ⟨2, none, .stG 4 (.t 54) 6, none⟩,
 mV 3 5 55,
 oP 4 6 (.move (.k (.c (.bool true))))]) .ret) .skip)) (.seq (.seq (.region [mV 0 56 1,
 oP 1 57 (.len (.t 56)),
 mV 2 58 5,
 oP 3 59 (.cmp .leq .i64 (.t 57) (.t 58))]) (.cond (.t 59) (.seq (.region [oP 0 60 (.ldG 4 (.agg [.int .i64, .int .i64, .int .i64, .int .i64, .int .i64, .int .u8])),
 ⟨1, none, .stG 4 (.t 60) 6, none⟩,
 oP 2 5 (.move (.k (.c (.int .i64 0)))),
 oP 3 6 (.move (.k (.c (.bool false))))]) .ret) .skip)) (.seq (.region [mV 0 61 1,
 mV 1 62 5,
 oP 2 63 (.iaddr (.t 61) (.t 62) 1),
 oP 3 64 (.ldG 63 (.c (.int .u8))),
 oP 4 65 (.faddr 4 5),
 ⟨5, none, .stG 65 (.t 64) 1, none⟩]) (.seq (.region [oP 0 66 (.ldG 4 (.agg [.int .i64, .int .i64, .int .i64, .int .i64, .int .i64, .int .u8])),
 mV 1 67 5,
 oP 2 68 (.bin .add .i64 (.t 67) (.k (.c (.int .i64 1)))),
 ⟨3, none, .stG 4 (.t 66) 6, none⟩,
 mV 4 5 68,
 oP 5 6 (.move (.k (.c (.bool true))))]) .ret))))))) }
end wire_one
namespace heap_Heap_Blocks
def c20 : DCode := (.seq (.region [oP 0 14 (.cmp .lss .i64 (.t 13) (.t 12))]) (.seq (.cond (.t 14) .skip (.exit 0)) (.seq (.block 1 (.seq (.region [oP 0 15 (.iaddr (.t 11) (.t 13) 2),
 oP 1 16 (.ldG 15 (.agg (iS 2))),
 oP 2 4 (.boxz 30 [22] [.int .i64 0, .int .i64 0]),
 ⟨3, none, .stL 4 30 (.t 16) 2, none⟩]) (.region [mV 0 17 2,
 mV 1 18 0,
 oP 2 19 (.nilck (.t 18)),
 oP 3 20 (.faddr 19 11),
 oP 4 21 (.ldG 20 (.c (.map))),
 oP 5 22 (.faddr 4 0),
 oP 6 23 (.ldL 22 30 (.c (.int .i64))),
 oP 7 24 (.build [.int .i64 0] [(0, 1, .t 23)]),
 oP 8 25 (.lkup (.agg [.int .i64]) (.t 21) (.t 24) (.agg [.int .i64 0, .int .i64 0, .int .i64 0]) (.agg (iS 3)) false),
 oP 9 26 (.bslice 1 3 [.int .i64 0, .int .i64 0, .int .i64 0] [(0, 3, .t 25)]),
 oP 10 27 (.app (.t 17) (.t 26) 3 24),
 mV 11 2 27]))) (.region [oP 0 28 (.bin .add .i64 (.t 13) (.k (.c (.int .i64 1)))),
 mV 1 13 28]))))
def c26 : DCode := (.seq (.region [mV 0 29 2,
 mV 1 2 29]) .ret)
def d : DFn := { ntmps := 31, res := [.t 2], body := (.seq (.region [oP 0 2 (.move (.k (.c (.sl 3 0 0 0))))]) (.seq (.seq (.region [mV 0 5 0,
 oP 1 6 (.pnil false (.t 5))]) (.cond (.t 6) (.seq (.region [oP 0 2 (.move (.k (.c (.sl 3 0 0 0))))]) .ret) .skip)) (.seq (.seq (.region [mV 0 7 0,
 oP 1 8 (.nilck (.t 7)),
 oP 2 9 (.faddr 8 8),
 oP 3 10 (.faddr 9 2),
 oP 4 11 (.ldG 10 (.c (.sl 2))),
 oP 5 12 (.len (.t 11)),
 oP 6 13 (.move (.k (.c (.int .i64 0))))]) (.block 0 (.loop [0, 2, 11, 12, 13] c20))) c26))) }
def k26 : Kont := execC M.j C (M.ag C) c26 ({ exits := [], ret := retK d } : Env) (retK d)
def e22 : Env := { exits := (0, (k26 M C)) :: (({ exits := [], ret := retK d } : Env)).exits, ret := (({ exits := [], ret := retK d } : Env)).ret }
def L21 (u1i u1o u2i u2o u2n u3i u3o u3n : Nat) (u4 u5 : Int) (G : GH) : Option Res := M.ag C [0, 2, 11, 12, 13] c20 (e22 M C) (k26 M C) (.v (.c (.ptr u1i u1o)) :: (uS 1 (.v (.c (.sl 3 u2i u2o u2n)) :: (uS 8 (.v (.c (.sl 2 u3i u3o u3n)) :: (.v (.c (.int .i64 u4)) :: (.v (.c (.int .i64 u5)) :: (uS 17 [])))))))) G
theorem L21_eq (u1i u1o u2i u2o u2n u3i u3o u3n : Nat) (u4 u5 : Int) (G : GH) : L21 M C u1i u1o u2i u2o u2n u3i u3o u3n u4 u5 G = (bif decide (u5 < u4) then guardK (decide (0 ≤ u5 ∧ u5 < ((u3n : Nat) : Int))) (((G.ld u3i ((u3o + Int.toNat u5 * 2) + 0)).bind (Cell.asI .i64)).bind fun q2 => ((G.ld u3i ((u3o + Int.toNat u5 * 2) + 1)).bind (Cell.asI .i64)).bind fun q3 => guardK (!Nat.beq u1i 0) (((G.ld u1i (u1o + 11)).bind Cell.asM).bind fun q4 => (G.ents0 (.agg [.int .i64]) q4).bind fun q5 => (((some ((mapGet q5 (.agg [.int .i64 q2])).getD (.agg [.int .i64 0, .int .i64 0, .int .i64 0])))).bind V1.a?).bind fun q6 => if q6.length = 3 then (((q6[0]?).bind (Cell.asI .i64)).bind fun q7 => ((q6[1]?).bind (Cell.asI .i64)).bind fun q8 => ((q6[2]?).bind (Cell.asI .i64)).bind fun q9 => let q10 := G.alloc (.row [.int .i64 q7, .int .i64 q8, .int .i64 q9] false); (if 1 = 0 then some [] else q10.lds G.next 0 (1 * 3)).bind fun q11 => guardK (decide (u2n + 1 ≤ most)) ((q10.app u2i u2o u2n 3 1 q11).bind fun q12 => L21 M C u1i u1o q12.1 q12.2.1 (u2n + 1) u3i u3o u3n u4 (IntKind.i64.wrap (u5 + 1)) q12.2.2)) else none)) else some ([.c (.sl 3 u2i u2o u2n)], G)) := (M.hs _ _ _ _ _ _ _).trans (by kernel_rfl)
def f (u1i u1o : Nat) (G : GH) : Option Res := bif Bool.xor false (Nat.beq u1i 0) then some ([.c (.sl 3 0 0 0)], G) else guardK (!Nat.beq u1i 0) (((G.ld u1i ((u1o + 8) + 2)).bind (Cell.asS 2)).bind fun q1 => L21 M C u1i u1o 0 0 0 q1.1 q1.2.1 q1.2.2 ((q1.2.2 : Nat) : Int) 0 G)
theorem eq (u1i u1o : Nat) (G : GH) : runF M C d [.c (.ptr u1i u1o)] G = f M C u1i u1o G := by kernel_rfl
end heap_Heap_Blocks
namespace place_Place
def d : DFn := { ntmps := 50, res := [.box 4 (some 3), .t 5, .t 6], body := (.seq (.region [oP 0 2 (.boxv 48 [11, 25, 28, 38, 39, 45] (.t 0) 3),
 oP 1 4 (.boxz 49 [] [.int .i64 0, .sl 2 0 0 0, .sl 2 0 0 0]),
 oP 2 5 (.move (.k (.c (.int .i64 0)))),
 oP 3 6 (.move (.k (.c (.bool false))))]) (.seq (.region [oP 0 11 (.faddr 2 1),
 oP 1 12 (.ldL 11 48 (.agg [.sl 2])),
 mV 2 13 1,
 oP 3 14 (.call 81 [.t 12, .t 13] [.c (.int .i64), .c (.bool)]),
 mV 4 10 14,
 oP 5 15 (.ext 10 0),
 oP 6 16 (.ext 10 1),
 mV 7 7 15,
 mV 8 8 16]) (.seq (.seq (.region [mV 0 17 8,
 oP 1 18 (.not (.t 17))]) (.cond (.t 18) (.seq (.region [oP 0 19 (.ldL 2 48 (.agg [.int .i64, .sl 2, .sl 2])),
 oP 1 20 (.call 78 [.t 19] [.agg [.int .i64, .sl 2, .sl 2]]),
 ⟨2, none, .stL 4 49 (.t 20) 3, none⟩,
 oP 3 5 (.move (.k (.c (.int .i64 0)))),
 oP 4 6 (.move (.k (.c (.bool false))))]) .ret) .skip)) (.seq (.region [mV 0 21 7,
 mV 1 22 1,
 oP 2 23 (.conv .u64 (.t 22)),
 oP 3 24 (.bin .shl .i64 (.t 21) (.t 23)),
 oP 4 25 (.faddr 2 0),
 oP 5 26 (.ldL 25 48 (.c (.int .i64))),
 oP 6 27 (.bin .mul .i64 (.t 24) (.t 26)),
 mV 7 9 27]) (.seq (.region [oP 0 28 (.faddr 2 1),
 oP 1 29 (.ldL 28 48 (.agg [.sl 2])),
 mV 2 30 7,
 mV 3 31 1,
 oP 4 32 (.conv .u64 (.t 31)),
 oP 5 33 (.bin .shl .i64 (.t 30) (.t 32)),
 mV 6 34 1,
 oP 7 35 (.conv .u64 (.t 34)),
 oP 8 36 (.bin .shl .i64 (.k (.c (.int .i64 1))) (.t 35)),
 oP 9 37 (.call 79 [.t 29, .t 33, .t 36, .k (.c (.bool true))] [.agg [.sl 2]]),
 oP 10 38 (.faddr 2 1),
 ⟨11, none, .stL 38 48 (.t 37) 1, none⟩]) (.seq (.region [oP 0 39 (.faddr 2 2),
 oP 1 40 (.ldL 39 48 (.c (.sl 2))),
 mV 2 41 9,
 mV 3 42 1,
 oP 4 43 (.build [.int .i64 0, .int .i64 0] [(0, 1, .t 41), (1, 1, .t 42)]),
 oP 5 44 (.call 82 [.t 40, .t 43] [.c (.sl 2)]),
 oP 6 45 (.faddr 2 2),
 ⟨7, none, .stL 45 48 (.t 44) 1, none⟩]) (.seq (.region [oP 0 46 (.ldL 2 48 (.agg [.int .i64, .sl 2, .sl 2])),
 mV 1 47 9,
 ⟨2, none, .stL 4 49 (.t 46) 3, none⟩,
 mV 3 5 47,
 oP 4 6 (.move (.k (.c (.bool true))))]) .ret))))))) }
def f (M : Mach) (C : Call) (u1 : Int) (u2i u2o u2n u3i u3o u3n : Nat) (u4 : Int) (G : GH) : Option Res := (C slots_Lowest.id [.agg [.sl 2 u2i u2o u2n], .c (.int .i64 u4)] G).bind fun q1 => (((q1.1[0]?).bind V1.c?).bind (Cell.asI .i64)).bind fun q2 => (((q1.1[1]?).bind V1.c?).bind Cell.asB).bind fun q3 => bif (!q3) then (C place_twin.id [.agg [.int .i64 u1, .sl 2 u2i u2o u2n, .sl 2 u3i u3o u3n]] q1.2).bind fun q4 => ((q4.1[0]?).bind V1.a?).bind fun q5 => if q5.length = 3 then (((q5[0]?).bind (Cell.asI .i64)).bind fun q6 => ((q5[1]?).bind (Cell.asS 2)).bind fun q7 => ((q5[2]?).bind (Cell.asS 2)).bind fun q8 => some ([.agg [.int .i64 q6, .sl 2 q7.1 q7.2.1 q7.2.2, .sl 2 q8.1 q8.2.1 q8.2.2], .c (.int .i64 0), .c (.bool false)], q4.2)) else none else (binD .shl .i64 q2 (IntKind.u64.wrap u4)).bind fun q9 => (binD .shl .i64 q2 (IntKind.u64.wrap u4)).bind fun q10 => (binD .shl .i64 1 (IntKind.u64.wrap u4)).bind fun q11 => (C slots_Use.id [.agg [.sl 2 u2i u2o u2n], .c (.int .i64 q10), .c (.int .i64 q11), .c (.bool true)] q1.2).bind fun q12 => ((q12.1[0]?).bind V1.a?).bind fun q13 => if q13.length = 1 then (((q13[0]?).bind (Cell.asS 2)).bind fun q14 => (C side_Put.id [.c (.sl 2 u3i u3o u3n), .agg [.int .i64 (IntKind.i64.wrap (q9 * u1)), .int .i64 u4]] q12.2).bind fun q15 => (((q15.1[0]?).bind V1.c?).bind (Cell.asS 2)).bind fun q16 => some ([.agg [.int .i64 u1, .sl 2 q14.1 q14.2.1 q14.2.2, .sl 2 q16.1 q16.2.1 q16.2.2], .c (.int .i64 (IntKind.i64.wrap (q9 * u1))), .c (.bool true)], q15.2)) else none
theorem eq (u1 : Int) (u2i u2o u2n u3i u3o u3n : Nat) (u4 : Int) (G : GH) : runF M C d [.agg [.int .i64 u1, .sl 2 u2i u2o u2n, .sl 2 u3i u3o u3n], .c (.int .i64 u4)] G = f M C u1 u2i u2o u2n u3i u3o u3n u4 G := by kernel_rfl
end place_Place
namespace tree_New
def c6 : DCode := (.cond (.t 9) (.seq (.region [oP 0 10 (.ldL 2 28 (.agg [.int .i64, .sl 1])),
 ⟨1, none, .stL 2 28 (.t 10) 2, none⟩]) .ret) .skip)
def c21 : DCode := (.seq (.block 1 (.seq (.region [oP 0 18 (.faddr 2 1),
 oP 1 19 (.ldL 18 28 (.c (.sl 1))),
 mV 2 20 3,
 oP 3 21 (.call 71 [.t 20] [.c (.sl 1)]),
 oP 4 22 (.bslice 1 1 [.sl 1 0 0 0] [(0, 1, .t 21)]),
 oP 5 23 (.app (.t 19) (.t 22) 1 24),
 oP 6 24 (.faddr 2 1),
 ⟨7, none, .stL 24 28 (.t 23) 1, none⟩]) (.seq (.region [mV 0 25 3,
 oP 1 26 (.cmp .leq .i64 (.t 25) (.k (.c (.int .i64 64))))]) (.cond (.t 26) (.seq (.region [oP 0 27 (.ldL 2 28 (.agg [.int .i64, .sl 1])),
 ⟨1, none, .stL 2 28 (.t 27) 2, none⟩]) .ret) .skip)))) (.region [mV 0 14 3,
 oP 1 15 (.bin .sub .i64 (.t 14) (.k (.c (.int .i64 1)))),
 oP 2 16 (.bin .quo .i64 (.t 15) (.k (.c (.int .i64 64)))),
 oP 3 17 (.bin .add .i64 (.t 16) (.k (.c (.int .i64 1)))),
 mV 4 3 17]))
def c25 : DCode := (.seq (.region [mV 0 11 0,
 oP 1 12 (.faddr 2 0),
 ⟨2, none, .stL 12 28 (.t 11) 1, none⟩]) (.seq (.region [mV 0 13 0,
 mV 1 3 13]) (.block 0 (.loop [2, 3, 28] c21))))
def d : DFn := { ntmps := 29, res := [.box 2 (some 2)], body := (.seq (.region [oP 0 2 (.boxz 28 [12, 18, 24] [.int .i64 0, .sl 1 0 0 0])]) (.seq (.seq (.region [mV 0 4 0,
 oP 1 5 (.cmp .lss .i64 (.t 4) (.k (.c (.int .i64 1)))),
 mV 2 6 5,
 ⟨3, some 7, .move (.t 0), some (6, false)⟩,
 ⟨4, some 8, .cmp .gtr .i64 (.t 7) (.k (.c (.int .i64 65536))), some (6, false)⟩,
 oP 5 9 (.pick (.t 6) (.k (.c (.bool true))) (.t 8))]) (.cut [0, 2, 9, 28] c6)) c25)) }
def k25 : Kont := execC M.j C (M.ag C) c25 ({ exits := [], ret := retK d } : Env) (retK d)
def J6 (u1 : Int) (u2 : Bool) (u3 : Int) (u4i u4o u4n : Nat) (G : GH) : Option Res := M.j (execC M.j C (M.ag C) c6 ({ exits := [], ret := retK d } : Env) (k25 M C)) (.v (.c (.int .i64 u1)) :: (uS 1 (.ref 28 0 :: (uS 6 (.v (.c (.bool u2)) :: (uS 18 (.box [.int .i64 u3, .sl 1 u4i u4o u4n] :: []))))))) G
def e23 (M : Mach) (C : Call) : Env := { exits := (0, (retK d)) :: (({ exits := [], ret := retK d } : Env)).exits, ret := (({ exits := [], ret := retK d } : Env)).ret }
def L22 (u1 u2 : Int) (u3i u3o u3n : Nat) (G : GH) : Option Res := M.ag C [2, 3, 28] c21 (e23 M C) (retK d) (uS 2 (.ref 28 0 :: (.v (.c (.int .i64 u1)) :: (uS 24 (.box [.int .i64 u2, .sl 1 u3i u3o u3n] :: []))))) G
theorem J6_eq (u1 : Int) (u2 : Bool) (u3 : Int) (u4i u4o u4n : Nat) (G : GH) : J6 M C u1 u2 u3 u4i u4o u4n G = (bif u2 then some ([.agg [.int .i64 u3, .sl 1 u4i u4o u4n]], G) else L22 M C u1 u1 u4i u4o u4n G) := (M.hj _ _ _).trans (by kernel_rfl)
theorem L22_eq (u1 u2 : Int) (u3i u3o u3n : Nat) (G : GH) : L22 M C u1 u2 u3i u3o u3n G = ((C tree_level.id [.c (.int .i64 u1)] G).bind fun q1 => (((q1.1[0]?).bind V1.c?).bind (Cell.asS 1)).bind fun q2 => let q3 := q1.2.alloc (.row [.sl 1 q2.1 q2.2.1 q2.2.2] false); (if 1 = 0 then some [] else q3.lds q1.2.next 0 (1 * 1)).bind fun q4 => guardK (decide (u3n + 1 ≤ most)) ((q3.app u3i u3o u3n 1 1 q4).bind fun q5 => bif decide (u1 ≤ 64) then some ([.agg [.int .i64 u2, .sl 1 q5.1 q5.2.1 (u3n + 1)]], q5.2.2) else L22 M C (IntKind.i64.wrap ((IntKind.i64.wrap (Int.tdiv (IntKind.i64.wrap (u1 - 1)) 64)) + 1)) u2 q5.1 q5.2.1 (u3n + 1) q5.2.2)) := (M.hs _ _ _ _ _ _ _).trans (by kernel_rfl)
def f (u1 : Int) (G : GH) : Option Res := bif decide (u1 < 1) then J6 M C u1 true 0 0 0 0 G else J6 M C u1 (decide (u1 > 65536)) 0 0 0 0 G
theorem eq (u1 : Int) (G : GH) : runF M C d [.c (.int .i64 u1)] G = f M C u1 G := by kernel_rfl
end tree_New
namespace heap_Heap_meets
def c12 : DCode := (.seq (.seq (.region [mV 0 23 8,
 mV 1 24 7,
 mV 2 25 0,
 oP 3 26 (.nilck (.t 25)),
 oP 4 27 (.faddr 26 15),
 oP 5 28 (.ldG 27 (.c (.sl 1))),
 oP 6 29 (.len (.t 28)),
 oP 7 30 (.mn (.t 24) [.t 29]),
 oP 8 31 (.cmp .lss .i64 (.t 23) (.t 30))]) (.cond (.t 31) .skip (.exit 0))) (.seq (.block 1 (.region [mV 0 34 0,
 oP 1 35 (.nilck (.t 34)),
 oP 2 36 (.faddr 35 15),
 oP 3 37 (.ldG 36 (.c (.sl 1))),
 mV 4 38 8,
 oP 5 39 (.iaddr (.t 37) (.t 38) 1),
 oP 6 40 (.ldG 39 (.c (.int .i64))),
 mV 7 41 2,
 oP 8 42 (.bin .add .i64 (.t 40) (.t 41)),
 oP 9 43 (.iaddr (.t 37) (.t 38) 1),
 ⟨10, none, .stG 43 (.t 42) 1, none⟩])) (.region [mV 0 32 8,
 oP 1 33 (.bin .add .i64 (.t 32) (.k (.c (.int .i64 1)))),
 mV 2 8 33])))
def d : DFn := { ntmps := 45, res := [], body := (.seq (.region [oP 0 4 (.boxv 44 [15, 17] (.t 1) 3)]) (.seq (.region [mV 0 10 0,
 oP 1 11 (.nilck (.t 10)),
 oP 2 12 (.faddr 11 0),
 oP 3 13 (.faddr 12 4),
 oP 4 14 (.ldG 13 (.c (.int .i64))),
 oP 5 15 (.faddr 4 0),
 oP 6 16 (.ldL 15 44 (.c (.int .i64))),
 oP 7 17 (.faddr 4 1),
 oP 8 18 (.ldL 17 44 (.c (.int .i64))),
 oP 9 19 (.call 74 [.t 14, .t 16, .t 18] [.c (.int .i64), .c (.int .i64)]),
 mV 10 9 19,
 oP 11 20 (.ext 9 0),
 oP 12 21 (.ext 9 1),
 mV 13 6 20,
 mV 14 7 21]) (.seq (.region [mV 0 22 6,
 mV 1 8 22]) (.block 0 (.loop [0, 2, 7, 8] c12))))) }
def e14 (M : Mach) (C : Call) : Env := { exits := (0, (retK d)) :: (({ exits := [], ret := retK d } : Env)).exits, ret := (({ exits := [], ret := retK d } : Env)).ret }
def L13 (u1i u1o : Nat) (u2 u3 u4 : Int) (G : GH) : Option Res := M.ag C [0, 2, 7, 8] c12 (e14 M C) (retK d) (.v (.c (.ptr u1i u1o)) :: (uS 1 (.v (.c (.int .i64 u2)) :: (uS 4 (.v (.c (.int .i64 u3)) :: (.v (.c (.int .i64 u4)) :: (uS 36 []))))))) G
theorem L13_eq (u1i u1o : Nat) (u2 u3 u4 : Int) (G : GH) : L13 M C u1i u1o u2 u3 u4 G = (guardK (!Nat.beq u1i 0) (((G.ld u1i (u1o + 15)).bind (Cell.asS 1)).bind fun q5 => bif decide (u4 < mn2 u3 ((q5.2.2 : Nat) : Int)) then guardK (!Nat.beq u1i 0) (((G.ld u1i (u1o + 15)).bind (Cell.asS 1)).bind fun q6 => guardK (decide (0 ≤ u4 ∧ u4 < ((q6.2.2 : Nat) : Int))) (((G.ld q6.1 (q6.2.1 + Int.toNat u4 * 1)).bind (Cell.asI .i64)).bind fun q7 => guardK (decide (0 ≤ u4 ∧ u4 < ((q6.2.2 : Nat) : Int))) ((G.sts q6.1 (q6.2.1 + Int.toNat u4 * 1) [.int .i64 (IntKind.i64.wrap (q7 + u2))]).bind fun q8 => L13 M C u1i u1o u2 u3 (IntKind.i64.wrap (u4 + 1)) q8))) else some ([], G))) := (M.hs _ _ _ _ _ _ _).trans (by kernel_rfl)
def f (u1i u1o : Nat) (u2 u3 u4 u5 : Int) (G : GH) : Option Res := guardK (!Nat.beq u1i 0) (((G.ld u1i ((u1o + 0) + 4)).bind (Cell.asI .i64)).bind fun q1 => (C pin_Pages.id [.c (.int .i64 q1), .c (.int .i64 u2), .c (.int .i64 u3)] G).bind fun q2 => (((q2.1[0]?).bind V1.c?).bind (Cell.asI .i64)).bind fun q3 => (((q2.1[1]?).bind V1.c?).bind (Cell.asI .i64)).bind fun q4 => L13 M C u1i u1o u5 q4 q3 q2.2)
theorem eq (u1i u1o : Nat) (u2 u3 u4 u5 : Int) (G : GH) : runF M C d [.c (.ptr u1i u1o), .agg [.int .i64 u2, .int .i64 u3, .int .i64 u4], .c (.int .i64 u5)] G = f M C u1i u1o u2 u3 u4 u5 G := by kernel_rfl
end heap_Heap_meets
namespace admit_New
def c15 : DCode := (.cond (.t 37) (.seq (.region [oP 0 8 (.move (.k (.c (.int .i64 0)))),
 oP 1 9 (.move (.k (.c (.int .i64 5))))]) .ret) .skip)
def c20 : DCode := (.seq (.region [mV 0 38 10,
 mV 1 8 38,
 oP 2 9 (.move (.k (.c (.int .i64 0))))]) .ret)
def d : DFn := { ntmps := 40, res := [.t 8, .t 9], body := (.seq (.region [oP 0 4 (.boxv 39 [34] (.t 0) 8),
 oP 1 8 (.move (.k (.c (.int .i64 0)))),
 oP 2 9 (.move (.k (.c (.int .i64 0))))]) (.seq (.region [oP 0 15 (.ldL 4 39 (.agg (iS 8))),
 mV 1 16 2,
 mV 2 17 3,
 oP 3 18 (.call 60 [.t 15, .t 16, .t 17] [.c (.int .i64), .c (.int .i64)]),
 mV 4 14 18,
 oP 5 19 (.ext 14 0),
 oP 6 20 (.ext 14 1),
 mV 7 10 19,
 mV 8 11 20]) (.seq (.seq (.region [mV 0 21 11,
 oP 1 22 (.cmp .neq .i64 (.t 21) (.k (.c (.int .i64 0))))]) (.cond (.t 22) (.seq (.region [mV 0 23 11,
 oP 1 8 (.move (.k (.c (.int .i64 0)))),
 mV 2 9 23]) .ret) .skip)) (.seq (.seq (.region [mV 0 25 1,
 mV 1 26 10,
 oP 2 27 (.call 53 [.t 25, .t 26] [.c (.int .i64), .c (.bool)]),
 mV 3 24 27,
 oP 4 28 (.ext 24 0),
 oP 5 29 (.ext 24 1),
 mV 6 12 28,
 mV 7 13 29]) (.seq (.region [mV 0 30 13,
 oP 1 31 (.not (.t 30)),
 mV 2 32 31,
 ⟨3, some 33, .move (.t 12), some (32, false)⟩,
 ⟨4, some 34, .faddr 4 2, some (32, false)⟩,
 ⟨5, some 35, .ldL 34 39 (.c (.int .i64)), some (32, false)⟩,
 ⟨6, some 36, .cmp .gtr .i64 (.t 33) (.t 35), some (32, false)⟩,
 oP 7 37 (.pick (.t 32) (.k (.c (.bool true))) (.t 36))]) (.cut [10, 37] c15))) c20)))) }
def k20 : Kont := execC M.j C (M.ag C) c20 ({ exits := [], ret := retK d } : Env) (retK d)
def J15 (u1 : Int) (u2 : Bool) (G : GH) : Option Res := M.j (execC M.j C (M.ag C) c15 ({ exits := [], ret := retK d } : Env) (k20 M C)) (uS 10 (.v (.c (.int .i64 u1)) :: (uS 26 (.v (.c (.bool u2)) :: (uS 2 []))))) G
theorem J15_eq (u1 : Int) (u2 : Bool) (G : GH) : J15 M C u1 u2 G = (bif u2 then some ([.c (.int .i64 0), .c (.int .i64 5)], G) else some ([.c (.int .i64 u1), .c (.int .i64 0)], G)) := (M.hj _ _ _).trans (by kernel_rfl)
def f (u1 u2 u3 u4 u5 u6 u7 u8 u9 u10 u11 : Int) (G : GH) : Option Res := (C class_Charge.id [.agg [.int .i64 u1, .int .i64 u2, .int .i64 u3, .int .i64 u4, .int .i64 u5, .int .i64 u6, .int .i64 u7, .int .i64 u8], .c (.int .i64 u10), .c (.int .i64 u11)] G).bind fun q1 => (((q1.1[0]?).bind V1.c?).bind (Cell.asI .i64)).bind fun q2 => (((q1.1[1]?).bind V1.c?).bind (Cell.asI .i64)).bind fun q3 => bif (!decide (q3 = 0)) then some ([.c (.int .i64 0), .c (.int .i64 q3)], q1.2) else (C calc_Add.id [.c (.int .i64 u9), .c (.int .i64 q2)] q1.2).bind fun q4 => (((q4.1[0]?).bind V1.c?).bind (Cell.asI .i64)).bind fun q5 => (((q4.1[1]?).bind V1.c?).bind Cell.asB).bind fun q6 => bif (!q6) then J15 M C q2 true q4.2 else J15 M C q2 (decide (q5 > u3)) q4.2
theorem eq (u1 u2 u3 u4 u5 u6 u7 u8 u9 u10 u11 : Int) (G : GH) : runF M C d [.agg [.int .i64 u1, .int .i64 u2, .int .i64 u3, .int .i64 u4, .int .i64 u5, .int .i64 u6, .int .i64 u7, .int .i64 u8], .c (.int .i64 u9), .c (.int .i64 u10), .c (.int .i64 u11)] G = f M C u1 u2 u3 u4 u5 u6 u7 u8 u9 u10 u11 G := by kernel_rfl
end admit_New
namespace word_LowOne
def c22 : DCode := (.region [mV 0 8 3,
 oP 1 9 (.bin .shr .u64 (.t 8) (.k (.c (.int .u64 1)))),
 mV 2 3 9])
def c24 : DCode := (.seq (.seq (.region [mV 0 6 3,
 oP 1 7 (.cmp .gtr .u64 (.t 6) (.k (.c (.int .u64 0))))]) (.cond (.t 7) .skip (.exit 0))) (.seq (.block 1 (.seq (.region [mV 0 10 0,
 mV 1 11 3,
 oP 2 12 (.bin .shl .u64 (.k (.c (.int .u64 1))) (.t 11)),
 oP 3 13 (.bin .sub .u64 (.t 12) (.k (.c (.int .u64 1)))),
 oP 4 14 (.bin .and .u64 (.t 10) (.t 13)),
 oP 5 15 (.cmp .eql .u64 (.t 14) (.k (.c (.int .u64 0))))]) (.cond (.t 15) (.seq (.region [mV 0 16 0,
 mV 1 17 3,
 oP 2 18 (.bin .shr .u64 (.t 16) (.t 17)),
 mV 3 0 18]) (.region [mV 0 19 2,
 mV 1 20 3,
 oP 2 21 (.conv .i64 (.t 20)),
 oP 3 22 (.bin .add .i64 (.t 19) (.t 21)),
 mV 4 2 22])) .skip))) (.cut [0, 2, 3] c22)))
def c25 : DCode := (.loop [0, 2, 3] c24)
def c30 : DCode := (.seq (.region [mV 0 23 2,
 mV 1 2 23]) .ret)
def d : DFn := { ntmps := 24, res := [.t 2], body := (.seq (.region [oP 0 2 (.move (.k (.c (.int .i64 0))))]) (.seq (.seq (.region [mV 0 4 0,
 oP 1 5 (.cmp .eql .u64 (.t 4) (.k (.c (.int .u64 0))))]) (.cond (.t 5) (.seq (.region [oP 0 2 (.move (.k (.c (.int .i64 64))))]) .ret) .skip)) (.seq (.seq (.region [oP 0 3 (.move (.k (.c (.int .u64 32))))]) (.block 0 c25)) c30))) }
def k30 : Kont := execC M.j C (M.ag C) c30 ({ exits := [], ret := retK d } : Env) (retK d)
def e26 : Env := { exits := (0, (k30 M C)) :: (({ exits := [], ret := retK d } : Env)).exits, ret := (({ exits := [], ret := retK d } : Env)).ret }
def L25 (u1 u2 u3 : Int) (G : GH) : Option Res := M.ag C [0, 2, 3] c24 (e26 M C) (k30 M C) (.v (.c (.int .u64 u1)) :: (uS 1 (.v (.c (.int .i64 u2)) :: (.v (.c (.int .u64 u3)) :: (uS 20 []))))) G
def k25 : Kont := fun tm G => M.ag C [0, 2, 3] c24 (e26 M C) (k30 M C) (restr [0, 2, 3] 0 tm) G
def J22 (u1 u2 u3 : Int) (G : GH) : Option Res := M.j (execC M.j C (M.ag C) c22 (e26 M C) (k25 M C)) (.v (.c (.int .u64 u1)) :: (uS 1 (.v (.c (.int .i64 u2)) :: (.v (.c (.int .u64 u3)) :: (uS 20 []))))) G
theorem L25_eq (u1 u2 u3 : Int) (G : GH) : L25 M C u1 u2 u3 G = (bif decide (u3 > 0) then (binD .shl .u64 1 u3).bind fun q1 => bif decide (IntKind.u64.wrap (((BitVec.ofInt IntKind.u64.bits u1) &&& (BitVec.ofInt IntKind.u64.bits (IntKind.u64.wrap (q1 - 1)))).toNat : Int) = 0) then (binD .shr .u64 u1 u3).bind fun q2 => J22 M C q2 (IntKind.i64.wrap (u2 + (IntKind.i64.wrap u3))) u3 G else J22 M C u1 u2 u3 G else some ([.c (.int .i64 u2)], G)) := (M.hs _ _ _ _ _ _ _).trans (by kernel_rfl)
theorem J22_eq (u1 u2 u3 : Int) (G : GH) : J22 M C u1 u2 u3 G = (L25 M C u1 u2 (Int.fdiv u3 (2 ^ (min (1 : Int).toNat IntKind.u64.bits))) G) := (M.hj _ _ _).trans (by kernel_rfl)
def f (u1 : Int) (G : GH) : Option Res := bif decide (u1 = 0) then some ([.c (.int .i64 64)], G) else L25 M C u1 0 32 G
theorem eq (u1 : Int) (G : GH) : runF M C d [.c (.int .u64 u1)] G = f M C u1 G := by kernel_rfl
end word_LowOne
namespace conf_within
def c12 : DCode := (.cond (.t 16) (.seq (.region [oP 0 2 (.move (.k (.c (.bool false))))]) .ret) .skip)
def c16 : DCode := (.region [oP 0 17 (.bin .add .i64 (.t 7) (.k (.c (.int .i64 1)))),
 mV 1 7 17])
def c19 : DCode := (.seq (.region [oP 0 8 (.cmp .lss .i64 (.t 7) (.t 6))]) (.seq (.cond (.t 8) .skip (.exit 0)) (.seq (.block 1 (.seq (.region [oP 0 9 (.iaddr (.t 5) (.t 7) 1),
 oP 1 10 (.ldG 9 (.c (.int .i64))),
 mV 2 4 10]) (.seq (.region [mV 0 11 4,
 oP 1 12 (.cmp .lss .i64 (.t 11) (.k (.c (.int .i64 1)))),
 mV 2 13 12,
 ⟨3, some 14, .move (.t 4), some (13, false)⟩,
 ⟨4, some 15, .cmp .gtr .i64 (.t 14) (.k (.c (.int .i64 65536))), some (13, false)⟩,
 oP 5 16 (.pick (.t 13) (.k (.c (.bool true))) (.t 15))]) (.cut [5, 6, 7, 16] c12)))) c16)))
def c20 : DCode := (.loop [5, 6, 7] c19)
def c25 : DCode := (.seq (.region [oP 0 2 (.move (.k (.c (.bool true))))]) .ret)
def d : DFn := { ntmps := 18, res := [.t 2], body := (.seq (.region [oP 0 2 (.move (.k (.c (.bool false))))]) (.seq (.seq (.region [mV 0 5 0,
 oP 1 6 (.len (.t 5)),
 oP 2 7 (.move (.k (.c (.int .i64 0))))]) (.block 0 c20)) c25)) }
def k25 : Kont := execC M.j C (M.ag C) c25 ({ exits := [], ret := retK d } : Env) (retK d)
def e21 : Env := { exits := (0, (k25 M C)) :: (({ exits := [], ret := retK d } : Env)).exits, ret := (({ exits := [], ret := retK d } : Env)).ret }
def L20 (u1i u1o u1n : Nat) (u2 u3 : Int) (G : GH) : Option Res := M.ag C [5, 6, 7] c19 (e21 M C) (k25 M C) (uS 5 (.v (.c (.sl 1 u1i u1o u1n)) :: (.v (.c (.int .i64 u2)) :: (.v (.c (.int .i64 u3)) :: (uS 10 []))))) G
def k20 : Kont := fun tm G => M.ag C [5, 6, 7] c19 (e21 M C) (k25 M C) (restr [5, 6, 7] 0 tm) G
def k16 : Kont := execC M.j C (M.ag C) c16 (e21 M C) (k20 M C)
def e15 : Env := { exits := (1, (k16 M C)) :: ((e21 M C)).exits, ret := ((e21 M C)).ret }
def J12 (u1i u1o u1n : Nat) (u2 u3 : Int) (u4 : Bool) (G : GH) : Option Res := M.j (execC M.j C (M.ag C) c12 (e15 M C) (k16 M C)) (uS 5 (.v (.c (.sl 1 u1i u1o u1n)) :: (.v (.c (.int .i64 u2)) :: (.v (.c (.int .i64 u3)) :: (uS 8 (.v (.c (.bool u4)) :: (uS 1 []))))))) G
theorem L20_eq (u1i u1o u1n : Nat) (u2 u3 : Int) (G : GH) : L20 M C u1i u1o u1n u2 u3 G = (bif decide (u3 < u2) then guardK (decide (0 ≤ u3 ∧ u3 < ((u1n : Nat) : Int))) (((G.ld u1i (u1o + Int.toNat u3 * 1)).bind (Cell.asI .i64)).bind fun q1 => bif decide (q1 < 1) then J12 M C u1i u1o u1n u2 u3 true G else J12 M C u1i u1o u1n u2 u3 (decide (q1 > 65536)) G) else some ([.c (.bool true)], G)) := (M.hs _ _ _ _ _ _ _).trans (by kernel_rfl)
theorem J12_eq (u1i u1o u1n : Nat) (u2 u3 : Int) (u4 : Bool) (G : GH) : J12 M C u1i u1o u1n u2 u3 u4 G = (bif u4 then some ([.c (.bool false)], G) else L20 M C u1i u1o u1n u2 (IntKind.i64.wrap (u3 + 1)) G) := (M.hj _ _ _).trans (by kernel_rfl)
def f (u1i u1o u1n : Nat) (G : GH) : Option Res := L20 M C u1i u1o u1n ((u1n : Nat) : Int) 0 G
theorem eq (u1i u1o u1n : Nat) (G : GH) : runF M C d [.c (.sl 1 u1i u1o u1n)] G = f M C u1i u1o u1n G := by kernel_rfl
end conf_within
namespace play_Decode
def d : DFn := { ntmps := 59, res := [.pt 2 (some 6), .t 3, .t 4], body := (.seq (.region [oP 0 2 (.newz [.int .i64 0, .int .i64 0, .int .i64 0, .int .i64 0, .int .i64 0, .int .i64 0]),
 oP 1 3 (.move (.k (.c (.sl 6 0 0 0)))),
 oP 2 4 (.move (.k (.c (.bool false))))]) (.seq (.seq (.region [mV 0 7 0,
 oP 1 8 (.len (.t 7)),
 oP 2 9 (.cmp .lss .i64 (.t 8) (.k (.c (.int .i64 16))))]) (.cond (.t 9) (.seq (.region [oP 0 10 (.ldG 2 (.agg (iS 6))),
 ⟨1, none, .stG 2 (.t 10) 6, none⟩,
 oP 2 3 (.move (.k (.c (.sl 6 0 0 0)))),
 oP 3 4 (.move (.k (.c (.bool false))))]) .ret) .skip)) (.seq (.seq (.region [oP 0 11 (.faddr 2 0),
 oP 1 12 (.faddr 2 1),
 oP 2 13 (.faddr 2 2),
 oP 3 14 (.faddr 2 3),
 oP 4 15 (.faddr 2 4),
 oP 5 16 (.bslice 5 1 [.ptr 0 0, .ptr 0 0, .ptr 0 0, .ptr 0 0, .ptr 0 0] [(0, 1, .t 11), (1, 1, .t 12), (2, 1, .t 13), (3, 1, .t 14), (4, 1, .t 15)]),
 oP 6 17 (.len (.t 16)),
 oP 7 18 (.move (.k (.c (.int .i64 0))))]) (.block 0 (.loop [0, 2, 16, 17, 18] (.seq (.region [oP 0 19 (.cmp .lss .i64 (.t 18) (.t 17))]) (.seq (.cond (.t 19) .skip (.exit 0)) (.seq (.block 1 (.seq (.region [mV 0 20 18,
 oP 1 21 (.iaddr (.t 16) (.t 18) 1),
 oP 2 22 (.ldG 21 (.c (.ptr))),
 mV 3 5 20,
 mV 4 6 22]) (.region [mV 0 23 6,
 mV 1 24 0,
 mV 2 25 5,
 oP 3 26 (.bin .mul .i64 (.k (.c (.int .i64 3))) (.t 25)),
 oP 4 27 (.iaddr (.t 24) (.t 26) 1),
 oP 5 28 (.ldG 27 (.c (.int .u8))),
 oP 6 29 (.conv .i64 (.t 28)),
 oP 7 30 (.bin .shl .i64 (.t 29) (.k (.c (.int .u64 16)))),
 mV 8 31 0,
 mV 9 32 5,
 oP 10 33 (.bin .mul .i64 (.k (.c (.int .i64 3))) (.t 32)),
 oP 11 34 (.bin .add .i64 (.t 33) (.k (.c (.int .i64 1)))),
 oP 12 35 (.iaddr (.t 31) (.t 34) 1),
 oP 13 36 (.ldG 35 (.c (.int .u8))),
 oP 14 37 (.conv .i64 (.t 36)),
 oP 15 38 (.bin .shl .i64 (.t 37) (.k (.c (.int .u64 8)))),
 oP 16 39 (.bin .or .i64 (.t 30) (.t 38)),
 mV 17 40 0,
 mV 18 41 5,
 oP 19 42 (.bin .mul .i64 (.k (.c (.int .i64 3))) (.t 41)),
 oP 20 43 (.bin .add .i64 (.t 42) (.k (.c (.int .i64 2)))),
 oP 21 44 (.iaddr (.t 40) (.t 43) 1),
 oP 22 45 (.ldG 44 (.c (.int .u8))),
 oP 23 46 (.conv .i64 (.t 45)),
 oP 24 47 (.bin .or .i64 (.t 39) (.t 46)),
 oP 25 48 (.nilck (.t 23)),
 ⟨26, none, .stG 48 (.t 47) 1, none⟩]))) (.region [oP 0 49 (.bin .add .i64 (.t 18) (.k (.c (.int .i64 1)))),
 mV 1 18 49]))))))) (.seq (.region [mV 0 50 0,
 oP 1 51 (.iaddr (.t 50) (.k (.c (.int .i64 15))) 1),
 oP 2 52 (.ldG 51 (.c (.int .u8))),
 oP 3 53 (.conv .i64 (.t 52)),
 oP 4 54 (.faddr 2 5),
 ⟨5, none, .stG 54 (.t 53) 1, none⟩]) (.seq (.region [oP 0 55 (.ldG 2 (.agg (iS 6))),
 mV 1 56 0,
 oP 2 57 (.slice (.t 56) (some (.k (.c (.int .i64 16)))) none 1),
 oP 3 58 (.call 57 [.t 57] [.c (.sl 6)]),
 ⟨9999, none, .reG 55 2 (.agg (iS 6)), none⟩,
 ⟨4, none, .stG 2 (.t 55) 6, none⟩,
 mV 5 3 58,
 oP 6 4 (.move (.k (.c (.bool true))))]) .ret))))) }
end play_Decode
namespace tree_twin
def c14 : DCode := (.seq (.region [oP 0 13 (.cmp .lss .i64 (.t 12) (.t 11))]) (.seq (.cond (.t 13) .skip (.exit 0)) (.seq (.block 1 (.seq (.region [mV 0 14 12,
 oP 1 15 (.iaddr (.t 10) (.t 12) 1),
 oP 2 16 (.ldG 15 (.c (.sl 1))),
 mV 3 3 14,
 mV 4 4 16]) (.region [oP 0 17 (.faddr 1 1),
 oP 1 18 (.ldL 17 25 (.c (.sl 1))),
 mV 2 19 3,
 mV 3 20 4,
 oP 4 21 (.call 104 [.t 20] [.c (.sl 1)]),
 oP 5 22 (.iaddr (.t 18) (.t 19) 1),
 ⟨6, none, .stG 22 (.t 21) 1, none⟩]))) (.region [oP 0 23 (.bin .add .i64 (.t 12) (.k (.c (.int .i64 1)))),
 mV 1 12 23]))))
def c20 : DCode := (.seq (.region [oP 0 24 (.ldL 1 25 (.agg [.int .i64, .sl 1])),
 ⟨1, none, .stL 2 26 (.t 24) 2, none⟩]) .ret)
def d : DFn := { ntmps := 27, res := [.box 2 (some 2)], body := (.seq (.region [oP 0 1 (.boxv 25 [5, 8, 9, 17] (.t 0) 2),
 oP 1 2 (.boxz 26 [] [.int .i64 0, .sl 1 0 0 0])]) (.seq (.region [oP 0 5 (.faddr 1 1),
 oP 1 6 (.ldL 5 25 (.c (.sl 1))),
 oP 2 7 (.call 103 [.t 6] [.c (.sl 1)]),
 oP 3 8 (.faddr 1 1),
 ⟨4, none, .stL 8 25 (.t 7) 1, none⟩]) (.seq (.seq (.region [oP 0 9 (.faddr 1 1),
 oP 1 10 (.ldL 9 25 (.c (.sl 1))),
 oP 2 11 (.len (.t 10)),
 oP 3 12 (.move (.k (.c (.int .i64 0))))]) (.block 0 (.loop [1, 2, 10, 11, 12, 25, 26] c14))) c20))) }
def k20 : Kont := execC M.j C (M.ag C) c20 ({ exits := [], ret := retK d } : Env) (retK d)
def e16 : Env := { exits := (0, (k20 M C)) :: (({ exits := [], ret := retK d } : Env)).exits, ret := (({ exits := [], ret := retK d } : Env)).ret }
def L15 (u1i u1o u1n : Nat) (u2 u3 u4 : Int) (u5i u5o u5n : Nat) (u6 : Int) (u7i u7o u7n : Nat) (G : GH) : Option Res := M.ag C [1, 2, 10, 11, 12, 25, 26] c14 (e16 M C) (k20 M C) (uS 1 (.ref 25 0 :: (.ref 26 0 :: (uS 7 (.v (.c (.sl 1 u1i u1o u1n)) :: (.v (.c (.int .i64 u2)) :: (.v (.c (.int .i64 u3)) :: (uS 12 (.box [.int .i64 u4, .sl 1 u5i u5o u5n] :: (.box [.int .i64 u6, .sl 1 u7i u7o u7n] :: [])))))))))) G
theorem L15_eq (u1i u1o u1n : Nat) (u2 u3 u4 : Int) (u5i u5o u5n : Nat) (u6 : Int) (u7i u7o u7n : Nat) (G : GH) : L15 M C u1i u1o u1n u2 u3 u4 u5i u5o u5n u6 u7i u7o u7n G = (bif decide (u3 < u2) then guardK (decide (0 ≤ u3 ∧ u3 < ((u1n : Nat) : Int))) (((G.ld u1i (u1o + Int.toNat u3 * 1)).bind (Cell.asS 1)).bind fun q3 => (C slices_Clone_Suint64_uint64.id [.c (.sl 1 q3.1 q3.2.1 q3.2.2)] G).bind fun q4 => (((q4.1[0]?).bind V1.c?).bind (Cell.asS 1)).bind fun q5 => guardK (decide (0 ≤ u3 ∧ u3 < ((u5n : Nat) : Int))) ((q4.2.sts u5i (u5o + Int.toNat u3 * 1) [.sl 1 q5.1 q5.2.1 q5.2.2]).bind fun q6 => L15 M C u1i u1o u1n u2 (IntKind.i64.wrap (u3 + 1)) u4 u5i u5o u5n u6 u7i u7o u7n q6)) else some ([.agg [.int .i64 u4, .sl 1 u5i u5o u5n]], G)) := (M.hs _ _ _ _ _ _ _).trans (by kernel_rfl)
def f (u1 : Int) (u2i u2o u2n : Nat) (G : GH) : Option Res := (C slices_Clone_SSuint64_Suint64.id [.c (.sl 1 u2i u2o u2n)] G).bind fun q1 => (((q1.1[0]?).bind V1.c?).bind (Cell.asS 1)).bind fun q2 => L15 M C q2.1 q2.2.1 q2.2.2 ((q2.2.2 : Nat) : Int) 0 u1 q2.1 q2.2.1 q2.2.2 0 0 0 0 q1.2
theorem eq (u1 : Int) (u2i u2o u2n : Nat) (G : GH) : runF M C d [.agg [.int .i64 u1, .sl 1 u2i u2o u2n]] G = f M C u1 u2i u2o u2n G := by kernel_rfl
end tree_twin
namespace heap_Heap_pages
def c14 : DCode := (.seq (.region [oP 0 18 (.cmp .lss .i64 (.t 17) (.t 16))]) (.seq (.cond (.t 18) .skip (.exit 0)) (.seq (.block 1 (.seq (.region [mV 0 19 17,
 oP 1 20 (.iaddr (.t 15) (.t 17) 1),
 oP 2 21 (.ldG 20 (.c (.int .i64))),
 mV 3 4 19,
 mV 4 5 21]) (.region [mV 0 22 3,
 mV 1 23 4,
 mV 2 24 5,
 oP 3 25 (.cmp .gtr .i64 (.t 24) (.k (.c (.int .i64 0)))),
 oP 4 26 (.iaddr (.t 22) (.t 23) 1),
 ⟨5, none, .stG 26 (.t 25) 1, none⟩]))) (.region [oP 0 27 (.bin .add .i64 (.t 17) (.k (.c (.int .i64 1)))),
 mV 1 17 27]))))
def c20 : DCode := (.seq (.region [mV 0 28 3,
 mV 1 2 28]) .ret)
def d : DFn := { ntmps := 29, res := [.t 2], body := (.seq (.region [oP 0 2 (.move (.k (.c (.sl 1 0 0 0))))]) (.seq (.region [mV 0 6 0,
 oP 1 7 (.nilck (.t 6)),
 oP 2 8 (.faddr 7 15),
 oP 3 9 (.ldG 8 (.c (.sl 1))),
 oP 4 10 (.len (.t 9)),
 oP 5 11 (.mkslice (.t 10) 1 1 [.bool false]),
 mV 6 3 11]) (.seq (.seq (.region [mV 0 12 0,
 oP 1 13 (.nilck (.t 12)),
 oP 2 14 (.faddr 13 15),
 oP 3 15 (.ldG 14 (.c (.sl 1))),
 oP 4 16 (.len (.t 15)),
 oP 5 17 (.move (.k (.c (.int .i64 0))))]) (.block 0 (.loop [3, 15, 16, 17] c14))) c20))) }
def k20 : Kont := execC M.j C (M.ag C) c20 ({ exits := [], ret := retK d } : Env) (retK d)
def e16 : Env := { exits := (0, (k20 M C)) :: (({ exits := [], ret := retK d } : Env)).exits, ret := (({ exits := [], ret := retK d } : Env)).ret }
def L15 (u1i u1o u1n u2i u2o u2n : Nat) (u3 u4 : Int) (G : GH) : Option Res := M.ag C [3, 15, 16, 17] c14 (e16 M C) (k20 M C) (uS 3 (.v (.c (.sl 1 u1i u1o u1n)) :: (uS 11 (.v (.c (.sl 1 u2i u2o u2n)) :: (.v (.c (.int .i64 u3)) :: (.v (.c (.int .i64 u4)) :: (uS 11 []))))))) G
theorem L15_eq (u1i u1o u1n u2i u2o u2n : Nat) (u3 u4 : Int) (G : GH) : L15 M C u1i u1o u1n u2i u2o u2n u3 u4 G = (bif decide (u4 < u3) then guardK (decide (0 ≤ u4 ∧ u4 < ((u2n : Nat) : Int))) (((G.ld u2i (u2o + Int.toNat u4 * 1)).bind (Cell.asI .i64)).bind fun q4 => guardK (decide (0 ≤ u4 ∧ u4 < ((u1n : Nat) : Int))) ((G.sts u1i (u1o + Int.toNat u4 * 1) [.bool (decide (q4 > 0))]).bind fun q5 => L15 M C u1i u1o u1n u2i u2o u2n u3 (IntKind.i64.wrap (u4 + 1)) q5)) else some ([.c (.sl 1 u1i u1o u1n)], G)) := (M.hs _ _ _ _ _ _ _).trans (by kernel_rfl)
def f (u1i u1o : Nat) (G : GH) : Option Res := guardK (!Nat.beq u1i 0) (((G.ld u1i (u1o + 15)).bind (Cell.asS 1)).bind fun q1 => guardK (decide (0 ≤ ((q1.2.2 : Nat) : Int) ∧ ((q1.2.2 : Nat) : Int) ≤ (most : Int))) (let q2 := G.alloc (.row (reps (Int.toNat ((q1.2.2 : Nat) : Int)) [.bool false]) false); guardK (!Nat.beq u1i 0) (((q2.ld u1i (u1o + 15)).bind (Cell.asS 1)).bind fun q3 => L15 M C G.next 0 (Int.toNat ((q1.2.2 : Nat) : Int)) q3.1 q3.2.1 q3.2.2 ((q3.2.2 : Nat) : Int) 0 q2)))
theorem eq (u1i u1o : Nat) (G : GH) : runF M C d [.c (.ptr u1i u1o)] G = f M C u1i u1o G := by kernel_rfl
end heap_Heap_pages
namespace calc_Log
def c6 : DCode := (.cond (.t 12) (.seq (.region [oP 0 2 (.move (.k (.c (.int .i64 0)))),
 oP 1 3 (.move (.k (.c (.bool false))))]) .ret) .skip)
def c17 : DCode := (.seq (.seq (.region [mV 0 13 0,
 oP 1 14 (.cmp .gtr .i64 (.t 13) (.k (.c (.int .i64 1))))]) (.cond (.t 14) .skip (.exit 0))) (.block 1 (.seq (.region [mV 0 15 0,
 oP 1 16 (.bin .shr .i64 (.t 15) (.k (.c (.int .u64 1)))),
 mV 2 0 16]) (.region [mV 0 17 2,
 oP 1 18 (.bin .add .i64 (.t 17) (.k (.c (.int .i64 1)))),
 mV 2 2 18]))))
def c22 : DCode := (.seq (.region [mV 0 19 2,
 mV 1 2 19,
 oP 2 3 (.move (.k (.c (.bool true))))]) .ret)
def c23 : DCode := (.seq (.block 0 (.loop [0, 2] c17)) c22)
def d : DFn := { ntmps := 20, res := [.t 2, .t 3], body := (.seq (.region [oP 0 2 (.move (.k (.c (.int .i64 0)))),
 oP 1 3 (.move (.k (.c (.bool false))))]) (.seq (.seq (.region [mV 0 4 0,
 oP 1 5 (.cmp .lss .i64 (.t 4) (.k (.c (.int .i64 1)))),
 mV 2 6 5,
 ⟨3, some 7, .move (.t 0), some (6, false)⟩,
 ⟨4, some 8, .move (.t 0), some (6, false)⟩,
 ⟨5, some 9, .bin .sub .i64 (.t 8) (.k (.c (.int .i64 1))), some (6, false)⟩,
 ⟨6, some 10, .bin .and .i64 (.t 7) (.t 9), some (6, false)⟩,
 ⟨7, some 11, .cmp .neq .i64 (.t 10) (.k (.c (.int .i64 0))), some (6, false)⟩,
 oP 8 12 (.pick (.t 6) (.k (.c (.bool true))) (.t 11))]) (.cut [0, 2, 12] c6)) c23)) }
def k23 : Kont := execC M.j C (M.ag C) c23 ({ exits := [], ret := retK d } : Env) (retK d)
def J6 (u1 u2 : Int) (u3 : Bool) (G : GH) : Option Res := M.j (execC M.j C (M.ag C) c6 ({ exits := [], ret := retK d } : Env) (k23 M C)) (.v (.c (.int .i64 u1)) :: (uS 1 (.v (.c (.int .i64 u2)) :: (uS 9 (.v (.c (.bool u3)) :: (uS 7 [])))))) G
def k22 : Kont := execC M.j C (M.ag C) c22 ({ exits := [], ret := retK d } : Env) (retK d)
def e19 : Env := { exits := (0, (k22 M C)) :: (({ exits := [], ret := retK d } : Env)).exits, ret := (({ exits := [], ret := retK d } : Env)).ret }
def L18 (u1 u2 : Int) (G : GH) : Option Res := M.ag C [0, 2] c17 (e19 M C) (k22 M C) (.v (.c (.int .i64 u1)) :: (uS 1 (.v (.c (.int .i64 u2)) :: (uS 17 [])))) G
theorem J6_eq (u1 u2 : Int) (u3 : Bool) (G : GH) : J6 M C u1 u2 u3 G = (bif u3 then some ([.c (.int .i64 0), .c (.bool false)], G) else L18 M C u1 u2 G) := (M.hj _ _ _).trans (by kernel_rfl)
theorem L18_eq (u1 u2 : Int) (G : GH) : L18 M C u1 u2 G = (bif decide (u1 > 1) then L18 M C (Int.fdiv u1 (2 ^ (min (1 : Int).toNat IntKind.i64.bits))) (IntKind.i64.wrap (u2 + 1)) G else some ([.c (.int .i64 u2), .c (.bool true)], G)) := (M.hs _ _ _ _ _ _ _).trans (by kernel_rfl)
def f (u1 : Int) (G : GH) : Option Res := bif decide (u1 < 1) then J6 M C u1 0 true G else J6 M C u1 0 (!decide (IntKind.i64.wrap (((BitVec.ofInt IntKind.i64.bits u1) &&& (BitVec.ofInt IntKind.i64.bits (IntKind.i64.wrap (u1 - 1)))).toNat : Int) = 0)) G
theorem eq (u1 : Int) (G : GH) : runF M C d [.c (.int .i64 u1)] G = f M C u1 G := by kernel_rfl
end calc_Log
namespace slots_twin
def c13 : DCode := (.seq (.region [oP 0 9 (.cmp .lss .i64 (.t 8) (.t 7))]) (.seq (.cond (.t 9) .skip (.exit 0)) (.seq (.block 1 (.seq (.region [oP 0 10 (.iaddr (.t 6) (.t 8) 2),
 oP 1 11 (.ldG 10 (.agg [.int .i64, .sl 1])),
 oP 2 4 (.boxz 23 [] [.int .i64 0, .sl 1 0 0 0]),
 ⟨3, none, .stL 4 23 (.t 11) 2, none⟩]) (.region [oP 0 12 (.faddr 2 0),
 oP 1 13 (.ldL 12 22 (.c (.sl 2))),
 oP 2 14 (.ldL 4 23 (.agg [.int .i64, .sl 1])),
 oP 3 15 (.call 87 [.t 14, .k (.c (.int .i64 0)), .k (.c (.int .i64 0)), .k (.c (.bool true))] [.agg [.int .i64, .sl 1]]),
 oP 4 16 (.bslice 1 2 [.int .i64 0, .sl 1 0 0 0] [(0, 2, .t 15)]),
 oP 5 17 (.app (.t 13) (.t 16) 2 32),
 oP 6 18 (.faddr 2 0),
 ⟨7, none, .stL 18 22 (.t 17) 1, none⟩]))) (.region [oP 0 19 (.bin .add .i64 (.t 8) (.k (.c (.int .i64 1)))),
 mV 1 8 19]))))
def c19 : DCode := (.seq (.region [oP 0 20 (.ldL 2 22 (.agg [.sl 2])),
 ⟨1, none, .stL 2 22 (.t 20) 1, none⟩]) .ret)
def d : DFn := { ntmps := 24, res := [.box 2 (some 1)], body := (.seq (.region [oP 0 1 (.boxv 21 [5] (.t 0) 1),
 oP 1 2 (.boxz 22 [12, 18] [.sl 2 0 0 0])]) (.seq (.seq (.region [oP 0 5 (.faddr 1 0),
 oP 1 6 (.ldL 5 21 (.c (.sl 2))),
 oP 2 7 (.len (.t 6)),
 oP 3 8 (.move (.k (.c (.int .i64 0))))]) (.block 0 (.loop [2, 6, 7, 8, 22] c13))) c19)) }
def k19 : Kont := execC M.j C (M.ag C) c19 ({ exits := [], ret := retK d } : Env) (retK d)
def e15 : Env := { exits := (0, (k19 M C)) :: (({ exits := [], ret := retK d } : Env)).exits, ret := (({ exits := [], ret := retK d } : Env)).ret }
def L14 (u1i u1o u1n : Nat) (u2 u3 : Int) (u4i u4o u4n : Nat) (G : GH) : Option Res := M.ag C [2, 6, 7, 8, 22] c13 (e15 M C) (k19 M C) (uS 2 (.ref 22 0 :: (uS 3 (.v (.c (.sl 2 u1i u1o u1n)) :: (.v (.c (.int .i64 u2)) :: (.v (.c (.int .i64 u3)) :: (uS 13 (.box [.sl 2 u4i u4o u4n] :: (uS 1 []))))))))) G
theorem L14_eq (u1i u1o u1n : Nat) (u2 u3 : Int) (u4i u4o u4n : Nat) (G : GH) : L14 M C u1i u1o u1n u2 u3 u4i u4o u4n G = (bif decide (u3 < u2) then guardK (decide (0 ≤ u3 ∧ u3 < ((u1n : Nat) : Int))) (((G.ld u1i ((u1o + Int.toNat u3 * 2) + 0)).bind (Cell.asI .i64)).bind fun q1 => ((G.ld u1i ((u1o + Int.toNat u3 * 2) + 1)).bind (Cell.asS 1)).bind fun q2 => (C tree_Set.id [.agg [.int .i64 q1, .sl 1 q2.1 q2.2.1 q2.2.2], .c (.int .i64 0), .c (.int .i64 0), .c (.bool true)] G).bind fun q3 => ((q3.1[0]?).bind V1.a?).bind fun q4 => if q4.length = 2 then (((q4[0]?).bind (Cell.asI .i64)).bind fun q5 => ((q4[1]?).bind (Cell.asS 1)).bind fun q6 => let q7 := q3.2.alloc (.row [.int .i64 q5, .sl 1 q6.1 q6.2.1 q6.2.2] false); (if 1 = 0 then some [] else q7.lds q3.2.next 0 (1 * 2)).bind fun q8 => guardK (decide (u4n + 1 ≤ most)) ((q7.app u4i u4o u4n 2 1 q8).bind fun q9 => L14 M C u1i u1o u1n u2 (IntKind.i64.wrap (u3 + 1)) q9.1 q9.2.1 (u4n + 1) q9.2.2)) else none) else some ([.agg [.sl 2 u4i u4o u4n]], G)) := (M.hs _ _ _ _ _ _ _).trans (by kernel_rfl)
def f (u1i u1o u1n : Nat) (G : GH) : Option Res := L14 M C u1i u1o u1n ((u1n : Nat) : Int) 0 0 0 0 G
theorem eq (u1i u1o u1n : Nat) (G : GH) : runF M C d [.agg [.sl 2 u1i u1o u1n]] G = f M C u1i u1o u1n G := by kernel_rfl
end slots_twin
namespace tree_at
def c6 : DCode := (.cond (.t 25) (.seq (.region [oP 0 6 (.move (.k (.c (.int .u64 18446744073709551615))))]) .ret) .skip)
def c10 : DCode := (.seq (.region [oP 0 26 (.faddr 3 1),
 oP 1 27 (.ldL 26 34 (.c (.sl 1))),
 mV 2 28 1,
 oP 3 29 (.iaddr (.t 27) (.t 28) 1),
 oP 4 30 (.ldG 29 (.c (.sl 1))),
 mV 5 31 2,
 oP 6 32 (.iaddr (.t 30) (.t 31) 1),
 oP 7 33 (.ldG 32 (.c (.int .u64))),
 mV 8 6 33]) .ret)
def d : DFn := { ntmps := 35, res := [.t 6], body := (.seq (.region [oP 0 3 (.boxv 34 [8, 18, 26] (.t 0) 2),
 oP 1 6 (.move (.k (.c (.int .u64 0))))]) (.seq (.seq (.region [mV 0 7 1,
 oP 1 8 (.faddr 3 1),
 oP 2 9 (.ldL 8 34 (.c (.sl 1))),
 oP 3 10 (.len (.t 9)),
 oP 4 11 (.cmp .geq .i64 (.t 7) (.t 10)),
 mV 5 12 11,
 ⟨6, some 13, .move (.t 2), some (12, false)⟩,
 ⟨7, some 14, .cmp .lss .i64 (.t 13) (.k (.c (.int .i64 0))), some (12, false)⟩,
 oP 8 15 (.pick (.t 12) (.k (.c (.bool true))) (.t 14)),
 mV 9 16 15,
 ⟨10, some 17, .move (.t 2), some (16, false)⟩,
 ⟨11, some 18, .faddr 3 1, some (16, false)⟩,
 ⟨12, some 19, .ldL 18 34 (.c (.sl 1)), some (16, false)⟩,
 ⟨13, some 20, .move (.t 1), some (16, false)⟩,
 ⟨14, some 21, .iaddr (.t 19) (.t 20) 1, some (16, false)⟩,
 ⟨15, some 22, .ldG 21 (.c (.sl 1)), some (16, false)⟩,
 ⟨16, some 23, .len (.t 22), some (16, false)⟩,
 ⟨17, some 24, .cmp .geq .i64 (.t 17) (.t 23), some (16, false)⟩,
 oP 18 25 (.pick (.t 16) (.k (.c (.bool true))) (.t 24))]) (.cut [1, 2, 3, 25, 34] c6)) c10)) }
def k10 : Kont := execC M.j C (M.ag C) c10 ({ exits := [], ret := retK d } : Env) (retK d)
def J6 (u1 u2 : Int) (u3 : Bool) (u4 : Int) (u5i u5o u5n : Nat) (G : GH) : Option Res := M.j (execC M.j C (M.ag C) c6 ({ exits := [], ret := retK d } : Env) (k10 M C)) (uS 1 (.v (.c (.int .i64 u1)) :: (.v (.c (.int .i64 u2)) :: (.ref 34 0 :: (uS 21 (.v (.c (.bool u3)) :: (uS 8 (.box [.int .i64 u4, .sl 1 u5i u5o u5n] :: [])))))))) G
theorem J6_eq (u1 u2 : Int) (u3 : Bool) (u4 : Int) (u5i u5o u5n : Nat) (G : GH) : J6 M C u1 u2 u3 u4 u5i u5o u5n G = (bif u3 then some ([.c (.int .u64 18446744073709551615)], G) else guardK (decide (0 ≤ u1 ∧ u1 < ((u5n : Nat) : Int))) (((G.ld u5i (u5o + Int.toNat u1 * 1)).bind (Cell.asS 1)).bind fun q2 => guardK (decide (0 ≤ u2 ∧ u2 < ((q2.2.2 : Nat) : Int))) (((G.ld q2.1 (q2.2.1 + Int.toNat u2 * 1)).bind (Cell.asI .u64)).bind fun q3 => some ([.c (.int .u64 q3)], G)))) := (M.hj _ _ _).trans (by kernel_rfl)
def f (u1 : Int) (u2i u2o u2n : Nat) (u3 u4 : Int) (G : GH) : Option Res := bif decide (u3 ≥ ((u2n : Nat) : Int)) then J6 M C u3 u4 true u1 u2i u2o u2n G else bif decide (u4 < 0) then J6 M C u3 u4 true u1 u2i u2o u2n G else guardK (decide (0 ≤ u3 ∧ u3 < ((u2n : Nat) : Int))) (((G.ld u2i (u2o + Int.toNat u3 * 1)).bind (Cell.asS 1)).bind fun q1 => J6 M C u3 u4 (decide (u4 ≥ ((q1.2.2 : Nat) : Int))) u1 u2i u2o u2n G)
theorem eq (u1 : Int) (u2i u2o u2n : Nat) (u3 u4 : Int) (G : GH) : runF M C d [.agg [.int .i64 u1, .sl 1 u2i u2o u2n], .c (.int .i64 u3), .c (.int .i64 u4)] G = f M C u1 u2i u2o u2n u3 u4 G := by kernel_rfl
end tree_at
namespace word_Mask
def c6 : DCode := (.cond (.t 15) (.seq (.region [oP 0 4 (.move (.k (.c (.int .u64 0))))]) .ret) .skip)
def c16 : DCode := (.seq (.region [mV 0 22 5,
 mV 1 23 0,
 oP 2 24 (.conv .u64 (.t 23)),
 oP 3 25 (.bin .shl .u64 (.t 22) (.t 24)),
 mV 4 4 25]) .ret)
def c18 : DCode := (.seq (.region [oP 0 5 (.move (.k (.c (.int .u64 18446744073709551615))))]) (.seq (.seq (.region [mV 0 16 1,
 oP 1 17 (.cmp .lss .i64 (.t 16) (.k (.c (.int .i64 64))))]) (.cond (.t 17) (.region [mV 0 18 1,
 oP 1 19 (.conv .u64 (.t 18)),
 oP 2 20 (.bin .shl .u64 (.k (.c (.int .u64 1))) (.t 19)),
 oP 3 21 (.bin .sub .u64 (.t 20) (.k (.c (.int .u64 1)))),
 mV 4 5 21]) .skip)) (.cut [0, 5] c16)))
def d : DFn := { ntmps := 26, res := [.t 4], body := (.seq (.region [oP 0 4 (.move (.k (.c (.int .u64 0))))]) (.seq (.seq (.region [mV 0 6 0,
 oP 1 7 (.cmp .lss .i64 (.t 6) (.k (.c (.int .i64 0)))),
 mV 2 8 7,
 ⟨3, some 9, .move (.t 1), some (8, false)⟩,
 ⟨4, some 10, .cmp .leq .i64 (.t 9) (.k (.c (.int .i64 0))), some (8, false)⟩,
 oP 5 11 (.pick (.t 8) (.k (.c (.bool true))) (.t 10)),
 mV 6 12 11,
 ⟨7, some 13, .move (.t 0), some (12, false)⟩,
 ⟨8, some 14, .cmp .geq .i64 (.t 13) (.k (.c (.int .i64 64))), some (12, false)⟩,
 oP 9 15 (.pick (.t 12) (.k (.c (.bool true))) (.t 14))]) (.cut [0, 1, 15] c6)) c18)) }
def k18 : Kont := execC M.j C (M.ag C) c18 ({ exits := [], ret := retK d } : Env) (retK d)
def J6 (u1 u2 : Int) (u3 : Bool) (G : GH) : Option Res := M.j (execC M.j C (M.ag C) c6 ({ exits := [], ret := retK d } : Env) (k18 M C)) (.v (.c (.int .i64 u1)) :: (.v (.c (.int .i64 u2)) :: (uS 13 (.v (.c (.bool u3)) :: (uS 10 []))))) G
def J16 (u1 u2 : Int) (G : GH) : Option Res := M.j (execC M.j C (M.ag C) c16 ({ exits := [], ret := retK d } : Env) (retK d)) (.v (.c (.int .i64 u1)) :: (uS 4 (.v (.c (.int .u64 u2)) :: (uS 20 [])))) G
theorem J6_eq (u1 u2 : Int) (u3 : Bool) (G : GH) : J6 M C u1 u2 u3 G = (bif u3 then some ([.c (.int .u64 0)], G) else bif decide (u2 < 64) then (binD .shl .u64 1 (IntKind.u64.wrap u2)).bind fun q1 => J16 M C u1 (IntKind.u64.wrap (q1 - 1)) G else J16 M C u1 18446744073709551615 G) := (M.hj _ _ _).trans (by kernel_rfl)
theorem J16_eq (u1 u2 : Int) (G : GH) : J16 M C u1 u2 G = ((binD .shl .u64 u2 (IntKind.u64.wrap u1)).bind fun q2 => some ([.c (.int .u64 q2)], G)) := (M.hj _ _ _).trans (by kernel_rfl)
def f (u1 u2 : Int) (G : GH) : Option Res := bif decide (u1 < 0) then J6 M C u1 u2 true G else bif decide (u2 ≤ 0) then J6 M C u1 u2 true G else J6 M C u1 u2 (decide (u1 ≥ 64)) G
theorem eq (u1 u2 : Int) (G : GH) : runF M C d [.c (.int .i64 u1), .c (.int .i64 u2)] G = f M C u1 u2 G := by kernel_rfl
end word_Mask
namespace heap_Heap_gone
def d : DFn := { ntmps := 38, res := [], body := (.seq (.region [oP 0 3 (.boxv 37 [10, 22, 32] (.t 1) 3)]) (.seq (.region [mV 0 5 0,
 mV 1 6 0,
 oP 2 7 (.nilck (.t 6)),
 oP 3 8 (.faddr 7 8),
 oP 4 9 (.ldG 8 (.agg [.int .i64, .sl 2, .sl 2])),
 oP 5 10 (.faddr 3 0),
 oP 6 11 (.ldL 10 37 (.c (.int .i64))),
 oP 7 12 (.call 66 [.t 9, .t 11] [.agg [.int .i64, .sl 2, .sl 2], .c (.int .i64), .c (.bool)]),
 mV 8 4 12,
 oP 9 13 (.ext 4 0),
 oP 10 14 (.ext 4 1),
 oP 11 15 (.ext 4 2),
 oP 12 16 (.nilck (.t 5)),
 oP 13 17 (.faddr 16 8),
 ⟨14, none, .stG 17 (.t 13) 3, none⟩]) (.seq (.region [mV 0 18 0,
 oP 1 19 (.nilck (.t 18)),
 oP 2 20 (.faddr 19 11),
 oP 3 21 (.ldG 20 (.c (.map))),
 oP 4 22 (.faddr 3 0),
 oP 5 23 (.ldL 22 37 (.c (.int .i64))),
 oP 6 24 (.build [.int .i64 0] [(0, 1, .t 23)]),
 ⟨7, none, .del (.agg [.int .i64]) (.t 21) (.t 24), none⟩]) (.seq (.region [mV 0 25 0,
 oP 1 26 (.ldL 3 37 (.agg (iS 3))),
 oP 2 27 (.call 67 [.t 25, .t 26, .k (.c (.int .i64 (-1)))] [])]) (.region [mV 0 28 0,
 oP 1 29 (.nilck (.t 28)),
 oP 2 30 (.faddr 29 12),
 oP 3 31 (.ldG 30 (.c (.int .i64))),
 oP 4 32 (.faddr 3 1),
 oP 5 33 (.ldL 32 37 (.c (.int .i64))),
 oP 6 34 (.bin .sub .i64 (.t 31) (.t 33)),
 oP 7 35 (.nilck (.t 28)),
 oP 8 36 (.faddr 35 12),
 ⟨9, none, .stG 36 (.t 34) 1, none⟩]))))) }
def f (M : Mach) (C : Call) (u1i u1o : Nat) (u2 u3 u4 : Int) (G : GH) : Option Res := guardK (!Nat.beq u1i 0) (((G.ld u1i ((u1o + 8) + 0)).bind (Cell.asI .i64)).bind fun q1 => ((G.ld u1i ((u1o + 8) + 1)).bind (Cell.asS 2)).bind fun q2 => ((G.ld u1i ((u1o + 8) + 2)).bind (Cell.asS 2)).bind fun q3 => (C place_Release.id [.agg [.int .i64 q1, .sl 2 q2.1 q2.2.1 q2.2.2, .sl 2 q3.1 q3.2.1 q3.2.2], .c (.int .i64 u2)] G).bind fun q4 => ((q4.1[0]?).bind V1.a?).bind fun q5 => if q5.length = 3 then (((q5[0]?).bind (Cell.asI .i64)).bind fun q6 => ((q5[1]?).bind (Cell.asS 2)).bind fun q7 => ((q5[2]?).bind (Cell.asS 2)).bind fun q8 => (((q4.1[1]?).bind V1.c?).bind (Cell.asI .i64)).bind fun q9 => (((q4.1[2]?).bind V1.c?).bind Cell.asB).bind fun q10 => guardK (!Nat.beq u1i 0) ((q4.2.sts u1i (u1o + 8) [.int .i64 q6, .sl 2 q7.1 q7.2.1 q7.2.2, .sl 2 q8.1 q8.2.1 q8.2.2]).bind fun q11 => guardK (!Nat.beq u1i 0) (((q11.ld u1i (u1o + 11)).bind Cell.asM).bind fun q12 => (q11.ents (.agg [.int .i64]) q12).bind fun q13 => let q14 := q11.set q12 (some (.map (.agg [.int .i64]) (mapDel q13 (.agg [.int .i64 u2])))); (C heap_Heap_meets.id [.c (.ptr u1i u1o), .agg [.int .i64 u2, .int .i64 u3, .int .i64 u4], .c (.int .i64 (-1))] q14).bind fun q15 => guardK (!Nat.beq u1i 0) (((q15.2.ld u1i (u1o + 12)).bind (Cell.asI .i64)).bind fun q16 => guardK (!Nat.beq u1i 0) ((q15.2.sts u1i (u1o + 12) [.int .i64 (IntKind.i64.wrap (q16 - u3))]).bind fun q17 => some ([], q17)))))) else none)
theorem eq (u1i u1o : Nat) (u2 u3 u4 : Int) (G : GH) : runF M C d [.c (.ptr u1i u1o), .agg [.int .i64 u2, .int .i64 u3, .int .i64 u4]] G = f M C u1i u1o u2 u3 u4 G := by kernel_rfl
end heap_Heap_gone
namespace tree_level
def c11 : DCode := (.seq (.region [mV 0 21 3,
 mV 1 2 21]) .ret)
def d : DFn := { ntmps := 22, res := [.t 2], body := (.seq (.region [oP 0 2 (.move (.k (.c (.sl 1 0 0 0))))]) (.seq (.region [mV 0 5 0,
 oP 1 6 (.bin .sub .i64 (.t 5) (.k (.c (.int .i64 1)))),
 oP 2 7 (.bin .quo .i64 (.t 6) (.k (.c (.int .i64 64)))),
 oP 3 8 (.bin .add .i64 (.t 7) (.k (.c (.int .i64 1)))),
 oP 4 9 (.mkslice (.t 8) 1 8 [.int .u64 0]),
 mV 5 3 9]) (.seq (.seq (.region [mV 0 10 0,
 oP 1 11 (.bin .rem .i64 (.t 10) (.k (.c (.int .i64 64)))),
 mV 2 4 11]) (.seq (.region [mV 0 12 4,
 oP 1 13 (.cmp .gtr .i64 (.t 12) (.k (.c (.int .i64 0))))]) (.cond (.t 13) (.region [mV 0 14 3,
 mV 1 15 3,
 oP 2 16 (.len (.t 15)),
 oP 3 17 (.bin .sub .i64 (.t 16) (.k (.c (.int .i64 1)))),
 mV 4 18 4,
 oP 5 19 (.call 80 [.t 18, .k (.c (.int .i64 64))] [.c (.int .u64)]),
 oP 6 20 (.iaddr (.t 14) (.t 17) 1),
 ⟨7, none, .stG 20 (.t 19) 1, none⟩]) .skip))) (.cut [3] c11)))) }
def J11 (u1i u1o u1n : Nat) (G : GH) : Option Res := M.j (execC M.j C (M.ag C) c11 ({ exits := [], ret := retK d } : Env) (retK d)) (uS 3 (.v (.c (.sl 1 u1i u1o u1n)) :: (uS 18 []))) G
theorem J11_eq (u1i u1o u1n : Nat) (G : GH) : J11 M C u1i u1o u1n G = (some ([.c (.sl 1 u1i u1o u1n)], G)) := (M.hj _ _ _).trans (by kernel_rfl)
def f (u1 : Int) (G : GH) : Option Res := guardK (decide (0 ≤ IntKind.i64.wrap ((IntKind.i64.wrap (Int.tdiv (IntKind.i64.wrap (u1 - 1)) 64)) + 1) ∧ IntKind.i64.wrap ((IntKind.i64.wrap (Int.tdiv (IntKind.i64.wrap (u1 - 1)) 64)) + 1) ≤ (most : Int))) (let q1 := G.alloc (.row (reps (Int.toNat (IntKind.i64.wrap ((IntKind.i64.wrap (Int.tdiv (IntKind.i64.wrap (u1 - 1)) 64)) + 1))) [.int .u64 0]) false); bif decide (Int.tmod u1 64 > 0) then (C word_Mask.id [.c (.int .i64 (Int.tmod u1 64)), .c (.int .i64 64)] q1).bind fun q2 => (((q2.1[0]?).bind V1.c?).bind (Cell.asI .u64)).bind fun q3 => guardK (decide (0 ≤ IntKind.i64.wrap (((Int.toNat (IntKind.i64.wrap ((IntKind.i64.wrap (Int.tdiv (IntKind.i64.wrap (u1 - 1)) 64)) + 1)) : Nat) : Int) - 1) ∧ IntKind.i64.wrap (((Int.toNat (IntKind.i64.wrap ((IntKind.i64.wrap (Int.tdiv (IntKind.i64.wrap (u1 - 1)) 64)) + 1)) : Nat) : Int) - 1) < ((Int.toNat (IntKind.i64.wrap ((IntKind.i64.wrap (Int.tdiv (IntKind.i64.wrap (u1 - 1)) 64)) + 1)) : Nat) : Int))) ((q2.2.sts G.next (0 + Int.toNat (IntKind.i64.wrap (((Int.toNat (IntKind.i64.wrap ((IntKind.i64.wrap (Int.tdiv (IntKind.i64.wrap (u1 - 1)) 64)) + 1)) : Nat) : Int) - 1)) * 1) [.int .u64 q3]).bind fun q4 => J11 M C G.next 0 (Int.toNat (IntKind.i64.wrap ((IntKind.i64.wrap (Int.tdiv (IntKind.i64.wrap (u1 - 1)) 64)) + 1))) q4) else J11 M C G.next 0 (Int.toNat (IntKind.i64.wrap ((IntKind.i64.wrap (Int.tdiv (IntKind.i64.wrap (u1 - 1)) 64)) + 1))) q1)
theorem eq (u1 : Int) (G : GH) : runF M C d [.c (.int .i64 u1)] G = f M C u1 G := by kernel_rfl
end tree_level
namespace pin_Count
def c14 : DCode := (.region [oP 0 14 (.bin .add .i64 (.t 7) (.k (.c (.int .i64 1)))),
 mV 1 7 14])
def c17 : DCode := (.seq (.region [oP 0 8 (.cmp .lss .i64 (.t 7) (.t 6))]) (.seq (.cond (.t 8) .skip (.exit 0)) (.seq (.block 1 (.seq (.region [oP 0 9 (.iaddr (.t 5) (.t 7) 1),
 oP 1 10 (.ldG 9 (.c (.bool))),
 mV 2 4 10]) (.seq (.region [mV 0 11 4]) (.cond (.t 11) (.region [mV 0 12 2,
 oP 1 13 (.bin .add .i64 (.t 12) (.k (.c (.int .i64 1)))),
 mV 2 2 13]) .skip)))) (.cut [2, 5, 6, 7] c14))))
def c18 : DCode := (.loop [2, 5, 6, 7] c17)
def c23 : DCode := (.seq (.region [mV 0 15 2,
 mV 1 2 15]) .ret)
def d : DFn := { ntmps := 16, res := [.t 2], body := (.seq (.region [oP 0 2 (.move (.k (.c (.int .i64 0))))]) (.seq (.seq (.region [mV 0 5 0,
 oP 1 6 (.len (.t 5)),
 oP 2 7 (.move (.k (.c (.int .i64 0))))]) (.block 0 c18)) c23)) }
def k23 : Kont := execC M.j C (M.ag C) c23 ({ exits := [], ret := retK d } : Env) (retK d)
def e19 : Env := { exits := (0, (k23 M C)) :: (({ exits := [], ret := retK d } : Env)).exits, ret := (({ exits := [], ret := retK d } : Env)).ret }
def L18 (u1 : Int) (u2i u2o u2n : Nat) (u3 u4 : Int) (G : GH) : Option Res := M.ag C [2, 5, 6, 7] c17 (e19 M C) (k23 M C) (uS 2 (.v (.c (.int .i64 u1)) :: (uS 2 (.v (.c (.sl 1 u2i u2o u2n)) :: (.v (.c (.int .i64 u3)) :: (.v (.c (.int .i64 u4)) :: (uS 8 []))))))) G
def k18 : Kont := fun tm G => M.ag C [2, 5, 6, 7] c17 (e19 M C) (k23 M C) (restr [2, 5, 6, 7] 0 tm) G
def J14 (u1 : Int) (u2i u2o u2n : Nat) (u3 u4 : Int) (G : GH) : Option Res := M.j (execC M.j C (M.ag C) c14 (e19 M C) (k18 M C)) (uS 2 (.v (.c (.int .i64 u1)) :: (uS 2 (.v (.c (.sl 1 u2i u2o u2n)) :: (.v (.c (.int .i64 u3)) :: (.v (.c (.int .i64 u4)) :: (uS 8 []))))))) G
theorem L18_eq (u1 : Int) (u2i u2o u2n : Nat) (u3 u4 : Int) (G : GH) : L18 M C u1 u2i u2o u2n u3 u4 G = (bif decide (u4 < u3) then guardK (decide (0 ≤ u4 ∧ u4 < ((u2n : Nat) : Int))) (((G.ld u2i (u2o + Int.toNat u4 * 1)).bind Cell.asB).bind fun q1 => bif q1 then J14 M C (IntKind.i64.wrap (u1 + 1)) u2i u2o u2n u3 u4 G else J14 M C u1 u2i u2o u2n u3 u4 G) else some ([.c (.int .i64 u1)], G)) := (M.hs _ _ _ _ _ _ _).trans (by kernel_rfl)
theorem J14_eq (u1 : Int) (u2i u2o u2n : Nat) (u3 u4 : Int) (G : GH) : J14 M C u1 u2i u2o u2n u3 u4 G = (L18 M C u1 u2i u2o u2n u3 (IntKind.i64.wrap (u4 + 1)) G) := (M.hj _ _ _).trans (by kernel_rfl)
def f (u1i u1o u1n : Nat) (G : GH) : Option Res := L18 M C 0 u1i u1o u1n ((u1n : Nat) : Int) 0 G
theorem eq (u1i u1o u1n : Nat) (G : GH) : runF M C d [.c (.sl 1 u1i u1o u1n)] G = f M C u1i u1o u1n G := by kernel_rfl
end pin_Count
namespace tree_put
def c4 : DCode := (.cond (.t 26) (.region [oP 0 27 (.faddr 4 1),
 oP 1 28 (.ldL 27 35 (.c (.sl 1))),
 mV 2 29 1,
 oP 3 30 (.iaddr (.t 28) (.t 29) 1),
 oP 4 31 (.ldG 30 (.c (.sl 1))),
 mV 5 32 2,
 mV 6 33 3,
 oP 7 34 (.iaddr (.t 31) (.t 32) 1),
 ⟨8, none, .stG 34 (.t 33) 1, none⟩]) .skip)
def d : DFn := { ntmps := 36, res := [], body := (.seq (.region [oP 0 4 (.boxv 35 [9, 19, 27] (.t 0) 2)]) (.seq (.region [mV 0 8 1,
 oP 1 9 (.faddr 4 1),
 oP 2 10 (.ldL 9 35 (.c (.sl 1))),
 oP 3 11 (.len (.t 10)),
 oP 4 12 (.cmp .lss .i64 (.t 8) (.t 11)),
 mV 5 13 12,
 ⟨6, some 14, .move (.t 2), some (13, true)⟩,
 ⟨7, some 15, .cmp .geq .i64 (.t 14) (.k (.c (.int .i64 0))), some (13, true)⟩,
 oP 8 16 (.pick (.t 13) (.t 15) (.k (.c (.bool false)))),
 mV 9 17 16,
 ⟨10, some 18, .move (.t 2), some (17, true)⟩,
 ⟨11, some 19, .faddr 4 1, some (17, true)⟩,
 ⟨12, some 20, .ldL 19 35 (.c (.sl 1)), some (17, true)⟩,
 ⟨13, some 21, .move (.t 1), some (17, true)⟩,
 ⟨14, some 22, .iaddr (.t 20) (.t 21) 1, some (17, true)⟩,
 ⟨15, some 23, .ldG 22 (.c (.sl 1)), some (17, true)⟩,
 ⟨16, some 24, .len (.t 23), some (17, true)⟩,
 ⟨17, some 25, .cmp .lss .i64 (.t 18) (.t 24), some (17, true)⟩,
 oP 18 26 (.pick (.t 17) (.t 25) (.k (.c (.bool false))))]) (.cut [1, 2, 3, 4, 26, 35] c4))) }
def J4 (u1 u2 u3 : Int) (u4 : Bool) (u5 : Int) (u6i u6o u6n : Nat) (G : GH) : Option Res := M.j (execC M.j C (M.ag C) c4 ({ exits := [], ret := retK d } : Env) (retK d)) (uS 1 (.v (.c (.int .i64 u1)) :: (.v (.c (.int .i64 u2)) :: (.v (.c (.int .u64 u3)) :: (.ref 35 0 :: (uS 21 (.v (.c (.bool u4)) :: (uS 8 (.box [.int .i64 u5, .sl 1 u6i u6o u6n] :: []))))))))) G
theorem J4_eq (u1 u2 u3 : Int) (u4 : Bool) (u5 : Int) (u6i u6o u6n : Nat) (G : GH) : J4 M C u1 u2 u3 u4 u5 u6i u6o u6n G = (bif u4 then guardK (decide (0 ≤ u1 ∧ u1 < ((u6n : Nat) : Int))) (((G.ld u6i (u6o + Int.toNat u1 * 1)).bind (Cell.asS 1)).bind fun q2 => guardK (decide (0 ≤ u2 ∧ u2 < ((q2.2.2 : Nat) : Int))) ((G.sts q2.1 (q2.2.1 + Int.toNat u2 * 1) [.int .u64 u3]).bind fun q3 => some ([], q3))) else some ([], G)) := (M.hj _ _ _).trans (by kernel_rfl)
def f (u1 : Int) (u2i u2o u2n : Nat) (u3 u4 u5 : Int) (G : GH) : Option Res := bif decide (u3 < ((u2n : Nat) : Int)) then bif decide (u4 ≥ 0) then guardK (decide (0 ≤ u3 ∧ u3 < ((u2n : Nat) : Int))) (((G.ld u2i (u2o + Int.toNat u3 * 1)).bind (Cell.asS 1)).bind fun q1 => J4 M C u3 u4 u5 (decide (u4 < ((q1.2.2 : Nat) : Int))) u1 u2i u2o u2n G) else J4 M C u3 u4 u5 false u1 u2i u2o u2n G else J4 M C u3 u4 u5 false u1 u2i u2o u2n G
theorem eq (u1 : Int) (u2i u2o u2n : Nat) (u3 u4 u5 : Int) (G : GH) : runF M C d [.agg [.int .i64 u1, .sl 1 u2i u2o u2n], .c (.int .i64 u3), .c (.int .i64 u4), .c (.int .u64 u5)] G = f M C u1 u2i u2o u2n u3 u4 u5 G := by kernel_rfl
end tree_put
namespace calc_Up
def c6 : DCode := (.cond (.t 10) (.seq (.region [oP 0 2 (.move (.k (.c (.int .i64 0)))),
 oP 1 3 (.move (.k (.c (.bool false))))]) .ret) .skip)
def c16 : DCode := (.seq (.seq (.region [mV 0 11 4,
 mV 1 12 0,
 oP 2 13 (.cmp .lss .i64 (.t 11) (.t 12))]) (.cond (.t 13) .skip (.exit 0))) (.block 1 (.region [mV 0 14 4,
 oP 1 15 (.bin .shl .i64 (.t 14) (.k (.c (.int .u64 1)))),
 mV 2 4 15])))
def c21 : DCode := (.seq (.region [mV 0 16 4,
 mV 1 2 16,
 oP 2 3 (.move (.k (.c (.bool true))))]) .ret)
def c23 : DCode := (.seq (.region [oP 0 4 (.move (.k (.c (.int .i64 1))))]) (.seq (.block 0 (.loop [0, 4] c16)) c21))
def d : DFn := { ntmps := 17, res := [.t 2, .t 3], body := (.seq (.region [oP 0 2 (.move (.k (.c (.int .i64 0)))),
 oP 1 3 (.move (.k (.c (.bool false))))]) (.seq (.seq (.region [mV 0 5 0,
 oP 1 6 (.cmp .lss .i64 (.t 5) (.k (.c (.int .i64 1)))),
 mV 2 7 6,
 ⟨3, some 8, .move (.t 0), some (7, false)⟩,
 ⟨4, some 9, .cmp .gtr .i64 (.t 8) (.k (.c (.int .i64 4611686018427387904))), some (7, false)⟩,
 oP 5 10 (.pick (.t 7) (.k (.c (.bool true))) (.t 9))]) (.cut [0, 10] c6)) c23)) }
def k23 : Kont := execC M.j C (M.ag C) c23 ({ exits := [], ret := retK d } : Env) (retK d)
def J6 (u1 : Int) (u2 : Bool) (G : GH) : Option Res := M.j (execC M.j C (M.ag C) c6 ({ exits := [], ret := retK d } : Env) (k23 M C)) (.v (.c (.int .i64 u1)) :: (uS 9 (.v (.c (.bool u2)) :: (uS 6 [])))) G
def k21 : Kont := execC M.j C (M.ag C) c21 ({ exits := [], ret := retK d } : Env) (retK d)
def e18 : Env := { exits := (0, (k21 M C)) :: (({ exits := [], ret := retK d } : Env)).exits, ret := (({ exits := [], ret := retK d } : Env)).ret }
def L17 (u1 u2 : Int) (G : GH) : Option Res := M.ag C [0, 4] c16 (e18 M C) (k21 M C) (.v (.c (.int .i64 u1)) :: (uS 3 (.v (.c (.int .i64 u2)) :: (uS 12 [])))) G
theorem J6_eq (u1 : Int) (u2 : Bool) (G : GH) : J6 M C u1 u2 G = (bif u2 then some ([.c (.int .i64 0), .c (.bool false)], G) else L17 M C u1 1 G) := (M.hj _ _ _).trans (by kernel_rfl)
theorem L17_eq (u1 u2 : Int) (G : GH) : L17 M C u1 u2 G = (bif decide (u2 < u1) then L17 M C u1 (IntKind.i64.wrap (u2 * 2 ^ (min (1 : Int).toNat IntKind.i64.bits))) G else some ([.c (.int .i64 u2), .c (.bool true)], G)) := (M.hs _ _ _ _ _ _ _).trans (by kernel_rfl)
def f (u1 : Int) (G : GH) : Option Res := bif decide (u1 < 1) then J6 M C u1 true G else J6 M C u1 (decide (u1 > 4611686018427387904)) G
theorem eq (u1 : Int) (G : GH) : runF M C d [.c (.int .i64 u1)] G = f M C u1 G := by kernel_rfl
end calc_Up
namespace heap_Heap_aligned
def d : DFn := { ntmps := 29, res := [.box 6 (some 8)], body := (.seq (.region [oP 0 6 (.boxz 28 [] [.int .i64 0, .int .i64 0, .int .i64 0, .int .u8 0, .int .i64 0, .int .i64 0, .int .i64 0, .int .i64 0])]) (.seq (.region [mV 0 10 0,
 oP 1 11 (.nilck (.t 10)),
 oP 2 12 (.faddr 11 0),
 oP 3 13 (.ldG 12 (.agg (iS 8))),
 mV 4 14 0,
 oP 5 15 (.nilck (.t 14)),
 oP 6 16 (.faddr 15 12),
 oP 7 17 (.ldG 16 (.c (.int .i64))),
 mV 8 18 1,
 mV 9 19 2,
 oP 10 20 (.call 46 [.t 13, .t 17, .t 18, .t 19] [.c (.int .i64), .c (.int .i64)]),
 mV 11 9 20,
 oP 12 21 (.ext 9 0),
 oP 13 22 (.ext 9 1),
 mV 14 7 21,
 mV 15 8 22]) (.seq (.region [mV 0 23 0,
 mV 1 24 7,
 mV 2 25 1,
 mV 3 26 8,
 oP 4 27 (.call 47 [.t 23, .t 24, .t 25, .t 26] [.agg [.int .i64, .int .i64, .int .i64, .int .u8, .int .i64, .int .i64, .int .i64, .int .i64]]),
 ⟨5, none, .stL 6 28 (.t 27) 8, none⟩]) .ret))) }
def f (M : Mach) (C : Call) (u1i u1o : Nat) (u2 u3 : Int) (G : GH) : Option Res := guardK (!Nat.beq u1i 0) (((G.ld u1i ((u1o + 0) + 0)).bind (Cell.asI .i64)).bind fun q1 => ((G.ld u1i ((u1o + 0) + 1)).bind (Cell.asI .i64)).bind fun q2 => ((G.ld u1i ((u1o + 0) + 2)).bind (Cell.asI .i64)).bind fun q3 => ((G.ld u1i ((u1o + 0) + 3)).bind (Cell.asI .i64)).bind fun q4 => ((G.ld u1i ((u1o + 0) + 4)).bind (Cell.asI .i64)).bind fun q5 => ((G.ld u1i ((u1o + 0) + 5)).bind (Cell.asI .i64)).bind fun q6 => ((G.ld u1i ((u1o + 0) + 6)).bind (Cell.asI .i64)).bind fun q7 => ((G.ld u1i ((u1o + 0) + 7)).bind (Cell.asI .i64)).bind fun q8 => guardK (!Nat.beq u1i 0) (((G.ld u1i (u1o + 12)).bind (Cell.asI .i64)).bind fun q9 => (C admit_New.id [.agg [.int .i64 q1, .int .i64 q2, .int .i64 q3, .int .i64 q4, .int .i64 q5, .int .i64 q6, .int .i64 q7, .int .i64 q8], .c (.int .i64 q9), .c (.int .i64 u2), .c (.int .i64 u3)] G).bind fun q10 => (((q10.1[0]?).bind V1.c?).bind (Cell.asI .i64)).bind fun q11 => (((q10.1[1]?).bind V1.c?).bind (Cell.asI .i64)).bind fun q12 => (C heap_Heap_asks.id [.c (.ptr u1i u1o), .c (.int .i64 q11), .c (.int .i64 u2), .c (.int .i64 q12)] q10.2).bind fun q13 => ((q13.1[0]?).bind V1.a?).bind fun q14 => if q14.length = 8 then (((q14[0]?).bind (Cell.asI .i64)).bind fun q15 => ((q14[1]?).bind (Cell.asI .i64)).bind fun q16 => ((q14[2]?).bind (Cell.asI .i64)).bind fun q17 => ((q14[3]?).bind (Cell.asI .u8)).bind fun q18 => ((q14[4]?).bind (Cell.asI .i64)).bind fun q19 => ((q14[5]?).bind (Cell.asI .i64)).bind fun q20 => ((q14[6]?).bind (Cell.asI .i64)).bind fun q21 => ((q14[7]?).bind (Cell.asI .i64)).bind fun q22 => some ([.agg [.int .i64 q15, .int .i64 q16, .int .i64 q17, .int .u8 q18, .int .i64 q19, .int .i64 q20, .int .i64 q21, .int .i64 q22]], q13.2)) else none))
theorem eq (u1i u1o : Nat) (u2 u3 : Int) (G : GH) : runF M C d [.c (.ptr u1i u1o), .c (.int .i64 u2), .c (.int .i64 u3)] G = f M C u1i u1o u2 u3 G := by kernel_rfl
end heap_Heap_aligned
namespace slots_Lowest
def c6 : DCode := (.cond (.t 14) (.seq (.region [oP 0 4 (.move (.k (.c (.int .i64 0)))),
 oP 1 5 (.move (.k (.c (.bool false))))]) .ret) .skip)
def c10 : DCode := (.seq (.region [oP 0 15 (.faddr 2 0),
 oP 1 16 (.ldL 15 23 (.c (.sl 2))),
 mV 2 17 1,
 oP 3 18 (.iaddr (.t 16) (.t 17) 2),
 oP 4 19 (.ldG 18 (.agg [.int .i64, .sl 1])),
 oP 5 20 (.call 89 [.t 19, .k (.c (.int .i64 0))] [.c (.int .i64), .c (.bool)]),
 oP 6 21 (.ext 20 0),
 oP 7 22 (.ext 20 1),
 mV 8 4 21,
 mV 9 5 22]) .ret)
def d : DFn := { ntmps := 24, res := [.t 4, .t 5], body := (.seq (.region [oP 0 2 (.boxv 23 [10, 15] (.t 0) 1),
 oP 1 4 (.move (.k (.c (.int .i64 0)))),
 oP 2 5 (.move (.k (.c (.bool false))))]) (.seq (.seq (.region [mV 0 6 1,
 oP 1 7 (.cmp .lss .i64 (.t 6) (.k (.c (.int .i64 0)))),
 mV 2 8 7,
 ⟨3, some 9, .move (.t 1), some (8, false)⟩,
 ⟨4, some 10, .faddr 2 0, some (8, false)⟩,
 ⟨5, some 11, .ldL 10 23 (.c (.sl 2)), some (8, false)⟩,
 ⟨6, some 12, .len (.t 11), some (8, false)⟩,
 ⟨7, some 13, .cmp .geq .i64 (.t 9) (.t 12), some (8, false)⟩,
 oP 8 14 (.pick (.t 8) (.k (.c (.bool true))) (.t 13))]) (.cut [1, 2, 14, 23] c6)) c10)) }
def k10 : Kont := execC M.j C (M.ag C) c10 ({ exits := [], ret := retK d } : Env) (retK d)
def J6 (u1 : Int) (u2 : Bool) (u3i u3o u3n : Nat) (G : GH) : Option Res := M.j (execC M.j C (M.ag C) c6 ({ exits := [], ret := retK d } : Env) (k10 M C)) (uS 1 (.v (.c (.int .i64 u1)) :: (.ref 23 0 :: (uS 11 (.v (.c (.bool u2)) :: (uS 8 (.box [.sl 2 u3i u3o u3n] :: []))))))) G
theorem J6_eq (u1 : Int) (u2 : Bool) (u3i u3o u3n : Nat) (G : GH) : J6 M C u1 u2 u3i u3o u3n G = (bif u2 then some ([.c (.int .i64 0), .c (.bool false)], G) else guardK (decide (0 ≤ u1 ∧ u1 < ((u3n : Nat) : Int))) (((G.ld u3i ((u3o + Int.toNat u1 * 2) + 0)).bind (Cell.asI .i64)).bind fun q1 => ((G.ld u3i ((u3o + Int.toNat u1 * 2) + 1)).bind (Cell.asS 1)).bind fun q2 => (C tree_FirstZero.id [.agg [.int .i64 q1, .sl 1 q2.1 q2.2.1 q2.2.2], .c (.int .i64 0)] G).bind fun q3 => (((q3.1[0]?).bind V1.c?).bind (Cell.asI .i64)).bind fun q4 => (((q3.1[1]?).bind V1.c?).bind Cell.asB).bind fun q5 => some ([.c (.int .i64 q4), .c (.bool q5)], q3.2))) := (M.hj _ _ _).trans (by kernel_rfl)
def f (u1i u1o u1n : Nat) (u2 : Int) (G : GH) : Option Res := bif decide (u2 < 0) then J6 M C u2 true u1i u1o u1n G else J6 M C u2 (decide (u2 ≥ ((u1n : Nat) : Int))) u1i u1o u1n G
theorem eq (u1i u1o u1n : Nat) (u2 : Int) (G : GH) : runF M C d [.agg [.sl 2 u1i u1o u1n], .c (.int .i64 u2)] G = f M C u1i u1o u1n u2 G := by kernel_rfl
end slots_Lowest
namespace calc_Round
def c6 : DCode := (.cond (.t 12) (.seq (.region [oP 0 4 (.move (.k (.c (.int .i64 0)))),
 oP 1 5 (.move (.k (.c (.bool false))))]) .ret) .skip)
def c20 : DCode := (.seq (.region [mV 0 13 0,
 mV 1 14 1,
 oP 2 15 (.bin .rem .i64 (.t 13) (.t 14)),
 mV 3 6 15]) (.seq (.seq (.region [mV 0 16 6,
 oP 1 17 (.cmp .eql .i64 (.t 16) (.k (.c (.int .i64 0))))]) (.cond (.t 17) (.seq (.region [mV 0 18 0,
 mV 1 4 18,
 oP 2 5 (.move (.k (.c (.bool true))))]) .ret) .skip)) (.seq (.region [mV 0 19 0,
 mV 1 20 1,
 mV 2 21 6,
 oP 3 22 (.bin .sub .i64 (.t 20) (.t 21)),
 oP 4 23 (.call 53 [.t 19, .t 22] [.c (.int .i64), .c (.bool)]),
 oP 5 24 (.ext 23 0),
 oP 6 25 (.ext 23 1),
 mV 7 4 24,
 mV 8 5 25]) .ret)))
def d : DFn := { ntmps := 26, res := [.t 4, .t 5], body := (.seq (.region [oP 0 4 (.move (.k (.c (.int .i64 0)))),
 oP 1 5 (.move (.k (.c (.bool false))))]) (.seq (.seq (.region [mV 0 7 0,
 oP 1 8 (.cmp .lss .i64 (.t 7) (.k (.c (.int .i64 0)))),
 mV 2 9 8,
 ⟨3, some 10, .move (.t 1), some (9, false)⟩,
 ⟨4, some 11, .cmp .lss .i64 (.t 10) (.k (.c (.int .i64 1))), some (9, false)⟩,
 oP 5 12 (.pick (.t 9) (.k (.c (.bool true))) (.t 11))]) (.cut [0, 1, 12] c6)) c20)) }
def k20 : Kont := execC M.j C (M.ag C) c20 ({ exits := [], ret := retK d } : Env) (retK d)
def J6 (u1 u2 : Int) (u3 : Bool) (G : GH) : Option Res := M.j (execC M.j C (M.ag C) c6 ({ exits := [], ret := retK d } : Env) (k20 M C)) (.v (.c (.int .i64 u1)) :: (.v (.c (.int .i64 u2)) :: (uS 10 (.v (.c (.bool u3)) :: (uS 13 []))))) G
theorem J6_eq (u1 u2 : Int) (u3 : Bool) (G : GH) : J6 M C u1 u2 u3 G = (bif u3 then some ([.c (.int .i64 0), .c (.bool false)], G) else (binD .rem .i64 u1 u2).bind fun q1 => bif decide (q1 = 0) then some ([.c (.int .i64 u1), .c (.bool true)], G) else (C calc_Add.id [.c (.int .i64 u1), .c (.int .i64 (IntKind.i64.wrap (u2 - q1)))] G).bind fun q2 => (((q2.1[0]?).bind V1.c?).bind (Cell.asI .i64)).bind fun q3 => (((q2.1[1]?).bind V1.c?).bind Cell.asB).bind fun q4 => some ([.c (.int .i64 q3), .c (.bool q4)], q2.2)) := (M.hj _ _ _).trans (by kernel_rfl)
def f (u1 u2 : Int) (G : GH) : Option Res := bif decide (u1 < 0) then J6 M C u1 u2 true G else J6 M C u1 u2 (decide (u2 < 1)) G
theorem eq (u1 u2 : Int) (G : GH) : runF M C d [.c (.int .i64 u1), .c (.int .i64 u2)] G = f M C u1 u2 G := by kernel_rfl
end calc_Round
namespace side_Take
def d : DFn := { ntmps := 31, res := [.t 4, .t 5, .t 6], body := (.seq (.region [oP 0 4 (.move (.k (.c (.sl 2 0 0 0)))),
 oP 1 5 (.move (.k (.c (.int .i64 0)))),
 oP 2 6 (.move (.k (.c (.bool false))))]) (.seq (.region [mV 0 10 0,
 oP 1 11 (.call 83 [.t 10] [.c (.sl 2)]),
 mV 2 7 11]) (.seq (.region [mV 0 13 0,
 mV 1 14 1,
 oP 2 15 (.call 84 [.t 13, .t 14] [.c (.int .i64), .c (.bool)]),
 mV 3 12 15,
 oP 4 16 (.ext 12 0),
 oP 5 17 (.ext 12 1),
 mV 6 8 16,
 mV 7 9 17]) (.seq (.seq (.region [mV 0 18 9,
 oP 1 19 (.not (.t 18))]) (.cond (.t 19) (.seq (.region [mV 0 20 7,
 mV 1 4 20,
 oP 2 5 (.move (.k (.c (.int .i64 0)))),
 oP 3 6 (.move (.k (.c (.bool false))))]) .ret) .skip)) (.seq (.region [mV 0 21 7,
 mV 1 22 8,
 mV 2 23 8,
 oP 3 24 (.bin .add .i64 (.t 23) (.k (.c (.int .i64 1)))),
 mV 5 26 0,
 mV 6 27 8,
 oP 7 28 (.iaddr (.t 26) (.t 27) 2),
 oP 8 29 (.faddr 28 1),
 oP 9 30 (.ldG 29 (.c (.int .i64))),
 oP 4 25 (.call 85 [.t 21, .t 22, .t 24] [.c (.sl 2)]),
 ⟨9999, none, .reG 30 29 (.c (.int .i64)), none⟩,
 mV 10 4 25,
 mV 11 5 30,
 oP 12 6 (.move (.k (.c (.bool true))))]) .ret))))) }
def f (M : Mach) (C : Call) (u1i u1o u1n : Nat) (u2 : Int) (G : GH) : Option Res := (C slices_Clone_Sapi_Mark_api_Mark.id [.c (.sl 2 u1i u1o u1n)] G).bind fun q1 => (((q1.1[0]?).bind V1.c?).bind (Cell.asS 2)).bind fun q2 => (C side_find.id [.c (.sl 2 u1i u1o u1n), .c (.int .i64 u2)] q1.2).bind fun q3 => (((q3.1[0]?).bind V1.c?).bind (Cell.asI .i64)).bind fun q4 => (((q3.1[1]?).bind V1.c?).bind Cell.asB).bind fun q5 => bif (!q5) then some ([.c (.sl 2 q2.1 q2.2.1 q2.2.2), .c (.int .i64 0), .c (.bool false)], q3.2) else guardK (decide (0 ≤ q4 ∧ q4 < ((u1n : Nat) : Int))) (((q3.2.ld u1i ((u1o + Int.toNat q4 * 2) + 1)).bind (Cell.asI .i64)).bind fun q6 => (C slices_Delete_Sapi_Mark_api_Mark.id [.c (.sl 2 q2.1 q2.2.1 q2.2.2), .c (.int .i64 q4), .c (.int .i64 (IntKind.i64.wrap (q4 + 1)))] q3.2).bind fun q7 => (((q7.1[0]?).bind V1.c?).bind (Cell.asS 2)).bind fun q8 => ((q7.2.ld u1i ((u1o + Int.toNat q4 * 2) + 1)).bind (Cell.asI .i64)).bind fun q9 => guardK (decide ((.c (.int .i64 q6) : V1) = .c (.int .i64 q9))) (some ([.c (.sl 2 q8.1 q8.2.1 q8.2.2), .c (.int .i64 q6), .c (.bool true)], q7.2)))
theorem eq (u1i u1o u1n : Nat) (u2 : Int) (G : GH) : runF M C d [.c (.sl 2 u1i u1o u1n), .c (.int .i64 u2)] G = f M C u1i u1o u1n u2 G := by kernel_rfl
end side_Take
namespace wire_Put
def d : DFn := { ntmps := 33, res := [.t 2], body := (.seq (.region [oP 0 2 (.move (.k (.c (.sl 1 0 0 0))))]) (.seq (.seq (.region [mV 0 7 0,
 oP 1 8 (.len (.t 7)),
 oP 2 9 (.move (.k (.c (.int .i64 0))))]) (.block 0 (.loop [2, 7, 8, 9] (.seq (.region [oP 0 10 (.cmp .lss .i64 (.t 9) (.t 8))]) (.seq (.cond (.t 10) .skip (.exit 0)) (.seq (.block 1 (.seq (.region [oP 0 11 (.iaddr (.t 7) (.t 9) 6),
 oP 1 12 (.ldG 11 (.agg [.int .i64, .int .i64, .int .i64, .int .i64, .int .i64, .int .u8])),
 oP 2 4 (.boxz 32 [] [.int .i64 0, .int .i64 0, .int .i64 0, .int .i64 0, .int .i64 0, .int .u8 0]),
 ⟨3, none, .stL 4 32 (.t 12) 6, none⟩]) (.seq (.region [oP 0 13 (.ldL 4 32 (.agg [.int .i64, .int .i64, .int .i64, .int .i64, .int .i64, .int .u8])),
 oP 1 14 (.call 58 [.t 13] [.c (.sl 1)]),
 mV 2 5 14]) (.seq (.region [mV 0 15 5,
 oP 1 16 (.call 57 [.t 15] [.c (.sl 6)]),
 mV 2 6 16]) (.seq (.region [mV 0 17 6,
 oP 1 18 (.len (.t 17)),
 oP 2 19 (.cmp .eql .i64 (.t 18) (.k (.c (.int .i64 1)))),
 mV 3 20 19,
 ⟨4, some 21, .move (.t 6), some (20, true)⟩,
 ⟨5, some 22, .iaddr (.t 21) (.k (.c (.int .i64 0))) 6, some (20, true)⟩,
 ⟨6, some 23, .ldG 22 (.agg [.int .i64, .int .i64, .int .i64, .int .i64, .int .i64, .int .u8]), some (20, true)⟩,
 ⟨7, some 24, .ldL 4 32 (.agg [.int .i64, .int .i64, .int .i64, .int .i64, .int .i64, .int .u8]), some (20, true)⟩,
 ⟨8, some 25, .aeq false [.int .i64, .int .i64, .int .i64, .int .i64, .int .i64, .int .u8] (.t 23) (.t 24), some (20, true)⟩,
 oP 9 26 (.pick (.t 20) (.t 25) (.k (.c (.bool false))))]) (.cond (.t 26) (.region [mV 0 27 2,
 mV 1 28 5,
 oP 2 29 (.app (.t 27) (.t 28) 1 1),
 mV 3 2 29]) .skip)))))) (.region [oP 0 30 (.bin .add .i64 (.t 9) (.k (.c (.int .i64 1)))),
 mV 1 9 30]))))))) (.seq (.region [mV 0 31 2,
 mV 1 2 31]) .ret))) }
end wire_Put

end Go.Proofs.D
