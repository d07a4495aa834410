/- Texts of the proof (T0); no condition. -/
import Derived.Test.YtogdeblppihbnaaTopWilda
import Derived.KernelRfl
set_option linter.unusedSimpArgs false
set_option linter.unusedVariables false
set_option linter.unusedVariables false
set_option maxRecDepth 100000
namespace Go.Proofs.D
open Go
variable (M : Mach) (C : Call)
namespace slots_Use
def c7 : DCode := (.cond (.t 39) (.seq (.region [oP 0 40 (.ldL 9 112 (.agg [.sl 2])),
 ⟨1, none, .stL 8 111 (.t 40) 1, none⟩]) .ret) .skip)
def c27 : DCode := (.cond (.t 90) (.region [oP 0 91 (.ldL 12 113 (.agg [.int .i64, .sl 1])),
 mV 1 92 16,
 oP 2 93 (.faddr 9 0),
 oP 3 94 (.ldL 93 112 (.c (.sl 2))),
 mV 4 95 11,
 oP 5 96 (.bin .sub .i64 (.t 95) (.k (.c (.int .i64 1)))),
 oP 6 97 (.iaddr (.t 94) (.t 96) 2),
 oP 7 98 (.ldG 97 (.agg [.int .i64, .sl 1])),
 mV 8 99 16,
 oP 9 100 (.call 88 [.t 98, .t 99] [.c (.bool)]),
 oP 10 101 (.call 87 [.t 91, .t 92, .k (.c (.int .i64 1)), .t 100] [.agg [.int .i64, .sl 1]]),
 ⟨11, none, .stL 12 113 (.t 101) 2, none⟩]) .skip)
def c31 : DCode := (.region [oP 0 102 (.bin .add .i64 (.t 81) (.k (.c (.int .i64 1)))),
 mV 1 81 102])
def c34 : DCode := (.seq (.region [oP 0 82 (.cmp .lss .i64 (.t 81) (.t 80))]) (.seq (.cond (.t 82) .skip (.exit 2)) (.seq (.block 3 (.seq (.region [oP 0 83 (.iaddr (.t 79) (.t 81) 1),
 oP 1 84 (.ldG 83 (.c (.int .i64))),
 mV 2 16 84]) (.seq (.region [mV 0 85 11,
 oP 1 86 (.cmp .gtr .i64 (.t 85) (.k (.c (.int .i64 0)))),
 mV 2 87 86,
 ⟨3, some 88, .move (.t 3), some (87, true)⟩,
 ⟨4, some 89, .not (.t 88), some (87, true)⟩,
 oP 5 90 (.pick (.t 87) (.t 89) (.k (.c (.bool false))))]) (.cut [1, 3, 8, 9, 10, 11, 12, 16, 54, 55, 56, 79, 80, 81, 90, 111, 112, 113] c27)))) (.cut [1, 3, 8, 9, 10, 11, 12, 54, 55, 56, 79, 80, 81, 111, 112, 113] c31))))
def c35 : DCode := (.loop [1, 3, 8, 9, 10, 11, 12, 54, 55, 56, 79, 80, 81, 111, 112, 113] c34)
def c38 : DCode := (.region [oP 0 103 (.faddr 9 0),
 oP 1 104 (.ldL 103 112 (.c (.sl 2))),
 mV 2 105 11,
 oP 3 106 (.ldL 12 113 (.agg [.int .i64, .sl 1])),
 oP 4 107 (.iaddr (.t 104) (.t 105) 2),
 ⟨5, none, .stG 107 (.t 106) 2, none⟩])
def c44 : DCode := (.region [oP 0 108 (.bin .add .i64 (.t 56) (.k (.c (.int .i64 1)))),
 mV 1 56 108])
def c47 : DCode := (.seq (.region [oP 0 57 (.cmp .lss .i64 (.t 56) (.t 55))]) (.seq (.cond (.t 57) .skip (.exit 0)) (.seq (.block 1 (.seq (.region [mV 0 58 56,
 oP 1 59 (.iaddr (.t 54) (.t 56) 2),
 oP 2 60 (.ldG 59 (.agg [.int .i64, .sl 1])),
 oP 3 12 (.boxz 113 [] [.int .i64 0, .sl 1 0 0 0]),
 mV 4 11 58,
 ⟨5, none, .stL 12 113 (.t 60) 2, none⟩]) (.seq (.region [mV 0 61 1,
 mV 1 62 11,
 oP 2 63 (.conv .u64 (.t 62)),
 oP 3 64 (.bin .shr .i64 (.t 61) (.t 63)),
 mV 4 65 10,
 mV 5 66 11,
 oP 6 67 (.conv .u64 (.t 66)),
 oP 7 68 (.bin .shr .i64 (.t 65) (.t 67)),
 mV 8 13 64,
 mV 9 14 68]) (.seq (.region [oP 0 69 (.ldL 12 113 (.agg [.int .i64, .sl 1])),
 mV 1 70 13,
 mV 2 71 14,
 mV 3 72 13,
 oP 4 73 (.bin .sub .i64 (.t 71) (.t 72)),
 oP 5 74 (.bin .add .i64 (.t 73) (.k (.c (.int .i64 1)))),
 mV 6 75 3,
 oP 7 76 (.call 87 [.t 69, .t 70, .t 74, .t 75] [.agg [.int .i64, .sl 1]]),
 ⟨8, none, .stL 12 113 (.t 76) 2, none⟩]) (.seq (.seq (.region [mV 0 77 13,
 mV 1 78 14,
 oP 2 79 (.bslice 2 1 [.int .i64 0, .int .i64 0] [(0, 1, .t 77), (1, 1, .t 78)]),
 oP 3 80 (.len (.t 79)),
 oP 4 81 (.move (.k (.c (.int .i64 0))))]) (.block 2 c35)) c38))))) c44)))
def c48 : DCode := (.loop [1, 3, 8, 9, 10, 54, 55, 56, 111, 112] c47)
def c53 : DCode := (.seq (.region [oP 0 109 (.ldL 9 112 (.agg [.sl 2])),
 ⟨1, none, .stL 8 111 (.t 109) 1, none⟩]) .ret)
def c55 : DCode := (.seq (.region [mV 0 41 1,
 mV 1 42 2,
 oP 2 43 (.faddr 9 0),
 oP 3 44 (.ldL 43 112 (.c (.sl 2))),
 oP 4 45 (.iaddr (.t 44) (.k (.c (.int .i64 0))) 2),
 oP 5 46 (.faddr 45 0),
 oP 6 47 (.ldG 46 (.c (.int .i64))),
 mV 7 48 1,
 oP 8 49 (.bin .sub .i64 (.t 47) (.t 48)),
 oP 9 50 (.mn (.t 42) [.t 49]),
 oP 10 51 (.bin .add .i64 (.t 41) (.t 50)),
 oP 11 52 (.bin .sub .i64 (.t 51) (.k (.c (.int .i64 1)))),
 mV 12 10 52]) (.seq (.seq (.region [oP 0 53 (.faddr 9 0),
 oP 1 54 (.ldL 53 112 (.c (.sl 2))),
 oP 2 55 (.len (.t 54)),
 oP 3 56 (.move (.k (.c (.int .i64 0))))]) (.block 0 c48)) c53))
def d : DFn := { ntmps := 114, res := [.box 8 (some 1)], body := (.seq (.region [oP 0 4 (.boxv 110 [] (.t 0) 1),
 oP 1 8 (.boxz 111 [] [.sl 2 0 0 0])]) (.seq (.region [oP 0 17 (.ldL 4 110 (.agg [.sl 2])),
 oP 1 18 (.call 86 [.t 17] [.agg [.sl 2]]),
 oP 2 9 (.boxz 112 [19, 33, 43, 53, 93, 103] [.sl 2 0 0 0]),
 ⟨3, none, .stL 9 112 (.t 18) 1, none⟩]) (.seq (.seq (.region [oP 0 19 (.faddr 9 0),
 oP 1 20 (.ldL 19 112 (.c (.sl 2))),
 oP 2 21 (.len (.t 20)),
 oP 3 22 (.cmp .eql .i64 (.t 21) (.k (.c (.int .i64 0)))),
 mV 4 23 22,
 ⟨5, some 24, .move (.t 1), some (23, false)⟩,
 ⟨6, some 25, .cmp .lss .i64 (.t 24) (.k (.c (.int .i64 0))), some (23, false)⟩,
 oP 7 26 (.pick (.t 23) (.k (.c (.bool true))) (.t 25)),
 mV 8 27 26,
 ⟨9, some 28, .move (.t 2), some (27, false)⟩,
 ⟨10, some 29, .cmp .lss .i64 (.t 28) (.k (.c (.int .i64 1))), some (27, false)⟩,
 oP 11 30 (.pick (.t 27) (.k (.c (.bool true))) (.t 29)),
 mV 12 31 30,
 ⟨13, some 32, .move (.t 1), some (31, false)⟩,
 ⟨14, some 33, .faddr 9 0, some (31, false)⟩,
 ⟨15, some 34, .ldL 33 112 (.c (.sl 2)), some (31, false)⟩,
 ⟨16, some 35, .iaddr (.t 34) (.k (.c (.int .i64 0))) 2, some (31, false)⟩,
 ⟨17, some 36, .faddr 35 0, some (31, false)⟩,
 ⟨18, some 37, .ldG 36 (.c (.int .i64)), some (31, false)⟩,
 ⟨19, some 38, .cmp .geq .i64 (.t 32) (.t 37), some (31, false)⟩,
 oP 20 39 (.pick (.t 31) (.k (.c (.bool true))) (.t 38))]) (.cut [1, 2, 3, 8, 9, 39, 111, 112] c7)) c55))) }
def k55 : Kont := execC M.j C (M.ag C) c55 ({ exits := [], ret := retK d } : Env) (retK d)
def J7 (u1 u2 : Int) (u3 u4 : Bool) (u5i u5o u5n u6i u6o u6n : Nat) (G : GH) : Option Res := M.j (execC M.j C (M.ag C) c7 ({ exits := [], ret := retK d } : Env) (k55 M C)) (uS 1 (.v (.c (.int .i64 u1)) :: (.v (.c (.int .i64 u2)) :: (.v (.c (.bool u3)) :: (uS 4 (.ref 111 0 :: (.ref 112 0 :: (uS 29 (.v (.c (.bool u4)) :: (uS 71 (.box [.sl 2 u5i u5o u5n] :: (.box [.sl 2 u6i u6o u6n] :: (uS 1 []))))))))))))) G
def k53 : Kont := execC M.j C (M.ag C) c53 ({ exits := [], ret := retK d } : Env) (retK d)
def e49 : Env := { exits := (0, (k53 M C)) :: (({ exits := [], ret := retK d } : Env)).exits, ret := (({ exits := [], ret := retK d } : Env)).ret }
def L48 (u1 : Int) (u2 : Bool) (u3 : Int) (u4i u4o u4n : Nat) (u5 u6 : Int) (u7i u7o u7n u8i u8o u8n : Nat) (G : GH) : Option Res := M.ag C [1, 3, 8, 9, 10, 54, 55, 56, 111, 112] c47 (e49 M C) (k53 M C) (uS 1 (.v (.c (.int .i64 u1)) :: (uS 1 (.v (.c (.bool u2)) :: (uS 4 (.ref 111 0 :: (.ref 112 0 :: (.v (.c (.int .i64 u3)) :: (uS 43 (.v (.c (.sl 2 u4i u4o u4n)) :: (.v (.c (.int .i64 u5)) :: (.v (.c (.int .i64 u6)) :: (uS 54 (.box [.sl 2 u7i u7o u7n] :: (.box [.sl 2 u8i u8o u8n] :: (uS 1 [])))))))))))))))) G
def k48 : Kont := fun tm G => M.ag C [1, 3, 8, 9, 10, 54, 55, 56, 111, 112] c47 (e49 M C) (k53 M C) (restr [1, 3, 8, 9, 10, 54, 55, 56, 111, 112] 0 tm) G
def k44 : Kont := execC M.j C (M.ag C) c44 (e49 M C) (k48 M C)
def e43 : Env := { exits := (1, (k44 M C)) :: ((e49 M C)).exits, ret := ((e49 M C)).ret }
def k38 : Kont := execC M.j C (M.ag C) c38 (e43 M C) (k44 M C)
def e36 : Env := { exits := (2, (k38 M C)) :: ((e43 M C)).exits, ret := ((e43 M C)).ret }
def L35 (u1 : Int) (u2 : Bool) (u3 u4 : Int) (u5i u5o u5n : Nat) (u6 u7 : Int) (u8i u8o u8n : Nat) (u9 u10 : Int) (u11i u11o u11n u12i u12o u12n : Nat) (u13 : Int) (u14i u14o u14n : Nat) (G : GH) : Option Res := M.ag C [1, 3, 8, 9, 10, 11, 12, 54, 55, 56, 79, 80, 81, 111, 112, 113] c34 (e36 M C) (k38 M C) (uS 1 (.v (.c (.int .i64 u1)) :: (uS 1 (.v (.c (.bool u2)) :: (uS 4 (.ref 111 0 :: (.ref 112 0 :: (.v (.c (.int .i64 u3)) :: (.v (.c (.int .i64 u4)) :: (.ref 113 0 :: (uS 41 (.v (.c (.sl 2 u5i u5o u5n)) :: (.v (.c (.int .i64 u6)) :: (.v (.c (.int .i64 u7)) :: (uS 22 (.v (.c (.sl 1 u8i u8o u8n)) :: (.v (.c (.int .i64 u9)) :: (.v (.c (.int .i64 u10)) :: (uS 29 (.box [.sl 2 u11i u11o u11n] :: (.box [.sl 2 u12i u12o u12n] :: (.box [.int .i64 u13, .sl 1 u14i u14o u14n] :: [])))))))))))))))))))))) G
def k35 : Kont := fun tm G => M.ag C [1, 3, 8, 9, 10, 11, 12, 54, 55, 56, 79, 80, 81, 111, 112, 113] c34 (e36 M C) (k38 M C) (restr [1, 3, 8, 9, 10, 11, 12, 54, 55, 56, 79, 80, 81, 111, 112, 113] 0 tm) G
def k31 : Kont := execC M.j C (M.ag C) (.cut [1, 3, 8, 9, 10, 11, 12, 54, 55, 56, 79, 80, 81, 111, 112, 113] c31) (e36 M C) (k35 M C)
def e30 : Env := { exits := (3, (k31 M C)) :: ((e36 M C)).exits, ret := ((e36 M C)).ret }
def J27 (u1 : Int) (u2 : Bool) (u3 u4 u5 : Int) (u6i u6o u6n : Nat) (u7 u8 : Int) (u9i u9o u9n : Nat) (u10 u11 : Int) (u12 : Bool) (u13i u13o u13n u14i u14o u14n : Nat) (u15 : Int) (u16i u16o u16n : Nat) (G : GH) : Option Res := M.j (execC M.j C (M.ag C) c27 (e30 M C) (k31 M C)) (uS 1 (.v (.c (.int .i64 u1)) :: (uS 1 (.v (.c (.bool u2)) :: (uS 4 (.ref 111 0 :: (.ref 112 0 :: (.v (.c (.int .i64 u3)) :: (.v (.c (.int .i64 u4)) :: (.ref 113 0 :: (uS 3 (.v (.c (.int .i64 u5)) :: (uS 37 (.v (.c (.sl 2 u6i u6o u6n)) :: (.v (.c (.int .i64 u7)) :: (.v (.c (.int .i64 u8)) :: (uS 22 (.v (.c (.sl 1 u9i u9o u9n)) :: (.v (.c (.int .i64 u10)) :: (.v (.c (.int .i64 u11)) :: (uS 8 (.v (.c (.bool u12)) :: (uS 20 (.box [.sl 2 u13i u13o u13n] :: (.box [.sl 2 u14i u14o u14n] :: (.box [.int .i64 u15, .sl 1 u16i u16o u16n] :: [])))))))))))))))))))))))))) G
def J31 (u1 : Int) (u2 : Bool) (u3 u4 : Int) (u5i u5o u5n : Nat) (u6 u7 : Int) (u8i u8o u8n : Nat) (u9 u10 : Int) (u11i u11o u11n u12i u12o u12n : Nat) (u13 : Int) (u14i u14o u14n : Nat) (G : GH) : Option Res := M.j (execC M.j C (M.ag C) c31 (e36 M C) (k35 M C)) (uS 1 (.v (.c (.int .i64 u1)) :: (uS 1 (.v (.c (.bool u2)) :: (uS 4 (.ref 111 0 :: (.ref 112 0 :: (.v (.c (.int .i64 u3)) :: (.v (.c (.int .i64 u4)) :: (.ref 113 0 :: (uS 41 (.v (.c (.sl 2 u5i u5o u5n)) :: (.v (.c (.int .i64 u6)) :: (.v (.c (.int .i64 u7)) :: (uS 22 (.v (.c (.sl 1 u8i u8o u8n)) :: (.v (.c (.int .i64 u9)) :: (.v (.c (.int .i64 u10)) :: (uS 29 (.box [.sl 2 u11i u11o u11n] :: (.box [.sl 2 u12i u12o u12n] :: (.box [.int .i64 u13, .sl 1 u14i u14o u14n] :: [])))))))))))))))))))))) G
theorem J7_eq (u1 u2 : Int) (u3 u4 : Bool) (u5i u5o u5n u6i u6o u6n : Nat) (G : GH) : J7 M C u1 u2 u3 u4 u5i u5o u5n u6i u6o u6n G = (bif u4 then some ([.agg [.sl 2 u6i u6o u6n]], G) else guardK (decide (0 ≤ (0 : Int) ∧ (0 : Int) < ((u6n : Nat) : Int))) (((G.ld u6i ((u6o + Int.toNat 0 * 2) + 0)).bind (Cell.asI .i64)).bind fun q5 => L48 M C u1 u3 (IntKind.i64.wrap ((IntKind.i64.wrap (u1 + (mn2 u2 (IntKind.i64.wrap (q5 - u1))))) - 1)) u6i u6o u6n ((u6n : Nat) : Int) 0 u5i u5o u5n u6i u6o u6n G)) := (M.hj _ _ _).trans (by kernel_rfl)
theorem L48_eq (u1 : Int) (u2 : Bool) (u3 : Int) (u4i u4o u4n : Nat) (u5 u6 : Int) (u7i u7o u7n u8i u8o u8n : Nat) (G : GH) : L48 M C u1 u2 u3 u4i u4o u4n u5 u6 u7i u7o u7n u8i u8o u8n G = (bif decide (u6 < u5) then guardK (decide (0 ≤ u6 ∧ u6 < ((u4n : Nat) : Int))) (((G.ld u4i ((u4o + Int.toNat u6 * 2) + 0)).bind (Cell.asI .i64)).bind fun q6 => ((G.ld u4i ((u4o + Int.toNat u6 * 2) + 1)).bind (Cell.asS 1)).bind fun q7 => (binD .shr .i64 u1 (IntKind.u64.wrap u6)).bind fun q8 => (binD .shr .i64 u3 (IntKind.u64.wrap u6)).bind fun q9 => (C tree_Set.id [.agg [.int .i64 q6, .sl 1 q7.1 q7.2.1 q7.2.2], .c (.int .i64 q8), .c (.int .i64 (IntKind.i64.wrap ((IntKind.i64.wrap (q9 - q8)) + 1))), .c (.bool u2)] G).bind fun q10 => ((q10.1[0]?).bind V1.a?).bind fun q11 => if q11.length = 2 then (((q11[0]?).bind (Cell.asI .i64)).bind fun q12 => ((q11[1]?).bind (Cell.asS 1)).bind fun q13 => let q14 := q10.2.alloc (.row [.int .i64 q8, .int .i64 q9] false); L35 M C u1 u2 u3 u6 u4i u4o u4n u5 u6 q10.2.next 0 2 2 0 u7i u7o u7n u8i u8o u8n q12 q13.1 q13.2.1 q13.2.2 q14) else none) else some ([.agg [.sl 2 u8i u8o u8n]], G)) := (M.hs _ _ _ _ _ _ _).trans (by kernel_rfl)
theorem L35_eq (u1 : Int) (u2 : Bool) (u3 u4 : Int) (u5i u5o u5n : Nat) (u6 u7 : Int) (u8i u8o u8n : Nat) (u9 u10 : Int) (u11i u11o u11n u12i u12o u12n : Nat) (u13 : Int) (u14i u14o u14n : Nat) (G : GH) : L35 M C u1 u2 u3 u4 u5i u5o u5n u6 u7 u8i u8o u8n u9 u10 u11i u11o u11n u12i u12o u12n u13 u14i u14o u14n G = (bif decide (u10 < u9) then guardK (decide (0 ≤ u10 ∧ u10 < ((u8n : Nat) : Int))) (((G.ld u8i (u8o + Int.toNat u10 * 1)).bind (Cell.asI .i64)).bind fun q15 => bif decide (u4 > 0) then J27 M C u1 u2 u3 u4 q15 u5i u5o u5n u6 u7 u8i u8o u8n u9 u10 (!u2) u11i u11o u11n u12i u12o u12n u13 u14i u14o u14n G else J27 M C u1 u2 u3 u4 q15 u5i u5o u5n u6 u7 u8i u8o u8n u9 u10 false u11i u11o u11n u12i u12o u12n u13 u14i u14o u14n G) else guardK (decide (0 ≤ u4 ∧ u4 < ((u12n : Nat) : Int))) ((G.sts u12i (u12o + Int.toNat u4 * 2) [.int .i64 u13, .sl 1 u14i u14o u14n]).bind fun q16 => L48 M C u1 u2 u3 u5i u5o u5n u6 (IntKind.i64.wrap (u7 + 1)) u11i u11o u11n u12i u12o u12n q16)) := (M.hs _ _ _ _ _ _ _).trans (by kernel_rfl)
theorem J27_eq (u1 : Int) (u2 : Bool) (u3 u4 u5 : Int) (u6i u6o u6n : Nat) (u7 u8 : Int) (u9i u9o u9n : Nat) (u10 u11 : Int) (u12 : Bool) (u13i u13o u13n u14i u14o u14n : Nat) (u15 : Int) (u16i u16o u16n : Nat) (G : GH) : J27 M C u1 u2 u3 u4 u5 u6i u6o u6n u7 u8 u9i u9o u9n u10 u11 u12 u13i u13o u13n u14i u14o u14n u15 u16i u16o u16n G = (bif u12 then guardK (decide (0 ≤ IntKind.i64.wrap (u4 - 1) ∧ IntKind.i64.wrap (u4 - 1) < ((u14n : Nat) : Int))) (((G.ld u14i ((u14o + Int.toNat (IntKind.i64.wrap (u4 - 1)) * 2) + 0)).bind (Cell.asI .i64)).bind fun q17 => ((G.ld u14i ((u14o + Int.toNat (IntKind.i64.wrap (u4 - 1)) * 2) + 1)).bind (Cell.asS 1)).bind fun q18 => (C slots_taken.id [.agg [.int .i64 q17, .sl 1 q18.1 q18.2.1 q18.2.2], .c (.int .i64 u5)] G).bind fun q19 => (((q19.1[0]?).bind V1.c?).bind Cell.asB).bind fun q20 => (C tree_Set.id [.agg [.int .i64 u15, .sl 1 u16i u16o u16n], .c (.int .i64 u5), .c (.int .i64 1), .c (.bool q20)] q19.2).bind fun q21 => ((q21.1[0]?).bind V1.a?).bind fun q22 => if q22.length = 2 then (((q22[0]?).bind (Cell.asI .i64)).bind fun q23 => ((q22[1]?).bind (Cell.asS 1)).bind fun q24 => J31 M C u1 u2 u3 u4 u6i u6o u6n u7 u8 u9i u9o u9n u10 u11 u13i u13o u13n u14i u14o u14n q23 q24.1 q24.2.1 q24.2.2 q21.2) else none) else J31 M C u1 u2 u3 u4 u6i u6o u6n u7 u8 u9i u9o u9n u10 u11 u13i u13o u13n u14i u14o u14n u15 u16i u16o u16n G) := (M.hj _ _ _).trans (by kernel_rfl)
theorem J31_eq (u1 : Int) (u2 : Bool) (u3 u4 : Int) (u5i u5o u5n : Nat) (u6 u7 : Int) (u8i u8o u8n : Nat) (u9 u10 : Int) (u11i u11o u11n u12i u12o u12n : Nat) (u13 : Int) (u14i u14o u14n : Nat) (G : GH) : J31 M C u1 u2 u3 u4 u5i u5o u5n u6 u7 u8i u8o u8n u9 u10 u11i u11o u11n u12i u12o u12n u13 u14i u14o u14n G = (L35 M C u1 u2 u3 u4 u5i u5o u5n u6 u7 u8i u8o u8n u9 (IntKind.i64.wrap (u10 + 1)) u11i u11o u11n u12i u12o u12n u13 u14i u14o u14n G) := (M.hj _ _ _).trans (by kernel_rfl)
def f (u1i u1o u1n : Nat) (u2 u3 : Int) (u4 : Bool) (G : GH) : Option Res := (C slots_twin.id [.agg [.sl 2 u1i u1o u1n]] G).bind fun q1 => ((q1.1[0]?).bind V1.a?).bind fun q2 => if q2.length = 1 then (((q2[0]?).bind (Cell.asS 2)).bind fun q3 => bif decide (((q3.2.2 : Nat) : Int) = 0) then J7 M C u2 u3 u4 true 0 0 0 q3.1 q3.2.1 q3.2.2 q1.2 else bif decide (u2 < 0) then J7 M C u2 u3 u4 true 0 0 0 q3.1 q3.2.1 q3.2.2 q1.2 else bif decide (u3 < 1) then J7 M C u2 u3 u4 true 0 0 0 q3.1 q3.2.1 q3.2.2 q1.2 else guardK (decide (0 ≤ (0 : Int) ∧ (0 : Int) < ((q3.2.2 : Nat) : Int))) (((q1.2.ld q3.1 ((q3.2.1 + Int.toNat 0 * 2) + 0)).bind (Cell.asI .i64)).bind fun q4 => J7 M C u2 u3 u4 (decide (u2 ≥ q4)) 0 0 0 q3.1 q3.2.1 q3.2.2 q1.2)) else none
theorem eq (u1i u1o u1n : Nat) (u2 u3 : Int) (u4 : Bool) (G : GH) : runF M C d [.agg [.sl 2 u1i u1o u1n], .c (.int .i64 u2), .c (.int .i64 u3), .c (.bool u4)] G = f M C u1i u1o u1n u2 u3 u4 G := by kernel_rfl
end slots_Use
namespace hodmantop_TopWild
def c22 : DCode := (.cond (.t 36) (.seq (.region [oP 0 4 (.move (.k (.c (.bool false))))]) .ret) .skip)
def c43 : DCode := (.cond (.t 77) (.seq (.region [oP 0 4 (.move (.k (.c (.bool false))))]) .ret) .skip)
def c47 : DCode := (.region [mV 0 43 9,
 oP 1 44 (.bin .add .i64 (.t 43) (.k (.c (.int .i64 1)))),
 mV 2 9 44])
def c49 : DCode := (.seq (.seq (.region [mV 0 39 9,
 mV 1 40 1,
 oP 2 41 (.len (.t 40)),
 oP 3 42 (.cmp .lss .i64 (.t 39) (.t 41))]) (.cond (.t 42) .skip (.exit 0))) (.seq (.block 1 (.seq (.region [mV 0 45 5,
 mV 1 46 1,
 mV 2 47 9,
 oP 3 48 (.iaddr (.t 46) (.t 47) 6),
 oP 4 49 (.ldG 48 (.agg [.int .i64, .int .i64, .int .i64, .int .i64, .int .i64, .int .u8])),
 oP 5 50 (.call 13 [.t 45, .t 49] [.agg [.int .i64, .int .i64, .int .i64, .int .u8, .int .i64, .int .i64, .int .i64, .int .i64]]),
 oP 6 10 (.boxz 120 [51, 55, 60, 67, 72] [.int .i64 0, .int .i64 0, .int .i64 0, .int .u8 0, .int .i64 0, .int .i64 0, .int .i64 0, .int .i64 0]),
 ⟨7, none, .stL 10 120 (.t 50) 8, none⟩]) (.seq (.region [oP 0 51 (.faddr 10 0),
 oP 1 52 (.ldL 51 120 (.c (.int .i64))),
 oP 2 53 (.cmp .eql .i64 (.t 52) (.k (.c (.int .i64 7)))),
 mV 3 54 53,
 ⟨4, some 55, .faddr 10 0, some (54, false)⟩,
 ⟨5, some 56, .ldL 55 120 (.c (.int .i64)), some (54, false)⟩,
 ⟨6, some 57, .cmp .neq .i64 (.t 56) (.k (.c (.int .i64 0))), some (54, false)⟩,
 ⟨7, some 58, .move (.t 57), some (54, false)⟩,
 ⟨8, some 59, .ldL 10 120 (.agg [.int .i64, .int .i64, .int .i64, .int .u8, .int .i64, .int .i64, .int .i64, .int .i64]), some (58, true)⟩,
 ⟨9, some 60, .faddr 10 0, some (58, true)⟩,
 ⟨10, some 61, .ldL 60 120 (.c (.int .i64)), some (58, true)⟩,
 ⟨11, some 62, .build [.int .i64 0, .int .i64 0, .int .i64 0, .int .u8 0, .int .i64 0, .int .i64 0, .int .i64 0, .int .i64 0] [(0, 1, .t 61)], some (58, true)⟩,
 ⟨12, some 63, .aeq true [.int .i64, .int .i64, .int .i64, .int .u8, .int .i64, .int .i64, .int .i64, .int .i64] (.t 59) (.t 62), some (58, true)⟩,
 ⟨13, some 64, .pick (.t 58) (.t 63) (.k (.c (.bool false))), some (54, false)⟩,
 oP 14 65 (.pick (.t 54) (.k (.c (.bool true))) (.t 64)),
 mV 15 66 65,
 ⟨16, some 67, .faddr 10 1, some (66, false)⟩,
 ⟨17, some 68, .ldL 67 120 (.c (.int .i64)), some (66, false)⟩,
 ⟨18, some 69, .cmp .lss .i64 (.t 68) (.k (.c (.int .i64 0))), some (66, false)⟩,
 oP 19 70 (.pick (.t 66) (.k (.c (.bool true))) (.t 69)),
 mV 20 71 70,
 ⟨21, some 72, .faddr 10 1, some (71, false)⟩,
 ⟨22, some 73, .ldL 72 120 (.c (.int .i64)), some (71, false)⟩,
 ⟨23, some 74, .faddr 7 6, some (71, false)⟩,
 ⟨24, some 75, .ldL 74 119 (.c (.int .i64)), some (71, false)⟩,
 ⟨25, some 76, .cmp .gtr .i64 (.t 73) (.t 75), some (71, false)⟩,
 oP 26 77 (.pick (.t 71) (.k (.c (.bool true))) (.t 76))]) (.cut [1, 5, 7, 9, 77, 119] c43)))) c47))
def c50 : DCode := (.loop [1, 5, 7, 9, 119] c49)
def c57 : DCode := (.seq (.region [mV 0 78 5,
 oP 1 79 (.build [.int .i64 0, .int .i64 0, .int .i64 0, .int .i64 0, .int .i64 0, .int .u8 0] [(0, 1, .k (.c (.int .i64 10)))]),
 oP 2 80 (.call 13 [.t 78, .t 79] [.agg [.int .i64, .int .i64, .int .i64, .int .u8, .int .i64, .int .i64, .int .i64, .int .i64]]),
 oP 3 11 (.boxz 121 [81, 85, 87, 92, 99, 106] [.int .i64 0, .int .i64 0, .int .i64 0, .int .u8 0, .int .i64 0, .int .i64 0, .int .i64 0, .int .i64 0]),
 ⟨4, none, .stL 11 121 (.t 80) 8, none⟩]) (.seq (.region [oP 0 81 (.faddr 11 0),
 oP 1 82 (.ldL 81 121 (.c (.int .i64))),
 oP 2 83 (.cmp .eql .i64 (.t 82) (.k (.c (.int .i64 0)))),
 mV 3 84 83,
 ⟨4, some 85, .faddr 11 4, some (84, true)⟩,
 ⟨5, some 86, .ldL 85 121 (.c (.int .i64)), some (84, true)⟩,
 ⟨6, some 87, .faddr 11 5, some (84, true)⟩,
 ⟨7, some 88, .ldL 87 121 (.c (.int .i64)), some (84, true)⟩,
 ⟨8, some 89, .cmp .leq .i64 (.t 86) (.t 88), some (84, true)⟩,
 oP 9 90 (.pick (.t 84) (.t 89) (.k (.c (.bool false)))),
 mV 10 91 90,
 ⟨11, some 92, .faddr 11 5, some (91, true)⟩,
 ⟨12, some 93, .ldL 92 121 (.c (.int .i64)), some (91, true)⟩,
 ⟨13, some 94, .faddr 7 2, some (91, true)⟩,
 ⟨14, some 95, .ldL 94 119 (.c (.int .i64)), some (91, true)⟩,
 ⟨15, some 96, .cmp .leq .i64 (.t 93) (.t 95), some (91, true)⟩,
 oP 16 97 (.pick (.t 91) (.t 96) (.k (.c (.bool false)))),
 mV 17 98 97,
 ⟨18, some 99, .faddr 11 6, some (98, true)⟩,
 ⟨19, some 100, .ldL 99 121 (.c (.int .i64)), some (98, true)⟩,
 ⟨20, some 101, .faddr 7 6, some (98, true)⟩,
 ⟨21, some 102, .ldL 101 119 (.c (.int .i64)), some (98, true)⟩,
 ⟨22, some 103, .cmp .leq .i64 (.t 100) (.t 102), some (98, true)⟩,
 oP 23 104 (.pick (.t 98) (.t 103) (.k (.c (.bool false)))),
 mV 24 105 104,
 ⟨25, some 106, .faddr 11 7, some (105, true)⟩,
 ⟨26, some 107, .ldL 106 121 (.c (.int .i64)), some (105, true)⟩,
 ⟨27, some 108, .faddr 7 5, some (105, true)⟩,
 ⟨28, some 109, .ldL 108 119 (.c (.int .i64)), some (105, true)⟩,
 ⟨29, some 110, .cmp .leq .i64 (.t 107) (.t 109), some (105, true)⟩,
 oP 30 111 (.pick (.t 105) (.t 110) (.k (.c (.bool false)))),
 mV 31 112 111,
 ⟨32, some 113, .ldL 7 119 (.agg (iS 8)), some (112, true)⟩,
 ⟨33, some 114, .move (.t 5), some (112, true)⟩,
 ⟨34, some 115, .call 17 [.t 114] [.c (.sl 3)], some (112, true)⟩,
 ⟨35, some 116, .call 16 [.t 113, .t 115] [.c (.bool)], some (112, true)⟩,
 oP 36 117 (.pick (.t 112) (.t 116) (.k (.c (.bool false)))),
 mV 37 4 117]) .ret))
def c59 : DCode := (.seq (.seq (.region [mV 0 37 5,
 oP 1 38 (.pnil false (.t 37))]) (.cond (.t 38) (.seq (.region [oP 0 4 (.move (.k (.c (.bool true))))]) .ret) .skip)) (.seq (.seq (.region [oP 0 9 (.move (.k (.c (.int .i64 0))))]) (.block 0 c50)) c57))
def d : DFn := { ntmps := 122, res := [.t 4], body := (.seq (.region [oP 0 2 (.boxv 118 [] (.t 0) 6),
 oP 1 4 (.move (.k (.c (.bool false))))]) (.seq (.seq (.region [oP 0 12 (.call 6 [] [.c (.bool)]),
 oP 1 13 (.not (.t 12))]) (.cond (.t 13) (.seq (.region [oP 0 4 (.move (.k (.c (.bool false))))]) .ret) .skip)) (.seq (.seq (.region [mV 0 14 1,
 oP 1 15 (.len (.t 14)),
 oP 2 16 (.cmp .gtr .i64 (.t 15) (.k (.c (.int .i64 20))))]) (.cond (.t 16) (.seq (.region [oP 0 4 (.move (.k (.c (.bool true))))]) .ret) .skip)) (.seq (.region [oP 0 18 (.ldL 2 118 (.agg (iS 6))),
 oP 1 19 (.call 9 [.t 18] [.c (.ptr), .c (.int .i64)]),
 mV 2 17 19,
 oP 3 20 (.ext 17 0),
 oP 4 21 (.ext 17 1),
 mV 5 5 20,
 mV 6 6 21]) (.seq (.region [oP 0 23 (.ldL 2 118 (.agg (iS 6))),
 oP 1 24 (.call 15 [.t 23] [.agg (iS 8), .c (.int .i64)]),
 mV 2 22 24,
 oP 3 25 (.ext 22 0),
 oP 4 26 (.ext 22 1),
 oP 5 7 (.boxz 119 [74, 94, 101, 108] [.int .i64 0, .int .i64 0, .int .i64 0, .int .i64 0, .int .i64 0, .int .i64 0, .int .i64 0, .int .i64 0]),
 ⟨6, none, .stL 7 119 (.t 25) 8, none⟩,
 mV 7 8 26]) (.seq (.seq (.region [mV 0 27 6,
 mV 1 28 8,
 oP 2 29 (.cmp .neq .i64 (.t 27) (.t 28)),
 mV 3 30 29,
 ⟨4, some 31, .move (.t 5), some (30, false)⟩,
 ⟨5, some 32, .pnil false (.t 31), some (30, false)⟩,
 ⟨6, some 33, .move (.t 8), some (30, false)⟩,
 ⟨7, some 34, .cmp .neq .i64 (.t 33) (.k (.c (.int .i64 0))), some (30, false)⟩,
 ⟨8, some 35, .beq true (.t 32) (.t 34), some (30, false)⟩,
 oP 9 36 (.pick (.t 30) (.k (.c (.bool true))) (.t 35))]) (.cut [1, 5, 7, 36, 119] c22)) c59)))))) }
def k59 : Kont := execC M.j C (M.ag C) c59 ({ exits := [], ret := retK d } : Env) (retK d)
def J22 (u1i u1o u1n u2i u2o : Nat) (u3 : Bool) (u4 u5 u6 u7 u8 u9 u10 u11 : Int) (G : GH) : Option Res := M.j (execC M.j C (M.ag C) c22 ({ exits := [], ret := retK d } : Env) (k59 M C)) (uS 1 (.v (.c (.sl 6 u1i u1o u1n)) :: (uS 3 (.v (.c (.ptr u2i u2o)) :: (uS 1 (.ref 119 0 :: (uS 28 (.v (.c (.bool u3)) :: (uS 82 (.box [.int .i64 u4, .int .i64 u5, .int .i64 u6, .int .i64 u7, .int .i64 u8, .int .i64 u9, .int .i64 u10, .int .i64 u11] :: (uS 2 []))))))))))) G
def k57 : Kont := execC M.j C (M.ag C) c57 ({ exits := [], ret := retK d } : Env) (retK d)
def e51 : Env := { exits := (0, (k57 M C)) :: (({ exits := [], ret := retK d } : Env)).exits, ret := (({ exits := [], ret := retK d } : Env)).ret }
def L50 (u1i u1o u1n u2i u2o : Nat) (u3 u4 u5 u6 u7 u8 u9 u10 u11 : Int) (G : GH) : Option Res := M.ag C [1, 5, 7, 9, 119] c49 (e51 M C) (k57 M C) (uS 1 (.v (.c (.sl 6 u1i u1o u1n)) :: (uS 3 (.v (.c (.ptr u2i u2o)) :: (uS 1 (.ref 119 0 :: (uS 1 (.v (.c (.int .i64 u3)) :: (uS 109 (.box [.int .i64 u4, .int .i64 u5, .int .i64 u6, .int .i64 u7, .int .i64 u8, .int .i64 u9, .int .i64 u10, .int .i64 u11] :: (uS 2 []))))))))))) G
def k50 : Kont := fun tm G => M.ag C [1, 5, 7, 9, 119] c49 (e51 M C) (k57 M C) (restr [1, 5, 7, 9, 119] 0 tm) G
def k47 : Kont := execC M.j C (M.ag C) c47 (e51 M C) (k50 M C)
def e46 : Env := { exits := (1, (k47 M C)) :: ((e51 M C)).exits, ret := ((e51 M C)).ret }
def J43 (u1i u1o u1n u2i u2o : Nat) (u3 : Int) (u4 : Bool) (u5 u6 u7 u8 u9 u10 u11 u12 : Int) (G : GH) : Option Res := M.j (execC M.j C (M.ag C) c43 (e46 M C) (k47 M C)) (uS 1 (.v (.c (.sl 6 u1i u1o u1n)) :: (uS 3 (.v (.c (.ptr u2i u2o)) :: (uS 1 (.ref 119 0 :: (uS 1 (.v (.c (.int .i64 u3)) :: (uS 67 (.v (.c (.bool u4)) :: (uS 41 (.box [.int .i64 u5, .int .i64 u6, .int .i64 u7, .int .i64 u8, .int .i64 u9, .int .i64 u10, .int .i64 u11, .int .i64 u12] :: (uS 2 []))))))))))))) G
theorem J22_eq (u1i u1o u1n u2i u2o : Nat) (u3 : Bool) (u4 u5 u6 u7 u8 u9 u10 u11 : Int) (G : GH) : J22 M C u1i u1o u1n u2i u2o u3 u4 u5 u6 u7 u8 u9 u10 u11 G = (bif u3 then some ([.c (.bool false)], G) else bif Bool.xor false (Nat.beq u2i 0) then some ([.c (.bool true)], G) else L50 M C u1i u1o u1n u2i u2o 0 u4 u5 u6 u7 u8 u9 u10 u11 G) := (M.hj _ _ _).trans (by kernel_rfl)
theorem L50_eq (u1i u1o u1n u2i u2o : Nat) (u3 u4 u5 u6 u7 u8 u9 u10 u11 : Int) (G : GH) : L50 M C u1i u1o u1n u2i u2o u3 u4 u5 u6 u7 u8 u9 u10 u11 G = (bif decide (u3 < ((u1n : Nat) : Int)) then guardK (decide (0 ≤ u3 ∧ u3 < ((u1n : Nat) : Int))) (((G.ld u1i ((u1o + Int.toNat u3 * 6) + 0)).bind (Cell.asI .i64)).bind fun q17 => ((G.ld u1i ((u1o + Int.toNat u3 * 6) + 1)).bind (Cell.asI .i64)).bind fun q18 => ((G.ld u1i ((u1o + Int.toNat u3 * 6) + 2)).bind (Cell.asI .i64)).bind fun q19 => ((G.ld u1i ((u1o + Int.toNat u3 * 6) + 3)).bind (Cell.asI .i64)).bind fun q20 => ((G.ld u1i ((u1o + Int.toNat u3 * 6) + 4)).bind (Cell.asI .i64)).bind fun q21 => ((G.ld u1i ((u1o + Int.toNat u3 * 6) + 5)).bind (Cell.asI .u8)).bind fun q22 => (C heap_Heap_Do.id [.c (.ptr u2i u2o), .agg [.int .i64 q17, .int .i64 q18, .int .i64 q19, .int .i64 q20, .int .i64 q21, .int .u8 q22]] G).bind fun q23 => ((q23.1[0]?).bind V1.a?).bind fun q24 => if q24.length = 8 then (((q24[0]?).bind (Cell.asI .i64)).bind fun q25 => ((q24[1]?).bind (Cell.asI .i64)).bind fun q26 => ((q24[2]?).bind (Cell.asI .i64)).bind fun q27 => ((q24[3]?).bind (Cell.asI .u8)).bind fun q28 => ((q24[4]?).bind (Cell.asI .i64)).bind fun q29 => ((q24[5]?).bind (Cell.asI .i64)).bind fun q30 => ((q24[6]?).bind (Cell.asI .i64)).bind fun q31 => ((q24[7]?).bind (Cell.asI .i64)).bind fun q32 => bif decide (q25 = 7) then J43 M C u1i u1o u1n u2i u2o u3 true u4 u5 u6 u7 u8 u9 u10 u11 q23.2 else bif (!decide (q25 = 0)) then bif Bool.xor true (decide (q25 = q25) && (decide (q26 = 0) && (decide (q27 = 0) && (decide (q28 = 0) && (decide (q29 = 0) && (decide (q30 = 0) && (decide (q31 = 0) && (decide (q32 = 0) && true)))))))) then J43 M C u1i u1o u1n u2i u2o u3 true u4 u5 u6 u7 u8 u9 u10 u11 q23.2 else bif decide (q26 < 0) then J43 M C u1i u1o u1n u2i u2o u3 true u4 u5 u6 u7 u8 u9 u10 u11 q23.2 else J43 M C u1i u1o u1n u2i u2o u3 (decide (q26 > u10)) u4 u5 u6 u7 u8 u9 u10 u11 q23.2 else bif decide (q26 < 0) then J43 M C u1i u1o u1n u2i u2o u3 true u4 u5 u6 u7 u8 u9 u10 u11 q23.2 else J43 M C u1i u1o u1n u2i u2o u3 (decide (q26 > u10)) u4 u5 u6 u7 u8 u9 u10 u11 q23.2) else none) else (C heap_Heap_Do.id [.c (.ptr u2i u2o), .agg [.int .i64 10, .int .i64 0, .int .i64 0, .int .i64 0, .int .i64 0, .int .u8 0]] G).bind fun q33 => ((q33.1[0]?).bind V1.a?).bind fun q34 => if q34.length = 8 then (((q34[0]?).bind (Cell.asI .i64)).bind fun q35 => ((q34[1]?).bind (Cell.asI .i64)).bind fun q36 => ((q34[2]?).bind (Cell.asI .i64)).bind fun q37 => ((q34[3]?).bind (Cell.asI .u8)).bind fun q38 => ((q34[4]?).bind (Cell.asI .i64)).bind fun q39 => ((q34[5]?).bind (Cell.asI .i64)).bind fun q40 => ((q34[6]?).bind (Cell.asI .i64)).bind fun q41 => ((q34[7]?).bind (Cell.asI .i64)).bind fun q42 => bif decide (q35 = 0) then bif decide (q39 ≤ q40) then bif decide (q40 ≤ u6) then bif decide (q41 ≤ u10) then bif decide (q42 ≤ u9) then (C heap_Heap_Blocks.id [.c (.ptr u2i u2o)] q33.2).bind fun q43 => (((q43.1[0]?).bind V1.c?).bind (Cell.asS 3)).bind fun q44 => (C ceil_Within.id [.agg [.int .i64 u4, .int .i64 u5, .int .i64 u6, .int .i64 u7, .int .i64 u8, .int .i64 u9, .int .i64 u10, .int .i64 u11], .c (.sl 3 q44.1 q44.2.1 q44.2.2)] q43.2).bind fun q45 => (((q45.1[0]?).bind V1.c?).bind Cell.asB).bind fun q46 => some ([.c (.bool q46)], q45.2) else some ([.c (.bool false)], q33.2) else some ([.c (.bool false)], q33.2) else some ([.c (.bool false)], q33.2) else some ([.c (.bool false)], q33.2) else some ([.c (.bool false)], q33.2)) else none) := (M.hs _ _ _ _ _ _ _).trans (by kernel_rfl)
theorem J43_eq (u1i u1o u1n u2i u2o : Nat) (u3 : Int) (u4 : Bool) (u5 u6 u7 u8 u9 u10 u11 u12 : Int) (G : GH) : J43 M C u1i u1o u1n u2i u2o u3 u4 u5 u6 u7 u8 u9 u10 u11 u12 G = (bif u4 then some ([.c (.bool false)], G) else L50 M C u1i u1o u1n u2i u2o (IntKind.i64.wrap (u3 + 1)) u5 u6 u7 u8 u9 u10 u11 u12 G) := (M.hj _ _ _).trans (by kernel_rfl)
def f (u1 u2 u3 u4 u5 u6 : Int) (u7i u7o u7n : Nat) (G : GH) : Option Res := (C hodmantop_begun.id [] G).bind fun q1 => (((q1.1[0]?).bind V1.c?).bind Cell.asB).bind fun q2 => bif (!q2) then some ([.c (.bool false)], q1.2) else bif decide (((u7n : Nat) : Int) > 20) then some ([.c (.bool true)], q1.2) else (C heap_New.id [.agg [.int .i64 u1, .int .i64 u2, .int .i64 u3, .int .i64 u4, .int .i64 u5, .int .i64 u6]] q1.2).bind fun q3 => (((q3.1[0]?).bind V1.c?).bind Cell.asP).bind fun q4 => (((q3.1[1]?).bind V1.c?).bind (Cell.asI .i64)).bind fun q5 => (C conf_Of.id [.agg [.int .i64 u1, .int .i64 u2, .int .i64 u3, .int .i64 u4, .int .i64 u5, .int .i64 u6]] q3.2).bind fun q6 => ((q6.1[0]?).bind V1.a?).bind fun q7 => if q7.length = 8 then (((q7[0]?).bind (Cell.asI .i64)).bind fun q8 => ((q7[1]?).bind (Cell.asI .i64)).bind fun q9 => ((q7[2]?).bind (Cell.asI .i64)).bind fun q10 => ((q7[3]?).bind (Cell.asI .i64)).bind fun q11 => ((q7[4]?).bind (Cell.asI .i64)).bind fun q12 => ((q7[5]?).bind (Cell.asI .i64)).bind fun q13 => ((q7[6]?).bind (Cell.asI .i64)).bind fun q14 => ((q7[7]?).bind (Cell.asI .i64)).bind fun q15 => (((q6.1[1]?).bind V1.c?).bind (Cell.asI .i64)).bind fun q16 => bif (!decide (q5 = q16)) then J22 M C u7i u7o u7n q4.1 q4.2 true q8 q9 q10 q11 q12 q13 q14 q15 q6.2 else J22 M C u7i u7o u7n q4.1 q4.2 (Bool.xor true ((Bool.xor false (Nat.beq q4.1 0)) == (!decide (q16 = 0)))) q8 q9 q10 q11 q12 q13 q14 q15 q6.2) else none
theorem eq (u1 u2 u3 u4 u5 u6 : Int) (u7i u7o u7n : Nat) (G : GH) : runF M C d [.agg [.int .i64 u1, .int .i64 u2, .int .i64 u3, .int .i64 u4, .int .i64 u5, .int .i64 u6], .c (.sl 6 u7i u7o u7n)] G = f M C u1 u2 u3 u4 u5 u6 u7i u7o u7n G := by kernel_rfl
end hodmantop_TopWild
namespace heap_Heap_puts
def c37 : DCode := (.seq (.region [oP 0 84 (.cmp .lss .i64 (.t 83) (.t 82))]) (.seq (.cond (.t 84) .skip (.exit 2)) (.seq (.block 3 (.seq (.region [mV 0 85 83,
 mV 1 19 85]) (.region [mV 0 86 0,
 oP 1 87 (.nilck (.t 86)),
 oP 2 88 (.faddr 87 17),
 oP 3 89 (.ldG 88 (.c (.sl 1))),
 mV 4 90 18,
 mV 5 91 0,
 oP 6 92 (.nilck (.t 91)),
 oP 7 93 (.faddr 92 0),
 oP 8 94 (.faddr 93 4),
 oP 9 95 (.ldG 94 (.c (.int .i64))),
 oP 10 96 (.bin .mul .i64 (.t 90) (.t 95)),
 mV 11 97 19,
 oP 12 98 (.bin .add .i64 (.t 96) (.t 97)),
 mV 13 99 0,
 oP 14 100 (.nilck (.t 99)),
 oP 15 101 (.faddr 100 0),
 oP 16 102 (.faddr 101 7),
 oP 17 103 (.ldG 102 (.c (.int .i64))),
 mV 18 104 18,
 mV 19 105 19,
 oP 20 106 (.call 76 [.t 103, .t 104, .t 105] [.c (.int .u8)]),
 ⟨9999, none, .reG 89 88 (.c (.sl 1)), none⟩,
 ⟨9999, none, .reG 95 94 (.c (.int .i64)), none⟩,
 oP 21 107 (.iaddr (.t 89) (.t 98) 1),
 ⟨22, none, .stG 107 (.t 106) 1, none⟩]))) (.region [oP 0 108 (.bin .add .i64 (.t 83) (.k (.c (.int .i64 1)))),
 mV 1 83 108]))))
def c43 : DCode := (.region [oP 0 109 (.bin .add .i64 (.t 74) (.k (.c (.int .i64 1)))),
 mV 1 74 109])
def c46 : DCode := (.seq (.region [oP 0 75 (.cmp .lss .i64 (.t 74) (.t 73))]) (.seq (.cond (.t 75) .skip (.exit 0)) (.seq (.block 1 (.seq (.region [oP 0 76 (.iaddr (.t 72) (.t 74) 1),
 oP 1 77 (.ldG 76 (.c (.int .i64))),
 mV 2 18 77]) (.seq (.region [mV 0 78 0,
 oP 1 79 (.nilck (.t 78)),
 oP 2 80 (.faddr 79 0),
 oP 3 81 (.faddr 80 4),
 oP 4 82 (.ldG 81 (.c (.int .i64))),
 oP 5 83 (.move (.k (.c (.int .i64 0))))]) (.block 2 (.loop [0, 1, 2, 10, 11, 15, 18, 72, 73, 74, 82, 83, 145] c37))))) c43)))
def c47 : DCode := (.loop [0, 1, 2, 10, 11, 15, 72, 73, 74, 145] c46)
def c58 : DCode := (.seq (.region [mV 0 110 0,
 mV 1 111 15,
 oP 2 112 (.nilck (.t 110)),
 oP 3 113 (.faddr 112 16),
 ⟨4, none, .stG 113 (.t 111) 1, none⟩]) (.seq (.region [mV 0 114 0,
 mV 1 115 11,
 mV 2 116 1,
 mV 3 117 2,
 oP 4 118 (.build [.int .i64 0, .int .i64 0, .int .i64 0] [(0, 1, .t 115), (1, 1, .t 116), (2, 1, .t 117)]),
 oP 5 119 (.ldL 10 145 (.agg [.int .i64, .sl 2, .sl 2])),
 oP 6 120 (.call 65 [.t 114, .t 118, .t 119] [])]) (.seq (.region [mV 0 121 0,
 mV 1 122 0,
 mV 2 123 0,
 oP 3 124 (.nilck (.t 123)),
 oP 4 125 (.faddr 124 13),
 oP 5 126 (.ldG 125 (.c (.int .i64))),
 mV 6 127 0,
 oP 7 128 (.nilck (.t 127)),
 oP 8 129 (.faddr 128 12),
 oP 9 130 (.ldG 129 (.c (.int .i64))),
 oP 10 131 (.mx (.t 126) [.t 130]),
 mV 11 132 0,
 oP 12 133 (.nilck (.t 132)),
 oP 13 134 (.faddr 133 14),
 oP 14 135 (.ldG 134 (.c (.int .i64))),
 mV 15 136 11,
 mV 16 137 1,
 oP 17 138 (.bin .add .i64 (.t 136) (.t 137)),
 oP 18 139 (.mx (.t 135) [.t 138]),
 oP 19 140 (.nilck (.t 121)),
 oP 20 141 (.faddr 140 13),
 ⟨21, none, .stG 141 (.t 131) 1, none⟩,
 oP 22 142 (.nilck (.t 122)),
 oP 23 143 (.faddr 142 14),
 ⟨24, none, .stG 143 (.t 139) 1, none⟩]) (.seq (.region [mV 0 144 11,
 mV 1 6 144,
 oP 2 7 (.move (.k (.c (.int .i64 0))))]) .ret))))
def d : DFn := { ntmps := 146, res := [.t 6, .t 7], body := (.seq (.region [oP 0 6 (.move (.k (.c (.int .i64 0)))),
 oP 1 7 (.move (.k (.c (.int .i64 0))))]) (.seq (.region [mV 0 21 0,
 oP 1 22 (.nilck (.t 21)),
 oP 2 23 (.faddr 22 0),
 oP 3 24 (.ldG 23 (.agg (iS 8))),
 mV 4 25 1,
 oP 5 26 (.call 72 [.t 24, .t 25] [.c (.int .i64), .c (.bool)]),
 mV 6 20 26,
 oP 7 27 (.ext 20 0),
 oP 8 28 (.ext 20 1),
 mV 9 8 27,
 mV 10 9 28]) (.seq (.region [mV 0 30 0,
 oP 1 31 (.nilck (.t 30)),
 oP 2 32 (.faddr 31 8),
 oP 3 33 (.ldG 32 (.agg [.int .i64, .sl 2, .sl 2])),
 mV 4 34 8,
 oP 5 35 (.call 73 [.t 33, .t 34] [.agg [.int .i64, .sl 2, .sl 2], .c (.int .i64), .c (.bool)]),
 mV 6 29 35,
 oP 7 36 (.ext 29 0),
 oP 8 37 (.ext 29 1),
 oP 9 38 (.ext 29 2),
 oP 10 10 (.boxz 145 [] [.int .i64 0, .sl 2 0 0 0, .sl 2 0 0 0]),
 ⟨11, none, .stL 10 145 (.t 36) 3, none⟩,
 mV 12 11 37,
 mV 13 12 38]) (.seq (.seq (.region [mV 0 39 12,
 oP 1 40 (.not (.t 39))]) (.cond (.t 40) (.seq (.region [oP 0 6 (.move (.k (.c (.int .i64 0)))),
 oP 1 7 (.move (.k (.c (.int .i64 7))))]) .ret) .skip)) (.seq (.region [mV 0 42 0,
 oP 1 43 (.nilck (.t 42)),
 oP 2 44 (.faddr 43 0),
 oP 3 45 (.faddr 44 4),
 oP 4 46 (.ldG 45 (.c (.int .i64))),
 mV 5 47 11,
 mV 6 48 1,
 oP 7 49 (.call 74 [.t 46, .t 47, .t 48] [.c (.int .i64), .c (.int .i64)]),
 mV 8 41 49,
 oP 9 50 (.ext 41 0),
 oP 10 51 (.ext 41 1),
 mV 11 13 50,
 mV 12 14 51]) (.seq (.region [mV 0 53 0,
 oP 1 54 (.nilck (.t 53)),
 oP 2 55 (.faddr 54 16),
 oP 3 56 (.ldG 55 (.c (.sl 1))),
 mV 4 57 0,
 mV 6 59 13,
 mV 7 60 14,
 mV 8 61 0,
 oP 9 62 (.nilck (.t 61)),
 oP 10 63 (.faddr 62 0),
 oP 11 64 (.faddr 63 5),
 oP 12 65 (.ldG 64 (.c (.int .i64))),
 oP 5 58 (.call 31 [.t 57] [.c (.sl 1)]),
 ⟨9999, none, .reG 56 55 (.c (.sl 1)), none⟩,
 ⟨9999, none, .reG 65 64 (.c (.int .i64)), none⟩,
 oP 13 66 (.call 75 [.t 56, .t 58, .t 59, .t 60, .t 65] [.c (.sl 1), .c (.sl 1), .c (.bool)]),
 mV 14 52 66,
 oP 15 67 (.ext 52 0),
 oP 16 68 (.ext 52 1),
 oP 17 69 (.ext 52 2),
 mV 18 15 67,
 mV 19 16 68,
 mV 20 12 69]) (.seq (.seq (.region [mV 0 70 12,
 oP 1 71 (.not (.t 70))]) (.cond (.t 71) (.seq (.region [oP 0 6 (.move (.k (.c (.int .i64 0)))),
 oP 1 7 (.move (.k (.c (.int .i64 6))))]) .ret) .skip)) (.seq (.seq (.region [mV 0 72 16,
 oP 1 73 (.len (.t 72)),
 oP 2 74 (.move (.k (.c (.int .i64 0))))]) (.block 0 c47)) c58)))))))) }
def k58 : Kont := execC M.j C (M.ag C) c58 ({ exits := [], ret := retK d } : Env) (retK d)
def e48 : Env := { exits := (0, (k58 M C)) :: (({ exits := [], ret := retK d } : Env)).exits, ret := (({ exits := [], ret := retK d } : Env)).ret }
def L47 (u1i u1o : Nat) (u2 u3 u4 : Int) (u5i u5o u5n u6i u6o u6n : Nat) (u7 u8 u9 : Int) (u10i u10o u10n u11i u11o u11n : Nat) (G : GH) : Option Res := M.ag C [0, 1, 2, 10, 11, 15, 72, 73, 74, 145] c46 (e48 M C) (k58 M C) (.v (.c (.ptr u1i u1o)) :: (.v (.c (.int .i64 u2)) :: (.v (.c (.int .i64 u3)) :: (uS 7 (.ref 145 0 :: (.v (.c (.int .i64 u4)) :: (uS 3 (.v (.c (.sl 1 u5i u5o u5n)) :: (uS 56 (.v (.c (.sl 1 u6i u6o u6n)) :: (.v (.c (.int .i64 u7)) :: (.v (.c (.int .i64 u8)) :: (uS 70 (.box [.int .i64 u9, .sl 2 u10i u10o u10n, .sl 2 u11i u11o u11n] :: [])))))))))))))) G
def k47 : Kont := fun tm G => M.ag C [0, 1, 2, 10, 11, 15, 72, 73, 74, 145] c46 (e48 M C) (k58 M C) (restr [0, 1, 2, 10, 11, 15, 72, 73, 74, 145] 0 tm) G
def k43 : Kont := execC M.j C (M.ag C) c43 (e48 M C) (k47 M C)
def e42 : Env := { exits := (1, (k43 M C)) :: ((e48 M C)).exits, ret := ((e48 M C)).ret }
def e39 : Env := { exits := (2, (k43 M C)) :: ((e42 M C)).exits, ret := ((e42 M C)).ret }
def L38 (u1i u1o : Nat) (u2 u3 u4 : Int) (u5i u5o u5n : Nat) (u6 : Int) (u7i u7o u7n : Nat) (u8 u9 u10 u11 u12 : Int) (u13i u13o u13n u14i u14o u14n : Nat) (G : GH) : Option Res := M.ag C [0, 1, 2, 10, 11, 15, 18, 72, 73, 74, 82, 83, 145] c37 (e39 M C) (k43 M C) (.v (.c (.ptr u1i u1o)) :: (.v (.c (.int .i64 u2)) :: (.v (.c (.int .i64 u3)) :: (uS 7 (.ref 145 0 :: (.v (.c (.int .i64 u4)) :: (uS 3 (.v (.c (.sl 1 u5i u5o u5n)) :: (uS 2 (.v (.c (.int .i64 u6)) :: (uS 53 (.v (.c (.sl 1 u7i u7o u7n)) :: (.v (.c (.int .i64 u8)) :: (.v (.c (.int .i64 u9)) :: (uS 7 (.v (.c (.int .i64 u10)) :: (.v (.c (.int .i64 u11)) :: (uS 61 (.box [.int .i64 u12, .sl 2 u13i u13o u13n, .sl 2 u14i u14o u14n] :: []))))))))))))))))))) G
theorem L47_eq (u1i u1o : Nat) (u2 u3 u4 : Int) (u5i u5o u5n u6i u6o u6n : Nat) (u7 u8 u9 : Int) (u10i u10o u10n u11i u11o u11n : Nat) (G : GH) : L47 M C u1i u1o u2 u3 u4 u5i u5o u5n u6i u6o u6n u7 u8 u9 u10i u10o u10n u11i u11o u11n G = (bif decide (u8 < u7) then guardK (decide (0 ≤ u8 ∧ u8 < ((u6n : Nat) : Int))) (((G.ld u6i (u6o + Int.toNat u8 * 1)).bind (Cell.asI .i64)).bind fun q36 => guardK (!Nat.beq u1i 0) (((G.ld u1i ((u1o + 0) + 4)).bind (Cell.asI .i64)).bind fun q37 => L38 M C u1i u1o u2 u3 u4 u5i u5o u5n q36 u6i u6o u6n u7 u8 q37 0 u9 u10i u10o u10n u11i u11o u11n G)) else guardK (!Nat.beq u1i 0) ((G.sts u1i (u1o + 16) [.sl 1 u5i u5o u5n]).bind fun q38 => (C heap_Heap_back.id [.c (.ptr u1i u1o), .agg [.int .i64 u4, .int .i64 u2, .int .i64 u3], .agg [.int .i64 u9, .sl 2 u10i u10o u10n, .sl 2 u11i u11o u11n]] q38).bind fun q39 => guardK (!Nat.beq u1i 0) (((q39.2.ld u1i (u1o + 13)).bind (Cell.asI .i64)).bind fun q40 => guardK (!Nat.beq u1i 0) (((q39.2.ld u1i (u1o + 12)).bind (Cell.asI .i64)).bind fun q41 => guardK (!Nat.beq u1i 0) (((q39.2.ld u1i (u1o + 14)).bind (Cell.asI .i64)).bind fun q42 => guardK (!Nat.beq u1i 0) ((q39.2.sts u1i (u1o + 13) [.int .i64 (mx2 q40 q41)]).bind fun q43 => guardK (!Nat.beq u1i 0) ((q43.sts u1i (u1o + 14) [.int .i64 (mx2 q42 (IntKind.i64.wrap (u4 + u2)))]).bind fun q44 => some ([.c (.int .i64 u4), .c (.int .i64 0)], q44)))))))) := (M.hs _ _ _ _ _ _ _).trans (by kernel_rfl)
theorem L38_eq (u1i u1o : Nat) (u2 u3 u4 : Int) (u5i u5o u5n : Nat) (u6 : Int) (u7i u7o u7n : Nat) (u8 u9 u10 u11 u12 : Int) (u13i u13o u13n u14i u14o u14n : Nat) (G : GH) : L38 M C u1i u1o u2 u3 u4 u5i u5o u5n u6 u7i u7o u7n u8 u9 u10 u11 u12 u13i u13o u13n u14i u14o u14n G = (bif decide (u11 < u10) then guardK (!Nat.beq u1i 0) (((G.ld u1i (u1o + 17)).bind (Cell.asS 1)).bind fun q45 => guardK (!Nat.beq u1i 0) (((G.ld u1i ((u1o + 0) + 4)).bind (Cell.asI .i64)).bind fun q46 => guardK (!Nat.beq u1i 0) (((G.ld u1i ((u1o + 0) + 7)).bind (Cell.asI .i64)).bind fun q47 => (C junk_Byte.id [.c (.int .i64 q47), .c (.int .i64 u6), .c (.int .i64 u11)] G).bind fun q48 => (((q48.1[0]?).bind V1.c?).bind (Cell.asI .u8)).bind fun q49 => ((q48.2.ld u1i (u1o + 17)).bind (Cell.asS 1)).bind fun q50 => guardK (decide ((.c (.sl 1 q45.1 q45.2.1 q45.2.2) : V1) = .c (.sl 1 q50.1 q50.2.1 q50.2.2))) (((q48.2.ld u1i ((u1o + 0) + 4)).bind (Cell.asI .i64)).bind fun q51 => guardK (decide ((.c (.int .i64 q46) : V1) = .c (.int .i64 q51))) (guardK (decide (0 ≤ IntKind.i64.wrap ((IntKind.i64.wrap (u6 * q46)) + u11) ∧ IntKind.i64.wrap ((IntKind.i64.wrap (u6 * q46)) + u11) < ((q45.2.2 : Nat) : Int))) ((q48.2.sts q45.1 (q45.2.1 + Int.toNat (IntKind.i64.wrap ((IntKind.i64.wrap (u6 * q46)) + u11)) * 1) [.int .u8 q49]).bind fun q52 => L38 M C u1i u1o u2 u3 u4 u5i u5o u5n u6 u7i u7o u7n u8 u9 u10 (IntKind.i64.wrap (u11 + 1)) u12 u13i u13o u13n u14i u14o u14n q52)))))) else L47 M C u1i u1o u2 u3 u4 u5i u5o u5n u7i u7o u7n u8 (IntKind.i64.wrap (u9 + 1)) u12 u13i u13o u13n u14i u14o u14n G) := (M.hs _ _ _ _ _ _ _).trans (by kernel_rfl)
def f (u1i u1o : Nat) (u2 u3 : Int) (G : GH) : Option Res := guardK (!Nat.beq u1i 0) (((G.ld u1i ((u1o + 0) + 0)).bind (Cell.asI .i64)).bind fun q1 => ((G.ld u1i ((u1o + 0) + 1)).bind (Cell.asI .i64)).bind fun q2 => ((G.ld u1i ((u1o + 0) + 2)).bind (Cell.asI .i64)).bind fun q3 => ((G.ld u1i ((u1o + 0) + 3)).bind (Cell.asI .i64)).bind fun q4 => ((G.ld u1i ((u1o + 0) + 4)).bind (Cell.asI .i64)).bind fun q5 => ((G.ld u1i ((u1o + 0) + 5)).bind (Cell.asI .i64)).bind fun q6 => ((G.ld u1i ((u1o + 0) + 6)).bind (Cell.asI .i64)).bind fun q7 => ((G.ld u1i ((u1o + 0) + 7)).bind (Cell.asI .i64)).bind fun q8 => (C class_Class.id [.agg [.int .i64 q1, .int .i64 q2, .int .i64 q3, .int .i64 q4, .int .i64 q5, .int .i64 q6, .int .i64 q7, .int .i64 q8], .c (.int .i64 u2)] G).bind fun q9 => (((q9.1[0]?).bind V1.c?).bind (Cell.asI .i64)).bind fun q10 => (((q9.1[1]?).bind V1.c?).bind Cell.asB).bind fun q11 => guardK (!Nat.beq u1i 0) (((q9.2.ld u1i ((u1o + 8) + 0)).bind (Cell.asI .i64)).bind fun q12 => ((q9.2.ld u1i ((u1o + 8) + 1)).bind (Cell.asS 2)).bind fun q13 => ((q9.2.ld u1i ((u1o + 8) + 2)).bind (Cell.asS 2)).bind fun q14 => (C place_Place.id [.agg [.int .i64 q12, .sl 2 q13.1 q13.2.1 q13.2.2, .sl 2 q14.1 q14.2.1 q14.2.2], .c (.int .i64 q10)] q9.2).bind fun q15 => ((q15.1[0]?).bind V1.a?).bind fun q16 => if q16.length = 3 then (((q16[0]?).bind (Cell.asI .i64)).bind fun q17 => ((q16[1]?).bind (Cell.asS 2)).bind fun q18 => ((q16[2]?).bind (Cell.asS 2)).bind fun q19 => (((q15.1[1]?).bind V1.c?).bind (Cell.asI .i64)).bind fun q20 => (((q15.1[2]?).bind V1.c?).bind Cell.asB).bind fun q21 => bif (!q21) then some ([.c (.int .i64 0), .c (.int .i64 7)], q15.2) else guardK (!Nat.beq u1i 0) (((q15.2.ld u1i ((u1o + 0) + 4)).bind (Cell.asI .i64)).bind fun q22 => (C pin_Pages.id [.c (.int .i64 q22), .c (.int .i64 q20), .c (.int .i64 u2)] q15.2).bind fun q23 => (((q23.1[0]?).bind V1.c?).bind (Cell.asI .i64)).bind fun q24 => (((q23.1[1]?).bind V1.c?).bind (Cell.asI .i64)).bind fun q25 => guardK (!Nat.beq u1i 0) (((q23.2.ld u1i (u1o + 16)).bind (Cell.asS 1)).bind fun q26 => guardK (!Nat.beq u1i 0) (((q23.2.ld u1i ((u1o + 0) + 5)).bind (Cell.asI .i64)).bind fun q27 => (C heap_Heap_pages.id [.c (.ptr u1i u1o)] q23.2).bind fun q28 => (((q28.1[0]?).bind V1.c?).bind (Cell.asS 1)).bind fun q29 => ((q28.2.ld u1i (u1o + 16)).bind (Cell.asS 1)).bind fun q30 => guardK (decide ((.c (.sl 1 q26.1 q26.2.1 q26.2.2) : V1) = .c (.sl 1 q30.1 q30.2.1 q30.2.2))) (((q28.2.ld u1i ((u1o + 0) + 5)).bind (Cell.asI .i64)).bind fun q31 => guardK (decide ((.c (.int .i64 q27) : V1) = .c (.int .i64 q31))) ((C commit_Commit.id [.c (.sl 1 q26.1 q26.2.1 q26.2.2), .c (.sl 1 q29.1 q29.2.1 q29.2.2), .c (.int .i64 q24), .c (.int .i64 q25), .c (.int .i64 q27)] q28.2).bind fun q32 => (((q32.1[0]?).bind V1.c?).bind (Cell.asS 1)).bind fun q33 => (((q32.1[1]?).bind V1.c?).bind (Cell.asS 1)).bind fun q34 => (((q32.1[2]?).bind V1.c?).bind Cell.asB).bind fun q35 => bif (!q35) then some ([.c (.int .i64 0), .c (.int .i64 6)], q32.2) else L47 M C u1i u1o u2 u3 q20 q33.1 q33.2.1 q33.2.2 q34.1 q34.2.1 q34.2.2 ((q34.2.2 : Nat) : Int) 0 q17 q18.1 q18.2.1 q18.2.2 q19.1 q19.2.1 q19.2.2 q32.2)))))) else none))
theorem eq (u1i u1o : Nat) (u2 u3 : Int) (G : GH) : runF M C d [.c (.ptr u1i u1o), .c (.int .i64 u2), .c (.int .i64 u3)] G = f M C u1i u1o u2 u3 G := by kernel_rfl
end heap_Heap_puts
namespace tree_Set
def c7 : DCode := (.cond (.t 36) (.seq (.region [oP 0 37 (.ldL 4 118 (.agg [.int .i64, .sl 1])),
 ⟨1, none, .stL 8 119 (.t 37) 2, none⟩]) .ret) .skip)
def c24 : DCode := (.region [oP 0 86 (.ldL 4 118 (.agg [.int .i64, .sl 1])),
 mV 1 87 10,
 mV 2 88 13,
 oP 3 89 (.call 96 [.t 86, .k (.c (.int .i64 0)), .t 87, .t 88] [])])
def c30 : DCode := (.region [mV 0 60 10,
 oP 1 61 (.bin .add .i64 (.t 60) (.k (.c (.int .i64 1)))),
 mV 2 10 61])
def c32 : DCode := (.seq (.seq (.region [mV 0 49 10,
 mV 1 50 9,
 oP 2 51 (.bin .quo .i64 (.t 50) (.k (.c (.int .i64 64)))),
 oP 3 52 (.faddr 4 1),
 oP 4 53 (.ldL 52 118 (.c (.sl 1))),
 oP 5 54 (.iaddr (.t 53) (.k (.c (.int .i64 0))) 1),
 oP 6 55 (.ldG 54 (.c (.sl 1))),
 oP 7 56 (.len (.t 55)),
 oP 8 57 (.bin .sub .i64 (.t 56) (.k (.c (.int .i64 1)))),
 oP 9 58 (.mn (.t 51) [.t 57]),
 oP 10 59 (.cmp .leq .i64 (.t 49) (.t 58))]) (.cond (.t 59) .skip (.exit 0))) (.seq (.block 1 (.seq (.region [mV 0 62 1,
 mV 1 63 10,
 oP 2 64 (.bin .mul .i64 (.t 63) (.k (.c (.int .i64 64)))),
 oP 3 65 (.bin .sub .i64 (.t 62) (.t 64)),
 oP 4 66 (.mx (.t 65) [.k (.c (.int .i64 0))]),
 mV 5 11 66]) (.seq (.region [mV 0 67 11,
 mV 1 68 9,
 mV 2 69 10,
 oP 3 70 (.bin .mul .i64 (.t 69) (.k (.c (.int .i64 64)))),
 oP 4 71 (.bin .sub .i64 (.t 68) (.t 70)),
 oP 5 72 (.mn (.t 71) [.k (.c (.int .i64 63))]),
 mV 6 73 11,
 oP 7 74 (.bin .sub .i64 (.t 72) (.t 73)),
 oP 8 75 (.bin .add .i64 (.t 74) (.k (.c (.int .i64 1)))),
 oP 9 76 (.call 80 [.t 67, .t 75] [.c (.int .u64)]),
 mV 10 12 76]) (.seq (.region [oP 0 77 (.ldL 4 118 (.agg [.int .i64, .sl 1])),
 mV 1 78 10,
 oP 2 79 (.call 95 [.t 77, .k (.c (.int .i64 0)), .t 78] [.c (.int .u64)]),
 mV 3 80 12,
 oP 4 81 (.bin .andNot .u64 (.t 79) (.t 80)),
 mV 5 13 81]) (.seq (.seq (.region [mV 0 82 3]) (.cond (.t 82) (.region [mV 0 83 13,
 mV 1 84 12,
 oP 2 85 (.bin .or .u64 (.t 83) (.t 84)),
 mV 3 13 85]) .skip)) (.cut [1, 3, 4, 8, 9, 10, 13, 118, 119] c24)))))) c30))
def c33 : DCode := (.loop [1, 3, 4, 8, 9, 10, 118, 119] c32)
def c49 : DCode := (.seq (.seq (.region [mV 0 101 16,
 oP 1 102 (.faddr 4 1),
 oP 2 103 (.ldL 102 118 (.c (.sl 1))),
 oP 3 104 (.len (.t 103)),
 oP 4 105 (.cmp .lss .i64 (.t 101) (.t 104))]) (.cond (.t 105) .skip (.exit 2))) (.seq (.block 3 (.seq (.region [oP 0 108 (.ldL 4 118 (.agg [.int .i64, .sl 1])),
 mV 1 109 16,
 mV 2 110 14,
 mV 3 111 15,
 oP 4 112 (.call 97 [.t 108, .t 109, .t 110, .t 111] [])]) (.region [mV 0 113 14,
 oP 1 114 (.bin .quo .i64 (.t 113) (.k (.c (.int .i64 64)))),
 mV 2 115 15,
 oP 3 116 (.bin .quo .i64 (.t 115) (.k (.c (.int .i64 64)))),
 mV 4 14 114,
 mV 5 15 116]))) (.region [mV 0 106 16,
 oP 1 107 (.bin .add .i64 (.t 106) (.k (.c (.int .i64 1)))),
 mV 2 16 107])))
def c55 : DCode := (.seq (.region [oP 0 117 (.ldL 4 118 (.agg [.int .i64, .sl 1])),
 ⟨1, none, .stL 8 119 (.t 117) 2, none⟩]) .ret)
def c57 : DCode := (.seq (.region [mV 0 90 1,
 oP 1 91 (.bin .quo .i64 (.t 90) (.k (.c (.int .i64 64)))),
 mV 2 92 9,
 oP 3 93 (.bin .quo .i64 (.t 92) (.k (.c (.int .i64 64)))),
 oP 4 94 (.faddr 4 1),
 oP 5 95 (.ldL 94 118 (.c (.sl 1))),
 oP 6 96 (.iaddr (.t 95) (.k (.c (.int .i64 0))) 1),
 oP 7 97 (.ldG 96 (.c (.sl 1))),
 oP 8 98 (.len (.t 97)),
 oP 9 99 (.bin .sub .i64 (.t 98) (.k (.c (.int .i64 1)))),
 oP 10 100 (.mn (.t 93) [.t 99]),
 mV 11 14 91,
 mV 12 15 100]) (.seq (.seq (.region [oP 0 16 (.move (.k (.c (.int .i64 1))))]) (.block 2 (.loop [4, 8, 14, 15, 16, 118, 119] c49))) c55))
def c59 : DCode := (.seq (.region [mV 0 38 1,
 mV 1 39 2,
 oP 2 40 (.faddr 4 0),
 oP 3 41 (.ldL 40 118 (.c (.int .i64))),
 mV 4 42 1,
 oP 5 43 (.bin .sub .i64 (.t 41) (.t 42)),
 oP 6 44 (.mn (.t 39) [.t 43]),
 oP 7 45 (.bin .add .i64 (.t 38) (.t 44)),
 oP 8 46 (.bin .sub .i64 (.t 45) (.k (.c (.int .i64 1)))),
 mV 9 9 46]) (.seq (.seq (.region [mV 0 47 1,
 oP 1 48 (.bin .quo .i64 (.t 47) (.k (.c (.int .i64 64)))),
 mV 2 10 48]) (.block 0 c33)) c57))
def d : DFn := { ntmps := 120, res := [.box 8 (some 2)], body := (.seq (.region [oP 0 4 (.boxv 118 [27, 32, 40, 52, 94, 102] (.t 0) 2),
 oP 1 8 (.boxz 119 [] [.int .i64 0, .sl 1 0 0 0])]) (.seq (.region [oP 0 17 (.ldL 4 118 (.agg [.int .i64, .sl 1])),
 oP 1 18 (.call 94 [.t 17] [.agg [.int .i64, .sl 1]]),
 ⟨2, none, .stL 4 118 (.t 18) 2, none⟩]) (.seq (.seq (.region [mV 0 19 1,
 oP 1 20 (.cmp .lss .i64 (.t 19) (.k (.c (.int .i64 0)))),
 mV 2 21 20,
 ⟨3, some 22, .move (.t 2), some (21, false)⟩,
 ⟨4, some 23, .cmp .lss .i64 (.t 22) (.k (.c (.int .i64 1))), some (21, false)⟩,
 oP 5 24 (.pick (.t 21) (.k (.c (.bool true))) (.t 23)),
 mV 6 25 24,
 ⟨7, some 26, .move (.t 1), some (25, false)⟩,
 ⟨8, some 27, .faddr 4 0, some (25, false)⟩,
 ⟨9, some 28, .ldL 27 118 (.c (.int .i64)), some (25, false)⟩,
 ⟨10, some 29, .cmp .geq .i64 (.t 26) (.t 28), some (25, false)⟩,
 oP 11 30 (.pick (.t 25) (.k (.c (.bool true))) (.t 29)),
 mV 12 31 30,
 ⟨13, some 32, .faddr 4 1, some (31, false)⟩,
 ⟨14, some 33, .ldL 32 118 (.c (.sl 1)), some (31, false)⟩,
 ⟨15, some 34, .len (.t 33), some (31, false)⟩,
 ⟨16, some 35, .cmp .eql .i64 (.t 34) (.k (.c (.int .i64 0))), some (31, false)⟩,
 oP 17 36 (.pick (.t 31) (.k (.c (.bool true))) (.t 35))]) (.cut [1, 2, 3, 4, 8, 36, 118, 119] c7)) c59))) }
def k59 : Kont := execC M.j C (M.ag C) c59 ({ exits := [], ret := retK d } : Env) (retK d)
def J7 (u1 u2 : Int) (u3 u4 : Bool) (u5 : Int) (u6i u6o u6n : Nat) (u7 : Int) (u8i u8o u8n : Nat) (G : GH) : Option Res := M.j (execC M.j C (M.ag C) c7 ({ exits := [], ret := retK d } : Env) (k59 M C)) (uS 1 (.v (.c (.int .i64 u1)) :: (.v (.c (.int .i64 u2)) :: (.v (.c (.bool u3)) :: (.ref 118 0 :: (uS 3 (.ref 119 0 :: (uS 27 (.v (.c (.bool u4)) :: (uS 81 (.box [.int .i64 u5, .sl 1 u6i u6o u6n] :: (.box [.int .i64 u7, .sl 1 u8i u8o u8n] :: [])))))))))))) G
def k57 : Kont := execC M.j C (M.ag C) c57 ({ exits := [], ret := retK d } : Env) (retK d)
def e34 : Env := { exits := (0, (k57 M C)) :: (({ exits := [], ret := retK d } : Env)).exits, ret := (({ exits := [], ret := retK d } : Env)).ret }
def L33 (u1 : Int) (u2 : Bool) (u3 u4 u5 : Int) (u6i u6o u6n : Nat) (u7 : Int) (u8i u8o u8n : Nat) (G : GH) : Option Res := M.ag C [1, 3, 4, 8, 9, 10, 118, 119] c32 (e34 M C) (k57 M C) (uS 1 (.v (.c (.int .i64 u1)) :: (uS 1 (.v (.c (.bool u2)) :: (.ref 118 0 :: (uS 3 (.ref 119 0 :: (.v (.c (.int .i64 u3)) :: (.v (.c (.int .i64 u4)) :: (uS 107 (.box [.int .i64 u5, .sl 1 u6i u6o u6n] :: (.box [.int .i64 u7, .sl 1 u8i u8o u8n] :: [])))))))))))) G
def k55 : Kont := execC M.j C (M.ag C) c55 ({ exits := [], ret := retK d } : Env) (retK d)
def e51 : Env := { exits := (2, (k55 M C)) :: (({ exits := [], ret := retK d } : Env)).exits, ret := (({ exits := [], ret := retK d } : Env)).ret }
def L50 (u1 u2 u3 u4 : Int) (u5i u5o u5n : Nat) (u6 : Int) (u7i u7o u7n : Nat) (G : GH) : Option Res := M.ag C [4, 8, 14, 15, 16, 118, 119] c49 (e51 M C) (k55 M C) (uS 4 (.ref 118 0 :: (uS 3 (.ref 119 0 :: (uS 5 (.v (.c (.int .i64 u1)) :: (.v (.c (.int .i64 u2)) :: (.v (.c (.int .i64 u3)) :: (uS 101 (.box [.int .i64 u4, .sl 1 u5i u5o u5n] :: (.box [.int .i64 u6, .sl 1 u7i u7o u7n] :: []))))))))))) G
def k33 : Kont := fun tm G => M.ag C [1, 3, 4, 8, 9, 10, 118, 119] c32 (e34 M C) (k57 M C) (restr [1, 3, 4, 8, 9, 10, 118, 119] 0 tm) G
def k30 : Kont := execC M.j C (M.ag C) c30 (e34 M C) (k33 M C)
def e29 : Env := { exits := (1, (k30 M C)) :: ((e34 M C)).exits, ret := ((e34 M C)).ret }
def J24 (u1 : Int) (u2 : Bool) (u3 u4 u5 u6 : Int) (u7i u7o u7n : Nat) (u8 : Int) (u9i u9o u9n : Nat) (G : GH) : Option Res := M.j (execC M.j C (M.ag C) c24 (e29 M C) (k30 M C)) (uS 1 (.v (.c (.int .i64 u1)) :: (uS 1 (.v (.c (.bool u2)) :: (.ref 118 0 :: (uS 3 (.ref 119 0 :: (.v (.c (.int .i64 u3)) :: (.v (.c (.int .i64 u4)) :: (uS 2 (.v (.c (.int .u64 u5)) :: (uS 104 (.box [.int .i64 u6, .sl 1 u7i u7o u7n] :: (.box [.int .i64 u8, .sl 1 u9i u9o u9n] :: [])))))))))))))) G
theorem J7_eq (u1 u2 : Int) (u3 u4 : Bool) (u5 : Int) (u6i u6o u6n : Nat) (u7 : Int) (u8i u8o u8n : Nat) (G : GH) : J7 M C u1 u2 u3 u4 u5 u6i u6o u6n u7 u8i u8o u8n G = (bif u4 then some ([.agg [.int .i64 u5, .sl 1 u6i u6o u6n]], G) else L33 M C u1 u3 (IntKind.i64.wrap ((IntKind.i64.wrap (u1 + (mn2 u2 (IntKind.i64.wrap (u5 - u1))))) - 1)) (IntKind.i64.wrap (Int.tdiv u1 64)) u5 u6i u6o u6n u7 u8i u8o u8n G) := (M.hj _ _ _).trans (by kernel_rfl)
theorem L33_eq (u1 : Int) (u2 : Bool) (u3 u4 u5 : Int) (u6i u6o u6n : Nat) (u7 : Int) (u8i u8o u8n : Nat) (G : GH) : L33 M C u1 u2 u3 u4 u5 u6i u6o u6n u7 u8i u8o u8n G = (guardK (decide (0 ≤ (0 : Int) ∧ (0 : Int) < ((u6n : Nat) : Int))) (((G.ld u6i (u6o + Int.toNat 0 * 1)).bind (Cell.asS 1)).bind fun q5 => bif decide (u4 ≤ mn2 (IntKind.i64.wrap (Int.tdiv u3 64)) (IntKind.i64.wrap (((q5.2.2 : Nat) : Int) - 1))) then (C word_Mask.id [.c (.int .i64 (mx2 (IntKind.i64.wrap (u1 - (IntKind.i64.wrap (u4 * 64)))) 0)), .c (.int .i64 (IntKind.i64.wrap ((IntKind.i64.wrap ((mn2 (IntKind.i64.wrap (u3 - (IntKind.i64.wrap (u4 * 64)))) 63) - (mx2 (IntKind.i64.wrap (u1 - (IntKind.i64.wrap (u4 * 64)))) 0))) + 1)))] G).bind fun q6 => (((q6.1[0]?).bind V1.c?).bind (Cell.asI .u64)).bind fun q7 => (C tree_at.id [.agg [.int .i64 u5, .sl 1 u6i u6o u6n], .c (.int .i64 0), .c (.int .i64 u4)] q6.2).bind fun q8 => (((q8.1[0]?).bind V1.c?).bind (Cell.asI .u64)).bind fun q9 => bif u2 then J24 M C u1 u2 u3 u4 (IntKind.u64.wrap (((BitVec.ofInt IntKind.u64.bits (IntKind.u64.wrap (((BitVec.ofInt IntKind.u64.bits q9) &&& ~~~ (BitVec.ofInt IntKind.u64.bits q7)).toNat : Int))) ||| (BitVec.ofInt IntKind.u64.bits q7)).toNat : Int)) u5 u6i u6o u6n u7 u8i u8o u8n q8.2 else J24 M C u1 u2 u3 u4 (IntKind.u64.wrap (((BitVec.ofInt IntKind.u64.bits q9) &&& ~~~ (BitVec.ofInt IntKind.u64.bits q7)).toNat : Int)) u5 u6i u6o u6n u7 u8i u8o u8n q8.2 else guardK (decide (0 ≤ (0 : Int) ∧ (0 : Int) < ((u6n : Nat) : Int))) (((G.ld u6i (u6o + Int.toNat 0 * 1)).bind (Cell.asS 1)).bind fun q10 => L50 M C (IntKind.i64.wrap (Int.tdiv u1 64)) (mn2 (IntKind.i64.wrap (Int.tdiv u3 64)) (IntKind.i64.wrap (((q10.2.2 : Nat) : Int) - 1))) 1 u5 u6i u6o u6n u7 u8i u8o u8n G))) := (M.hs _ _ _ _ _ _ _).trans (by kernel_rfl)
theorem L50_eq (u1 u2 u3 u4 : Int) (u5i u5o u5n : Nat) (u6 : Int) (u7i u7o u7n : Nat) (G : GH) : L50 M C u1 u2 u3 u4 u5i u5o u5n u6 u7i u7o u7n G = (bif decide (u3 < ((u5n : Nat) : Int)) then (C tree_sums.id [.agg [.int .i64 u4, .sl 1 u5i u5o u5n], .c (.int .i64 u3), .c (.int .i64 u1), .c (.int .i64 u2)] G).bind fun q11 => L50 M C (IntKind.i64.wrap (Int.tdiv u1 64)) (IntKind.i64.wrap (Int.tdiv u2 64)) (IntKind.i64.wrap (u3 + 1)) u4 u5i u5o u5n u6 u7i u7o u7n q11.2 else some ([.agg [.int .i64 u4, .sl 1 u5i u5o u5n]], G)) := (M.hs _ _ _ _ _ _ _).trans (by kernel_rfl)
theorem J24_eq (u1 : Int) (u2 : Bool) (u3 u4 u5 u6 : Int) (u7i u7o u7n : Nat) (u8 : Int) (u9i u9o u9n : Nat) (G : GH) : J24 M C u1 u2 u3 u4 u5 u6 u7i u7o u7n u8 u9i u9o u9n G = ((C tree_put.id [.agg [.int .i64 u6, .sl 1 u7i u7o u7n], .c (.int .i64 0), .c (.int .i64 u4), .c (.int .u64 u5)] G).bind fun q12 => L33 M C u1 u2 u3 (IntKind.i64.wrap (u4 + 1)) u6 u7i u7o u7n u8 u9i u9o u9n q12.2) := (M.hj _ _ _).trans (by kernel_rfl)
def f (u1 : Int) (u2i u2o u2n : Nat) (u3 u4 : Int) (u5 : Bool) (G : GH) : Option Res := (C tree_twin.id [.agg [.int .i64 u1, .sl 1 u2i u2o u2n]] G).bind fun q1 => ((q1.1[0]?).bind V1.a?).bind fun q2 => if q2.length = 2 then (((q2[0]?).bind (Cell.asI .i64)).bind fun q3 => ((q2[1]?).bind (Cell.asS 1)).bind fun q4 => bif decide (u3 < 0) then J7 M C u3 u4 u5 true q3 q4.1 q4.2.1 q4.2.2 0 0 0 0 q1.2 else bif decide (u4 < 1) then J7 M C u3 u4 u5 true q3 q4.1 q4.2.1 q4.2.2 0 0 0 0 q1.2 else bif decide (u3 ≥ q3) then J7 M C u3 u4 u5 true q3 q4.1 q4.2.1 q4.2.2 0 0 0 0 q1.2 else J7 M C u3 u4 u5 (decide (((q4.2.2 : Nat) : Int) = 0)) q3 q4.1 q4.2.1 q4.2.2 0 0 0 0 q1.2) else none
theorem eq (u1 : Int) (u2i u2o u2n : Nat) (u3 u4 : Int) (u5 : Bool) (G : GH) : runF M C d [.agg [.int .i64 u1, .sl 1 u2i u2o u2n], .c (.int .i64 u3), .c (.int .i64 u4), .c (.bool u5)] G = f M C u1 u2i u2o u2n u3 u4 u5 G := by kernel_rfl
end tree_Set
namespace heap_Heap_Do
def c56 : DCode := (.cond (.t 32) (.seq (.region [mV 0 38 0,
 oP 1 39 (.ldL 3 79 (.agg [.int .i64, .int .i64, .int .i64, .int .i64, .int .i64, .int .u8])),
 oP 2 40 (.call 29 [.t 38, .t 39] [.agg [.int .i64, .int .i64, .int .i64, .int .u8, .int .i64, .int .i64, .int .i64, .int .i64]]),
 ⟨3, none, .stL 4 80 (.t 40) 8, none⟩]) .ret) (.seq (.region [oP 0 42 (.cmp .eql .i64 (.t 9) (.k (.c (.int .i64 9)))),
 mV 1 41 42]) (.cond (.t 41) (.seq (.region [mV 0 44 0,
 mV 1 45 0,
 oP 2 46 (.nilck (.t 45)),
 oP 3 47 (.faddr 46 16),
 oP 4 48 (.ldG 47 (.c (.sl 1))),
 mV 5 49 0,
 oP 6 50 (.call 31 [.t 49] [.c (.sl 1)]),
 ⟨9999, none, .reG 48 47 (.c (.sl 1)), none⟩,
 oP 7 51 (.call 30 [.t 48, .t 50] [.c (.sl 1), .c (.int .i64)]),
 mV 8 43 51,
 oP 9 52 (.ext 43 0),
 oP 10 53 (.ext 43 1),
 oP 11 54 (.nilck (.t 44)),
 oP 12 55 (.faddr 54 16),
 ⟨13, none, .stG 55 (.t 52) 1, none⟩,
 oP 14 56 (.faddr 4 2),
 ⟨15, none, .stL 56 80 (.t 53) 1, none⟩]) (.seq (.region [oP 0 57 (.ldL 4 80 (.agg [.int .i64, .int .i64, .int .i64, .int .u8, .int .i64, .int .i64, .int .i64, .int .i64])),
 ⟨1, none, .stL 4 80 (.t 57) 8, none⟩]) .ret)) (.seq (.region [oP 0 59 (.cmp .eql .i64 (.t 9) (.k (.c (.int .i64 10)))),
 mV 1 58 59]) (.cond (.t 58) (.seq (.region [mV 0 60 0,
 oP 1 61 (.nilck (.t 60)),
 oP 2 62 (.faddr 61 12),
 oP 3 63 (.ldG 62 (.c (.int .i64))),
 mV 4 64 0,
 oP 5 65 (.nilck (.t 64)),
 oP 6 66 (.faddr 65 13),
 oP 7 67 (.ldG 66 (.c (.int .i64))),
 mV 8 68 0,
 oP 9 69 (.nilck (.t 68)),
 oP 10 70 (.faddr 69 14),
 oP 11 71 (.ldG 70 (.c (.int .i64))),
 mV 12 72 0,
 oP 13 73 (.nilck (.t 72)),
 oP 14 74 (.faddr 73 16),
 oP 15 75 (.ldG 74 (.c (.sl 1))),
 oP 16 76 (.call 32 [.t 75] [.c (.int .i64)]),
 ⟨9999, none, .reG 63 62 (.c (.int .i64)), none⟩,
 ⟨9999, none, .reG 67 66 (.c (.int .i64)), none⟩,
 ⟨9999, none, .reG 71 70 (.c (.int .i64)), none⟩,
 oP 17 77 (.build [.int .i64 0, .int .i64 0, .int .i64 0, .int .u8 0, .int .i64 0, .int .i64 0, .int .i64 0, .int .i64 0] [(4, 1, .t 63), (5, 1, .t 67), (6, 1, .t 71), (7, 1, .t 76)]),
 ⟨18, none, .stL 4 80 (.t 77) 8, none⟩]) .ret) .skip)))))
def c68 : DCode := (.seq (.region [oP 0 78 (.build [.int .i64 0, .int .i64 0, .int .i64 0, .int .u8 0, .int .i64 0, .int .i64 0, .int .i64 0, .int .i64 0] [(0, 1, .k (.c (.int .i64 2)))]),
 ⟨1, none, .stL 4 80 (.t 78) 8, none⟩]) .ret)
def d : DFn := { ntmps := 81, res := [.box 4 (some 8)], body := (.seq (.region [oP 0 3 (.boxv 79 [8, 13, 19, 21, 27, 29] (.t 1) 6),
 oP 1 4 (.boxz 80 [56] [.int .i64 0, .int .i64 0, .int .i64 0, .int .u8 0, .int .i64 0, .int .i64 0, .int .i64 0, .int .i64 0])]) (.seq (.seq (.region [mV 0 5 0,
 oP 1 6 (.pnil false (.t 5))]) (.cond (.t 6) (.seq (.region [oP 0 7 (.build [.int .i64 0, .int .i64 0, .int .i64 0, .int .u8 0, .int .i64 0, .int .i64 0, .int .i64 0, .int .i64 0] [(0, 1, .k (.c (.int .i64 1)))]),
 ⟨1, none, .stL 4 80 (.t 7) 8, none⟩]) .ret) .skip)) (.seq (.seq (.region [oP 0 8 (.faddr 3 0),
 oP 1 9 (.ldL 8 79 (.c (.int .i64)))]) (.block 0 (.seq (.region [oP 0 11 (.cmp .eql .i64 (.t 9) (.k (.c (.int .i64 1)))),
 mV 1 10 11]) (.cond (.t 10) (.seq (.region [mV 0 12 0,
 oP 1 13 (.faddr 3 2),
 oP 2 14 (.ldL 13 79 (.c (.int .i64))),
 oP 3 15 (.call 27 [.t 12, .t 14, .k (.c (.int .i64 1))] [.agg [.int .i64, .int .i64, .int .i64, .int .u8, .int .i64, .int .i64, .int .i64, .int .i64]]),
 ⟨4, none, .stL 4 80 (.t 15) 8, none⟩]) .ret) (.seq (.region [oP 0 17 (.cmp .eql .i64 (.t 9) (.k (.c (.int .i64 2)))),
 mV 1 16 17]) (.cond (.t 16) (.seq (.region [mV 0 18 0,
 oP 1 19 (.faddr 3 4),
 oP 2 20 (.ldL 19 79 (.c (.int .i64))),
 oP 3 21 (.faddr 3 2),
 oP 4 22 (.ldL 21 79 (.c (.int .i64))),
 oP 5 23 (.call 28 [.t 18, .t 20, .t 22] [.agg [.int .i64, .int .i64, .int .i64, .int .u8, .int .i64, .int .i64, .int .i64, .int .i64]]),
 ⟨6, none, .stL 4 80 (.t 23) 8, none⟩]) .ret) (.seq (.region [oP 0 25 (.cmp .eql .i64 (.t 9) (.k (.c (.int .i64 3)))),
 mV 1 24 25]) (.cond (.t 24) (.seq (.region [mV 0 26 0,
 oP 1 27 (.faddr 3 2),
 oP 2 28 (.ldL 27 79 (.c (.int .i64))),
 oP 3 29 (.faddr 3 3),
 oP 4 30 (.ldL 29 79 (.c (.int .i64))),
 oP 5 31 (.call 27 [.t 26, .t 28, .t 30] [.agg [.int .i64, .int .i64, .int .i64, .int .u8, .int .i64, .int .i64, .int .i64, .int .i64]]),
 ⟨6, none, .stL 4 80 (.t 31) 8, none⟩]) .ret) (.seq (.seq (.region [oP 0 33 (.cmp .eql .i64 (.t 9) (.k (.c (.int .i64 4)))),
 mV 1 32 33]) (.cond (.t 32) .skip (.seq (.region [oP 0 34 (.cmp .eql .i64 (.t 9) (.k (.c (.int .i64 5)))),
 mV 1 32 34]) (.cond (.t 32) .skip (.seq (.region [oP 0 35 (.cmp .eql .i64 (.t 9) (.k (.c (.int .i64 6)))),
 mV 1 32 35]) (.cond (.t 32) .skip (.seq (.region [oP 0 36 (.cmp .eql .i64 (.t 9) (.k (.c (.int .i64 7)))),
 mV 1 32 36]) (.cond (.t 32) .skip (.region [oP 0 37 (.cmp .eql .i64 (.t 9) (.k (.c (.int .i64 8)))),
 mV 1 32 37]))))))))) (.cut [0, 3, 4, 9, 32, 79, 80] c56)))))))))) c68))) }
def k68 : Kont := execC M.j C (M.ag C) c68 ({ exits := [], ret := retK d } : Env) (retK d)
def e64 : Env := { exits := (0, (k68 M C)) :: (({ exits := [], ret := retK d } : Env)).exits, ret := (({ exits := [], ret := retK d } : Env)).ret }
def J56 (u1i u1o : Nat) (u2 : Int) (u3 : Bool) (u4 u5 u6 u7 u8 u9 u10 u11 u12 u13 u14 u15 u16 u17 : Int) (G : GH) : Option Res := M.j (execC M.j C (M.ag C) c56 (e64 M C) (k68 M C)) (.v (.c (.ptr u1i u1o)) :: (uS 2 (.ref 79 0 :: (.ref 80 0 :: (uS 4 (.v (.c (.int .i64 u2)) :: (uS 22 (.v (.c (.bool u3)) :: (uS 46 (.box [.int .i64 u4, .int .i64 u5, .int .i64 u6, .int .i64 u7, .int .i64 u8, .int .u8 u9] :: (.box [.int .i64 u10, .int .i64 u11, .int .i64 u12, .int .u8 u13, .int .i64 u14, .int .i64 u15, .int .i64 u16, .int .i64 u17] :: []))))))))))) G
theorem J56_eq (u1i u1o : Nat) (u2 : Int) (u3 : Bool) (u4 u5 u6 u7 u8 u9 u10 u11 u12 u13 u14 u15 u16 u17 : Int) (G : GH) : J56 M C u1i u1o u2 u3 u4 u5 u6 u7 u8 u9 u10 u11 u12 u13 u14 u15 u16 u17 G = (bif u3 then (C heap_Heap_block.id [.c (.ptr u1i u1o), .agg [.int .i64 u4, .int .i64 u5, .int .i64 u6, .int .i64 u7, .int .i64 u8, .int .u8 u9]] G).bind fun q31 => ((q31.1[0]?).bind V1.a?).bind fun q32 => if q32.length = 8 then (((q32[0]?).bind (Cell.asI .i64)).bind fun q33 => ((q32[1]?).bind (Cell.asI .i64)).bind fun q34 => ((q32[2]?).bind (Cell.asI .i64)).bind fun q35 => ((q32[3]?).bind (Cell.asI .u8)).bind fun q36 => ((q32[4]?).bind (Cell.asI .i64)).bind fun q37 => ((q32[5]?).bind (Cell.asI .i64)).bind fun q38 => ((q32[6]?).bind (Cell.asI .i64)).bind fun q39 => ((q32[7]?).bind (Cell.asI .i64)).bind fun q40 => some ([.agg [.int .i64 q33, .int .i64 q34, .int .i64 q35, .int .u8 q36, .int .i64 q37, .int .i64 q38, .int .i64 q39, .int .i64 q40]], q31.2)) else none else bif decide (u2 = 9) then guardK (!Nat.beq u1i 0) (((G.ld u1i (u1o + 16)).bind (Cell.asS 1)).bind fun q41 => (C heap_Heap_pages.id [.c (.ptr u1i u1o)] G).bind fun q42 => (((q42.1[0]?).bind V1.c?).bind (Cell.asS 1)).bind fun q43 => ((q42.2.ld u1i (u1o + 16)).bind (Cell.asS 1)).bind fun q44 => guardK (decide ((.c (.sl 1 q41.1 q41.2.1 q41.2.2) : V1) = .c (.sl 1 q44.1 q44.2.1 q44.2.2))) ((C commit_Trim.id [.c (.sl 1 q41.1 q41.2.1 q41.2.2), .c (.sl 1 q43.1 q43.2.1 q43.2.2)] q42.2).bind fun q45 => (((q45.1[0]?).bind V1.c?).bind (Cell.asS 1)).bind fun q46 => (((q45.1[1]?).bind V1.c?).bind (Cell.asI .i64)).bind fun q47 => guardK (!Nat.beq u1i 0) ((q45.2.sts u1i (u1o + 16) [.sl 1 q46.1 q46.2.1 q46.2.2]).bind fun q48 => some ([.agg [.int .i64 u10, .int .i64 u11, .int .i64 q47, .int .u8 u13, .int .i64 u14, .int .i64 u15, .int .i64 u16, .int .i64 u17]], q48)))) else bif decide (u2 = 10) then guardK (!Nat.beq u1i 0) (((G.ld u1i (u1o + 12)).bind (Cell.asI .i64)).bind fun q49 => guardK (!Nat.beq u1i 0) (((G.ld u1i (u1o + 13)).bind (Cell.asI .i64)).bind fun q50 => guardK (!Nat.beq u1i 0) (((G.ld u1i (u1o + 14)).bind (Cell.asI .i64)).bind fun q51 => guardK (!Nat.beq u1i 0) (((G.ld u1i (u1o + 16)).bind (Cell.asS 1)).bind fun q52 => (C pin_Count.id [.c (.sl 1 q52.1 q52.2.1 q52.2.2)] G).bind fun q53 => (((q53.1[0]?).bind V1.c?).bind (Cell.asI .i64)).bind fun q54 => ((q53.2.ld u1i (u1o + 12)).bind (Cell.asI .i64)).bind fun q55 => guardK (decide ((.c (.int .i64 q49) : V1) = .c (.int .i64 q55))) (((q53.2.ld u1i (u1o + 13)).bind (Cell.asI .i64)).bind fun q56 => guardK (decide ((.c (.int .i64 q50) : V1) = .c (.int .i64 q56))) (((q53.2.ld u1i (u1o + 14)).bind (Cell.asI .i64)).bind fun q57 => guardK (decide ((.c (.int .i64 q51) : V1) = .c (.int .i64 q57))) (some ([.agg [.int .i64 0, .int .i64 0, .int .i64 0, .int .u8 0, .int .i64 q49, .int .i64 q50, .int .i64 q51, .int .i64 q54]], q53.2)))))))) else some ([.agg [.int .i64 2, .int .i64 0, .int .i64 0, .int .u8 0, .int .i64 0, .int .i64 0, .int .i64 0, .int .i64 0]], G)) := (M.hj _ _ _).trans (by kernel_rfl)
def f (u1i u1o : Nat) (u2 u3 u4 u5 u6 u7 : Int) (G : GH) : Option Res := bif Bool.xor false (Nat.beq u1i 0) then some ([.agg [.int .i64 1, .int .i64 0, .int .i64 0, .int .u8 0, .int .i64 0, .int .i64 0, .int .i64 0, .int .i64 0]], G) else bif decide (u2 = 1) then (C heap_Heap_aligned.id [.c (.ptr u1i u1o), .c (.int .i64 u4), .c (.int .i64 1)] G).bind fun q1 => ((q1.1[0]?).bind V1.a?).bind fun q2 => if q2.length = 8 then (((q2[0]?).bind (Cell.asI .i64)).bind fun q3 => ((q2[1]?).bind (Cell.asI .i64)).bind fun q4 => ((q2[2]?).bind (Cell.asI .i64)).bind fun q5 => ((q2[3]?).bind (Cell.asI .u8)).bind fun q6 => ((q2[4]?).bind (Cell.asI .i64)).bind fun q7 => ((q2[5]?).bind (Cell.asI .i64)).bind fun q8 => ((q2[6]?).bind (Cell.asI .i64)).bind fun q9 => ((q2[7]?).bind (Cell.asI .i64)).bind fun q10 => some ([.agg [.int .i64 q3, .int .i64 q4, .int .i64 q5, .int .u8 q6, .int .i64 q7, .int .i64 q8, .int .i64 q9, .int .i64 q10]], q1.2)) else none else bif decide (u2 = 2) then (C heap_Heap_calloc.id [.c (.ptr u1i u1o), .c (.int .i64 u6), .c (.int .i64 u4)] G).bind fun q11 => ((q11.1[0]?).bind V1.a?).bind fun q12 => if q12.length = 8 then (((q12[0]?).bind (Cell.asI .i64)).bind fun q13 => ((q12[1]?).bind (Cell.asI .i64)).bind fun q14 => ((q12[2]?).bind (Cell.asI .i64)).bind fun q15 => ((q12[3]?).bind (Cell.asI .u8)).bind fun q16 => ((q12[4]?).bind (Cell.asI .i64)).bind fun q17 => ((q12[5]?).bind (Cell.asI .i64)).bind fun q18 => ((q12[6]?).bind (Cell.asI .i64)).bind fun q19 => ((q12[7]?).bind (Cell.asI .i64)).bind fun q20 => some ([.agg [.int .i64 q13, .int .i64 q14, .int .i64 q15, .int .u8 q16, .int .i64 q17, .int .i64 q18, .int .i64 q19, .int .i64 q20]], q11.2)) else none else bif decide (u2 = 3) then (C heap_Heap_aligned.id [.c (.ptr u1i u1o), .c (.int .i64 u4), .c (.int .i64 u5)] G).bind fun q21 => ((q21.1[0]?).bind V1.a?).bind fun q22 => if q22.length = 8 then (((q22[0]?).bind (Cell.asI .i64)).bind fun q23 => ((q22[1]?).bind (Cell.asI .i64)).bind fun q24 => ((q22[2]?).bind (Cell.asI .i64)).bind fun q25 => ((q22[3]?).bind (Cell.asI .u8)).bind fun q26 => ((q22[4]?).bind (Cell.asI .i64)).bind fun q27 => ((q22[5]?).bind (Cell.asI .i64)).bind fun q28 => ((q22[6]?).bind (Cell.asI .i64)).bind fun q29 => ((q22[7]?).bind (Cell.asI .i64)).bind fun q30 => some ([.agg [.int .i64 q23, .int .i64 q24, .int .i64 q25, .int .u8 q26, .int .i64 q27, .int .i64 q28, .int .i64 q29, .int .i64 q30]], q21.2)) else none else bif decide (u2 = 4) then J56 M C u1i u1o u2 (decide (u2 = 4)) u2 u3 u4 u5 u6 u7 0 0 0 0 0 0 0 0 G else bif decide (u2 = 5) then J56 M C u1i u1o u2 (decide (u2 = 5)) u2 u3 u4 u5 u6 u7 0 0 0 0 0 0 0 0 G else bif decide (u2 = 6) then J56 M C u1i u1o u2 (decide (u2 = 6)) u2 u3 u4 u5 u6 u7 0 0 0 0 0 0 0 0 G else bif decide (u2 = 7) then J56 M C u1i u1o u2 (decide (u2 = 7)) u2 u3 u4 u5 u6 u7 0 0 0 0 0 0 0 0 G else J56 M C u1i u1o u2 (decide (u2 = 8)) u2 u3 u4 u5 u6 u7 0 0 0 0 0 0 0 0 G
theorem eq (u1i u1o : Nat) (u2 u3 u4 u5 u6 u7 : Int) (G : GH) : runF M C d [.c (.ptr u1i u1o), .agg [.int .i64 u2, .int .i64 u3, .int .i64 u4, .int .i64 u5, .int .i64 u6, .int .u8 u7]] G = f M C u1i u1o u2 u3 u4 u5 u6 u7 G := by kernel_rfl
end heap_Heap_Do
namespace tree_FirstZero
def c6 : DCode := (.cond (.t 16) (.seq (.region [oP 0 4 (.move (.k (.c (.int .i64 0)))),
 oP 1 5 (.move (.k (.c (.bool false))))]) .ret) .skip)
def c14 : DCode := (.cond (.t 38) (.seq (.region [oP 0 4 (.move (.k (.c (.int .i64 0)))),
 oP 1 5 (.move (.k (.c (.bool false))))]) .ret) .skip)
def c24 : DCode := (.seq (.region [oP 0 39 (.ldL 2 74 (.agg [.int .i64, .sl 1])),
 mV 1 40 6,
 mV 2 41 7,
 oP 3 42 (.bin .quo .i64 (.t 41) (.k (.c (.int .i64 64)))),
 oP 4 43 (.call 95 [.t 39, .t 40, .t 42] [.c (.int .u64)]),
 mV 5 44 7,
 oP 6 45 (.bin .rem .i64 (.t 44) (.k (.c (.int .i64 64)))),
 oP 7 46 (.call 80 [.k (.c (.int .i64 0)), .t 45] [.c (.int .u64)]),
 oP 8 47 (.bin .or .u64 (.t 43) (.t 46)),
 oP 9 48 (.call 99 [.t 47] [.c (.int .i64)]),
 mV 10 8 48]) (.seq (.region [mV 0 49 8,
 oP 1 50 (.cmp .lss .i64 (.t 49) (.k (.c (.int .i64 64))))]) (.cond (.t 50) (.seq (.region [mV 0 51 7,
 oP 1 52 (.bin .quo .i64 (.t 51) (.k (.c (.int .i64 64)))),
 oP 2 53 (.bin .mul .i64 (.t 52) (.k (.c (.int .i64 64)))),
 mV 3 54 8,
 oP 4 55 (.bin .add .i64 (.t 53) (.t 54)),
 mV 5 7 55]) (.exit 0)) .skip)))
def c27 : DCode := (.region [mV 0 18 6,
 oP 1 19 (.bin .add .i64 (.t 18) (.k (.c (.int .i64 1)))),
 mV 2 20 7,
 oP 3 21 (.bin .quo .i64 (.t 20) (.k (.c (.int .i64 64)))),
 oP 4 22 (.bin .add .i64 (.t 21) (.k (.c (.int .i64 1)))),
 mV 5 6 19,
 mV 6 7 22])
def c28 : DCode := (.seq (.block 1 (.seq (.seq (.region [mV 0 23 6,
 oP 1 24 (.faddr 2 1),
 oP 2 25 (.ldL 24 74 (.c (.sl 1))),
 oP 3 26 (.len (.t 25)),
 oP 4 27 (.cmp .geq .i64 (.t 23) (.t 26)),
 mV 5 28 27,
 ⟨6, some 29, .move (.t 7), some (28, false)⟩,
 ⟨7, some 30, .bin .quo .i64 (.t 29) (.k (.c (.int .i64 64))), some (28, false)⟩,
 ⟨8, some 31, .faddr 2 1, some (28, false)⟩,
 ⟨9, some 32, .ldL 31 74 (.c (.sl 1)), some (28, false)⟩,
 ⟨10, some 33, .move (.t 6), some (28, false)⟩,
 ⟨11, some 34, .iaddr (.t 32) (.t 33) 1, some (28, false)⟩,
 ⟨12, some 35, .ldG 34 (.c (.sl 1)), some (28, false)⟩,
 ⟨13, some 36, .len (.t 35), some (28, false)⟩,
 ⟨14, some 37, .cmp .geq .i64 (.t 30) (.t 36), some (28, false)⟩,
 oP 15 38 (.pick (.t 28) (.k (.c (.bool true))) (.t 37))]) (.cut [2, 6, 7, 38, 74] c14)) c24)) c27)
def c29 : DCode := (.loop [2, 6, 7, 74] c28)
def c40 : DCode := (.seq (.seq (.region [mV 0 56 6,
 oP 1 57 (.cmp .gtr .i64 (.t 56) (.k (.c (.int .i64 0))))]) (.cond (.t 57) .skip (.exit 2))) (.seq (.block 3 (.region [mV 0 60 7,
 oP 1 61 (.bin .mul .i64 (.t 60) (.k (.c (.int .i64 64)))),
 oP 2 62 (.ldL 2 74 (.agg [.int .i64, .sl 1])),
 mV 3 63 6,
 oP 4 64 (.bin .sub .i64 (.t 63) (.k (.c (.int .i64 1)))),
 mV 5 65 7,
 oP 6 66 (.call 95 [.t 62, .t 64, .t 65] [.c (.int .u64)]),
 oP 7 67 (.call 99 [.t 66] [.c (.int .i64)]),
 oP 8 68 (.bin .add .i64 (.t 61) (.t 67)),
 mV 9 7 68])) (.region [mV 0 58 6,
 oP 1 59 (.bin .sub .i64 (.t 58) (.k (.c (.int .i64 1)))),
 mV 2 6 59])))
def c45 : DCode := (.seq (.region [mV 0 69 7,
 mV 1 70 7,
 oP 2 71 (.faddr 2 0),
 oP 3 72 (.ldL 71 74 (.c (.int .i64))),
 oP 4 73 (.cmp .lss .i64 (.t 70) (.t 72)),
 mV 5 4 69,
 mV 6 5 73]) .ret)
def c46 : DCode := (.seq (.block 2 (.loop [2, 6, 7, 74] c40)) c45)
def c48 : DCode := (.seq (.region [mV 0 17 1,
 oP 1 6 (.move (.k (.c (.int .i64 0)))),
 mV 2 7 17]) (.seq (.block 0 c29) c46))
def d : DFn := { ntmps := 75, res := [.t 4, .t 5], body := (.seq (.region [oP 0 2 (.boxv 74 [13, 24, 31, 71] (.t 0) 2),
 oP 1 4 (.move (.k (.c (.int .i64 0)))),
 oP 2 5 (.move (.k (.c (.bool false))))]) (.seq (.seq (.region [mV 0 9 1,
 oP 1 10 (.cmp .lss .i64 (.t 9) (.k (.c (.int .i64 0)))),
 mV 2 11 10,
 ⟨3, some 12, .move (.t 1), some (11, false)⟩,
 ⟨4, some 13, .faddr 2 0, some (11, false)⟩,
 ⟨5, some 14, .ldL 13 74 (.c (.int .i64)), some (11, false)⟩,
 ⟨6, some 15, .cmp .geq .i64 (.t 12) (.t 14), some (11, false)⟩,
 oP 7 16 (.pick (.t 11) (.k (.c (.bool true))) (.t 15))]) (.cut [1, 2, 16, 74] c6)) c48)) }
def k48 : Kont := execC M.j C (M.ag C) c48 ({ exits := [], ret := retK d } : Env) (retK d)
def J6 (u1 : Int) (u2 : Bool) (u3 : Int) (u4i u4o u4n : Nat) (G : GH) : Option Res := M.j (execC M.j C (M.ag C) c6 ({ exits := [], ret := retK d } : Env) (k48 M C)) (uS 1 (.v (.c (.int .i64 u1)) :: (.ref 74 0 :: (uS 13 (.v (.c (.bool u2)) :: (uS 57 (.box [.int .i64 u3, .sl 1 u4i u4o u4n] :: []))))))) G
def k46 : Kont := execC M.j C (M.ag C) c46 ({ exits := [], ret := retK d } : Env) (retK d)
def e30 : Env := { exits := (0, (k46 M C)) :: (({ exits := [], ret := retK d } : Env)).exits, ret := (({ exits := [], ret := retK d } : Env)).ret }
def L29 (u1 u2 u3 : Int) (u4i u4o u4n : Nat) (G : GH) : Option Res := M.ag C [2, 6, 7, 74] c28 (e30 M C) (k46 M C) (uS 2 (.ref 74 0 :: (uS 3 (.v (.c (.int .i64 u1)) :: (.v (.c (.int .i64 u2)) :: (uS 66 (.box [.int .i64 u3, .sl 1 u4i u4o u4n] :: []))))))) G
def k29 : Kont := fun tm G => M.ag C [2, 6, 7, 74] c28 (e30 M C) (k46 M C) (restr [2, 6, 7, 74] 0 tm) G
def k27 : Kont := execC M.j C (M.ag C) c27 (e30 M C) (k29 M C)
def e26 : Env := { exits := (1, (k27 M C)) :: ((e30 M C)).exits, ret := ((e30 M C)).ret }
def k24 : Kont := execC M.j C (M.ag C) c24 (e26 M C) (k27 M C)
def J14 (u1 u2 : Int) (u3 : Bool) (u4 : Int) (u5i u5o u5n : Nat) (G : GH) : Option Res := M.j (execC M.j C (M.ag C) c14 (e26 M C) (k24 M C)) (uS 2 (.ref 74 0 :: (uS 3 (.v (.c (.int .i64 u1)) :: (.v (.c (.int .i64 u2)) :: (uS 30 (.v (.c (.bool u3)) :: (uS 35 (.box [.int .i64 u4, .sl 1 u5i u5o u5n] :: []))))))))) G
def k45 : Kont := execC M.j C (M.ag C) c45 ({ exits := [], ret := retK d } : Env) (retK d)
def e42 : Env := { exits := (2, (k45 M C)) :: (({ exits := [], ret := retK d } : Env)).exits, ret := (({ exits := [], ret := retK d } : Env)).ret }
def L41 (u1 u2 u3 : Int) (u4i u4o u4n : Nat) (G : GH) : Option Res := M.ag C [2, 6, 7, 74] c40 (e42 M C) (k45 M C) (uS 2 (.ref 74 0 :: (uS 3 (.v (.c (.int .i64 u1)) :: (.v (.c (.int .i64 u2)) :: (uS 66 (.box [.int .i64 u3, .sl 1 u4i u4o u4n] :: []))))))) G
theorem J6_eq (u1 : Int) (u2 : Bool) (u3 : Int) (u4i u4o u4n : Nat) (G : GH) : J6 M C u1 u2 u3 u4i u4o u4n G = (bif u2 then some ([.c (.int .i64 0), .c (.bool false)], G) else L29 M C 0 u1 u3 u4i u4o u4n G) := (M.hj _ _ _).trans (by kernel_rfl)
theorem L29_eq (u1 u2 u3 : Int) (u4i u4o u4n : Nat) (G : GH) : L29 M C u1 u2 u3 u4i u4o u4n G = (bif decide (u1 ≥ ((u4n : Nat) : Int)) then J14 M C u1 u2 true u3 u4i u4o u4n G else guardK (decide (0 ≤ u1 ∧ u1 < ((u4n : Nat) : Int))) (((G.ld u4i (u4o + Int.toNat u1 * 1)).bind (Cell.asS 1)).bind fun q1 => J14 M C u1 u2 (decide (IntKind.i64.wrap (Int.tdiv u2 64) ≥ ((q1.2.2 : Nat) : Int))) u3 u4i u4o u4n G)) := (M.hs _ _ _ _ _ _ _).trans (by kernel_rfl)
theorem J14_eq (u1 u2 : Int) (u3 : Bool) (u4 : Int) (u5i u5o u5n : Nat) (G : GH) : J14 M C u1 u2 u3 u4 u5i u5o u5n G = (bif u3 then some ([.c (.int .i64 0), .c (.bool false)], G) else (C tree_at.id [.agg [.int .i64 u4, .sl 1 u5i u5o u5n], .c (.int .i64 u1), .c (.int .i64 (IntKind.i64.wrap (Int.tdiv u2 64)))] G).bind fun q2 => (((q2.1[0]?).bind V1.c?).bind (Cell.asI .u64)).bind fun q3 => (C word_Mask.id [.c (.int .i64 0), .c (.int .i64 (Int.tmod u2 64))] q2.2).bind fun q4 => (((q4.1[0]?).bind V1.c?).bind (Cell.asI .u64)).bind fun q5 => (C word_LowZero.id [.c (.int .u64 (IntKind.u64.wrap (((BitVec.ofInt IntKind.u64.bits q3) ||| (BitVec.ofInt IntKind.u64.bits q5)).toNat : Int)))] q4.2).bind fun q6 => (((q6.1[0]?).bind V1.c?).bind (Cell.asI .i64)).bind fun q7 => bif decide (q7 < 64) then L41 M C u1 (IntKind.i64.wrap ((IntKind.i64.wrap ((IntKind.i64.wrap (Int.tdiv u2 64)) * 64)) + q7)) u4 u5i u5o u5n q6.2 else L29 M C (IntKind.i64.wrap (u1 + 1)) (IntKind.i64.wrap ((IntKind.i64.wrap (Int.tdiv u2 64)) + 1)) u4 u5i u5o u5n q6.2) := (M.hj _ _ _).trans (by kernel_rfl)
theorem L41_eq (u1 u2 u3 : Int) (u4i u4o u4n : Nat) (G : GH) : L41 M C u1 u2 u3 u4i u4o u4n G = (bif decide (u1 > 0) then (C tree_at.id [.agg [.int .i64 u3, .sl 1 u4i u4o u4n], .c (.int .i64 (IntKind.i64.wrap (u1 - 1))), .c (.int .i64 u2)] G).bind fun q8 => (((q8.1[0]?).bind V1.c?).bind (Cell.asI .u64)).bind fun q9 => (C word_LowZero.id [.c (.int .u64 q9)] q8.2).bind fun q10 => (((q10.1[0]?).bind V1.c?).bind (Cell.asI .i64)).bind fun q11 => L41 M C (IntKind.i64.wrap (u1 - 1)) (IntKind.i64.wrap ((IntKind.i64.wrap (u2 * 64)) + q11)) u3 u4i u4o u4n q10.2 else some ([.c (.int .i64 u2), .c (.bool (decide (u2 < u3)))], G)) := (M.hs _ _ _ _ _ _ _).trans (by kernel_rfl)
def f (u1 : Int) (u2i u2o u2n : Nat) (u3 : Int) (G : GH) : Option Res := bif decide (u3 < 0) then J6 M C u3 true u1 u2i u2o u2n G else J6 M C u3 (decide (u3 ≥ u1)) u1 u2i u2o u2n G
theorem eq (u1 : Int) (u2i u2o u2n : Nat) (u3 : Int) (G : GH) : runF M C d [.agg [.int .i64 u1, .sl 1 u2i u2o u2n], .c (.int .i64 u3)] G = f M C u1 u2i u2o u2n u3 G := by kernel_rfl
end tree_FirstZero
namespace commit_Commit
def c6 : DCode := (.cond (.t 34) (.seq (.region [oP 0 10 (.move (.k (.c (.sl 1 0 0 0)))),
 oP 1 11 (.move (.k (.c (.sl 1 0 0 0)))),
 oP 2 12 (.move (.k (.c (.bool false))))]) .ret) .skip)
def c20 : DCode := (.region [mV 0 54 10,
 mV 1 55 14,
 mV 2 56 13,
 mV 3 57 14,
 oP 4 58 (.iaddr (.t 54) (.t 55) 1),
 ⟨5, none, .stG 58 (.k (.c (.bool true))) 1, none⟩,
 oP 6 59 (.iaddr (.t 56) (.t 57) 1),
 ⟨7, none, .stG 59 (.k (.c (.bool true))) 1, none⟩])
def c23 : DCode := (.region [mV 0 43 14,
 oP 1 44 (.bin .add .i64 (.t 43) (.k (.c (.int .i64 1)))),
 mV 2 14 44])
def c25 : DCode := (.seq (.seq (.region [mV 0 40 14,
 mV 1 41 3,
 oP 2 42 (.cmp .lss .i64 (.t 40) (.t 41))]) (.cond (.t 42) .skip (.exit 0))) (.seq (.block 1 (.seq (.seq (.region [mV 0 45 0,
 mV 1 46 14,
 oP 2 47 (.iaddr (.t 45) (.t 46) 1),
 oP 3 48 (.ldG 47 (.c (.bool))),
 oP 4 49 (.not (.t 48))]) (.cond (.t 49) (.region [mV 0 50 11,
 mV 1 51 14,
 oP 2 52 (.bslice 1 1 [.int .i64 0] [(0, 1, .t 51)]),
 oP 3 53 (.app (.t 50) (.t 52) 1 8),
 mV 4 11 53]) .skip)) (.cut [0, 3, 4, 10, 11, 13, 14] c20))) c23))
def c26 : DCode := (.loop [0, 3, 4, 10, 11, 13, 14] c25)
def c43 : DCode := (.seq (.region [mV 0 74 10,
 mV 1 75 11,
 mV 2 10 74,
 mV 3 11 75,
 oP 4 12 (.move (.k (.c (.bool true))))]) .ret)
def c45 : DCode := (.seq (.seq (.region [mV 0 60 13,
 oP 1 61 (.call 32 [.t 60] [.c (.int .i64)]),
 mV 2 62 4,
 oP 3 63 (.cmp .gtr .i64 (.t 61) (.t 62))]) (.cond (.t 63) (.seq (.region [oP 0 10 (.move (.k (.c (.sl 1 0 0 0)))),
 oP 1 11 (.move (.k (.c (.sl 1 0 0 0)))),
 oP 2 12 (.move (.k (.c (.bool false))))]) .ret) .skip)) (.seq (.seq (.region [mV 0 64 10,
 oP 1 65 (.call 32 [.t 64] [.c (.int .i64)]),
 mV 2 66 4,
 oP 3 67 (.cmp .gtr .i64 (.t 65) (.t 66))]) (.cond (.t 67) (.region [mV 0 69 10,
 mV 1 70 13,
 oP 2 71 (.call 30 [.t 69, .t 70] [.c (.sl 1), .c (.int .i64)]),
 mV 3 68 71,
 oP 4 72 (.ext 68 0),
 oP 5 73 (.ext 68 1),
 mV 6 10 72]) .skip)) (.cut [10, 11] c43)))
def c47 : DCode := (.seq (.region [mV 0 35 0,
 oP 1 36 (.call 52 [.t 35] [.c (.sl 1)]),
 mV 2 37 1,
 oP 3 38 (.call 52 [.t 37] [.c (.sl 1)]),
 mV 4 10 36,
 mV 5 13 38]) (.seq (.seq (.region [mV 0 39 2,
 mV 1 14 39]) (.block 0 c26)) c45))
def d : DFn := { ntmps := 76, res := [.t 10, .t 11, .t 12], body := (.seq (.region [oP 0 10 (.move (.k (.c (.sl 1 0 0 0)))),
 oP 1 11 (.move (.k (.c (.sl 1 0 0 0)))),
 oP 2 12 (.move (.k (.c (.bool false))))]) (.seq (.seq (.region [mV 0 15 0,
 oP 1 16 (.len (.t 15)),
 mV 2 17 1,
 oP 3 18 (.len (.t 17)),
 oP 4 19 (.cmp .neq .i64 (.t 16) (.t 18)),
 mV 5 20 19,
 ⟨6, some 21, .move (.t 2), some (20, false)⟩,
 ⟨7, some 22, .cmp .lss .i64 (.t 21) (.k (.c (.int .i64 0))), some (20, false)⟩,
 oP 8 23 (.pick (.t 20) (.k (.c (.bool true))) (.t 22)),
 mV 9 24 23,
 ⟨10, some 25, .move (.t 2), some (24, false)⟩,
 ⟨11, some 26, .move (.t 3), some (24, false)⟩,
 ⟨12, some 27, .cmp .gtr .i64 (.t 25) (.t 26), some (24, false)⟩,
 oP 13 28 (.pick (.t 24) (.k (.c (.bool true))) (.t 27)),
 mV 14 29 28,
 ⟨15, some 30, .move (.t 3), some (29, false)⟩,
 ⟨16, some 31, .move (.t 0), some (29, false)⟩,
 ⟨17, some 32, .len (.t 31), some (29, false)⟩,
 ⟨18, some 33, .cmp .gtr .i64 (.t 30) (.t 32), some (29, false)⟩,
 oP 19 34 (.pick (.t 29) (.k (.c (.bool true))) (.t 33))]) (.cut [0, 1, 2, 3, 4, 11, 34] c6)) c47)) }
def k47 : Kont := execC M.j C (M.ag C) c47 ({ exits := [], ret := retK d } : Env) (retK d)
def J6 (u1i u1o u1n u2i u2o u2n : Nat) (u3 u4 u5 : Int) (u6i u6o u6n : Nat) (u7 : Bool) (G : GH) : Option Res := M.j (execC M.j C (M.ag C) c6 ({ exits := [], ret := retK d } : Env) (k47 M C)) (.v (.c (.sl 1 u1i u1o u1n)) :: (.v (.c (.sl 1 u2i u2o u2n)) :: (.v (.c (.int .i64 u3)) :: (.v (.c (.int .i64 u4)) :: (.v (.c (.int .i64 u5)) :: (uS 6 (.v (.c (.sl 1 u6i u6o u6n)) :: (uS 22 (.v (.c (.bool u7)) :: (uS 41 [])))))))))) G
def k45 : Kont := execC M.j C (M.ag C) c45 ({ exits := [], ret := retK d } : Env) (retK d)
def e27 : Env := { exits := (0, (k45 M C)) :: (({ exits := [], ret := retK d } : Env)).exits, ret := (({ exits := [], ret := retK d } : Env)).ret }
def L26 (u1i u1o u1n : Nat) (u2 u3 : Int) (u4i u4o u4n u5i u5o u5n u6i u6o u6n : Nat) (u7 : Int) (G : GH) : Option Res := M.ag C [0, 3, 4, 10, 11, 13, 14] c25 (e27 M C) (k45 M C) (.v (.c (.sl 1 u1i u1o u1n)) :: (uS 2 (.v (.c (.int .i64 u2)) :: (.v (.c (.int .i64 u3)) :: (uS 5 (.v (.c (.sl 1 u4i u4o u4n)) :: (.v (.c (.sl 1 u5i u5o u5n)) :: (uS 1 (.v (.c (.sl 1 u6i u6o u6n)) :: (.v (.c (.int .i64 u7)) :: (uS 61 []))))))))))) G
def k26 : Kont := fun tm G => M.ag C [0, 3, 4, 10, 11, 13, 14] c25 (e27 M C) (k45 M C) (restr [0, 3, 4, 10, 11, 13, 14] 0 tm) G
def k23 : Kont := execC M.j C (M.ag C) c23 (e27 M C) (k26 M C)
def e22 : Env := { exits := (1, (k23 M C)) :: ((e27 M C)).exits, ret := ((e27 M C)).ret }
def J20 (u1i u1o u1n : Nat) (u2 u3 : Int) (u4i u4o u4n u5i u5o u5n u6i u6o u6n : Nat) (u7 : Int) (G : GH) : Option Res := M.j (execC M.j C (M.ag C) c20 (e22 M C) (k23 M C)) (.v (.c (.sl 1 u1i u1o u1n)) :: (uS 2 (.v (.c (.int .i64 u2)) :: (.v (.c (.int .i64 u3)) :: (uS 5 (.v (.c (.sl 1 u4i u4o u4n)) :: (.v (.c (.sl 1 u5i u5o u5n)) :: (uS 1 (.v (.c (.sl 1 u6i u6o u6n)) :: (.v (.c (.int .i64 u7)) :: (uS 61 []))))))))))) G
def J43 (u1i u1o u1n u2i u2o u2n : Nat) (G : GH) : Option Res := M.j (execC M.j C (M.ag C) c43 ({ exits := [], ret := retK d } : Env) (retK d)) (uS 10 (.v (.c (.sl 1 u1i u1o u1n)) :: (.v (.c (.sl 1 u2i u2o u2n)) :: (uS 64 [])))) G
theorem J6_eq (u1i u1o u1n u2i u2o u2n : Nat) (u3 u4 u5 : Int) (u6i u6o u6n : Nat) (u7 : Bool) (G : GH) : J6 M C u1i u1o u1n u2i u2o u2n u3 u4 u5 u6i u6o u6n u7 G = (bif u7 then some ([.c (.sl 1 0 0 0), .c (.sl 1 0 0 0), .c (.bool false)], G) else (C slices_Clone_bool_bool.id [.c (.sl 1 u1i u1o u1n)] G).bind fun q1 => (((q1.1[0]?).bind V1.c?).bind (Cell.asS 1)).bind fun q2 => (C slices_Clone_bool_bool.id [.c (.sl 1 u2i u2o u2n)] q1.2).bind fun q3 => (((q3.1[0]?).bind V1.c?).bind (Cell.asS 1)).bind fun q4 => L26 M C u1i u1o u1n u4 u5 q2.1 q2.2.1 q2.2.2 u6i u6o u6n q4.1 q4.2.1 q4.2.2 u3 q3.2) := (M.hj _ _ _).trans (by kernel_rfl)
theorem L26_eq (u1i u1o u1n : Nat) (u2 u3 : Int) (u4i u4o u4n u5i u5o u5n u6i u6o u6n : Nat) (u7 : Int) (G : GH) : L26 M C u1i u1o u1n u2 u3 u4i u4o u4n u5i u5o u5n u6i u6o u6n u7 G = (bif decide (u7 < u2) then guardK (decide (0 ≤ u7 ∧ u7 < ((u1n : Nat) : Int))) (((G.ld u1i (u1o + Int.toNat u7 * 1)).bind Cell.asB).bind fun q5 => bif (!q5) then let q6 := G.alloc (.row [.int .i64 u7] false); (if 1 = 0 then some [] else q6.lds G.next 0 (1 * 1)).bind fun q7 => guardK (decide (u5n + 1 ≤ most)) ((q6.app u5i u5o u5n 1 1 q7).bind fun q8 => J20 M C u1i u1o u1n u2 u3 u4i u4o u4n q8.1 q8.2.1 (u5n + 1) u6i u6o u6n u7 q8.2.2) else J20 M C u1i u1o u1n u2 u3 u4i u4o u4n u5i u5o u5n u6i u6o u6n u7 G) else (C pin_Count.id [.c (.sl 1 u6i u6o u6n)] G).bind fun q9 => (((q9.1[0]?).bind V1.c?).bind (Cell.asI .i64)).bind fun q10 => bif decide (q10 > u3) then some ([.c (.sl 1 0 0 0), .c (.sl 1 0 0 0), .c (.bool false)], q9.2) else (C pin_Count.id [.c (.sl 1 u4i u4o u4n)] q9.2).bind fun q11 => (((q11.1[0]?).bind V1.c?).bind (Cell.asI .i64)).bind fun q12 => bif decide (q12 > u3) then (C commit_Trim.id [.c (.sl 1 u4i u4o u4n), .c (.sl 1 u6i u6o u6n)] q11.2).bind fun q13 => (((q13.1[0]?).bind V1.c?).bind (Cell.asS 1)).bind fun q14 => (((q13.1[1]?).bind V1.c?).bind (Cell.asI .i64)).bind fun q15 => J43 M C q14.1 q14.2.1 q14.2.2 u5i u5o u5n q13.2 else J43 M C u4i u4o u4n u5i u5o u5n q11.2) := (M.hs _ _ _ _ _ _ _).trans (by kernel_rfl)
theorem J20_eq (u1i u1o u1n : Nat) (u2 u3 : Int) (u4i u4o u4n u5i u5o u5n u6i u6o u6n : Nat) (u7 : Int) (G : GH) : J20 M C u1i u1o u1n u2 u3 u4i u4o u4n u5i u5o u5n u6i u6o u6n u7 G = (guardK (decide (0 ≤ u7 ∧ u7 < ((u4n : Nat) : Int))) ((G.sts u4i (u4o + Int.toNat u7 * 1) [.bool true]).bind fun q16 => guardK (decide (0 ≤ u7 ∧ u7 < ((u6n : Nat) : Int))) ((q16.sts u6i (u6o + Int.toNat u7 * 1) [.bool true]).bind fun q17 => L26 M C u1i u1o u1n u2 u3 u4i u4o u4n u5i u5o u5n u6i u6o u6n (IntKind.i64.wrap (u7 + 1)) q17))) := (M.hj _ _ _).trans (by kernel_rfl)
theorem J43_eq (u1i u1o u1n u2i u2o u2n : Nat) (G : GH) : J43 M C u1i u1o u1n u2i u2o u2n G = (some ([.c (.sl 1 u1i u1o u1n), .c (.sl 1 u2i u2o u2n), .c (.bool true)], G)) := (M.hj _ _ _).trans (by kernel_rfl)
def f (u1i u1o u1n u2i u2o u2n : Nat) (u3 u4 u5 : Int) (G : GH) : Option Res := bif (!decide (((u1n : Nat) : Int) = ((u2n : Nat) : Int))) then J6 M C u1i u1o u1n u2i u2o u2n u3 u4 u5 0 0 0 true G else bif decide (u3 < 0) then J6 M C u1i u1o u1n u2i u2o u2n u3 u4 u5 0 0 0 true G else bif decide (u3 > u4) then J6 M C u1i u1o u1n u2i u2o u2n u3 u4 u5 0 0 0 true G else J6 M C u1i u1o u1n u2i u2o u2n u3 u4 u5 0 0 0 (decide (u4 > ((u1n : Nat) : Int))) G
theorem eq (u1i u1o u1n u2i u2o u2n : Nat) (u3 u4 u5 : Int) (G : GH) : runF M C d [.c (.sl 1 u1i u1o u1n), .c (.sl 1 u2i u2o u2n), .c (.int .i64 u3), .c (.int .i64 u4), .c (.int .i64 u5)] G = f M C u1i u1o u1n u2i u2o u2n u3 u4 u5 G := by kernel_rfl
end commit_Commit
namespace conf_Of
def c6 : DCode := (.cond (.t 35) (.seq (.region [oP 0 36 (.build [.int .i64 0, .int .i64 0, .int .i64 0, .int .i64 0, .int .i64 0, .int .i64 0, .int .i64 0, .int .i64 0] []),
 ⟨1, none, .stL 2 108 (.t 36) 8, none⟩,
 oP 2 3 (.move (.k (.c (.int .i64 1))))]) .ret) .skip)
def c32 : DCode := (.seq (.region [oP 0 37 (.faddr 1 4),
 oP 1 38 (.ldL 37 107 (.c (.int .i64))),
 oP 2 39 (.faddr 1 5),
 oP 3 40 (.ldL 39 107 (.c (.int .i64))),
 oP 4 41 (.build [.int .i64 0, .int .i64 0, .int .i64 0, .int .i64 0, .int .i64 0, .int .i64 0, .int .i64 0, .int .i64 0] [(5, 1, .t 38), (7, 1, .t 40)]),
 oP 5 4 (.boxz 109 [48, 52, 58, 62, 68, 72, 74, 81, 83, 85, 91, 92, 94, 96, 101, 102] [.int .i64 0, .int .i64 0, .int .i64 0, .int .i64 0, .int .i64 0, .int .i64 0, .int .i64 0, .int .i64 0]),
 ⟨6, none, .stL 4 109 (.t 41) 8, none⟩]) (.seq (.region [oP 0 43 (.faddr 1 0),
 oP 1 44 (.ldL 43 107 (.c (.int .i64))),
 oP 2 45 (.call 36 [.t 44] [.c (.int .i64), .c (.bool)]),
 mV 3 42 45,
 oP 4 46 (.ext 42 0),
 oP 5 47 (.ext 42 1),
 oP 6 48 (.faddr 4 0),
 ⟨7, none, .stL 48 109 (.t 46) 1, none⟩]) (.seq (.region [oP 0 50 (.faddr 1 1),
 oP 1 51 (.ldL 50 107 (.c (.int .i64))),
 oP 2 52 (.faddr 4 0),
 oP 3 53 (.ldL 52 109 (.c (.int .i64))),
 oP 4 54 (.mx (.t 51) [.t 53]),
 oP 5 55 (.call 36 [.t 54] [.c (.int .i64), .c (.bool)]),
 mV 6 49 55,
 oP 7 56 (.ext 49 0),
 oP 8 57 (.ext 49 1),
 oP 9 58 (.faddr 4 1),
 ⟨10, none, .stL 58 109 (.t 56) 1, none⟩]) (.seq (.region [oP 0 60 (.faddr 1 3),
 oP 1 61 (.ldL 60 107 (.c (.int .i64))),
 oP 2 62 (.faddr 4 0),
 oP 3 63 (.ldL 62 109 (.c (.int .i64))),
 oP 4 64 (.mx (.t 61) [.t 63]),
 oP 5 65 (.call 36 [.t 64] [.c (.int .i64), .c (.bool)]),
 mV 6 59 65,
 oP 7 66 (.ext 59 0),
 oP 8 67 (.ext 59 1),
 oP 9 68 (.faddr 4 4),
 ⟨10, none, .stL 68 109 (.t 66) 1, none⟩]) (.seq (.region [oP 0 70 (.faddr 1 2),
 oP 1 71 (.ldL 70 107 (.c (.int .i64))),
 oP 2 72 (.faddr 4 1),
 oP 3 73 (.ldL 72 109 (.c (.int .i64))),
 oP 4 74 (.faddr 4 4),
 oP 5 75 (.ldL 74 109 (.c (.int .i64))),
 oP 6 76 (.mx (.t 73) [.t 75]),
 oP 7 77 (.bin .shl .i64 (.t 76) (.k (.c (.int .u64 1)))),
 oP 8 78 (.call 37 [.t 71, .t 77] [.c (.int .i64), .c (.bool)]),
 mV 9 69 78,
 oP 10 79 (.ext 69 0),
 oP 11 80 (.ext 69 1),
 oP 12 81 (.faddr 4 2),
 ⟨13, none, .stL 81 109 (.t 79) 1, none⟩]) (.seq (.region [oP 0 83 (.faddr 4 1),
 oP 1 84 (.ldL 83 109 (.c (.int .i64))),
 oP 2 85 (.faddr 4 0),
 oP 3 86 (.ldL 85 109 (.c (.int .i64))),
 oP 4 87 (.bin .quo .i64 (.t 84) (.t 86)),
 oP 5 88 (.call 38 [.t 87] [.c (.int .i64), .c (.bool)]),
 mV 6 82 88,
 oP 7 89 (.ext 82 0),
 oP 8 90 (.ext 82 1),
 oP 9 91 (.faddr 4 3),
 ⟨10, none, .stL 91 109 (.t 89) 1, none⟩]) (.seq (.region [oP 0 92 (.faddr 4 2),
 oP 1 93 (.ldL 92 109 (.c (.int .i64))),
 oP 2 94 (.faddr 4 3),
 oP 3 95 (.ldL 94 109 (.c (.int .i64))),
 oP 4 96 (.faddr 4 2),
 oP 5 97 (.ldL 96 109 (.c (.int .i64))),
 oP 6 98 (.bin .shr .i64 (.t 97) (.k (.c (.int .u64 1)))),
 oP 7 99 (.bin .mul .i64 (.t 95) (.t 98)),
 oP 8 100 (.bin .add .i64 (.t 93) (.t 99)),
 oP 9 101 (.faddr 4 6),
 ⟨10, none, .stL 101 109 (.t 100) 1, none⟩]) (.seq (.seq (.region [oP 0 102 (.faddr 4 6),
 oP 1 103 (.ldL 102 109 (.c (.int .i64))),
 oP 2 104 (.cmp .gtr .i64 (.t 103) (.k (.c (.int .i64 65536))))]) (.cond (.t 104) (.seq (.region [oP 0 105 (.build [.int .i64 0, .int .i64 0, .int .i64 0, .int .i64 0, .int .i64 0, .int .i64 0, .int .i64 0, .int .i64 0] []),
 ⟨1, none, .stL 2 108 (.t 105) 8, none⟩,
 oP 2 3 (.move (.k (.c (.int .i64 1))))]) .ret) .skip)) (.seq (.region [oP 0 106 (.ldL 4 109 (.agg (iS 8))),
 ⟨1, none, .stL 2 108 (.t 106) 8, none⟩,
 oP 2 3 (.move (.k (.c (.int .i64 0))))]) .ret)))))))))
def d : DFn := { ntmps := 110, res := [.box 2 (some 8), .t 3], body := (.seq (.region [oP 0 1 (.boxv 107 [5, 7, 9, 11, 17, 22, 27, 32, 37, 39, 43, 50, 60, 70] (.t 0) 6),
 oP 1 2 (.boxz 108 [] [.int .i64 0, .int .i64 0, .int .i64 0, .int .i64 0, .int .i64 0, .int .i64 0, .int .i64 0, .int .i64 0]),
 oP 2 3 (.move (.k (.c (.int .i64 0))))]) (.seq (.seq (.region [oP 0 5 (.faddr 1 0),
 oP 1 6 (.ldL 5 107 (.c (.int .i64))),
 oP 2 7 (.faddr 1 1),
 oP 3 8 (.ldL 7 107 (.c (.int .i64))),
 oP 4 9 (.faddr 1 2),
 oP 5 10 (.ldL 9 107 (.c (.int .i64))),
 oP 6 11 (.faddr 1 3),
 oP 7 12 (.ldL 11 107 (.c (.int .i64))),
 oP 8 13 (.bslice 4 1 [.int .i64 0, .int .i64 0, .int .i64 0, .int .i64 0] [(0, 1, .t 6), (1, 1, .t 8), (2, 1, .t 10), (3, 1, .t 12)]),
 oP 9 14 (.call 35 [.t 13] [.c (.bool)]),
 oP 10 15 (.not (.t 14)),
 mV 11 16 15,
 ⟨12, some 17, .faddr 1 4, some (16, false)⟩,
 ⟨13, some 18, .ldL 17 107 (.c (.int .i64)), some (16, false)⟩,
 ⟨14, some 19, .cmp .lss .i64 (.t 18) (.k (.c (.int .i64 0))), some (16, false)⟩,
 oP 15 20 (.pick (.t 16) (.k (.c (.bool true))) (.t 19)),
 mV 16 21 20,
 ⟨17, some 22, .faddr 1 4, some (21, false)⟩,
 ⟨18, some 23, .ldL 22 107 (.c (.int .i64)), some (21, false)⟩,
 ⟨19, some 24, .cmp .gtr .i64 (.t 23) (.k (.c (.int .i64 65536))), some (21, false)⟩,
 oP 20 25 (.pick (.t 21) (.k (.c (.bool true))) (.t 24)),
 mV 21 26 25,
 ⟨22, some 27, .faddr 1 5, some (26, false)⟩,
 ⟨23, some 28, .ldL 27 107 (.c (.int .i64)), some (26, false)⟩,
 ⟨24, some 29, .cmp .lss .i64 (.t 28) (.k (.c (.int .i64 0))), some (26, false)⟩,
 oP 25 30 (.pick (.t 26) (.k (.c (.bool true))) (.t 29)),
 mV 26 31 30,
 ⟨27, some 32, .faddr 1 5, some (31, false)⟩,
 ⟨28, some 33, .ldL 32 107 (.c (.int .i64)), some (31, false)⟩,
 ⟨29, some 34, .cmp .gtr .i64 (.t 33) (.k (.c (.int .i64 255))), some (31, false)⟩,
 oP 30 35 (.pick (.t 31) (.k (.c (.bool true))) (.t 34))]) (.cut [1, 2, 35, 107, 108] c6)) c32)) }
def k32 : Kont := execC M.j C (M.ag C) c32 ({ exits := [], ret := retK d } : Env) (retK d)
def J6 (u1 : Bool) (u2 u3 u4 u5 u6 u7 u8 u9 u10 u11 u12 u13 u14 u15 : Int) (G : GH) : Option Res := M.j (execC M.j C (M.ag C) c6 ({ exits := [], ret := retK d } : Env) (k32 M C)) (uS 1 (.ref 107 0 :: (.ref 108 0 :: (uS 32 (.v (.c (.bool u1)) :: (uS 71 (.box [.int .i64 u2, .int .i64 u3, .int .i64 u4, .int .i64 u5, .int .i64 u6, .int .i64 u7] :: (.box [.int .i64 u8, .int .i64 u9, .int .i64 u10, .int .i64 u11, .int .i64 u12, .int .i64 u13, .int .i64 u14, .int .i64 u15] :: (uS 1 []))))))))) G
theorem J6_eq (u1 : Bool) (u2 u3 u4 u5 u6 u7 u8 u9 u10 u11 u12 u13 u14 u15 : Int) (G : GH) : J6 M C u1 u2 u3 u4 u5 u6 u7 u8 u9 u10 u11 u12 u13 u14 u15 G = (bif u1 then some ([.agg [.int .i64 0, .int .i64 0, .int .i64 0, .int .i64 0, .int .i64 0, .int .i64 0, .int .i64 0, .int .i64 0], .c (.int .i64 1)], G) else (C calc_Up.id [.c (.int .i64 u2)] G).bind fun q4 => (((q4.1[0]?).bind V1.c?).bind (Cell.asI .i64)).bind fun q5 => (((q4.1[1]?).bind V1.c?).bind Cell.asB).bind fun q6 => (C calc_Up.id [.c (.int .i64 (mx2 u3 q5))] q4.2).bind fun q7 => (((q7.1[0]?).bind V1.c?).bind (Cell.asI .i64)).bind fun q8 => (((q7.1[1]?).bind V1.c?).bind Cell.asB).bind fun q9 => (C calc_Up.id [.c (.int .i64 (mx2 u5 q5))] q7.2).bind fun q10 => (((q10.1[0]?).bind V1.c?).bind (Cell.asI .i64)).bind fun q11 => (((q10.1[1]?).bind V1.c?).bind Cell.asB).bind fun q12 => (C calc_Round.id [.c (.int .i64 u4), .c (.int .i64 (IntKind.i64.wrap ((mx2 q8 q11) * 2 ^ (min (1 : Int).toNat IntKind.i64.bits))))] q10.2).bind fun q13 => (((q13.1[0]?).bind V1.c?).bind (Cell.asI .i64)).bind fun q14 => (((q13.1[1]?).bind V1.c?).bind Cell.asB).bind fun q15 => (binD .quo .i64 q8 q5).bind fun q16 => (C calc_Log.id [.c (.int .i64 q16)] q13.2).bind fun q17 => (((q17.1[0]?).bind V1.c?).bind (Cell.asI .i64)).bind fun q18 => (((q17.1[1]?).bind V1.c?).bind Cell.asB).bind fun q19 => bif decide (IntKind.i64.wrap (q14 + (IntKind.i64.wrap (q18 * (Int.fdiv q14 (2 ^ (min (1 : Int).toNat IntKind.i64.bits)))))) > 65536) then some ([.agg [.int .i64 0, .int .i64 0, .int .i64 0, .int .i64 0, .int .i64 0, .int .i64 0, .int .i64 0, .int .i64 0], .c (.int .i64 1)], q17.2) else some ([.agg [.int .i64 q5, .int .i64 q8, .int .i64 q14, .int .i64 q18, .int .i64 q11, .int .i64 u6, .int .i64 (IntKind.i64.wrap (q14 + (IntKind.i64.wrap (q18 * (Int.fdiv q14 (2 ^ (min (1 : Int).toNat IntKind.i64.bits))))))), .int .i64 u7], .c (.int .i64 0)], q17.2)) := (M.hj _ _ _).trans (by kernel_rfl)
def f (u1 u2 u3 u4 u5 u6 : Int) (G : GH) : Option Res := let q1 := G.alloc (.row [.int .i64 u1, .int .i64 u2, .int .i64 u3, .int .i64 u4] false); (C conf_within.id [.c (.sl 1 G.next 0 4)] q1).bind fun q2 => (((q2.1[0]?).bind V1.c?).bind Cell.asB).bind fun q3 => bif (!q3) then J6 M C true u1 u2 u3 u4 u5 u6 0 0 0 0 0 0 0 0 q2.2 else bif decide (u5 < 0) then J6 M C true u1 u2 u3 u4 u5 u6 0 0 0 0 0 0 0 0 q2.2 else bif decide (u5 > 65536) then J6 M C true u1 u2 u3 u4 u5 u6 0 0 0 0 0 0 0 0 q2.2 else bif decide (u6 < 0) then J6 M C true u1 u2 u3 u4 u5 u6 0 0 0 0 0 0 0 0 q2.2 else J6 M C (decide (u6 > 255)) u1 u2 u3 u4 u5 u6 0 0 0 0 0 0 0 0 q2.2
theorem eq (u1 u2 u3 u4 u5 u6 : Int) (G : GH) : runF M C d [.agg [.int .i64 u1, .int .i64 u2, .int .i64 u3, .int .i64 u4, .int .i64 u5, .int .i64 u6]] G = f M C u1 u2 u3 u4 u5 u6 G := by kernel_rfl
end conf_Of
namespace heap_Heap_block
def c31 : DCode := (.cond (.t 46) (.seq (.region [oP 0 57 (.build [.int .i64 0, .int .i64 0, .int .i64 0, .int .u8 0, .int .i64 0, .int .i64 0, .int .i64 0, .int .i64 0] [(0, 1, .k (.c (.int .i64 9)))]),
 ⟨1, none, .stL 4 88 (.t 57) 8, none⟩]) .ret) (.seq (.region [oP 0 59 (.faddr 3 0),
 oP 1 60 (.ldL 59 87 (.c (.int .i64))),
 oP 2 61 (.cmp .eql .i64 (.t 60) (.k (.c (.int .i64 7)))),
 mV 3 58 61]) (.cond (.t 58) (.seq (.region [mV 0 62 0,
 oP 1 63 (.nilck (.t 62)),
 oP 2 64 (.faddr 63 17),
 oP 3 65 (.ldG 64 (.c (.sl 1))),
 oP 4 66 (.faddr 5 0),
 oP 5 67 (.ldL 66 89 (.c (.int .i64))),
 oP 6 68 (.faddr 3 4),
 oP 7 69 (.ldL 68 87 (.c (.int .i64))),
 oP 8 70 (.bin .add .i64 (.t 67) (.t 69)),
 oP 9 71 (.iaddr (.t 65) (.t 70) 1),
 oP 10 72 (.ldG 71 (.c (.int .u8))),
 oP 11 73 (.build [.int .i64 0, .int .i64 0, .int .i64 0, .int .u8 0, .int .i64 0, .int .i64 0, .int .i64 0, .int .i64 0] [(3, 1, .t 72)]),
 ⟨12, none, .stL 4 88 (.t 73) 8, none⟩]) .ret) .skip)))
def c46 : DCode := (.seq (.region [mV 0 74 0,
 oP 1 75 (.nilck (.t 74)),
 oP 2 76 (.faddr 75 17),
 oP 3 77 (.ldG 76 (.c (.sl 1))),
 oP 4 78 (.faddr 5 0),
 oP 5 79 (.ldL 78 89 (.c (.int .i64))),
 oP 6 80 (.faddr 3 4),
 oP 7 81 (.ldL 80 87 (.c (.int .i64))),
 oP 8 82 (.bin .add .i64 (.t 79) (.t 81)),
 oP 9 83 (.faddr 3 5),
 oP 10 84 (.ldL 83 87 (.c (.int .u8))),
 oP 11 85 (.iaddr (.t 77) (.t 82) 1),
 ⟨12, none, .stG 85 (.t 84) 1, none⟩]) (.seq (.region [oP 0 86 (.build [.int .i64 0, .int .i64 0, .int .i64 0, .int .u8 0, .int .i64 0, .int .i64 0, .int .i64 0, .int .i64 0] []),
 ⟨1, none, .stL 4 88 (.t 86) 8, none⟩]) .ret))
def d : DFn := { ntmps := 90, res := [.box 4 (some 8)], body := (.seq (.region [oP 0 3 (.boxv 87 [12, 23, 28, 32, 40, 47, 51, 59, 68, 80, 83] (.t 1) 6),
 oP 1 4 (.boxz 88 [] [.int .i64 0, .int .i64 0, .int .i64 0, .int .u8 0, .int .i64 0, .int .i64 0, .int .i64 0, .int .i64 0])]) (.seq (.region [mV 0 8 0,
 oP 1 9 (.nilck (.t 8)),
 oP 2 10 (.faddr 9 11),
 oP 3 11 (.ldG 10 (.c (.map))),
 oP 4 12 (.faddr 3 1),
 oP 5 13 (.ldL 12 87 (.c (.int .i64))),
 oP 6 14 (.build [.int .i64 0] [(0, 1, .t 13)]),
 oP 7 15 (.lkup (.agg [.int .i64]) (.t 11) (.t 14) (.agg [.int .i64 0, .int .i64 0, .int .i64 0]) (.agg (iS 3)) true),
 mV 8 7 15,
 oP 9 16 (.ext 7 0),
 oP 10 17 (.ext 7 1),
 oP 11 5 (.boxz 89 [43, 53, 66, 78] [.int .i64 0, .int .i64 0, .int .i64 0]),
 ⟨12, none, .stL 5 89 (.t 16) 3, none⟩,
 mV 13 6 17]) (.seq (.block 0 (.seq (.region [mV 0 19 6,
 oP 1 20 (.not (.t 19)),
 mV 2 18 20]) (.cond (.t 18) (.seq (.region [oP 0 21 (.build [.int .i64 0, .int .i64 0, .int .i64 0, .int .u8 0, .int .i64 0, .int .i64 0, .int .i64 0, .int .i64 0] [(0, 1, .k (.c (.int .i64 8)))]),
 ⟨1, none, .stL 4 88 (.t 21) 8, none⟩]) .ret) (.seq (.region [oP 0 23 (.faddr 3 0),
 oP 1 24 (.ldL 23 87 (.c (.int .i64))),
 oP 2 25 (.cmp .eql .i64 (.t 24) (.k (.c (.int .i64 4)))),
 mV 3 22 25]) (.cond (.t 22) (.seq (.region [mV 0 26 0,
 oP 1 27 (.ldL 5 89 (.agg (iS 3))),
 oP 2 28 (.faddr 3 2),
 oP 3 29 (.ldL 28 87 (.c (.int .i64))),
 oP 4 30 (.call 50 [.t 26, .t 27, .t 29] [.agg [.int .i64, .int .i64, .int .i64, .int .u8, .int .i64, .int .i64, .int .i64, .int .i64]]),
 ⟨5, none, .stL 4 88 (.t 30) 8, none⟩]) .ret) (.seq (.region [oP 0 32 (.faddr 3 0),
 oP 1 33 (.ldL 32 87 (.c (.int .i64))),
 oP 2 34 (.cmp .eql .i64 (.t 33) (.k (.c (.int .i64 5)))),
 mV 3 31 34]) (.cond (.t 31) (.seq (.region [mV 0 35 0,
 oP 1 36 (.ldL 5 89 (.agg (iS 3))),
 oP 2 37 (.call 51 [.t 35, .t 36] [])]) (.seq (.region [oP 0 38 (.build [.int .i64 0, .int .i64 0, .int .i64 0, .int .u8 0, .int .i64 0, .int .i64 0, .int .i64 0, .int .i64 0] []),
 ⟨1, none, .stL 4 88 (.t 38) 8, none⟩]) .ret)) (.seq (.region [oP 0 40 (.faddr 3 0),
 oP 1 41 (.ldL 40 87 (.c (.int .i64))),
 oP 2 42 (.cmp .eql .i64 (.t 41) (.k (.c (.int .i64 6)))),
 mV 3 39 42]) (.cond (.t 39) (.seq (.region [oP 0 43 (.faddr 5 1),
 oP 1 44 (.ldL 43 89 (.c (.int .i64))),
 oP 2 45 (.build [.int .i64 0, .int .i64 0, .int .i64 0, .int .u8 0, .int .i64 0, .int .i64 0, .int .i64 0, .int .i64 0] [(2, 1, .t 44)]),
 ⟨3, none, .stL 4 88 (.t 45) 8, none⟩]) .ret) (.seq (.region [oP 0 47 (.faddr 3 4),
 oP 1 48 (.ldL 47 87 (.c (.int .i64))),
 oP 2 49 (.cmp .lss .i64 (.t 48) (.k (.c (.int .i64 0)))),
 mV 3 50 49,
 ⟨4, some 51, .faddr 3 4, some (50, false)⟩,
 ⟨5, some 52, .ldL 51 87 (.c (.int .i64)), some (50, false)⟩,
 ⟨6, some 53, .faddr 5 1, some (50, false)⟩,
 ⟨7, some 54, .ldL 53 89 (.c (.int .i64)), some (50, false)⟩,
 ⟨8, some 55, .cmp .geq .i64 (.t 52) (.t 54), some (50, false)⟩,
 oP 9 56 (.pick (.t 50) (.k (.c (.bool true))) (.t 55)),
 mV 10 46 56]) (.cut [0, 3, 4, 5, 46, 87, 88, 89] c31))))))))))) c46))) }
def k46 : Kont := execC M.j C (M.ag C) c46 ({ exits := [], ret := retK d } : Env) (retK d)
def e41 : Env := { exits := (0, (k46 M C)) :: (({ exits := [], ret := retK d } : Env)).exits, ret := (({ exits := [], ret := retK d } : Env)).ret }
def J31 (u1i u1o : Nat) (u2 : Bool) (u3 u4 u5 u6 u7 u8 u9 u10 u11 u12 u13 u14 u15 u16 u17 u18 u19 : Int) (G : GH) : Option Res := M.j (execC M.j C (M.ag C) c31 (e41 M C) (k46 M C)) (.v (.c (.ptr u1i u1o)) :: (uS 2 (.ref 87 0 :: (.ref 88 0 :: (.ref 89 0 :: (uS 40 (.v (.c (.bool u2)) :: (uS 40 (.box [.int .i64 u3, .int .i64 u4, .int .i64 u5, .int .i64 u6, .int .i64 u7, .int .u8 u8] :: (.box [.int .i64 u9, .int .i64 u10, .int .i64 u11, .int .u8 u12, .int .i64 u13, .int .i64 u14, .int .i64 u15, .int .i64 u16] :: (.box [.int .i64 u17, .int .i64 u18, .int .i64 u19] :: []))))))))))) G
theorem J31_eq (u1i u1o : Nat) (u2 : Bool) (u3 u4 u5 u6 u7 u8 u9 u10 u11 u12 u13 u14 u15 u16 u17 u18 u19 : Int) (G : GH) : J31 M C u1i u1o u2 u3 u4 u5 u6 u7 u8 u9 u10 u11 u12 u13 u14 u15 u16 u17 u18 u19 G = (bif u2 then some ([.agg [.int .i64 9, .int .i64 0, .int .i64 0, .int .u8 0, .int .i64 0, .int .i64 0, .int .i64 0, .int .i64 0]], G) else bif decide (u3 = 7) then guardK (!Nat.beq u1i 0) (((G.ld u1i (u1o + 17)).bind (Cell.asS 1)).bind fun q18 => guardK (decide (0 ≤ IntKind.i64.wrap (u17 + u7) ∧ IntKind.i64.wrap (u17 + u7) < ((q18.2.2 : Nat) : Int))) (((G.ld q18.1 (q18.2.1 + Int.toNat (IntKind.i64.wrap (u17 + u7)) * 1)).bind (Cell.asI .u8)).bind fun q19 => some ([.agg [.int .i64 0, .int .i64 0, .int .i64 0, .int .u8 q19, .int .i64 0, .int .i64 0, .int .i64 0, .int .i64 0]], G))) else guardK (!Nat.beq u1i 0) (((G.ld u1i (u1o + 17)).bind (Cell.asS 1)).bind fun q20 => guardK (decide (0 ≤ IntKind.i64.wrap (u17 + u7) ∧ IntKind.i64.wrap (u17 + u7) < ((q20.2.2 : Nat) : Int))) ((G.sts q20.1 (q20.2.1 + Int.toNat (IntKind.i64.wrap (u17 + u7)) * 1) [.int .u8 u8]).bind fun q21 => some ([.agg [.int .i64 0, .int .i64 0, .int .i64 0, .int .u8 0, .int .i64 0, .int .i64 0, .int .i64 0, .int .i64 0]], q21)))) := (M.hj _ _ _).trans (by kernel_rfl)
def f (u1i u1o : Nat) (u2 u3 u4 u5 u6 u7 : Int) (G : GH) : Option Res := guardK (!Nat.beq u1i 0) (((G.ld u1i (u1o + 11)).bind Cell.asM).bind fun q1 => (G.ents0 (.agg [.int .i64]) q1).bind fun q2 => (((some ((mapGet q2 (.agg [.int .i64 u3])).getD (.agg [.int .i64 0, .int .i64 0, .int .i64 0])))).bind V1.a?).bind fun q3 => if q3.length = 3 then (((q3[0]?).bind (Cell.asI .i64)).bind fun q4 => ((q3[1]?).bind (Cell.asI .i64)).bind fun q5 => ((q3[2]?).bind (Cell.asI .i64)).bind fun q6 => bif (!(mapGet q2 (.agg [.int .i64 u3])).isSome) then some ([.agg [.int .i64 8, .int .i64 0, .int .i64 0, .int .u8 0, .int .i64 0, .int .i64 0, .int .i64 0, .int .i64 0]], G) else bif decide (u2 = 4) then (C heap_Heap_realloc.id [.c (.ptr u1i u1o), .agg [.int .i64 q4, .int .i64 q5, .int .i64 q6], .c (.int .i64 u4)] G).bind fun q7 => ((q7.1[0]?).bind V1.a?).bind fun q8 => if q8.length = 8 then (((q8[0]?).bind (Cell.asI .i64)).bind fun q9 => ((q8[1]?).bind (Cell.asI .i64)).bind fun q10 => ((q8[2]?).bind (Cell.asI .i64)).bind fun q11 => ((q8[3]?).bind (Cell.asI .u8)).bind fun q12 => ((q8[4]?).bind (Cell.asI .i64)).bind fun q13 => ((q8[5]?).bind (Cell.asI .i64)).bind fun q14 => ((q8[6]?).bind (Cell.asI .i64)).bind fun q15 => ((q8[7]?).bind (Cell.asI .i64)).bind fun q16 => some ([.agg [.int .i64 q9, .int .i64 q10, .int .i64 q11, .int .u8 q12, .int .i64 q13, .int .i64 q14, .int .i64 q15, .int .i64 q16]], q7.2)) else none else bif decide (u2 = 5) then (C heap_Heap_gone.id [.c (.ptr u1i u1o), .agg [.int .i64 q4, .int .i64 q5, .int .i64 q6]] G).bind fun q17 => some ([.agg [.int .i64 0, .int .i64 0, .int .i64 0, .int .u8 0, .int .i64 0, .int .i64 0, .int .i64 0, .int .i64 0]], q17.2) else bif decide (u2 = 6) then some ([.agg [.int .i64 0, .int .i64 0, .int .i64 q5, .int .u8 0, .int .i64 0, .int .i64 0, .int .i64 0, .int .i64 0]], G) else bif decide (u6 < 0) then J31 M C u1i u1o true u2 u3 u4 u5 u6 u7 0 0 0 0 0 0 0 0 q4 q5 q6 G else J31 M C u1i u1o (decide (u6 ≥ q5)) u2 u3 u4 u5 u6 u7 0 0 0 0 0 0 0 0 q4 q5 q6 G) else none)
theorem eq (u1i u1o : Nat) (u2 u3 u4 u5 u6 u7 : Int) (G : GH) : runF M C d [.c (.ptr u1i u1o), .agg [.int .i64 u2, .int .i64 u3, .int .i64 u4, .int .i64 u5, .int .i64 u6, .int .u8 u7]] G = f M C u1i u1o u2 u3 u4 u5 u6 u7 G := by kernel_rfl
end heap_Heap_block
namespace heap_Heap_realloc
def c24 : DCode := (.seq (.region [oP 0 74 (.ldL 11 78 (.agg [.int .i64, .int .i64, .int .i64, .int .u8, .int .i64, .int .i64, .int .i64, .int .i64])),
 ⟨1, none, .stL 6 76 (.t 74) 8, none⟩]) .ret)
def d : DFn := { ntmps := 79, res := [.box 6 (some 8)], body := (.seq (.region [oP 0 4 (.boxv 75 [21, 35, 37, 39] (.t 1) 3),
 oP 1 6 (.boxz 76 [] [.int .i64 0, .int .i64 0, .int .i64 0, .int .u8 0, .int .i64 0, .int .i64 0, .int .i64 0, .int .i64 0])]) (.seq (.region [mV 0 13 0,
 oP 1 14 (.nilck (.t 13)),
 oP 2 15 (.faddr 14 0),
 oP 3 16 (.ldG 15 (.agg (iS 8))),
 mV 4 17 0,
 oP 5 18 (.nilck (.t 17)),
 oP 6 19 (.faddr 18 12),
 oP 7 20 (.ldG 19 (.c (.int .i64))),
 oP 8 21 (.faddr 4 1),
 oP 9 22 (.ldL 21 75 (.c (.int .i64))),
 mV 10 23 2,
 oP 11 24 (.call 63 [.t 16, .t 20, .t 22, .t 23] [.c (.int .i64), .c (.int .i64)]),
 mV 12 12 24,
 oP 13 25 (.ext 12 0),
 oP 14 26 (.ext 12 1),
 mV 15 7 25,
 mV 16 8 26]) (.seq (.seq (.region [mV 0 27 8,
 oP 1 28 (.cmp .neq .i64 (.t 27) (.k (.c (.int .i64 0))))]) (.cond (.t 28) (.seq (.region [mV 0 29 8,
 oP 1 30 (.build [.int .i64 0, .int .i64 0, .int .i64 0, .int .u8 0, .int .i64 0, .int .i64 0, .int .i64 0, .int .i64 0] [(0, 1, .t 29)]),
 ⟨2, none, .stL 6 76 (.t 30) 8, none⟩]) .ret) .skip)) (.seq (.region [mV 0 31 0,
 oP 1 32 (.nilck (.t 31)),
 oP 2 33 (.faddr 32 17),
 oP 3 34 (.ldG 33 (.c (.sl 1))),
 oP 4 35 (.faddr 4 0),
 oP 5 36 (.ldL 35 75 (.c (.int .i64))),
 oP 6 37 (.faddr 4 0),
 oP 7 38 (.ldL 37 75 (.c (.int .i64))),
 oP 8 39 (.faddr 4 1),
 oP 9 40 (.ldL 39 75 (.c (.int .i64))),
 mV 10 41 7,
 oP 11 42 (.mn (.t 40) [.t 41]),
 oP 12 43 (.bin .add .i64 (.t 38) (.t 42)),
 oP 13 44 (.slice (.t 34) (some (.t 36)) (some (.t 43)) 1),
 mV 15 46 0,
 oP 16 47 (.nilck (.t 46)),
 oP 17 48 (.faddr 47 8),
 oP 18 49 (.ldG 48 (.agg [.int .i64, .sl 2, .sl 2])),
 oP 19 10 (.boxz 77 [] [.int .i64 0, .sl 2 0 0 0, .sl 2 0 0 0]),
 oP 14 45 (.call 64 [.t 44] [.c (.sl 1)]),
 ⟨9999, none, .reG 49 48 (.agg [.int .i64, .sl 2, .sl 2]), none⟩,
 mV 20 9 45,
 ⟨21, none, .stL 10 77 (.t 49) 3, none⟩]) (.seq (.region [mV 0 50 0,
 oP 1 51 (.ldL 4 75 (.agg (iS 3))),
 oP 2 52 (.call 51 [.t 50, .t 51] [])]) (.seq (.region [mV 0 53 0,
 mV 1 54 7,
 mV 2 55 2,
 oP 3 56 (.call 47 [.t 53, .t 54, .t 55, .k (.c (.int .i64 0))] [.agg [.int .i64, .int .i64, .int .i64, .int .u8, .int .i64, .int .i64, .int .i64, .int .i64]]),
 oP 4 11 (.boxz 78 [57, 69] [.int .i64 0, .int .i64 0, .int .i64 0, .int .u8 0, .int .i64 0, .int .i64 0, .int .i64 0, .int .i64 0]),
 ⟨5, none, .stL 11 78 (.t 56) 8, none⟩]) (.seq (.seq (.region [oP 0 57 (.faddr 11 0),
 oP 1 58 (.ldL 57 78 (.c (.int .i64))),
 oP 2 59 (.cmp .neq .i64 (.t 58) (.k (.c (.int .i64 0))))]) (.cond (.t 59) (.seq (.region [mV 0 60 0,
 oP 1 61 (.ldL 4 75 (.agg (iS 3))),
 oP 2 62 (.ldL 10 77 (.agg [.int .i64, .sl 2, .sl 2])),
 oP 3 63 (.call 65 [.t 60, .t 61, .t 62] [])]) (.seq (.region [oP 0 64 (.ldL 11 78 (.agg [.int .i64, .int .i64, .int .i64, .int .u8, .int .i64, .int .i64, .int .i64, .int .i64])),
 ⟨1, none, .stL 6 76 (.t 64) 8, none⟩]) .ret)) .skip)) (.seq (.region [mV 0 65 0,
 oP 1 66 (.nilck (.t 65)),
 oP 2 67 (.faddr 66 17),
 oP 3 68 (.ldG 67 (.c (.sl 1))),
 oP 4 69 (.faddr 11 1),
 oP 5 70 (.ldL 69 78 (.c (.int .i64))),
 oP 6 71 (.slice (.t 68) (some (.t 70)) none 1),
 mV 7 72 9,
 oP 8 73 (.copy (.t 71) (.t 72) 1)]) (.cut [6, 11, 76, 78] c24))))))))) }
def J24 (u1 u2 u3 u4 u5 u6 u7 u8 u9 u10 u11 u12 u13 u14 u15 u16 : Int) (G : GH) : Option Res := M.j (execC M.j C (M.ag C) c24 ({ exits := [], ret := retK d } : Env) (retK d)) (uS 6 (.ref 76 0 :: (uS 4 (.ref 78 0 :: (uS 64 (.box [.int .i64 u1, .int .i64 u2, .int .i64 u3, .int .u8 u4, .int .i64 u5, .int .i64 u6, .int .i64 u7, .int .i64 u8] :: (uS 1 (.box [.int .i64 u9, .int .i64 u10, .int .i64 u11, .int .u8 u12, .int .i64 u13, .int .i64 u14, .int .i64 u15, .int .i64 u16] :: [])))))))) G
theorem J24_eq (u1 u2 u3 u4 u5 u6 u7 u8 u9 u10 u11 u12 u13 u14 u15 u16 : Int) (G : GH) : J24 M C u1 u2 u3 u4 u5 u6 u7 u8 u9 u10 u11 u12 u13 u14 u15 u16 G = (some ([.agg [.int .i64 u9, .int .i64 u10, .int .i64 u11, .int .u8 u12, .int .i64 u13, .int .i64 u14, .int .i64 u15, .int .i64 u16]], G)) := (M.hj _ _ _).trans (by kernel_rfl)
def f (u1i u1o : Nat) (u2 u3 u4 u5 : Int) (G : GH) : Option Res := guardK (!Nat.beq u1i 0) (((G.ld u1i ((u1o + 0) + 0)).bind (Cell.asI .i64)).bind fun q1 => ((G.ld u1i ((u1o + 0) + 1)).bind (Cell.asI .i64)).bind fun q2 => ((G.ld u1i ((u1o + 0) + 2)).bind (Cell.asI .i64)).bind fun q3 => ((G.ld u1i ((u1o + 0) + 3)).bind (Cell.asI .i64)).bind fun q4 => ((G.ld u1i ((u1o + 0) + 4)).bind (Cell.asI .i64)).bind fun q5 => ((G.ld u1i ((u1o + 0) + 5)).bind (Cell.asI .i64)).bind fun q6 => ((G.ld u1i ((u1o + 0) + 6)).bind (Cell.asI .i64)).bind fun q7 => ((G.ld u1i ((u1o + 0) + 7)).bind (Cell.asI .i64)).bind fun q8 => guardK (!Nat.beq u1i 0) (((G.ld u1i (u1o + 12)).bind (Cell.asI .i64)).bind fun q9 => (C admit_Anew.id [.agg [.int .i64 q1, .int .i64 q2, .int .i64 q3, .int .i64 q4, .int .i64 q5, .int .i64 q6, .int .i64 q7, .int .i64 q8], .c (.int .i64 q9), .c (.int .i64 u3), .c (.int .i64 u5)] G).bind fun q10 => (((q10.1[0]?).bind V1.c?).bind (Cell.asI .i64)).bind fun q11 => (((q10.1[1]?).bind V1.c?).bind (Cell.asI .i64)).bind fun q12 => bif (!decide (q12 = 0)) then some ([.agg [.int .i64 q12, .int .i64 0, .int .i64 0, .int .u8 0, .int .i64 0, .int .i64 0, .int .i64 0, .int .i64 0]], q10.2) else guardK (!Nat.beq u1i 0) (((q10.2.ld u1i (u1o + 17)).bind (Cell.asS 1)).bind fun q13 => guardK (decide (0 ≤ u2 ∧ u2 ≤ IntKind.i64.wrap (u2 + (mn2 u3 q11)) ∧ IntKind.i64.wrap (u2 + (mn2 u3 q11)) ≤ ((q13.2.2 : Nat) : Int))) (guardK (!Nat.beq u1i 0) (((q10.2.ld u1i ((u1o + 8) + 0)).bind (Cell.asI .i64)).bind fun q14 => ((q10.2.ld u1i ((u1o + 8) + 1)).bind (Cell.asS 2)).bind fun q15 => ((q10.2.ld u1i ((u1o + 8) + 2)).bind (Cell.asS 2)).bind fun q16 => (C slices_Clone_byte_byte.id [.c (.sl 1 q13.1 (q13.2.1 + Int.toNat u2 * 1) (Int.toNat (IntKind.i64.wrap (u2 + (mn2 u3 q11))) - Int.toNat u2))] q10.2).bind fun q17 => (((q17.1[0]?).bind V1.c?).bind (Cell.asS 1)).bind fun q18 => ((q17.2.ld u1i ((u1o + 8) + 0)).bind (Cell.asI .i64)).bind fun q19 => ((q17.2.ld u1i ((u1o + 8) + 1)).bind (Cell.asS 2)).bind fun q20 => ((q17.2.ld u1i ((u1o + 8) + 2)).bind (Cell.asS 2)).bind fun q21 => guardK (decide ((.agg [.int .i64 q14, .sl 2 q15.1 q15.2.1 q15.2.2, .sl 2 q16.1 q16.2.1 q16.2.2] : V1) = .agg [.int .i64 q19, .sl 2 q20.1 q20.2.1 q20.2.2, .sl 2 q21.1 q21.2.1 q21.2.2])) ((C heap_Heap_gone.id [.c (.ptr u1i u1o), .agg [.int .i64 u2, .int .i64 u3, .int .i64 u4]] q17.2).bind fun q22 => (C heap_Heap_asks.id [.c (.ptr u1i u1o), .c (.int .i64 q11), .c (.int .i64 u5), .c (.int .i64 0)] q22.2).bind fun q23 => ((q23.1[0]?).bind V1.a?).bind fun q24 => if q24.length = 8 then (((q24[0]?).bind (Cell.asI .i64)).bind fun q25 => ((q24[1]?).bind (Cell.asI .i64)).bind fun q26 => ((q24[2]?).bind (Cell.asI .i64)).bind fun q27 => ((q24[3]?).bind (Cell.asI .u8)).bind fun q28 => ((q24[4]?).bind (Cell.asI .i64)).bind fun q29 => ((q24[5]?).bind (Cell.asI .i64)).bind fun q30 => ((q24[6]?).bind (Cell.asI .i64)).bind fun q31 => ((q24[7]?).bind (Cell.asI .i64)).bind fun q32 => bif (!decide (q25 = 0)) then (C heap_Heap_back.id [.c (.ptr u1i u1o), .agg [.int .i64 u2, .int .i64 u3, .int .i64 u4], .agg [.int .i64 q14, .sl 2 q15.1 q15.2.1 q15.2.2, .sl 2 q16.1 q16.2.1 q16.2.2]] q23.2).bind fun q33 => some ([.agg [.int .i64 q25, .int .i64 q26, .int .i64 q27, .int .u8 q28, .int .i64 q29, .int .i64 q30, .int .i64 q31, .int .i64 q32]], q33.2) else guardK (!Nat.beq u1i 0) (((q23.2.ld u1i (u1o + 17)).bind (Cell.asS 1)).bind fun q34 => guardK (decide (0 ≤ q26 ∧ q26 ≤ ((q34.2.2 : Nat) : Int) ∧ ((q34.2.2 : Nat) : Int) ≤ ((q34.2.2 : Nat) : Int))) (if Int.toNat ((q34.2.2 : Nat) : Int) - Int.toNat q26 = 0 ∨ q18.2.2 = 0 then J24 M C 0 0 0 0 0 0 0 0 q25 q26 q27 q28 q29 q30 q31 q32 q23.2 else (q23.2.lds q18.1 q18.2.1 (min q18.2.2 (Int.toNat ((q34.2.2 : Nat) : Int) - Int.toNat q26) * 1)).bind fun q35 => (q23.2.sts q34.1 (q34.2.1 + Int.toNat q26 * 1) q35).bind fun q36 => J24 M C 0 0 0 0 0 0 0 0 q25 q26 q27 q28 q29 q30 q31 q32 q36))) else none))))))
theorem eq (u1i u1o : Nat) (u2 u3 u4 u5 : Int) (G : GH) : runF M C d [.c (.ptr u1i u1o), .agg [.int .i64 u2, .int .i64 u3, .int .i64 u4], .c (.int .i64 u5)] G = f M C u1i u1o u2 u3 u4 u5 G := by kernel_rfl
end heap_Heap_realloc
namespace heap_Heap_calloc
def c11 : DCode := (.seq (.region [oP 0 55 (.ldL 11 57 (.agg [.int .i64, .int .i64, .int .i64, .int .u8, .int .i64, .int .i64, .int .i64, .int .i64])),
 ⟨1, none, .stL 6 56 (.t 55) 8, none⟩]) .ret)
def d : DFn := { ntmps := 58, res := [.box 6 (some 8)], body := (.seq (.region [oP 0 6 (.boxz 56 [] [.int .i64 0, .int .i64 0, .int .i64 0, .int .u8 0, .int .i64 0, .int .i64 0, .int .i64 0, .int .i64 0])]) (.seq (.region [mV 0 13 0,
 oP 1 14 (.nilck (.t 13)),
 oP 2 15 (.faddr 14 0),
 oP 3 16 (.ldG 15 (.agg (iS 8))),
 mV 4 17 0,
 oP 5 18 (.nilck (.t 17)),
 oP 6 19 (.faddr 18 12),
 oP 7 20 (.ldG 19 (.c (.int .i64))),
 mV 8 21 1,
 mV 9 22 2,
 oP 10 23 (.call 48 [.t 16, .t 20, .t 21, .t 22] [.c (.int .i64), .c (.int .i64)]),
 mV 11 12 23,
 oP 12 24 (.ext 12 0),
 oP 13 25 (.ext 12 1),
 mV 14 7 24,
 mV 15 8 25]) (.seq (.region [mV 0 27 0,
 oP 1 28 (.nilck (.t 27)),
 oP 2 29 (.faddr 28 0),
 oP 3 30 (.ldG 29 (.agg (iS 8))),
 mV 4 31 1,
 mV 5 32 2,
 oP 6 33 (.call 49 [.t 30, .t 31, .t 32] [.c (.int .i64), .c (.int .i64)]),
 mV 7 26 33,
 oP 8 34 (.ext 26 0),
 oP 9 35 (.ext 26 1),
 mV 10 9 34,
 mV 11 10 35]) (.seq (.region [mV 0 36 0,
 mV 1 37 7,
 mV 2 38 9,
 mV 3 39 8,
 oP 4 40 (.call 47 [.t 36, .t 37, .t 38, .t 39] [.agg [.int .i64, .int .i64, .int .i64, .int .u8, .int .i64, .int .i64, .int .i64, .int .i64]]),
 oP 5 11 (.boxz 57 [41, 48, 50] [.int .i64 0, .int .i64 0, .int .i64 0, .int .u8 0, .int .i64 0, .int .i64 0, .int .i64 0, .int .i64 0]),
 ⟨6, none, .stL 11 57 (.t 40) 8, none⟩]) (.seq (.seq (.region [oP 0 41 (.faddr 11 0),
 oP 1 42 (.ldL 41 57 (.c (.int .i64))),
 oP 2 43 (.cmp .eql .i64 (.t 42) (.k (.c (.int .i64 0))))]) (.cond (.t 43) (.region [mV 0 44 0,
 oP 1 45 (.nilck (.t 44)),
 oP 2 46 (.faddr 45 17),
 oP 3 47 (.ldG 46 (.c (.sl 1))),
 oP 4 48 (.faddr 11 1),
 oP 5 49 (.ldL 48 57 (.c (.int .i64))),
 oP 6 50 (.faddr 11 1),
 oP 7 51 (.ldL 50 57 (.c (.int .i64))),
 mV 8 52 7,
 oP 9 53 (.bin .add .i64 (.t 51) (.t 52)),
 oP 10 54 (.slice (.t 47) (some (.t 49)) (some (.t 53)) 1),
 ⟨11, none, .clear (.t 54) [.int .u8 0], none⟩]) .skip)) (.cut [6, 11, 56, 57] c11)))))) }
def J11 (u1 u2 u3 u4 u5 u6 u7 u8 u9 u10 u11 u12 u13 u14 u15 u16 : Int) (G : GH) : Option Res := M.j (execC M.j C (M.ag C) c11 ({ exits := [], ret := retK d } : Env) (retK d)) (uS 6 (.ref 56 0 :: (uS 4 (.ref 57 0 :: (uS 44 (.box [.int .i64 u1, .int .i64 u2, .int .i64 u3, .int .u8 u4, .int .i64 u5, .int .i64 u6, .int .i64 u7, .int .i64 u8] :: (.box [.int .i64 u9, .int .i64 u10, .int .i64 u11, .int .u8 u12, .int .i64 u13, .int .i64 u14, .int .i64 u15, .int .i64 u16] :: []))))))) G
theorem J11_eq (u1 u2 u3 u4 u5 u6 u7 u8 u9 u10 u11 u12 u13 u14 u15 u16 : Int) (G : GH) : J11 M C u1 u2 u3 u4 u5 u6 u7 u8 u9 u10 u11 u12 u13 u14 u15 u16 G = (some ([.agg [.int .i64 u9, .int .i64 u10, .int .i64 u11, .int .u8 u12, .int .i64 u13, .int .i64 u14, .int .i64 u15, .int .i64 u16]], G)) := (M.hj _ _ _).trans (by kernel_rfl)
def f (u1i u1o : Nat) (u2 u3 : Int) (G : GH) : Option Res := guardK (!Nat.beq u1i 0) (((G.ld u1i ((u1o + 0) + 0)).bind (Cell.asI .i64)).bind fun q1 => ((G.ld u1i ((u1o + 0) + 1)).bind (Cell.asI .i64)).bind fun q2 => ((G.ld u1i ((u1o + 0) + 2)).bind (Cell.asI .i64)).bind fun q3 => ((G.ld u1i ((u1o + 0) + 3)).bind (Cell.asI .i64)).bind fun q4 => ((G.ld u1i ((u1o + 0) + 4)).bind (Cell.asI .i64)).bind fun q5 => ((G.ld u1i ((u1o + 0) + 5)).bind (Cell.asI .i64)).bind fun q6 => ((G.ld u1i ((u1o + 0) + 6)).bind (Cell.asI .i64)).bind fun q7 => ((G.ld u1i ((u1o + 0) + 7)).bind (Cell.asI .i64)).bind fun q8 => guardK (!Nat.beq u1i 0) (((G.ld u1i (u1o + 12)).bind (Cell.asI .i64)).bind fun q9 => (C admit_Many.id [.agg [.int .i64 q1, .int .i64 q2, .int .i64 q3, .int .i64 q4, .int .i64 q5, .int .i64 q6, .int .i64 q7, .int .i64 q8], .c (.int .i64 q9), .c (.int .i64 u2), .c (.int .i64 u3)] G).bind fun q10 => (((q10.1[0]?).bind V1.c?).bind (Cell.asI .i64)).bind fun q11 => (((q10.1[1]?).bind V1.c?).bind (Cell.asI .i64)).bind fun q12 => guardK (!Nat.beq u1i 0) (((q10.2.ld u1i ((u1o + 0) + 0)).bind (Cell.asI .i64)).bind fun q13 => ((q10.2.ld u1i ((u1o + 0) + 1)).bind (Cell.asI .i64)).bind fun q14 => ((q10.2.ld u1i ((u1o + 0) + 2)).bind (Cell.asI .i64)).bind fun q15 => ((q10.2.ld u1i ((u1o + 0) + 3)).bind (Cell.asI .i64)).bind fun q16 => ((q10.2.ld u1i ((u1o + 0) + 4)).bind (Cell.asI .i64)).bind fun q17 => ((q10.2.ld u1i ((u1o + 0) + 5)).bind (Cell.asI .i64)).bind fun q18 => ((q10.2.ld u1i ((u1o + 0) + 6)).bind (Cell.asI .i64)).bind fun q19 => ((q10.2.ld u1i ((u1o + 0) + 7)).bind (Cell.asI .i64)).bind fun q20 => (C class_Product.id [.agg [.int .i64 q13, .int .i64 q14, .int .i64 q15, .int .i64 q16, .int .i64 q17, .int .i64 q18, .int .i64 q19, .int .i64 q20], .c (.int .i64 u2), .c (.int .i64 u3)] q10.2).bind fun q21 => (((q21.1[0]?).bind V1.c?).bind (Cell.asI .i64)).bind fun q22 => (((q21.1[1]?).bind V1.c?).bind (Cell.asI .i64)).bind fun q23 => (C heap_Heap_asks.id [.c (.ptr u1i u1o), .c (.int .i64 q11), .c (.int .i64 q22), .c (.int .i64 q12)] q21.2).bind fun q24 => ((q24.1[0]?).bind V1.a?).bind fun q25 => if q25.length = 8 then (((q25[0]?).bind (Cell.asI .i64)).bind fun q26 => ((q25[1]?).bind (Cell.asI .i64)).bind fun q27 => ((q25[2]?).bind (Cell.asI .i64)).bind fun q28 => ((q25[3]?).bind (Cell.asI .u8)).bind fun q29 => ((q25[4]?).bind (Cell.asI .i64)).bind fun q30 => ((q25[5]?).bind (Cell.asI .i64)).bind fun q31 => ((q25[6]?).bind (Cell.asI .i64)).bind fun q32 => ((q25[7]?).bind (Cell.asI .i64)).bind fun q33 => bif decide (q26 = 0) then guardK (!Nat.beq u1i 0) (((q24.2.ld u1i (u1o + 17)).bind (Cell.asS 1)).bind fun q34 => guardK (decide (0 ≤ q27 ∧ q27 ≤ IntKind.i64.wrap (q27 + q11) ∧ IntKind.i64.wrap (q27 + q11) ≤ ((q34.2.2 : Nat) : Int))) (if Int.toNat (IntKind.i64.wrap (q27 + q11)) - Int.toNat q27 = 0 then J11 M C 0 0 0 0 0 0 0 0 q26 q27 q28 q29 q30 q31 q32 q33 q24.2 else (q24.2.sts q34.1 (q34.2.1 + Int.toNat q27 * 1) (reps (Int.toNat (IntKind.i64.wrap (q27 + q11)) - Int.toNat q27) [.int .u8 0])).bind fun q35 => J11 M C 0 0 0 0 0 0 0 0 q26 q27 q28 q29 q30 q31 q32 q33 q35)) else J11 M C 0 0 0 0 0 0 0 0 q26 q27 q28 q29 q30 q31 q32 q33 q24.2) else none)))
theorem eq (u1i u1o : Nat) (u2 u3 : Int) (G : GH) : runF M C d [.c (.ptr u1i u1o), .c (.int .i64 u2), .c (.int .i64 u3)] G = f M C u1i u1o u2 u3 G := by kernel_rfl
end heap_Heap_calloc
namespace commit_Trim
def c13 : DCode := (.cond (.t 30) (.seq (.region [mV 0 31 4,
 mV 1 32 6,
 oP 2 33 (.iaddr (.t 31) (.t 32) 1),
 ⟨3, none, .stG 33 (.k (.c (.bool false))) 1, none⟩]) (.region [mV 0 34 5,
 oP 1 35 (.bin .add .i64 (.t 34) (.k (.c (.int .i64 1)))),
 mV 2 5 35])) .skip)
def c17 : DCode := (.region [oP 0 36 (.bin .add .i64 (.t 12) (.k (.c (.int .i64 1)))),
 mV 1 12 36])
def c20 : DCode := (.seq (.region [oP 0 13 (.cmp .lss .i64 (.t 12) (.t 11))]) (.seq (.cond (.t 13) .skip (.exit 0)) (.seq (.block 1 (.seq (.region [mV 0 14 12,
 oP 1 15 (.iaddr (.t 10) (.t 12) 1),
 oP 2 16 (.ldG 15 (.c (.bool))),
 mV 3 6 14,
 mV 4 7 16]) (.seq (.region [mV 0 17 7,
 mV 1 18 17,
 ⟨2, some 19, .move (.t 6), some (18, true)⟩,
 ⟨3, some 20, .move (.t 1), some (18, true)⟩,
 ⟨4, some 21, .len (.t 20), some (18, true)⟩,
 ⟨5, some 22, .cmp .geq .i64 (.t 19) (.t 21), some (18, true)⟩,
 ⟨6, some 23, .move (.t 22), some (18, true)⟩,
 ⟨7, some 24, .move (.t 1), some (23, false)⟩,
 ⟨8, some 25, .move (.t 6), some (23, false)⟩,
 ⟨9, some 26, .iaddr (.t 24) (.t 25) 1, some (23, false)⟩,
 ⟨10, some 27, .ldG 26 (.c (.bool)), some (23, false)⟩,
 ⟨11, some 28, .not (.t 27), some (23, false)⟩,
 ⟨12, some 29, .pick (.t 23) (.k (.c (.bool true))) (.t 28), some (18, true)⟩,
 oP 13 30 (.pick (.t 18) (.t 29) (.k (.c (.bool false))))]) (.cut [1, 4, 5, 6, 10, 11, 12, 30] c13)))) (.cut [1, 4, 5, 10, 11, 12] c17))))
def c21 : DCode := (.loop [1, 4, 5, 10, 11, 12] c20)
def c26 : DCode := (.seq (.region [mV 0 37 4,
 mV 1 38 5,
 mV 2 4 37,
 mV 3 5 38]) .ret)
def d : DFn := { ntmps := 39, res := [.t 4, .t 5], body := (.seq (.region [oP 0 4 (.move (.k (.c (.sl 1 0 0 0)))),
 oP 1 5 (.move (.k (.c (.int .i64 0))))]) (.seq (.region [mV 0 8 0,
 oP 1 9 (.call 52 [.t 8] [.c (.sl 1)]),
 mV 2 4 9]) (.seq (.seq (.region [mV 0 10 0,
 oP 1 11 (.len (.t 10)),
 oP 2 12 (.move (.k (.c (.int .i64 0))))]) (.block 0 c21)) c26))) }
def k26 : Kont := execC M.j C (M.ag C) c26 ({ exits := [], ret := retK d } : Env) (retK d)
def e22 : Env := { exits := (0, (k26 M C)) :: (({ exits := [], ret := retK d } : Env)).exits, ret := (({ exits := [], ret := retK d } : Env)).ret }
def L21 (u1i u1o u1n u2i u2o u2n : Nat) (u3 : Int) (u4i u4o u4n : Nat) (u5 u6 : Int) (G : GH) : Option Res := M.ag C [1, 4, 5, 10, 11, 12] c20 (e22 M C) (k26 M C) (uS 1 (.v (.c (.sl 1 u1i u1o u1n)) :: (uS 2 (.v (.c (.sl 1 u2i u2o u2n)) :: (.v (.c (.int .i64 u3)) :: (uS 4 (.v (.c (.sl 1 u4i u4o u4n)) :: (.v (.c (.int .i64 u5)) :: (.v (.c (.int .i64 u6)) :: (uS 26 [])))))))))) G
def k21 : Kont := fun tm G => M.ag C [1, 4, 5, 10, 11, 12] c20 (e22 M C) (k26 M C) (restr [1, 4, 5, 10, 11, 12] 0 tm) G
def k17 : Kont := execC M.j C (M.ag C) (.cut [1, 4, 5, 10, 11, 12] c17) (e22 M C) (k21 M C)
def e16 : Env := { exits := (1, (k17 M C)) :: ((e22 M C)).exits, ret := ((e22 M C)).ret }
def J13 (u1i u1o u1n u2i u2o u2n : Nat) (u3 u4 : Int) (u5i u5o u5n : Nat) (u6 u7 : Int) (u8 : Bool) (G : GH) : Option Res := M.j (execC M.j C (M.ag C) c13 (e16 M C) (k17 M C)) (uS 1 (.v (.c (.sl 1 u1i u1o u1n)) :: (uS 2 (.v (.c (.sl 1 u2i u2o u2n)) :: (.v (.c (.int .i64 u3)) :: (.v (.c (.int .i64 u4)) :: (uS 3 (.v (.c (.sl 1 u5i u5o u5n)) :: (.v (.c (.int .i64 u6)) :: (.v (.c (.int .i64 u7)) :: (uS 17 (.v (.c (.bool u8)) :: (uS 8 []))))))))))))) G
def J17 (u1i u1o u1n u2i u2o u2n : Nat) (u3 : Int) (u4i u4o u4n : Nat) (u5 u6 : Int) (G : GH) : Option Res := M.j (execC M.j C (M.ag C) c17 (e22 M C) (k21 M C)) (uS 1 (.v (.c (.sl 1 u1i u1o u1n)) :: (uS 2 (.v (.c (.sl 1 u2i u2o u2n)) :: (.v (.c (.int .i64 u3)) :: (uS 4 (.v (.c (.sl 1 u4i u4o u4n)) :: (.v (.c (.int .i64 u5)) :: (.v (.c (.int .i64 u6)) :: (uS 26 [])))))))))) G
theorem L21_eq (u1i u1o u1n u2i u2o u2n : Nat) (u3 : Int) (u4i u4o u4n : Nat) (u5 u6 : Int) (G : GH) : L21 M C u1i u1o u1n u2i u2o u2n u3 u4i u4o u4n u5 u6 G = (bif decide (u6 < u5) then guardK (decide (0 ≤ u6 ∧ u6 < ((u4n : Nat) : Int))) (((G.ld u4i (u4o + Int.toNat u6 * 1)).bind Cell.asB).bind fun q3 => bif q3 then bif decide (u6 ≥ ((u1n : Nat) : Int)) then J13 M C u1i u1o u1n u2i u2o u2n u3 u6 u4i u4o u4n u5 u6 true G else guardK (decide (0 ≤ u6 ∧ u6 < ((u1n : Nat) : Int))) (((G.ld u1i (u1o + Int.toNat u6 * 1)).bind Cell.asB).bind fun q4 => J13 M C u1i u1o u1n u2i u2o u2n u3 u6 u4i u4o u4n u5 u6 (!q4) G) else J13 M C u1i u1o u1n u2i u2o u2n u3 u6 u4i u4o u4n u5 u6 false G) else some ([.c (.sl 1 u2i u2o u2n), .c (.int .i64 u3)], G)) := (M.hs _ _ _ _ _ _ _).trans (by kernel_rfl)
theorem J13_eq (u1i u1o u1n u2i u2o u2n : Nat) (u3 u4 : Int) (u5i u5o u5n : Nat) (u6 u7 : Int) (u8 : Bool) (G : GH) : J13 M C u1i u1o u1n u2i u2o u2n u3 u4 u5i u5o u5n u6 u7 u8 G = (bif u8 then guardK (decide (0 ≤ u4 ∧ u4 < ((u2n : Nat) : Int))) ((G.sts u2i (u2o + Int.toNat u4 * 1) [.bool false]).bind fun q5 => J17 M C u1i u1o u1n u2i u2o u2n (IntKind.i64.wrap (u3 + 1)) u5i u5o u5n u6 u7 q5) else J17 M C u1i u1o u1n u2i u2o u2n u3 u5i u5o u5n u6 u7 G) := (M.hj _ _ _).trans (by kernel_rfl)
theorem J17_eq (u1i u1o u1n u2i u2o u2n : Nat) (u3 : Int) (u4i u4o u4n : Nat) (u5 u6 : Int) (G : GH) : J17 M C u1i u1o u1n u2i u2o u2n u3 u4i u4o u4n u5 u6 G = (L21 M C u1i u1o u1n u2i u2o u2n u3 u4i u4o u4n u5 (IntKind.i64.wrap (u6 + 1)) G) := (M.hj _ _ _).trans (by kernel_rfl)
def f (u1i u1o u1n u2i u2o u2n : Nat) (G : GH) : Option Res := (C slices_Clone_bool_bool.id [.c (.sl 1 u1i u1o u1n)] G).bind fun q1 => (((q1.1[0]?).bind V1.c?).bind (Cell.asS 1)).bind fun q2 => L21 M C u2i u2o u2n q2.1 q2.2.1 q2.2.2 0 u1i u1o u1n ((u1n : Nat) : Int) 0 q1.2
theorem eq (u1i u1o u1n u2i u2o u2n : Nat) (G : GH) : runF M C d [.c (.sl 1 u1i u1o u1n), .c (.sl 1 u2i u2o u2n)] G = f M C u1i u1o u1n u2i u2o u2n G := by kernel_rfl
end commit_Trim
namespace conf_Ceil
def c6 : DCode := (.cond (.t 12) (.seq (.region [oP 0 4 (.move (.k (.c (.int .i64 0))))]) .ret) .skip)
def c10 : DCode := (.seq (.region [oP 0 13 (.faddr 2 2),
 oP 1 14 (.ldL 13 21 (.c (.int .i64))),
 mV 2 15 1,
 oP 3 16 (.faddr 2 2),
 oP 4 17 (.ldL 16 21 (.c (.int .i64))),
 oP 5 18 (.bin .shr .i64 (.t 17) (.k (.c (.int .u64 1)))),
 oP 6 19 (.bin .mul .i64 (.t 15) (.t 18)),
 oP 7 20 (.bin .add .i64 (.t 14) (.t 19)),
 mV 8 4 20]) .ret)
def d : DFn := { ntmps := 22, res := [.t 4], body := (.seq (.region [oP 0 2 (.boxv 21 [9, 13, 16] (.t 0) 8),
 oP 1 4 (.move (.k (.c (.int .i64 0))))]) (.seq (.seq (.region [mV 0 5 1,
 oP 1 6 (.cmp .lss .i64 (.t 5) (.k (.c (.int .i64 0)))),
 mV 2 7 6,
 ⟨3, some 8, .move (.t 1), some (7, false)⟩,
 ⟨4, some 9, .faddr 2 3, some (7, false)⟩,
 ⟨5, some 10, .ldL 9 21 (.c (.int .i64)), some (7, false)⟩,
 ⟨6, some 11, .cmp .gtr .i64 (.t 8) (.t 10), some (7, false)⟩,
 oP 7 12 (.pick (.t 7) (.k (.c (.bool true))) (.t 11))]) (.cut [1, 2, 12, 21] c6)) c10)) }
def k10 : Kont := execC M.j C (M.ag C) c10 ({ exits := [], ret := retK d } : Env) (retK d)
def J6 (u1 : Int) (u2 : Bool) (u3 u4 u5 u6 u7 u8 u9 u10 : Int) (G : GH) : Option Res := M.j (execC M.j C (M.ag C) c6 ({ exits := [], ret := retK d } : Env) (k10 M C)) (uS 1 (.v (.c (.int .i64 u1)) :: (.ref 21 0 :: (uS 9 (.v (.c (.bool u2)) :: (uS 8 (.box [.int .i64 u3, .int .i64 u4, .int .i64 u5, .int .i64 u6, .int .i64 u7, .int .i64 u8, .int .i64 u9, .int .i64 u10] :: []))))))) G
theorem J6_eq (u1 : Int) (u2 : Bool) (u3 u4 u5 u6 u7 u8 u9 u10 : Int) (G : GH) : J6 M C u1 u2 u3 u4 u5 u6 u7 u8 u9 u10 G = (bif u2 then some ([.c (.int .i64 0)], G) else some ([.c (.int .i64 (IntKind.i64.wrap (u5 + (IntKind.i64.wrap (u1 * (Int.fdiv u5 (2 ^ (min (1 : Int).toNat IntKind.i64.bits))))))))], G)) := (M.hj _ _ _).trans (by kernel_rfl)
def f (u1 u2 u3 u4 u5 u6 u7 u8 u9 : Int) (G : GH) : Option Res := bif decide (u9 < 0) then J6 M C u9 true u1 u2 u3 u4 u5 u6 u7 u8 G else J6 M C u9 (decide (u9 > u4)) u1 u2 u3 u4 u5 u6 u7 u8 G
theorem eq (u1 u2 u3 u4 u5 u6 u7 u8 u9 : Int) (G : GH) : runF M C d [.agg [.int .i64 u1, .int .i64 u2, .int .i64 u3, .int .i64 u4, .int .i64 u5, .int .i64 u6, .int .i64 u7, .int .i64 u8], .c (.int .i64 u9)] G = f M C u1 u2 u3 u4 u5 u6 u7 u8 u9 G := by kernel_rfl
end conf_Ceil

end Go.Proofs.D
