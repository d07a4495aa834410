/- Texts of the proof (T2); no condition. -/
import Derived.Test.YtogdeblppihbnaaTopWilda
import Derived.KernelRfl
set_option linter.unusedSimpArgs false
set_option linter.unusedVariables false
set_option linter.unusedVariables false
set_option maxRecDepth 100000
namespace Go.Proofs.D
open Go
variable (M : Mach) (C : Call)
namespace admit_Many
def d : DFn := { ntmps := 29, res := [.t 8, .t 9], body := (.seq (.region [oP 0 4 (.boxv 28 [] (.t 0) 8),
 oP 1 8 (.move (.k (.c (.int .i64 0)))),
 oP 2 9 (.move (.k (.c (.int .i64 0))))]) (.seq (.region [oP 0 13 (.ldL 4 28 (.agg (iS 8))),
 mV 1 14 2,
 mV 2 15 3,
 oP 3 16 (.call 49 [.t 13, .t 14, .t 15] [.c (.int .i64), .c (.int .i64)]),
 mV 4 12 16,
 oP 5 17 (.ext 12 0),
 oP 6 18 (.ext 12 1),
 mV 7 10 17,
 mV 8 11 18]) (.seq (.seq (.region [mV 0 19 11,
 oP 1 20 (.cmp .neq .i64 (.t 19) (.k (.c (.int .i64 0))))]) (.cond (.t 20) (.seq (.region [mV 0 21 11,
 oP 1 8 (.move (.k (.c (.int .i64 0)))),
 mV 2 9 21]) .ret) .skip)) (.seq (.region [oP 0 22 (.ldL 4 28 (.agg (iS 8))),
 mV 1 23 1,
 mV 2 24 10,
 oP 3 25 (.call 46 [.t 22, .t 23, .t 24, .k (.c (.int .i64 1))] [.c (.int .i64), .c (.int .i64)]),
 oP 4 26 (.ext 25 0),
 oP 5 27 (.ext 25 1),
 mV 6 8 26,
 mV 7 9 27]) .ret)))) }
def f (M : Mach) (C : Call) (u1 u2 u3 u4 u5 u6 u7 u8 u9 u10 u11 : Int) (G : GH) : Option Res := (C class_Product.id [.agg [.int .i64 u1, .int .i64 u2, .int .i64 u3, .int .i64 u4, .int .i64 u5, .int .i64 u6, .int .i64 u7, .int .i64 u8], .c (.int .i64 u10), .c (.int .i64 u11)] G).bind fun q1 => (((q1.1[0]?).bind V1.c?).bind (Cell.asI .i64)).bind fun q2 => (((q1.1[1]?).bind V1.c?).bind (Cell.asI .i64)).bind fun q3 => bif (!decide (q3 = 0)) then some ([.c (.int .i64 0), .c (.int .i64 q3)], q1.2) else (C admit_New.id [.agg [.int .i64 u1, .int .i64 u2, .int .i64 u3, .int .i64 u4, .int .i64 u5, .int .i64 u6, .int .i64 u7, .int .i64 u8], .c (.int .i64 u9), .c (.int .i64 q2), .c (.int .i64 1)] q1.2).bind fun q4 => (((q4.1[0]?).bind V1.c?).bind (Cell.asI .i64)).bind fun q5 => (((q4.1[1]?).bind V1.c?).bind (Cell.asI .i64)).bind fun q6 => some ([.c (.int .i64 q5), .c (.int .i64 q6)], q4.2)
theorem eq (u1 u2 u3 u4 u5 u6 u7 u8 u9 u10 u11 : Int) (G : GH) : runF M C d [.agg [.int .i64 u1, .int .i64 u2, .int .i64 u3, .int .i64 u4, .int .i64 u5, .int .i64 u6, .int .i64 u7, .int .i64 u8], .c (.int .i64 u9), .c (.int .i64 u10), .c (.int .i64 u11)] G = f M C u1 u2 u3 u4 u5 u6 u7 u8 u9 u10 u11 G := by kernel_rfl
end admit_Many
namespace run_Heap
def d : DFn := { ntmps := 38, res := [.t 4, .t 5], body := (.seq (.region [oP 0 2 (.boxv 36 [] (.t 0) 6),
 oP 1 4 (.move (.k (.c (.sl 8 0 0 0)))),
 oP 2 5 (.move (.k (.c (.int .i64 0))))]) (.seq (.region [oP 0 10 (.ldL 2 36 (.agg (iS 6))),
 oP 1 11 (.call 9 [.t 10] [.c (.ptr), .c (.int .i64)]),
 mV 2 9 11,
 oP 3 12 (.ext 9 0),
 oP 4 13 (.ext 9 1),
 mV 5 6 12,
 mV 6 5 13]) (.seq (.block 0 (.seq (.region [mV 0 15 5,
 oP 1 16 (.cmp .neq .i64 (.t 15) (.k (.c (.int .i64 0)))),
 mV 2 14 16]) (.cond (.t 14) (.seq (.region [mV 0 17 5,
 oP 1 4 (.move (.k (.c (.sl 8 0 0 0)))),
 mV 2 5 17]) .ret) (.seq (.region [mV 0 19 1,
 oP 1 20 (.len (.t 19)),
 oP 2 21 (.cmp .gtr .i64 (.t 20) (.k (.c (.int .i64 5000)))),
 mV 3 18 21]) (.cond (.t 18) (.seq (.region [oP 0 4 (.move (.k (.c (.sl 8 0 0 0)))),
 oP 1 5 (.move (.k (.c (.int .i64 2))))]) .ret) .skip))))) (.seq (.seq (.region [mV 0 22 1,
 oP 1 23 (.len (.t 22)),
 oP 2 24 (.move (.k (.c (.int .i64 0))))]) (.block 1 (.loop [4, 6, 22, 23, 24] (.seq (.region [oP 0 25 (.cmp .lss .i64 (.t 24) (.t 23))]) (.seq (.cond (.t 25) .skip (.exit 1)) (.seq (.block 2 (.seq (.region [oP 0 26 (.iaddr (.t 22) (.t 24) 6),
 oP 1 27 (.ldG 26 (.agg [.int .i64, .int .i64, .int .i64, .int .i64, .int .i64, .int .u8])),
 oP 2 8 (.boxz 37 [] [.int .i64 0, .int .i64 0, .int .i64 0, .int .i64 0, .int .i64 0, .int .u8 0]),
 ⟨3, none, .stL 8 37 (.t 27) 6, none⟩]) (.region [mV 0 28 4,
 mV 1 29 6,
 oP 2 30 (.ldL 8 37 (.agg [.int .i64, .int .i64, .int .i64, .int .i64, .int .i64, .int .u8])),
 oP 3 31 (.call 13 [.t 29, .t 30] [.agg [.int .i64, .int .i64, .int .i64, .int .u8, .int .i64, .int .i64, .int .i64, .int .i64]]),
 oP 4 32 (.bslice 1 8 [.int .i64 0, .int .i64 0, .int .i64 0, .int .u8 0, .int .i64 0, .int .i64 0, .int .i64 0, .int .i64 0] [(0, 8, .t 31)]),
 oP 5 33 (.app (.t 28) (.t 32) 8 64),
 mV 6 4 33]))) (.region [oP 0 34 (.bin .add .i64 (.t 24) (.k (.c (.int .i64 1)))),
 mV 1 24 34]))))))) (.seq (.region [mV 0 35 4,
 mV 1 4 35,
 oP 2 5 (.move (.k (.c (.int .i64 0))))]) .ret))))) }
end run_Heap
namespace heap_Heap_back
def d : DFn := { ntmps := 32, res := [], body := (.seq (.region [oP 0 4 (.boxv 30 [14, 25] (.t 1) 3),
 oP 1 5 (.boxv 31 [] (.t 2) 3)]) (.seq (.region [mV 0 6 0,
 oP 1 7 (.ldL 5 31 (.agg [.int .i64, .sl 2, .sl 2])),
 oP 2 8 (.nilck (.t 6)),
 oP 3 9 (.faddr 8 8),
 ⟨4, none, .stG 9 (.t 7) 3, none⟩]) (.seq (.region [mV 0 10 0,
 oP 1 11 (.nilck (.t 10)),
 oP 2 12 (.faddr 11 11),
 oP 3 13 (.ldG 12 (.c (.map))),
 oP 4 14 (.faddr 4 0),
 oP 5 15 (.ldL 14 30 (.c (.int .i64))),
 oP 6 16 (.build [.int .i64 0] [(0, 1, .t 15)]),
 oP 7 17 (.ldL 4 30 (.agg (iS 3))),
 ⟨8, none, .mupd (.agg [.int .i64]) (.t 13) (.t 16) (.t 17), none⟩]) (.seq (.region [mV 0 18 0,
 oP 1 19 (.ldL 4 30 (.agg (iS 3))),
 oP 2 20 (.call 67 [.t 18, .t 19, .k (.c (.int .i64 1))] [])]) (.region [mV 0 21 0,
 oP 1 22 (.nilck (.t 21)),
 oP 2 23 (.faddr 22 12),
 oP 3 24 (.ldG 23 (.c (.int .i64))),
 oP 4 25 (.faddr 4 1),
 oP 5 26 (.ldL 25 30 (.c (.int .i64))),
 oP 6 27 (.bin .add .i64 (.t 24) (.t 26)),
 oP 7 28 (.nilck (.t 21)),
 oP 8 29 (.faddr 28 12),
 ⟨9, none, .stG 29 (.t 27) 1, none⟩]))))) }
def f (M : Mach) (C : Call) (u1i u1o : Nat) (u2 u3 u4 u5 : Int) (u6i u6o u6n u7i u7o u7n : Nat) (G : GH) : Option Res := guardK (!Nat.beq u1i 0) ((G.sts u1i (u1o + 8) [.int .i64 u5, .sl 2 u6i u6o u6n, .sl 2 u7i u7o u7n]).bind fun q1 => guardK (!Nat.beq u1i 0) (((q1.ld u1i (u1o + 11)).bind Cell.asM).bind fun q2 => (q1.ents (.agg [.int .i64]) q2).bind fun q3 => let q4 := q1.set q2 (some (.map (.agg [.int .i64]) (mapPut q3 (.agg [.int .i64 u2]) (.agg [.int .i64 u2, .int .i64 u3, .int .i64 u4])))); (C heap_Heap_meets.id [.c (.ptr u1i u1o), .agg [.int .i64 u2, .int .i64 u3, .int .i64 u4], .c (.int .i64 1)] q4).bind fun q5 => guardK (!Nat.beq u1i 0) (((q5.2.ld u1i (u1o + 12)).bind (Cell.asI .i64)).bind fun q6 => guardK (!Nat.beq u1i 0) ((q5.2.sts u1i (u1o + 12) [.int .i64 (IntKind.i64.wrap (q6 + u3))]).bind fun q7 => some ([], q7)))))
theorem eq (u1i u1o : Nat) (u2 u3 u4 u5 : Int) (u6i u6o u6n u7i u7o u7n : Nat) (G : GH) : runF M C d [.c (.ptr u1i u1o), .agg [.int .i64 u2, .int .i64 u3, .int .i64 u4], .agg [.int .i64 u5, .sl 2 u6i u6o u6n, .sl 2 u7i u7o u7n]] G = f M C u1i u1o u2 u3 u4 u5 u6i u6o u6n u7i u7o u7n G := by kernel_rfl
end heap_Heap_back
namespace side_Put
def d : DFn := { ntmps := 29, res := [.t 4], body := (.seq (.region [oP 0 3 (.boxv 28 [12] (.t 1) 2),
 oP 1 4 (.move (.k (.c (.sl 2 0 0 0))))]) (.seq (.region [mV 0 8 0,
 oP 1 9 (.call 83 [.t 8] [.c (.sl 2)]),
 mV 2 5 9]) (.seq (.region [mV 0 11 0,
 oP 1 12 (.faddr 3 0),
 oP 2 13 (.ldL 12 28 (.c (.int .i64))),
 oP 3 14 (.call 84 [.t 11, .t 13] [.c (.int .i64), .c (.bool)]),
 mV 4 10 14,
 oP 5 15 (.ext 10 0),
 oP 6 16 (.ext 10 1),
 mV 7 6 15,
 mV 8 7 16]) (.seq (.seq (.region [mV 0 17 7]) (.cond (.t 17) (.seq (.region [mV 0 18 5,
 mV 1 19 6,
 oP 2 20 (.ldL 3 28 (.agg (iS 2))),
 oP 3 21 (.iaddr (.t 18) (.t 19) 2),
 ⟨4, none, .stG 21 (.t 20) 2, none⟩]) (.seq (.region [mV 0 22 5,
 mV 1 4 22]) .ret)) .skip)) (.seq (.region [mV 0 23 5,
 mV 1 24 6,
 oP 2 25 (.ldL 3 28 (.agg (iS 2))),
 oP 3 26 (.bslice 1 2 [.int .i64 0, .int .i64 0] [(0, 2, .t 25)]),
 oP 4 27 (.call 90 [.t 23, .t 24, .t 26] [.c (.sl 2)]),
 mV 5 4 27]) .ret))))) }
def f (M : Mach) (C : Call) (u1i u1o u1n : Nat) (u2 u3 : Int) (G : GH) : Option Res := (C slices_Clone_Sapi_Mark_api_Mark.id [.c (.sl 2 u1i u1o u1n)] G).bind fun q1 => (((q1.1[0]?).bind V1.c?).bind (Cell.asS 2)).bind fun q2 => (C side_find.id [.c (.sl 2 u1i u1o u1n), .c (.int .i64 u2)] q1.2).bind fun q3 => (((q3.1[0]?).bind V1.c?).bind (Cell.asI .i64)).bind fun q4 => (((q3.1[1]?).bind V1.c?).bind Cell.asB).bind fun q5 => bif q5 then guardK (decide (0 ≤ q4 ∧ q4 < ((q2.2.2 : Nat) : Int))) ((q3.2.sts q2.1 (q2.2.1 + Int.toNat q4 * 2) [.int .i64 u2, .int .i64 u3]).bind fun q6 => some ([.c (.sl 2 q2.1 q2.2.1 q2.2.2)], q6)) else let q7 := q3.2.alloc (.row [.int .i64 u2, .int .i64 u3] false); (C slices_Insert_Sapi_Mark_api_Mark.id [.c (.sl 2 q2.1 q2.2.1 q2.2.2), .c (.int .i64 q4), .c (.sl 2 q3.2.next 0 1)] q7).bind fun q8 => (((q8.1[0]?).bind V1.c?).bind (Cell.asS 2)).bind fun q9 => some ([.c (.sl 2 q9.1 q9.2.1 q9.2.2)], q8.2)
theorem eq (u1i u1o u1n : Nat) (u2 u3 : Int) (G : GH) : runF M C d [.c (.sl 2 u1i u1o u1n), .agg [.int .i64 u2, .int .i64 u3]] G = f M C u1i u1o u1n u2 u3 G := by kernel_rfl
end side_Put
namespace wire_put
def d : DFn := { ntmps := 45, res := [.t 2], body := (.seq (.region [oP 0 1 (.newv (.t 0) 6),
 oP 1 2 (.move (.k (.c (.sl 1 0 0 0))))]) (.seq (.region [oP 0 7 (.faddr 1 0),
 oP 1 8 (.ldG 7 (.c (.int .i64))),
 oP 2 9 (.conv .u8 (.t 8)),
 oP 3 10 (.bslice 1 1 [.int .u8 0] [(0, 1, .t 9)]),
 mV 4 3 10]) (.seq (.seq (.region [oP 0 11 (.faddr 1 0),
 oP 1 12 (.ldG 11 (.c (.int .i64))),
 oP 2 13 (.call 69 [.t 12] [.c (.str)]),
 oP 3 14 (.sbytes (.t 13)),
 oP 4 15 (.len (.t 14)),
 oP 5 16 (.move (.k (.c (.int .i64 0))))]) (.block 0 (.loop [1, 3, 14, 15, 16] (.seq (.region [oP 0 17 (.cmp .lss .i64 (.t 16) (.t 15))]) (.seq (.cond (.t 17) .skip (.exit 0)) (.seq (.block 1 (.seq (.region [oP 0 18 (.iaddr (.t 14) (.t 16) 1),
 oP 1 19 (.ldG 18 (.c (.int .u8))),
 mV 2 5 19]) (.seq (.region [mV 0 20 5,
 oP 1 21 (.call 70 [.t 1, .t 20] [.c (.ptr)]),
 oP 2 22 (.nilck (.t 21)),
 oP 3 23 (.ldG 22 (.c (.int .i64))),
 mV 4 6 23]) (.region [mV 0 24 3,
 mV 1 25 6,
 oP 2 26 (.bin .shr .i64 (.t 25) (.k (.c (.int .u64 16)))),
 oP 3 27 (.conv .u8 (.t 26)),
 mV 4 28 6,
 oP 5 29 (.bin .shr .i64 (.t 28) (.k (.c (.int .u64 8)))),
 oP 6 30 (.conv .u8 (.t 29)),
 mV 7 31 6,
 oP 8 32 (.conv .u8 (.t 31)),
 oP 9 33 (.bslice 3 1 [.int .u8 0, .int .u8 0, .int .u8 0] [(0, 1, .t 27), (1, 1, .t 30), (2, 1, .t 32)]),
 oP 10 34 (.app (.t 24) (.t 33) 1 1),
 mV 11 3 34])))) (.region [oP 0 35 (.bin .add .i64 (.t 16) (.k (.c (.int .i64 1)))),
 mV 1 16 35]))))))) (.seq (.seq (.region [oP 0 36 (.faddr 1 0),
 oP 1 37 (.ldG 36 (.c (.int .i64))),
 oP 2 38 (.cmp .eql .i64 (.t 37) (.k (.c (.int .i64 8))))]) (.cond (.t 38) (.region [mV 0 39 3,
 oP 1 40 (.faddr 1 5),
 oP 2 41 (.ldG 40 (.c (.int .u8))),
 oP 3 42 (.bslice 1 1 [.int .u8 0] [(0, 1, .t 41)]),
 oP 4 43 (.app (.t 39) (.t 42) 1 1),
 mV 5 3 43]) .skip)) (.seq (.region [mV 0 44 3,
 mV 1 2 44]) .ret))))) }
end wire_put
namespace play_Encode
def d : DFn := { ntmps := 46, res := [.t 4], body := (.seq (.region [oP 0 2 (.boxv 45 [7, 9, 11, 13, 15, 36] (.t 0) 6),
 oP 1 4 (.move (.k (.c (.sl 1 0 0 0))))]) (.seq (.seq (.region [oP 0 7 (.faddr 2 0),
 oP 1 8 (.ldL 7 45 (.c (.int .i64))),
 oP 2 9 (.faddr 2 1),
 oP 3 10 (.ldL 9 45 (.c (.int .i64))),
 oP 4 11 (.faddr 2 2),
 oP 5 12 (.ldL 11 45 (.c (.int .i64))),
 oP 6 13 (.faddr 2 3),
 oP 7 14 (.ldL 13 45 (.c (.int .i64))),
 oP 8 15 (.faddr 2 4),
 oP 9 16 (.ldL 15 45 (.c (.int .i64))),
 oP 10 17 (.bslice 5 1 [.int .i64 0, .int .i64 0, .int .i64 0, .int .i64 0, .int .i64 0] [(0, 1, .t 8), (1, 1, .t 10), (2, 1, .t 12), (3, 1, .t 14), (4, 1, .t 16)]),
 oP 11 18 (.len (.t 17)),
 oP 12 19 (.move (.k (.c (.int .i64 0))))]) (.block 0 (.loop [1, 2, 4, 17, 18, 19, 45] (.seq (.region [oP 0 20 (.cmp .lss .i64 (.t 19) (.t 18))]) (.seq (.cond (.t 20) .skip (.exit 0)) (.seq (.block 1 (.seq (.region [oP 0 21 (.iaddr (.t 17) (.t 19) 1),
 oP 1 22 (.ldG 21 (.c (.int .i64))),
 mV 2 6 22]) (.region [mV 0 23 4,
 mV 1 24 6,
 oP 2 25 (.bin .shr .i64 (.t 24) (.k (.c (.int .u64 16)))),
 oP 3 26 (.conv .u8 (.t 25)),
 mV 4 27 6,
 oP 5 28 (.bin .shr .i64 (.t 27) (.k (.c (.int .u64 8)))),
 oP 6 29 (.conv .u8 (.t 28)),
 mV 7 30 6,
 oP 8 31 (.conv .u8 (.t 30)),
 oP 9 32 (.bslice 3 1 [.int .u8 0, .int .u8 0, .int .u8 0] [(0, 1, .t 26), (1, 1, .t 29), (2, 1, .t 31)]),
 oP 10 33 (.app (.t 23) (.t 32) 1 1),
 mV 11 4 33]))) (.region [oP 0 34 (.bin .add .i64 (.t 19) (.k (.c (.int .i64 1)))),
 mV 1 19 34]))))))) (.seq (.region [mV 0 35 4,
 oP 1 36 (.faddr 2 5),
 oP 2 37 (.ldL 36 45 (.c (.int .i64))),
 oP 3 38 (.conv .u8 (.t 37)),
 oP 4 39 (.bslice 1 1 [.int .u8 0] [(0, 1, .t 38)]),
 oP 5 40 (.app (.t 35) (.t 39) 1 1),
 mV 6 4 40]) (.seq (.region [mV 0 41 4,
 mV 1 42 1,
 oP 2 43 (.call 43 [.t 42] [.c (.sl 1)]),
 oP 3 44 (.app (.t 41) (.t 43) 1 1),
 mV 4 4 44]) .ret)))) }
end play_Encode
namespace hodmantop_begun
def d : DFn := { ntmps := 29, res := [.t 0], body := (.seq (.region [oP 0 0 (.move (.k (.c (.bool false))))]) (.seq (.region [oP 0 4 (.build [.int .i64 0, .int .i64 0, .int .i64 0, .int .i64 0, .int .i64 0, .int .i64 0] [(0, 1, .k (.c (.int .i64 1))), (1, 1, .k (.c (.int .i64 4))), (2, 1, .k (.c (.int .i64 8))), (3, 1, .k (.c (.int .i64 4))), (4, 1, .k (.c (.int .i64 6)))]),
 oP 1 1 (.boxz 28 [] [.int .i64 0, .int .i64 0, .int .i64 0, .int .i64 0, .int .i64 0, .int .i64 0]),
 ⟨2, none, .stL 1 28 (.t 4) 6, none⟩]) (.seq (.region [oP 0 6 (.ldL 1 28 (.agg (iS 6))),
 oP 1 7 (.build [.int .i64 0, .int .i64 0, .int .i64 0, .int .i64 0, .int .i64 0, .int .u8 0] [(0, 1, .k (.c (.int .i64 1))), (2, 1, .k (.c (.int .i64 3)))]),
 oP 2 8 (.build [.int .i64 0, .int .i64 0, .int .i64 0, .int .i64 0, .int .i64 0, .int .u8 0] [(0, 1, .k (.c (.int .i64 1))), (2, 1, .k (.c (.int .i64 1)))]),
 oP 3 9 (.bslice 2 6 [.int .i64 0, .int .i64 0, .int .i64 0, .int .i64 0, .int .i64 0, .int .u8 0, .int .i64 0, .int .i64 0, .int .i64 0, .int .i64 0, .int .i64 0, .int .u8 0] [(0, 6, .t 7), (6, 6, .t 8)]),
 oP 4 10 (.call 22 [.t 6, .t 9] [.c (.sl 1)]),
 oP 5 11 (.call 21 [.t 10] [.c (.sl 8), .c (.int .i64)]),
 mV 6 5 11,
 oP 7 12 (.ext 5 0),
 oP 8 13 (.ext 5 1),
 mV 9 2 12,
 mV 10 3 13]) (.seq (.region [mV 0 14 3,
 oP 1 15 (.cmp .eql .i64 (.t 14) (.k (.c (.int .i64 0)))),
 mV 2 16 15,
 ⟨3, some 17, .move (.t 2), some (16, true)⟩,
 ⟨4, some 18, .len (.t 17), some (16, true)⟩,
 ⟨5, some 19, .cmp .eql .i64 (.t 18) (.k (.c (.int .i64 2))), some (16, true)⟩,
 oP 6 20 (.pick (.t 16) (.t 19) (.k (.c (.bool false)))),
 mV 7 21 20,
 ⟨8, some 22, .move (.t 2), some (21, true)⟩,
 ⟨9, some 23, .iaddr (.t 22) (.k (.c (.int .i64 1))) 8, some (21, true)⟩,
 ⟨10, some 24, .faddr 23 1, some (21, true)⟩,
 ⟨11, some 25, .ldG 24 (.c (.int .i64)), some (21, true)⟩,
 ⟨12, some 26, .cmp .eql .i64 (.t 25) (.k (.c (.int .i64 4))), some (21, true)⟩,
 oP 13 27 (.pick (.t 21) (.t 26) (.k (.c (.bool false)))),
 mV 14 0 27]) .ret)))) }
end hodmantop_begun
namespace wire_Take
def d : DFn := { ntmps := 37, res := [.t 2], body := (.seq (.region [oP 0 2 (.move (.k (.c (.sl 6 0 0 0))))]) (.seq (.block 0 (.loop [0, 2] (.seq (.seq (.region [mV 0 7 0,
 oP 1 8 (.len (.t 7)),
 oP 2 9 (.cmp .gtr .i64 (.t 8) (.k (.c (.int .i64 0))))]) (.cond (.t 9) .skip (.exit 0))) (.block 1 (.seq (.region [mV 0 10 0,
 oP 1 11 (.iaddr (.t 10) (.k (.c (.int .i64 0))) 1),
 oP 2 12 (.ldG 11 (.c (.int .u8))),
 oP 3 13 (.conv .i64 (.t 12)),
 oP 4 14 (.bin .rem .i64 (.t 13) (.k (.c (.int .i64 11)))),
 mV 5 3 14]) (.seq (.seq (.region [mV 0 15 0,
 oP 1 16 (.slice (.t 15) (some (.k (.c (.int .i64 1)))) none 1),
 mV 2 0 16]) (.seq (.region [mV 0 17 3,
 oP 1 18 (.cmp .eql .i64 (.t 17) (.k (.c (.int .i64 0))))]) (.cond (.t 18) (.exit 1) .skip))) (.seq (.region [mV 0 20 3,
 mV 1 21 0,
 oP 2 22 (.call 68 [.t 20, .t 21] [.agg [.int .i64, .int .i64, .int .i64, .int .i64, .int .i64, .int .u8], .c (.int .i64), .c (.bool)]),
 mV 3 19 22,
 oP 4 23 (.ext 19 0),
 oP 5 24 (.ext 19 1),
 oP 6 25 (.ext 19 2),
 oP 7 4 (.boxz 36 [] [.int .i64 0, .int .i64 0, .int .i64 0, .int .i64 0, .int .i64 0, .int .u8 0]),
 ⟨8, none, .stL 4 36 (.t 23) 6, none⟩,
 mV 9 5 24,
 mV 10 6 25]) (.seq (.seq (.region [mV 0 26 6,
 oP 1 27 (.not (.t 26))]) (.cond (.t 27) (.exit 0) .skip)) (.region [mV 0 28 2,
 oP 1 29 (.ldL 4 36 (.agg [.int .i64, .int .i64, .int .i64, .int .i64, .int .i64, .int .u8])),
 oP 2 30 (.bslice 1 6 [.int .i64 0, .int .i64 0, .int .i64 0, .int .i64 0, .int .i64 0, .int .u8 0] [(0, 6, .t 29)]),
 oP 3 31 (.app (.t 28) (.t 30) 6 48),
 mV 4 32 0,
 mV 5 33 5,
 oP 6 34 (.slice (.t 32) (some (.t 33)) none 1),
 mV 7 2 31,
 mV 8 0 34]))))))))) (.seq (.region [mV 0 35 2,
 mV 1 2 35]) .ret))) }
end wire_Take
namespace tree_Has
def d : DFn := { ntmps := 26, res := [.t 4], body := (.seq (.region [oP 0 2 (.boxv 25 [9] (.t 0) 2),
 oP 1 4 (.move (.k (.c (.bool false))))]) (.seq (.region [mV 0 5 1,
 oP 1 6 (.cmp .geq .i64 (.t 5) (.k (.c (.int .i64 0)))),
 mV 2 7 6,
 ⟨3, some 8, .move (.t 1), some (7, true)⟩,
 ⟨4, some 9, .faddr 2 0, some (7, true)⟩,
 ⟨5, some 10, .ldL 9 25 (.c (.int .i64)), some (7, true)⟩,
 ⟨6, some 11, .cmp .lss .i64 (.t 8) (.t 10), some (7, true)⟩,
 oP 7 12 (.pick (.t 7) (.t 11) (.k (.c (.bool false)))),
 mV 8 13 12,
 ⟨9, some 14, .ldL 2 25 (.agg [.int .i64, .sl 1]), some (13, true)⟩,
 ⟨10, some 15, .move (.t 1), some (13, true)⟩,
 ⟨11, some 16, .bin .quo .i64 (.t 15) (.k (.c (.int .i64 64))), some (13, true)⟩,
 ⟨12, some 17, .call 95 [.t 14, .k (.c (.int .i64 0)), .t 16] [.c (.int .u64)], some (13, true)⟩,
 ⟨13, some 18, .move (.t 1), some (13, true)⟩,
 ⟨14, some 19, .conv .u64 (.t 18), some (13, true)⟩,
 ⟨15, some 20, .bin .rem .u64 (.t 19) (.k (.c (.int .u64 64))), some (13, true)⟩,
 ⟨16, some 21, .bin .shr .u64 (.t 17) (.t 20), some (13, true)⟩,
 ⟨17, some 22, .bin .and .u64 (.t 21) (.k (.c (.int .u64 1))), some (13, true)⟩,
 ⟨18, some 23, .cmp .eql .u64 (.t 22) (.k (.c (.int .u64 1))), some (13, true)⟩,
 oP 19 24 (.pick (.t 13) (.t 23) (.k (.c (.bool false)))),
 mV 20 4 24]) .ret)) }
def f (M : Mach) (C : Call) (u1 : Int) (u2i u2o u2n : Nat) (u3 : Int) (G : GH) : Option Res := bif decide (u3 ≥ 0) then bif decide (u3 < u1) then (C tree_at.id [.agg [.int .i64 u1, .sl 1 u2i u2o u2n], .c (.int .i64 0), .c (.int .i64 (IntKind.i64.wrap (Int.tdiv u3 64)))] G).bind fun q1 => (((q1.1[0]?).bind V1.c?).bind (Cell.asI .u64)).bind fun q2 => (binD .shr .u64 q2 (Int.tmod (IntKind.u64.wrap u3) 64)).bind fun q3 => some ([.c (.bool (decide (IntKind.u64.wrap (((BitVec.ofInt IntKind.u64.bits q3) &&& (BitVec.ofInt IntKind.u64.bits 1)).toNat : Int) = 1)))], q1.2) else some ([.c (.bool false)], G) else some ([.c (.bool false)], G)
theorem eq (u1 : Int) (u2i u2o u2n : Nat) (u3 : Int) (G : GH) : runF M C d [.agg [.int .i64 u1, .sl 1 u2i u2o u2n], .c (.int .i64 u3)] G = f M C u1 u2i u2o u2n u3 G := by kernel_rfl
end tree_Has
namespace cmp_Compare_int
def d : DFn := { ntmps := 20, res := [.t 4], body := (.seq (.region [oP 0 4 (.move (.k (.c (.int .i64 0))))]) (.seq (.region [mV 0 7 0,
 oP 1 8 (.call 102 [.t 7] [.c (.bool)]),
 mV 2 5 8]) (.seq (.region [mV 0 9 1,
 oP 1 10 (.call 102 [.t 9] [.c (.bool)]),
 mV 2 6 10]) (.seq (.seq (.region [mV 0 11 5]) (.cond (.t 11) (.seq (.seq (.region [mV 0 12 6]) (.cond (.t 12) (.seq (.region [oP 0 4 (.move (.k (.c (.int .i64 0))))]) .ret) .skip)) (.seq (.region [oP 0 4 (.move (.k (.c (.int .i64 (-1)))))]) .ret)) .skip)) (.seq (.seq (.region [mV 0 13 6]) (.cond (.t 13) (.seq (.region [oP 0 4 (.move (.k (.c (.int .i64 1))))]) .ret) .skip)) (.seq (.seq (.region [mV 0 14 0,
 mV 1 15 1,
 oP 2 16 (.cmp .lss .i64 (.t 14) (.t 15))]) (.cond (.t 16) (.seq (.region [oP 0 4 (.move (.k (.c (.int .i64 (-1)))))]) .ret) .skip)) (.seq (.seq (.region [mV 0 17 0,
 mV 1 18 1,
 oP 2 19 (.cmp .gtr .i64 (.t 17) (.t 18))]) (.cond (.t 19) (.seq (.region [oP 0 4 (.move (.k (.c (.int .i64 1))))]) .ret) .skip)) (.seq (.region [oP 0 4 (.move (.k (.c (.int .i64 0))))]) .ret)))))))) }
def f (M : Mach) (C : Call) (u1 u2 : Int) (G : GH) : Option Res := (C cmp_isNaN_int.id [.c (.int .i64 u1)] G).bind fun q1 => (((q1.1[0]?).bind V1.c?).bind Cell.asB).bind fun q2 => (C cmp_isNaN_int.id [.c (.int .i64 u2)] q1.2).bind fun q3 => (((q3.1[0]?).bind V1.c?).bind Cell.asB).bind fun q4 => bif q2 then bif q4 then some ([.c (.int .i64 0)], q3.2) else some ([.c (.int .i64 (-1))], q3.2) else bif q4 then some ([.c (.int .i64 1)], q3.2) else bif decide (u1 < u2) then some ([.c (.int .i64 (-1))], q3.2) else bif decide (u1 > u2) then some ([.c (.int .i64 1)], q3.2) else some ([.c (.int .i64 0)], q3.2)
theorem eq (u1 u2 : Int) (G : GH) : runF M C d [.c (.int .i64 u1), .c (.int .i64 u2)] G = f M C u1 u2 G := by kernel_rfl
end cmp_Compare_int
namespace heap_Heap_asks
def d : DFn := { ntmps := 25, res := [.box 8 (some 8)], body := (.seq (.region [oP 0 8 (.boxz 24 [] [.int .i64 0, .int .i64 0, .int .i64 0, .int .u8 0, .int .i64 0, .int .i64 0, .int .i64 0, .int .i64 0])]) (.seq (.seq (.region [mV 0 10 3,
 oP 1 11 (.cmp .neq .i64 (.t 10) (.k (.c (.int .i64 0))))]) (.cond (.t 11) (.seq (.region [mV 0 12 3,
 oP 1 13 (.build [.int .i64 0, .int .i64 0, .int .i64 0, .int .u8 0, .int .i64 0, .int .i64 0, .int .i64 0, .int .i64 0] [(0, 1, .t 12)]),
 ⟨2, none, .stL 8 24 (.t 13) 8, none⟩]) .ret) .skip)) (.seq (.region [mV 0 15 0,
 mV 1 16 1,
 mV 2 17 2,
 oP 3 18 (.call 61 [.t 15, .t 16, .t 17] [.c (.int .i64), .c (.int .i64)]),
 mV 4 14 18,
 oP 5 19 (.ext 14 0),
 oP 6 20 (.ext 14 1),
 mV 7 9 19,
 mV 8 3 20]) (.seq (.region [mV 0 21 3,
 mV 1 22 9,
 oP 2 23 (.build [.int .i64 0, .int .i64 0, .int .i64 0, .int .u8 0, .int .i64 0, .int .i64 0, .int .i64 0, .int .i64 0] [(0, 1, .t 21), (1, 1, .t 22)]),
 ⟨3, none, .stL 8 24 (.t 23) 8, none⟩]) .ret)))) }
def f (M : Mach) (C : Call) (u1i u1o : Nat) (u2 u3 u4 : Int) (G : GH) : Option Res := bif (!decide (u4 = 0)) then some ([.agg [.int .i64 u4, .int .i64 0, .int .i64 0, .int .u8 0, .int .i64 0, .int .i64 0, .int .i64 0, .int .i64 0]], G) else (C heap_Heap_puts.id [.c (.ptr u1i u1o), .c (.int .i64 u2), .c (.int .i64 u3)] G).bind fun q1 => (((q1.1[0]?).bind V1.c?).bind (Cell.asI .i64)).bind fun q2 => (((q1.1[1]?).bind V1.c?).bind (Cell.asI .i64)).bind fun q3 => some ([.agg [.int .i64 q3, .int .i64 q2, .int .i64 0, .int .u8 0, .int .i64 0, .int .i64 0, .int .i64 0, .int .i64 0]], q1.2)
theorem eq (u1i u1o : Nat) (u2 u3 u4 : Int) (G : GH) : runF M C d [.c (.ptr u1i u1o), .c (.int .i64 u2), .c (.int .i64 u3), .c (.int .i64 u4)] G = f M C u1i u1o u2 u3 u4 G := by kernel_rfl
end heap_Heap_asks
namespace calc_Add
def d : DFn := { ntmps := 22, res := [.t 4, .t 5], body := (.seq (.region [oP 0 4 (.move (.k (.c (.int .i64 0)))),
 oP 1 5 (.move (.k (.c (.bool false))))]) (.seq (.region [mV 0 7 0,
 oP 1 8 (.conv .u64 (.t 7)),
 mV 2 9 1,
 oP 3 10 (.conv .u64 (.t 9)),
 oP 4 11 (.bin .add .u64 (.t 8) (.t 10)),
 oP 5 12 (.conv .i64 (.t 11)),
 mV 6 6 12]) (.seq (.seq (.region [mV 0 13 0,
 mV 1 14 6,
 oP 2 15 (.bin .xor .i64 (.t 13) (.t 14)),
 mV 3 16 1,
 mV 4 17 6,
 oP 5 18 (.bin .xor .i64 (.t 16) (.t 17)),
 oP 6 19 (.bin .and .i64 (.t 15) (.t 18)),
 oP 7 20 (.cmp .lss .i64 (.t 19) (.k (.c (.int .i64 0))))]) (.cond (.t 20) (.seq (.region [oP 0 4 (.move (.k (.c (.int .i64 0)))),
 oP 1 5 (.move (.k (.c (.bool false))))]) .ret) .skip)) (.seq (.region [mV 0 21 6,
 mV 1 4 21,
 oP 2 5 (.move (.k (.c (.bool true))))]) .ret)))) }
def f (M : Mach) (C : Call) (u1 u2 : Int) (G : GH) : Option Res := bif decide (IntKind.i64.wrap (((BitVec.ofInt IntKind.i64.bits (IntKind.i64.wrap (((BitVec.ofInt IntKind.i64.bits u1) ^^^ (BitVec.ofInt IntKind.i64.bits (IntKind.i64.wrap (IntKind.u64.wrap ((IntKind.u64.wrap u1) + (IntKind.u64.wrap u2)))))).toNat : Int))) &&& (BitVec.ofInt IntKind.i64.bits (IntKind.i64.wrap (((BitVec.ofInt IntKind.i64.bits u2) ^^^ (BitVec.ofInt IntKind.i64.bits (IntKind.i64.wrap (IntKind.u64.wrap ((IntKind.u64.wrap u1) + (IntKind.u64.wrap u2)))))).toNat : Int)))).toNat : Int) < 0) then some ([.c (.int .i64 0), .c (.bool false)], G) else some ([.c (.int .i64 (IntKind.i64.wrap (IntKind.u64.wrap ((IntKind.u64.wrap u1) + (IntKind.u64.wrap u2))))), .c (.bool true)], G)
theorem eq (u1 u2 : Int) (G : GH) : runF M C d [.c (.int .i64 u1), .c (.int .i64 u2)] G = f M C u1 u2 G := by kernel_rfl
end calc_Add
namespace wire_fields
def d : DFn := { ntmps := 18, res := [.t 2], body := (.seq (.region [oP 0 2 (.move (.k (.c (.str []))))]) (.seq (.seq (.region [mV 0 3 0]) (.block 0 (.seq (.region [oP 0 5 (.cmp .eql .i64 (.t 3) (.k (.c (.int .i64 1)))),
 mV 1 4 5]) (.cond (.t 4) (.seq (.region [oP 0 2 (.move (.k (.c (.str [83]))))]) .ret) (.seq (.region [oP 0 7 (.cmp .eql .i64 (.t 3) (.k (.c (.int .i64 2)))),
 mV 1 6 7]) (.cond (.t 6) (.seq (.region [oP 0 2 (.move (.k (.c (.str [78, 83]))))]) .ret) (.seq (.region [oP 0 9 (.cmp .eql .i64 (.t 3) (.k (.c (.int .i64 3)))),
 mV 1 8 9]) (.cond (.t 8) (.seq (.region [oP 0 2 (.move (.k (.c (.str [83, 65]))))]) .ret) (.seq (.region [oP 0 11 (.cmp .eql .i64 (.t 3) (.k (.c (.int .i64 4)))),
 mV 1 10 11]) (.cond (.t 10) (.seq (.region [oP 0 2 (.move (.k (.c (.str [80, 83]))))]) .ret) (.seq (.seq (.region [oP 0 13 (.cmp .eql .i64 (.t 3) (.k (.c (.int .i64 5)))),
 mV 1 12 13]) (.cond (.t 12) .skip (.region [oP 0 14 (.cmp .eql .i64 (.t 3) (.k (.c (.int .i64 6)))),
 mV 1 12 14]))) (.cond (.t 12) (.seq (.region [oP 0 2 (.move (.k (.c (.str [80]))))]) .ret) (.seq (.seq (.region [oP 0 16 (.cmp .eql .i64 (.t 3) (.k (.c (.int .i64 7)))),
 mV 1 15 16]) (.cond (.t 15) .skip (.region [oP 0 17 (.cmp .eql .i64 (.t 3) (.k (.c (.int .i64 8)))),
 mV 1 15 17]))) (.cond (.t 15) (.seq (.region [oP 0 2 (.move (.k (.c (.str [80, 78]))))]) .ret) .skip)))))))))))))) (.seq (.region [oP 0 2 (.move (.k (.c (.str []))))]) .ret))) }
end wire_fields
namespace slots_taken
def d : DFn := { ntmps := 17, res := [.t 4], body := (.seq (.region [oP 0 2 (.boxv 16 [] (.t 0) 2),
 oP 1 4 (.move (.k (.c (.bool false))))]) (.seq (.region [oP 0 5 (.ldL 2 16 (.agg [.int .i64, .sl 1])),
 mV 1 6 1,
 oP 2 7 (.bin .mul .i64 (.k (.c (.int .i64 2))) (.t 6)),
 oP 3 8 (.call 98 [.t 5, .t 7] [.c (.bool)]),
 mV 4 9 8,
 ⟨5, some 10, .ldL 2 16 (.agg [.int .i64, .sl 1]), some (9, false)⟩,
 ⟨6, some 11, .move (.t 1), some (9, false)⟩,
 ⟨7, some 12, .bin .mul .i64 (.k (.c (.int .i64 2))) (.t 11), some (9, false)⟩,
 ⟨8, some 13, .bin .add .i64 (.t 12) (.k (.c (.int .i64 1))), some (9, false)⟩,
 ⟨9, some 14, .call 98 [.t 10, .t 13] [.c (.bool)], some (9, false)⟩,
 oP 10 15 (.pick (.t 9) (.k (.c (.bool true))) (.t 14)),
 mV 11 4 15]) .ret)) }
def f (M : Mach) (C : Call) (u1 : Int) (u2i u2o u2n : Nat) (u3 : Int) (G : GH) : Option Res := (C tree_Has.id [.agg [.int .i64 u1, .sl 1 u2i u2o u2n], .c (.int .i64 (IntKind.i64.wrap (2 * u3)))] G).bind fun q1 => (((q1.1[0]?).bind V1.c?).bind Cell.asB).bind fun q2 => bif q2 then some ([.c (.bool true)], q1.2) else (C tree_Has.id [.agg [.int .i64 u1, .sl 1 u2i u2o u2n], .c (.int .i64 (IntKind.i64.wrap ((IntKind.i64.wrap (2 * u3)) + 1)))] q1.2).bind fun q3 => (((q3.1[0]?).bind V1.c?).bind Cell.asB).bind fun q4 => some ([.c (.bool q4)], q3.2)
theorem eq (u1 : Int) (u2i u2o u2n : Nat) (u3 : Int) (G : GH) : runF M C d [.agg [.int .i64 u1, .sl 1 u2i u2o u2n], .c (.int .i64 u3)] G = f M C u1 u2i u2o u2n u3 G := by kernel_rfl
end slots_taken
namespace admit_Anew
def d : DFn := { ntmps := 19, res := [.t 8, .t 9], body := (.seq (.region [oP 0 4 (.boxv 18 [] (.t 0) 8),
 oP 1 8 (.move (.k (.c (.int .i64 0)))),
 oP 2 9 (.move (.k (.c (.int .i64 0))))]) (.seq (.region [oP 0 10 (.ldL 4 18 (.agg (iS 8))),
 mV 1 11 1,
 mV 2 12 2,
 oP 3 13 (.bin .sub .i64 (.t 11) (.t 12)),
 mV 4 14 3,
 oP 5 15 (.call 46 [.t 10, .t 13, .t 14, .k (.c (.int .i64 1))] [.c (.int .i64), .c (.int .i64)]),
 oP 6 16 (.ext 15 0),
 oP 7 17 (.ext 15 1),
 mV 8 8 16,
 mV 9 9 17]) .ret)) }
def f (M : Mach) (C : Call) (u1 u2 u3 u4 u5 u6 u7 u8 u9 u10 u11 : Int) (G : GH) : Option Res := (C admit_New.id [.agg [.int .i64 u1, .int .i64 u2, .int .i64 u3, .int .i64 u4, .int .i64 u5, .int .i64 u6, .int .i64 u7, .int .i64 u8], .c (.int .i64 (IntKind.i64.wrap (u9 - u10))), .c (.int .i64 u11), .c (.int .i64 1)] G).bind fun q1 => (((q1.1[0]?).bind V1.c?).bind (Cell.asI .i64)).bind fun q2 => (((q1.1[1]?).bind V1.c?).bind (Cell.asI .i64)).bind fun q3 => some ([.c (.int .i64 q2), .c (.int .i64 q3)], q1.2)
theorem eq (u1 u2 u3 u4 u5 u6 u7 u8 u9 u10 u11 : Int) (G : GH) : runF M C d [.agg [.int .i64 u1, .int .i64 u2, .int .i64 u3, .int .i64 u4, .int .i64 u5, .int .i64 u6, .int .i64 u7, .int .i64 u8], .c (.int .i64 u9), .c (.int .i64 u10), .c (.int .i64 u11)] G = f M C u1 u2 u3 u4 u5 u6 u7 u8 u9 u10 u11 G := by kernel_rfl
end admit_Anew
namespace place_twin
def d : DFn := { ntmps := 14, res := [.box 2 (some 3)], body := (.seq (.region [oP 0 1 (.boxv 12 [3, 6, 9, 10] (.t 0) 3),
 oP 1 2 (.boxz 13 [] [.int .i64 0, .sl 2 0 0 0, .sl 2 0 0 0])]) (.seq (.region [oP 0 3 (.faddr 1 1),
 oP 1 4 (.ldL 3 12 (.agg [.sl 2])),
 oP 2 5 (.call 79 [.t 4, .k (.c (.int .i64 0)), .k (.c (.int .i64 0)), .k (.c (.bool true))] [.agg [.sl 2]]),
 oP 3 6 (.faddr 1 2),
 oP 4 7 (.ldL 6 12 (.c (.sl 2))),
 oP 5 8 (.call 83 [.t 7] [.c (.sl 2)]),
 oP 6 9 (.faddr 1 1),
 ⟨7, none, .stL 9 12 (.t 5) 1, none⟩,
 oP 8 10 (.faddr 1 2),
 ⟨9, none, .stL 10 12 (.t 8) 1, none⟩]) (.seq (.region [oP 0 11 (.ldL 1 12 (.agg [.int .i64, .sl 2, .sl 2])),
 ⟨1, none, .stL 2 13 (.t 11) 3, none⟩]) .ret))) }
end place_twin
namespace class_Class
def d : DFn := { ntmps := 12, res := [.t 4, .t 5], body := (.seq (.region [oP 0 2 (.boxv 11 [] (.t 0) 8),
 oP 1 4 (.move (.k (.c (.int .i64 0)))),
 oP 2 5 (.move (.k (.c (.bool false))))]) (.seq (.region [oP 0 6 (.ldL 2 11 (.agg (iS 8))),
 mV 1 7 1,
 oP 2 8 (.call 39 [.t 6, .t 7] [.c (.int .i64), .c (.bool)]),
 oP 3 9 (.ext 8 0),
 oP 4 10 (.ext 8 1),
 mV 5 4 9,
 mV 6 5 10]) .ret)) }
def f (M : Mach) (C : Call) (u1 u2 u3 u4 u5 u6 u7 u8 u9 : Int) (G : GH) : Option Res := (C conf_Shift.id [.agg [.int .i64 u1, .int .i64 u2, .int .i64 u3, .int .i64 u4, .int .i64 u5, .int .i64 u6, .int .i64 u7, .int .i64 u8], .c (.int .i64 u9)] G).bind fun q1 => (((q1.1[0]?).bind V1.c?).bind (Cell.asI .i64)).bind fun q2 => (((q1.1[1]?).bind V1.c?).bind Cell.asB).bind fun q3 => some ([.c (.int .i64 q2), .c (.bool q3)], q1.2)
theorem eq (u1 u2 u3 u4 u5 u6 u7 u8 u9 : Int) (G : GH) : runF M C d [.agg [.int .i64 u1, .int .i64 u2, .int .i64 u3, .int .i64 u4, .int .i64 u5, .int .i64 u6, .int .i64 u7, .int .i64 u8], .c (.int .i64 u9)] G = f M C u1 u2 u3 u4 u5 u6 u7 u8 u9 G := by kernel_rfl
end class_Class
namespace play_Run
def d : DFn := { ntmps := 21, res := [.t 2, .t 3], body := (.seq (.region [oP 0 2 (.move (.k (.c (.sl 8 0 0 0)))),
 oP 1 3 (.move (.k (.c (.int .i64 0))))]) (.seq (.region [mV 0 8 0,
 oP 1 9 (.call 41 [.t 8] [.agg (iS 6), .c (.sl 6), .c (.bool)]),
 mV 2 7 9,
 oP 3 10 (.ext 7 0),
 oP 4 11 (.ext 7 1),
 oP 5 12 (.ext 7 2),
 oP 6 4 (.boxz 20 [] [.int .i64 0, .int .i64 0, .int .i64 0, .int .i64 0, .int .i64 0, .int .i64 0]),
 ⟨7, none, .stL 4 20 (.t 10) 6, none⟩,
 mV 8 5 11,
 mV 9 6 12]) (.seq (.seq (.region [mV 0 13 6,
 oP 1 14 (.not (.t 13))]) (.cond (.t 14) (.seq (.region [oP 0 2 (.move (.k (.c (.sl 8 0 0 0)))),
 oP 1 3 (.move (.k (.c (.int .i64 2))))]) .ret) .skip)) (.seq (.region [oP 0 15 (.ldL 4 20 (.agg (iS 6))),
 mV 1 16 5,
 oP 2 17 (.call 42 [.t 15, .t 16] [.c (.sl 8), .c (.int .i64)]),
 oP 3 18 (.ext 17 0),
 oP 4 19 (.ext 17 1),
 mV 5 2 18,
 mV 6 3 19]) .ret)))) }
end play_Run
namespace wire_field
def d : DFn := { ntmps := 24, res := [.t 4], body := (.seq (.region [oP 0 4 (.move (.k (.c (.ptr 0 0))))]) (.seq (.seq (.region [mV 0 5 1]) (.block 0 (.seq (.region [oP 0 7 (.cmp .eql .u8 (.t 5) (.k (.c (.int .u8 80)))),
 mV 1 6 7]) (.cond (.t 6) (.seq (.region [mV 0 8 0,
 oP 1 9 (.nilck (.t 8)),
 oP 2 10 (.faddr 9 1),
 mV 3 4 10]) .ret) (.seq (.region [oP 0 12 (.cmp .eql .u8 (.t 5) (.k (.c (.int .u8 83)))),
 mV 1 11 12]) (.cond (.t 11) (.seq (.region [mV 0 13 0,
 oP 1 14 (.nilck (.t 13)),
 oP 2 15 (.faddr 14 2),
 mV 3 4 15]) .ret) (.seq (.region [oP 0 17 (.cmp .eql .u8 (.t 5) (.k (.c (.int .u8 65)))),
 mV 1 16 17]) (.cond (.t 16) (.seq (.region [mV 0 18 0,
 oP 1 19 (.nilck (.t 18)),
 oP 2 20 (.faddr 19 3),
 mV 3 4 20]) .ret) .skip)))))))) (.seq (.region [mV 0 21 0,
 oP 1 22 (.nilck (.t 21)),
 oP 2 23 (.faddr 22 4),
 mV 3 4 23]) .ret))) }
end wire_field
namespace junk_Byte
def d : DFn := { ntmps := 18, res := [.t 6], body := (.seq (.region [oP 0 6 (.move (.k (.c (.int .u8 0))))]) (.seq (.region [mV 0 7 0,
 oP 1 8 (.conv .u8 (.t 7)),
 mV 2 9 1,
 oP 3 10 (.conv .u8 (.t 9)),
 oP 4 11 (.bin .mul .u8 (.k (.c (.int .u8 31))) (.t 10)),
 oP 5 12 (.bin .add .u8 (.t 8) (.t 11)),
 mV 6 13 2,
 oP 7 14 (.conv .u8 (.t 13)),
 oP 8 15 (.bin .mul .u8 (.k (.c (.int .u8 7))) (.t 14)),
 oP 9 16 (.bin .add .u8 (.t 12) (.t 15)),
 oP 10 17 (.bin .add .u8 (.t 16) (.k (.c (.int .u8 1)))),
 mV 11 6 17]) .ret)) }
def f (M : Mach) (C : Call) (u1 u2 u3 : Int) (G : GH) : Option Res := some ([.c (.int .u8 (IntKind.u8.wrap ((IntKind.u8.wrap ((IntKind.u8.wrap ((IntKind.u8.wrap u1) + (IntKind.u8.wrap (31 * (IntKind.u8.wrap u2))))) + (IntKind.u8.wrap (7 * (IntKind.u8.wrap u3))))) + 1)))], G)
theorem eq (u1 u2 u3 : Int) (G : GH) : runF M C d [.c (.int .i64 u1), .c (.int .i64 u2), .c (.int .i64 u3)] G = f M C u1 u2 u3 G := by kernel_rfl
end junk_Byte
namespace slices_Clone_Sapi_Mark_api_Mark
def d : DFn := { ntmps := 8, res := [.t 2], body := (.seq (.region [oP 0 2 (.move (.k (.c (.sl 2 0 0 0))))]) (.seq (.seq (.region [mV 0 3 0,
 oP 1 4 (.snil false (.t 3))]) (.cond (.t 4) (.seq (.region [oP 0 2 (.move (.k (.c (.sl 2 0 0 0))))]) .ret) .skip)) (.seq (.region [oP 0 5 (.bslice 0 2 [] []),
 mV 1 6 0,
 oP 2 7 (.app (.t 5) (.t 6) 2 16),
 mV 3 2 7]) .ret))) }
def f (M : Mach) (C : Call) (u1i u1o u1n : Nat) (G : GH) : Option Res := bif Bool.xor false (Nat.beq u1i 0) then some ([.c (.sl 2 0 0 0)], G) else let q1 := G.alloc (.row [] false); (if u1n = 0 then some [] else q1.lds u1i u1o (u1n * 2)).bind fun q2 => guardK (decide (0 + u1n ≤ most)) ((q1.app G.next 0 0 2 u1n q2).bind fun q3 => some ([.c (.sl 2 q3.1 q3.2.1 (0 + u1n))], q3.2.2))
theorem eq (u1i u1o u1n : Nat) (G : GH) : runF M C d [.c (.sl 2 u1i u1o u1n)] G = f M C u1i u1o u1n G := by kernel_rfl
end slices_Clone_Sapi_Mark_api_Mark
namespace slices_Clone_SSuint64_Suint64
def d : DFn := { ntmps := 8, res := [.t 2], body := (.seq (.region [oP 0 2 (.move (.k (.c (.sl 1 0 0 0))))]) (.seq (.seq (.region [mV 0 3 0,
 oP 1 4 (.snil false (.t 3))]) (.cond (.t 4) (.seq (.region [oP 0 2 (.move (.k (.c (.sl 1 0 0 0))))]) .ret) .skip)) (.seq (.region [oP 0 5 (.bslice 0 1 [] []),
 mV 1 6 0,
 oP 2 7 (.app (.t 5) (.t 6) 1 24),
 mV 3 2 7]) .ret))) }
def f (M : Mach) (C : Call) (u1i u1o u1n : Nat) (G : GH) : Option Res := bif Bool.xor false (Nat.beq u1i 0) then some ([.c (.sl 1 0 0 0)], G) else let q1 := G.alloc (.row [] false); (if u1n = 0 then some [] else q1.lds u1i u1o (u1n * 1)).bind fun q2 => guardK (decide (0 + u1n ≤ most)) ((q1.app G.next 0 0 1 u1n q2).bind fun q3 => some ([.c (.sl 1 q3.1 q3.2.1 (0 + u1n))], q3.2.2))
theorem eq (u1i u1o u1n : Nat) (G : GH) : runF M C d [.c (.sl 1 u1i u1o u1n)] G = f M C u1i u1o u1n G := by kernel_rfl
end slices_Clone_SSuint64_Suint64
namespace slices_Clone_Suint64_uint64
def d : DFn := { ntmps := 8, res := [.t 2], body := (.seq (.region [oP 0 2 (.move (.k (.c (.sl 1 0 0 0))))]) (.seq (.seq (.region [mV 0 3 0,
 oP 1 4 (.snil false (.t 3))]) (.cond (.t 4) (.seq (.region [oP 0 2 (.move (.k (.c (.sl 1 0 0 0))))]) .ret) .skip)) (.seq (.region [oP 0 5 (.bslice 0 1 [] []),
 mV 1 6 0,
 oP 2 7 (.app (.t 5) (.t 6) 1 8),
 mV 3 2 7]) .ret))) }
def f (M : Mach) (C : Call) (u1i u1o u1n : Nat) (G : GH) : Option Res := bif Bool.xor false (Nat.beq u1i 0) then some ([.c (.sl 1 0 0 0)], G) else let q1 := G.alloc (.row [] false); (if u1n = 0 then some [] else q1.lds u1i u1o (u1n * 1)).bind fun q2 => guardK (decide (0 + u1n ≤ most)) ((q1.app G.next 0 0 1 u1n q2).bind fun q3 => some ([.c (.sl 1 q3.1 q3.2.1 (0 + u1n))], q3.2.2))
theorem eq (u1i u1o u1n : Nat) (G : GH) : runF M C d [.c (.sl 1 u1i u1o u1n)] G = f M C u1i u1o u1n G := by kernel_rfl
end slices_Clone_Suint64_uint64
namespace slices_Clone_bool_bool
def d : DFn := { ntmps := 8, res := [.t 2], body := (.seq (.region [oP 0 2 (.move (.k (.c (.sl 1 0 0 0))))]) (.seq (.seq (.region [mV 0 3 0,
 oP 1 4 (.snil false (.t 3))]) (.cond (.t 4) (.seq (.region [oP 0 2 (.move (.k (.c (.sl 1 0 0 0))))]) .ret) .skip)) (.seq (.region [oP 0 5 (.bslice 0 1 [] []),
 mV 1 6 0,
 oP 2 7 (.app (.t 5) (.t 6) 1 1),
 mV 3 2 7]) .ret))) }
def f (M : Mach) (C : Call) (u1i u1o u1n : Nat) (G : GH) : Option Res := bif Bool.xor false (Nat.beq u1i 0) then some ([.c (.sl 1 0 0 0)], G) else let q1 := G.alloc (.row [] false); (if u1n = 0 then some [] else q1.lds u1i u1o (u1n * 1)).bind fun q2 => guardK (decide (0 + u1n ≤ most)) ((q1.app G.next 0 0 1 u1n q2).bind fun q3 => some ([.c (.sl 1 q3.1 q3.2.1 (0 + u1n))], q3.2.2))
theorem eq (u1i u1o u1n : Nat) (G : GH) : runF M C d [.c (.sl 1 u1i u1o u1n)] G = f M C u1i u1o u1n G := by kernel_rfl
end slices_Clone_bool_bool
namespace slices_Clone_byte_byte
def d : DFn := { ntmps := 8, res := [.t 2], body := (.seq (.region [oP 0 2 (.move (.k (.c (.sl 1 0 0 0))))]) (.seq (.seq (.region [mV 0 3 0,
 oP 1 4 (.snil false (.t 3))]) (.cond (.t 4) (.seq (.region [oP 0 2 (.move (.k (.c (.sl 1 0 0 0))))]) .ret) .skip)) (.seq (.region [oP 0 5 (.bslice 0 1 [] []),
 mV 1 6 0,
 oP 2 7 (.app (.t 5) (.t 6) 1 1),
 mV 3 2 7]) .ret))) }
def f (M : Mach) (C : Call) (u1i u1o u1n : Nat) (G : GH) : Option Res := bif Bool.xor false (Nat.beq u1i 0) then some ([.c (.sl 1 0 0 0)], G) else let q1 := G.alloc (.row [] false); (if u1n = 0 then some [] else q1.lds u1i u1o (u1n * 1)).bind fun q2 => guardK (decide (0 + u1n ≤ most)) ((q1.app G.next 0 0 1 u1n q2).bind fun q3 => some ([.c (.sl 1 q3.1 q3.2.1 (0 + u1n))], q3.2.2))
theorem eq (u1i u1o u1n : Nat) (G : GH) : runF M C d [.c (.sl 1 u1i u1o u1n)] G = f M C u1i u1o u1n G := by kernel_rfl
end slices_Clone_byte_byte
namespace side_find
def d : DFn := { ntmps := 11, res := [.t 4, .t 5], body := (.seq (.region [oP 0 4 (.move (.k (.c (.int .i64 0)))),
 oP 1 5 (.move (.k (.c (.bool false))))]) (.seq (.region [mV 0 6 0,
 mV 1 7 1,
 oP 2 8 (.call 91 [.t 6, .t 7, .k (.c (.fn 92))] [.c (.int .i64), .c (.bool)]),
 oP 3 9 (.ext 8 0),
 oP 4 10 (.ext 8 1),
 mV 5 4 9,
 mV 6 5 10]) .ret)) }
def f (M : Mach) (C : Call) (u1i u1o u1n : Nat) (u2 : Int) (G : GH) : Option Res := (C api_Mark_int.id [.c (.sl 2 u1i u1o u1n), .c (.int .i64 u2), .c (.fn 92)] G).bind fun q1 => (((q1.1[0]?).bind V1.c?).bind (Cell.asI .i64)).bind fun q2 => (((q1.1[1]?).bind V1.c?).bind Cell.asB).bind fun q3 => some ([.c (.int .i64 q2), .c (.bool q3)], q1.2)
theorem eq (u1i u1o u1n : Nat) (u2 : Int) (G : GH) : runF M C d [.c (.sl 2 u1i u1o u1n), .c (.int .i64 u2)] G = f M C u1i u1o u1n u2 G := by kernel_rfl
end side_find
namespace word_LowZero
def d : DFn := { ntmps := 6, res := [.t 2], body := (.seq (.region [oP 0 2 (.move (.k (.c (.int .i64 0))))]) (.seq (.region [mV 0 3 0,
 oP 1 4 (.bin .xor .u64 (.k (.c (.int .u64 18446744073709551615))) (.t 3)),
 oP 2 5 (.call 105 [.t 4] [.c (.int .i64)]),
 mV 3 2 5]) .ret)) }
def f (M : Mach) (C : Call) (u1 : Int) (G : GH) : Option Res := (C word_LowOne.id [.c (.int .u64 (IntKind.u64.wrap (((BitVec.ofInt IntKind.u64.bits 18446744073709551615) ^^^ (BitVec.ofInt IntKind.u64.bits u1)).toNat : Int)))] G).bind fun q1 => (((q1.1[0]?).bind V1.c?).bind (Cell.asI .i64)).bind fun q2 => some ([.c (.int .i64 q2)], q1.2)
theorem eq (u1 : Int) (G : GH) : runF M C d [.c (.int .u64 u1)] G = f M C u1 G := by kernel_rfl
end word_LowZero
namespace side_find_1
def d : DFn := { ntmps := 10, res := [.t 4], body := (.seq (.region [oP 0 2 (.boxv 9 [5] (.t 0) 2),
 oP 1 4 (.move (.k (.c (.int .i64 0))))]) (.seq (.region [oP 0 5 (.faddr 2 0),
 oP 1 6 (.ldL 5 9 (.c (.int .i64))),
 mV 2 7 1,
 oP 3 8 (.call 93 [.t 6, .t 7] [.c (.int .i64)]),
 mV 4 4 8]) .ret)) }
def f (M : Mach) (C : Call) (u1 u2 u3 : Int) (G : GH) : Option Res := (C cmp_Compare_int.id [.c (.int .i64 u1), .c (.int .i64 u3)] G).bind fun q1 => (((q1.1[0]?).bind V1.c?).bind (Cell.asI .i64)).bind fun q2 => some ([.c (.int .i64 q2)], q1.2)
theorem eq (u1 u2 u3 : Int) (G : GH) : runF M C d [.agg [.int .i64 u1, .int .i64 u2], .c (.int .i64 u3)] G = f M C u1 u2 u3 G := by kernel_rfl
end side_find_1
namespace slices_Insert_Sapi_Mark_api_Mark
def d : DFn := { ntmps := 0, res := [], body := .skip, prim := some (.ins 2 16) }
def f (M : Mach) (C : Call) (id off len : Nat) (i : Int) (id' off' len' : Nat) (G : GH) : Option Res := insD 2 id off len i id' off' len' G
theorem eq (id off len : Nat) (i : Int) (id' off' len' : Nat) (G : GH) : runF M C d [.c (.sl 2 id off len), .c (.int .i64 i), .c (.sl 2 id' off' len')] G = f M C id off len i id' off' len' G := by kernel_rfl
end slices_Insert_Sapi_Mark_api_Mark
namespace slices_Delete_Sapi_Mark_api_Mark
def d : DFn := { ntmps := 0, res := [], body := .skip, prim := some (.del 2 [.int .i64 0, .int .i64 0]) }
def f (M : Mach) (C : Call) (id off len : Nat) (i j : Int) (G : GH) : Option Res := delD 2 [.int .i64 0, .int .i64 0] id off len i j G
theorem eq (id off len : Nat) (i j : Int) (G : GH) : runF M C d [.c (.sl 2 id off len), .c (.int .i64 i), .c (.int .i64 j)] G = f M C id off len i j G := by kernel_rfl
end slices_Delete_Sapi_Mark_api_Mark
namespace cmp_isNaN_int
def d : DFn := { ntmps := 6, res := [.t 2], body := (.seq (.region [oP 0 2 (.move (.k (.c (.bool false))))]) (.seq (.region [mV 0 3 0,
 mV 1 4 0,
 oP 2 5 (.cmp .neq .i64 (.t 3) (.t 4)),
 mV 3 2 5]) .ret)) }
def f (M : Mach) (C : Call) (u1 : Int) (G : GH) : Option Res := some ([.c (.bool (!decide (u1 = u1)))], G)
theorem eq (u1 : Int) (G : GH) : runF M C d [.c (.int .i64 u1)] G = f M C u1 G := by kernel_rfl
end cmp_isNaN_int

end Go.Proofs.D
