/- Texts of the proof (T3); no condition. -/
import Derived.Test.YtogdeblppihbnaaTopBytesa
import Derived.KernelRfl
set_option linter.unusedSimpArgs false
set_option linter.unusedVariables false
set_option linter.unusedVariables false
set_option maxRecDepth 100000
namespace Go.Proofs.D
open Go
variable (M:Mach) (C:Call)
namespace F84
def d:DFn:={ ntmps:=45,res:=[.t 2],body:=(.seq (.region [oP 0 1 (.newv (.t 0) 6),
 oP 1 2 (.move (.k (.c (.sl 1 0 0 0))))]) (.seq (.region [oP 0 7 (.faddr 1 0),
 oP 1 8 (.ldG 7 (.c (.int .i64))),
 oP 2 9 (.conv .u8 (.t 8)),
 oP 3 10 (.bslice 1 1 [.int .u8 0] [(0,1,.t 9)]),
 mV 4 3 10]) (.seq (.seq (.region [oP 0 11 (.faddr 1 0),
 oP 1 12 (.ldG 11 (.c (.int .i64))),
 oP 2 13 (.call 69 [.t 12] [.c (.str)]),
 oP 3 14 (.sbytes (.t 13)),
 oP 4 15 (.len (.t 14)),
 oP 5 16 (.move (kI 0))]) (.block 0 (.loop [1,3,14,15,16] (.seq (.region [oP 0 17 (.cmp .lss .i64 (.t 16) (.t 15))]) (.seq (.cond (.t 17) .skip (.exit 0)) (.seq (.block 1 (.seq (.region [oP 0 18 (.iaddr (.t 14) (.t 16) 1),
 oP 1 19 (.ldG 18 (.c (.int .u8))),
 mV 2 5 19]) (.seq (.region [mV 0 20 5,
 oP 1 21 (.call 70 [.t 1,.t 20] [.c (.ptr)]),
 oP 2 22 (.nilck (.t 21)),
 oP 3 23 (.ldG 22 (.c (.int .i64))),
 mV 4 6 23]) (.region [mV 0 24 3,
 mV 1 25 6,
 oP 2 26 (.bin .shr .i64 (.t 25) (.k (.c (.int .u64 16)))),
 oP 3 27 (.conv .u8 (.t 26)),
 mV 4 28 6,
 oP 5 29 (.bin .shr .i64 (.t 28) (.k (.c (.int .u64 8)))),
 oP 6 30 (.conv .u8 (.t 29)),
 mV 7 31 6,
 oP 8 32 (.conv .u8 (.t 31)),
 oP 9 33 (.bslice 3 1 [.int .u8 0,.int .u8 0,.int .u8 0] [(0,1,.t 27),(1,1,.t 30),(2,1,.t 32)]),
 oP 10 34 (.app (.t 24) (.t 33) 1 1),
 mV 11 3 34])))) (.region [oP 0 35 (.bin .add .i64 (.t 16) (kI 1)),
 mV 1 16 35]))))))) (.seq (.seq (.region [oP 0 36 (.faddr 1 0),
 oP 1 37 (.ldG 36 (.c (.int .i64))),
 oP 2 38 (.cmp .eql .i64 (.t 37) (kI 8))]) (.cond (.t 38) (.region [mV 0 39 3,
 oP 1 40 (.faddr 1 5),
 oP 2 41 (.ldG 40 (.c (.int .u8))),
 oP 3 42 (.bslice 1 1 [.int .u8 0] [(0,1,.t 41)]),
 oP 4 43 (.app (.t 39) (.t 42) 1 1),
 mV 5 3 43]) .skip)) (.seq (.region [mV 0 44 3,
 mV 1 2 44]) .ret))))) }
end F84
namespace F49
def d:DFn:={ ntmps:=46,res:=[.t 4],body:=(.seq (.region [oP 0 2 (.boxv 45 [7,9,11,13,15,36] (.t 0) 6),
 oP 1 4 (.move (.k (.c (.sl 1 0 0 0))))]) (.seq (.seq (.region [oP 0 7 (.faddr 2 0),
 oP 1 8 (.ldL 7 45 (.c (.int .i64))),
 oP 2 9 (.faddr 2 1),
 oP 3 10 (.ldL 9 45 (.c (.int .i64))),
 oP 4 11 (.faddr 2 2),
 oP 5 12 (.ldL 11 45 (.c (.int .i64))),
 oP 6 13 (.faddr 2 3),
 oP 7 14 (.ldL 13 45 (.c (.int .i64))),
 oP 8 15 (.faddr 2 4),
 oP 9 16 (.ldL 15 45 (.c (.int .i64))),
 oP 10 17 (.bslice 5 1 (zI 5) [(0,1,.t 8),(1,1,.t 10),(2,1,.t 12),(3,1,.t 14),(4,1,.t 16)]),
 oP 11 18 (.len (.t 17)),
 oP 12 19 (.move (kI 0))]) (.block 0 (.loop [1,2,4,17,18,19,45] (.seq (.region [oP 0 20 (.cmp .lss .i64 (.t 19) (.t 18))]) (.seq (.cond (.t 20) .skip (.exit 0)) (.seq (.block 1 (.seq (.region [oP 0 21 (.iaddr (.t 17) (.t 19) 1),
 oP 1 22 (.ldG 21 (.c (.int .i64))),
 mV 2 6 22]) (.region [mV 0 23 4,
 mV 1 24 6,
 oP 2 25 (.bin .shr .i64 (.t 24) (.k (.c (.int .u64 16)))),
 oP 3 26 (.conv .u8 (.t 25)),
 mV 4 27 6,
 oP 5 28 (.bin .shr .i64 (.t 27) (.k (.c (.int .u64 8)))),
 oP 6 29 (.conv .u8 (.t 28)),
 mV 7 30 6,
 oP 8 31 (.conv .u8 (.t 30)),
 oP 9 32 (.bslice 3 1 [.int .u8 0,.int .u8 0,.int .u8 0] [(0,1,.t 26),(1,1,.t 29),(2,1,.t 31)]),
 oP 10 33 (.app (.t 23) (.t 32) 1 1),
 mV 11 4 33]))) (.region [oP 0 34 (.bin .add .i64 (.t 19) (kI 1)),
 mV 1 19 34]))))))) (.seq (.region [mV 0 35 4,
 oP 1 36 (.faddr 2 5),
 oP 2 37 (.ldL 36 45 (.c (.int .i64))),
 oP 3 38 (.conv .u8 (.t 37)),
 oP 4 39 (.bslice 1 1 [.int .u8 0] [(0,1,.t 38)]),
 oP 5 40 (.app (.t 35) (.t 39) 1 1),
 mV 6 4 40]) (.seq (.region [mV 0 41 4,
 mV 1 42 1,
 oP 2 43 (.call 43 [.t 42] [.c (.sl 1)]),
 oP 3 44 (.app (.t 41) (.t 43) 1 1),
 mV 4 4 44]) .ret)))) }
end F49
namespace F20
def d:DFn:={ ntmps:=29,res:=[.t 0],body:=(.seq (.region [oP 0 0 (.move (kB false))]) (.seq (.region [oP 0 4 (.build (zI 6) [(0,1,.k (.c (.int .i64 1))),(1,1,.k (.c (.int .i64 4))),(2,1,.k (.c (.int .i64 8))),(3,1,.k (.c (.int .i64 4))),(4,1,.k (.c (.int .i64 6)))]),
 oP 1 1 (.boxz 28 [] (zI 6)),
 ⟨2,none,.stL 1 28 (.t 4) 6,none⟩]) (.seq (.region [oP 0 6 (.ldL 1 28 (.agg (iS 6))),
 oP 1 7 (.build [.int .i64 0,.int .i64 0,.int .i64 0,.int .i64 0,.int .i64 0,.int .u8 0] [(0,1,.k (.c (.int .i64 1))),(2,1,.k (.c (.int .i64 3)))]),
 oP 2 8 (.build [.int .i64 0,.int .i64 0,.int .i64 0,.int .i64 0,.int .i64 0,.int .u8 0] [(0,1,.k (.c (.int .i64 1))),(2,1,.k (.c (.int .i64 1)))]),
 oP 3 9 (.bslice 2 6 [.int .i64 0,.int .i64 0,.int .i64 0,.int .i64 0,.int .i64 0,.int .u8 0,.int .i64 0,.int .i64 0,.int .i64 0,.int .i64 0,.int .i64 0,.int .u8 0] [(0,6,.t 7),(6,6,.t 8)]),
 oP 4 10 (.call 22 [.t 6,.t 9] [.c (.sl 1)]),
 oP 5 11 (.call 21 [.t 10] [.c (.sl 8),.c (.int .i64)]),
 mV 6 5 11,
 oP 7 12 (.ext 5 0),
 oP 8 13 (.ext 5 1),
 mV 9 2 12,
 mV 10 3 13]) (.seq (.region [mV 0 14 3,
 oP 1 15 (.cmp .eql .i64 (.t 14) (kI 0)),
 mV 2 16 15,
 ⟨3,some 17,.move (.t 2),some (16,true)⟩,
 ⟨4,some 18,.len (.t 17),some (16,true)⟩,
 ⟨5,some 19,.cmp .eql .i64 (.t 18) (kI 2),some (16,true)⟩,
 oP 6 20 (.pick (.t 16) (.t 19) (kB false)),
 mV 7 21 20,
 ⟨8,some 22,.move (.t 2),some (21,true)⟩,
 ⟨9,some 23,.iaddr (.t 22) (kI 1) 8,some (21,true)⟩,
 ⟨10,some 24,.faddr 23 1,some (21,true)⟩,
 ⟨11,some 25,.ldG 24 (.c (.int .i64)),some (21,true)⟩,
 ⟨12,some 26,.cmp .eql .i64 (.t 25) (kI 4),some (21,true)⟩,
 oP 13 27 (.pick (.t 21) (.t 26) (kB false)),
 mV 14 0 27]) .ret)))) }
end F20
namespace F59
def d:DFn:={ ntmps:=37,res:=[.t 2],body:=(.seq (.region [oP 0 2 (.move (.k (.c (.sl 6 0 0 0))))]) (.seq (.block 0 (.loop [0,2] (.seq (.seq (.region [mV 0 7 0,
 oP 1 8 (.len (.t 7)),
 oP 2 9 (.cmp .gtr .i64 (.t 8) (kI 0))]) (.cond (.t 9) .skip (.exit 0))) (.block 1 (.seq (.region [mV 0 10 0,
 oP 1 11 (.iaddr (.t 10) (kI 0) 1),
 oP 2 12 (.ldG 11 (.c (.int .u8))),
 oP 3 13 (.conv .i64 (.t 12)),
 oP 4 14 (.bin .rem .i64 (.t 13) (kI 11)),
 mV 5 3 14]) (.seq (.seq (.region [mV 0 15 0,
 oP 1 16 (.slice (.t 15) (some (kI 1)) none 1),
 mV 2 0 16]) (.seq (.region [mV 0 17 3,
 oP 1 18 (.cmp .eql .i64 (.t 17) (kI 0))]) (.cond (.t 18) (.exit 1) .skip))) (.seq (.region [mV 0 20 3,
 mV 1 21 0,
 oP 2 22 (.call 68 [.t 20,.t 21] [.agg [.int .i64,.int .i64,.int .i64,.int .i64,.int .i64,.int .u8],.c (.int .i64),.c (.bool)]),
 mV 3 19 22,
 oP 4 23 (.ext 19 0),
 oP 5 24 (.ext 19 1),
 oP 6 25 (.ext 19 2),
 oP 7 4 (.boxz 36 [] [.int .i64 0,.int .i64 0,.int .i64 0,.int .i64 0,.int .i64 0,.int .u8 0]),
 ⟨8,none,.stL 4 36 (.t 23) 6,none⟩,
 mV 9 5 24,
 mV 10 6 25]) (.seq (.seq (.region [mV 0 26 6,
 oP 1 27 (.not (.t 26))]) (.cond (.t 27) (.exit 0) .skip)) (.region [mV 0 28 2,
 oP 1 29 (.ldL 4 36 (.agg [.int .i64,.int .i64,.int .i64,.int .i64,.int .i64,.int .u8])),
 oP 2 30 (.bslice 1 6 [.int .i64 0,.int .i64 0,.int .i64 0,.int .i64 0,.int .i64 0,.int .u8 0] [(0,6,.t 29)]),
 oP 3 31 (.app (.t 28) (.t 30) 6 48),
 mV 4 32 0,
 mV 5 33 5,
 oP 6 34 (.slice (.t 32) (some (.t 33)) none 1),
 mV 7 2 31,
 mV 8 0 34]))))))))) (.seq (.region [mV 0 35 2,
 mV 1 2 35]) .ret))) }
end F59
namespace F79
def d:DFn:={ ntmps:=26,res:=[.t 4],body:=(.seq (.region [oP 0 2 (.boxv 25 [9] (.t 0) 2),
 oP 1 4 (.move (kB false))]) (.seq (.region [mV 0 5 1,
 oP 1 6 (.cmp .geq .i64 (.t 5) (kI 0)),
 mV 2 7 6,
 ⟨3,some 8,.move (.t 1),some (7,true)⟩,
 ⟨4,some 9,.faddr 2 0,some (7,true)⟩,
 ⟨5,some 10,.ldL 9 25 (.c (.int .i64)),some (7,true)⟩,
 ⟨6,some 11,.cmp .lss .i64 (.t 8) (.t 10),some (7,true)⟩,
 oP 7 12 (.pick (.t 7) (.t 11) (kB false)),
 mV 8 13 12,
 ⟨9,some 14,.ldL 2 25 (.agg [.int .i64,.sl 1]),some (13,true)⟩,
 ⟨10,some 15,.move (.t 1),some (13,true)⟩,
 ⟨11,some 16,.bin .quo .i64 (.t 15) (kI 64),some (13,true)⟩,
 ⟨12,some 17,.call 95 [.t 14,.k (.c (.int .i64 0)),.t 16] [.c (.int .u64)],some (13,true)⟩,
 ⟨13,some 18,.move (.t 1),some (13,true)⟩,
 ⟨14,some 19,.conv .u64 (.t 18),some (13,true)⟩,
 ⟨15,some 20,.bin .rem .u64 (.t 19) (.k (.c (.int .u64 64))),some (13,true)⟩,
 ⟨16,some 21,.bin .shr .u64 (.t 17) (.t 20),some (13,true)⟩,
 ⟨17,some 22,.bin .and .u64 (.t 21) (.k (.c (.int .u64 1))),some (13,true)⟩,
 ⟨18,some 23,.cmp .eql .u64 (.t 22) (.k (.c (.int .u64 1))),some (13,true)⟩,
 oP 19 24 (.pick (.t 13) (.t 23) (kB false)),
 mV 20 4 24]) .ret)) }
def f (M:Mach) (C:Call) (b:Int) (e g h:Nat) (a:Int) (G:GH):Option Res:=bif decide (a≥0) then bif decide (a<b) then (C F88.id [.agg [.int .i64 b,.sl 1 e g h],.c (.int .i64 0),.c (.int .i64 (IntKind.i64.wrap (Int.tdiv a 64)))] G).bind fun d=>(((d.1[0]?).bind V1.c?).bind (Cell.asI .u64)).bind fun i=>(binD .shr .u64 i (Int.tmod (IntKind.u64.wrap a) 64)).bind fun j=>some ([.c (.bool (decide (IntKind.u64.wrap (((BitVec.ofInt IntKind.u64.bits j) &&& (BitVec.ofInt IntKind.u64.bits 1)).toNat:Int)=1)))],d.2) else some ([.c (.bool false)],G) else some ([.c (.bool false)],G)
theorem eq (a:Int) (b e g:Nat) (h:Int) (G:GH):runF M C d [.agg [.int .i64 a,.sl 1 b e g],.c (.int .i64 h)] G=f M C a b e g h G:=by kernel_rfl
end F79
namespace F85
def d:DFn:={ ntmps:=33,res:=[.t 2],body:=(.seq (.region [oP 0 2 (.move (.k (.c (.sl 1 0 0 0))))]) (.seq (.seq (.region [mV 0 7 0,
 oP 1 8 (.len (.t 7)),
 oP 2 9 (.move (kI 0))]) (.block 0 (.loop [2,7,8,9] (.seq (.region [oP 0 10 (.cmp .lss .i64 (.t 9) (.t 8))]) (.seq (.cond (.t 10) .skip (.exit 0)) (.seq (.block 1 (.seq (.region [oP 0 11 (.iaddr (.t 7) (.t 9) 6),
 oP 1 12 (.ldG 11 (.agg [.int .i64,.int .i64,.int .i64,.int .i64,.int .i64,.int .u8])),
 oP 2 4 (.boxz 32 [] [.int .i64 0,.int .i64 0,.int .i64 0,.int .i64 0,.int .i64 0,.int .u8 0]),
 ⟨3,none,.stL 4 32 (.t 12) 6,none⟩]) (.seq (.region [oP 0 13 (.ldL 4 32 (.agg [.int .i64,.int .i64,.int .i64,.int .i64,.int .i64,.int .u8])),
 oP 1 14 (.call 58 [.t 13] [.c (.sl 1)]),
 mV 2 5 14]) (.seq (.region [mV 0 15 5,
 oP 1 16 (.call 57 [.t 15] [.c (.sl 6)]),
 mV 2 6 16]) (.seq (.region [mV 0 17 6,
 oP 1 18 (.len (.t 17)),
 oP 2 19 (.cmp .eql .i64 (.t 18) (kI 1)),
 mV 3 20 19,
 ⟨4,some 21,.move (.t 6),some (20,true)⟩,
 ⟨5,some 22,.iaddr (.t 21) (kI 0) 6,some (20,true)⟩,
 ⟨6,some 23,.ldG 22 (.agg [.int .i64,.int .i64,.int .i64,.int .i64,.int .i64,.int .u8]),some (20,true)⟩,
 ⟨7,some 24,.ldL 4 32 (.agg [.int .i64,.int .i64,.int .i64,.int .i64,.int .i64,.int .u8]),some (20,true)⟩,
 ⟨8,some 25,.aeq false [.int .i64,.int .i64,.int .i64,.int .i64,.int .i64,.int .u8] (.t 23) (.t 24),some (20,true)⟩,
 oP 9 26 (.pick (.t 20) (.t 25) (kB false))]) (.cond (.t 26) (.region [mV 0 27 2,
 mV 1 28 5,
 oP 2 29 (.app (.t 27) (.t 28) 1 1),
 mV 3 2 29]) .skip)))))) (.region [oP 0 30 (.bin .add .i64 (.t 9) (kI 1)),
 mV 1 9 30]))))))) (.seq (.region [mV 0 31 2,
 mV 1 2 31]) .ret))) }
end F85
namespace F22
def d:DFn:={ ntmps:=20,res:=[.t 4],body:=(.seq (.region [oP 0 4 (.move (kI 0))]) (.seq (.region [mV 0 7 0,
 oP 1 8 (.call 102 [.t 7] [.c (.bool)]),
 mV 2 5 8]) (.seq (.region [mV 0 9 1,
 oP 1 10 (.call 102 [.t 9] [.c (.bool)]),
 mV 2 6 10]) (.seq (.seq (.region [mV 0 11 5]) (.cond (.t 11) (.seq (.seq (.region [mV 0 12 6]) (.cond (.t 12) (.seq (.region [oP 0 4 (.move (kI 0))]) .ret) .skip)) (.seq (.region [oP 0 4 (.move (kI (-1)))]) .ret)) .skip)) (.seq (.seq (.region [mV 0 13 6]) (.cond (.t 13) (.seq (.region [oP 0 4 (.move (kI 1))]) .ret) .skip)) (.seq (.seq (.region [mV 0 14 0,
 mV 1 15 1,
 oP 2 16 (.cmp .lss .i64 (.t 14) (.t 15))]) (.cond (.t 16) (.seq (.region [oP 0 4 (.move (kI (-1)))]) .ret) .skip)) (.seq (.seq (.region [mV 0 17 0,
 mV 1 18 1,
 oP 2 19 (.cmp .gtr .i64 (.t 17) (.t 18))]) (.cond (.t 19) (.seq (.region [oP 0 4 (.move (kI 1))]) .ret) .skip)) (.seq (.region [oP 0 4 (.move (kI 0))]) .ret)))))))) }
def f (M:Mach) (C:Call) (b d:Int) (G:GH):Option Res:=(C F35.id [.c (.int .i64 b)] G).bind fun e=>(((e.1[0]?).bind V1.c?).bind Cell.asB).bind fun h=>(C F35.id [.c (.int .i64 d)] e.2).bind fun a=>(((a.1[0]?).bind V1.c?).bind Cell.asB).bind fun g=>bif h then bif g then some ([.c (.int .i64 0)],a.2) else some ([.c (.int .i64 (-1))],a.2) else bif g then some ([.c (.int .i64 1)],a.2) else bif decide (b<d) then some ([.c (.int .i64 (-1))],a.2) else bif decide (b>d) then some ([.c (.int .i64 1)],a.2) else some ([.c (.int .i64 0)],a.2)
theorem eq (a b:Int) (G:GH):runF M C d [.c (.int .i64 a),.c (.int .i64 b)] G=f M C a b G:=by kernel_rfl
end F22
namespace F26
def d:DFn:={ ntmps:=25,res:=[.box 8 (some 8)],body:=(.seq (.region [oP 0 8 (.boxz 24 [] zA)]) (.seq (.seq (.region [mV 0 10 3,
 oP 1 11 (.cmp .neq .i64 (.t 10) (kI 0))]) (.cond (.t 11) (.seq (.region [mV 0 12 3,
 oP 1 13 (.build zA [(0,1,.t 12)]),
 ⟨2,none,.stL 8 24 (.t 13) 8,none⟩]) .ret) .skip)) (.seq (.region [mV 0 15 0,
 mV 1 16 1,
 mV 2 17 2,
 oP 3 18 (.call 61 [.t 15,.t 16,.t 17] [.c (.int .i64),.c (.int .i64)]),
 mV 4 14 18,
 oP 5 19 (.ext 14 0),
 oP 6 20 (.ext 14 1),
 mV 7 9 19,
 mV 8 3 20]) (.seq (.region [mV 0 21 3,
 mV 1 22 9,
 oP 2 23 (.build zA [(0,1,.t 21),(1,1,.t 22)]),
 ⟨3,none,.stL 8 24 (.t 23) 8,none⟩]) .ret)))) }
def f (M:Mach) (C:Call) (d e:Nat) (g h b:Int) (G:GH):Option Res:=bif (!decide (b=0)) then some ([.agg [.int .i64 b,.int .i64 0,.int .i64 0,.int .u8 0,.int .i64 0,.int .i64 0,.int .i64 0,.int .i64 0]],G) else (C F25.id [.c (.ptr d e),.c (.int .i64 g),.c (.int .i64 h)] G).bind fun a=>(((a.1[0]?).bind V1.c?).bind (Cell.asI .i64)).bind fun i=>(((a.1[1]?).bind V1.c?).bind (Cell.asI .i64)).bind fun j=>some ([.agg [.int .i64 j,.int .i64 i,.int .i64 0,.int .u8 0,.int .i64 0,.int .i64 0,.int .i64 0,.int .i64 0]],a.2)
theorem eq (a b:Nat) (e g h:Int) (G:GH):runF M C d [.c (.ptr a b),.c (.int .i64 e),.c (.int .i64 g),.c (.int .i64 h)] G=f M C a b e g h G:=by kernel_rfl
end F26
namespace F73
def d:DFn:={ ntmps:=22,res:=[.t 4,.t 5],body:=(.seq (.region [oP 0 4 (.move (kI 0)),
 oP 1 5 (.move (kB false))]) (.seq (.region [mV 0 7 0,
 oP 1 8 (.conv .u64 (.t 7)),
 mV 2 9 1,
 oP 3 10 (.conv .u64 (.t 9)),
 oP 4 11 (.bin .add .u64 (.t 8) (.t 10)),
 oP 5 12 (.conv .i64 (.t 11)),
 mV 6 6 12]) (.seq (.seq (.region [mV 0 13 0,
 mV 1 14 6,
 oP 2 15 (.bin .xor .i64 (.t 13) (.t 14)),
 mV 3 16 1,
 mV 4 17 6,
 oP 5 18 (.bin .xor .i64 (.t 16) (.t 17)),
 oP 6 19 (.bin .and .i64 (.t 15) (.t 18)),
 oP 7 20 (.cmp .lss .i64 (.t 19) (kI 0))]) (.cond (.t 20) (.seq (.region [oP 0 4 (.move (kI 0)),
 oP 1 5 (.move (kB false))]) .ret) .skip)) (.seq (.region [mV 0 21 6,
 mV 1 4 21,
 oP 2 5 (.move (kB true))]) .ret)))) }
def f (M:Mach) (C:Call) (a b:Int) (G:GH):Option Res:=bif decide (IntKind.i64.wrap (((BitVec.ofInt IntKind.i64.bits (IntKind.i64.wrap (((BitVec.ofInt IntKind.i64.bits a) ^^^ (BitVec.ofInt IntKind.i64.bits (IntKind.i64.wrap (IntKind.u64.wrap ((IntKind.u64.wrap a)+(IntKind.u64.wrap b)))))).toNat:Int))) &&& (BitVec.ofInt IntKind.i64.bits (IntKind.i64.wrap (((BitVec.ofInt IntKind.i64.bits b) ^^^ (BitVec.ofInt IntKind.i64.bits (IntKind.i64.wrap (IntKind.u64.wrap ((IntKind.u64.wrap a)+(IntKind.u64.wrap b)))))).toNat:Int)))).toNat:Int)<0) then some ([.c (.int .i64 0),.c (.bool false)],G) else some ([.c (.int .i64 (IntKind.i64.wrap (IntKind.u64.wrap ((IntKind.u64.wrap a)+(IntKind.u64.wrap b))))),.c (.bool true)],G)
theorem eq (a b:Int) (G:GH):runF M C d [.c (.int .i64 a),.c (.int .i64 b)] G=f M C a b G:=by kernel_rfl
end F73
namespace F28
def d:DFn:={ ntmps:=11,res:=[.box 2 (some 8)],body:=(.seq (.region [oP 0 2 (.boxz 10 [] (zI 8))]) (.seq (.seq (.region [mV 0 3 0,
 oP 1 4 (.pnil false (.t 3))]) (.cond (.t 4) (.seq (.region [oP 0 5 (.build (zI 8) []),
 ⟨1,none,.stL 2 10 (.t 5) 8,none⟩]) .ret) .skip)) (.seq (.region [mV 0 6 0,
 oP 1 7 (.nilck (.t 6)),
 oP 2 8 (.faddr 7 0),
 oP 3 9 (.ldG 8 (.agg (iS 8))),
 ⟨4,none,.stL 2 10 (.t 9) 8,none⟩]) .ret))) }
def f (M:Mach) (C:Call) (a b:Nat) (G:GH):Option Res:=bif Bool.xor false (Nat.beq a 0) then some ([.agg [.int .i64 0,.int .i64 0,.int .i64 0,.int .i64 0,.int .i64 0,.int .i64 0,.int .i64 0,.int .i64 0]],G) else guardK (!Nat.beq a 0) (((G.ld a ((b+0)+0)).bind (Cell.asI .i64)).bind fun c=>((G.ld a ((b+0)+1)).bind (Cell.asI .i64)).bind fun d=>((G.ld a ((b+0)+2)).bind (Cell.asI .i64)).bind fun e=>((G.ld a ((b+0)+3)).bind (Cell.asI .i64)).bind fun g=>((G.ld a ((b+0)+4)).bind (Cell.asI .i64)).bind fun h=>((G.ld a ((b+0)+5)).bind (Cell.asI .i64)).bind fun i=>((G.ld a ((b+0)+6)).bind (Cell.asI .i64)).bind fun j=>((G.ld a ((b+0)+7)).bind (Cell.asI .i64)).bind fun k=>some ([.agg [.int .i64 c,.int .i64 d,.int .i64 e,.int .i64 g,.int .i64 h,.int .i64 i,.int .i64 j,.int .i64 k]],G))
theorem eq (a b:Nat) (G:GH):runF M C d [.c (.ptr a b)] G=f M C a b G:=by kernel_rfl
end F28
namespace F45
def d:DFn:={ ntmps:=17,res:=[.t 4],body:=(.seq (.region [oP 0 2 (.boxv 16 [] (.t 0) 2),
 oP 1 4 (.move (kB false))]) (.seq (.region [oP 0 5 (.ldL 2 16 (.agg [.int .i64,.sl 1])),
 mV 1 6 1,
 oP 2 7 (.bin .mul .i64 (kI 2) (.t 6)),
 oP 3 8 (.call 98 [.t 5,.t 7] [.c (.bool)]),
 mV 4 9 8,
 ⟨5,some 10,.ldL 2 16 (.agg [.int .i64,.sl 1]),some (9,false)⟩,
 ⟨6,some 11,.move (.t 1),some (9,false)⟩,
 ⟨7,some 12,.bin .mul .i64 (kI 2) (.t 11),some (9,false)⟩,
 ⟨8,some 13,.bin .add .i64 (.t 12) (kI 1),some (9,false)⟩,
 ⟨9,some 14,.call 98 [.t 10,.t 13] [.c (.bool)],some (9,false)⟩,
 oP 10 15 (.pick (.t 9) (kB true) (.t 14)),
 mV 11 4 15]) .ret)) }
def f (M:Mach) (C:Call) (b:Int) (d e g:Nat) (h:Int) (G:GH):Option Res:=(C F79.id [.agg [.int .i64 b,.sl 1 d e g],.c (.int .i64 (IntKind.i64.wrap (2*h)))] G).bind fun a=>(((a.1[0]?).bind V1.c?).bind Cell.asB).bind fun j=>bif j then some ([.c (.bool true)],a.2) else (C F79.id [.agg [.int .i64 b,.sl 1 d e g],.c (.int .i64 (IntKind.i64.wrap ((IntKind.i64.wrap (2*h))+1)))] a.2).bind fun i=>(((i.1[0]?).bind V1.c?).bind Cell.asB).bind fun k=>some ([.c (.bool k)],i.2)
theorem eq (a:Int) (b e g:Nat) (h:Int) (G:GH):runF M C d [.agg [.int .i64 a,.sl 1 b e g],.c (.int .i64 h)] G=f M C a b e g h G:=by kernel_rfl
end F45
namespace F58
def d:DFn:={ ntmps:=19,res:=[.t 8,.t 9],body:=(.seq (.region [oP 0 4 (.boxv 18 [] (.t 0) 8),
 oP 1 8 (.move (kI 0)),
 oP 2 9 (.move (kI 0))]) (.seq (.region [oP 0 10 (.ldL 4 18 (.agg (iS 8))),
 mV 1 11 1,
 mV 2 12 2,
 oP 3 13 (.bin .sub .i64 (.t 11) (.t 12)),
 mV 4 14 3,
 oP 5 15 (.call 46 [.t 10,.t 13,.t 14,.k (.c (.int .i64 1))] [.c (.int .i64),.c (.int .i64)]),
 oP 6 16 (.ext 15 0),
 oP 7 17 (.ext 15 1),
 mV 8 8 16,
 mV 9 9 17]) .ret)) }
def f (M:Mach) (C:Call) (b d e g h i j k l m n:Int) (G:GH):Option Res:=(C F63.id [.agg [.int .i64 b,.int .i64 d,.int .i64 e,.int .i64 g,.int .i64 h,.int .i64 i,.int .i64 j,.int .i64 k],.c (.int .i64 (IntKind.i64.wrap (l-m))),.c (.int .i64 n),.c (.int .i64 1)] G).bind fun a=>(((a.1[0]?).bind V1.c?).bind (Cell.asI .i64)).bind fun o=>(((a.1[1]?).bind V1.c?).bind (Cell.asI .i64)).bind fun p=>some ([.c (.int .i64 o),.c (.int .i64 p)],a.2)
theorem eq (a b e g h i j k l m n:Int) (G:GH):runF M C d [.agg [.int .i64 a,.int .i64 b,.int .i64 e,.int .i64 g,.int .i64 h,.int .i64 i,.int .i64 j,.int .i64 k],.c (.int .i64 l),.c (.int .i64 m),.c (.int .i64 n)] G=f M C a b e g h i j k l m n G:=by kernel_rfl
end F58
namespace F56
def d:DFn:={ ntmps:=14,res:=[.box 2 (some 3)],body:=(.seq (.region [oP 0 1 (.boxv 12 [3,6,9,10] (.t 0) 3),
 oP 1 2 (.boxz 13 [] [.int .i64 0,.sl 2 0 0 0,.sl 2 0 0 0])]) (.seq (.region [oP 0 3 (.faddr 1 1),
 oP 1 4 (.ldL 3 12 (.agg [.sl 2])),
 oP 2 5 (.call 79 [.t 4,.k (.c (.int .i64 0)),.k (.c (.int .i64 0)),.k (.c (.bool true))] [.agg [.sl 2]]),
 oP 3 6 (.faddr 1 2),
 oP 4 7 (.ldL 6 12 (.c (.sl 2))),
 oP 5 8 (.call 83 [.t 7] [.c (.sl 2)]),
 oP 6 9 (.faddr 1 1),
 ⟨7,none,.stL 9 12 (.t 5) 1,none⟩,
 oP 8 10 (.faddr 1 2),
 ⟨9,none,.stL 10 12 (.t 8) 1,none⟩]) (.seq (.region [oP 0 11 (.ldL 1 12 (.agg [.int .i64,.sl 2,.sl 2])),
 ⟨1,none,.stL 2 13 (.t 11) 3,none⟩]) .ret))) }
end F56
namespace F44
def d:DFn:={ ntmps:=12,res:=[.t 4,.t 5],body:=(.seq (.region [oP 0 2 (.boxv 11 [] (.t 0) 8),
 oP 1 4 (.move (kI 0)),
 oP 2 5 (.move (kB false))]) (.seq (.region [oP 0 6 (.ldL 2 11 (.agg (iS 8))),
 mV 1 7 1,
 oP 2 8 (.call 39 [.t 6,.t 7] [.c (.int .i64),.c (.bool)]),
 oP 3 9 (.ext 8 0),
 oP 4 10 (.ext 8 1),
 mV 5 4 9,
 mV 6 5 10]) .ret)) }
def f (M:Mach) (C:Call) (b d e g h i j k l:Int) (G:GH):Option Res:=(C F54.id [.agg [.int .i64 b,.int .i64 d,.int .i64 e,.int .i64 g,.int .i64 h,.int .i64 i,.int .i64 j,.int .i64 k],.c (.int .i64 l)] G).bind fun a=>(((a.1[0]?).bind V1.c?).bind (Cell.asI .i64)).bind fun m=>(((a.1[1]?).bind V1.c?).bind Cell.asB).bind fun n=>some ([.c (.int .i64 m),.c (.bool n)],a.2)
theorem eq (a b e g h i j k l:Int) (G:GH):runF M C d [.agg [.int .i64 a,.int .i64 b,.int .i64 e,.int .i64 g,.int .i64 h,.int .i64 i,.int .i64 j,.int .i64 k],.c (.int .i64 l)] G=f M C a b e g h i j k l G:=by kernel_rfl
end F44
namespace F83
def d:DFn:={ ntmps:=21,res:=[.t 2,.t 3],body:=(.seq (.region [oP 0 2 (.move (.k (.c (.sl 8 0 0 0)))),
 oP 1 3 (.move (kI 0))]) (.seq (.region [mV 0 8 0,
 oP 1 9 (.call 41 [.t 8] [.agg (iS 6),.c (.sl 6),.c (.bool)]),
 mV 2 7 9,
 oP 3 10 (.ext 7 0),
 oP 4 11 (.ext 7 1),
 oP 5 12 (.ext 7 2),
 oP 6 4 (.boxz 20 [] (zI 6)),
 ⟨7,none,.stL 4 20 (.t 10) 6,none⟩,
 mV 8 5 11,
 mV 9 6 12]) (.seq (.seq (.region [mV 0 13 6,
 oP 1 14 (.not (.t 13))]) (.cond (.t 14) (.seq (.region [oP 0 2 (.move (.k (.c (.sl 8 0 0 0)))),
 oP 1 3 (.move (kI 2))]) .ret) .skip)) (.seq (.region [oP 0 15 (.ldL 4 20 (.agg (iS 6))),
 mV 1 16 5,
 oP 2 17 (.call 42 [.t 15,.t 16] [.c (.sl 8),.c (.int .i64)]),
 oP 3 18 (.ext 17 0),
 oP 4 19 (.ext 17 1),
 mV 5 2 18,
 mV 6 3 19]) .ret)))) }
end F83
namespace F51
def d:DFn:={ ntmps:=24,res:=[.t 4],body:=(.seq (.region [oP 0 4 (.move (.k (.c (.ptr 0 0))))]) (.seq (.seq (.region [mV 0 5 1]) (.block 0 (.seq (.region [oP 0 7 (.cmp .eql .u8 (.t 5) (.k (.c (.int .u8 80)))),
 mV 1 6 7]) (.cond (.t 6) (.seq (.region [mV 0 8 0,
 oP 1 9 (.nilck (.t 8)),
 oP 2 10 (.faddr 9 1),
 mV 3 4 10]) .ret) (.seq (.region [oP 0 12 (.cmp .eql .u8 (.t 5) (.k (.c (.int .u8 83)))),
 mV 1 11 12]) (.cond (.t 11) (.seq (.region [mV 0 13 0,
 oP 1 14 (.nilck (.t 13)),
 oP 2 15 (.faddr 14 2),
 mV 3 4 15]) .ret) (.seq (.region [oP 0 17 (.cmp .eql .u8 (.t 5) (.k (.c (.int .u8 65)))),
 mV 1 16 17]) (.cond (.t 16) (.seq (.region [mV 0 18 0,
 oP 1 19 (.nilck (.t 18)),
 oP 2 20 (.faddr 19 3),
 mV 3 4 20]) .ret) .skip)))))))) (.seq (.region [mV 0 21 0,
 oP 1 22 (.nilck (.t 21)),
 oP 2 23 (.faddr 22 4),
 mV 3 4 23]) .ret))) }
end F51
namespace F70
def d:DFn:={ ntmps:=18,res:=[.t 6],body:=(.seq (.region [oP 0 6 (.move (.k (.c (.int .u8 0))))]) (.seq (.region [mV 0 7 0,
 oP 1 8 (.conv .u8 (.t 7)),
 mV 2 9 1,
 oP 3 10 (.conv .u8 (.t 9)),
 oP 4 11 (.bin .mul .u8 (.k (.c (.int .u8 31))) (.t 10)),
 oP 5 12 (.bin .add .u8 (.t 8) (.t 11)),
 mV 6 13 2,
 oP 7 14 (.conv .u8 (.t 13)),
 oP 8 15 (.bin .mul .u8 (.k (.c (.int .u8 7))) (.t 14)),
 oP 9 16 (.bin .add .u8 (.t 12) (.t 15)),
 oP 10 17 (.bin .add .u8 (.t 16) (.k (.c (.int .u8 1)))),
 mV 11 6 17]) .ret)) }
def f (M:Mach) (C:Call) (a b d:Int) (G:GH):Option Res:=some ([.c (.int .u8 (IntKind.u8.wrap ((IntKind.u8.wrap ((IntKind.u8.wrap ((IntKind.u8.wrap a)+(IntKind.u8.wrap (31*(IntKind.u8.wrap b)))))+(IntKind.u8.wrap (7*(IntKind.u8.wrap d)))))+1)))],G)
theorem eq (a b e:Int) (G:GH):runF M C d [.c (.int .i64 a),.c (.int .i64 b),.c (.int .i64 e)] G=f M C a b e G:=by kernel_rfl
end F70
namespace F2
def d:DFn:={ ntmps:=8,res:=[.t 2],body:=(.seq (.region [oP 0 2 (.move (.k (.c (.sl 2 0 0 0))))]) (.seq (.seq (.region [mV 0 3 0,
 oP 1 4 (.snil false (.t 3))]) (.cond (.t 4) (.seq (.region [oP 0 2 (.move (.k (.c (.sl 2 0 0 0))))]) .ret) .skip)) (.seq (.region [oP 0 5 (.bslice 0 2 [] []),
 mV 1 6 0,
 oP 2 7 (.app (.t 5) (.t 6) 2 16),
 mV 3 2 7]) .ret))) }
def f (M:Mach) (C:Call) (d g a:Nat) (G:GH):Option Res:=bif Bool.xor false (Nat.beq d 0) then some ([.c (.sl 2 0 0 0)],G) else let e:=G.alloc (.row [] false);(if a=0 then some [] else e.lds d g (a*2)).bind fun h=>guardK (decide (0+a≤most)) ((e.app G.next 0 0 2 a h).bind fun b=>some ([.c (.sl 2 b.1 b.2.1 (0+a))],b.2.2))
theorem eq (a b e:Nat) (G:GH):runF M C d [.c (.sl 2 a b e)] G=f M C a b e G:=by kernel_rfl
end F2
namespace F3
def d:DFn:={ ntmps:=8,res:=[.t 2],body:=(.seq (.region [oP 0 2 (.move (.k (.c (.sl 1 0 0 0))))]) (.seq (.seq (.region [mV 0 3 0,
 oP 1 4 (.snil false (.t 3))]) (.cond (.t 4) (.seq (.region [oP 0 2 (.move (.k (.c (.sl 1 0 0 0))))]) .ret) .skip)) (.seq (.region [oP 0 5 (.bslice 0 1 [] []),
 mV 1 6 0,
 oP 2 7 (.app (.t 5) (.t 6) 1 24),
 mV 3 2 7]) .ret))) }
def f (M:Mach) (C:Call) (d g a:Nat) (G:GH):Option Res:=bif Bool.xor false (Nat.beq d 0) then some ([.c (.sl 1 0 0 0)],G) else let e:=G.alloc (.row [] false);(if a=0 then some [] else e.lds d g (a*1)).bind fun h=>guardK (decide (0+a≤most)) ((e.app G.next 0 0 1 a h).bind fun b=>some ([.c (.sl 1 b.1 b.2.1 (0+a))],b.2.2))
theorem eq (a b e:Nat) (G:GH):runF M C d [.c (.sl 1 a b e)] G=f M C a b e G:=by kernel_rfl
end F3
namespace F4
def d:DFn:={ ntmps:=8,res:=[.t 2],body:=(.seq (.region [oP 0 2 (.move (.k (.c (.sl 1 0 0 0))))]) (.seq (.seq (.region [mV 0 3 0,
 oP 1 4 (.snil false (.t 3))]) (.cond (.t 4) (.seq (.region [oP 0 2 (.move (.k (.c (.sl 1 0 0 0))))]) .ret) .skip)) (.seq (.region [oP 0 5 (.bslice 0 1 [] []),
 mV 1 6 0,
 oP 2 7 (.app (.t 5) (.t 6) 1 8),
 mV 3 2 7]) .ret))) }
def f (M:Mach) (C:Call) (d g a:Nat) (G:GH):Option Res:=bif Bool.xor false (Nat.beq d 0) then some ([.c (.sl 1 0 0 0)],G) else let e:=G.alloc (.row [] false);(if a=0 then some [] else e.lds d g (a*1)).bind fun h=>guardK (decide (0+a≤most)) ((e.app G.next 0 0 1 a h).bind fun b=>some ([.c (.sl 1 b.1 b.2.1 (0+a))],b.2.2))
theorem eq (a b e:Nat) (G:GH):runF M C d [.c (.sl 1 a b e)] G=f M C a b e G:=by kernel_rfl
end F4
namespace F5
def d:DFn:={ ntmps:=8,res:=[.t 2],body:=(.seq (.region [oP 0 2 (.move (.k (.c (.sl 1 0 0 0))))]) (.seq (.seq (.region [mV 0 3 0,
 oP 1 4 (.snil false (.t 3))]) (.cond (.t 4) (.seq (.region [oP 0 2 (.move (.k (.c (.sl 1 0 0 0))))]) .ret) .skip)) (.seq (.region [oP 0 5 (.bslice 0 1 [] []),
 mV 1 6 0,
 oP 2 7 (.app (.t 5) (.t 6) 1 1),
 mV 3 2 7]) .ret))) }
def f (M:Mach) (C:Call) (d g a:Nat) (G:GH):Option Res:=bif Bool.xor false (Nat.beq d 0) then some ([.c (.sl 1 0 0 0)],G) else let e:=G.alloc (.row [] false);(if a=0 then some [] else e.lds d g (a*1)).bind fun h=>guardK (decide (0+a≤most)) ((e.app G.next 0 0 1 a h).bind fun b=>some ([.c (.sl 1 b.1 b.2.1 (0+a))],b.2.2))
theorem eq (a b e:Nat) (G:GH):runF M C d [.c (.sl 1 a b e)] G=f M C a b e G:=by kernel_rfl
end F5
namespace F6
def d:DFn:={ ntmps:=8,res:=[.t 2],body:=(.seq (.region [oP 0 2 (.move (.k (.c (.sl 1 0 0 0))))]) (.seq (.seq (.region [mV 0 3 0,
 oP 1 4 (.snil false (.t 3))]) (.cond (.t 4) (.seq (.region [oP 0 2 (.move (.k (.c (.sl 1 0 0 0))))]) .ret) .skip)) (.seq (.region [oP 0 5 (.bslice 0 1 [] []),
 mV 1 6 0,
 oP 2 7 (.app (.t 5) (.t 6) 1 1),
 mV 3 2 7]) .ret))) }
def f (M:Mach) (C:Call) (d g a:Nat) (G:GH):Option Res:=bif Bool.xor false (Nat.beq d 0) then some ([.c (.sl 1 0 0 0)],G) else let e:=G.alloc (.row [] false);(if a=0 then some [] else e.lds d g (a*1)).bind fun h=>guardK (decide (0+a≤most)) ((e.app G.next 0 0 1 a h).bind fun b=>some ([.c (.sl 1 b.1 b.2.1 (0+a))],b.2.2))
theorem eq (a b e:Nat) (G:GH):runF M C d [.c (.sl 1 a b e)] G=f M C a b e G:=by kernel_rfl
end F6
namespace F7
def d:DFn:={ ntmps:=13,res:=[.t 2],body:=(.seq (.region [oP 0 2 (.move (kB false))]) (.seq (.region [mV 0 3 0,
 oP 1 4 (.nilck (.t 3)),
 oP 2 5 (.faddr 4 1),
 oP 3 6 (.ldG 5 (.c (.int .i64))),
 mV 4 7 0,
 oP 5 8 (.nilck (.t 7)),
 oP 6 9 (.faddr 8 0),
 oP 7 10 (.ldG 9 (.c (.sl 1))),
 oP 8 11 (.len (.t 10)),
 oP 9 12 (.cmp .geq .i64 (.t 6) (.t 11)),
 mV 10 2 12]) .ret)) }
def f (M:Mach) (C:Call) (a b:Nat) (G:GH):Option Res:=guardK (!Nat.beq a 0) (((G.ld a (b+1)).bind (Cell.asI .i64)).bind fun d=>guardK (!Nat.beq a 0) (((G.ld a (b+0)).bind (Cell.asS 1)).bind fun e=>some ([.c (.bool (decide (d≥((e.2.2:Nat):Int))))],G)))
theorem eq (a b:Nat) (G:GH):runF M C d [.c (.ptr a b)] G=f M C a b G:=by kernel_rfl
end F7
namespace F68
def d:DFn:={ ntmps:=11,res:=[.t 4,.t 5],body:=(.seq (.region [oP 0 4 (.move (kI 0)),
 oP 1 5 (.move (kB false))]) (.seq (.region [mV 0 6 0,
 mV 1 7 1,
 oP 2 8 (.call 91 [.t 6,.t 7,.k (.c (.fn 92))] [.c (.int .i64),.c (.bool)]),
 oP 3 9 (.ext 8 0),
 oP 4 10 (.ext 8 1),
 mV 5 4 9,
 mV 6 5 10]) .ret)) }
def f (M:Mach) (C:Call) (b d e:Nat) (g:Int) (G:GH):Option Res:=(C F39.id [.c (.sl 2 b d e),.c (.int .i64 g),.c (.fn 92)] G).bind fun a=>(((a.1[0]?).bind V1.c?).bind (Cell.asI .i64)).bind fun h=>(((a.1[1]?).bind V1.c?).bind Cell.asB).bind fun i=>some ([.c (.int .i64 h),.c (.bool i)],a.2)
theorem eq (a b e:Nat) (g:Int) (G:GH):runF M C d [.c (.sl 2 a b e),.c (.int .i64 g)] G=f M C a b e g G:=by kernel_rfl
end F68
namespace F21
def d:DFn:={ ntmps:=6,res:=[.t 2],body:=(.seq (.region [oP 0 2 (.move (.k (.c (.ptr 0 0))))]) (.seq (.region [mV 0 3 0,
 oP 1 4 (.build [.sl 1 0 0 0,.int .i64 0] [(0,1,.t 3)]),
 oP 2 5 (.newv (.t 4) 2),
 mV 3 2 5]) .ret)) }
def f (M:Mach) (C:Call) (a b d:Nat) (G:GH):Option Res:=let e:=G.alloc (.row [.sl 1 a b d,.int .i64 0] false);some ([.c (.ptr G.next 0)],e)
theorem eq (a b e:Nat) (G:GH):runF M C d [.c (.sl 1 a b e)] G=f M C a b e G:=by kernel_rfl
end F21
namespace F0
def d:DFn:={ ntmps:=0,res:=[],body:=.skip,prim:=some (.ins 2 16) }
def f (M:Mach) (C:Call) (id off len:Nat) (i:Int) (id' off' len':Nat) (G:GH):Option Res:=insD 2 id off len i id' off' len' G
theorem eq (id off len:Nat) (i:Int) (id' off' len':Nat) (G:GH):runF M C d [.c (.sl 2 id off len),.c (.int .i64 i),.c (.sl 2 id' off' len')] G=f M C id off len i id' off' len' G:=by kernel_rfl
end F0
namespace F1
def d:DFn:={ ntmps:=0,res:=[],body:=.skip,prim:=some (.del 2 (zI 2)) }
def f (M:Mach) (C:Call) (id off len:Nat) (i j:Int) (G:GH):Option Res:=delD 2 [.int .i64 0,.int .i64 0] id off len i j G
theorem eq (id off len:Nat) (i j:Int) (G:GH):runF M C d [.c (.sl 2 id off len),.c (.int .i64 i),.c (.int .i64 j)] G=f M C id off len i j G:=by kernel_rfl
end F1
namespace F35
def d:DFn:={ ntmps:=6,res:=[.t 2],body:=(.seq (.region [oP 0 2 (.move (kB false))]) (.seq (.region [mV 0 3 0,
 mV 1 4 0,
 oP 2 5 (.cmp .neq .i64 (.t 3) (.t 4)),
 mV 3 2 5]) .ret)) }
def f (M:Mach) (C:Call) (a:Int) (G:GH):Option Res:=some ([.c (.bool (!decide (a=a)))],G)
theorem eq (a:Int) (G:GH):runF M C d [.c (.int .i64 a)] G=f M C a G:=by kernel_rfl
end F35

end Go.Proofs.D
