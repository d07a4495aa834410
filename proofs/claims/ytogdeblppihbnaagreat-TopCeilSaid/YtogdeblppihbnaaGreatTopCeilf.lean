/- Texts of the proof (T4); no condition. -/
import Derived.Test.YtogdeblppihbnaaGreatTopCeila
import Derived.KernelRfl
set_option linter.unusedSimpArgs false
set_option linter.unusedVariables false
set_option linter.unusedVariables false
set_option maxRecDepth 100000
namespace Go.Proofs.D
open Go
variable (M:Mach) (C:Call)
namespace F49
def d:DFn:={ ntmps:=25,res:=[.box 8 (some 8)],body:=(.seq (.region [oP 0 8 (.boxz 24 [] zA)]) (.seq (.seq (.region [mV 0 10 3,
 oP 1 11 (.cmp .neq .i64 (.t 10) (kI 0))]) (.cond (.t 11) (.seq (.region [mV 0 12 3,
 oP 1 13 (.build zA [(0,1,.t 12)]),
 ⟨2,none,.stL 8 24 (.t 13) 8,none⟩]) .ret) .skip)) (.seq (.region [mV 0 15 0,
 mV 1 16 1,
 mV 2 17 2,
 oP 3 18 (.call 71 [.t 15,.t 16,.t 17] [.c (.int .i64),.c (.int .i64)]),
 mV 4 14 18,
 oP 5 19 (.ext 14 0),
 oP 6 20 (.ext 14 1),
 mV 7 9 19,
 mV 8 3 20]) (.seq (.region [mV 0 21 3,
 mV 1 22 9,
 oP 2 23 (.build zA [(0,1,.t 21),(1,1,.t 22)]),
 ⟨3,none,.stL 8 24 (.t 23) 8,none⟩]) .ret)))) }
def f (M:Mach) (C:Call) (d e:Nat) (g h b:Int) (G:GH):Option Res:=bif (!decide (b=0)) then some ([.agg [.int .i64 b,.int .i64 0,.int .i64 0,.int .u8 0,.int .i64 0,.int .i64 0,.int .i64 0,.int .i64 0]],G) else (C F48.id [.c (.ptr d e),.c (.int .i64 g),.c (.int .i64 h)] G).bind fun a=>(((a.1[0]?).bind V1.c?).bind (Cell.asI .i64)).bind fun i=>(((a.1[1]?).bind V1.c?).bind (Cell.asI .i64)).bind fun j=>some ([.agg [.int .i64 j,.int .i64 i,.int .i64 0,.int .u8 0,.int .i64 0,.int .i64 0,.int .i64 0,.int .i64 0]],a.2)
theorem eq (a b:Nat) (e g h:Int) (G:GH):runF M C d [.c (.ptr a b),.c (.int .i64 e),.c (.int .i64 g),.c (.int .i64 h)] G=f M C a b e g h G:=by kernel_rfl
end F49
namespace F105
def d:DFn:={ ntmps:=22,res:=[.t 4,.t 5],body:=(.seq (.region [oP 0 4 (.move (kI 0)),
 oP 1 5 (.move (kB false))]) (.seq (.region [mV 0 7 0,
 oP 1 8 (.conv .u64 (.t 7)),
 mV 2 9 1,
 oP 3 10 (.conv .u64 (.t 9)),
 oP 4 11 (.bin .add .u64 (.t 8) (.t 10)),
 oP 5 12 (.conv .i64 (.t 11)),
 mV 6 6 12]) (.seq (.seq (.region [mV 0 13 0,
 mV 1 14 6,
 oP 2 15 (.bin .xor .i64 (.t 13) (.t 14)),
 mV 3 16 1,
 mV 4 17 6,
 oP 5 18 (.bin .xor .i64 (.t 16) (.t 17)),
 oP 6 19 (.bin .and .i64 (.t 15) (.t 18)),
 oP 7 20 (.cmp .lss .i64 (.t 19) (kI 0))]) (.cond (.t 20) (.seq (.region [oP 0 4 (.move (kI 0)),
 oP 1 5 (.move (kB false))]) .ret) .skip)) (.seq (.region [mV 0 21 6,
 mV 1 4 21,
 oP 2 5 (.move (kB true))]) .ret)))) }
def f (M:Mach) (C:Call) (a b:Int) (G:GH):Option Res:=bif decide (IntKind.i64.wrap (((BitVec.ofInt IntKind.i64.bits (IntKind.i64.wrap (((BitVec.ofInt IntKind.i64.bits a) ^^^ (BitVec.ofInt IntKind.i64.bits (IntKind.i64.wrap (IntKind.u64.wrap ((IntKind.u64.wrap a)+(IntKind.u64.wrap b)))))).toNat:Int))) &&& (BitVec.ofInt IntKind.i64.bits (IntKind.i64.wrap (((BitVec.ofInt IntKind.i64.bits b) ^^^ (BitVec.ofInt IntKind.i64.bits (IntKind.i64.wrap (IntKind.u64.wrap ((IntKind.u64.wrap a)+(IntKind.u64.wrap b)))))).toNat:Int)))).toNat:Int)<0) then some ([.c (.int .i64 0),.c (.bool false)],G) else some ([.c (.int .i64 (IntKind.i64.wrap (IntKind.u64.wrap ((IntKind.u64.wrap a)+(IntKind.u64.wrap b))))),.c (.bool true)],G)
theorem eq (a b:Int) (G:GH):runF M C d [.c (.int .i64 a),.c (.int .i64 b)] G=f M C a b G:=by kernel_rfl
end F105
namespace F18
def d:DFn:={ ntmps:=12,res:=[.box 4 (some 14),.box 5 (some 8)],body:=(.seq (.region [oP 0 2 (.boxv 9 [] (.t 0) 14),
 oP 1 4 (.boxz 10 [] [.int .i64 0,.int .i64 0,.int .i64 0,.int .i64 0,.int .i64 0,.int .i64 0,.int .i64 0,.int .i64 0,.sl 3 0 0 0,.int .i64 0,.int .i64 0,.int .i64 0,.sl 1 0 0 0,.sl 1 0 0 0]),
 oP 2 5 (.boxz 11 [] zA)]) (.seq (.region [oP 0 6 (.ldL 2 9 (.agg [.int .i64,.int .i64,.int .i64,.int .i64,.int .i64,.int .i64,.int .i64,.int .i64,.sl 3,.int .i64,.int .i64,.int .i64,.sl 1,.sl 1])),
 mV 1 7 1,
 oP 2 8 (.build zA [(0,1,.t 7)]),
 ⟨3,none,.stL 4 10 (.t 6) 14,none⟩,
 ⟨4,none,.stL 5 11 (.t 8) 8,none⟩]) .ret)) }
def f (M:Mach) (C:Call) (a b c d e g h i:Int) (j k l:Nat) (m n o:Int) (p q r s t v:Nat) (w:Int) (G:GH):Option Res:=some ([.agg [.int .i64 a,.int .i64 b,.int .i64 c,.int .i64 d,.int .i64 e,.int .i64 g,.int .i64 h,.int .i64 i,.sl 3 j k l,.int .i64 m,.int .i64 n,.int .i64 o,.sl 1 p q r,.sl 1 s t v],.agg [.int .i64 w,.int .i64 0,.int .i64 0,.int .u8 0,.int .i64 0,.int .i64 0,.int .i64 0,.int .i64 0]],G)
theorem eq (a b e g h i j k:Int) (l m n:Nat) (o p q:Int) (r s t v w x:Nat) (y:Int) (G:GH):runF M C d [.agg [.int .i64 a,.int .i64 b,.int .i64 e,.int .i64 g,.int .i64 h,.int .i64 i,.int .i64 j,.int .i64 k,.sl 3 l m n,.int .i64 o,.int .i64 p,.int .i64 q,.sl 1 r s t,.sl 1 v w x],.c (.int .i64 y)] G=f M C a b e g h i j k l m n o p q r s t v w x y G:=by kernel_rfl
end F18
namespace F51
def d:DFn:={ ntmps:=11,res:=[.box 2 (some 8)],body:=(.seq (.region [oP 0 2 (.boxz 10 [] (zI 8))]) (.seq (.seq (.region [mV 0 3 0,
 oP 1 4 (.pnil false (.t 3))]) (.cond (.t 4) (.seq (.region [oP 0 5 (.build (zI 8) []),
 ⟨1,none,.stL 2 10 (.t 5) 8,none⟩]) .ret) .skip)) (.seq (.region [mV 0 6 0,
 oP 1 7 (.nilck (.t 6)),
 oP 2 8 (.faddr 7 0),
 oP 3 9 (.ldG 8 (.agg (iS 8))),
 ⟨4,none,.stL 2 10 (.t 9) 8,none⟩]) .ret))) }
def f (M:Mach) (C:Call) (a b:Nat) (G:GH):Option Res:=bif Bool.xor false (Nat.beq a 0) then some ([.agg [.int .i64 0,.int .i64 0,.int .i64 0,.int .i64 0,.int .i64 0,.int .i64 0,.int .i64 0,.int .i64 0]],G) else guardK (!Nat.beq a 0) (((G.ld a ((b+0)+0)).bind (Cell.asI .i64)).bind fun c=>((G.ld a ((b+0)+1)).bind (Cell.asI .i64)).bind fun d=>((G.ld a ((b+0)+2)).bind (Cell.asI .i64)).bind fun e=>((G.ld a ((b+0)+3)).bind (Cell.asI .i64)).bind fun g=>((G.ld a ((b+0)+4)).bind (Cell.asI .i64)).bind fun h=>((G.ld a ((b+0)+5)).bind (Cell.asI .i64)).bind fun i=>((G.ld a ((b+0)+6)).bind (Cell.asI .i64)).bind fun j=>((G.ld a ((b+0)+7)).bind (Cell.asI .i64)).bind fun k=>some ([.agg [.int .i64 c,.int .i64 d,.int .i64 e,.int .i64 g,.int .i64 h,.int .i64 i,.int .i64 j,.int .i64 k]],G))
theorem eq (a b:Nat) (G:GH):runF M C d [.c (.ptr a b)] G=f M C a b G:=by kernel_rfl
end F51
namespace F26
def d:DFn:={ ntmps:=27,res:=[.t 6],body:=(.seq (.region [oP 0 6 (.move (kB false))]) (.seq (.region [mV 0 7 1,
 oP 1 8 (.cmp .geq .i64 (.t 7) (kI 0)),
 mV 2 9 8,
 ⟨3,some 10,.move (.t 2),some (9,true)⟩,
 ⟨4,some 11,.cmp .geq .i64 (.t 10) (kI 0),some (9,true)⟩,
 oP 5 12 (.pick (.t 9) (.t 11) (kB false)),
 mV 6 13 12,
 ⟨7,some 14,.move (.t 1),some (13,true)⟩,
 ⟨8,some 15,.move (.t 0),some (13,true)⟩,
 ⟨9,some 16,.len (.t 15),some (13,true)⟩,
 ⟨10,some 17,.cmp .leq .i64 (.t 14) (.t 16),some (13,true)⟩,
 oP 11 18 (.pick (.t 13) (.t 17) (kB false)),
 mV 12 19 18,
 ⟨13,some 20,.move (.t 2),some (19,true)⟩,
 ⟨14,some 21,.move (.t 0),some (19,true)⟩,
 ⟨15,some 22,.len (.t 21),some (19,true)⟩,
 ⟨16,some 23,.move (.t 1),some (19,true)⟩,
 ⟨17,some 24,.bin .sub .i64 (.t 22) (.t 23),some (19,true)⟩,
 ⟨18,some 25,.cmp .leq .i64 (.t 20) (.t 24),some (19,true)⟩,
 oP 19 26 (.pick (.t 19) (.t 25) (kB false)),
 mV 20 6 26]) .ret)) }
def f (M:Mach) (C:Call) (e g b:Nat) (a d:Int) (G:GH):Option Res:=bif decide (a≥0) then bif decide (d≥0) then bif decide (a≤((b:Nat):Int)) then some ([.c (.bool (decide (d≤IntKind.i64.wrap (((b:Nat):Int)-a))))],G) else some ([.c (.bool false)],G) else some ([.c (.bool false)],G) else some ([.c (.bool false)],G)
theorem eq (a b e:Nat) (g h:Int) (G:GH):runF M C d [.c (.sl 1 a b e),.c (.int .i64 g),.c (.int .i64 h)] G=f M C a b e g h G:=by kernel_rfl
end F26
namespace F70
def d:DFn:={ ntmps:=18,res:=[.t 2],body:=(.seq (.region [oP 0 2 (.move (.k (.c (.str []))))]) (.seq (.seq (.region [mV 0 3 0]) (.block 0 (.seq (.region [oP 0 5 (.cmp .eql .i64 (.t 3) (kI 1)),
 mV 1 4 5]) (.cond (.t 4) (.seq (.region [oP 0 2 (.move (.k (.c (.str [83]))))]) .ret) (.seq (.region [oP 0 7 (.cmp .eql .i64 (.t 3) (kI 2)),
 mV 1 6 7]) (.cond (.t 6) (.seq (.region [oP 0 2 (.move (.k (.c (.str [78,83]))))]) .ret) (.seq (.region [oP 0 9 (.cmp .eql .i64 (.t 3) (kI 3)),
 mV 1 8 9]) (.cond (.t 8) (.seq (.region [oP 0 2 (.move (.k (.c (.str [83,65]))))]) .ret) (.seq (.region [oP 0 11 (.cmp .eql .i64 (.t 3) (kI 4)),
 mV 1 10 11]) (.cond (.t 10) (.seq (.region [oP 0 2 (.move (.k (.c (.str [80,83]))))]) .ret) (.seq (.seq (.region [oP 0 13 (.cmp .eql .i64 (.t 3) (kI 5)),
 mV 1 12 13]) (.cond (.t 12) .skip (.region [oP 0 14 (.cmp .eql .i64 (.t 3) (kI 6)),
 mV 1 12 14]))) (.cond (.t 12) (.seq (.region [oP 0 2 (.move (.k (.c (.str [80]))))]) .ret) (.seq (.seq (.region [oP 0 16 (.cmp .eql .i64 (.t 3) (kI 7)),
 mV 1 15 16]) (.cond (.t 15) .skip (.region [oP 0 17 (.cmp .eql .i64 (.t 3) (kI 8)),
 mV 1 15 17]))) (.cond (.t 15) (.seq (.region [oP 0 2 (.move (.k (.c (.str [80,78]))))]) .ret) .skip)))))))))))))) (.seq (.region [oP 0 2 (.move (.k (.c (.str []))))]) .ret))) }
end F70
namespace F44
def d:DFn:={ ntmps:=19,res:=[.t 8,.t 9],body:=(.seq (.region [oP 0 4 (.boxv 18 [] (.t 0) 8),
 oP 1 8 (.move (kI 0)),
 oP 2 9 (.move (kI 0))]) (.seq (.region [oP 0 10 (.ldL 4 18 (.agg (iS 8))),
 mV 1 11 1,
 mV 2 12 2,
 oP 3 13 (.bin .sub .i64 (.t 11) (.t 12)),
 mV 4 14 3,
 oP 5 15 (.call 64 [.t 10,.t 13,.t 14,.k (.c (.int .i64 1))] [.c (.int .i64),.c (.int .i64)]),
 oP 6 16 (.ext 15 0),
 oP 7 17 (.ext 15 1),
 mV 8 8 16,
 mV 9 9 17]) .ret)) }
def f (M:Mach) (C:Call) (b d e g h i j k l m n:Int) (G:GH):Option Res:=(C F54.id [.agg [.int .i64 b,.int .i64 d,.int .i64 e,.int .i64 g,.int .i64 h,.int .i64 i,.int .i64 j,.int .i64 k],.c (.int .i64 (IntKind.i64.wrap (l-m))),.c (.int .i64 n),.c (.int .i64 1)] G).bind fun a=>(((a.1[0]?).bind V1.c?).bind (Cell.asI .i64)).bind fun o=>(((a.1[1]?).bind V1.c?).bind (Cell.asI .i64)).bind fun p=>some ([.c (.int .i64 o),.c (.int .i64 p)],a.2)
theorem eq (a b e g h i j k l m n:Int) (G:GH):runF M C d [.agg [.int .i64 a,.int .i64 b,.int .i64 e,.int .i64 g,.int .i64 h,.int .i64 i,.int .i64 j,.int .i64 k],.c (.int .i64 l),.c (.int .i64 m),.c (.int .i64 n)] G=f M C a b e g h i j k l m n G:=by kernel_rfl
end F44
namespace F38
def d:DFn:={ ntmps:=25,res:=[.t 4],body:=(.seq (.region [oP 0 2 (.boxv 23 [5,16,18] (.t 0) 2),
 oP 1 3 (.boxv 24 [7,9,14] (.t 1) 2),
 oP 2 4 (.move (kB false))]) (.seq (.region [oP 0 5 (.faddr 2 0),
 oP 1 6 (.ldL 5 23 (.c (.int .i64))),
 oP 2 7 (.faddr 3 0),
 oP 3 8 (.ldL 7 24 (.c (.int .i64))),
 oP 4 9 (.faddr 3 1),
 oP 5 10 (.ldL 9 24 (.c (.int .i64))),
 oP 6 11 (.bin .add .i64 (.t 8) (.t 10)),
 oP 7 12 (.cmp .lss .i64 (.t 6) (.t 11)),
 mV 8 13 12,
 ⟨9,some 14,.faddr 3 0,some (13,true)⟩,
 ⟨10,some 15,.ldL 14 24 (.c (.int .i64)),some (13,true)⟩,
 ⟨11,some 16,.faddr 2 0,some (13,true)⟩,
 ⟨12,some 17,.ldL 16 23 (.c (.int .i64)),some (13,true)⟩,
 ⟨13,some 18,.faddr 2 1,some (13,true)⟩,
 ⟨14,some 19,.ldL 18 23 (.c (.int .i64)),some (13,true)⟩,
 ⟨15,some 20,.bin .add .i64 (.t 17) (.t 19),some (13,true)⟩,
 ⟨16,some 21,.cmp .lss .i64 (.t 15) (.t 20),some (13,true)⟩,
 oP 17 22 (.pick (.t 13) (.t 21) (kB false)),
 mV 18 4 22]) .ret)) }
def f (M:Mach) (C:Call) (a d b e:Int) (G:GH):Option Res:=bif decide (a<IntKind.i64.wrap (b+e)) then some ([.c (.bool (decide (b<IntKind.i64.wrap (a+d))))],G) else some ([.c (.bool false)],G)
theorem eq (a b c e:Int) (G:GH):runF M C d [.agg [.int .i64 a,.int .i64 b],.agg [.int .i64 c,.int .i64 e]] G=f M C a b c e G:=by kernel_rfl
end F38
namespace F74
def d:DFn:={ ntmps:=17,res:=[.t 4],body:=(.seq (.region [oP 0 2 (.boxv 16 [] (.t 0) 2),
 oP 1 4 (.move (kB false))]) (.seq (.region [oP 0 5 (.ldL 2 16 (.agg [.int .i64,.sl 1])),
 mV 1 6 1,
 oP 2 7 (.bin .mul .i64 (kI 2) (.t 6)),
 oP 3 8 (.call 119 [.t 5,.t 7] [.c (.bool)]),
 mV 4 9 8,
 ⟨5,some 10,.ldL 2 16 (.agg [.int .i64,.sl 1]),some (9,false)⟩,
 ⟨6,some 11,.move (.t 1),some (9,false)⟩,
 ⟨7,some 12,.bin .mul .i64 (kI 2) (.t 11),some (9,false)⟩,
 ⟨8,some 13,.bin .add .i64 (.t 12) (kI 1),some (9,false)⟩,
 ⟨9,some 14,.call 119 [.t 10,.t 13] [.c (.bool)],some (9,false)⟩,
 oP 10 15 (.pick (.t 9) (kB true) (.t 14)),
 mV 11 4 15]) .ret)) }
def f (M:Mach) (C:Call) (b:Int) (d e g:Nat) (h:Int) (G:GH):Option Res:=(C F110.id [.agg [.int .i64 b,.sl 1 d e g],.c (.int .i64 (IntKind.i64.wrap (2*h)))] G).bind fun a=>(((a.1[0]?).bind V1.c?).bind Cell.asB).bind fun j=>bif j then some ([.c (.bool true)],a.2) else (C F110.id [.agg [.int .i64 b,.sl 1 d e g],.c (.int .i64 (IntKind.i64.wrap ((IntKind.i64.wrap (2*h))+1)))] a.2).bind fun i=>(((i.1[0]?).bind V1.c?).bind Cell.asB).bind fun k=>some ([.c (.bool k)],i.2)
theorem eq (a:Int) (b e g:Nat) (h:Int) (G:GH):runF M C d [.agg [.int .i64 a,.sl 1 b e g],.c (.int .i64 h)] G=f M C a b e g h G:=by kernel_rfl
end F74
namespace F88
def d:DFn:={ ntmps:=19,res:=[.t 8,.t 9],body:=(.seq (.region [oP 0 4 (.boxv 18 [] (.t 0) 8),
 oP 1 8 (.move (kI 0)),
 oP 2 9 (.move (kI 0))]) (.seq (.region [oP 0 10 (.ldL 4 18 (.agg (iS 8))),
 mV 1 11 1,
 mV 2 12 2,
 oP 3 13 (.bin .sub .i64 (.t 11) (.t 12)),
 mV 4 14 3,
 oP 5 15 (.call 50 [.t 10,.t 13,.t 14,.k (.c (.int .i64 1))] [.c (.int .i64),.c (.int .i64)]),
 oP 6 16 (.ext 15 0),
 oP 7 17 (.ext 15 1),
 mV 8 8 16,
 mV 9 9 17]) .ret)) }
def f (M:Mach) (C:Call) (b d e g h i j k l m n:Int) (G:GH):Option Res:=(C F93.id [.agg [.int .i64 b,.int .i64 d,.int .i64 e,.int .i64 g,.int .i64 h,.int .i64 i,.int .i64 j,.int .i64 k],.c (.int .i64 (IntKind.i64.wrap (l-m))),.c (.int .i64 n),.c (.int .i64 1)] G).bind fun a=>(((a.1[0]?).bind V1.c?).bind (Cell.asI .i64)).bind fun o=>(((a.1[1]?).bind V1.c?).bind (Cell.asI .i64)).bind fun p=>some ([.c (.int .i64 o),.c (.int .i64 p)],a.2)
theorem eq (a b e g h i j k l m n:Int) (G:GH):runF M C d [.agg [.int .i64 a,.int .i64 b,.int .i64 e,.int .i64 g,.int .i64 h,.int .i64 i,.int .i64 j,.int .i64 k],.c (.int .i64 l),.c (.int .i64 m),.c (.int .i64 n)] G=f M C a b e g h i j k l m n G:=by kernel_rfl
end F88
namespace F86
def d:DFn:={ ntmps:=14,res:=[.box 2 (some 3)],body:=(.seq (.region [oP 0 1 (.boxv 12 [3,6,9,10] (.t 0) 3),
 oP 1 2 (.boxz 13 [] [.int .i64 0,.sl 2 0 0 0,.sl 2 0 0 0])]) (.seq (.region [oP 0 3 (.faddr 1 1),
 oP 1 4 (.ldL 3 12 (.agg [.sl 2])),
 oP 2 5 (.call 98 [.t 4,.k (.c (.int .i64 0)),.k (.c (.int .i64 0)),.k (.c (.bool true))] [.agg [.sl 2]]),
 oP 3 6 (.faddr 1 2),
 oP 4 7 (.ldL 6 12 (.c (.sl 2))),
 oP 5 8 (.call 104 [.t 7] [.c (.sl 2)]),
 oP 6 9 (.faddr 1 1),
 ⟨7,none,.stL 9 12 (.t 5) 1,none⟩,
 oP 8 10 (.faddr 1 2),
 ⟨9,none,.stL 10 12 (.t 8) 1,none⟩]) (.seq (.region [oP 0 11 (.ldL 1 12 (.agg [.int .i64,.sl 2,.sl 2])),
 ⟨1,none,.stL 2 13 (.t 11) 3,none⟩]) .ret))) }
end F86
namespace F73
def d:DFn:={ ntmps:=12,res:=[.t 4,.t 5],body:=(.seq (.region [oP 0 2 (.boxv 11 [] (.t 0) 8),
 oP 1 4 (.move (kI 0)),
 oP 2 5 (.move (kB false))]) (.seq (.region [oP 0 6 (.ldL 2 11 (.agg (iS 8))),
 mV 1 7 1,
 oP 2 8 (.call 14 [.t 6,.t 7] [.c (.int .i64),.c (.bool)]),
 oP 3 9 (.ext 8 0),
 oP 4 10 (.ext 8 1),
 mV 5 4 9,
 mV 6 5 10]) .ret)) }
def f (M:Mach) (C:Call) (b d e g h i j k l:Int) (G:GH):Option Res:=(C F84.id [.agg [.int .i64 b,.int .i64 d,.int .i64 e,.int .i64 g,.int .i64 h,.int .i64 i,.int .i64 j,.int .i64 k],.c (.int .i64 l)] G).bind fun a=>(((a.1[0]?).bind V1.c?).bind (Cell.asI .i64)).bind fun m=>(((a.1[1]?).bind V1.c?).bind Cell.asB).bind fun n=>some ([.c (.int .i64 m),.c (.bool n)],a.2)
theorem eq (a b e g h i j k l:Int) (G:GH):runF M C d [.agg [.int .i64 a,.int .i64 b,.int .i64 e,.int .i64 g,.int .i64 h,.int .i64 i,.int .i64 j,.int .i64 k],.c (.int .i64 l)] G=f M C a b e g h i j k l G:=by kernel_rfl
end F73
namespace F114
def d:DFn:={ ntmps:=21,res:=[.t 2,.t 3],body:=(.seq (.region [oP 0 2 (.move (.k (.c (.sl 8 0 0 0)))),
 oP 1 3 (.move (kI 0))]) (.seq (.region [mV 0 8 0,
 oP 1 9 (.call 33 [.t 8] [.agg (iS 6),.c (.sl 6),.c (.bool)]),
 mV 2 7 9,
 oP 3 10 (.ext 7 0),
 oP 4 11 (.ext 7 1),
 oP 5 12 (.ext 7 2),
 oP 6 4 (.boxz 20 [] (zI 6)),
 ⟨7,none,.stL 4 20 (.t 10) 6,none⟩,
 mV 8 5 11,
 mV 9 6 12]) (.seq (.seq (.region [mV 0 13 6,
 oP 1 14 (.not (.t 13))]) (.cond (.t 14) (.seq (.region [oP 0 2 (.move (.k (.c (.sl 8 0 0 0)))),
 oP 1 3 (.move (kI 2))]) .ret) .skip)) (.seq (.region [oP 0 15 (.ldL 4 20 (.agg (iS 6))),
 mV 1 16 5,
 oP 2 17 (.call 34 [.t 15,.t 16] [.c (.sl 8),.c (.int .i64)]),
 oP 3 18 (.ext 17 0),
 oP 4 19 (.ext 17 1),
 mV 5 2 18,
 mV 6 3 19]) .ret)))) }
end F114
namespace F81
def d:DFn:={ ntmps:=24,res:=[.t 4],body:=(.seq (.region [oP 0 4 (.move (.k (.c (.ptr 0 0))))]) (.seq (.seq (.region [mV 0 5 1]) (.block 0 (.seq (.region [oP 0 7 (.cmp .eql .u8 (.t 5) (.k (.c (.int .u8 80)))),
 mV 1 6 7]) (.cond (.t 6) (.seq (.region [mV 0 8 0,
 oP 1 9 (.nilck (.t 8)),
 oP 2 10 (.faddr 9 1),
 mV 3 4 10]) .ret) (.seq (.region [oP 0 12 (.cmp .eql .u8 (.t 5) (.k (.c (.int .u8 83)))),
 mV 1 11 12]) (.cond (.t 11) (.seq (.region [mV 0 13 0,
 oP 1 14 (.nilck (.t 13)),
 oP 2 15 (.faddr 14 2),
 mV 3 4 15]) .ret) (.seq (.region [oP 0 17 (.cmp .eql .u8 (.t 5) (.k (.c (.int .u8 65)))),
 mV 1 16 17]) (.cond (.t 16) (.seq (.region [mV 0 18 0,
 oP 1 19 (.nilck (.t 18)),
 oP 2 20 (.faddr 19 3),
 mV 3 4 20]) .ret) .skip)))))))) (.seq (.region [mV 0 21 0,
 oP 1 22 (.nilck (.t 21)),
 oP 2 23 (.faddr 22 4),
 mV 3 4 23]) .ret))) }
end F81
namespace F100
def d:DFn:={ ntmps:=18,res:=[.t 6],body:=(.seq (.region [oP 0 6 (.move (.k (.c (.int .u8 0))))]) (.seq (.region [mV 0 7 0,
 oP 1 8 (.conv .u8 (.t 7)),
 mV 2 9 1,
 oP 3 10 (.conv .u8 (.t 9)),
 oP 4 11 (.bin .mul .u8 (.k (.c (.int .u8 31))) (.t 10)),
 oP 5 12 (.bin .add .u8 (.t 8) (.t 11)),
 mV 6 13 2,
 oP 7 14 (.conv .u8 (.t 13)),
 oP 8 15 (.bin .mul .u8 (.k (.c (.int .u8 7))) (.t 14)),
 oP 9 16 (.bin .add .u8 (.t 12) (.t 15)),
 oP 10 17 (.bin .add .u8 (.t 16) (.k (.c (.int .u8 1)))),
 mV 11 6 17]) .ret)) }
def f (M:Mach) (C:Call) (a b d:Int) (G:GH):Option Res:=some ([.c (.int .u8 (IntKind.u8.wrap ((IntKind.u8.wrap ((IntKind.u8.wrap ((IntKind.u8.wrap a)+(IntKind.u8.wrap (31*(IntKind.u8.wrap b)))))+(IntKind.u8.wrap (7*(IntKind.u8.wrap d)))))+1)))],G)
theorem eq (a b e:Int) (G:GH):runF M C d [.c (.int .i64 a),.c (.int .i64 b),.c (.int .i64 e)] G=f M C a b e G:=by kernel_rfl
end F100
namespace F2
def d:DFn:={ ntmps:=8,res:=[.t 2],body:=(.seq (.region [oP 0 2 (.move (.k (.c (.sl 2 0 0 0))))]) (.seq (.seq (.region [mV 0 3 0,
 oP 1 4 (.snil false (.t 3))]) (.cond (.t 4) (.seq (.region [oP 0 2 (.move (.k (.c (.sl 2 0 0 0))))]) .ret) .skip)) (.seq (.region [oP 0 5 (.bslice 0 2 [] []),
 mV 1 6 0,
 oP 2 7 (.app (.t 5) (.t 6) 2 16),
 mV 3 2 7]) .ret))) }
def f (M:Mach) (C:Call) (d g a:Nat) (G:GH):Option Res:=bif Bool.xor false (Nat.beq d 0) then some ([.c (.sl 2 0 0 0)],G) else let e:=G.alloc (.row [] false);(if a=0 then some [] else e.lds d g (a*2)).bind fun h=>guardK (decide (0+a≤most)) ((e.app G.next 0 0 2 a h).bind fun b=>some ([.c (.sl 2 b.1 b.2.1 (0+a))],b.2.2))
theorem eq (a b e:Nat) (G:GH):runF M C d [.c (.sl 2 a b e)] G=f M C a b e G:=by kernel_rfl
end F2
namespace F3
def d:DFn:={ ntmps:=8,res:=[.t 2],body:=(.seq (.region [oP 0 2 (.move (.k (.c (.sl 1 0 0 0))))]) (.seq (.seq (.region [mV 0 3 0,
 oP 1 4 (.snil false (.t 3))]) (.cond (.t 4) (.seq (.region [oP 0 2 (.move (.k (.c (.sl 1 0 0 0))))]) .ret) .skip)) (.seq (.region [oP 0 5 (.bslice 0 1 [] []),
 mV 1 6 0,
 oP 2 7 (.app (.t 5) (.t 6) 1 24),
 mV 3 2 7]) .ret))) }
def f (M:Mach) (C:Call) (d g a:Nat) (G:GH):Option Res:=bif Bool.xor false (Nat.beq d 0) then some ([.c (.sl 1 0 0 0)],G) else let e:=G.alloc (.row [] false);(if a=0 then some [] else e.lds d g (a*1)).bind fun h=>guardK (decide (0+a≤most)) ((e.app G.next 0 0 1 a h).bind fun b=>some ([.c (.sl 1 b.1 b.2.1 (0+a))],b.2.2))
theorem eq (a b e:Nat) (G:GH):runF M C d [.c (.sl 1 a b e)] G=f M C a b e G:=by kernel_rfl
end F3
namespace F4
def d:DFn:={ ntmps:=8,res:=[.t 2],body:=(.seq (.region [oP 0 2 (.move (.k (.c (.sl 1 0 0 0))))]) (.seq (.seq (.region [mV 0 3 0,
 oP 1 4 (.snil false (.t 3))]) (.cond (.t 4) (.seq (.region [oP 0 2 (.move (.k (.c (.sl 1 0 0 0))))]) .ret) .skip)) (.seq (.region [oP 0 5 (.bslice 0 1 [] []),
 mV 1 6 0,
 oP 2 7 (.app (.t 5) (.t 6) 1 8),
 mV 3 2 7]) .ret))) }
def f (M:Mach) (C:Call) (d g a:Nat) (G:GH):Option Res:=bif Bool.xor false (Nat.beq d 0) then some ([.c (.sl 1 0 0 0)],G) else let e:=G.alloc (.row [] false);(if a=0 then some [] else e.lds d g (a*1)).bind fun h=>guardK (decide (0+a≤most)) ((e.app G.next 0 0 1 a h).bind fun b=>some ([.c (.sl 1 b.1 b.2.1 (0+a))],b.2.2))
theorem eq (a b e:Nat) (G:GH):runF M C d [.c (.sl 1 a b e)] G=f M C a b e G:=by kernel_rfl
end F4
namespace F5
def d:DFn:={ ntmps:=8,res:=[.t 2],body:=(.seq (.region [oP 0 2 (.move (.k (.c (.sl 1 0 0 0))))]) (.seq (.seq (.region [mV 0 3 0,
 oP 1 4 (.snil false (.t 3))]) (.cond (.t 4) (.seq (.region [oP 0 2 (.move (.k (.c (.sl 1 0 0 0))))]) .ret) .skip)) (.seq (.region [oP 0 5 (.bslice 0 1 [] []),
 mV 1 6 0,
 oP 2 7 (.app (.t 5) (.t 6) 1 1),
 mV 3 2 7]) .ret))) }
def f (M:Mach) (C:Call) (d g a:Nat) (G:GH):Option Res:=bif Bool.xor false (Nat.beq d 0) then some ([.c (.sl 1 0 0 0)],G) else let e:=G.alloc (.row [] false);(if a=0 then some [] else e.lds d g (a*1)).bind fun h=>guardK (decide (0+a≤most)) ((e.app G.next 0 0 1 a h).bind fun b=>some ([.c (.sl 1 b.1 b.2.1 (0+a))],b.2.2))
theorem eq (a b e:Nat) (G:GH):runF M C d [.c (.sl 1 a b e)] G=f M C a b e G:=by kernel_rfl
end F5
namespace F6
def d:DFn:={ ntmps:=8,res:=[.t 2],body:=(.seq (.region [oP 0 2 (.move (.k (.c (.sl 1 0 0 0))))]) (.seq (.seq (.region [mV 0 3 0,
 oP 1 4 (.snil false (.t 3))]) (.cond (.t 4) (.seq (.region [oP 0 2 (.move (.k (.c (.sl 1 0 0 0))))]) .ret) .skip)) (.seq (.region [oP 0 5 (.bslice 0 1 [] []),
 mV 1 6 0,
 oP 2 7 (.app (.t 5) (.t 6) 1 1),
 mV 3 2 7]) .ret))) }
def f (M:Mach) (C:Call) (d g a:Nat) (G:GH):Option Res:=bif Bool.xor false (Nat.beq d 0) then some ([.c (.sl 1 0 0 0)],G) else let e:=G.alloc (.row [] false);(if a=0 then some [] else e.lds d g (a*1)).bind fun h=>guardK (decide (0+a≤most)) ((e.app G.next 0 0 1 a h).bind fun b=>some ([.c (.sl 1 b.1 b.2.1 (0+a))],b.2.2))
theorem eq (a b e:Nat) (G:GH):runF M C d [.c (.sl 1 a b e)] G=f M C a b e G:=by kernel_rfl
end F6
namespace F8
def d:DFn:={ ntmps:=13,res:=[.t 2],body:=(.seq (.region [oP 0 2 (.move (kB false))]) (.seq (.region [mV 0 3 0,
 oP 1 4 (.nilck (.t 3)),
 oP 2 5 (.faddr 4 1),
 oP 3 6 (.ldG 5 (.c (.int .i64))),
 mV 4 7 0,
 oP 5 8 (.nilck (.t 7)),
 oP 6 9 (.faddr 8 0),
 oP 7 10 (.ldG 9 (.c (.sl 1))),
 oP 8 11 (.len (.t 10)),
 oP 9 12 (.cmp .geq .i64 (.t 6) (.t 11)),
 mV 10 2 12]) .ret)) }
def f (M:Mach) (C:Call) (a b:Nat) (G:GH):Option Res:=guardK (!Nat.beq a 0) (((G.ld a (b+1)).bind (Cell.asI .i64)).bind fun d=>guardK (!Nat.beq a 0) (((G.ld a (b+0)).bind (Cell.asS 1)).bind fun e=>some ([.c (.bool (decide (d≥((e.2.2:Nat):Int))))],G)))
theorem eq (a b:Nat) (G:GH):runF M C d [.c (.ptr a b)] G=f M C a b G:=by kernel_rfl
end F8
namespace F98
def d:DFn:={ ntmps:=11,res:=[.t 4,.t 5],body:=(.seq (.region [oP 0 4 (.move (kI 0)),
 oP 1 5 (.move (kB false))]) (.seq (.region [mV 0 6 0,
 mV 1 7 1,
 oP 2 8 (.call 112 [.t 6,.t 7,.k (.c (.fn 113))] [.c (.int .i64),.c (.bool)]),
 oP 3 9 (.ext 8 0),
 oP 4 10 (.ext 8 1),
 mV 5 4 9,
 mV 6 5 10]) .ret)) }
def f (M:Mach) (C:Call) (b d e:Nat) (g:Int) (G:GH):Option Res:=(C F68.id [.c (.sl 2 b d e),.c (.int .i64 g),.c (.fn 113)] G).bind fun a=>(((a.1[0]?).bind V1.c?).bind (Cell.asI .i64)).bind fun h=>(((a.1[1]?).bind V1.c?).bind Cell.asB).bind fun i=>some ([.c (.int .i64 h),.c (.bool i)],a.2)
theorem eq (a b e:Nat) (g:Int) (G:GH):runF M C d [.c (.sl 2 a b e),.c (.int .i64 g)] G=f M C a b e g G:=by kernel_rfl
end F98
namespace F66
def d:DFn:={ ntmps:=6,res:=[.t 2],body:=(.seq (.region [oP 0 2 (.move (kI 0))]) (.seq (.region [mV 0 3 0,
 oP 1 4 (.bin .xor .u64 (.k (.c (.int .u64 18446744073709551615))) (.t 3)),
 oP 2 5 (.call 126 [.t 4] [.c (.int .i64)]),
 mV 3 2 5]) .ret)) }
def f (M:Mach) (C:Call) (b:Int) (G:GH):Option Res:=(C F75.id [.c (.int .u64 (IntKind.u64.wrap (((BitVec.ofInt IntKind.u64.bits 18446744073709551615) ^^^ (BitVec.ofInt IntKind.u64.bits b)).toNat:Int)))] G).bind fun a=>(((a.1[0]?).bind V1.c?).bind (Cell.asI .i64)).bind fun d=>some ([.c (.int .i64 d)],a.2)
theorem eq (a:Int) (G:GH):runF M C d [.c (.int .u64 a)] G=f M C a G:=by kernel_rfl
end F66
namespace F80
def d:DFn:={ ntmps:=10,res:=[.t 4],body:=(.seq (.region [oP 0 2 (.boxv 9 [5] (.t 0) 2),
 oP 1 4 (.move (kI 0))]) (.seq (.region [oP 0 5 (.faddr 2 0),
 oP 1 6 (.ldL 5 9 (.c (.int .i64))),
 mV 2 7 1,
 oP 3 8 (.call 114 [.t 6,.t 7] [.c (.int .i64)]),
 mV 4 4 8]) .ret)) }
def f (M:Mach) (C:Call) (b g d:Int) (G:GH):Option Res:=(C F45.id [.c (.int .i64 b),.c (.int .i64 d)] G).bind fun a=>(((a.1[0]?).bind V1.c?).bind (Cell.asI .i64)).bind fun e=>some ([.c (.int .i64 e)],a.2)
theorem eq (a b e:Int) (G:GH):runF M C d [.agg [.int .i64 a,.int .i64 b],.c (.int .i64 e)] G=f M C a b e G:=by kernel_rfl
end F80
namespace F34
def d:DFn:={ ntmps:=6,res:=[.t 2],body:=(.seq (.region [oP 0 2 (.move (.k (.c (.ptr 0 0))))]) (.seq (.region [mV 0 3 0,
 oP 1 4 (.build [.sl 1 0 0 0,.int .i64 0] [(0,1,.t 3)]),
 oP 2 5 (.newv (.t 4) 2),
 mV 3 2 5]) .ret)) }
def f (M:Mach) (C:Call) (a b d:Nat) (G:GH):Option Res:=let e:=G.alloc (.row [.sl 1 a b d,.int .i64 0] false);some ([.c (.ptr G.next 0)],e)
theorem eq (a b e:Nat) (G:GH):runF M C d [.c (.sl 1 a b e)] G=f M C a b e G:=by kernel_rfl
end F34
namespace F0
def d:DFn:={ ntmps:=0,res:=[],body:=.skip,prim:=some (.ins 2 16) }
def f (M:Mach) (C:Call) (id off len:Nat) (i:Int) (id' off' len':Nat) (G:GH):Option Res:=insD 2 id off len i id' off' len' G
theorem eq (id off len:Nat) (i:Int) (id' off' len':Nat) (G:GH):runF M C d [.c (.sl 2 id off len),.c (.int .i64 i),.c (.sl 2 id' off' len')] G=f M C id off len i id' off' len' G:=by kernel_rfl
end F0
namespace F1
def d:DFn:={ ntmps:=0,res:=[],body:=.skip,prim:=some (.del 2 (zI 2)) }
def f (M:Mach) (C:Call) (id off len:Nat) (i j:Int) (G:GH):Option Res:=delD 2 [.int .i64 0,.int .i64 0] id off len i j G
theorem eq (id off len:Nat) (i j:Int) (G:GH):runF M C d [.c (.sl 2 id off len),.c (.int .i64 i),.c (.int .i64 j)] G=f M C id off len i j G:=by kernel_rfl
end F1
namespace F64
def d:DFn:={ ntmps:=6,res:=[.t 2],body:=(.seq (.region [oP 0 2 (.move (kB false))]) (.seq (.region [mV 0 3 0,
 mV 1 4 0,
 oP 2 5 (.cmp .neq .i64 (.t 3) (.t 4)),
 mV 3 2 5]) .ret)) }
def f (M:Mach) (C:Call) (a:Int) (G:GH):Option Res:=some ([.c (.bool (!decide (a=a)))],G)
theorem eq (a:Int) (G:GH):runF M C d [.c (.int .i64 a)] G=f M C a G:=by kernel_rfl
end F64

end Go.Proofs.D
