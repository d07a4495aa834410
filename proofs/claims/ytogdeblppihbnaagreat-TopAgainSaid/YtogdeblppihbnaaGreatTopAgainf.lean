/- Texts of the proof (T4); no condition. -/
import Derived.Test.YtogdeblppihbnaaGreatTopAgaina
import Derived.KernelRfl
set_option linter.unusedSimpArgs false
set_option linter.unusedVariables false
set_option linter.unusedVariables false
set_option maxRecDepth 100000
namespace Go.Proofs.D
open Go
variable (M:Mach) (C:Call)
namespace F70
def d:DFn:={ ntmps:=18,res:=[.t 2],body:=(.seq (.region [oP 0 2 (.move (.k (.c (.str []))))]) (.seq (.seq (.region [mV 0 3 0]) (.block 0 (.seq (.region [oP 0 5 (.cmp .eql .i64 (.t 3) (kI 1)),
 mV 1 4 5]) (.cond (.t 4) (.seq (.region [oP 0 2 (.move (.k (.c (.str [83]))))]) .ret) (.seq (.region [oP 0 7 (.cmp .eql .i64 (.t 3) (kI 2)),
 mV 1 6 7]) (.cond (.t 6) (.seq (.region [oP 0 2 (.move (.k (.c (.str [78,83]))))]) .ret) (.seq (.region [oP 0 9 (.cmp .eql .i64 (.t 3) (kI 3)),
 mV 1 8 9]) (.cond (.t 8) (.seq (.region [oP 0 2 (.move (.k (.c (.str [83,65]))))]) .ret) (.seq (.region [oP 0 11 (.cmp .eql .i64 (.t 3) (kI 4)),
 mV 1 10 11]) (.cond (.t 10) (.seq (.region [oP 0 2 (.move (.k (.c (.str [80,83]))))]) .ret) (.seq (.seq (.region [oP 0 13 (.cmp .eql .i64 (.t 3) (kI 5)),
 mV 1 12 13]) (.cond (.t 12) .skip (.region [oP 0 14 (.cmp .eql .i64 (.t 3) (kI 6)),
 mV 1 12 14]))) (.cond (.t 12) (.seq (.region [oP 0 2 (.move (.k (.c (.str [80]))))]) .ret) (.seq (.seq (.region [oP 0 16 (.cmp .eql .i64 (.t 3) (kI 7)),
 mV 1 15 16]) (.cond (.t 15) .skip (.region [oP 0 17 (.cmp .eql .i64 (.t 3) (kI 8)),
 mV 1 15 17]))) (.cond (.t 15) (.seq (.region [oP 0 2 (.move (.k (.c (.str [80,78]))))]) .ret) .skip)))))))))))))) (.seq (.region [oP 0 2 (.move (.k (.c (.str []))))]) .ret))) }
end F70
namespace F44
def d:DFn:={ ntmps:=19,res:=[.t 8,.t 9],body:=(.seq (.region [oP 0 4 (.boxv 18 [] (.t 0) 8),
 oP 1 8 (.move (kI 0)),
 oP 2 9 (.move (kI 0))]) (.seq (.region [oP 0 10 (.ldL 4 18 (.agg (iS 8))),
 mV 1 11 1,
 mV 2 12 2,
 oP 3 13 (.bin .sub .i64 (.t 11) (.t 12)),
 mV 4 14 3,
 oP 5 15 (.call 64 [.t 10,.t 13,.t 14,.k (.c (.int .i64 1))] [.c (.int .i64),.c (.int .i64)]),
 oP 6 16 (.ext 15 0),
 oP 7 17 (.ext 15 1),
 mV 8 8 16,
 mV 9 9 17]) .ret)) }
def f (M:Mach) (C:Call) (b d e g h i j k l m n:Int) (G:GH):Option Res:=(C F54.id [.agg [.int .i64 b,.int .i64 d,.int .i64 e,.int .i64 g,.int .i64 h,.int .i64 i,.int .i64 j,.int .i64 k],.c (.int .i64 (IntKind.i64.wrap (l-m))),.c (.int .i64 n),.c (.int .i64 1)] G).bind fun a=>(((a.1[0]?).bind V1.c?).bind (Cell.asI .i64)).bind fun o=>(((a.1[1]?).bind V1.c?).bind (Cell.asI .i64)).bind fun p=>some ([.c (.int .i64 o),.c (.int .i64 p)],a.2)
theorem eq (a b e g h i j k l m n:Int) (G:GH):runF M C d [.agg [.int .i64 a,.int .i64 b,.int .i64 e,.int .i64 g,.int .i64 h,.int .i64 i,.int .i64 j,.int .i64 k],.c (.int .i64 l),.c (.int .i64 m),.c (.int .i64 n)] G=f M C a b e g h i j k l m n G:=by kernel_rfl
end F44
namespace F38
def d:DFn:={ ntmps:=25,res:=[.t 4],body:=(.seq (.region [oP 0 2 (.boxv 23 [5,16,18] (.t 0) 2),
 oP 1 3 (.boxv 24 [7,9,14] (.t 1) 2),
 oP 2 4 (.move (kB false))]) (.seq (.region [oP 0 5 (.faddr 2 0),
 oP 1 6 (.ldL 5 23 (.c (.int .i64))),
 oP 2 7 (.faddr 3 0),
 oP 3 8 (.ldL 7 24 (.c (.int .i64))),
 oP 4 9 (.faddr 3 1),
 oP 5 10 (.ldL 9 24 (.c (.int .i64))),
 oP 6 11 (.bin .add .i64 (.t 8) (.t 10)),
 oP 7 12 (.cmp .lss .i64 (.t 6) (.t 11)),
 mV 8 13 12,
 ⟨9,some 14,.faddr 3 0,some (13,true)⟩,
 ⟨10,some 15,.ldL 14 24 (.c (.int .i64)),some (13,true)⟩,
 ⟨11,some 16,.faddr 2 0,some (13,true)⟩,
 ⟨12,some 17,.ldL 16 23 (.c (.int .i64)),some (13,true)⟩,
 ⟨13,some 18,.faddr 2 1,some (13,true)⟩,
 ⟨14,some 19,.ldL 18 23 (.c (.int .i64)),some (13,true)⟩,
 ⟨15,some 20,.bin .add .i64 (.t 17) (.t 19),some (13,true)⟩,
 ⟨16,some 21,.cmp .lss .i64 (.t 15) (.t 20),some (13,true)⟩,
 oP 17 22 (.pick (.t 13) (.t 21) (kB false)),
 mV 18 4 22]) .ret)) }
def f (M:Mach) (C:Call) (a d b e:Int) (G:GH):Option Res:=bif decide (a<IntKind.i64.wrap (b+e)) then some ([.c (.bool (decide (b<IntKind.i64.wrap (a+d))))],G) else some ([.c (.bool false)],G)
theorem eq (a b c e:Int) (G:GH):runF M C d [.agg [.int .i64 a,.int .i64 b],.agg [.int .i64 c,.int .i64 e]] G=f M C a b c e G:=by kernel_rfl
end F38
namespace F74
def d:DFn:={ ntmps:=17,res:=[.t 4],body:=(.seq (.region [oP 0 2 (.boxv 16 [] (.t 0) 2),
 oP 1 4 (.move (kB false))]) (.seq (.region [oP 0 5 (.ldL 2 16 (.agg [.int .i64,.sl 1])),
 mV 1 6 1,
 oP 2 7 (.bin .mul .i64 (kI 2) (.t 6)),
 oP 3 8 (.call 119 [.t 5,.t 7] [.c (.bool)]),
 mV 4 9 8,
 ⟨5,some 10,.ldL 2 16 (.agg [.int .i64,.sl 1]),some (9,false)⟩,
 ⟨6,some 11,.move (.t 1),some (9,false)⟩,
 ⟨7,some 12,.bin .mul .i64 (kI 2) (.t 11),some (9,false)⟩,
 ⟨8,some 13,.bin .add .i64 (.t 12) (kI 1),some (9,false)⟩,
 ⟨9,some 14,.call 119 [.t 10,.t 13] [.c (.bool)],some (9,false)⟩,
 oP 10 15 (.pick (.t 9) (kB true) (.t 14)),
 mV 11 4 15]) .ret)) }
def f (M:Mach) (C:Call) (b:Int) (d e g:Nat) (h:Int) (G:GH):Option Res:=(C F108.id [.agg [.int .i64 b,.sl 1 d e g],.c (.int .i64 (IntKind.i64.wrap (2*h)))] G).bind fun a=>(((a.1[0]?).bind V1.c?).bind Cell.asB).bind fun j=>bif j then some ([.c (.bool true)],a.2) else (C F108.id [.agg [.int .i64 b,.sl 1 d e g],.c (.int .i64 (IntKind.i64.wrap ((IntKind.i64.wrap (2*h))+1)))] a.2).bind fun i=>(((i.1[0]?).bind V1.c?).bind Cell.asB).bind fun k=>some ([.c (.bool k)],i.2)
theorem eq (a:Int) (b e g:Nat) (h:Int) (G:GH):runF M C d [.agg [.int .i64 a,.sl 1 b e g],.c (.int .i64 h)] G=f M C a b e g h G:=by kernel_rfl
end F74
namespace F87
def d:DFn:={ ntmps:=19,res:=[.t 8,.t 9],body:=(.seq (.region [oP 0 4 (.boxv 18 [] (.t 0) 8),
 oP 1 8 (.move (kI 0)),
 oP 2 9 (.move (kI 0))]) (.seq (.region [oP 0 10 (.ldL 4 18 (.agg (iS 8))),
 mV 1 11 1,
 mV 2 12 2,
 oP 3 13 (.bin .sub .i64 (.t 11) (.t 12)),
 mV 4 14 3,
 oP 5 15 (.call 50 [.t 10,.t 13,.t 14,.k (.c (.int .i64 1))] [.c (.int .i64),.c (.int .i64)]),
 oP 6 16 (.ext 15 0),
 oP 7 17 (.ext 15 1),
 mV 8 8 16,
 mV 9 9 17]) .ret)) }
def f (M:Mach) (C:Call) (b d e g h i j k l m n:Int) (G:GH):Option Res:=(C F92.id [.agg [.int .i64 b,.int .i64 d,.int .i64 e,.int .i64 g,.int .i64 h,.int .i64 i,.int .i64 j,.int .i64 k],.c (.int .i64 (IntKind.i64.wrap (l-m))),.c (.int .i64 n),.c (.int .i64 1)] G).bind fun a=>(((a.1[0]?).bind V1.c?).bind (Cell.asI .i64)).bind fun o=>(((a.1[1]?).bind V1.c?).bind (Cell.asI .i64)).bind fun p=>some ([.c (.int .i64 o),.c (.int .i64 p)],a.2)
theorem eq (a b e g h i j k l m n:Int) (G:GH):runF M C d [.agg [.int .i64 a,.int .i64 b,.int .i64 e,.int .i64 g,.int .i64 h,.int .i64 i,.int .i64 j,.int .i64 k],.c (.int .i64 l),.c (.int .i64 m),.c (.int .i64 n)] G=f M C a b e g h i j k l m n G:=by kernel_rfl
end F87
namespace F85
def d:DFn:={ ntmps:=14,res:=[.box 2 (some 3)],body:=(.seq (.region [oP 0 1 (.boxv 12 [3,6,9,10] (.t 0) 3),
 oP 1 2 (.boxz 13 [] [.int .i64 0,.sl 2 0 0 0,.sl 2 0 0 0])]) (.seq (.region [oP 0 3 (.faddr 1 1),
 oP 1 4 (.ldL 3 12 (.agg [.sl 2])),
 oP 2 5 (.call 98 [.t 4,.k (.c (.int .i64 0)),.k (.c (.int .i64 0)),.k (.c (.bool true))] [.agg [.sl 2]]),
 oP 3 6 (.faddr 1 2),
 oP 4 7 (.ldL 6 12 (.c (.sl 2))),
 oP 5 8 (.call 104 [.t 7] [.c (.sl 2)]),
 oP 6 9 (.faddr 1 1),
 ⟨7,none,.stL 9 12 (.t 5) 1,none⟩,
 oP 8 10 (.faddr 1 2),
 ⟨9,none,.stL 10 12 (.t 8) 1,none⟩]) (.seq (.region [oP 0 11 (.ldL 1 12 (.agg [.int .i64,.sl 2,.sl 2])),
 ⟨1,none,.stL 2 13 (.t 11) 3,none⟩]) .ret))) }
end F85
namespace F39
def d:DFn:={ ntmps:=20,res:=[.t 6],body:=(.seq (.region [oP 0 6 (.move (.k (.c (.int .u8 0))))]) (.seq (.region [mV 0 7 0,
 oP 1 8 (.bin .rem .i64 (.t 7) (kI 256)),
 mV 2 9 1,
 oP 3 10 (.bin .rem .i64 (.t 9) (kI 256)),
 oP 4 11 (.bin .mul .i64 (kI 31) (.t 10)),
 oP 5 12 (.bin .add .i64 (.t 8) (.t 11)),
 mV 6 13 2,
 oP 7 14 (.bin .rem .i64 (.t 13) (kI 256)),
 oP 8 15 (.bin .mul .i64 (kI 7) (.t 14)),
 oP 9 16 (.bin .add .i64 (.t 12) (.t 15)),
 oP 10 17 (.bin .add .i64 (.t 16) (kI 1)),
 oP 11 18 (.bin .rem .i64 (.t 17) (kI 256)),
 oP 12 19 (.conv .u8 (.t 18)),
 mV 13 6 19]) .ret)) }
def f (M:Mach) (C:Call) (a b d:Int) (G:GH):Option Res:=some ([.c (.int .u8 (IntKind.u8.wrap (Int.tmod (IntKind.i64.wrap ((IntKind.i64.wrap ((IntKind.i64.wrap ((Int.tmod a 256)+(IntKind.i64.wrap (31*(Int.tmod b 256)))))+(IntKind.i64.wrap (7*(Int.tmod d 256)))))+1)) 256)))],G)
theorem eq (a b e:Int) (G:GH):runF M C d [.c (.int .i64 a),.c (.int .i64 b),.c (.int .i64 e)] G=f M C a b e G:=by kernel_rfl
end F39
namespace F73
def d:DFn:={ ntmps:=12,res:=[.t 4,.t 5],body:=(.seq (.region [oP 0 2 (.boxv 11 [] (.t 0) 8),
 oP 1 4 (.move (kI 0)),
 oP 2 5 (.move (kB false))]) (.seq (.region [oP 0 6 (.ldL 2 11 (.agg (iS 8))),
 mV 1 7 1,
 oP 2 8 (.call 14 [.t 6,.t 7] [.c (.int .i64),.c (.bool)]),
 oP 3 9 (.ext 8 0),
 oP 4 10 (.ext 8 1),
 mV 5 4 9,
 mV 6 5 10]) .ret)) }
def f (M:Mach) (C:Call) (b d e g h i j k l:Int) (G:GH):Option Res:=(C F83.id [.agg [.int .i64 b,.int .i64 d,.int .i64 e,.int .i64 g,.int .i64 h,.int .i64 i,.int .i64 j,.int .i64 k],.c (.int .i64 l)] G).bind fun a=>(((a.1[0]?).bind V1.c?).bind (Cell.asI .i64)).bind fun m=>(((a.1[1]?).bind V1.c?).bind Cell.asB).bind fun n=>some ([.c (.int .i64 m),.c (.bool n)],a.2)
theorem eq (a b e g h i j k l:Int) (G:GH):runF M C d [.agg [.int .i64 a,.int .i64 b,.int .i64 e,.int .i64 g,.int .i64 h,.int .i64 i,.int .i64 j,.int .i64 k],.c (.int .i64 l)] G=f M C a b e g h i j k l G:=by kernel_rfl
end F73
namespace F112
def d:DFn:={ ntmps:=21,res:=[.t 2,.t 3],body:=(.seq (.region [oP 0 2 (.move (.k (.c (.sl 8 0 0 0)))),
 oP 1 3 (.move (kI 0))]) (.seq (.region [mV 0 8 0,
 oP 1 9 (.call 33 [.t 8] [.agg (iS 6),.c (.sl 6),.c (.bool)]),
 mV 2 7 9,
 oP 3 10 (.ext 7 0),
 oP 4 11 (.ext 7 1),
 oP 5 12 (.ext 7 2),
 oP 6 4 (.boxz 20 [] (zI 6)),
 ⟨7,none,.stL 4 20 (.t 10) 6,none⟩,
 mV 8 5 11,
 mV 9 6 12]) (.seq (.seq (.region [mV 0 13 6,
 oP 1 14 (.not (.t 13))]) (.cond (.t 14) (.seq (.region [oP 0 2 (.move (.k (.c (.sl 8 0 0 0)))),
 oP 1 3 (.move (kI 2))]) .ret) .skip)) (.seq (.region [oP 0 15 (.ldL 4 20 (.agg (iS 6))),
 mV 1 16 5,
 oP 2 17 (.call 34 [.t 15,.t 16] [.c (.sl 8),.c (.int .i64)]),
 oP 3 18 (.ext 17 0),
 oP 4 19 (.ext 17 1),
 mV 5 2 18,
 mV 6 3 19]) .ret)))) }
end F112
namespace F80
def d:DFn:={ ntmps:=24,res:=[.t 4],body:=(.seq (.region [oP 0 4 (.move (.k (.c (.ptr 0 0))))]) (.seq (.seq (.region [mV 0 5 1]) (.block 0 (.seq (.region [oP 0 7 (.cmp .eql .u8 (.t 5) (.k (.c (.int .u8 80)))),
 mV 1 6 7]) (.cond (.t 6) (.seq (.region [mV 0 8 0,
 oP 1 9 (.nilck (.t 8)),
 oP 2 10 (.faddr 9 1),
 mV 3 4 10]) .ret) (.seq (.region [oP 0 12 (.cmp .eql .u8 (.t 5) (.k (.c (.int .u8 83)))),
 mV 1 11 12]) (.cond (.t 11) (.seq (.region [mV 0 13 0,
 oP 1 14 (.nilck (.t 13)),
 oP 2 15 (.faddr 14 2),
 mV 3 4 15]) .ret) (.seq (.region [oP 0 17 (.cmp .eql .u8 (.t 5) (.k (.c (.int .u8 65)))),
 mV 1 16 17]) (.cond (.t 16) (.seq (.region [mV 0 18 0,
 oP 1 19 (.nilck (.t 18)),
 oP 2 20 (.faddr 19 3),
 mV 3 4 20]) .ret) .skip)))))))) (.seq (.region [mV 0 21 0,
 oP 1 22 (.nilck (.t 21)),
 oP 2 23 (.faddr 22 4),
 mV 3 4 23]) .ret))) }
end F80
namespace F99
def d:DFn:={ ntmps:=18,res:=[.t 6],body:=(.seq (.region [oP 0 6 (.move (.k (.c (.int .u8 0))))]) (.seq (.region [mV 0 7 0,
 oP 1 8 (.conv .u8 (.t 7)),
 mV 2 9 1,
 oP 3 10 (.conv .u8 (.t 9)),
 oP 4 11 (.bin .mul .u8 (.k (.c (.int .u8 31))) (.t 10)),
 oP 5 12 (.bin .add .u8 (.t 8) (.t 11)),
 mV 6 13 2,
 oP 7 14 (.conv .u8 (.t 13)),
 oP 8 15 (.bin .mul .u8 (.k (.c (.int .u8 7))) (.t 14)),
 oP 9 16 (.bin .add .u8 (.t 12) (.t 15)),
 oP 10 17 (.bin .add .u8 (.t 16) (.k (.c (.int .u8 1)))),
 mV 11 6 17]) .ret)) }
def f (M:Mach) (C:Call) (a b d:Int) (G:GH):Option Res:=some ([.c (.int .u8 (IntKind.u8.wrap ((IntKind.u8.wrap ((IntKind.u8.wrap ((IntKind.u8.wrap a)+(IntKind.u8.wrap (31*(IntKind.u8.wrap b)))))+(IntKind.u8.wrap (7*(IntKind.u8.wrap d)))))+1)))],G)
theorem eq (a b e:Int) (G:GH):runF M C d [.c (.int .i64 a),.c (.int .i64 b),.c (.int .i64 e)] G=f M C a b e G:=by kernel_rfl
end F99
namespace F2
def d:DFn:={ ntmps:=8,res:=[.t 2],body:=(.seq (.region [oP 0 2 (.move (.k (.c (.sl 2 0 0 0))))]) (.seq (.seq (.region [mV 0 3 0,
 oP 1 4 (.snil false (.t 3))]) (.cond (.t 4) (.seq (.region [oP 0 2 (.move (.k (.c (.sl 2 0 0 0))))]) .ret) .skip)) (.seq (.region [oP 0 5 (.bslice 0 2 [] []),
 mV 1 6 0,
 oP 2 7 (.app (.t 5) (.t 6) 2 16),
 mV 3 2 7]) .ret))) }
def f (M:Mach) (C:Call) (d g a:Nat) (G:GH):Option Res:=bif Bool.xor false (Nat.beq d 0) then some ([.c (.sl 2 0 0 0)],G) else let e:=G.alloc (.row [] false);(if a=0 then some [] else e.lds d g (a*2)).bind fun h=>guardK (decide (0+a≤most)) ((e.app G.next 0 0 2 a h).bind fun b=>some ([.c (.sl 2 b.1 b.2.1 (0+a))],b.2.2))
theorem eq (a b e:Nat) (G:GH):runF M C d [.c (.sl 2 a b e)] G=f M C a b e G:=by kernel_rfl
end F2
namespace F3
def d:DFn:={ ntmps:=8,res:=[.t 2],body:=(.seq (.region [oP 0 2 (.move (.k (.c (.sl 1 0 0 0))))]) (.seq (.seq (.region [mV 0 3 0,
 oP 1 4 (.snil false (.t 3))]) (.cond (.t 4) (.seq (.region [oP 0 2 (.move (.k (.c (.sl 1 0 0 0))))]) .ret) .skip)) (.seq (.region [oP 0 5 (.bslice 0 1 [] []),
 mV 1 6 0,
 oP 2 7 (.app (.t 5) (.t 6) 1 24),
 mV 3 2 7]) .ret))) }
def f (M:Mach) (C:Call) (d g a:Nat) (G:GH):Option Res:=bif Bool.xor false (Nat.beq d 0) then some ([.c (.sl 1 0 0 0)],G) else let e:=G.alloc (.row [] false);(if a=0 then some [] else e.lds d g (a*1)).bind fun h=>guardK (decide (0+a≤most)) ((e.app G.next 0 0 1 a h).bind fun b=>some ([.c (.sl 1 b.1 b.2.1 (0+a))],b.2.2))
theorem eq (a b e:Nat) (G:GH):runF M C d [.c (.sl 1 a b e)] G=f M C a b e G:=by kernel_rfl
end F3
namespace F4
def d:DFn:={ ntmps:=8,res:=[.t 2],body:=(.seq (.region [oP 0 2 (.move (.k (.c (.sl 1 0 0 0))))]) (.seq (.seq (.region [mV 0 3 0,
 oP 1 4 (.snil false (.t 3))]) (.cond (.t 4) (.seq (.region [oP 0 2 (.move (.k (.c (.sl 1 0 0 0))))]) .ret) .skip)) (.seq (.region [oP 0 5 (.bslice 0 1 [] []),
 mV 1 6 0,
 oP 2 7 (.app (.t 5) (.t 6) 1 8),
 mV 3 2 7]) .ret))) }
def f (M:Mach) (C:Call) (d g a:Nat) (G:GH):Option Res:=bif Bool.xor false (Nat.beq d 0) then some ([.c (.sl 1 0 0 0)],G) else let e:=G.alloc (.row [] false);(if a=0 then some [] else e.lds d g (a*1)).bind fun h=>guardK (decide (0+a≤most)) ((e.app G.next 0 0 1 a h).bind fun b=>some ([.c (.sl 1 b.1 b.2.1 (0+a))],b.2.2))
theorem eq (a b e:Nat) (G:GH):runF M C d [.c (.sl 1 a b e)] G=f M C a b e G:=by kernel_rfl
end F4
namespace F5
def d:DFn:={ ntmps:=8,res:=[.t 2],body:=(.seq (.region [oP 0 2 (.move (.k (.c (.sl 1 0 0 0))))]) (.seq (.seq (.region [mV 0 3 0,
 oP 1 4 (.snil false (.t 3))]) (.cond (.t 4) (.seq (.region [oP 0 2 (.move (.k (.c (.sl 1 0 0 0))))]) .ret) .skip)) (.seq (.region [oP 0 5 (.bslice 0 1 [] []),
 mV 1 6 0,
 oP 2 7 (.app (.t 5) (.t 6) 1 1),
 mV 3 2 7]) .ret))) }
def f (M:Mach) (C:Call) (d g a:Nat) (G:GH):Option Res:=bif Bool.xor false (Nat.beq d 0) then some ([.c (.sl 1 0 0 0)],G) else let e:=G.alloc (.row [] false);(if a=0 then some [] else e.lds d g (a*1)).bind fun h=>guardK (decide (0+a≤most)) ((e.app G.next 0 0 1 a h).bind fun b=>some ([.c (.sl 1 b.1 b.2.1 (0+a))],b.2.2))
theorem eq (a b e:Nat) (G:GH):runF M C d [.c (.sl 1 a b e)] G=f M C a b e G:=by kernel_rfl
end F5
namespace F6
def d:DFn:={ ntmps:=8,res:=[.t 2],body:=(.seq (.region [oP 0 2 (.move (.k (.c (.sl 1 0 0 0))))]) (.seq (.seq (.region [mV 0 3 0,
 oP 1 4 (.snil false (.t 3))]) (.cond (.t 4) (.seq (.region [oP 0 2 (.move (.k (.c (.sl 1 0 0 0))))]) .ret) .skip)) (.seq (.region [oP 0 5 (.bslice 0 1 [] []),
 mV 1 6 0,
 oP 2 7 (.app (.t 5) (.t 6) 1 1),
 mV 3 2 7]) .ret))) }
def f (M:Mach) (C:Call) (d g a:Nat) (G:GH):Option Res:=bif Bool.xor false (Nat.beq d 0) then some ([.c (.sl 1 0 0 0)],G) else let e:=G.alloc (.row [] false);(if a=0 then some [] else e.lds d g (a*1)).bind fun h=>guardK (decide (0+a≤most)) ((e.app G.next 0 0 1 a h).bind fun b=>some ([.c (.sl 1 b.1 b.2.1 (0+a))],b.2.2))
theorem eq (a b e:Nat) (G:GH):runF M C d [.c (.sl 1 a b e)] G=f M C a b e G:=by kernel_rfl
end F6
namespace F8
def d:DFn:={ ntmps:=13,res:=[.t 2],body:=(.seq (.region [oP 0 2 (.move (kB false))]) (.seq (.region [mV 0 3 0,
 oP 1 4 (.nilck (.t 3)),
 oP 2 5 (.faddr 4 1),
 oP 3 6 (.ldG 5 (.c (.int .i64))),
 mV 4 7 0,
 oP 5 8 (.nilck (.t 7)),
 oP 6 9 (.faddr 8 0),
 oP 7 10 (.ldG 9 (.c (.sl 1))),
 oP 8 11 (.len (.t 10)),
 oP 9 12 (.cmp .geq .i64 (.t 6) (.t 11)),
 mV 10 2 12]) .ret)) }
def f (M:Mach) (C:Call) (a b:Nat) (G:GH):Option Res:=guardK (!Nat.beq a 0) (((G.ld a (b+1)).bind (Cell.asI .i64)).bind fun d=>guardK (!Nat.beq a 0) (((G.ld a (b+0)).bind (Cell.asS 1)).bind fun e=>some ([.c (.bool (decide (d≥((e.2.2:Nat):Int))))],G)))
theorem eq (a b:Nat) (G:GH):runF M C d [.c (.ptr a b)] G=f M C a b G:=by kernel_rfl
end F8
namespace F97
def d:DFn:={ ntmps:=11,res:=[.t 4,.t 5],body:=(.seq (.region [oP 0 4 (.move (kI 0)),
 oP 1 5 (.move (kB false))]) (.seq (.region [mV 0 6 0,
 mV 1 7 1,
 oP 2 8 (.call 112 [.t 6,.t 7,.k (.c (.fn 113))] [.c (.int .i64),.c (.bool)]),
 oP 3 9 (.ext 8 0),
 oP 4 10 (.ext 8 1),
 mV 5 4 9,
 mV 6 5 10]) .ret)) }
def f (M:Mach) (C:Call) (b d e:Nat) (g:Int) (G:GH):Option Res:=(C F68.id [.c (.sl 2 b d e),.c (.int .i64 g),.c (.fn 113)] G).bind fun a=>(((a.1[0]?).bind V1.c?).bind (Cell.asI .i64)).bind fun h=>(((a.1[1]?).bind V1.c?).bind Cell.asB).bind fun i=>some ([.c (.int .i64 h),.c (.bool i)],a.2)
theorem eq (a b e:Nat) (g:Int) (G:GH):runF M C d [.c (.sl 2 a b e),.c (.int .i64 g)] G=f M C a b e g G:=by kernel_rfl
end F97
namespace F66
def d:DFn:={ ntmps:=6,res:=[.t 2],body:=(.seq (.region [oP 0 2 (.move (kI 0))]) (.seq (.region [mV 0 3 0,
 oP 1 4 (.bin .xor .u64 (.k (.c (.int .u64 18446744073709551615))) (.t 3)),
 oP 2 5 (.call 126 [.t 4] [.c (.int .i64)]),
 mV 3 2 5]) .ret)) }
def f (M:Mach) (C:Call) (b:Int) (G:GH):Option Res:=(C F75.id [.c (.int .u64 (IntKind.u64.wrap (((BitVec.ofInt IntKind.u64.bits 18446744073709551615) ^^^ (BitVec.ofInt IntKind.u64.bits b)).toNat:Int)))] G).bind fun a=>(((a.1[0]?).bind V1.c?).bind (Cell.asI .i64)).bind fun d=>some ([.c (.int .i64 d)],a.2)
theorem eq (a:Int) (G:GH):runF M C d [.c (.int .u64 a)] G=f M C a G:=by kernel_rfl
end F66
namespace F79
def d:DFn:={ ntmps:=10,res:=[.t 4],body:=(.seq (.region [oP 0 2 (.boxv 9 [5] (.t 0) 2),
 oP 1 4 (.move (kI 0))]) (.seq (.region [oP 0 5 (.faddr 2 0),
 oP 1 6 (.ldL 5 9 (.c (.int .i64))),
 mV 2 7 1,
 oP 3 8 (.call 114 [.t 6,.t 7] [.c (.int .i64)]),
 mV 4 4 8]) .ret)) }
def f (M:Mach) (C:Call) (b g d:Int) (G:GH):Option Res:=(C F45.id [.c (.int .i64 b),.c (.int .i64 d)] G).bind fun a=>(((a.1[0]?).bind V1.c?).bind (Cell.asI .i64)).bind fun e=>some ([.c (.int .i64 e)],a.2)
theorem eq (a b e:Int) (G:GH):runF M C d [.agg [.int .i64 a,.int .i64 b],.c (.int .i64 e)] G=f M C a b e G:=by kernel_rfl
end F79
namespace F0
def d:DFn:={ ntmps:=0,res:=[],body:=.skip,prim:=some (.ins 2 16) }
def f (M:Mach) (C:Call) (id off len:Nat) (i:Int) (id' off' len':Nat) (G:GH):Option Res:=insD 2 id off len i id' off' len' G
theorem eq (id off len:Nat) (i:Int) (id' off' len':Nat) (G:GH):runF M C d [.c (.sl 2 id off len),.c (.int .i64 i),.c (.sl 2 id' off' len')] G=f M C id off len i id' off' len' G:=by kernel_rfl
end F0
namespace F1
def d:DFn:={ ntmps:=0,res:=[],body:=.skip,prim:=some (.del 2 (zI 2)) }
def f (M:Mach) (C:Call) (id off len:Nat) (i j:Int) (G:GH):Option Res:=delD 2 [.int .i64 0,.int .i64 0] id off len i j G
theorem eq (id off len:Nat) (i j:Int) (G:GH):runF M C d [.c (.sl 2 id off len),.c (.int .i64 i),.c (.int .i64 j)] G=f M C id off len i j G:=by kernel_rfl
end F1
namespace F64
def d:DFn:={ ntmps:=6,res:=[.t 2],body:=(.seq (.region [oP 0 2 (.move (kB false))]) (.seq (.region [mV 0 3 0,
 mV 1 4 0,
 oP 2 5 (.cmp .neq .i64 (.t 3) (.t 4)),
 mV 3 2 5]) .ret)) }
def f (M:Mach) (C:Call) (a:Int) (G:GH):Option Res:=some ([.c (.bool (!decide (a=a)))],G)
theorem eq (a:Int) (G:GH):runF M C d [.c (.int .i64 a)] G=f M C a G:=by kernel_rfl
end F64

end Go.Proofs.D
