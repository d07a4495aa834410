/- Texts of the proof (T2); no condition. -/
import Derived.Test.YtogdeblppihbnaaTopBytesa
import Derived.KernelRfl
set_option linter.unusedSimpArgs false
set_option linter.unusedVariables false
set_option linter.unusedVariables false
set_option maxRecDepth 100000
namespace Go.Proofs.D
open Go
variable (M:Mach) (C:Call)
namespace F62
def c6:DCode:=(.cond (.t 21) (.seq (.region [oP 0 22 (.ldL 6 40 (.agg [.int .i64,.sl 2,.sl 2])),
 ⟨1,none,.stL 6 40 (.t 22) 3,none⟩,
 oP 2 7 (.move (kB false))]) .ret) .skip)
def c14:DCode:=(.cond (.t 35) (.seq (.region [oP 0 36 (.ldL 6 40 (.agg [.int .i64,.sl 2,.sl 2])),
 ⟨1,none,.stL 6 40 (.t 36) 3,none⟩,
 oP 2 7 (.move (kB false))]) .ret) .skip)
def c18:DCode:=(.seq (.region [mV 0 37 0,
 oP 1 38 (.ldL 8 41 (.agg [.sl 2])),
 oP 2 39 (.build [.int .i64 0,.sl 2 0 0 0,.sl 2 0 0 0] [(0,1,.t 37),(1,1,.t 38)]),
 ⟨3,none,.stL 6 40 (.t 39) 3,none⟩,
 oP 4 7 (.move (kB true))]) .ret)
def c20:DCode:=(.seq (.region [mV 0 23 1,
 mV 1 24 2,
 oP 2 25 (.call 44 [.t 23,.t 24] [.agg [.sl 2]]),
 oP 3 8 (.boxz 41 [26] [.sl 2 0 0 0]),
 ⟨4,none,.stL 8 41 (.t 25) 1,none⟩]) (.seq (.seq (.region [oP 0 26 (.faddr 8 0),
 oP 1 27 (.ldL 26 41 (.c (.sl 2))),
 oP 2 28 (.len (.t 27)),
 oP 3 29 (.cmp .eql .i64 (.t 28) (kI 0)),
 mV 4 30 29,
 ⟨5,some 31,.move (.t 1),some (30,false)⟩,
 ⟨6,some 32,.move (.t 0),some (30,false)⟩,
 ⟨7,some 33,.bin .quo .i64 (kI 65536) (.t 32),some (30,false)⟩,
 ⟨8,some 34,.cmp .gtr .i64 (.t 31) (.t 33),some (30,false)⟩,
 oP 9 35 (.pick (.t 30) (kB true) (.t 34))]) (.cut [0,6,8,35,40,41] c14)) c18))
def d:DFn:={ ntmps:=42,res:=[.box 6 (some 3),.t 7],body:=(.seq (.region [oP 0 6 (.boxz 40 [] [.int .i64 0,.sl 2 0 0 0,.sl 2 0 0 0]),
 oP 1 7 (.move (kB false))]) (.seq (.seq (.region [mV 0 9 0,
 oP 1 10 (.cmp .lss .i64 (.t 9) (kI 1)),
 mV 2 11 10,
 ⟨3,some 12,.move (.t 0),some (11,false)⟩,
 ⟨4,some 13,.cmp .gtr .i64 (.t 12) (kI 65536),some (11,false)⟩,
 oP 5 14 (.pick (.t 11) (kB true) (.t 13)),
 mV 6 15 14,
 ⟨7,some 16,.move (.t 0),some (15,false)⟩,
 ⟨8,some 17,.move (.t 0),some (15,false)⟩,
 ⟨9,some 18,.bin .sub .i64 (.t 17) (kI 1),some (15,false)⟩,
 ⟨10,some 19,.bin .and .i64 (.t 16) (.t 18),some (15,false)⟩,
 ⟨11,some 20,.cmp .neq .i64 (.t 19) (kI 0),some (15,false)⟩,
 oP 12 21 (.pick (.t 15) (kB true) (.t 20))]) (.cut [0,1,2,6,21,40] c6)) c20)) }
def k20:Kont:=execC M.j C (M.ag C) c20 ({ exits:=[],ret:=retK d }:Env) (retK d)
def J6 (a b c:Int) (e:Bool) (f:Int) (g h i k l m:Nat) (G:GH):Option Res:=M.j (execC M.j C (M.ag C) c6 ({ exits:=[],ret:=retK d }:Env) (k20 M C)) (vI a::(vI b::(vI c::(uS 3 (.ref 40 0::(uS 14 (vB e::(uS 18 (.box [.int .i64 f,.sl 2 g h i,.sl 2 k l m]::(uS 1 [])))))))))) G
def k18:Kont:=execC M.j C (M.ag C) c18 ({ exits:=[],ret:=retK d }:Env) (retK d)
def J14 (a:Int) (b:Bool) (c:Int) (e f g h i k l m n:Nat) (G:GH):Option Res:=M.j (execC M.j C (M.ag C) c14 ({ exits:=[],ret:=retK d }:Env) (k18 M C)) (vI a::(uS 5 (.ref 40 0::(uS 1 (.ref 41 0::(uS 26 (vB b::(uS 4 (.box [.int .i64 c,.sl 2 e f g,.sl 2 h i k]::(.box [.sl 2 l m n]::[])))))))))) G
theorem J6_eq (d l n:Int) (o:Bool) (e:Int) (f g h i j k:Nat) (G:GH):J6 M C d l n o e f g h i j k G=(bif o then some ([.agg [.int .i64 e,.sl 2 f g h,.sl 2 i j k],.c (.bool false)],G) else (C F61.id [.c (.int .i64 l),.c (.int .i64 n)] G).bind fun m=>((m.1[0]?).bind V1.a?).bind fun p=>if p.length=1 then (((p[0]?).bind (Cell.asS 2)).bind fun b=>bif decide (((b.2.2:Nat):Int)=0) then J14 M C d true e f g h i j k b.1 b.2.1 b.2.2 m.2 else (binD .quo .i64 65536 d).bind fun q=>J14 M C d (decide (l>q)) e f g h i j k b.1 b.2.1 b.2.2 m.2) else none):=(M.hj _ _ _).trans (by kernel_rfl)
theorem J14_eq (a:Int) (b:Bool) (d:Int) (e f g h i j k l m:Nat) (G:GH):J14 M C a b d e f g h i j k l m G=(bif b then some ([.agg [.int .i64 d,.sl 2 e f g,.sl 2 h i j],.c (.bool false)],G) else some ([.agg [.int .i64 a,.sl 2 k l m,.sl 2 0 0 0],.c (.bool true)],G)):=(M.hj _ _ _).trans (by kernel_rfl)
def f (a b c:Int) (G:GH):Option Res:=bif decide (a<1) then J6 M C a b c true 0 0 0 0 0 0 0 G else bif decide (a>65536) then J6 M C a b c true 0 0 0 0 0 0 0 G else J6 M C a b c (!decide (IntKind.i64.wrap (((BitVec.ofInt IntKind.i64.bits a) &&& (BitVec.ofInt IntKind.i64.bits (IntKind.i64.wrap (a-1)))).toNat:Int)=0)) 0 0 0 0 0 0 0 G
theorem eq (a b e:Int) (G:GH):runF M C d [.c (.int .i64 a),.c (.int .i64 b),.c (.int .i64 e)] G=f M C a b e G:=by kernel_rfl
end F62
namespace F36
def c7:DCode:=(.cond (.t 24) (.seq (.region [oP 0 6 (.move (kI 0)),
 oP 1 7 (.move (kI 3))]) .ret) .skip)
def c15:DCode:=(.cond (.t 32) (.seq (.region [oP 0 6 (.move (kI 0)),
 oP 1 7 (.move (kI 4))]) .ret) .skip)
def c21:DCode:=(.seq (.region [mV 0 34 1,
 mV 1 35 2,
 oP 2 36 (.faddr 3 0),
 oP 3 37 (.ldL 36 43 (.c (.int .i64))),
 oP 4 38 (.mx (.t 34) [.t 35,.t 37]),
 oP 5 39 (.call 36 [.t 38] [.c (.int .i64),.c (.bool)]),
 mV 6 33 39,
 oP 7 40 (.ext 33 0),
 oP 8 41 (.ext 33 1),
 mV 9 10 40,
 mV 10 11 41]) (.seq (.region [mV 0 42 10,
 mV 1 6 42,
 oP 2 7 (.move (kI 0))]) .ret))
def c22:DCode:=(.seq (.seq (.region [mV 0 25 1,
 oP 1 26 (.cmp .lss .i64 (.t 25) (kI 0)),
 mV 2 27 26,
 ⟨3,some 28,.move (.t 1),some (27,false)⟩,
 ⟨4,some 29,.faddr 3 1,some (27,false)⟩,
 ⟨5,some 30,.ldL 29 43 (.c (.int .i64)),some (27,false)⟩,
 ⟨6,some 31,.cmp .gtr .i64 (.t 28) (.t 30),some (27,false)⟩,
 oP 7 32 (.pick (.t 27) (kB true) (.t 31))]) (.cut [1,2,3,32,43] c15)) c21)
def d:DFn:={ ntmps:=44,res:=[.t 6,.t 7],body:=(.seq (.region [oP 0 3 (.boxv 43 [21,29,36] (.t 0) 8),
 oP 1 6 (.move (kI 0)),
 oP 2 7 (.move (kI 0))]) (.seq (.seq (.region [mV 0 13 2,
 oP 1 14 (.call 38 [.t 13] [.c (.int .i64),.c (.bool)]),
 mV 2 12 14,
 oP 3 15 (.ext 12 0),
 oP 4 16 (.ext 12 1),
 mV 5 8 15,
 mV 6 9 16]) (.seq (.region [mV 0 17 9,
 oP 1 18 (.not (.t 17)),
 mV 2 19 18,
 ⟨3,some 20,.move (.t 2),some (19,false)⟩,
 ⟨4,some 21,.faddr 3 1,some (19,false)⟩,
 ⟨5,some 22,.ldL 21 43 (.c (.int .i64)),some (19,false)⟩,
 ⟨6,some 23,.cmp .gtr .i64 (.t 20) (.t 22),some (19,false)⟩,
 oP 7 24 (.pick (.t 19) (kB true) (.t 23))]) (.cut [1,2,3,24,43] c7))) c22)) }
def k22:Kont:=execC M.j C (M.ag C) c22 ({ exits:=[],ret:=retK d }:Env) (retK d)
def J7 (a b:Int) (c:Bool) (e f g h i k l m:Int) (G:GH):Option Res:=M.j (execC M.j C (M.ag C) c7 ({ exits:=[],ret:=retK d }:Env) (k22 M C)) (uS 1 (vI a::(vI b::(.ref 43 0::(uS 20 (vB c::(uS 18 (.box [.int .i64 e,.int .i64 f,.int .i64 g,.int .i64 h,.int .i64 i,.int .i64 k,.int .i64 l,.int .i64 m]::[])))))))) G
def k21:Kont:=execC M.j C (M.ag C) c21 ({ exits:=[],ret:=retK d }:Env) (retK d)
def J15 (a b:Int) (c:Bool) (e f g h i k l m:Int) (G:GH):Option Res:=M.j (execC M.j C (M.ag C) c15 ({ exits:=[],ret:=retK d }:Env) (k21 M C)) (uS 1 (vI a::(vI b::(.ref 43 0::(uS 28 (vB c::(uS 10 (.box [.int .i64 e,.int .i64 f,.int .i64 g,.int .i64 h,.int .i64 i,.int .i64 k,.int .i64 l,.int .i64 m]::[])))))))) G
theorem J7_eq (a d:Int) (l:Bool) (e b f g h i j k:Int) (G:GH):J7 M C a d l e b f g h i j k G=(bif l then some ([.c (.int .i64 0),.c (.int .i64 3)],G) else bif decide (a<0) then J15 M C a d true e b f g h i j k G else J15 M C a d (decide (a>b)) e b f g h i j k G):=(M.hj _ _ _).trans (by kernel_rfl)
theorem J15_eq (b d:Int) (e:Bool) (f g h i j k l m:Int) (G:GH):J15 M C b d e f g h i j k l m G=(bif e then some ([.c (.int .i64 0),.c (.int .i64 4)],G) else (C F86.id [.c (.int .i64 (mx2 (mx2 b d) f))] G).bind fun a=>(((a.1[0]?).bind V1.c?).bind (Cell.asI .i64)).bind fun n=>(((a.1[1]?).bind V1.c?).bind Cell.asB).bind fun o=>some ([.c (.int .i64 n),.c (.int .i64 0)],a.2)):=(M.hj _ _ _).trans (by kernel_rfl)
def f (e d g h i j k l m a:Int) (G:GH):Option Res:=(C F74.id [.c (.int .i64 a)] G).bind fun b=>(((b.1[0]?).bind V1.c?).bind (Cell.asI .i64)).bind fun o=>(((b.1[1]?).bind V1.c?).bind Cell.asB).bind fun n=>bif (!n) then J7 M C m a true e d g h i j k l b.2 else J7 M C m a (decide (a>d)) e d g h i j k l b.2
theorem eq (a b e g h i j k l m:Int) (G:GH):runF M C d [.agg [.int .i64 a,.int .i64 b,.int .i64 e,.int .i64 g,.int .i64 h,.int .i64 i,.int .i64 j,.int .i64 k],.c (.int .i64 l),.c (.int .i64 m)] G=f M C a b e g h i j k l m G:=by kernel_rfl
end F36
namespace F76
def d:DFn:={ ntmps:=54,res:=[.t 2,.t 3],body:=(.seq (.region [oP 0 1 (.boxv 52 [] (.t 0) 6),
 oP 1 2 (.move (.k (.c (.ptr 0 0)))),
 oP 2 3 (.move (kI 0))]) (.seq (.region [oP 0 8 (.ldL 1 52 (.agg (iS 6))),
 oP 1 9 (.call 15 [.t 8] [.agg (iS 8),.c (.int .i64)]),
 mV 2 7 9,
 oP 3 10 (.ext 7 0),
 oP 4 11 (.ext 7 1),
 oP 5 4 (.boxz 53 [17,19,23,25,29,36,38,40,43] (zI 8)),
 ⟨6,none,.stL 4 53 (.t 10) 8,none⟩,
 mV 7 5 11]) (.seq (.seq (.region [mV 0 12 5,
 oP 1 13 (.cmp .neq .i64 (.t 12) (kI 0))]) (.cond (.t 13) (.seq (.region [mV 0 14 5,
 oP 1 2 (.move (.k (.c (.ptr 0 0)))),
 mV 2 3 14]) .ret) .skip)) (.seq (.region [oP 0 15 (.ldL 4 53 (.agg (iS 8))),
 oP 1 16 (.mkmap (.agg [.int .i64])),
 oP 2 17 (.faddr 4 6),
 oP 3 18 (.ldL 17 53 (.c (.int .i64))),
 oP 4 19 (.faddr 4 4),
 oP 5 20 (.ldL 19 53 (.c (.int .i64))),
 oP 6 21 (.bin .quo .i64 (.t 18) (.t 20)),
 oP 7 22 (.mkslice (.t 21) 1 8 [.int .i64 0]),
 oP 8 23 (.faddr 4 6),
 oP 9 24 (.ldL 23 53 (.c (.int .i64))),
 oP 10 25 (.faddr 4 4),
 oP 11 26 (.ldL 25 53 (.c (.int .i64))),
 oP 12 27 (.bin .quo .i64 (.t 24) (.t 26)),
 oP 13 28 (.mkslice (.t 27) 1 1 [.bool false]),
 oP 14 29 (.faddr 4 6),
 oP 15 30 (.ldL 29 53 (.c (.int .i64))),
 oP 16 31 (.mkslice (.t 30) 1 1 [.int .u8 0]),
 oP 17 32 (.build [.int .i64 0,.int .i64 0,.int .i64 0,.int .i64 0,.int .i64 0,.int .i64 0,.int .i64 0,.int .i64 0,.int .i64 0,.sl 2 0 0 0,.sl 2 0 0 0,.map 0,.int .i64 0,.int .i64 0,.int .i64 0,.sl 1 0 0 0,.sl 1 0 0 0,.sl 1 0 0 0] [(0,8,.t 15),(11,1,.t 16),(15,1,.t 22),(16,1,.t 28),(17,1,.t 31)]),
 oP 18 33 (.newv (.t 32) 18),
 mV 19 6 33]) (.seq (.region [mV 0 35 6,
 oP 1 36 (.faddr 4 0),
 oP 2 37 (.ldL 36 53 (.c (.int .i64))),
 oP 3 38 (.faddr 4 6),
 oP 4 39 (.ldL 38 53 (.c (.int .i64))),
 oP 5 40 (.faddr 4 0),
 oP 6 41 (.ldL 40 53 (.c (.int .i64))),
 oP 7 42 (.bin .quo .i64 (.t 39) (.t 41)),
 oP 8 43 (.faddr 4 3),
 oP 9 44 (.ldL 43 53 (.c (.int .i64))),
 oP 10 45 (.bin .add .i64 (.t 44) (kI 1)),
 oP 11 46 (.call 24 [.t 37,.t 42,.t 45] [.agg [.int .i64,.sl 2,.sl 2],.c (.bool)]),
 mV 12 34 46,
 oP 13 47 (.ext 34 0),
 oP 14 48 (.ext 34 1),
 oP 15 49 (.nilck (.t 35)),
 oP 16 50 (.faddr 49 8),
 ⟨17,none,.stG 50 (.t 47) 3,none⟩]) (.seq (.region [mV 0 51 6,
 mV 1 2 51,
 oP 2 3 (.move (kI 0))]) .ret)))))) }
def f (M:Mach) (C:Call) (v w x y z A:Int) (G:GH):Option Res:=(C F87.id [.agg [.int .i64 v,.int .i64 w,.int .i64 x,.int .i64 y,.int .i64 z,.int .i64 A]] G).bind fun e=>((e.1[0]?).bind V1.a?).bind fun b=>if b.length=8 then (((b[0]?).bind (Cell.asI .i64)).bind fun k=>((b[1]?).bind (Cell.asI .i64)).bind fun B=>((b[2]?).bind (Cell.asI .i64)).bind fun D=>((b[3]?).bind (Cell.asI .i64)).bind fun p=>((b[4]?).bind (Cell.asI .i64)).bind fun l=>((b[5]?).bind (Cell.asI .i64)).bind fun E=>((b[6]?).bind (Cell.asI .i64)).bind fun d=>((b[7]?).bind (Cell.asI .i64)).bind fun F=>(((e.1[1]?).bind V1.c?).bind (Cell.asI .i64)).bind fun q=>bif (!decide (q=0)) then some ([.c (.ptr 0 0),.c (.int .i64 q)],e.2) else let r:=e.2.alloc (.map (.agg [.int .i64]) []);(binD .quo .i64 d l).bind fun g=>guardK (decide (0≤g∧g≤(most:Int))) (let s:=r.alloc (.row (reps (Int.toNat g) [.int .i64 0]) false);(binD .quo .i64 d l).bind fun h=>guardK (decide (0≤h∧h≤(most:Int))) (let t:=s.alloc (.row (reps (Int.toNat h) [.bool false]) false);guardK (decide (0≤d∧d≤(most:Int))) (let i:=t.alloc (.row (reps (Int.toNat d) [.int .u8 0]) false);let H:=i.alloc (.row [.int .i64 k,.int .i64 B,.int .i64 D,.int .i64 p,.int .i64 l,.int .i64 E,.int .i64 d,.int .i64 F,.int .i64 0,.sl 2 0 0 0,.sl 2 0 0 0,.map e.2.next,.int .i64 0,.int .i64 0,.int .i64 0,.sl 1 r.next 0 (Int.toNat g),.sl 1 s.next 0 (Int.toNat h),.sl 1 t.next 0 (Int.toNat d)] false);(binD .quo .i64 d k).bind fun I=>(C F62.id [.c (.int .i64 k),.c (.int .i64 I),.c (.int .i64 (IntKind.i64.wrap (p+1)))] H).bind fun m=>((m.1[0]?).bind V1.a?).bind fun j=>if j.length=3 then (((j[0]?).bind (Cell.asI .i64)).bind fun J=>((j[1]?).bind (Cell.asS 2)).bind fun n=>((j[2]?).bind (Cell.asS 2)).bind fun o=>(((m.1[1]?).bind V1.c?).bind Cell.asB).bind fun L=>guardK (!Nat.beq i.next 0) ((m.2.sts i.next (0+8) [.int .i64 J,.sl 2 n.1 n.2.1 n.2.2,.sl 2 o.1 o.2.1 o.2.2]).bind fun K=>some ([.c (.ptr i.next 0),.c (.int .i64 0)],K))) else none)))) else none
theorem eq (a b c e g h:Int) (G:GH):runF M C d [.agg [.int .i64 a,.int .i64 b,.int .i64 c,.int .i64 e,.int .i64 g,.int .i64 h]] G=f M C a b c e g h G:=by kernel_rfl
end F76
namespace F29
def c6:DCode:=(.cond (.t 12) (.seq (.region [oP 0 4 (.move (kI 0)),
 oP 1 5 (.move (kB true))]) .ret) .skip)
def c14:DCode:=(.cond (.t 36) (.seq (.region [oP 0 4 (.move (kI 0)),
 oP 1 5 (.move (kB false))]) .ret) .skip)
def c18:DCode:=(.seq (.region [mV 0 37 6,
 mV 1 4 37,
 oP 2 5 (.move (kB true))]) .ret)
def c20:DCode:=(.seq (.region [mV 0 13 0,
 mV 1 14 1,
 oP 2 15 (.bin .mul .i64 (.t 13) (.t 14)),
 mV 3 6 15]) (.seq (.seq (.region [mV 0 16 0,
 oP 1 17 (.cmp .eql .i64 (.t 16) (kI (-1))),
 mV 2 18 17,
 ⟨3,some 19,.move (.t 1),some (18,true)⟩,
 ⟨4,some 20,.cmp .eql .i64 (.t 19) (kI (-9223372036854775808)),some (18,true)⟩,
 oP 5 21 (.pick (.t 18) (.t 20) (kB false)),
 mV 6 22 21,
 ⟨7,some 23,.move (.t 1),some (22,false)⟩,
 ⟨8,some 24,.cmp .eql .i64 (.t 23) (kI (-1)),some (22,false)⟩,
 ⟨9,some 25,.move (.t 24),some (22,false)⟩,
 ⟨10,some 26,.move (.t 0),some (25,true)⟩,
 ⟨11,some 27,.cmp .eql .i64 (.t 26) (kI (-9223372036854775808)),some (25,true)⟩,
 ⟨12,some 28,.pick (.t 25) (.t 27) (kB false),some (22,false)⟩,
 oP 13 29 (.pick (.t 22) (kB true) (.t 28)),
 mV 14 30 29,
 ⟨15,some 31,.move (.t 6),some (30,false)⟩,
 ⟨16,some 32,.move (.t 1),some (30,false)⟩,
 ⟨17,some 33,.bin .quo .i64 (.t 31) (.t 32),some (30,false)⟩,
 ⟨18,some 34,.move (.t 0),some (30,false)⟩,
 ⟨19,some 35,.cmp .neq .i64 (.t 33) (.t 34),some (30,false)⟩,
 oP 20 36 (.pick (.t 30) (kB true) (.t 35))]) (.cut [6,36] c14)) c18))
def d:DFn:={ ntmps:=38,res:=[.t 4,.t 5],body:=(.seq (.region [oP 0 4 (.move (kI 0)),
 oP 1 5 (.move (kB false))]) (.seq (.seq (.region [mV 0 7 0,
 oP 1 8 (.cmp .eql .i64 (.t 7) (kI 0)),
 mV 2 9 8,
 ⟨3,some 10,.move (.t 1),some (9,false)⟩,
 ⟨4,some 11,.cmp .eql .i64 (.t 10) (kI 0),some (9,false)⟩,
 oP 5 12 (.pick (.t 9) (kB true) (.t 11))]) (.cut [0,1,12] c6)) c20)) }
def k20:Kont:=execC M.j C (M.ag C) c20 ({ exits:=[],ret:=retK d }:Env) (retK d)
def J6 (a b:Int) (c:Bool) (G:GH):Option Res:=M.j (execC M.j C (M.ag C) c6 ({ exits:=[],ret:=retK d }:Env) (k20 M C)) (vI a::(vI b::(uS 10 (vB c::(uS 25 []))))) G
def k18:Kont:=execC M.j C (M.ag C) c18 ({ exits:=[],ret:=retK d }:Env) (retK d)
def J14 (a:Int) (b:Bool) (G:GH):Option Res:=M.j (execC M.j C (M.ag C) c14 ({ exits:=[],ret:=retK d }:Env) (k18 M C)) (uS 6 (vI a::(uS 29 (vB b::(uS 1 []))))) G
theorem J6_eq (a b:Int) (d:Bool) (G:GH):J6 M C a b d G=(bif d then some ([.c (.int .i64 0),.c (.bool true)],G) else bif decide (a=(-1)) then bif decide (b=(-9223372036854775808)) then J14 M C (IntKind.i64.wrap (a*b)) true G else bif decide (b=(-1)) then bif decide (a=(-9223372036854775808)) then J14 M C (IntKind.i64.wrap (a*b)) true G else (binD .quo .i64 (IntKind.i64.wrap (a*b)) b).bind fun e=>J14 M C (IntKind.i64.wrap (a*b)) (!decide (e=a)) G else (binD .quo .i64 (IntKind.i64.wrap (a*b)) b).bind fun f=>J14 M C (IntKind.i64.wrap (a*b)) (!decide (f=a)) G else bif decide (b=(-1)) then bif decide (a=(-9223372036854775808)) then J14 M C (IntKind.i64.wrap (a*b)) true G else (binD .quo .i64 (IntKind.i64.wrap (a*b)) b).bind fun g=>J14 M C (IntKind.i64.wrap (a*b)) (!decide (g=a)) G else (binD .quo .i64 (IntKind.i64.wrap (a*b)) b).bind fun h=>J14 M C (IntKind.i64.wrap (a*b)) (!decide (h=a)) G):=(M.hj _ _ _).trans (by kernel_rfl)
theorem J14_eq (a:Int) (b:Bool) (G:GH):J14 M C a b G=(bif b then some ([.c (.int .i64 0),.c (.bool false)],G) else some ([.c (.int .i64 a),.c (.bool true)],G)):=(M.hj _ _ _).trans (by kernel_rfl)
def f (a b:Int) (G:GH):Option Res:=bif decide (a=0) then J6 M C a b true G else J6 M C a b (decide (b=0)) G
theorem eq (a b:Int) (G:GH):runF M C d [.c (.int .i64 a),.c (.int .i64 b)] G=f M C a b G:=by kernel_rfl
end F29
namespace F54
def c6:DCode:=(.cond (.t 23) (.seq (.region [oP 0 4 (.move (kI 0)),
 oP 1 5 (.move (kB false))]) .ret) .skip)
def c14:DCode:=(.cond (.t 39) (.seq (.region [oP 0 4 (.move (kI 0)),
 oP 1 5 (.move (kB false))]) .ret) .skip)
def c18:DCode:=(.seq (.region [mV 0 40 6,
 mV 1 4 40,
 oP 2 5 (.move (kB true))]) .ret)
def c20:DCode:=(.seq (.region [mV 0 25 1,
 oP 1 26 (.faddr 2 0),
 oP 2 27 (.ldL 26 41 (.c (.int .i64))),
 oP 3 28 (.bin .quo .i64 (.t 25) (.t 27)),
 oP 4 29 (.call 38 [.t 28] [.c (.int .i64),.c (.bool)]),
 mV 5 24 29,
 oP 6 30 (.ext 24 0),
 oP 7 31 (.ext 24 1),
 mV 8 6 30,
 mV 9 7 31]) (.seq (.seq (.region [mV 0 32 7,
 oP 1 33 (.not (.t 32)),
 mV 2 34 33,
 ⟨3,some 35,.move (.t 6),some (34,false)⟩,
 ⟨4,some 36,.faddr 2 3,some (34,false)⟩,
 ⟨5,some 37,.ldL 36 41 (.c (.int .i64)),some (34,false)⟩,
 ⟨6,some 38,.cmp .gtr .i64 (.t 35) (.t 37),some (34,false)⟩,
 oP 7 39 (.pick (.t 34) (kB true) (.t 38))]) (.cut [6,39] c14)) c18))
def d:DFn:={ ntmps:=42,res:=[.t 4,.t 5],body:=(.seq (.region [oP 0 2 (.boxv 41 [8,13,19,26,36] (.t 0) 8),
 oP 1 4 (.move (kI 0)),
 oP 2 5 (.move (kB false))]) (.seq (.seq (.region [oP 0 8 (.faddr 2 0),
 oP 1 9 (.ldL 8 41 (.c (.int .i64))),
 oP 2 10 (.cmp .lss .i64 (.t 9) (kI 1)),
 mV 3 11 10,
 ⟨4,some 12,.move (.t 1),some (11,false)⟩,
 ⟨5,some 13,.faddr 2 0,some (11,false)⟩,
 ⟨6,some 14,.ldL 13 41 (.c (.int .i64)),some (11,false)⟩,
 ⟨7,some 15,.cmp .lss .i64 (.t 12) (.t 14),some (11,false)⟩,
 oP 8 16 (.pick (.t 11) (kB true) (.t 15)),
 mV 9 17 16,
 ⟨10,some 18,.move (.t 1),some (17,false)⟩,
 ⟨11,some 19,.faddr 2 0,some (17,false)⟩,
 ⟨12,some 20,.ldL 19 41 (.c (.int .i64)),some (17,false)⟩,
 ⟨13,some 21,.bin .rem .i64 (.t 18) (.t 20),some (17,false)⟩,
 ⟨14,some 22,.cmp .neq .i64 (.t 21) (kI 0),some (17,false)⟩,
 oP 15 23 (.pick (.t 17) (kB true) (.t 22))]) (.cut [1,2,23,41] c6)) c20)) }
def k20:Kont:=execC M.j C (M.ag C) c20 ({ exits:=[],ret:=retK d }:Env) (retK d)
def J6 (a:Int) (b:Bool) (c e f g h i k l:Int) (G:GH):Option Res:=M.j (execC M.j C (M.ag C) c6 ({ exits:=[],ret:=retK d }:Env) (k20 M C)) (uS 1 (vI a::(.ref 41 0::(uS 20 (vB b::(uS 17 (.box [.int .i64 c,.int .i64 e,.int .i64 f,.int .i64 g,.int .i64 h,.int .i64 i,.int .i64 k,.int .i64 l]::[]))))))) G
def k18:Kont:=execC M.j C (M.ag C) c18 ({ exits:=[],ret:=retK d }:Env) (retK d)
def J14 (a:Int) (b:Bool) (G:GH):Option Res:=M.j (execC M.j C (M.ag C) c14 ({ exits:=[],ret:=retK d }:Env) (k18 M C)) (uS 6 (vI a::(uS 32 (vB b::(uS 2 []))))) G
theorem J6_eq (d:Int) (e:Bool) (f h i g j k l m:Int) (G:GH):J6 M C d e f h i g j k l m G=(bif e then some ([.c (.int .i64 0),.c (.bool false)],G) else (binD .quo .i64 d f).bind fun n=>(C F74.id [.c (.int .i64 n)] G).bind fun a=>(((a.1[0]?).bind V1.c?).bind (Cell.asI .i64)).bind fun b=>(((a.1[1]?).bind V1.c?).bind Cell.asB).bind fun o=>bif (!o) then J14 M C b true a.2 else J14 M C b (decide (b>g)) a.2):=(M.hj _ _ _).trans (by kernel_rfl)
theorem J14_eq (a:Int) (b:Bool) (G:GH):J14 M C a b G=(bif b then some ([.c (.int .i64 0),.c (.bool false)],G) else some ([.c (.int .i64 a),.c (.bool true)],G)):=(M.hj _ _ _).trans (by kernel_rfl)
def f (a c d e g h i j b:Int) (G:GH):Option Res:=bif decide (a<1) then J6 M C b true a c d e g h i j G else bif decide (b<a) then J6 M C b true a c d e g h i j G else (binD .rem .i64 b a).bind fun k=>J6 M C b (!decide (k=0)) a c d e g h i j G
theorem eq (a b e g h i j k l:Int) (G:GH):runF M C d [.agg [.int .i64 a,.int .i64 b,.int .i64 e,.int .i64 g,.int .i64 h,.int .i64 i,.int .i64 j,.int .i64 k],.c (.int .i64 l)] G=f M C a b e g h i j k l G:=by kernel_rfl
end F54
namespace F81
def c10:DCode:=(.cond (.t 14) (.seq (.region [oP 0 4 (.move (kI 0)),
 oP 1 5 (.move (kB false))]) .ret) .skip)
def c12:DCode:=(.cond (.t 7) (.seq (.region [oP 0 4 (.move (kI 0)),
 oP 1 5 (.move (kB true))]) .ret) (.seq (.region [mV 0 15 0,
 oP 1 16 (.cmp .eql .i64 (.t 15) (kI (-1))),
 mV 2 17 16,
 ⟨3,some 18,.move (.t 1),some (17,true)⟩,
 ⟨4,some 19,.cmp .eql .i64 (.t 18) (kI (-9223372036854775808)),some (17,true)⟩,
 oP 5 20 (.pick (.t 17) (.t 19) (kB false)),
 mV 6 21 20,
 ⟨7,some 22,.move (.t 1),some (21,false)⟩,
 ⟨8,some 23,.cmp .eql .i64 (.t 22) (kI (-1)),some (21,false)⟩,
 ⟨9,some 24,.move (.t 23),some (21,false)⟩,
 ⟨10,some 25,.move (.t 0),some (24,true)⟩,
 ⟨11,some 26,.cmp .eql .i64 (.t 25) (kI (-9223372036854775808)),some (24,true)⟩,
 ⟨12,some 27,.pick (.t 24) (.t 26) (kB false),some (21,false)⟩,
 oP 13 28 (.pick (.t 21) (kB true) (.t 27)),
 mV 14 14 28]) (.cut [0,1,14] c10)))
def c27:DCode:=(.seq (.region [mV 0 29 0,
 oP 1 30 (.conv .u64 (.t 29)),
 mV 2 31 1,
 oP 3 32 (.conv .u64 (.t 31)),
 oP 4 33 (.bin .mul .u64 (.t 30) (.t 32)),
 oP 5 34 (.conv .i64 (.t 33)),
 mV 6 6 34]) (.seq (.seq (.region [mV 0 35 6,
 mV 1 36 1,
 oP 2 37 (.bin .quo .i64 (.t 35) (.t 36)),
 mV 3 38 0,
 oP 4 39 (.cmp .neq .i64 (.t 37) (.t 38))]) (.cond (.t 39) (.seq (.region [oP 0 4 (.move (kI 0)),
 oP 1 5 (.move (kB false))]) .ret) .skip)) (.seq (.region [mV 0 40 6,
 mV 1 4 40,
 oP 2 5 (.move (kB true))]) .ret)))
def d:DFn:={ ntmps:=41,res:=[.t 4,.t 5],body:=(.seq (.region [oP 0 4 (.move (kI 0)),
 oP 1 5 (.move (kB false))]) (.seq (.block 0 (.seq (.region [mV 0 8 0,
 oP 1 9 (.cmp .eql .i64 (.t 8) (kI 0)),
 mV 2 10 9,
 ⟨3,some 11,.move (.t 1),some (10,false)⟩,
 ⟨4,some 12,.cmp .eql .i64 (.t 11) (kI 0),some (10,false)⟩,
 oP 5 13 (.pick (.t 10) (kB true) (.t 12)),
 mV 6 7 13]) (.cut [0,1,7] c12))) c27)) }
def k27:Kont:=execC M.j C (M.ag C) c27 ({ exits:=[],ret:=retK d }:Env) (retK d)
def e14:Env:={ exits:=(0,(k27 M C))::(({ exits:=[],ret:=retK d }:Env)).exits,ret:=(({ exits:=[],ret:=retK d }:Env)).ret }
def J12 (a b:Int) (c:Bool) (G:GH):Option Res:=M.j (execC M.j C (M.ag C) c12 (e14 M C) (k27 M C)) (vI a::(vI b::(uS 5 (vB c::(uS 33 []))))) G
def J10 (a b:Int) (c:Bool) (G:GH):Option Res:=M.j (execC M.j C (M.ag C) c10 (e14 M C) (k27 M C)) (vI a::(vI b::(uS 12 (vB c::(uS 26 []))))) G
theorem J12_eq (a b:Int) (d:Bool) (G:GH):J12 M C a b d G=(bif d then some ([.c (.int .i64 0),.c (.bool true)],G) else bif decide (a=(-1)) then bif decide (b=(-9223372036854775808)) then J10 M C a b true G else bif decide (b=(-1)) then J10 M C a b (decide (a=(-9223372036854775808))) G else J10 M C a b false G else bif decide (b=(-1)) then J10 M C a b (decide (a=(-9223372036854775808))) G else J10 M C a b false G):=(M.hj _ _ _).trans (by kernel_rfl)
theorem J10_eq (a b:Int) (d:Bool) (G:GH):J10 M C a b d G=(bif d then some ([.c (.int .i64 0),.c (.bool false)],G) else (binD .quo .i64 (IntKind.i64.wrap (IntKind.u64.wrap ((IntKind.u64.wrap a)*(IntKind.u64.wrap b)))) b).bind fun e=>bif (!decide (e=a)) then some ([.c (.int .i64 0),.c (.bool false)],G) else some ([.c (.int .i64 (IntKind.i64.wrap (IntKind.u64.wrap ((IntKind.u64.wrap a)*(IntKind.u64.wrap b))))),.c (.bool true)],G)):=(M.hj _ _ _).trans (by kernel_rfl)
def f (a b:Int) (G:GH):Option Res:=bif decide (a=0) then J12 M C a b true G else J12 M C a b (decide (b=0)) G
theorem eq (a b:Int) (G:GH):runF M C d [.c (.int .i64 a),.c (.int .i64 b)] G=f M C a b G:=by kernel_rfl
end F81
namespace F11
def c6:DCode:=(.cond (.t 15) (.seq (.region [oP 0 6 (.move (kI 0)),
 oP 1 7 (.move (kI 2))]) .ret) .skip)
def c14:DCode:=(.cond (.t 29) (.seq (.region [oP 0 6 (.move (kI 0)),
 oP 1 7 (.move (kI 4))]) .ret) .skip)
def c18:DCode:=(.seq (.region [mV 0 30 8,
 mV 1 6 30,
 oP 2 7 (.move (kI 0))]) .ret)
def c20:DCode:=(.seq (.region [mV 0 17 1,
 mV 1 18 2,
 oP 2 19 (.call 45 [.t 17,.t 18] [.c (.int .i64),.c (.bool)]),
 mV 3 16 19,
 oP 4 20 (.ext 16 0),
 oP 5 21 (.ext 16 1),
 mV 6 8 20,
 mV 7 9 21]) (.seq (.seq (.region [mV 0 22 9,
 oP 1 23 (.not (.t 22)),
 mV 2 24 23,
 ⟨3,some 25,.move (.t 8),some (24,false)⟩,
 ⟨4,some 26,.faddr 3 1,some (24,false)⟩,
 ⟨5,some 27,.ldL 26 31 (.c (.int .i64)),some (24,false)⟩,
 ⟨6,some 28,.cmp .gtr .i64 (.t 25) (.t 27),some (24,false)⟩,
 oP 7 29 (.pick (.t 24) (kB true) (.t 28))]) (.cut [8,29] c14)) c18))
def d:DFn:={ ntmps:=32,res:=[.t 6,.t 7],body:=(.seq (.region [oP 0 3 (.boxv 31 [26] (.t 0) 8),
 oP 1 6 (.move (kI 0)),
 oP 2 7 (.move (kI 0))]) (.seq (.seq (.region [mV 0 10 1,
 oP 1 11 (.cmp .lss .i64 (.t 10) (kI 0)),
 mV 2 12 11,
 ⟨3,some 13,.move (.t 2),some (12,false)⟩,
 ⟨4,some 14,.cmp .lss .i64 (.t 13) (kI 0),some (12,false)⟩,
 oP 5 15 (.pick (.t 12) (kB true) (.t 14))]) (.cut [1,2,3,15,31] c6)) c20)) }
def k20:Kont:=execC M.j C (M.ag C) c20 ({ exits:=[],ret:=retK d }:Env) (retK d)
def J6 (a b:Int) (c:Bool) (e f g h i k l m:Int) (G:GH):Option Res:=M.j (execC M.j C (M.ag C) c6 ({ exits:=[],ret:=retK d }:Env) (k20 M C)) (uS 1 (vI a::(vI b::(.ref 31 0::(uS 11 (vB c::(uS 15 (.box [.int .i64 e,.int .i64 f,.int .i64 g,.int .i64 h,.int .i64 i,.int .i64 k,.int .i64 l,.int .i64 m]::[])))))))) G
def k18:Kont:=execC M.j C (M.ag C) c18 ({ exits:=[],ret:=retK d }:Env) (retK d)
def J14 (a:Int) (b:Bool) (G:GH):Option Res:=M.j (execC M.j C (M.ag C) c14 ({ exits:=[],ret:=retK d }:Env) (k18 M C)) (uS 8 (vI a::(uS 20 (vB b::(uS 2 []))))) G
theorem J6_eq (d e:Int) (f:Bool) (h g i j k l m n:Int) (G:GH):J6 M C d e f h g i j k l m n G=(bif f then some ([.c (.int .i64 0),.c (.int .i64 2)],G) else (C F29.id [.c (.int .i64 d),.c (.int .i64 e)] G).bind fun a=>(((a.1[0]?).bind V1.c?).bind (Cell.asI .i64)).bind fun b=>(((a.1[1]?).bind V1.c?).bind Cell.asB).bind fun o=>bif (!o) then J14 M C b true a.2 else J14 M C b (decide (b>g)) a.2):=(M.hj _ _ _).trans (by kernel_rfl)
theorem J14_eq (a:Int) (b:Bool) (G:GH):J14 M C a b G=(bif b then some ([.c (.int .i64 0),.c (.int .i64 4)],G) else some ([.c (.int .i64 a),.c (.int .i64 0)],G)):=(M.hj _ _ _).trans (by kernel_rfl)
def f (c d e g h i j k a b:Int) (G:GH):Option Res:=bif decide (a<0) then J6 M C a b true c d e g h i j k G else J6 M C a b (decide (b<0)) c d e g h i j k G
theorem eq (a b e g h i j k l m:Int) (G:GH):runF M C d [.agg [.int .i64 a,.int .i64 b,.int .i64 e,.int .i64 g,.int .i64 h,.int .i64 i,.int .i64 j,.int .i64 k],.c (.int .i64 l),.c (.int .i64 m)] G=f M C a b e g h i j k l m G:=by kernel_rfl
end F11
namespace F64
def c6:DCode:=(.cond (.t 18) (.seq (.region [oP 0 6 (.move (kI 0)),
 oP 1 7 (.move (kI 0))]) .ret) .skip)
def c24:DCode:=(.seq (.region [mV 0 35 6,
 mV 1 36 8,
 mV 2 37 0,
 oP 3 38 (.bin .quo .i64 (.t 36) (.t 37)),
 oP 4 39 (.bin .add .i64 (.t 38) (kI 1)),
 mV 5 6 35,
 mV 6 7 39]) .ret)
def c28:DCode:=(.seq (.region [mV 0 19 1,
 mV 1 20 0,
 oP 2 21 (.bin .quo .i64 (.t 19) (.t 20)),
 mV 3 6 21]) (.seq (.seq (.region [mV 0 22 2,
 oP 1 23 (.cmp .eql .i64 (.t 22) (kI 0))]) (.cond (.t 23) (.seq (.region [mV 0 24 6,
 mV 1 25 6,
 mV 2 6 24,
 mV 3 7 25]) .ret) .skip)) (.seq (.region [oP 0 8 (.move (kI 9223372036854775807))]) (.seq (.seq (.region [mV 0 26 2,
 oP 1 27 (.bin .sub .i64 (.t 26) (kI 1)),
 mV 2 28 1,
 oP 3 29 (.bin .sub .i64 (kI 9223372036854775807) (.t 28)),
 oP 4 30 (.cmp .leq .i64 (.t 27) (.t 29))]) (.cond (.t 30) (.region [mV 0 31 1,
 mV 1 32 2,
 oP 2 33 (.bin .add .i64 (.t 31) (.t 32)),
 oP 3 34 (.bin .sub .i64 (.t 33) (kI 1)),
 mV 4 8 34]) .skip)) (.cut [0,6,8] c24)))))
def d:DFn:={ ntmps:=40,res:=[.t 6,.t 7],body:=(.seq (.region [oP 0 6 (.move (kI 0)),
 oP 1 7 (.move (kI 0))]) (.seq (.seq (.region [mV 0 9 0,
 oP 1 10 (.cmp .lss .i64 (.t 9) (kI 1)),
 mV 2 11 10,
 ⟨3,some 12,.move (.t 1),some (11,false)⟩,
 ⟨4,some 13,.cmp .lss .i64 (.t 12) (kI 0),some (11,false)⟩,
 oP 5 14 (.pick (.t 11) (kB true) (.t 13)),
 mV 6 15 14,
 ⟨7,some 16,.move (.t 2),some (15,false)⟩,
 ⟨8,some 17,.cmp .lss .i64 (.t 16) (kI 0),some (15,false)⟩,
 oP 9 18 (.pick (.t 15) (kB true) (.t 17))]) (.cut [0,1,2,18] c6)) c28)) }
def k28:Kont:=execC M.j C (M.ag C) c28 ({ exits:=[],ret:=retK d }:Env) (retK d)
def J6 (a b c:Int) (e:Bool) (G:GH):Option Res:=M.j (execC M.j C (M.ag C) c6 ({ exits:=[],ret:=retK d }:Env) (k28 M C)) (vI a::(vI b::(vI c::(uS 15 (vB e::(uS 21 [])))))) G
def J24 (a b c:Int) (G:GH):Option Res:=M.j (execC M.j C (M.ag C) c24 ({ exits:=[],ret:=retK d }:Env) (retK d)) (vI a::(uS 5 (vI b::(uS 1 (vI c::(uS 31 [])))))) G
theorem J6_eq (a b d:Int) (f:Bool) (G:GH):J6 M C a b d f G=(bif f then some ([.c (.int .i64 0),.c (.int .i64 0)],G) else (binD .quo .i64 b a).bind fun e=>bif decide (d=0) then some ([.c (.int .i64 e),.c (.int .i64 e)],G) else bif decide (IntKind.i64.wrap (d-1)≤IntKind.i64.wrap (9223372036854775807-b)) then J24 M C a e (IntKind.i64.wrap ((IntKind.i64.wrap (b+d))-1)) G else J24 M C a e 9223372036854775807 G):=(M.hj _ _ _).trans (by kernel_rfl)
theorem J24_eq (a b d:Int) (G:GH):J24 M C a b d G=((binD .quo .i64 d a).bind fun e=>some ([.c (.int .i64 b),.c (.int .i64 (IntKind.i64.wrap (e+1)))],G)):=(M.hj _ _ _).trans (by kernel_rfl)
def f (a b c:Int) (G:GH):Option Res:=bif decide (a<1) then J6 M C a b c true G else bif decide (b<0) then J6 M C a b c true G else J6 M C a b c (decide (c<0)) G
theorem eq (a b e:Int) (G:GH):runF M C d [.c (.int .i64 a),.c (.int .i64 b),.c (.int .i64 e)] G=f M C a b e G:=by kernel_rfl
end F64
namespace F9
def c10:DCode:=(.seq (.region [oP 0 30 (.ldL 6 32 (.agg (iS 6))),
 ⟨1,none,.stL 4 31 (.t 30) 6,none⟩]) .ret)
def d:DFn:={ ntmps:=33,res:=[.box 4 (some 6)],body:=(.seq (.region [oP 0 4 (.boxz 31 [] (zI 6))]) (.seq (.region [mV 0 7 0,
 oP 1 8 (.call 23 [.t 7,.k (.c (.int .i64 9))] [.c (.int .i64)]),
 oP 2 9 (.bin .add .i64 (kI 1) (.t 8)),
 mV 3 5 9]) (.seq (.region [mV 0 10 5,
 mV 1 11 5,
 mV 2 12 0,
 oP 3 13 (.call 23 [.t 12,.k (.c (.int .i64 12))] [.c (.int .i64)]),
 oP 4 14 (.bin .add .i64 (kI 1) (.t 13)),
 oP 5 15 (.bin .mul .i64 (.t 11) (.t 14)),
 mV 6 16 0,
 oP 7 17 (.call 23 [.t 16,.k (.c (.int .i64 150))] [.c (.int .i64)]),
 oP 8 18 (.bin .add .i64 (kI 1) (.t 17)),
 mV 9 19 0,
 oP 10 20 (.call 23 [.t 19,.k (.c (.int .i64 30))] [.c (.int .i64)]),
 oP 11 21 (.bin .add .i64 (kI 1) (.t 20)),
 mV 12 22 0,
 oP 13 23 (.call 23 [.t 22,.k (.c (.int .i64 200))] [.c (.int .i64)]),
 mV 14 24 0,
 oP 15 25 (.call 23 [.t 24,.k (.c (.int .i64 20))] [.c (.int .i64)]),
 oP 16 26 (.bin .add .i64 (kI 1) (.t 25)),
 oP 17 27 (.build (zI 6) [(0,1,.t 10),(1,1,.t 15),(2,1,.t 18),(3,1,.t 21),(5,1,.t 23),(4,1,.t 26)]),
 oP 18 6 (.boxz 32 [29] (zI 6)),
 ⟨19,none,.stL 6 32 (.t 27) 6,none⟩]) (.seq (.seq (.region [mV 0 28 1]) (.cond (.t 28) (.region [oP 0 29 (.faddr 6 4),
 ⟨1,none,.stL 29 32 (kI 5000) 1,none⟩]) .skip)) (.cut [4,6,31,32] c10))))) }
def J10 (a b c e f g h i k l m n:Int) (G:GH):Option Res:=M.j (execC M.j C (M.ag C) c10 ({ exits:=[],ret:=retK d }:Env) (retK d)) (uS 4 (.ref 31 0::(uS 1 (.ref 32 0::(uS 24 (.box [.int .i64 a,.int .i64 b,.int .i64 c,.int .i64 e,.int .i64 f,.int .i64 g]::(.box [.int .i64 h,.int .i64 i,.int .i64 k,.int .i64 l,.int .i64 m,.int .i64 n]::[]))))))) G
theorem J10_eq (g h i j k l a b c d e f:Int) (G:GH):J10 M C g h i j k l a b c d e f G=(some ([.agg [.int .i64 a,.int .i64 b,.int .i64 c,.int .i64 d,.int .i64 e,.int .i64 f]],G)):=(M.hj _ _ _).trans (by kernel_rfl)
def f (a b:Nat) (p:Bool) (G:GH):Option Res:=(C F8.id [.c (.ptr a b),.c (.int .i64 9)] G).bind fun g=>(((g.1[0]?).bind V1.c?).bind (Cell.asI .i64)).bind fun d=>(C F8.id [.c (.ptr a b),.c (.int .i64 12)] g.2).bind fun h=>(((h.1[0]?).bind V1.c?).bind (Cell.asI .i64)).bind fun i=>(C F8.id [.c (.ptr a b),.c (.int .i64 150)] h.2).bind fun j=>(((j.1[0]?).bind V1.c?).bind (Cell.asI .i64)).bind fun k=>(C F8.id [.c (.ptr a b),.c (.int .i64 30)] j.2).bind fun l=>(((l.1[0]?).bind V1.c?).bind (Cell.asI .i64)).bind fun m=>(C F8.id [.c (.ptr a b),.c (.int .i64 200)] l.2).bind fun n=>(((n.1[0]?).bind V1.c?).bind (Cell.asI .i64)).bind fun o=>(C F8.id [.c (.ptr a b),.c (.int .i64 20)] n.2).bind fun e=>(((e.1[0]?).bind V1.c?).bind (Cell.asI .i64)).bind fun q=>bif p then J10 M C 0 0 0 0 0 0 (IntKind.i64.wrap (1+d)) (IntKind.i64.wrap ((IntKind.i64.wrap (1+d))*(IntKind.i64.wrap (1+i)))) (IntKind.i64.wrap (1+k)) (IntKind.i64.wrap (1+m)) 5000 o e.2 else J10 M C 0 0 0 0 0 0 (IntKind.i64.wrap (1+d)) (IntKind.i64.wrap ((IntKind.i64.wrap (1+d))*(IntKind.i64.wrap (1+i)))) (IntKind.i64.wrap (1+k)) (IntKind.i64.wrap (1+m)) (IntKind.i64.wrap (1+q)) o e.2
theorem eq (a b:Nat) (e:Bool) (G:GH):runF M C d [.c (.ptr a b),.c (.bool e)] G=f M C a b e G:=by kernel_rfl
end F9
namespace F32
def c6:DCode:=(.cond (.t 15) (.seq (.region [oP 0 6 (.move (kI 0)),
 oP 1 7 (.move (kI 2))]) .ret) .skip)
def c14:DCode:=(.cond (.t 29) (.seq (.region [oP 0 6 (.move (kI 0)),
 oP 1 7 (.move (kI 4))]) .ret) .skip)
def c18:DCode:=(.seq (.region [mV 0 30 8,
 mV 1 6 30,
 oP 2 7 (.move (kI 0))]) .ret)
def c20:DCode:=(.seq (.region [mV 0 17 1,
 mV 1 18 2,
 oP 2 19 (.call 62 [.t 17,.t 18] [.c (.int .i64),.c (.bool)]),
 mV 3 16 19,
 oP 4 20 (.ext 16 0),
 oP 5 21 (.ext 16 1),
 mV 6 8 20,
 mV 7 9 21]) (.seq (.seq (.region [mV 0 22 9,
 oP 1 23 (.not (.t 22)),
 mV 2 24 23,
 ⟨3,some 25,.move (.t 8),some (24,false)⟩,
 ⟨4,some 26,.faddr 3 1,some (24,false)⟩,
 ⟨5,some 27,.ldL 26 31 (.c (.int .i64)),some (24,false)⟩,
 ⟨6,some 28,.cmp .gtr .i64 (.t 25) (.t 27),some (24,false)⟩,
 oP 7 29 (.pick (.t 24) (kB true) (.t 28))]) (.cut [8,29] c14)) c18))
def d:DFn:={ ntmps:=32,res:=[.t 6,.t 7],body:=(.seq (.region [oP 0 3 (.boxv 31 [26] (.t 0) 8),
 oP 1 6 (.move (kI 0)),
 oP 2 7 (.move (kI 0))]) (.seq (.seq (.region [mV 0 10 1,
 oP 1 11 (.cmp .lss .i64 (.t 10) (kI 0)),
 mV 2 12 11,
 ⟨3,some 13,.move (.t 2),some (12,false)⟩,
 ⟨4,some 14,.cmp .lss .i64 (.t 13) (kI 0),some (12,false)⟩,
 oP 5 15 (.pick (.t 12) (kB true) (.t 14))]) (.cut [1,2,3,15,31] c6)) c20)) }
def k20:Kont:=execC M.j C (M.ag C) c20 ({ exits:=[],ret:=retK d }:Env) (retK d)
def J6 (a b:Int) (c:Bool) (e f g h i k l m:Int) (G:GH):Option Res:=M.j (execC M.j C (M.ag C) c6 ({ exits:=[],ret:=retK d }:Env) (k20 M C)) (uS 1 (vI a::(vI b::(.ref 31 0::(uS 11 (vB c::(uS 15 (.box [.int .i64 e,.int .i64 f,.int .i64 g,.int .i64 h,.int .i64 i,.int .i64 k,.int .i64 l,.int .i64 m]::[])))))))) G
def k18:Kont:=execC M.j C (M.ag C) c18 ({ exits:=[],ret:=retK d }:Env) (retK d)
def J14 (a:Int) (b:Bool) (G:GH):Option Res:=M.j (execC M.j C (M.ag C) c14 ({ exits:=[],ret:=retK d }:Env) (k18 M C)) (uS 8 (vI a::(uS 20 (vB b::(uS 2 []))))) G
theorem J6_eq (d e:Int) (f:Bool) (h g i j k l m n:Int) (G:GH):J6 M C d e f h g i j k l m n G=(bif f then some ([.c (.int .i64 0),.c (.int .i64 2)],G) else (C F81.id [.c (.int .i64 d),.c (.int .i64 e)] G).bind fun a=>(((a.1[0]?).bind V1.c?).bind (Cell.asI .i64)).bind fun b=>(((a.1[1]?).bind V1.c?).bind Cell.asB).bind fun o=>bif (!o) then J14 M C b true a.2 else J14 M C b (decide (b>g)) a.2):=(M.hj _ _ _).trans (by kernel_rfl)
theorem J14_eq (a:Int) (b:Bool) (G:GH):J14 M C a b G=(bif b then some ([.c (.int .i64 0),.c (.int .i64 4)],G) else some ([.c (.int .i64 a),.c (.int .i64 0)],G)):=(M.hj _ _ _).trans (by kernel_rfl)
def f (c d e g h i j k a b:Int) (G:GH):Option Res:=bif decide (a<0) then J6 M C a b true c d e g h i j k G else J6 M C a b (decide (b<0)) c d e g h i j k G
theorem eq (a b e g h i j k l m:Int) (G:GH):runF M C d [.agg [.int .i64 a,.int .i64 b,.int .i64 e,.int .i64 g,.int .i64 h,.int .i64 i,.int .i64 j,.int .i64 k],.c (.int .i64 l),.c (.int .i64 m)] G=f M C a b e g h i j k l m G:=by kernel_rfl
end F32
namespace F72
def d:DFn:={ ntmps:=69,res:=[.pt 4 (some 6),.t 5,.t 6],body:=(.seq (.region [oP 0 4 (.newz [.int .i64 0,.int .i64 0,.int .i64 0,.int .i64 0,.int .i64 0,.int .u8 0]),
 oP 1 5 (.move (kI 0)),
 oP 2 6 (.move (kB false))]) (.seq (.region [mV 0 9 0,
 oP 1 10 (.faddr 4 0),
 ⟨2,none,.stG 10 (.t 9) 1,none⟩]) (.seq (.seq (.region [mV 0 11 0,
 oP 1 12 (.call 69 [.t 11] [.c (.str)]),
 oP 2 13 (.sbytes (.t 12)),
 oP 3 14 (.len (.t 13)),
 oP 4 15 (.move (kI 0))]) (.block 0 (.loop [0,1,4,5,13,14,15] (.seq (.region [oP 0 16 (.cmp .lss .i64 (.t 15) (.t 14))]) (.seq (.cond (.t 16) .skip (.exit 0)) (.seq (.block 1 (.seq (.region [oP 0 17 (.iaddr (.t 13) (.t 15) 1),
 oP 1 18 (.ldG 17 (.c (.int .u8))),
 mV 2 8 18]) (.seq (.seq (.region [mV 0 19 1,
 oP 1 20 (.len (.t 19)),
 mV 2 21 5,
 oP 3 22 (.bin .sub .i64 (.t 20) (.t 21)),
 oP 4 23 (.cmp .lss .i64 (.t 22) (kI 3))]) (.cond (.t 23) (.seq (.region [oP 0 24 (.ldG 4 (.agg [.int .i64,.int .i64,.int .i64,.int .i64,.int .i64,.int .u8])),
 ⟨1,none,.stG 4 (.t 24) 6,none⟩,
 oP 2 5 (.move (kI 0)),
 oP 3 6 (.move (kB false))]) .ret) .skip)) (.seq (.region [mV 0 25 8,
 mV 2 27 1,
 mV 3 28 5,
 oP 4 29 (.iaddr (.t 27) (.t 28) 1),
 oP 5 30 (.ldG 29 (.c (.int .u8))),
 oP 6 31 (.conv .i64 (.t 30)),
 oP 7 32 (.bin .shl .i64 (.t 31) (.k (.c (.int .u64 16)))),
 mV 8 33 1,
 mV 9 34 5,
 oP 10 35 (.bin .add .i64 (.t 34) (kI 1)),
 oP 11 36 (.iaddr (.t 33) (.t 35) 1),
 oP 12 37 (.ldG 36 (.c (.int .u8))),
 oP 13 38 (.conv .i64 (.t 37)),
 oP 14 39 (.bin .shl .i64 (.t 38) (.k (.c (.int .u64 8)))),
 oP 15 40 (.bin .or .i64 (.t 32) (.t 39)),
 mV 16 41 1,
 mV 17 42 5,
 oP 18 43 (.bin .add .i64 (.t 42) (kI 2)),
 oP 19 44 (.iaddr (.t 41) (.t 43) 1),
 oP 20 45 (.ldG 44 (.c (.int .u8))),
 oP 21 46 (.conv .i64 (.t 45)),
 oP 22 47 (.bin .or .i64 (.t 40) (.t 46)),
 oP 1 26 (.call 70 [.t 4,.t 25] [.c (.ptr)]),
 ⟨9999,none,.reG 30 29 (.c (.int .u8)),none⟩,
 ⟨9999,none,.reG 37 36 (.c (.int .u8)),none⟩,
 ⟨9999,none,.reG 45 44 (.c (.int .u8)),none⟩,
 oP 23 48 (.nilck (.t 26)),
 ⟨24,none,.stG 48 (.t 47) 1,none⟩]) (.region [mV 0 49 5,
 oP 1 50 (.bin .add .i64 (.t 49) (kI 3)),
 mV 2 5 50]))))) (.region [oP 0 51 (.bin .add .i64 (.t 15) (kI 1)),
 mV 1 15 51]))))))) (.seq (.seq (.region [mV 0 52 0,
 oP 1 53 (.cmp .neq .i64 (.t 52) (kI 8))]) (.cond (.t 53) (.seq (.region [oP 0 54 (.ldG 4 (.agg [.int .i64,.int .i64,.int .i64,.int .i64,.int .i64,.int .u8])),
 mV 1 55 5,
 ⟨2,none,.stG 4 (.t 54) 6,none⟩,
 mV 3 5 55,
 oP 4 6 (.move (kB true))]) .ret) .skip)) (.seq (.seq (.region [mV 0 56 1,
 oP 1 57 (.len (.t 56)),
 mV 2 58 5,
 oP 3 59 (.cmp .leq .i64 (.t 57) (.t 58))]) (.cond (.t 59) (.seq (.region [oP 0 60 (.ldG 4 (.agg [.int .i64,.int .i64,.int .i64,.int .i64,.int .i64,.int .u8])),
 ⟨1,none,.stG 4 (.t 60) 6,none⟩,
 oP 2 5 (.move (kI 0)),
 oP 3 6 (.move (kB false))]) .ret) .skip)) (.seq (.region [mV 0 61 1,
 mV 1 62 5,
 oP 2 63 (.iaddr (.t 61) (.t 62) 1),
 oP 3 64 (.ldG 63 (.c (.int .u8))),
 oP 4 65 (.faddr 4 5),
 ⟨5,none,.stG 65 (.t 64) 1,none⟩]) (.seq (.region [oP 0 66 (.ldG 4 (.agg [.int .i64,.int .i64,.int .i64,.int .i64,.int .i64,.int .u8])),
 mV 1 67 5,
 oP 2 68 (.bin .add .i64 (.t 67) (kI 1)),
 ⟨3,none,.stG 4 (.t 66) 6,none⟩,
 mV 4 5 68,
 oP 5 6 (.move (kB true))]) .ret))))))) }
end F72
namespace F47
def d:DFn:={ ntmps:=50,res:=[.box 4 (some 3),.t 5,.t 6],body:=(.seq (.region [oP 0 2 (.boxv 48 [11,25,28,38,39,45] (.t 0) 3),
 oP 1 4 (.boxz 49 [] [.int .i64 0,.sl 2 0 0 0,.sl 2 0 0 0]),
 oP 2 5 (.move (kI 0)),
 oP 3 6 (.move (kB false))]) (.seq (.region [oP 0 11 (.faddr 2 1),
 oP 1 12 (.ldL 11 48 (.agg [.sl 2])),
 mV 2 13 1,
 oP 3 14 (.call 81 [.t 12,.t 13] [.c (.int .i64),.c (.bool)]),
 mV 4 10 14,
 oP 5 15 (.ext 10 0),
 oP 6 16 (.ext 10 1),
 mV 7 7 15,
 mV 8 8 16]) (.seq (.seq (.region [mV 0 17 8,
 oP 1 18 (.not (.t 17))]) (.cond (.t 18) (.seq (.region [oP 0 19 (.ldL 2 48 (.agg [.int .i64,.sl 2,.sl 2])),
 oP 1 20 (.call 78 [.t 19] [.agg [.int .i64,.sl 2,.sl 2]]),
 ⟨2,none,.stL 4 49 (.t 20) 3,none⟩,
 oP 3 5 (.move (kI 0)),
 oP 4 6 (.move (kB false))]) .ret) .skip)) (.seq (.region [mV 0 21 7,
 mV 1 22 1,
 oP 2 23 (.conv .u64 (.t 22)),
 oP 3 24 (.bin .shl .i64 (.t 21) (.t 23)),
 oP 4 25 (.faddr 2 0),
 oP 5 26 (.ldL 25 48 (.c (.int .i64))),
 oP 6 27 (.bin .mul .i64 (.t 24) (.t 26)),
 mV 7 9 27]) (.seq (.region [oP 0 28 (.faddr 2 1),
 oP 1 29 (.ldL 28 48 (.agg [.sl 2])),
 mV 2 30 7,
 mV 3 31 1,
 oP 4 32 (.conv .u64 (.t 31)),
 oP 5 33 (.bin .shl .i64 (.t 30) (.t 32)),
 mV 6 34 1,
 oP 7 35 (.conv .u64 (.t 34)),
 oP 8 36 (.bin .shl .i64 (kI 1) (.t 35)),
 oP 9 37 (.call 79 [.t 29,.t 33,.t 36,.k (.c (.bool true))] [.agg [.sl 2]]),
 oP 10 38 (.faddr 2 1),
 ⟨11,none,.stL 38 48 (.t 37) 1,none⟩]) (.seq (.region [oP 0 39 (.faddr 2 2),
 oP 1 40 (.ldL 39 48 (.c (.sl 2))),
 mV 2 41 9,
 mV 3 42 1,
 oP 4 43 (.build (zI 2) [(0,1,.t 41),(1,1,.t 42)]),
 oP 5 44 (.call 82 [.t 40,.t 43] [.c (.sl 2)]),
 oP 6 45 (.faddr 2 2),
 ⟨7,none,.stL 45 48 (.t 44) 1,none⟩]) (.seq (.region [oP 0 46 (.ldL 2 48 (.agg [.int .i64,.sl 2,.sl 2])),
 mV 1 47 9,
 ⟨2,none,.stL 4 49 (.t 46) 3,none⟩,
 mV 3 5 47,
 oP 4 6 (.move (kB true))]) .ret))))))) }
def f (M:Mach) (C:Call) (d:Int) (h i j o p q:Nat) (b:Int) (G:GH):Option Res:=(C F38.id [.agg [.sl 2 h i j],.c (.int .i64 b)] G).bind fun e=>(((e.1[0]?).bind V1.c?).bind (Cell.asI .i64)).bind fun r=>(((e.1[1]?).bind V1.c?).bind Cell.asB).bind fun y=>bif (!y) then (C F56.id [.agg [.int .i64 d,.sl 2 h i j,.sl 2 o p q]] e.2).bind fun s=>((s.1[0]?).bind V1.a?).bind fun g=>if g.length=3 then (((g[0]?).bind (Cell.asI .i64)).bind fun z=>((g[1]?).bind (Cell.asS 2)).bind fun k=>((g[2]?).bind (Cell.asS 2)).bind fun l=>some ([.agg [.int .i64 z,.sl 2 k.1 k.2.1 k.2.2,.sl 2 l.1 l.2.1 l.2.2],.c (.int .i64 0),.c (.bool false)],s.2)) else none else (binD .shl .i64 r (IntKind.u64.wrap b)).bind fun t=>(binD .shl .i64 r (IntKind.u64.wrap b)).bind fun A=>(binD .shl .i64 1 (IntKind.u64.wrap b)).bind fun B=>(C F67.id [.agg [.sl 2 h i j],.c (.int .i64 A),.c (.int .i64 B),.c (.bool true)] e.2).bind fun v=>((v.1[0]?).bind V1.a?).bind fun w=>if w.length=1 then (((w[0]?).bind (Cell.asS 2)).bind fun m=>(C F80.id [.c (.sl 2 o p q),.agg [.int .i64 (IntKind.i64.wrap (t*d)),.int .i64 b]] v.2).bind fun x=>(((x.1[0]?).bind V1.c?).bind (Cell.asS 2)).bind fun n=>some ([.agg [.int .i64 d,.sl 2 m.1 m.2.1 m.2.2,.sl 2 n.1 n.2.1 n.2.2],.c (.int .i64 (IntKind.i64.wrap (t*d))),.c (.bool true)],x.2)) else none
theorem eq (a:Int) (b e g h i j:Nat) (k:Int) (G:GH):runF M C d [.agg [.int .i64 a,.sl 2 b e g,.sl 2 h i j],.c (.int .i64 k)] G=f M C a b e g h i j k G:=by kernel_rfl
end F47
namespace F75
def c6:DCode:=(.cond (.t 9) (.seq (.region [oP 0 10 (.ldL 2 28 (.agg [.int .i64,.sl 1])),
 ⟨1,none,.stL 2 28 (.t 10) 2,none⟩]) .ret) .skip)
def c21:DCode:=(.seq (.block 1 (.seq (.region [oP 0 18 (.faddr 2 1),
 oP 1 19 (.ldL 18 28 (.c (.sl 1))),
 mV 2 20 3,
 oP 3 21 (.call 71 [.t 20] [.c (.sl 1)]),
 oP 4 22 (.bslice 1 1 [.sl 1 0 0 0] [(0,1,.t 21)]),
 oP 5 23 (.app (.t 19) (.t 22) 1 24),
 oP 6 24 (.faddr 2 1),
 ⟨7,none,.stL 24 28 (.t 23) 1,none⟩]) (.seq (.region [mV 0 25 3,
 oP 1 26 (.cmp .leq .i64 (.t 25) (kI 64))]) (.cond (.t 26) (.seq (.region [oP 0 27 (.ldL 2 28 (.agg [.int .i64,.sl 1])),
 ⟨1,none,.stL 2 28 (.t 27) 2,none⟩]) .ret) .skip)))) (.region [mV 0 14 3,
 oP 1 15 (.bin .sub .i64 (.t 14) (kI 1)),
 oP 2 16 (.bin .quo .i64 (.t 15) (kI 64)),
 oP 3 17 (.bin .add .i64 (.t 16) (kI 1)),
 mV 4 3 17]))
def c25:DCode:=(.seq (.region [mV 0 11 0,
 oP 1 12 (.faddr 2 0),
 ⟨2,none,.stL 12 28 (.t 11) 1,none⟩]) (.seq (.region [mV 0 13 0,
 mV 1 3 13]) (.block 0 (.loop [2,3,28] c21))))
def d:DFn:={ ntmps:=29,res:=[.box 2 (some 2)],body:=(.seq (.region [oP 0 2 (.boxz 28 [12,18,24] [.int .i64 0,.sl 1 0 0 0])]) (.seq (.seq (.region [mV 0 4 0,
 oP 1 5 (.cmp .lss .i64 (.t 4) (kI 1)),
 mV 2 6 5,
 ⟨3,some 7,.move (.t 0),some (6,false)⟩,
 ⟨4,some 8,.cmp .gtr .i64 (.t 7) (kI 65536),some (6,false)⟩,
 oP 5 9 (.pick (.t 6) (kB true) (.t 8))]) (.cut [0,2,9,28] c6)) c25)) }
def k25:Kont:=execC M.j C (M.ag C) c25 ({ exits:=[],ret:=retK d }:Env) (retK d)
def J6 (a:Int) (b:Bool) (c:Int) (e f g:Nat) (G:GH):Option Res:=M.j (execC M.j C (M.ag C) c6 ({ exits:=[],ret:=retK d }:Env) (k25 M C)) (vI a::(uS 1 (.ref 28 0::(uS 6 (vB b::(uS 18 (.box [.int .i64 c,.sl 1 e f g]::[]))))))) G
def e23 (M:Mach) (C:Call):Env:={ exits:=(0,(retK d))::(({ exits:=[],ret:=retK d }:Env)).exits,ret:=(({ exits:=[],ret:=retK d }:Env)).ret }
def L22 (a b:Int) (c e f:Nat) (G:GH):Option Res:=M.ag C [2,3,28] c21 (e23 M C) (retK d) (uS 2 (.ref 28 0::(vI a::(uS 24 (.box [.int .i64 b,.sl 1 c e f]::[]))))) G
theorem J6_eq (a:Int) (e:Bool) (f:Int) (b c d:Nat) (G:GH):J6 M C a e f b c d G=(bif e then some ([.agg [.int .i64 f,.sl 1 b c d]],G) else L22 M C a a b c d G):=(M.hj _ _ _).trans (by kernel_rfl)
theorem L22_eq (d e:Int) (h i b:Nat) (G:GH):L22 M C d e h i b G=((C F53.id [.c (.int .i64 d)] G).bind fun f=>(((f.1[0]?).bind V1.c?).bind (Cell.asS 1)).bind fun g=>let j:=f.2.alloc (.row [.sl 1 g.1 g.2.1 g.2.2] false);(if 1=0 then some [] else j.lds f.2.next 0 (1*1)).bind fun k=>guardK (decide (b+1≤most)) ((j.app h i b 1 1 k).bind fun a=>bif decide (d≤64) then some ([.agg [.int .i64 e,.sl 1 a.1 a.2.1 (b+1)]],a.2.2) else L22 M C (IntKind.i64.wrap ((IntKind.i64.wrap (Int.tdiv (IntKind.i64.wrap (d-1)) 64))+1)) e a.1 a.2.1 (b+1) a.2.2)):=(M.hs _ _ _ _ _ _ _).trans (by kernel_rfl)
def f (a:Int) (G:GH):Option Res:=bif decide (a<1) then J6 M C a true 0 0 0 0 G else J6 M C a (decide (a>65536)) 0 0 0 0 G
theorem eq (a:Int) (G:GH):runF M C d [.c (.int .i64 a)] G=f M C a G:=by kernel_rfl
end F75
namespace F8
def c6:DCode:=(.cond (.t 18) (.seq (.region [oP 0 4 (.move (kI 0))]) .ret) .skip)
def c12:DCode:=(.seq (.region [mV 0 19 0,
 oP 1 20 (.nilck (.t 19)),
 oP 2 21 (.faddr 20 1),
 oP 3 22 (.ldG 21 (.c (.int .i64))),
 oP 4 23 (.bin .add .i64 (.t 22) (kI 1)),
 oP 5 24 (.nilck (.t 19)),
 oP 6 25 (.faddr 24 1),
 ⟨7,none,.stG 25 (.t 23) 1,none⟩]) (.seq (.region [mV 0 26 0,
 oP 1 27 (.nilck (.t 26)),
 oP 2 28 (.faddr 27 0),
 oP 3 29 (.ldG 28 (.c (.sl 1))),
 mV 4 30 0,
 oP 5 31 (.nilck (.t 30)),
 oP 6 32 (.faddr 31 1),
 oP 7 33 (.ldG 32 (.c (.int .i64))),
 oP 8 34 (.bin .sub .i64 (.t 33) (kI 1)),
 oP 9 35 (.iaddr (.t 29) (.t 34) 1),
 oP 10 36 (.ldG 35 (.c (.int .u8))),
 oP 11 37 (.conv .i64 (.t 36)),
 mV 12 38 1,
 oP 13 39 (.bin .rem .i64 (.t 37) (.t 38)),
 mV 14 4 39]) .ret))
def d:DFn:={ ntmps:=40,res:=[.t 4],body:=(.seq (.region [oP 0 4 (.move (kI 0))]) (.seq (.seq (.region [mV 0 5 0,
 oP 1 6 (.nilck (.t 5)),
 oP 2 7 (.faddr 6 1),
 oP 3 8 (.ldG 7 (.c (.int .i64))),
 mV 4 9 0,
 oP 5 10 (.nilck (.t 9)),
 oP 6 11 (.faddr 10 0),
 oP 7 12 (.ldG 11 (.c (.sl 1))),
 oP 8 13 (.len (.t 12)),
 oP 9 14 (.cmp .geq .i64 (.t 8) (.t 13)),
 mV 10 15 14,
 ⟨11,some 16,.move (.t 1),some (15,false)⟩,
 ⟨12,some 17,.cmp .lss .i64 (.t 16) (kI 1),some (15,false)⟩,
 oP 13 18 (.pick (.t 15) (kB true) (.t 17))]) (.cut [0,1,18] c6)) c12)) }
def k12:Kont:=execC M.j C (M.ag C) c12 ({ exits:=[],ret:=retK d }:Env) (retK d)
def J6 (a b:Nat) (c:Int) (e:Bool) (G:GH):Option Res:=M.j (execC M.j C (M.ag C) c6 ({ exits:=[],ret:=retK d }:Env) (k12 M C)) (vP a b::(vI c::(uS 16 (vB e::(uS 21 []))))) G
theorem J6_eq (a b:Nat) (g:Int) (h:Bool) (G:GH):J6 M C a b g h G=(bif h then some ([.c (.int .i64 0)],G) else guardK (!Nat.beq a 0) (((G.ld a (b+1)).bind (Cell.asI .i64)).bind fun i=>guardK (!Nat.beq a 0) ((G.sts a (b+1) [.int .i64 (IntKind.i64.wrap (i+1))]).bind fun d=>guardK (!Nat.beq a 0) (((d.ld a (b+0)).bind (Cell.asS 1)).bind fun e=>guardK (!Nat.beq a 0) (((d.ld a (b+1)).bind (Cell.asI .i64)).bind fun f=>guardK (decide (0≤IntKind.i64.wrap (f-1)∧IntKind.i64.wrap (f-1)<((e.2.2:Nat):Int))) (((d.ld e.1 (e.2.1+Int.toNat (IntKind.i64.wrap (f-1))*1)).bind (Cell.asI .u8)).bind fun j=>(binD .rem .i64 (IntKind.i64.wrap j) g).bind fun k=>some ([.c (.int .i64 k)],d))))))):=(M.hj _ _ _).trans (by kernel_rfl)
def f (a b:Nat) (c:Int) (G:GH):Option Res:=guardK (!Nat.beq a 0) (((G.ld a (b+1)).bind (Cell.asI .i64)).bind fun d=>guardK (!Nat.beq a 0) (((G.ld a (b+0)).bind (Cell.asS 1)).bind fun e=>bif decide (d≥((e.2.2:Nat):Int)) then J6 M C a b c true G else J6 M C a b c (decide (c<1)) G))
theorem eq (a b:Nat) (e:Int) (G:GH):runF M C d [.c (.ptr a b),.c (.int .i64 e)] G=f M C a b e G:=by kernel_rfl
end F8
namespace F18
def c12:DCode:=(.seq (.seq (.region [mV 0 23 8,
 mV 1 24 7,
 mV 2 25 0,
 oP 3 26 (.nilck (.t 25)),
 oP 4 27 (.faddr 26 15),
 oP 5 28 (.ldG 27 (.c (.sl 1))),
 oP 6 29 (.len (.t 28)),
 oP 7 30 (.mn (.t 24) [.t 29]),
 oP 8 31 (.cmp .lss .i64 (.t 23) (.t 30))]) (.cond (.t 31) .skip (.exit 0))) (.seq (.block 1 (.region [mV 0 34 0,
 oP 1 35 (.nilck (.t 34)),
 oP 2 36 (.faddr 35 15),
 oP 3 37 (.ldG 36 (.c (.sl 1))),
 mV 4 38 8,
 oP 5 39 (.iaddr (.t 37) (.t 38) 1),
 oP 6 40 (.ldG 39 (.c (.int .i64))),
 mV 7 41 2,
 oP 8 42 (.bin .add .i64 (.t 40) (.t 41)),
 oP 9 43 (.iaddr (.t 37) (.t 38) 1),
 ⟨10,none,.stG 43 (.t 42) 1,none⟩])) (.region [mV 0 32 8,
 oP 1 33 (.bin .add .i64 (.t 32) (kI 1)),
 mV 2 8 33])))
def d:DFn:={ ntmps:=45,res:=[],body:=(.seq (.region [oP 0 4 (.boxv 44 [15,17] (.t 1) 3)]) (.seq (.region [mV 0 10 0,
 oP 1 11 (.nilck (.t 10)),
 oP 2 12 (.faddr 11 0),
 oP 3 13 (.faddr 12 4),
 oP 4 14 (.ldG 13 (.c (.int .i64))),
 oP 5 15 (.faddr 4 0),
 oP 6 16 (.ldL 15 44 (.c (.int .i64))),
 oP 7 17 (.faddr 4 1),
 oP 8 18 (.ldL 17 44 (.c (.int .i64))),
 oP 9 19 (.call 74 [.t 14,.t 16,.t 18] [.c (.int .i64),.c (.int .i64)]),
 mV 10 9 19,
 oP 11 20 (.ext 9 0),
 oP 12 21 (.ext 9 1),
 mV 13 6 20,
 mV 14 7 21]) (.seq (.region [mV 0 22 6,
 mV 1 8 22]) (.block 0 (.loop [0,2,7,8] c12))))) }
def e14 (M:Mach) (C:Call):Env:={ exits:=(0,(retK d))::(({ exits:=[],ret:=retK d }:Env)).exits,ret:=(({ exits:=[],ret:=retK d }:Env)).ret }
def L13 (a b:Nat) (c e f:Int) (G:GH):Option Res:=M.ag C [0,2,7,8] c12 (e14 M C) (retK d) (vP a b::(uS 1 (vI c::(uS 4 (vI e::(vI f::(uS 36 []))))))) G
theorem L13_eq (b d:Nat) (e f a:Int) (G:GH):L13 M C b d e f a G=(guardK (!Nat.beq b 0) (((G.ld b (d+15)).bind (Cell.asS 1)).bind fun g=>bif decide (a<mn2 f ((g.2.2:Nat):Int)) then guardK (!Nat.beq b 0) (((G.ld b (d+15)).bind (Cell.asS 1)).bind fun c=>guardK (decide (0≤a∧a<((c.2.2:Nat):Int))) (((G.ld c.1 (c.2.1+Int.toNat a*1)).bind (Cell.asI .i64)).bind fun h=>guardK (decide (0≤a∧a<((c.2.2:Nat):Int))) ((G.sts c.1 (c.2.1+Int.toNat a*1) [.int .i64 (IntKind.i64.wrap (h+e))]).bind fun i=>L13 M C b d e f (IntKind.i64.wrap (a+1)) i))) else some ([],G))):=(M.hs _ _ _ _ _ _ _).trans (by kernel_rfl)
def f (a d:Nat) (e g l h:Int) (G:GH):Option Res:=guardK (!Nat.beq a 0) (((G.ld a ((d+0)+4)).bind (Cell.asI .i64)).bind fun i=>(C F64.id [.c (.int .i64 i),.c (.int .i64 e),.c (.int .i64 g)] G).bind fun b=>(((b.1[0]?).bind V1.c?).bind (Cell.asI .i64)).bind fun j=>(((b.1[1]?).bind V1.c?).bind (Cell.asI .i64)).bind fun k=>L13 M C a d h k j b.2)
theorem eq (a b:Nat) (e g h i:Int) (G:GH):runF M C d [.c (.ptr a b),.agg [.int .i64 e,.int .i64 g,.int .i64 h],.c (.int .i64 i)] G=f M C a b e g h i G:=by kernel_rfl
end F18
namespace F63
def c15:DCode:=(.cond (.t 37) (.seq (.region [oP 0 8 (.move (kI 0)),
 oP 1 9 (.move (kI 5))]) .ret) .skip)
def c20:DCode:=(.seq (.region [mV 0 38 10,
 mV 1 8 38,
 oP 2 9 (.move (kI 0))]) .ret)
def d:DFn:={ ntmps:=40,res:=[.t 8,.t 9],body:=(.seq (.region [oP 0 4 (.boxv 39 [34] (.t 0) 8),
 oP 1 8 (.move (kI 0)),
 oP 2 9 (.move (kI 0))]) (.seq (.region [oP 0 15 (.ldL 4 39 (.agg (iS 8))),
 mV 1 16 2,
 mV 2 17 3,
 oP 3 18 (.call 60 [.t 15,.t 16,.t 17] [.c (.int .i64),.c (.int .i64)]),
 mV 4 14 18,
 oP 5 19 (.ext 14 0),
 oP 6 20 (.ext 14 1),
 mV 7 10 19,
 mV 8 11 20]) (.seq (.seq (.region [mV 0 21 11,
 oP 1 22 (.cmp .neq .i64 (.t 21) (kI 0))]) (.cond (.t 22) (.seq (.region [mV 0 23 11,
 oP 1 8 (.move (kI 0)),
 mV 2 9 23]) .ret) .skip)) (.seq (.seq (.region [mV 0 25 1,
 mV 1 26 10,
 oP 2 27 (.call 53 [.t 25,.t 26] [.c (.int .i64),.c (.bool)]),
 mV 3 24 27,
 oP 4 28 (.ext 24 0),
 oP 5 29 (.ext 24 1),
 mV 6 12 28,
 mV 7 13 29]) (.seq (.region [mV 0 30 13,
 oP 1 31 (.not (.t 30)),
 mV 2 32 31,
 ⟨3,some 33,.move (.t 12),some (32,false)⟩,
 ⟨4,some 34,.faddr 4 2,some (32,false)⟩,
 ⟨5,some 35,.ldL 34 39 (.c (.int .i64)),some (32,false)⟩,
 ⟨6,some 36,.cmp .gtr .i64 (.t 33) (.t 35),some (32,false)⟩,
 oP 7 37 (.pick (.t 32) (kB true) (.t 36))]) (.cut [10,37] c15))) c20)))) }
def k20:Kont:=execC M.j C (M.ag C) c20 ({ exits:=[],ret:=retK d }:Env) (retK d)
def J15 (a:Int) (b:Bool) (G:GH):Option Res:=M.j (execC M.j C (M.ag C) c15 ({ exits:=[],ret:=retK d }:Env) (k20 M C)) (uS 10 (vI a::(uS 26 (vB b::(uS 2 []))))) G
theorem J15_eq (a:Int) (b:Bool) (G:GH):J15 M C a b G=(bif b then some ([.c (.int .i64 0),.c (.int .i64 5)],G) else some ([.c (.int .i64 a),.c (.int .i64 0)],G)):=(M.hj _ _ _).trans (by kernel_rfl)
def f (h i e j k l m n o p q:Int) (G:GH):Option Res:=(C F36.id [.agg [.int .i64 h,.int .i64 i,.int .i64 e,.int .i64 j,.int .i64 k,.int .i64 l,.int .i64 m,.int .i64 n],.c (.int .i64 p),.c (.int .i64 q)] G).bind fun a=>(((a.1[0]?).bind V1.c?).bind (Cell.asI .i64)).bind fun d=>(((a.1[1]?).bind V1.c?).bind (Cell.asI .i64)).bind fun g=>bif (!decide (g=0)) then some ([.c (.int .i64 0),.c (.int .i64 g)],a.2) else (C F73.id [.c (.int .i64 o),.c (.int .i64 d)] a.2).bind fun b=>(((b.1[0]?).bind V1.c?).bind (Cell.asI .i64)).bind fun r=>(((b.1[1]?).bind V1.c?).bind Cell.asB).bind fun s=>bif (!s) then J15 M C d true b.2 else J15 M C d (decide (r>e)) b.2
theorem eq (a b e g h i j k l m n:Int) (G:GH):runF M C d [.agg [.int .i64 a,.int .i64 b,.int .i64 e,.int .i64 g,.int .i64 h,.int .i64 i,.int .i64 j,.int .i64 k],.c (.int .i64 l),.c (.int .i64 m),.c (.int .i64 n)] G=f M C a b e g h i j k l m n G:=by kernel_rfl
end F63
namespace F46
def c22:DCode:=(.region [mV 0 8 3,
 oP 1 9 (.bin .shr .u64 (.t 8) (.k (.c (.int .u64 1)))),
 mV 2 3 9])
def c24:DCode:=(.seq (.seq (.region [mV 0 6 3,
 oP 1 7 (.cmp .gtr .u64 (.t 6) (.k (.c (.int .u64 0))))]) (.cond (.t 7) .skip (.exit 0))) (.seq (.block 1 (.seq (.region [mV 0 10 0,
 mV 1 11 3,
 oP 2 12 (.bin .shl .u64 (.k (.c (.int .u64 1))) (.t 11)),
 oP 3 13 (.bin .sub .u64 (.t 12) (.k (.c (.int .u64 1)))),
 oP 4 14 (.bin .and .u64 (.t 10) (.t 13)),
 oP 5 15 (.cmp .eql .u64 (.t 14) (.k (.c (.int .u64 0))))]) (.cond (.t 15) (.seq (.region [mV 0 16 0,
 mV 1 17 3,
 oP 2 18 (.bin .shr .u64 (.t 16) (.t 17)),
 mV 3 0 18]) (.region [mV 0 19 2,
 mV 1 20 3,
 oP 2 21 (.conv .i64 (.t 20)),
 oP 3 22 (.bin .add .i64 (.t 19) (.t 21)),
 mV 4 2 22])) .skip))) (.cut [0,2,3] c22)))
def c25:DCode:=(.loop [0,2,3] c24)
def c30:DCode:=(.seq (.region [mV 0 23 2,
 mV 1 2 23]) .ret)
def d:DFn:={ ntmps:=24,res:=[.t 2],body:=(.seq (.region [oP 0 2 (.move (kI 0))]) (.seq (.seq (.region [mV 0 4 0,
 oP 1 5 (.cmp .eql .u64 (.t 4) (.k (.c (.int .u64 0))))]) (.cond (.t 5) (.seq (.region [oP 0 2 (.move (kI 64))]) .ret) .skip)) (.seq (.seq (.region [oP 0 3 (.move (.k (.c (.int .u64 32))))]) (.block 0 c25)) c30))) }
def k30:Kont:=execC M.j C (M.ag C) c30 ({ exits:=[],ret:=retK d }:Env) (retK d)
def e26:Env:={ exits:=(0,(k30 M C))::(({ exits:=[],ret:=retK d }:Env)).exits,ret:=(({ exits:=[],ret:=retK d }:Env)).ret }
def L25 (a b d:Int) (G:GH):Option Res:=M.ag C [0,2,3] c24 (e26 M C) (k30 M C) (.v (.c (.int .u64 a))::(uS 1 (vI b::(.v (.c (.int .u64 d))::(uS 20 []))))) G
def k25:Kont:=fun tm G=>M.ag C [0,2,3] c24 (e26 M C) (k30 M C) (restr [0,2,3] 0 tm) G
def J22 (a b d:Int) (G:GH):Option Res:=M.j (execC M.j C (M.ag C) c22 (e26 M C) (k25 M C)) (.v (.c (.int .u64 a))::(uS 1 (vI b::(.v (.c (.int .u64 d))::(uS 20 []))))) G
theorem L25_eq (b d a:Int) (G:GH):L25 M C b d a G=(bif decide (a>0) then (binD .shl .u64 1 a).bind fun e=>bif decide (IntKind.u64.wrap (((BitVec.ofInt IntKind.u64.bits b) &&& (BitVec.ofInt IntKind.u64.bits (IntKind.u64.wrap (e-1)))).toNat:Int)=0) then (binD .shr .u64 b a).bind fun f=>J22 M C f (IntKind.i64.wrap (d+(IntKind.i64.wrap a))) a G else J22 M C b d a G else some ([.c (.int .i64 d)],G)):=(M.hs _ _ _ _ _ _ _).trans (by kernel_rfl)
theorem J22_eq (a b c:Int) (G:GH):J22 M C a b c G=(L25 M C a b (Int.fdiv c (2 ^ (min (1:Int).toNat IntKind.u64.bits))) G):=(M.hj _ _ _).trans (by kernel_rfl)
def f (a:Int) (G:GH):Option Res:=bif decide (a=0) then some ([.c (.int .i64 64)],G) else L25 M C a 0 32 G
theorem eq (a:Int) (G:GH):runF M C d [.c (.int .u64 a)] G=f M C a G:=by kernel_rfl
end F46
namespace F43
def c12:DCode:=(.cond (.t 16) (.seq (.region [oP 0 2 (.move (kB false))]) .ret) .skip)
def c16:DCode:=(.region [oP 0 17 (.bin .add .i64 (.t 7) (kI 1)),
 mV 1 7 17])
def c19:DCode:=(.seq (.region [oP 0 8 (.cmp .lss .i64 (.t 7) (.t 6))]) (.seq (.cond (.t 8) .skip (.exit 0)) (.seq (.block 1 (.seq (.region [oP 0 9 (.iaddr (.t 5) (.t 7) 1),
 oP 1 10 (.ldG 9 (.c (.int .i64))),
 mV 2 4 10]) (.seq (.region [mV 0 11 4,
 oP 1 12 (.cmp .lss .i64 (.t 11) (kI 1)),
 mV 2 13 12,
 ⟨3,some 14,.move (.t 4),some (13,false)⟩,
 ⟨4,some 15,.cmp .gtr .i64 (.t 14) (kI 65536),some (13,false)⟩,
 oP 5 16 (.pick (.t 13) (kB true) (.t 15))]) (.cut [5,6,7,16] c12)))) c16)))
def c20:DCode:=(.loop [5,6,7] c19)
def c25:DCode:=(.seq (.region [oP 0 2 (.move (kB true))]) .ret)
def d:DFn:={ ntmps:=18,res:=[.t 2],body:=(.seq (.region [oP 0 2 (.move (kB false))]) (.seq (.seq (.region [mV 0 5 0,
 oP 1 6 (.len (.t 5)),
 oP 2 7 (.move (kI 0))]) (.block 0 c20)) c25)) }
def k25:Kont:=execC M.j C (M.ag C) c25 ({ exits:=[],ret:=retK d }:Env) (retK d)
def e21:Env:={ exits:=(0,(k25 M C))::(({ exits:=[],ret:=retK d }:Env)).exits,ret:=(({ exits:=[],ret:=retK d }:Env)).ret }
def L20 (a b c:Nat) (d e:Int) (G:GH):Option Res:=M.ag C [5,6,7] c19 (e21 M C) (k25 M C) (uS 5 (vS 1 a b c::(vI d::(vI e::(uS 10 []))))) G
def k20:Kont:=fun tm G=>M.ag C [5,6,7] c19 (e21 M C) (k25 M C) (restr [5,6,7] 0 tm) G
def k16:Kont:=execC M.j C (M.ag C) c16 (e21 M C) (k20 M C)
def e15:Env:={ exits:=(1,(k16 M C))::((e21 M C)).exits,ret:=((e21 M C)).ret }
def J12 (a b c:Nat) (d e:Int) (f:Bool) (G:GH):Option Res:=M.j (execC M.j C (M.ag C) c12 (e15 M C) (k16 M C)) (uS 5 (vS 1 a b c::(vI d::(vI e::(uS 8 (vB f::(uS 1 []))))))) G
theorem L20_eq (b d e:Nat) (f a:Int) (G:GH):L20 M C b d e f a G=(bif decide (a<f) then guardK (decide (0≤a∧a<((e:Nat):Int))) (((G.ld b (d+Int.toNat a*1)).bind (Cell.asI .i64)).bind fun g=>bif decide (g<1) then J12 M C b d e f a true G else J12 M C b d e f a (decide (g>65536)) G) else some ([.c (.bool true)],G)):=(M.hs _ _ _ _ _ _ _).trans (by kernel_rfl)
theorem J12_eq (a b d:Nat) (e f:Int) (g:Bool) (G:GH):J12 M C a b d e f g G=(bif g then some ([.c (.bool false)],G) else L20 M C a b d e (IntKind.i64.wrap (f+1)) G):=(M.hj _ _ _).trans (by kernel_rfl)
def f (b c a:Nat) (G:GH):Option Res:=L20 M C b c a ((a:Nat):Int) 0 G
theorem eq (a b e:Nat) (G:GH):runF M C d [.c (.sl 1 a b e)] G=f M C a b e G:=by kernel_rfl
end F43
namespace F42
def d:DFn:={ ntmps:=59,res:=[.pt 2 (some 6),.t 3,.t 4],body:=(.seq (.region [oP 0 2 (.newz (zI 6)),
 oP 1 3 (.move (.k (.c (.sl 6 0 0 0)))),
 oP 2 4 (.move (kB false))]) (.seq (.seq (.region [mV 0 7 0,
 oP 1 8 (.len (.t 7)),
 oP 2 9 (.cmp .lss .i64 (.t 8) (kI 16))]) (.cond (.t 9) (.seq (.region [oP 0 10 (.ldG 2 (.agg (iS 6))),
 ⟨1,none,.stG 2 (.t 10) 6,none⟩,
 oP 2 3 (.move (.k (.c (.sl 6 0 0 0)))),
 oP 3 4 (.move (kB false))]) .ret) .skip)) (.seq (.seq (.region [oP 0 11 (.faddr 2 0),
 oP 1 12 (.faddr 2 1),
 oP 2 13 (.faddr 2 2),
 oP 3 14 (.faddr 2 3),
 oP 4 15 (.faddr 2 4),
 oP 5 16 (.bslice 5 1 [.ptr 0 0,.ptr 0 0,.ptr 0 0,.ptr 0 0,.ptr 0 0] [(0,1,.t 11),(1,1,.t 12),(2,1,.t 13),(3,1,.t 14),(4,1,.t 15)]),
 oP 6 17 (.len (.t 16)),
 oP 7 18 (.move (kI 0))]) (.block 0 (.loop [0,2,16,17,18] (.seq (.region [oP 0 19 (.cmp .lss .i64 (.t 18) (.t 17))]) (.seq (.cond (.t 19) .skip (.exit 0)) (.seq (.block 1 (.seq (.region [mV 0 20 18,
 oP 1 21 (.iaddr (.t 16) (.t 18) 1),
 oP 2 22 (.ldG 21 (.c (.ptr))),
 mV 3 5 20,
 mV 4 6 22]) (.region [mV 0 23 6,
 mV 1 24 0,
 mV 2 25 5,
 oP 3 26 (.bin .mul .i64 (kI 3) (.t 25)),
 oP 4 27 (.iaddr (.t 24) (.t 26) 1),
 oP 5 28 (.ldG 27 (.c (.int .u8))),
 oP 6 29 (.conv .i64 (.t 28)),
 oP 7 30 (.bin .shl .i64 (.t 29) (.k (.c (.int .u64 16)))),
 mV 8 31 0,
 mV 9 32 5,
 oP 10 33 (.bin .mul .i64 (kI 3) (.t 32)),
 oP 11 34 (.bin .add .i64 (.t 33) (kI 1)),
 oP 12 35 (.iaddr (.t 31) (.t 34) 1),
 oP 13 36 (.ldG 35 (.c (.int .u8))),
 oP 14 37 (.conv .i64 (.t 36)),
 oP 15 38 (.bin .shl .i64 (.t 37) (.k (.c (.int .u64 8)))),
 oP 16 39 (.bin .or .i64 (.t 30) (.t 38)),
 mV 17 40 0,
 mV 18 41 5,
 oP 19 42 (.bin .mul .i64 (kI 3) (.t 41)),
 oP 20 43 (.bin .add .i64 (.t 42) (kI 2)),
 oP 21 44 (.iaddr (.t 40) (.t 43) 1),
 oP 22 45 (.ldG 44 (.c (.int .u8))),
 oP 23 46 (.conv .i64 (.t 45)),
 oP 24 47 (.bin .or .i64 (.t 39) (.t 46)),
 oP 25 48 (.nilck (.t 23)),
 ⟨26,none,.stG 48 (.t 47) 1,none⟩]))) (.region [oP 0 49 (.bin .add .i64 (.t 18) (kI 1)),
 mV 1 18 49]))))))) (.seq (.region [mV 0 50 0,
 oP 1 51 (.iaddr (.t 50) (kI 15) 1),
 oP 2 52 (.ldG 51 (.c (.int .u8))),
 oP 3 53 (.conv .i64 (.t 52)),
 oP 4 54 (.faddr 2 5),
 ⟨5,none,.stG 54 (.t 53) 1,none⟩]) (.seq (.region [oP 0 55 (.ldG 2 (.agg (iS 6))),
 mV 1 56 0,
 oP 2 57 (.slice (.t 56) (some (kI 16)) none 1),
 oP 3 58 (.call 57 [.t 57] [.c (.sl 6)]),
 ⟨9999,none,.reG 55 2 (.agg (iS 6)),none⟩,
 ⟨4,none,.stG 2 (.t 55) 6,none⟩,
 mV 5 3 58,
 oP 6 4 (.move (kB true))]) .ret))))) }
end F42
namespace F65
def c14:DCode:=(.seq (.region [oP 0 13 (.cmp .lss .i64 (.t 12) (.t 11))]) (.seq (.cond (.t 13) .skip (.exit 0)) (.seq (.block 1 (.seq (.region [mV 0 14 12,
 oP 1 15 (.iaddr (.t 10) (.t 12) 1),
 oP 2 16 (.ldG 15 (.c (.sl 1))),
 mV 3 3 14,
 mV 4 4 16]) (.region [oP 0 17 (.faddr 1 1),
 oP 1 18 (.ldL 17 25 (.c (.sl 1))),
 mV 2 19 3,
 mV 3 20 4,
 oP 4 21 (.call 104 [.t 20] [.c (.sl 1)]),
 oP 5 22 (.iaddr (.t 18) (.t 19) 1),
 ⟨6,none,.stG 22 (.t 21) 1,none⟩]))) (.region [oP 0 23 (.bin .add .i64 (.t 12) (kI 1)),
 mV 1 12 23]))))
def c20:DCode:=(.seq (.region [oP 0 24 (.ldL 1 25 (.agg [.int .i64,.sl 1])),
 ⟨1,none,.stL 2 26 (.t 24) 2,none⟩]) .ret)
def d:DFn:={ ntmps:=27,res:=[.box 2 (some 2)],body:=(.seq (.region [oP 0 1 (.boxv 25 [5,8,9,17] (.t 0) 2),
 oP 1 2 (.boxz 26 [] [.int .i64 0,.sl 1 0 0 0])]) (.seq (.region [oP 0 5 (.faddr 1 1),
 oP 1 6 (.ldL 5 25 (.c (.sl 1))),
 oP 2 7 (.call 103 [.t 6] [.c (.sl 1)]),
 oP 3 8 (.faddr 1 1),
 ⟨4,none,.stL 8 25 (.t 7) 1,none⟩]) (.seq (.seq (.region [oP 0 9 (.faddr 1 1),
 oP 1 10 (.ldL 9 25 (.c (.sl 1))),
 oP 2 11 (.len (.t 10)),
 oP 3 12 (.move (kI 0))]) (.block 0 (.loop [1,2,10,11,12,25,26] c14))) c20))) }
def k20:Kont:=execC M.j C (M.ag C) c20 ({ exits:=[],ret:=retK d }:Env) (retK d)
def e16:Env:={ exits:=(0,(k20 M C))::(({ exits:=[],ret:=retK d }:Env)).exits,ret:=(({ exits:=[],ret:=retK d }:Env)).ret }
def L15 (a b c:Nat) (d e f:Int) (g h i:Nat) (j:Int) (k l m:Nat) (G:GH):Option Res:=M.ag C [1,2,10,11,12,25,26] c14 (e16 M C) (k20 M C) (uS 1 (.ref 25 0::(.ref 26 0::(uS 7 (vS 1 a b c::(vI d::(vI e::(uS 12 (.box [.int .i64 f,.sl 1 g h i]::(.box [.int .i64 j,.sl 1 k l m]::[])))))))))) G
theorem L15_eq (f g h:Nat) (i a j:Int) (b d e:Nat) (m:Int) (n o p:Nat) (G:GH):L15 M C f g h i a j b d e m n o p G=(bif decide (a<i) then guardK (decide (0≤a∧a<((h:Nat):Int))) (((G.ld f (g+Int.toNat a*1)).bind (Cell.asS 1)).bind fun k=>(C F4.id [.c (.sl 1 k.1 k.2.1 k.2.2)] G).bind fun q=>(((q.1[0]?).bind V1.c?).bind (Cell.asS 1)).bind fun l=>guardK (decide (0≤a∧a<((e:Nat):Int))) ((q.2.sts b (d+Int.toNat a*1) [.sl 1 l.1 l.2.1 l.2.2]).bind fun r=>L15 M C f g h i (IntKind.i64.wrap (a+1)) j b d e m n o p r)) else some ([.agg [.int .i64 j,.sl 1 b d e]],G)):=(M.hs _ _ _ _ _ _ _).trans (by kernel_rfl)
def f (d:Int) (e g h:Nat) (G:GH):Option Res:=(C F3.id [.c (.sl 1 e g h)] G).bind fun b=>(((b.1[0]?).bind V1.c?).bind (Cell.asS 1)).bind fun a=>L15 M C a.1 a.2.1 a.2.2 ((a.2.2:Nat):Int) 0 d a.1 a.2.1 a.2.2 0 0 0 0 b.2
theorem eq (a:Int) (b c e:Nat) (G:GH):runF M C d [.agg [.int .i64 a,.sl 1 b c e]] G=f M C a b c e G:=by kernel_rfl
end F65
namespace F17
def c14:DCode:=(.seq (.region [oP 0 18 (.cmp .lss .i64 (.t 17) (.t 16))]) (.seq (.cond (.t 18) .skip (.exit 0)) (.seq (.block 1 (.seq (.region [mV 0 19 17,
 oP 1 20 (.iaddr (.t 15) (.t 17) 1),
 oP 2 21 (.ldG 20 (.c (.int .i64))),
 mV 3 4 19,
 mV 4 5 21]) (.region [mV 0 22 3,
 mV 1 23 4,
 mV 2 24 5,
 oP 3 25 (.cmp .gtr .i64 (.t 24) (kI 0)),
 oP 4 26 (.iaddr (.t 22) (.t 23) 1),
 ⟨5,none,.stG 26 (.t 25) 1,none⟩]))) (.region [oP 0 27 (.bin .add .i64 (.t 17) (kI 1)),
 mV 1 17 27]))))
def c20:DCode:=(.seq (.region [mV 0 28 3,
 mV 1 2 28]) .ret)
def d:DFn:={ ntmps:=29,res:=[.t 2],body:=(.seq (.region [oP 0 2 (.move (.k (.c (.sl 1 0 0 0))))]) (.seq (.region [mV 0 6 0,
 oP 1 7 (.nilck (.t 6)),
 oP 2 8 (.faddr 7 15),
 oP 3 9 (.ldG 8 (.c (.sl 1))),
 oP 4 10 (.len (.t 9)),
 oP 5 11 (.mkslice (.t 10) 1 1 [.bool false]),
 mV 6 3 11]) (.seq (.seq (.region [mV 0 12 0,
 oP 1 13 (.nilck (.t 12)),
 oP 2 14 (.faddr 13 15),
 oP 3 15 (.ldG 14 (.c (.sl 1))),
 oP 4 16 (.len (.t 15)),
 oP 5 17 (.move (kI 0))]) (.block 0 (.loop [3,15,16,17] c14))) c20))) }
def k20:Kont:=execC M.j C (M.ag C) c20 ({ exits:=[],ret:=retK d }:Env) (retK d)
def e16:Env:={ exits:=(0,(k20 M C))::(({ exits:=[],ret:=retK d }:Env)).exits,ret:=(({ exits:=[],ret:=retK d }:Env)).ret }
def L15 (a b c d e f:Nat) (g h:Int) (G:GH):Option Res:=M.ag C [3,15,16,17] c14 (e16 M C) (k20 M C) (uS 3 (vS 1 a b c::(uS 11 (vS 1 d e f::(vI g::(vI h::(uS 11 []))))))) G
theorem L15_eq (b d e f g h:Nat) (i a:Int) (G:GH):L15 M C b d e f g h i a G=(bif decide (a<i) then guardK (decide (0≤a∧a<((h:Nat):Int))) (((G.ld f (g+Int.toNat a*1)).bind (Cell.asI .i64)).bind fun j=>guardK (decide (0≤a∧a<((e:Nat):Int))) ((G.sts b (d+Int.toNat a*1) [.bool (decide (j>0))]).bind fun k=>L15 M C b d e f g h i (IntKind.i64.wrap (a+1)) k)) else some ([.c (.sl 1 b d e)],G)):=(M.hs _ _ _ _ _ _ _).trans (by kernel_rfl)
def f (a d:Nat) (G:GH):Option Res:=guardK (!Nat.beq a 0) (((G.ld a (d+15)).bind (Cell.asS 1)).bind fun b=>guardK (decide (0≤((b.2.2:Nat):Int)∧((b.2.2:Nat):Int)≤(most:Int))) (let e:=G.alloc (.row (reps (Int.toNat ((b.2.2:Nat):Int)) [.bool false]) false);guardK (!Nat.beq a 0) (((e.ld a (d+15)).bind (Cell.asS 1)).bind fun c=>L15 M C G.next 0 (Int.toNat ((b.2.2:Nat):Int)) c.1 c.2.1 c.2.2 ((c.2.2:Nat):Int) 0 e)))
theorem eq (a b:Nat) (G:GH):runF M C d [.c (.ptr a b)] G=f M C a b G:=by kernel_rfl
end F17
namespace F74
def c6:DCode:=(.cond (.t 12) (.seq (.region [oP 0 2 (.move (kI 0)),
 oP 1 3 (.move (kB false))]) .ret) .skip)
def c17:DCode:=(.seq (.seq (.region [mV 0 13 0,
 oP 1 14 (.cmp .gtr .i64 (.t 13) (kI 1))]) (.cond (.t 14) .skip (.exit 0))) (.block 1 (.seq (.region [mV 0 15 0,
 oP 1 16 (.bin .shr .i64 (.t 15) (.k (.c (.int .u64 1)))),
 mV 2 0 16]) (.region [mV 0 17 2,
 oP 1 18 (.bin .add .i64 (.t 17) (kI 1)),
 mV 2 2 18]))))
def c22:DCode:=(.seq (.region [mV 0 19 2,
 mV 1 2 19,
 oP 2 3 (.move (kB true))]) .ret)
def c23:DCode:=(.seq (.block 0 (.loop [0,2] c17)) c22)
def d:DFn:={ ntmps:=20,res:=[.t 2,.t 3],body:=(.seq (.region [oP 0 2 (.move (kI 0)),
 oP 1 3 (.move (kB false))]) (.seq (.seq (.region [mV 0 4 0,
 oP 1 5 (.cmp .lss .i64 (.t 4) (kI 1)),
 mV 2 6 5,
 ⟨3,some 7,.move (.t 0),some (6,false)⟩,
 ⟨4,some 8,.move (.t 0),some (6,false)⟩,
 ⟨5,some 9,.bin .sub .i64 (.t 8) (kI 1),some (6,false)⟩,
 ⟨6,some 10,.bin .and .i64 (.t 7) (.t 9),some (6,false)⟩,
 ⟨7,some 11,.cmp .neq .i64 (.t 10) (kI 0),some (6,false)⟩,
 oP 8 12 (.pick (.t 6) (kB true) (.t 11))]) (.cut [0,2,12] c6)) c23)) }
def k23:Kont:=execC M.j C (M.ag C) c23 ({ exits:=[],ret:=retK d }:Env) (retK d)
def J6 (a b:Int) (c:Bool) (G:GH):Option Res:=M.j (execC M.j C (M.ag C) c6 ({ exits:=[],ret:=retK d }:Env) (k23 M C)) (vI a::(uS 1 (vI b::(uS 9 (vB c::(uS 7 [])))))) G
def k22:Kont:=execC M.j C (M.ag C) c22 ({ exits:=[],ret:=retK d }:Env) (retK d)
def e19:Env:={ exits:=(0,(k22 M C))::(({ exits:=[],ret:=retK d }:Env)).exits,ret:=(({ exits:=[],ret:=retK d }:Env)).ret }
def L18 (a b:Int) (G:GH):Option Res:=M.ag C [0,2] c17 (e19 M C) (k22 M C) (vI a::(uS 1 (vI b::(uS 17 [])))) G
theorem J6_eq (a b:Int) (d:Bool) (G:GH):J6 M C a b d G=(bif d then some ([.c (.int .i64 0),.c (.bool false)],G) else L18 M C a b G):=(M.hj _ _ _).trans (by kernel_rfl)
theorem L18_eq (a b:Int) (G:GH):L18 M C a b G=(bif decide (a>1) then L18 M C (Int.fdiv a (2 ^ (min (1:Int).toNat IntKind.i64.bits))) (IntKind.i64.wrap (b+1)) G else some ([.c (.int .i64 b),.c (.bool true)],G)):=(M.hs _ _ _ _ _ _ _).trans (by kernel_rfl)
def f (a:Int) (G:GH):Option Res:=bif decide (a<1) then J6 M C a 0 true G else J6 M C a 0 (!decide (IntKind.i64.wrap (((BitVec.ofInt IntKind.i64.bits a) &&& (BitVec.ofInt IntKind.i64.bits (IntKind.i64.wrap (a-1)))).toNat:Int)=0)) G
theorem eq (a:Int) (G:GH):runF M C d [.c (.int .i64 a)] G=f M C a G:=by kernel_rfl
end F74
namespace F30
def c22:DCode:=(.region [mV 0 8 5,
 oP 1 9 (.bin .add .i64 (.t 8) (kI 1)),
 mV 2 5 9])
def c24:DCode:=(.seq (.seq (.region [mV 0 6 5,
 oP 1 7 (.cmp .lss .i64 (.t 6) (kI 63))]) (.cond (.t 7) .skip (.exit 0))) (.seq (.block 1 (.seq (.seq (.region [mV 0 10 4,
 mV 1 11 0,
 oP 2 12 (.cmp .eql .i64 (.t 10) (.t 11))]) (.cond (.t 12) (.seq (.region [mV 0 13 5,
 mV 1 2 13,
 oP 2 3 (.move (kB true))]) .ret) .skip)) (.seq (.region [mV 0 14 5,
 oP 1 15 (.cmp .lss .i64 (.t 14) (kI 62))]) (.cond (.t 15) (.region [mV 0 16 4,
 oP 1 17 (.bin .mul .i64 (.t 16) (kI 2)),
 mV 2 4 17]) .skip)))) (.cut [0,4,5] c22)))
def c25:DCode:=(.loop [0,4,5] c24)
def c30:DCode:=(.seq (.region [oP 0 2 (.move (kI 0)),
 oP 1 3 (.move (kB false))]) .ret)
def d:DFn:={ ntmps:=18,res:=[.t 2,.t 3],body:=(.seq (.region [oP 0 2 (.move (kI 0)),
 oP 1 3 (.move (kB false))]) (.seq (.region [oP 0 4 (.move (kI 1))]) (.seq (.seq (.region [oP 0 5 (.move (kI 0))]) (.block 0 c25)) c30))) }
def k30:Kont:=execC M.j C (M.ag C) c30 ({ exits:=[],ret:=retK d }:Env) (retK d)
def e26:Env:={ exits:=(0,(k30 M C))::(({ exits:=[],ret:=retK d }:Env)).exits,ret:=(({ exits:=[],ret:=retK d }:Env)).ret }
def L25 (a b c:Int) (G:GH):Option Res:=M.ag C [0,4,5] c24 (e26 M C) (k30 M C) (vI a::(uS 3 (vI b::(vI c::(uS 12 []))))) G
def k25:Kont:=fun tm G=>M.ag C [0,4,5] c24 (e26 M C) (k30 M C) (restr [0,4,5] 0 tm) G
def J22 (a b c:Int) (G:GH):Option Res:=M.j (execC M.j C (M.ag C) c22 (e26 M C) (k25 M C)) (vI a::(uS 3 (vI b::(vI c::(uS 12 []))))) G
theorem L25_eq (b d a:Int) (G:GH):L25 M C b d a G=(bif decide (a<63) then bif decide (d=b) then some ([.c (.int .i64 a),.c (.bool true)],G) else bif decide (a<62) then J22 M C b (IntKind.i64.wrap (d*2)) a G else J22 M C b d a G else some ([.c (.int .i64 0),.c (.bool false)],G)):=(M.hs _ _ _ _ _ _ _).trans (by kernel_rfl)
theorem J22_eq (a b c:Int) (G:GH):J22 M C a b c G=(L25 M C a b (IntKind.i64.wrap (c+1)) G):=(M.hj _ _ _).trans (by kernel_rfl)
def f (a:Int) (G:GH):Option Res:=L25 M C a 1 0 G
theorem eq (a:Int) (G:GH):runF M C d [.c (.int .i64 a)] G=f M C a G:=by kernel_rfl
end F30
namespace F55
def c13:DCode:=(.seq (.region [oP 0 9 (.cmp .lss .i64 (.t 8) (.t 7))]) (.seq (.cond (.t 9) .skip (.exit 0)) (.seq (.block 1 (.seq (.region [oP 0 10 (.iaddr (.t 6) (.t 8) 2),
 oP 1 11 (.ldG 10 (.agg [.int .i64,.sl 1])),
 oP 2 4 (.boxz 23 [] [.int .i64 0,.sl 1 0 0 0]),
 ⟨3,none,.stL 4 23 (.t 11) 2,none⟩]) (.region [oP 0 12 (.faddr 2 0),
 oP 1 13 (.ldL 12 22 (.c (.sl 2))),
 oP 2 14 (.ldL 4 23 (.agg [.int .i64,.sl 1])),
 oP 3 15 (.call 87 [.t 14,.k (.c (.int .i64 0)),.k (.c (.int .i64 0)),.k (.c (.bool true))] [.agg [.int .i64,.sl 1]]),
 oP 4 16 (.bslice 1 2 [.int .i64 0,.sl 1 0 0 0] [(0,2,.t 15)]),
 oP 5 17 (.app (.t 13) (.t 16) 2 32),
 oP 6 18 (.faddr 2 0),
 ⟨7,none,.stL 18 22 (.t 17) 1,none⟩]))) (.region [oP 0 19 (.bin .add .i64 (.t 8) (kI 1)),
 mV 1 8 19]))))
def c19:DCode:=(.seq (.region [oP 0 20 (.ldL 2 22 (.agg [.sl 2])),
 ⟨1,none,.stL 2 22 (.t 20) 1,none⟩]) .ret)
def d:DFn:={ ntmps:=24,res:=[.box 2 (some 1)],body:=(.seq (.region [oP 0 1 (.boxv 21 [5] (.t 0) 1),
 oP 1 2 (.boxz 22 [12,18] [.sl 2 0 0 0])]) (.seq (.seq (.region [oP 0 5 (.faddr 1 0),
 oP 1 6 (.ldL 5 21 (.c (.sl 2))),
 oP 2 7 (.len (.t 6)),
 oP 3 8 (.move (kI 0))]) (.block 0 (.loop [2,6,7,8,22] c13))) c19)) }
def k19:Kont:=execC M.j C (M.ag C) c19 ({ exits:=[],ret:=retK d }:Env) (retK d)
def e15:Env:={ exits:=(0,(k19 M C))::(({ exits:=[],ret:=retK d }:Env)).exits,ret:=(({ exits:=[],ret:=retK d }:Env)).ret }
def L14 (a b c:Nat) (d e:Int) (f g h:Nat) (G:GH):Option Res:=M.ag C [2,6,7,8,22] c13 (e15 M C) (k19 M C) (uS 2 (.ref 22 0::(uS 3 (vS 2 a b c::(vI d::(vI e::(uS 13 (.box [.sl 2 f g h]::(uS 1 []))))))))) G
theorem L14_eq (e f g:Nat) (h b:Int) (i j d:Nat) (G:GH):L14 M C e f g h b i j d G=(bif decide (b<h) then guardK (decide (0≤b∧b<((g:Nat):Int))) (((G.ld e ((f+Int.toNat b*2)+0)).bind (Cell.asI .i64)).bind fun q=>((G.ld e ((f+Int.toNat b*2)+1)).bind (Cell.asS 1)).bind fun k=>(C F78.id [.agg [.int .i64 q,.sl 1 k.1 k.2.1 k.2.2],.c (.int .i64 0),.c (.int .i64 0),.c (.bool true)] G).bind fun l=>((l.1[0]?).bind V1.a?).bind fun m=>if m.length=2 then (((m[0]?).bind (Cell.asI .i64)).bind fun r=>((m[1]?).bind (Cell.asS 1)).bind fun n=>let p:=l.2.alloc (.row [.int .i64 r,.sl 1 n.1 n.2.1 n.2.2] false);(if 1=0 then some [] else p.lds l.2.next 0 (1*2)).bind fun s=>guardK (decide (d+1≤most)) ((p.app i j d 2 1 s).bind fun o=>L14 M C e f g h (IntKind.i64.wrap (b+1)) o.1 o.2.1 (d+1) o.2.2)) else none) else some ([.agg [.sl 2 i j d]],G)):=(M.hs _ _ _ _ _ _ _).trans (by kernel_rfl)
def f (b c a:Nat) (G:GH):Option Res:=L14 M C b c a ((a:Nat):Int) 0 0 0 0 G
theorem eq (a b c:Nat) (G:GH):runF M C d [.agg [.sl 2 a b c]] G=f M C a b c G:=by kernel_rfl
end F55
namespace F88
def c6:DCode:=(.cond (.t 25) (.seq (.region [oP 0 6 (.move (.k (.c (.int .u64 18446744073709551615))))]) .ret) .skip)
def c10:DCode:=(.seq (.region [oP 0 26 (.faddr 3 1),
 oP 1 27 (.ldL 26 34 (.c (.sl 1))),
 mV 2 28 1,
 oP 3 29 (.iaddr (.t 27) (.t 28) 1),
 oP 4 30 (.ldG 29 (.c (.sl 1))),
 mV 5 31 2,
 oP 6 32 (.iaddr (.t 30) (.t 31) 1),
 oP 7 33 (.ldG 32 (.c (.int .u64))),
 mV 8 6 33]) .ret)
def d:DFn:={ ntmps:=35,res:=[.t 6],body:=(.seq (.region [oP 0 3 (.boxv 34 [8,18,26] (.t 0) 2),
 oP 1 6 (.move (.k (.c (.int .u64 0))))]) (.seq (.seq (.region [mV 0 7 1,
 oP 1 8 (.faddr 3 1),
 oP 2 9 (.ldL 8 34 (.c (.sl 1))),
 oP 3 10 (.len (.t 9)),
 oP 4 11 (.cmp .geq .i64 (.t 7) (.t 10)),
 mV 5 12 11,
 ⟨6,some 13,.move (.t 2),some (12,false)⟩,
 ⟨7,some 14,.cmp .lss .i64 (.t 13) (kI 0),some (12,false)⟩,
 oP 8 15 (.pick (.t 12) (kB true) (.t 14)),
 mV 9 16 15,
 ⟨10,some 17,.move (.t 2),some (16,false)⟩,
 ⟨11,some 18,.faddr 3 1,some (16,false)⟩,
 ⟨12,some 19,.ldL 18 34 (.c (.sl 1)),some (16,false)⟩,
 ⟨13,some 20,.move (.t 1),some (16,false)⟩,
 ⟨14,some 21,.iaddr (.t 19) (.t 20) 1,some (16,false)⟩,
 ⟨15,some 22,.ldG 21 (.c (.sl 1)),some (16,false)⟩,
 ⟨16,some 23,.len (.t 22),some (16,false)⟩,
 ⟨17,some 24,.cmp .geq .i64 (.t 17) (.t 23),some (16,false)⟩,
 oP 18 25 (.pick (.t 16) (kB true) (.t 24))]) (.cut [1,2,3,25,34] c6)) c10)) }
def k10:Kont:=execC M.j C (M.ag C) c10 ({ exits:=[],ret:=retK d }:Env) (retK d)
def J6 (a b:Int) (c:Bool) (e:Int) (f g h:Nat) (G:GH):Option Res:=M.j (execC M.j C (M.ag C) c6 ({ exits:=[],ret:=retK d }:Env) (k10 M C)) (uS 1 (vI a::(vI b::(.ref 34 0::(uS 21 (vB c::(uS 8 (.box [.int .i64 e,.sl 1 f g h]::[])))))))) G
theorem J6_eq (a b:Int) (e:Bool) (i:Int) (f g h:Nat) (G:GH):J6 M C a b e i f g h G=(bif e then some ([.c (.int .u64 18446744073709551615)],G) else guardK (decide (0≤a∧a<((h:Nat):Int))) (((G.ld f (g+Int.toNat a*1)).bind (Cell.asS 1)).bind fun d=>guardK (decide (0≤b∧b<((d.2.2:Nat):Int))) (((G.ld d.1 (d.2.1+Int.toNat b*1)).bind (Cell.asI .u64)).bind fun j=>some ([.c (.int .u64 j)],G)))):=(M.hj _ _ _).trans (by kernel_rfl)
def f (g:Int) (d e b:Nat) (a c:Int) (G:GH):Option Res:=bif decide (a≥((b:Nat):Int)) then J6 M C a c true g d e b G else bif decide (c<0) then J6 M C a c true g d e b G else guardK (decide (0≤a∧a<((b:Nat):Int))) (((G.ld d (e+Int.toNat a*1)).bind (Cell.asS 1)).bind fun h=>J6 M C a c (decide (c≥((h.2.2:Nat):Int))) g d e b G)
theorem eq (a:Int) (b e g:Nat) (h i:Int) (G:GH):runF M C d [.agg [.int .i64 a,.sl 1 b e g],.c (.int .i64 h),.c (.int .i64 i)] G=f M C a b e g h i G:=by kernel_rfl
end F88
namespace F60
def c6:DCode:=(.cond (.t 15) (.seq (.region [oP 0 4 (.move (.k (.c (.int .u64 0))))]) .ret) .skip)
def c16:DCode:=(.seq (.region [mV 0 22 5,
 mV 1 23 0,
 oP 2 24 (.conv .u64 (.t 23)),
 oP 3 25 (.bin .shl .u64 (.t 22) (.t 24)),
 mV 4 4 25]) .ret)
def c18:DCode:=(.seq (.region [oP 0 5 (.move (.k (.c (.int .u64 18446744073709551615))))]) (.seq (.seq (.region [mV 0 16 1,
 oP 1 17 (.cmp .lss .i64 (.t 16) (kI 64))]) (.cond (.t 17) (.region [mV 0 18 1,
 oP 1 19 (.conv .u64 (.t 18)),
 oP 2 20 (.bin .shl .u64 (.k (.c (.int .u64 1))) (.t 19)),
 oP 3 21 (.bin .sub .u64 (.t 20) (.k (.c (.int .u64 1)))),
 mV 4 5 21]) .skip)) (.cut [0,5] c16)))
def d:DFn:={ ntmps:=26,res:=[.t 4],body:=(.seq (.region [oP 0 4 (.move (.k (.c (.int .u64 0))))]) (.seq (.seq (.region [mV 0 6 0,
 oP 1 7 (.cmp .lss .i64 (.t 6) (kI 0)),
 mV 2 8 7,
 ⟨3,some 9,.move (.t 1),some (8,false)⟩,
 ⟨4,some 10,.cmp .leq .i64 (.t 9) (kI 0),some (8,false)⟩,
 oP 5 11 (.pick (.t 8) (kB true) (.t 10)),
 mV 6 12 11,
 ⟨7,some 13,.move (.t 0),some (12,false)⟩,
 ⟨8,some 14,.cmp .geq .i64 (.t 13) (kI 64),some (12,false)⟩,
 oP 9 15 (.pick (.t 12) (kB true) (.t 14))]) (.cut [0,1,15] c6)) c18)) }
def k18:Kont:=execC M.j C (M.ag C) c18 ({ exits:=[],ret:=retK d }:Env) (retK d)
def J6 (a b:Int) (c:Bool) (G:GH):Option Res:=M.j (execC M.j C (M.ag C) c6 ({ exits:=[],ret:=retK d }:Env) (k18 M C)) (vI a::(vI b::(uS 13 (vB c::(uS 10 []))))) G
def J16 (a b:Int) (G:GH):Option Res:=M.j (execC M.j C (M.ag C) c16 ({ exits:=[],ret:=retK d }:Env) (retK d)) (vI a::(uS 4 (.v (.c (.int .u64 b))::(uS 20 [])))) G
theorem J6_eq (a b:Int) (d:Bool) (G:GH):J6 M C a b d G=(bif d then some ([.c (.int .u64 0)],G) else bif decide (b<64) then (binD .shl .u64 1 (IntKind.u64.wrap b)).bind fun e=>J16 M C a (IntKind.u64.wrap (e-1)) G else J16 M C a 18446744073709551615 G):=(M.hj _ _ _).trans (by kernel_rfl)
theorem J16_eq (a b:Int) (G:GH):J16 M C a b G=((binD .shl .u64 b (IntKind.u64.wrap a)).bind fun d=>some ([.c (.int .u64 d)],G)):=(M.hj _ _ _).trans (by kernel_rfl)
def f (a b:Int) (G:GH):Option Res:=bif decide (a<0) then J6 M C a b true G else bif decide (b≤0) then J6 M C a b true G else J6 M C a b (decide (a≥64)) G
theorem eq (a b:Int) (G:GH):runF M C d [.c (.int .i64 a),.c (.int .i64 b)] G=f M C a b G:=by kernel_rfl
end F60
namespace F34
def c6:DCode:=(.cond (.t 10) (.seq (.region [oP 0 2 (.move (kI 0)),
 oP 1 3 (.move (kB false))]) .ret) .skip)
def c16:DCode:=(.seq (.seq (.region [mV 0 11 4,
 mV 1 12 0,
 oP 2 13 (.cmp .lss .i64 (.t 11) (.t 12))]) (.cond (.t 13) .skip (.exit 0))) (.block 1 (.region [mV 0 14 4,
 oP 1 15 (.bin .mul .i64 (.t 14) (kI 2)),
 mV 2 4 15])))
def c21:DCode:=(.seq (.region [mV 0 16 4,
 mV 1 2 16,
 oP 2 3 (.move (kB true))]) .ret)
def c23:DCode:=(.seq (.region [oP 0 4 (.move (kI 1))]) (.seq (.block 0 (.loop [0,4] c16)) c21))
def d:DFn:={ ntmps:=17,res:=[.t 2,.t 3],body:=(.seq (.region [oP 0 2 (.move (kI 0)),
 oP 1 3 (.move (kB false))]) (.seq (.seq (.region [mV 0 5 0,
 oP 1 6 (.cmp .lss .i64 (.t 5) (kI 1)),
 mV 2 7 6,
 ⟨3,some 8,.move (.t 0),some (7,false)⟩,
 ⟨4,some 9,.cmp .gtr .i64 (.t 8) (kI 4611686018427387904),some (7,false)⟩,
 oP 5 10 (.pick (.t 7) (kB true) (.t 9))]) (.cut [0,10] c6)) c23)) }
def k23:Kont:=execC M.j C (M.ag C) c23 ({ exits:=[],ret:=retK d }:Env) (retK d)
def J6 (a:Int) (b:Bool) (G:GH):Option Res:=M.j (execC M.j C (M.ag C) c6 ({ exits:=[],ret:=retK d }:Env) (k23 M C)) (vI a::(uS 9 (vB b::(uS 6 [])))) G
def k21:Kont:=execC M.j C (M.ag C) c21 ({ exits:=[],ret:=retK d }:Env) (retK d)
def e18:Env:={ exits:=(0,(k21 M C))::(({ exits:=[],ret:=retK d }:Env)).exits,ret:=(({ exits:=[],ret:=retK d }:Env)).ret }
def L17 (a b:Int) (G:GH):Option Res:=M.ag C [0,4] c16 (e18 M C) (k21 M C) (vI a::(uS 3 (vI b::(uS 12 [])))) G
theorem J6_eq (a:Int) (b:Bool) (G:GH):J6 M C a b G=(bif b then some ([.c (.int .i64 0),.c (.bool false)],G) else L17 M C a 1 G):=(M.hj _ _ _).trans (by kernel_rfl)
theorem L17_eq (b a:Int) (G:GH):L17 M C b a G=(bif decide (a<b) then L17 M C b (IntKind.i64.wrap (a*2)) G else some ([.c (.int .i64 a),.c (.bool true)],G)):=(M.hs _ _ _ _ _ _ _).trans (by kernel_rfl)
def f (a:Int) (G:GH):Option Res:=bif decide (a<1) then J6 M C a true G else J6 M C a (decide (a>4611686018427387904)) G
theorem eq (a:Int) (G:GH):runF M C d [.c (.int .i64 a)] G=f M C a G:=by kernel_rfl
end F34
namespace F27
def d:DFn:={ ntmps:=38,res:=[],body:=(.seq (.region [oP 0 3 (.boxv 37 [10,22,32] (.t 1) 3)]) (.seq (.region [mV 0 5 0,
 mV 1 6 0,
 oP 2 7 (.nilck (.t 6)),
 oP 3 8 (.faddr 7 8),
 oP 4 9 (.ldG 8 (.agg [.int .i64,.sl 2,.sl 2])),
 oP 5 10 (.faddr 3 0),
 oP 6 11 (.ldL 10 37 (.c (.int .i64))),
 oP 7 12 (.call 66 [.t 9,.t 11] [.agg [.int .i64,.sl 2,.sl 2],.c (.int .i64),.c (.bool)]),
 mV 8 4 12,
 oP 9 13 (.ext 4 0),
 oP 10 14 (.ext 4 1),
 oP 11 15 (.ext 4 2),
 oP 12 16 (.nilck (.t 5)),
 oP 13 17 (.faddr 16 8),
 ⟨14,none,.stG 17 (.t 13) 3,none⟩]) (.seq (.region [mV 0 18 0,
 oP 1 19 (.nilck (.t 18)),
 oP 2 20 (.faddr 19 11),
 oP 3 21 (.ldG 20 (.c (.map))),
 oP 4 22 (.faddr 3 0),
 oP 5 23 (.ldL 22 37 (.c (.int .i64))),
 oP 6 24 (.build [.int .i64 0] [(0,1,.t 23)]),
 ⟨7,none,.del (.agg [.int .i64]) (.t 21) (.t 24),none⟩]) (.seq (.region [mV 0 25 0,
 oP 1 26 (.ldL 3 37 (.agg (iS 3))),
 oP 2 27 (.call 67 [.t 25,.t 26,.k (.c (.int .i64 (-1)))] [])]) (.region [mV 0 28 0,
 oP 1 29 (.nilck (.t 28)),
 oP 2 30 (.faddr 29 12),
 oP 3 31 (.ldG 30 (.c (.int .i64))),
 oP 4 32 (.faddr 3 1),
 oP 5 33 (.ldL 32 37 (.c (.int .i64))),
 oP 6 34 (.bin .sub .i64 (.t 31) (.t 33)),
 oP 7 35 (.nilck (.t 28)),
 oP 8 36 (.faddr 35 12),
 ⟨9,none,.stG 36 (.t 34) 1,none⟩]))))) }
def f (M:Mach) (C:Call) (b d:Nat) (h n q:Int) (G:GH):Option Res:=guardK (!Nat.beq b 0) (((G.ld b ((d+8)+0)).bind (Cell.asI .i64)).bind fun r=>((G.ld b ((d+8)+1)).bind (Cell.asS 2)).bind fun i=>((G.ld b ((d+8)+2)).bind (Cell.asS 2)).bind fun j=>(C F33.id [.agg [.int .i64 r,.sl 2 i.1 i.2.1 i.2.2,.sl 2 j.1 j.2.1 j.2.2],.c (.int .i64 h)] G).bind fun e=>((e.1[0]?).bind V1.a?).bind fun g=>if g.length=3 then (((g[0]?).bind (Cell.asI .i64)).bind fun s=>((g[1]?).bind (Cell.asS 2)).bind fun k=>((g[2]?).bind (Cell.asS 2)).bind fun l=>(((e.1[1]?).bind V1.c?).bind (Cell.asI .i64)).bind fun y=>(((e.1[2]?).bind V1.c?).bind Cell.asB).bind fun z=>guardK (!Nat.beq b 0) ((e.2.sts b (d+8) [.int .i64 s,.sl 2 k.1 k.2.1 k.2.2,.sl 2 l.1 l.2.1 l.2.2]).bind fun m=>guardK (!Nat.beq b 0) (((m.ld b (d+11)).bind Cell.asM).bind fun o=>(m.ents (.agg [.int .i64]) o).bind fun t=>let v:=m.set o (some (.map (.agg [.int .i64]) (mapDel t (.agg [.int .i64 h]))));(C F18.id [.c (.ptr b d),.agg [.int .i64 h,.int .i64 n,.int .i64 q],.c (.int .i64 (-1))] v).bind fun p=>guardK (!Nat.beq b 0) (((p.2.ld b (d+12)).bind (Cell.asI .i64)).bind fun w=>guardK (!Nat.beq b 0) ((p.2.sts b (d+12) [.int .i64 (IntKind.i64.wrap (w-n))]).bind fun x=>some ([],x)))))) else none)
theorem eq (a b:Nat) (e g h:Int) (G:GH):runF M C d [.c (.ptr a b),.agg [.int .i64 e,.int .i64 g,.int .i64 h]] G=f M C a b e g h G:=by kernel_rfl
end F27
namespace F53
def c11:DCode:=(.seq (.region [mV 0 21 3,
 mV 1 2 21]) .ret)
def d:DFn:={ ntmps:=22,res:=[.t 2],body:=(.seq (.region [oP 0 2 (.move (.k (.c (.sl 1 0 0 0))))]) (.seq (.region [mV 0 5 0,
 oP 1 6 (.bin .sub .i64 (.t 5) (kI 1)),
 oP 2 7 (.bin .quo .i64 (.t 6) (kI 64)),
 oP 3 8 (.bin .add .i64 (.t 7) (kI 1)),
 oP 4 9 (.mkslice (.t 8) 1 8 [.int .u64 0]),
 mV 5 3 9]) (.seq (.seq (.region [mV 0 10 0,
 oP 1 11 (.bin .rem .i64 (.t 10) (kI 64)),
 mV 2 4 11]) (.seq (.region [mV 0 12 4,
 oP 1 13 (.cmp .gtr .i64 (.t 12) (kI 0))]) (.cond (.t 13) (.region [mV 0 14 3,
 mV 1 15 3,
 oP 2 16 (.len (.t 15)),
 oP 3 17 (.bin .sub .i64 (.t 16) (kI 1)),
 mV 4 18 4,
 oP 5 19 (.call 80 [.t 18,.k (.c (.int .i64 64))] [.c (.int .u64)]),
 oP 6 20 (.iaddr (.t 14) (.t 17) 1),
 ⟨7,none,.stG 20 (.t 19) 1,none⟩]) .skip))) (.cut [3] c11)))) }
def J11 (a b c:Nat) (G:GH):Option Res:=M.j (execC M.j C (M.ag C) c11 ({ exits:=[],ret:=retK d }:Env) (retK d)) (uS 3 (vS 1 a b c::(uS 18 []))) G
theorem J11_eq (a b d:Nat) (G:GH):J11 M C a b d G=(some ([.c (.sl 1 a b d)],G)):=(M.hj _ _ _).trans (by kernel_rfl)
def f (a:Int) (G:GH):Option Res:=guardK (decide (0≤IntKind.i64.wrap ((IntKind.i64.wrap (Int.tdiv (IntKind.i64.wrap (a-1)) 64))+1)∧IntKind.i64.wrap ((IntKind.i64.wrap (Int.tdiv (IntKind.i64.wrap (a-1)) 64))+1)≤(most:Int))) (let b:=G.alloc (.row (reps (Int.toNat (IntKind.i64.wrap ((IntKind.i64.wrap (Int.tdiv (IntKind.i64.wrap (a-1)) 64))+1))) [.int .u64 0]) false);bif decide (Int.tmod a 64>0) then (C F60.id [.c (.int .i64 (Int.tmod a 64)),.c (.int .i64 64)] b).bind fun d=>(((d.1[0]?).bind V1.c?).bind (Cell.asI .u64)).bind fun e=>guardK (decide (0≤IntKind.i64.wrap (((Int.toNat (IntKind.i64.wrap ((IntKind.i64.wrap (Int.tdiv (IntKind.i64.wrap (a-1)) 64))+1)):Nat):Int)-1)∧IntKind.i64.wrap (((Int.toNat (IntKind.i64.wrap ((IntKind.i64.wrap (Int.tdiv (IntKind.i64.wrap (a-1)) 64))+1)):Nat):Int)-1)<((Int.toNat (IntKind.i64.wrap ((IntKind.i64.wrap (Int.tdiv (IntKind.i64.wrap (a-1)) 64))+1)):Nat):Int))) ((d.2.sts G.next (0+Int.toNat (IntKind.i64.wrap (((Int.toNat (IntKind.i64.wrap ((IntKind.i64.wrap (Int.tdiv (IntKind.i64.wrap (a-1)) 64))+1)):Nat):Int)-1))*1) [.int .u64 e]).bind fun g=>J11 M C G.next 0 (Int.toNat (IntKind.i64.wrap ((IntKind.i64.wrap (Int.tdiv (IntKind.i64.wrap (a-1)) 64))+1))) g) else J11 M C G.next 0 (Int.toNat (IntKind.i64.wrap ((IntKind.i64.wrap (Int.tdiv (IntKind.i64.wrap (a-1)) 64))+1))) b)
theorem eq (a:Int) (G:GH):runF M C d [.c (.int .i64 a)] G=f M C a G:=by kernel_rfl
end F53
namespace F69
def c14:DCode:=(.region [oP 0 14 (.bin .add .i64 (.t 7) (kI 1)),
 mV 1 7 14])
def c17:DCode:=(.seq (.region [oP 0 8 (.cmp .lss .i64 (.t 7) (.t 6))]) (.seq (.cond (.t 8) .skip (.exit 0)) (.seq (.block 1 (.seq (.region [oP 0 9 (.iaddr (.t 5) (.t 7) 1),
 oP 1 10 (.ldG 9 (.c (.bool))),
 mV 2 4 10]) (.seq (.region [mV 0 11 4]) (.cond (.t 11) (.region [mV 0 12 2,
 oP 1 13 (.bin .add .i64 (.t 12) (kI 1)),
 mV 2 2 13]) .skip)))) (.cut [2,5,6,7] c14))))
def c18:DCode:=(.loop [2,5,6,7] c17)
def c23:DCode:=(.seq (.region [mV 0 15 2,
 mV 1 2 15]) .ret)
def d:DFn:={ ntmps:=16,res:=[.t 2],body:=(.seq (.region [oP 0 2 (.move (kI 0))]) (.seq (.seq (.region [mV 0 5 0,
 oP 1 6 (.len (.t 5)),
 oP 2 7 (.move (kI 0))]) (.block 0 c18)) c23)) }
def k23:Kont:=execC M.j C (M.ag C) c23 ({ exits:=[],ret:=retK d }:Env) (retK d)
def e19:Env:={ exits:=(0,(k23 M C))::(({ exits:=[],ret:=retK d }:Env)).exits,ret:=(({ exits:=[],ret:=retK d }:Env)).ret }
def L18 (a:Int) (b c d:Nat) (e f:Int) (G:GH):Option Res:=M.ag C [2,5,6,7] c17 (e19 M C) (k23 M C) (uS 2 (vI a::(uS 2 (vS 1 b c d::(vI e::(vI f::(uS 8 []))))))) G
def k18:Kont:=fun tm G=>M.ag C [2,5,6,7] c17 (e19 M C) (k23 M C) (restr [2,5,6,7] 0 tm) G
def J14 (a:Int) (b c d:Nat) (e f:Int) (G:GH):Option Res:=M.j (execC M.j C (M.ag C) c14 (e19 M C) (k18 M C)) (uS 2 (vI a::(uS 2 (vS 1 b c d::(vI e::(vI f::(uS 8 []))))))) G
theorem L18_eq (b:Int) (d e f:Nat) (g a:Int) (G:GH):L18 M C b d e f g a G=(bif decide (a<g) then guardK (decide (0≤a∧a<((f:Nat):Int))) (((G.ld d (e+Int.toNat a*1)).bind Cell.asB).bind fun h=>bif h then J14 M C (IntKind.i64.wrap (b+1)) d e f g a G else J14 M C b d e f g a G) else some ([.c (.int .i64 b)],G)):=(M.hs _ _ _ _ _ _ _).trans (by kernel_rfl)
theorem J14_eq (a:Int) (b c d:Nat) (e f:Int) (G:GH):J14 M C a b c d e f G=(L18 M C a b c d e (IntKind.i64.wrap (f+1)) G):=(M.hj _ _ _).trans (by kernel_rfl)
def f (b c a:Nat) (G:GH):Option Res:=L18 M C 0 b c a ((a:Nat):Int) 0 G
theorem eq (a b e:Nat) (G:GH):runF M C d [.c (.sl 1 a b e)] G=f M C a b e G:=by kernel_rfl
end F69
namespace F77
def c4:DCode:=(.cond (.t 26) (.region [oP 0 27 (.faddr 4 1),
 oP 1 28 (.ldL 27 35 (.c (.sl 1))),
 mV 2 29 1,
 oP 3 30 (.iaddr (.t 28) (.t 29) 1),
 oP 4 31 (.ldG 30 (.c (.sl 1))),
 mV 5 32 2,
 mV 6 33 3,
 oP 7 34 (.iaddr (.t 31) (.t 32) 1),
 ⟨8,none,.stG 34 (.t 33) 1,none⟩]) .skip)
def d:DFn:={ ntmps:=36,res:=[],body:=(.seq (.region [oP 0 4 (.boxv 35 [9,19,27] (.t 0) 2)]) (.seq (.region [mV 0 8 1,
 oP 1 9 (.faddr 4 1),
 oP 2 10 (.ldL 9 35 (.c (.sl 1))),
 oP 3 11 (.len (.t 10)),
 oP 4 12 (.cmp .lss .i64 (.t 8) (.t 11)),
 mV 5 13 12,
 ⟨6,some 14,.move (.t 2),some (13,true)⟩,
 ⟨7,some 15,.cmp .geq .i64 (.t 14) (kI 0),some (13,true)⟩,
 oP 8 16 (.pick (.t 13) (.t 15) (kB false)),
 mV 9 17 16,
 ⟨10,some 18,.move (.t 2),some (17,true)⟩,
 ⟨11,some 19,.faddr 4 1,some (17,true)⟩,
 ⟨12,some 20,.ldL 19 35 (.c (.sl 1)),some (17,true)⟩,
 ⟨13,some 21,.move (.t 1),some (17,true)⟩,
 ⟨14,some 22,.iaddr (.t 20) (.t 21) 1,some (17,true)⟩,
 ⟨15,some 23,.ldG 22 (.c (.sl 1)),some (17,true)⟩,
 ⟨16,some 24,.len (.t 23),some (17,true)⟩,
 ⟨17,some 25,.cmp .lss .i64 (.t 18) (.t 24),some (17,true)⟩,
 oP 18 26 (.pick (.t 17) (.t 25) (kB false))]) (.cut [1,2,3,4,26,35] c4))) }
def J4 (a b e:Int) (f:Bool) (g:Int) (h i k:Nat) (G:GH):Option Res:=M.j (execC M.j C (M.ag C) c4 ({ exits:=[],ret:=retK d }:Env) (retK d)) (uS 1 (vI a::(vI b::(.v (.c (.int .u64 e))::(.ref 35 0::(uS 21 (vB f::(uS 8 (.box [.int .i64 g,.sl 1 h i k]::[]))))))))) G
theorem J4_eq (a b d:Int) (e:Bool) (i:Int) (f g h:Nat) (G:GH):J4 M C a b d e i f g h G=(bif e then guardK (decide (0≤a∧a<((h:Nat):Int))) (((G.ld f (g+Int.toNat a*1)).bind (Cell.asS 1)).bind fun c=>guardK (decide (0≤b∧b<((c.2.2:Nat):Int))) ((G.sts c.1 (c.2.1+Int.toNat b*1) [.int .u64 d]).bind fun j=>some ([],j))) else some ([],G)):=(M.hj _ _ _).trans (by kernel_rfl)
def f (g:Int) (d e b:Nat) (a c h:Int) (G:GH):Option Res:=bif decide (a<((b:Nat):Int)) then bif decide (c≥0) then guardK (decide (0≤a∧a<((b:Nat):Int))) (((G.ld d (e+Int.toNat a*1)).bind (Cell.asS 1)).bind fun i=>J4 M C a c h (decide (c<((i.2.2:Nat):Int))) g d e b G) else J4 M C a c h false g d e b G else J4 M C a c h false g d e b G
theorem eq (a:Int) (b e g:Nat) (h i j:Int) (G:GH):runF M C d [.agg [.int .i64 a,.sl 1 b e g],.c (.int .i64 h),.c (.int .i64 i),.c (.int .u64 j)] G=f M C a b e g h i j G:=by kernel_rfl
end F77
namespace F86
def c6:DCode:=(.cond (.t 10) (.seq (.region [oP 0 2 (.move (kI 0)),
 oP 1 3 (.move (kB false))]) .ret) .skip)
def c16:DCode:=(.seq (.seq (.region [mV 0 11 4,
 mV 1 12 0,
 oP 2 13 (.cmp .lss .i64 (.t 11) (.t 12))]) (.cond (.t 13) .skip (.exit 0))) (.block 1 (.region [mV 0 14 4,
 oP 1 15 (.bin .shl .i64 (.t 14) (.k (.c (.int .u64 1)))),
 mV 2 4 15])))
def c21:DCode:=(.seq (.region [mV 0 16 4,
 mV 1 2 16,
 oP 2 3 (.move (kB true))]) .ret)
def c23:DCode:=(.seq (.region [oP 0 4 (.move (kI 1))]) (.seq (.block 0 (.loop [0,4] c16)) c21))
def d:DFn:={ ntmps:=17,res:=[.t 2,.t 3],body:=(.seq (.region [oP 0 2 (.move (kI 0)),
 oP 1 3 (.move (kB false))]) (.seq (.seq (.region [mV 0 5 0,
 oP 1 6 (.cmp .lss .i64 (.t 5) (kI 1)),
 mV 2 7 6,
 ⟨3,some 8,.move (.t 0),some (7,false)⟩,
 ⟨4,some 9,.cmp .gtr .i64 (.t 8) (kI 4611686018427387904),some (7,false)⟩,
 oP 5 10 (.pick (.t 7) (kB true) (.t 9))]) (.cut [0,10] c6)) c23)) }
def k23:Kont:=execC M.j C (M.ag C) c23 ({ exits:=[],ret:=retK d }:Env) (retK d)
def J6 (a:Int) (b:Bool) (G:GH):Option Res:=M.j (execC M.j C (M.ag C) c6 ({ exits:=[],ret:=retK d }:Env) (k23 M C)) (vI a::(uS 9 (vB b::(uS 6 [])))) G
def k21:Kont:=execC M.j C (M.ag C) c21 ({ exits:=[],ret:=retK d }:Env) (retK d)
def e18:Env:={ exits:=(0,(k21 M C))::(({ exits:=[],ret:=retK d }:Env)).exits,ret:=(({ exits:=[],ret:=retK d }:Env)).ret }
def L17 (a b:Int) (G:GH):Option Res:=M.ag C [0,4] c16 (e18 M C) (k21 M C) (vI a::(uS 3 (vI b::(uS 12 [])))) G
theorem J6_eq (a:Int) (b:Bool) (G:GH):J6 M C a b G=(bif b then some ([.c (.int .i64 0),.c (.bool false)],G) else L17 M C a 1 G):=(M.hj _ _ _).trans (by kernel_rfl)
theorem L17_eq (b a:Int) (G:GH):L17 M C b a G=(bif decide (a<b) then L17 M C b (IntKind.i64.wrap (a*2 ^ (min (1:Int).toNat IntKind.i64.bits))) G else some ([.c (.int .i64 a),.c (.bool true)],G)):=(M.hs _ _ _ _ _ _ _).trans (by kernel_rfl)
def f (a:Int) (G:GH):Option Res:=bif decide (a<1) then J6 M C a true G else J6 M C a (decide (a>4611686018427387904)) G
theorem eq (a:Int) (G:GH):runF M C d [.c (.int .i64 a)] G=f M C a G:=by kernel_rfl
end F86
namespace F12
def d:DFn:={ ntmps:=29,res:=[.box 6 (some 8)],body:=(.seq (.region [oP 0 6 (.boxz 28 [] zA)]) (.seq (.region [mV 0 10 0,
 oP 1 11 (.nilck (.t 10)),
 oP 2 12 (.faddr 11 0),
 oP 3 13 (.ldG 12 (.agg (iS 8))),
 mV 4 14 0,
 oP 5 15 (.nilck (.t 14)),
 oP 6 16 (.faddr 15 12),
 oP 7 17 (.ldG 16 (.c (.int .i64))),
 mV 8 18 1,
 mV 9 19 2,
 oP 10 20 (.call 46 [.t 13,.t 17,.t 18,.t 19] [.c (.int .i64),.c (.int .i64)]),
 mV 11 9 20,
 oP 12 21 (.ext 9 0),
 oP 13 22 (.ext 9 1),
 mV 14 7 21,
 mV 15 8 22]) (.seq (.region [mV 0 23 0,
 mV 1 24 7,
 mV 2 25 1,
 mV 3 26 8,
 oP 4 27 (.call 47 [.t 23,.t 24,.t 25,.t 26] [.agg sA]),
 ⟨5,none,.stL 6 28 (.t 27) 8,none⟩]) .ret))) }
def f (M:Mach) (C:Call) (b d:Nat) (h j:Int) (G:GH):Option Res:=guardK (!Nat.beq b 0) (((G.ld b ((d+0)+0)).bind (Cell.asI .i64)).bind fun k=>((G.ld b ((d+0)+1)).bind (Cell.asI .i64)).bind fun l=>((G.ld b ((d+0)+2)).bind (Cell.asI .i64)).bind fun m=>((G.ld b ((d+0)+3)).bind (Cell.asI .i64)).bind fun n=>((G.ld b ((d+0)+4)).bind (Cell.asI .i64)).bind fun o=>((G.ld b ((d+0)+5)).bind (Cell.asI .i64)).bind fun p=>((G.ld b ((d+0)+6)).bind (Cell.asI .i64)).bind fun q=>((G.ld b ((d+0)+7)).bind (Cell.asI .i64)).bind fun r=>guardK (!Nat.beq b 0) (((G.ld b (d+12)).bind (Cell.asI .i64)).bind fun s=>(C F63.id [.agg [.int .i64 k,.int .i64 l,.int .i64 m,.int .i64 n,.int .i64 o,.int .i64 p,.int .i64 q,.int .i64 r],.c (.int .i64 s),.c (.int .i64 h),.c (.int .i64 j)] G).bind fun g=>(((g.1[0]?).bind V1.c?).bind (Cell.asI .i64)).bind fun t=>(((g.1[1]?).bind V1.c?).bind (Cell.asI .i64)).bind fun v=>(C F26.id [.c (.ptr b d),.c (.int .i64 t),.c (.int .i64 h),.c (.int .i64 v)] g.2).bind fun i=>((i.1[0]?).bind V1.a?).bind fun e=>if e.length=8 then (((e[0]?).bind (Cell.asI .i64)).bind fun w=>((e[1]?).bind (Cell.asI .i64)).bind fun x=>((e[2]?).bind (Cell.asI .i64)).bind fun y=>((e[3]?).bind (Cell.asI .u8)).bind fun z=>((e[4]?).bind (Cell.asI .i64)).bind fun A=>((e[5]?).bind (Cell.asI .i64)).bind fun B=>((e[6]?).bind (Cell.asI .i64)).bind fun D=>((e[7]?).bind (Cell.asI .i64)).bind fun E=>some ([.agg [.int .i64 w,.int .i64 x,.int .i64 y,.int .u8 z,.int .i64 A,.int .i64 B,.int .i64 D,.int .i64 E]],i.2)) else none))
theorem eq (a b:Nat) (e g:Int) (G:GH):runF M C d [.c (.ptr a b),.c (.int .i64 e),.c (.int .i64 g)] G=f M C a b e g G:=by kernel_rfl
end F12
namespace F38
def c6:DCode:=(.cond (.t 14) (.seq (.region [oP 0 4 (.move (kI 0)),
 oP 1 5 (.move (kB false))]) .ret) .skip)
def c10:DCode:=(.seq (.region [oP 0 15 (.faddr 2 0),
 oP 1 16 (.ldL 15 23 (.c (.sl 2))),
 mV 2 17 1,
 oP 3 18 (.iaddr (.t 16) (.t 17) 2),
 oP 4 19 (.ldG 18 (.agg [.int .i64,.sl 1])),
 oP 5 20 (.call 89 [.t 19,.k (.c (.int .i64 0))] [.c (.int .i64),.c (.bool)]),
 oP 6 21 (.ext 20 0),
 oP 7 22 (.ext 20 1),
 mV 8 4 21,
 mV 9 5 22]) .ret)
def d:DFn:={ ntmps:=24,res:=[.t 4,.t 5],body:=(.seq (.region [oP 0 2 (.boxv 23 [10,15] (.t 0) 1),
 oP 1 4 (.move (kI 0)),
 oP 2 5 (.move (kB false))]) (.seq (.seq (.region [mV 0 6 1,
 oP 1 7 (.cmp .lss .i64 (.t 6) (kI 0)),
 mV 2 8 7,
 ⟨3,some 9,.move (.t 1),some (8,false)⟩,
 ⟨4,some 10,.faddr 2 0,some (8,false)⟩,
 ⟨5,some 11,.ldL 10 23 (.c (.sl 2)),some (8,false)⟩,
 ⟨6,some 12,.len (.t 11),some (8,false)⟩,
 ⟨7,some 13,.cmp .geq .i64 (.t 9) (.t 12),some (8,false)⟩,
 oP 8 14 (.pick (.t 8) (kB true) (.t 13))]) (.cut [1,2,14,23] c6)) c10)) }
def k10:Kont:=execC M.j C (M.ag C) c10 ({ exits:=[],ret:=retK d }:Env) (retK d)
def J6 (a:Int) (b:Bool) (c e f:Nat) (G:GH):Option Res:=M.j (execC M.j C (M.ag C) c6 ({ exits:=[],ret:=retK d }:Env) (k10 M C)) (uS 1 (vI a::(.ref 23 0::(uS 11 (vB b::(uS 8 (.box [.sl 2 c e f]::[]))))))) G
theorem J6_eq (a:Int) (g:Bool) (b d h:Nat) (G:GH):J6 M C a g b d h G=(bif g then some ([.c (.int .i64 0),.c (.bool false)],G) else guardK (decide (0≤a∧a<((h:Nat):Int))) (((G.ld b ((d+Int.toNat a*2)+0)).bind (Cell.asI .i64)).bind fun i=>((G.ld b ((d+Int.toNat a*2)+1)).bind (Cell.asS 1)).bind fun e=>(C F24.id [.agg [.int .i64 i,.sl 1 e.1 e.2.1 e.2.2],.c (.int .i64 0)] G).bind fun f=>(((f.1[0]?).bind V1.c?).bind (Cell.asI .i64)).bind fun j=>(((f.1[1]?).bind V1.c?).bind Cell.asB).bind fun k=>some ([.c (.int .i64 j),.c (.bool k)],f.2))):=(M.hj _ _ _).trans (by kernel_rfl)
def f (c d b:Nat) (a:Int) (G:GH):Option Res:=bif decide (a<0) then J6 M C a true c d b G else J6 M C a (decide (a≥((b:Nat):Int))) c d b G
theorem eq (a b e:Nat) (g:Int) (G:GH):runF M C d [.agg [.sl 2 a b e],.c (.int .i64 g)] G=f M C a b e g G:=by kernel_rfl
end F38
namespace F52
def c6:DCode:=(.cond (.t 12) (.seq (.region [oP 0 4 (.move (kI 0)),
 oP 1 5 (.move (kB false))]) .ret) .skip)
def c20:DCode:=(.seq (.region [mV 0 13 0,
 mV 1 14 1,
 oP 2 15 (.bin .rem .i64 (.t 13) (.t 14)),
 mV 3 6 15]) (.seq (.seq (.region [mV 0 16 6,
 oP 1 17 (.cmp .eql .i64 (.t 16) (kI 0))]) (.cond (.t 17) (.seq (.region [mV 0 18 0,
 mV 1 4 18,
 oP 2 5 (.move (kB true))]) .ret) .skip)) (.seq (.region [mV 0 19 0,
 mV 1 20 1,
 mV 2 21 6,
 oP 3 22 (.bin .sub .i64 (.t 20) (.t 21)),
 oP 4 23 (.call 53 [.t 19,.t 22] [.c (.int .i64),.c (.bool)]),
 oP 5 24 (.ext 23 0),
 oP 6 25 (.ext 23 1),
 mV 7 4 24,
 mV 8 5 25]) .ret)))
def d:DFn:={ ntmps:=26,res:=[.t 4,.t 5],body:=(.seq (.region [oP 0 4 (.move (kI 0)),
 oP 1 5 (.move (kB false))]) (.seq (.seq (.region [mV 0 7 0,
 oP 1 8 (.cmp .lss .i64 (.t 7) (kI 0)),
 mV 2 9 8,
 ⟨3,some 10,.move (.t 1),some (9,false)⟩,
 ⟨4,some 11,.cmp .lss .i64 (.t 10) (kI 1),some (9,false)⟩,
 oP 5 12 (.pick (.t 9) (kB true) (.t 11))]) (.cut [0,1,12] c6)) c20)) }
def k20:Kont:=execC M.j C (M.ag C) c20 ({ exits:=[],ret:=retK d }:Env) (retK d)
def J6 (a b:Int) (c:Bool) (G:GH):Option Res:=M.j (execC M.j C (M.ag C) c6 ({ exits:=[],ret:=retK d }:Env) (k20 M C)) (vI a::(vI b::(uS 10 (vB c::(uS 13 []))))) G
theorem J6_eq (a b:Int) (e:Bool) (G:GH):J6 M C a b e G=(bif e then some ([.c (.int .i64 0),.c (.bool false)],G) else (binD .rem .i64 a b).bind fun f=>bif decide (f=0) then some ([.c (.int .i64 a),.c (.bool true)],G) else (C F73.id [.c (.int .i64 a),.c (.int .i64 (IntKind.i64.wrap (b-f)))] G).bind fun d=>(((d.1[0]?).bind V1.c?).bind (Cell.asI .i64)).bind fun g=>(((d.1[1]?).bind V1.c?).bind Cell.asB).bind fun h=>some ([.c (.int .i64 g),.c (.bool h)],d.2)):=(M.hj _ _ _).trans (by kernel_rfl)
def f (a b:Int) (G:GH):Option Res:=bif decide (a<0) then J6 M C a b true G else J6 M C a b (decide (b<1)) G
theorem eq (a b:Int) (G:GH):runF M C d [.c (.int .i64 a),.c (.int .i64 b)] G=f M C a b G:=by kernel_rfl
end F52
namespace F71
def d:DFn:={ ntmps:=31,res:=[.t 4,.t 5,.t 6],body:=(.seq (.region [oP 0 4 (.move (.k (.c (.sl 2 0 0 0)))),
 oP 1 5 (.move (kI 0)),
 oP 2 6 (.move (kB false))]) (.seq (.region [mV 0 10 0,
 oP 1 11 (.call 83 [.t 10] [.c (.sl 2)]),
 mV 2 7 11]) (.seq (.region [mV 0 13 0,
 mV 1 14 1,
 oP 2 15 (.call 84 [.t 13,.t 14] [.c (.int .i64),.c (.bool)]),
 mV 3 12 15,
 oP 4 16 (.ext 12 0),
 oP 5 17 (.ext 12 1),
 mV 6 8 16,
 mV 7 9 17]) (.seq (.seq (.region [mV 0 18 9,
 oP 1 19 (.not (.t 18))]) (.cond (.t 19) (.seq (.region [mV 0 20 7,
 mV 1 4 20,
 oP 2 5 (.move (kI 0)),
 oP 3 6 (.move (kB false))]) .ret) .skip)) (.seq (.region [mV 0 21 7,
 mV 1 22 8,
 mV 2 23 8,
 oP 3 24 (.bin .add .i64 (.t 23) (kI 1)),
 mV 5 26 0,
 mV 6 27 8,
 oP 7 28 (.iaddr (.t 26) (.t 27) 2),
 oP 8 29 (.faddr 28 1),
 oP 9 30 (.ldG 29 (.c (.int .i64))),
 oP 4 25 (.call 85 [.t 21,.t 22,.t 24] [.c (.sl 2)]),
 ⟨9999,none,.reG 30 29 (.c (.int .i64)),none⟩,
 mV 10 4 25,
 mV 11 5 30,
 oP 12 6 (.move (kB true))]) .ret))))) }
def f (M:Mach) (C:Call) (e g h:Nat) (m:Int) (G:GH):Option Res:=(C F2.id [.c (.sl 2 e g h)] G).bind fun k=>(((k.1[0]?).bind V1.c?).bind (Cell.asS 2)).bind fun a=>(C F68.id [.c (.sl 2 e g h),.c (.int .i64 m)] k.2).bind fun d=>(((d.1[0]?).bind V1.c?).bind (Cell.asI .i64)).bind fun b=>(((d.1[1]?).bind V1.c?).bind Cell.asB).bind fun n=>bif (!n) then some ([.c (.sl 2 a.1 a.2.1 a.2.2),.c (.int .i64 0),.c (.bool false)],d.2) else guardK (decide (0≤b∧b<((h:Nat):Int))) (((d.2.ld e ((g+Int.toNat b*2)+1)).bind (Cell.asI .i64)).bind fun l=>(C F1.id [.c (.sl 2 a.1 a.2.1 a.2.2),.c (.int .i64 b),.c (.int .i64 (IntKind.i64.wrap (b+1)))] d.2).bind fun i=>(((i.1[0]?).bind V1.c?).bind (Cell.asS 2)).bind fun j=>((i.2.ld e ((g+Int.toNat b*2)+1)).bind (Cell.asI .i64)).bind fun o=>guardK (decide ((.c (.int .i64 l):V1) = .c (.int .i64 o))) (some ([.c (.sl 2 j.1 j.2.1 j.2.2),.c (.int .i64 l),.c (.bool true)],i.2)))
theorem eq (a b e:Nat) (g:Int) (G:GH):runF M C d [.c (.sl 2 a b e),.c (.int .i64 g)] G=f M C a b e g G:=by kernel_rfl
end F71
namespace F57
def d:DFn:={ ntmps:=29,res:=[.t 8,.t 9],body:=(.seq (.region [oP 0 4 (.boxv 28 [] (.t 0) 8),
 oP 1 8 (.move (kI 0)),
 oP 2 9 (.move (kI 0))]) (.seq (.region [oP 0 13 (.ldL 4 28 (.agg (iS 8))),
 mV 1 14 2,
 mV 2 15 3,
 oP 3 16 (.call 49 [.t 13,.t 14,.t 15] [.c (.int .i64),.c (.int .i64)]),
 mV 4 12 16,
 oP 5 17 (.ext 12 0),
 oP 6 18 (.ext 12 1),
 mV 7 10 17,
 mV 8 11 18]) (.seq (.seq (.region [mV 0 19 11,
 oP 1 20 (.cmp .neq .i64 (.t 19) (kI 0))]) (.cond (.t 20) (.seq (.region [mV 0 21 11,
 oP 1 8 (.move (kI 0)),
 mV 2 9 21]) .ret) .skip)) (.seq (.region [oP 0 22 (.ldL 4 28 (.agg (iS 8))),
 mV 1 23 1,
 mV 2 24 10,
 oP 3 25 (.call 46 [.t 22,.t 23,.t 24,.k (.c (.int .i64 1))] [.c (.int .i64),.c (.int .i64)]),
 oP 4 26 (.ext 25 0),
 oP 5 27 (.ext 25 1),
 mV 6 8 26,
 mV 7 9 27]) .ret)))) }
def f (M:Mach) (C:Call) (d e g h i j k l n o p:Int) (G:GH):Option Res:=(C F32.id [.agg [.int .i64 d,.int .i64 e,.int .i64 g,.int .i64 h,.int .i64 i,.int .i64 j,.int .i64 k,.int .i64 l],.c (.int .i64 o),.c (.int .i64 p)] G).bind fun a=>(((a.1[0]?).bind V1.c?).bind (Cell.asI .i64)).bind fun q=>(((a.1[1]?).bind V1.c?).bind (Cell.asI .i64)).bind fun m=>bif (!decide (m=0)) then some ([.c (.int .i64 0),.c (.int .i64 m)],a.2) else (C F63.id [.agg [.int .i64 d,.int .i64 e,.int .i64 g,.int .i64 h,.int .i64 i,.int .i64 j,.int .i64 k,.int .i64 l],.c (.int .i64 n),.c (.int .i64 q),.c (.int .i64 1)] a.2).bind fun b=>(((b.1[0]?).bind V1.c?).bind (Cell.asI .i64)).bind fun r=>(((b.1[1]?).bind V1.c?).bind (Cell.asI .i64)).bind fun s=>some ([.c (.int .i64 r),.c (.int .i64 s)],b.2)
theorem eq (a b e g h i j k l m n:Int) (G:GH):runF M C d [.agg [.int .i64 a,.int .i64 b,.int .i64 e,.int .i64 g,.int .i64 h,.int .i64 i,.int .i64 j,.int .i64 k],.c (.int .i64 l),.c (.int .i64 m),.c (.int .i64 n)] G=f M C a b e g h i j k l m n G:=by kernel_rfl
end F57
namespace F82
def d:DFn:={ ntmps:=38,res:=[.t 4,.t 5],body:=(.seq (.region [oP 0 2 (.boxv 36 [] (.t 0) 6),
 oP 1 4 (.move (.k (.c (.sl 8 0 0 0)))),
 oP 2 5 (.move (kI 0))]) (.seq (.region [oP 0 10 (.ldL 2 36 (.agg (iS 6))),
 oP 1 11 (.call 9 [.t 10] [.c (.ptr),.c (.int .i64)]),
 mV 2 9 11,
 oP 3 12 (.ext 9 0),
 oP 4 13 (.ext 9 1),
 mV 5 6 12,
 mV 6 5 13]) (.seq (.block 0 (.seq (.region [mV 0 15 5,
 oP 1 16 (.cmp .neq .i64 (.t 15) (kI 0)),
 mV 2 14 16]) (.cond (.t 14) (.seq (.region [mV 0 17 5,
 oP 1 4 (.move (.k (.c (.sl 8 0 0 0)))),
 mV 2 5 17]) .ret) (.seq (.region [mV 0 19 1,
 oP 1 20 (.len (.t 19)),
 oP 2 21 (.cmp .gtr .i64 (.t 20) (kI 5000)),
 mV 3 18 21]) (.cond (.t 18) (.seq (.region [oP 0 4 (.move (.k (.c (.sl 8 0 0 0)))),
 oP 1 5 (.move (kI 2))]) .ret) .skip))))) (.seq (.seq (.region [mV 0 22 1,
 oP 1 23 (.len (.t 22)),
 oP 2 24 (.move (kI 0))]) (.block 1 (.loop [4,6,22,23,24] (.seq (.region [oP 0 25 (.cmp .lss .i64 (.t 24) (.t 23))]) (.seq (.cond (.t 25) .skip (.exit 1)) (.seq (.block 2 (.seq (.region [oP 0 26 (.iaddr (.t 22) (.t 24) 6),
 oP 1 27 (.ldG 26 (.agg [.int .i64,.int .i64,.int .i64,.int .i64,.int .i64,.int .u8])),
 oP 2 8 (.boxz 37 [] [.int .i64 0,.int .i64 0,.int .i64 0,.int .i64 0,.int .i64 0,.int .u8 0]),
 ⟨3,none,.stL 8 37 (.t 27) 6,none⟩]) (.region [mV 0 28 4,
 mV 1 29 6,
 oP 2 30 (.ldL 8 37 (.agg [.int .i64,.int .i64,.int .i64,.int .i64,.int .i64,.int .u8])),
 oP 3 31 (.call 13 [.t 29,.t 30] [.agg sA]),
 oP 4 32 (.bslice 1 8 zA [(0,8,.t 31)]),
 oP 5 33 (.app (.t 28) (.t 32) 8 64),
 mV 6 4 33]))) (.region [oP 0 34 (.bin .add .i64 (.t 24) (kI 1)),
 mV 1 24 34]))))))) (.seq (.region [mV 0 35 4,
 mV 1 4 35,
 oP 2 5 (.move (kI 0))]) .ret))))) }
end F82
namespace F23
def d:DFn:={ ntmps:=32,res:=[],body:=(.seq (.region [oP 0 4 (.boxv 30 [14,25] (.t 1) 3),
 oP 1 5 (.boxv 31 [] (.t 2) 3)]) (.seq (.region [mV 0 6 0,
 oP 1 7 (.ldL 5 31 (.agg [.int .i64,.sl 2,.sl 2])),
 oP 2 8 (.nilck (.t 6)),
 oP 3 9 (.faddr 8 8),
 ⟨4,none,.stG 9 (.t 7) 3,none⟩]) (.seq (.region [mV 0 10 0,
 oP 1 11 (.nilck (.t 10)),
 oP 2 12 (.faddr 11 11),
 oP 3 13 (.ldG 12 (.c (.map))),
 oP 4 14 (.faddr 4 0),
 oP 5 15 (.ldL 14 30 (.c (.int .i64))),
 oP 6 16 (.build [.int .i64 0] [(0,1,.t 15)]),
 oP 7 17 (.ldL 4 30 (.agg (iS 3))),
 ⟨8,none,.mupd (.agg [.int .i64]) (.t 13) (.t 16) (.t 17),none⟩]) (.seq (.region [mV 0 18 0,
 oP 1 19 (.ldL 4 30 (.agg (iS 3))),
 oP 2 20 (.call 67 [.t 18,.t 19,.k (.c (.int .i64 1))] [])]) (.region [mV 0 21 0,
 oP 1 22 (.nilck (.t 21)),
 oP 2 23 (.faddr 22 12),
 oP 3 24 (.ldG 23 (.c (.int .i64))),
 oP 4 25 (.faddr 4 1),
 oP 5 26 (.ldL 25 30 (.c (.int .i64))),
 oP 6 27 (.bin .add .i64 (.t 24) (.t 26)),
 oP 7 28 (.nilck (.t 21)),
 oP 8 29 (.faddr 28 12),
 ⟨9,none,.stG 29 (.t 27) 1,none⟩]))))) }
def f (M:Mach) (C:Call) (a b:Nat) (d e h k:Int) (l m n o p q:Nat) (G:GH):Option Res:=guardK (!Nat.beq a 0) ((G.sts a (b+8) [.int .i64 k,.sl 2 l m n,.sl 2 o p q]).bind fun g=>guardK (!Nat.beq a 0) (((g.ld a (b+11)).bind Cell.asM).bind fun i=>(g.ents (.agg [.int .i64]) i).bind fun r=>let s:=g.set i (some (.map (.agg [.int .i64]) (mapPut r (.agg [.int .i64 d]) (.agg [.int .i64 d,.int .i64 e,.int .i64 h]))));(C F18.id [.c (.ptr a b),.agg [.int .i64 d,.int .i64 e,.int .i64 h],.c (.int .i64 1)] s).bind fun j=>guardK (!Nat.beq a 0) (((j.2.ld a (b+12)).bind (Cell.asI .i64)).bind fun t=>guardK (!Nat.beq a 0) ((j.2.sts a (b+12) [.int .i64 (IntKind.i64.wrap (t+e))]).bind fun v=>some ([],v)))))
theorem eq (a b:Nat) (e g h i:Int) (j k l m n o:Nat) (G:GH):runF M C d [.c (.ptr a b),.agg [.int .i64 e,.int .i64 g,.int .i64 h],.agg [.int .i64 i,.sl 2 j k l,.sl 2 m n o]] G=f M C a b e g h i j k l m n o G:=by kernel_rfl
end F23
namespace F80
def d:DFn:={ ntmps:=29,res:=[.t 4],body:=(.seq (.region [oP 0 3 (.boxv 28 [12] (.t 1) 2),
 oP 1 4 (.move (.k (.c (.sl 2 0 0 0))))]) (.seq (.region [mV 0 8 0,
 oP 1 9 (.call 83 [.t 8] [.c (.sl 2)]),
 mV 2 5 9]) (.seq (.region [mV 0 11 0,
 oP 1 12 (.faddr 3 0),
 oP 2 13 (.ldL 12 28 (.c (.int .i64))),
 oP 3 14 (.call 84 [.t 11,.t 13] [.c (.int .i64),.c (.bool)]),
 mV 4 10 14,
 oP 5 15 (.ext 10 0),
 oP 6 16 (.ext 10 1),
 mV 7 6 15,
 mV 8 7 16]) (.seq (.seq (.region [mV 0 17 7]) (.cond (.t 17) (.seq (.region [mV 0 18 5,
 mV 1 19 6,
 oP 2 20 (.ldL 3 28 (.agg (iS 2))),
 oP 3 21 (.iaddr (.t 18) (.t 19) 2),
 ⟨4,none,.stG 21 (.t 20) 2,none⟩]) (.seq (.region [mV 0 22 5,
 mV 1 4 22]) .ret)) .skip)) (.seq (.region [mV 0 23 5,
 mV 1 24 6,
 oP 2 25 (.ldL 3 28 (.agg (iS 2))),
 oP 3 26 (.bslice 1 2 (zI 2) [(0,2,.t 25)]),
 oP 4 27 (.call 90 [.t 23,.t 24,.t 26] [.c (.sl 2)]),
 mV 5 4 27]) .ret))))) }
def f (M:Mach) (C:Call) (h i j:Nat) (e k:Int) (G:GH):Option Res:=(C F2.id [.c (.sl 2 h i j)] G).bind fun l=>(((l.1[0]?).bind V1.c?).bind (Cell.asS 2)).bind fun a=>(C F68.id [.c (.sl 2 h i j),.c (.int .i64 e)] l.2).bind fun b=>(((b.1[0]?).bind V1.c?).bind (Cell.asI .i64)).bind fun d=>(((b.1[1]?).bind V1.c?).bind Cell.asB).bind fun n=>bif n then guardK (decide (0≤d∧d<((a.2.2:Nat):Int))) ((b.2.sts a.1 (a.2.1+Int.toNat d*2) [.int .i64 e,.int .i64 k]).bind fun o=>some ([.c (.sl 2 a.1 a.2.1 a.2.2)],o)) else let p:=b.2.alloc (.row [.int .i64 e,.int .i64 k] false);(C F0.id [.c (.sl 2 a.1 a.2.1 a.2.2),.c (.int .i64 d),.c (.sl 2 b.2.next 0 1)] p).bind fun m=>(((m.1[0]?).bind V1.c?).bind (Cell.asS 2)).bind fun g=>some ([.c (.sl 2 g.1 g.2.1 g.2.2)],m.2)
theorem eq (a b e:Nat) (g h:Int) (G:GH):runF M C d [.c (.sl 2 a b e),.agg [.int .i64 g,.int .i64 h]] G=f M C a b e g h G:=by kernel_rfl
end F80
namespace F50
def d:DFn:={ ntmps:=10,res:=[.t 4],body:=(.seq (.region [oP 0 2 (.boxv 9 [5] (.t 0) 2),
 oP 1 4 (.move (kI 0))]) (.seq (.region [oP 0 5 (.faddr 2 0),
 oP 1 6 (.ldL 5 9 (.c (.int .i64))),
 mV 2 7 1,
 oP 3 8 (.call 93 [.t 6,.t 7] [.c (.int .i64)]),
 mV 4 4 8]) .ret)) }
def f (M:Mach) (C:Call) (b g d:Int) (G:GH):Option Res:=(C F22.id [.c (.int .i64 b),.c (.int .i64 d)] G).bind fun a=>(((a.1[0]?).bind V1.c?).bind (Cell.asI .i64)).bind fun e=>some ([.c (.int .i64 e)],a.2)
theorem eq (a b e:Int) (G:GH):runF M C d [.agg [.int .i64 a,.int .i64 b],.c (.int .i64 e)] G=f M C a b e G:=by kernel_rfl
end F50

end Go.Proofs.D
