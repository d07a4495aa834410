/- Texts of the proof (T3); no condition. -/
import Derived.Test.YtogdeblppihbnaaGreatTopCeila
import Derived.KernelRfl
set_option linter.unusedSimpArgs false
set_option linter.unusedVariables false
set_option linter.unusedVariables false
set_option maxRecDepth 100000
namespace Go.Proofs.D
open Go
variable (M:Mach) (C:Call)
namespace F29
def c20:DCode:=(.seq (.region [oP 0 14 (.cmp .lss .i64 (.t 13) (.t 12))]) (.seq (.cond (.t 14) .skip (.exit 0)) (.seq (.block 1 (.seq (.region [oP 0 15 (.iaddr (.t 11) (.t 13) 2),
 oP 1 16 (.ldG 15 (.agg (iS 2))),
 oP 2 4 (.boxz 30 [22] (zI 2)),
 ⟨3,none,.stL 4 30 (.t 16) 2,none⟩]) (.region [mV 0 17 2,
 mV 1 18 0,
 oP 2 19 (.nilck (.t 18)),
 oP 3 20 (.faddr 19 11),
 oP 4 21 (.ldG 20 (.c (.map))),
 oP 5 22 (.faddr 4 0),
 oP 6 23 (.ldL 22 30 (.c (.int .i64))),
 oP 7 24 (.build [.int .i64 0] [(0,1,.t 23)]),
 oP 8 25 (.lkup (.agg [.int .i64]) (.t 21) (.t 24) (.agg (zI 3)) (.agg (iS 3)) false),
 oP 9 26 (.bslice 1 3 (zI 3) [(0,3,.t 25)]),
 oP 10 27 (.app (.t 17) (.t 26) 3 24),
 mV 11 2 27]))) (.region [oP 0 28 (.bin .add .i64 (.t 13) (kI 1)),
 mV 1 13 28]))))
def c26:DCode:=(.seq (.region [mV 0 29 2,
 mV 1 2 29]) .ret)
def d:DFn:={ ntmps:=31,res:=[.t 2],body:=(.seq (.region [oP 0 2 (.move (.k (.c (.sl 3 0 0 0))))]) (.seq (.seq (.region [mV 0 5 0,
 oP 1 6 (.pnil false (.t 5))]) (.cond (.t 6) (.seq (.region [oP 0 2 (.move (.k (.c (.sl 3 0 0 0))))]) .ret) .skip)) (.seq (.seq (.region [mV 0 7 0,
 oP 1 8 (.nilck (.t 7)),
 oP 2 9 (.faddr 8 8),
 oP 3 10 (.faddr 9 2),
 oP 4 11 (.ldG 10 (.c (.sl 2))),
 oP 5 12 (.len (.t 11)),
 oP 6 13 (.move (kI 0))]) (.block 0 (.loop [0,2,11,12,13] c20))) c26))) }
def k26:Kont:=execC M.j C (M.ag C) c26 ({ exits:=[],ret:=retK d }:Env) (retK d)
def e22:Env:={ exits:=(0,(k26 M C))::(({ exits:=[],ret:=retK d }:Env)).exits,ret:=(({ exits:=[],ret:=retK d }:Env)).ret }
def L21 (a b c d e f g h:Nat) (i j:Int) (G:GH):Option Res:=M.ag C [0,2,11,12,13] c20 (e22 M C) (k26 M C) (vP a b::(uS 1 (vS 3 c d e::(uS 8 (vS 2 f g h::(vI i::(vI j::(uS 17 [])))))))) G
theorem L21_eq (e i j k d f g l:Nat) (m b:Int) (G:GH):L21 M C e i j k d f g l m b G=(bif decide (b<m) then guardK (decide (0≤b∧b<((l:Nat):Int))) (((G.ld f ((g+Int.toNat b*2)+0)).bind (Cell.asI .i64)).bind fun p=>((G.ld f ((g+Int.toNat b*2)+1)).bind (Cell.asI .i64)).bind fun x=>guardK (!Nat.beq e 0) (((G.ld e (i+11)).bind Cell.asM).bind fun q=>(G.ents0 (.agg [.int .i64]) q).bind fun r=>(((some ((mapGet r (.agg [.int .i64 p])).getD (.agg [.int .i64 0,.int .i64 0,.int .i64 0])))).bind V1.a?).bind fun h=>if h.length=3 then (((h[0]?).bind (Cell.asI .i64)).bind fun s=>((h[1]?).bind (Cell.asI .i64)).bind fun t=>((h[2]?).bind (Cell.asI .i64)).bind fun v=>let o:=G.alloc (.row [.int .i64 s,.int .i64 t,.int .i64 v] false);(if 1=0 then some [] else o.lds G.next 0 (1*3)).bind fun w=>guardK (decide (d+1≤most)) ((o.app j k d 3 1 w).bind fun n=>L21 M C e i n.1 n.2.1 (d+1) f g l m (IntKind.i64.wrap (b+1)) n.2.2)) else none)) else some ([.c (.sl 3 j k d)],G)):=(M.hs _ _ _ _ _ _ _).trans (by kernel_rfl)
def f (a d:Nat) (G:GH):Option Res:=bif Bool.xor false (Nat.beq a 0) then some ([.c (.sl 3 0 0 0)],G) else guardK (!Nat.beq a 0) (((G.ld a ((d+8)+2)).bind (Cell.asS 2)).bind fun b=>L21 M C a d 0 0 0 b.1 b.2.1 b.2.2 ((b.2.2:Nat):Int) 0 G)
theorem eq (a b:Nat) (G:GH):runF M C d [.c (.ptr a b)] G=f M C a b G:=by kernel_rfl
end F29
namespace F76
def d:DFn:={ ntmps:=50,res:=[.box 4 (some 3),.t 5,.t 6],body:=(.seq (.region [oP 0 2 (.boxv 48 [11,25,28,38,39,45] (.t 0) 3),
 oP 1 4 (.boxz 49 [] [.int .i64 0,.sl 2 0 0 0,.sl 2 0 0 0]),
 oP 2 5 (.move (kI 0)),
 oP 3 6 (.move (kB false))]) (.seq (.region [oP 0 11 (.faddr 2 1),
 oP 1 12 (.ldL 11 48 (.agg [.sl 2])),
 mV 2 13 1,
 oP 3 14 (.call 102 [.t 12,.t 13] [.c (.int .i64),.c (.bool)]),
 mV 4 10 14,
 oP 5 15 (.ext 10 0),
 oP 6 16 (.ext 10 1),
 mV 7 7 15,
 mV 8 8 16]) (.seq (.seq (.region [mV 0 17 8,
 oP 1 18 (.not (.t 17))]) (.cond (.t 18) (.seq (.region [oP 0 19 (.ldL 2 48 (.agg [.int .i64,.sl 2,.sl 2])),
 oP 1 20 (.call 97 [.t 19] [.agg [.int .i64,.sl 2,.sl 2]]),
 ⟨2,none,.stL 4 49 (.t 20) 3,none⟩,
 oP 3 5 (.move (kI 0)),
 oP 4 6 (.move (kB false))]) .ret) .skip)) (.seq (.region [mV 0 21 7,
 mV 1 22 1,
 oP 2 23 (.conv .u64 (.t 22)),
 oP 3 24 (.bin .shl .i64 (.t 21) (.t 23)),
 oP 4 25 (.faddr 2 0),
 oP 5 26 (.ldL 25 48 (.c (.int .i64))),
 oP 6 27 (.bin .mul .i64 (.t 24) (.t 26)),
 mV 7 9 27]) (.seq (.region [oP 0 28 (.faddr 2 1),
 oP 1 29 (.ldL 28 48 (.agg [.sl 2])),
 mV 2 30 7,
 mV 3 31 1,
 oP 4 32 (.conv .u64 (.t 31)),
 oP 5 33 (.bin .shl .i64 (.t 30) (.t 32)),
 mV 6 34 1,
 oP 7 35 (.conv .u64 (.t 34)),
 oP 8 36 (.bin .shl .i64 (kI 1) (.t 35)),
 oP 9 37 (.call 98 [.t 29,.t 33,.t 36,.k (.c (.bool true))] [.agg [.sl 2]]),
 oP 10 38 (.faddr 2 1),
 ⟨11,none,.stL 38 48 (.t 37) 1,none⟩]) (.seq (.region [oP 0 39 (.faddr 2 2),
 oP 1 40 (.ldL 39 48 (.c (.sl 2))),
 mV 2 41 9,
 mV 3 42 1,
 oP 4 43 (.build (zI 2) [(0,1,.t 41),(1,1,.t 42)]),
 oP 5 44 (.call 103 [.t 40,.t 43] [.c (.sl 2)]),
 oP 6 45 (.faddr 2 2),
 ⟨7,none,.stL 45 48 (.t 44) 1,none⟩]) (.seq (.region [oP 0 46 (.ldL 2 48 (.agg [.int .i64,.sl 2,.sl 2])),
 mV 1 47 9,
 ⟨2,none,.stL 4 49 (.t 46) 3,none⟩,
 mV 3 5 47,
 oP 4 6 (.move (kB true))]) .ret))))))) }
def f (M:Mach) (C:Call) (d:Int) (h i j o p q:Nat) (b:Int) (G:GH):Option Res:=(C F67.id [.agg [.sl 2 h i j],.c (.int .i64 b)] G).bind fun e=>(((e.1[0]?).bind V1.c?).bind (Cell.asI .i64)).bind fun r=>(((e.1[1]?).bind V1.c?).bind Cell.asB).bind fun y=>bif (!y) then (C F86.id [.agg [.int .i64 d,.sl 2 h i j,.sl 2 o p q]] e.2).bind fun s=>((s.1[0]?).bind V1.a?).bind fun g=>if g.length=3 then (((g[0]?).bind (Cell.asI .i64)).bind fun z=>((g[1]?).bind (Cell.asS 2)).bind fun k=>((g[2]?).bind (Cell.asS 2)).bind fun l=>some ([.agg [.int .i64 z,.sl 2 k.1 k.2.1 k.2.2,.sl 2 l.1 l.2.1 l.2.2],.c (.int .i64 0),.c (.bool false)],s.2)) else none else (binD .shl .i64 r (IntKind.u64.wrap b)).bind fun t=>(binD .shl .i64 r (IntKind.u64.wrap b)).bind fun A=>(binD .shl .i64 1 (IntKind.u64.wrap b)).bind fun B=>(C F97.id [.agg [.sl 2 h i j],.c (.int .i64 A),.c (.int .i64 B),.c (.bool true)] e.2).bind fun v=>((v.1[0]?).bind V1.a?).bind fun w=>if w.length=1 then (((w[0]?).bind (Cell.asS 2)).bind fun m=>(C F111.id [.c (.sl 2 o p q),.agg [.int .i64 (IntKind.i64.wrap (t*d)),.int .i64 b]] v.2).bind fun x=>(((x.1[0]?).bind V1.c?).bind (Cell.asS 2)).bind fun n=>some ([.agg [.int .i64 d,.sl 2 m.1 m.2.1 m.2.2,.sl 2 n.1 n.2.1 n.2.2],.c (.int .i64 (IntKind.i64.wrap (t*d))),.c (.bool true)],x.2)) else none
theorem eq (a:Int) (b e g h i j:Nat) (k:Int) (G:GH):runF M C d [.agg [.int .i64 a,.sl 2 b e g,.sl 2 h i j],.c (.int .i64 k)] G=f M C a b e g h i j k G:=by kernel_rfl
end F76
namespace F106
def c6:DCode:=(.cond (.t 9) (.seq (.region [oP 0 10 (.ldL 2 28 (.agg [.int .i64,.sl 1])),
 ⟨1,none,.stL 2 28 (.t 10) 2,none⟩]) .ret) .skip)
def c21:DCode:=(.seq (.block 1 (.seq (.region [oP 0 18 (.faddr 2 1),
 oP 1 19 (.ldL 18 28 (.c (.sl 1))),
 mV 2 20 3,
 oP 3 21 (.call 81 [.t 20] [.c (.sl 1)]),
 oP 4 22 (.bslice 1 1 [.sl 1 0 0 0] [(0,1,.t 21)]),
 oP 5 23 (.app (.t 19) (.t 22) 1 24),
 oP 6 24 (.faddr 2 1),
 ⟨7,none,.stL 24 28 (.t 23) 1,none⟩]) (.seq (.region [mV 0 25 3,
 oP 1 26 (.cmp .leq .i64 (.t 25) (kI 64))]) (.cond (.t 26) (.seq (.region [oP 0 27 (.ldL 2 28 (.agg [.int .i64,.sl 1])),
 ⟨1,none,.stL 2 28 (.t 27) 2,none⟩]) .ret) .skip)))) (.region [mV 0 14 3,
 oP 1 15 (.bin .sub .i64 (.t 14) (kI 1)),
 oP 2 16 (.bin .quo .i64 (.t 15) (kI 64)),
 oP 3 17 (.bin .add .i64 (.t 16) (kI 1)),
 mV 4 3 17]))
def c25:DCode:=(.seq (.region [mV 0 11 0,
 oP 1 12 (.faddr 2 0),
 ⟨2,none,.stL 12 28 (.t 11) 1,none⟩]) (.seq (.region [mV 0 13 0,
 mV 1 3 13]) (.block 0 (.loop [2,3,28] c21))))
def d:DFn:={ ntmps:=29,res:=[.box 2 (some 2)],body:=(.seq (.region [oP 0 2 (.boxz 28 [12,18,24] [.int .i64 0,.sl 1 0 0 0])]) (.seq (.seq (.region [mV 0 4 0,
 oP 1 5 (.cmp .lss .i64 (.t 4) (kI 1)),
 mV 2 6 5,
 ⟨3,some 7,.move (.t 0),some (6,false)⟩,
 ⟨4,some 8,.cmp .gtr .i64 (.t 7) (kI 65536),some (6,false)⟩,
 oP 5 9 (.pick (.t 6) (kB true) (.t 8))]) (.cut [0,2,9,28] c6)) c25)) }
def k25:Kont:=execC M.j C (M.ag C) c25 ({ exits:=[],ret:=retK d }:Env) (retK d)
def J6 (a:Int) (b:Bool) (c:Int) (e f g:Nat) (G:GH):Option Res:=M.j (execC M.j C (M.ag C) c6 ({ exits:=[],ret:=retK d }:Env) (k25 M C)) (vI a::(uS 1 (.ref 28 0::(uS 6 (vB b::(uS 18 (.box [.int .i64 c,.sl 1 e f g]::[]))))))) G
def e23 (M:Mach) (C:Call):Env:={ exits:=(0,(retK d))::(({ exits:=[],ret:=retK d }:Env)).exits,ret:=(({ exits:=[],ret:=retK d }:Env)).ret }
def L22 (a b:Int) (c e f:Nat) (G:GH):Option Res:=M.ag C [2,3,28] c21 (e23 M C) (retK d) (uS 2 (.ref 28 0::(vI a::(uS 24 (.box [.int .i64 b,.sl 1 c e f]::[]))))) G
theorem J6_eq (a:Int) (e:Bool) (f:Int) (b c d:Nat) (G:GH):J6 M C a e f b c d G=(bif e then some ([.agg [.int .i64 f,.sl 1 b c d]],G) else L22 M C a a b c d G):=(M.hj _ _ _).trans (by kernel_rfl)
theorem L22_eq (d e:Int) (h i b:Nat) (G:GH):L22 M C d e h i b G=((C F83.id [.c (.int .i64 d)] G).bind fun f=>(((f.1[0]?).bind V1.c?).bind (Cell.asS 1)).bind fun g=>let j:=f.2.alloc (.row [.sl 1 g.1 g.2.1 g.2.2] false);(if 1=0 then some [] else j.lds f.2.next 0 (1*1)).bind fun k=>guardK (decide (b+1≤most)) ((j.app h i b 1 1 k).bind fun a=>bif decide (d≤64) then some ([.agg [.int .i64 e,.sl 1 a.1 a.2.1 (b+1)]],a.2.2) else L22 M C (IntKind.i64.wrap ((IntKind.i64.wrap (Int.tdiv (IntKind.i64.wrap (d-1)) 64))+1)) e a.1 a.2.1 (b+1) a.2.2)):=(M.hs _ _ _ _ _ _ _).trans (by kernel_rfl)
def f (a:Int) (G:GH):Option Res:=bif decide (a<1) then J6 M C a true 0 0 0 0 G else J6 M C a (decide (a>65536)) 0 0 0 0 G
theorem eq (a:Int) (G:GH):runF M C d [.c (.int .i64 a)] G=f M C a G:=by kernel_rfl
end F106
namespace F10
def c6:DCode:=(.cond (.t 18) (.seq (.region [oP 0 4 (.move (kI 0))]) .ret) .skip)
def c12:DCode:=(.seq (.region [mV 0 19 0,
 oP 1 20 (.nilck (.t 19)),
 oP 2 21 (.faddr 20 1),
 oP 3 22 (.ldG 21 (.c (.int .i64))),
 oP 4 23 (.bin .add .i64 (.t 22) (kI 1)),
 oP 5 24 (.nilck (.t 19)),
 oP 6 25 (.faddr 24 1),
 ⟨7,none,.stG 25 (.t 23) 1,none⟩]) (.seq (.region [mV 0 26 0,
 oP 1 27 (.nilck (.t 26)),
 oP 2 28 (.faddr 27 0),
 oP 3 29 (.ldG 28 (.c (.sl 1))),
 mV 4 30 0,
 oP 5 31 (.nilck (.t 30)),
 oP 6 32 (.faddr 31 1),
 oP 7 33 (.ldG 32 (.c (.int .i64))),
 oP 8 34 (.bin .sub .i64 (.t 33) (kI 1)),
 oP 9 35 (.iaddr (.t 29) (.t 34) 1),
 oP 10 36 (.ldG 35 (.c (.int .u8))),
 oP 11 37 (.conv .i64 (.t 36)),
 mV 12 38 1,
 oP 13 39 (.bin .rem .i64 (.t 37) (.t 38)),
 mV 14 4 39]) .ret))
def d:DFn:={ ntmps:=40,res:=[.t 4],body:=(.seq (.region [oP 0 4 (.move (kI 0))]) (.seq (.seq (.region [mV 0 5 0,
 oP 1 6 (.nilck (.t 5)),
 oP 2 7 (.faddr 6 1),
 oP 3 8 (.ldG 7 (.c (.int .i64))),
 mV 4 9 0,
 oP 5 10 (.nilck (.t 9)),
 oP 6 11 (.faddr 10 0),
 oP 7 12 (.ldG 11 (.c (.sl 1))),
 oP 8 13 (.len (.t 12)),
 oP 9 14 (.cmp .geq .i64 (.t 8) (.t 13)),
 mV 10 15 14,
 ⟨11,some 16,.move (.t 1),some (15,false)⟩,
 ⟨12,some 17,.cmp .lss .i64 (.t 16) (kI 1),some (15,false)⟩,
 oP 13 18 (.pick (.t 15) (kB true) (.t 17))]) (.cut [0,1,18] c6)) c12)) }
def k12:Kont:=execC M.j C (M.ag C) c12 ({ exits:=[],ret:=retK d }:Env) (retK d)
def J6 (a b:Nat) (c:Int) (e:Bool) (G:GH):Option Res:=M.j (execC M.j C (M.ag C) c6 ({ exits:=[],ret:=retK d }:Env) (k12 M C)) (vP a b::(vI c::(uS 16 (vB e::(uS 21 []))))) G
theorem J6_eq (a b:Nat) (g:Int) (h:Bool) (G:GH):J6 M C a b g h G=(bif h then some ([.c (.int .i64 0)],G) else guardK (!Nat.beq a 0) (((G.ld a (b+1)).bind (Cell.asI .i64)).bind fun i=>guardK (!Nat.beq a 0) ((G.sts a (b+1) [.int .i64 (IntKind.i64.wrap (i+1))]).bind fun d=>guardK (!Nat.beq a 0) (((d.ld a (b+0)).bind (Cell.asS 1)).bind fun e=>guardK (!Nat.beq a 0) (((d.ld a (b+1)).bind (Cell.asI .i64)).bind fun f=>guardK (decide (0≤IntKind.i64.wrap (f-1)∧IntKind.i64.wrap (f-1)<((e.2.2:Nat):Int))) (((d.ld e.1 (e.2.1+Int.toNat (IntKind.i64.wrap (f-1))*1)).bind (Cell.asI .u8)).bind fun j=>(binD .rem .i64 (IntKind.i64.wrap j) g).bind fun k=>some ([.c (.int .i64 k)],d))))))):=(M.hj _ _ _).trans (by kernel_rfl)
def f (a b:Nat) (c:Int) (G:GH):Option Res:=guardK (!Nat.beq a 0) (((G.ld a (b+1)).bind (Cell.asI .i64)).bind fun d=>guardK (!Nat.beq a 0) (((G.ld a (b+0)).bind (Cell.asS 1)).bind fun e=>bif decide (d≥((e.2.2:Nat):Int)) then J6 M C a b c true G else J6 M C a b c (decide (c<1)) G))
theorem eq (a b:Nat) (e:Int) (G:GH):runF M C d [.c (.ptr a b),.c (.int .i64 e)] G=f M C a b e G:=by kernel_rfl
end F10
namespace F31
def c12:DCode:=(.seq (.seq (.region [mV 0 23 8,
 mV 1 24 7,
 mV 2 25 0,
 oP 3 26 (.nilck (.t 25)),
 oP 4 27 (.faddr 26 15),
 oP 5 28 (.ldG 27 (.c (.sl 1))),
 oP 6 29 (.len (.t 28)),
 oP 7 30 (.mn (.t 24) [.t 29]),
 oP 8 31 (.cmp .lss .i64 (.t 23) (.t 30))]) (.cond (.t 31) .skip (.exit 0))) (.seq (.block 1 (.region [mV 0 34 0,
 oP 1 35 (.nilck (.t 34)),
 oP 2 36 (.faddr 35 15),
 oP 3 37 (.ldG 36 (.c (.sl 1))),
 mV 4 38 8,
 oP 5 39 (.iaddr (.t 37) (.t 38) 1),
 oP 6 40 (.ldG 39 (.c (.int .i64))),
 mV 7 41 2,
 oP 8 42 (.bin .add .i64 (.t 40) (.t 41)),
 oP 9 43 (.iaddr (.t 37) (.t 38) 1),
 ⟨10,none,.stG 43 (.t 42) 1,none⟩])) (.region [mV 0 32 8,
 oP 1 33 (.bin .add .i64 (.t 32) (kI 1)),
 mV 2 8 33])))
def d:DFn:={ ntmps:=45,res:=[],body:=(.seq (.region [oP 0 4 (.boxv 44 [15,17] (.t 1) 3)]) (.seq (.region [mV 0 10 0,
 oP 1 11 (.nilck (.t 10)),
 oP 2 12 (.faddr 11 0),
 oP 3 13 (.faddr 12 4),
 oP 4 14 (.ldG 13 (.c (.int .i64))),
 oP 5 15 (.faddr 4 0),
 oP 6 16 (.ldL 15 44 (.c (.int .i64))),
 oP 7 17 (.faddr 4 1),
 oP 8 18 (.ldL 17 44 (.c (.int .i64))),
 oP 9 19 (.call 93 [.t 14,.t 16,.t 18] [.c (.int .i64),.c (.int .i64)]),
 mV 10 9 19,
 oP 11 20 (.ext 9 0),
 oP 12 21 (.ext 9 1),
 mV 13 6 20,
 mV 14 7 21]) (.seq (.region [mV 0 22 6,
 mV 1 8 22]) (.block 0 (.loop [0,2,7,8] c12))))) }
def e14 (M:Mach) (C:Call):Env:={ exits:=(0,(retK d))::(({ exits:=[],ret:=retK d }:Env)).exits,ret:=(({ exits:=[],ret:=retK d }:Env)).ret }
def L13 (a b:Nat) (c e f:Int) (G:GH):Option Res:=M.ag C [0,2,7,8] c12 (e14 M C) (retK d) (vP a b::(uS 1 (vI c::(uS 4 (vI e::(vI f::(uS 36 []))))))) G
theorem L13_eq (b d:Nat) (e f a:Int) (G:GH):L13 M C b d e f a G=(guardK (!Nat.beq b 0) (((G.ld b (d+15)).bind (Cell.asS 1)).bind fun g=>bif decide (a<mn2 f ((g.2.2:Nat):Int)) then guardK (!Nat.beq b 0) (((G.ld b (d+15)).bind (Cell.asS 1)).bind fun c=>guardK (decide (0≤a∧a<((c.2.2:Nat):Int))) (((G.ld c.1 (c.2.1+Int.toNat a*1)).bind (Cell.asI .i64)).bind fun h=>guardK (decide (0≤a∧a<((c.2.2:Nat):Int))) ((G.sts c.1 (c.2.1+Int.toNat a*1) [.int .i64 (IntKind.i64.wrap (h+e))]).bind fun i=>L13 M C b d e f (IntKind.i64.wrap (a+1)) i))) else some ([],G))):=(M.hs _ _ _ _ _ _ _).trans (by kernel_rfl)
def f (a d:Nat) (e g l h:Int) (G:GH):Option Res:=guardK (!Nat.beq a 0) (((G.ld a ((d+0)+4)).bind (Cell.asI .i64)).bind fun i=>(C F94.id [.c (.int .i64 i),.c (.int .i64 e),.c (.int .i64 g)] G).bind fun b=>(((b.1[0]?).bind V1.c?).bind (Cell.asI .i64)).bind fun j=>(((b.1[1]?).bind V1.c?).bind (Cell.asI .i64)).bind fun k=>L13 M C a d h k j b.2)
theorem eq (a b:Nat) (e g h i:Int) (G:GH):runF M C d [.c (.ptr a b),.agg [.int .i64 e,.int .i64 g,.int .i64 h],.c (.int .i64 i)] G=f M C a b e g h i G:=by kernel_rfl
end F31
namespace F35
def d:DFn:={ ntmps:=29,res:=[.box 2 (some 14),.t 3],body:=(.seq (.region [oP 0 1 (.boxv 26 [] (.t 0) 6),
 oP 1 2 (.boxz 27 [] [.int .i64 0,.int .i64 0,.int .i64 0,.int .i64 0,.int .i64 0,.int .i64 0,.int .i64 0,.int .i64 0,.sl 3 0 0 0,.int .i64 0,.int .i64 0,.int .i64 0,.sl 1 0 0 0,.sl 1 0 0 0]),
 oP 2 3 (.move (kI 0))]) (.seq (.region [oP 0 7 (.ldL 1 26 (.agg (iS 6))),
 oP 1 8 (.call 40 [.t 7] [.agg (iS 8),.c (.int .i64)]),
 mV 2 6 8,
 oP 3 9 (.ext 6 0),
 oP 4 10 (.ext 6 1),
 oP 5 4 (.boxz 28 [16,18,22] (zI 8)),
 ⟨6,none,.stL 4 28 (.t 9) 8,none⟩,
 mV 7 5 10]) (.seq (.seq (.region [mV 0 11 5,
 oP 1 12 (.cmp .neq .i64 (.t 11) (kI 0))]) (.cond (.t 12) (.seq (.region [oP 0 13 (.build [.int .i64 0,.int .i64 0,.int .i64 0,.int .i64 0,.int .i64 0,.int .i64 0,.int .i64 0,.int .i64 0,.sl 3 0 0 0,.int .i64 0,.int .i64 0,.int .i64 0,.sl 1 0 0 0,.sl 1 0 0 0] []),
 mV 1 14 5,
 ⟨2,none,.stL 2 27 (.t 13) 14,none⟩,
 mV 3 3 14]) .ret) .skip)) (.seq (.region [oP 0 15 (.ldL 4 28 (.agg (iS 8))),
 oP 1 16 (.faddr 4 6),
 oP 2 17 (.ldL 16 28 (.c (.int .i64))),
 oP 3 18 (.faddr 4 4),
 oP 4 19 (.ldL 18 28 (.c (.int .i64))),
 oP 5 20 (.bin .quo .i64 (.t 17) (.t 19)),
 oP 6 21 (.mkslice (.t 20) 1 1 [.bool false]),
 oP 7 22 (.faddr 4 6),
 oP 8 23 (.ldL 22 28 (.c (.int .i64))),
 oP 9 24 (.mkslice (.t 23) 1 1 [.int .u8 0]),
 oP 10 25 (.build [.int .i64 0,.int .i64 0,.int .i64 0,.int .i64 0,.int .i64 0,.int .i64 0,.int .i64 0,.int .i64 0,.sl 3 0 0 0,.int .i64 0,.int .i64 0,.int .i64 0,.sl 1 0 0 0,.sl 1 0 0 0] [(0,8,.t 15),(12,1,.t 21),(13,1,.t 24)]),
 ⟨11,none,.stL 2 27 (.t 25) 14,none⟩,
 oP 12 3 (.move (kI 0))]) .ret)))) }
def f (M:Mach) (C:Call) (k l m n o p:Int) (G:GH):Option Res:=(C F63.id [.agg [.int .i64 k,.int .i64 l,.int .i64 m,.int .i64 n,.int .i64 o,.int .i64 p]] G).bind fun e=>((e.1[0]?).bind V1.a?).bind fun b=>if b.length=8 then (((b[0]?).bind (Cell.asI .i64)).bind fun q=>((b[1]?).bind (Cell.asI .i64)).bind fun r=>((b[2]?).bind (Cell.asI .i64)).bind fun s=>((b[3]?).bind (Cell.asI .i64)).bind fun t=>((b[4]?).bind (Cell.asI .i64)).bind fun h=>((b[5]?).bind (Cell.asI .i64)).bind fun v=>((b[6]?).bind (Cell.asI .i64)).bind fun d=>((b[7]?).bind (Cell.asI .i64)).bind fun w=>(((e.1[1]?).bind V1.c?).bind (Cell.asI .i64)).bind fun i=>bif (!decide (i=0)) then some ([.agg [.int .i64 0,.int .i64 0,.int .i64 0,.int .i64 0,.int .i64 0,.int .i64 0,.int .i64 0,.int .i64 0,.sl 3 0 0 0,.int .i64 0,.int .i64 0,.int .i64 0,.sl 1 0 0 0,.sl 1 0 0 0],.c (.int .i64 i)],e.2) else (binD .quo .i64 d h).bind fun g=>guardK (decide (0≤g∧g≤(most:Int))) (let j:=e.2.alloc (.row (reps (Int.toNat g) [.bool false]) false);guardK (decide (0≤d∧d≤(most:Int))) (let x:=j.alloc (.row (reps (Int.toNat d) [.int .u8 0]) false);some ([.agg [.int .i64 q,.int .i64 r,.int .i64 s,.int .i64 t,.int .i64 h,.int .i64 v,.int .i64 d,.int .i64 w,.sl 3 0 0 0,.int .i64 0,.int .i64 0,.int .i64 0,.sl 1 e.2.next 0 (Int.toNat g),.sl 1 j.next 0 (Int.toNat d)],.c (.int .i64 0)],x)))) else none
theorem eq (a b c e g h:Int) (G:GH):runF M C d [.agg [.int .i64 a,.int .i64 b,.int .i64 c,.int .i64 e,.int .i64 g,.int .i64 h]] G=f M C a b c e g h G:=by kernel_rfl
end F35
namespace F93
def c15:DCode:=(.cond (.t 37) (.seq (.region [oP 0 8 (.move (kI 0)),
 oP 1 9 (.move (kI 5))]) .ret) .skip)
def c20:DCode:=(.seq (.region [mV 0 38 10,
 mV 1 8 38,
 oP 2 9 (.move (kI 0))]) .ret)
def d:DFn:={ ntmps:=40,res:=[.t 8,.t 9],body:=(.seq (.region [oP 0 4 (.boxv 39 [34] (.t 0) 8),
 oP 1 8 (.move (kI 0)),
 oP 2 9 (.move (kI 0))]) (.seq (.region [oP 0 15 (.ldL 4 39 (.agg (iS 8))),
 mV 1 16 2,
 mV 2 17 3,
 oP 3 18 (.call 70 [.t 15,.t 16,.t 17] [.c (.int .i64),.c (.int .i64)]),
 mV 4 14 18,
 oP 5 19 (.ext 14 0),
 oP 6 20 (.ext 14 1),
 mV 7 10 19,
 mV 8 11 20]) (.seq (.seq (.region [mV 0 21 11,
 oP 1 22 (.cmp .neq .i64 (.t 21) (kI 0))]) (.cond (.t 22) (.seq (.region [mV 0 23 11,
 oP 1 8 (.move (kI 0)),
 mV 2 9 23]) .ret) .skip)) (.seq (.seq (.region [mV 0 25 1,
 mV 1 26 10,
 oP 2 27 (.call 59 [.t 25,.t 26] [.c (.int .i64),.c (.bool)]),
 mV 3 24 27,
 oP 4 28 (.ext 24 0),
 oP 5 29 (.ext 24 1),
 mV 6 12 28,
 mV 7 13 29]) (.seq (.region [mV 0 30 13,
 oP 1 31 (.not (.t 30)),
 mV 2 32 31,
 ⟨3,some 33,.move (.t 12),some (32,false)⟩,
 ⟨4,some 34,.faddr 4 2,some (32,false)⟩,
 ⟨5,some 35,.ldL 34 39 (.c (.int .i64)),some (32,false)⟩,
 ⟨6,some 36,.cmp .gtr .i64 (.t 33) (.t 35),some (32,false)⟩,
 oP 7 37 (.pick (.t 32) (kB true) (.t 36))]) (.cut [10,37] c15))) c20)))) }
def k20:Kont:=execC M.j C (M.ag C) c20 ({ exits:=[],ret:=retK d }:Env) (retK d)
def J15 (a:Int) (b:Bool) (G:GH):Option Res:=M.j (execC M.j C (M.ag C) c15 ({ exits:=[],ret:=retK d }:Env) (k20 M C)) (uS 10 (vI a::(uS 26 (vB b::(uS 2 []))))) G
theorem J15_eq (a:Int) (b:Bool) (G:GH):J15 M C a b G=(bif b then some ([.c (.int .i64 0),.c (.int .i64 5)],G) else some ([.c (.int .i64 a),.c (.int .i64 0)],G)):=(M.hj _ _ _).trans (by kernel_rfl)
def f (h i e j k l m n o p q:Int) (G:GH):Option Res:=(C F65.id [.agg [.int .i64 h,.int .i64 i,.int .i64 e,.int .i64 j,.int .i64 k,.int .i64 l,.int .i64 m,.int .i64 n],.c (.int .i64 p),.c (.int .i64 q)] G).bind fun a=>(((a.1[0]?).bind V1.c?).bind (Cell.asI .i64)).bind fun d=>(((a.1[1]?).bind V1.c?).bind (Cell.asI .i64)).bind fun g=>bif (!decide (g=0)) then some ([.c (.int .i64 0),.c (.int .i64 g)],a.2) else (C F105.id [.c (.int .i64 o),.c (.int .i64 d)] a.2).bind fun b=>(((b.1[0]?).bind V1.c?).bind (Cell.asI .i64)).bind fun r=>(((b.1[1]?).bind V1.c?).bind Cell.asB).bind fun s=>bif (!s) then J15 M C d true b.2 else J15 M C d (decide (r>e)) b.2
theorem eq (a b e g h i j k l m n:Int) (G:GH):runF M C d [.agg [.int .i64 a,.int .i64 b,.int .i64 e,.int .i64 g,.int .i64 h,.int .i64 i,.int .i64 j,.int .i64 k],.c (.int .i64 l),.c (.int .i64 m),.c (.int .i64 n)] G=f M C a b e g h i j k l m n G:=by kernel_rfl
end F93
namespace F75
def c22:DCode:=(.region [mV 0 8 3,
 oP 1 9 (.bin .shr .u64 (.t 8) (.k (.c (.int .u64 1)))),
 mV 2 3 9])
def c24:DCode:=(.seq (.seq (.region [mV 0 6 3,
 oP 1 7 (.cmp .gtr .u64 (.t 6) (.k (.c (.int .u64 0))))]) (.cond (.t 7) .skip (.exit 0))) (.seq (.block 1 (.seq (.region [mV 0 10 0,
 mV 1 11 3,
 oP 2 12 (.bin .shl .u64 (.k (.c (.int .u64 1))) (.t 11)),
 oP 3 13 (.bin .sub .u64 (.t 12) (.k (.c (.int .u64 1)))),
 oP 4 14 (.bin .and .u64 (.t 10) (.t 13)),
 oP 5 15 (.cmp .eql .u64 (.t 14) (.k (.c (.int .u64 0))))]) (.cond (.t 15) (.seq (.region [mV 0 16 0,
 mV 1 17 3,
 oP 2 18 (.bin .shr .u64 (.t 16) (.t 17)),
 mV 3 0 18]) (.region [mV 0 19 2,
 mV 1 20 3,
 oP 2 21 (.conv .i64 (.t 20)),
 oP 3 22 (.bin .add .i64 (.t 19) (.t 21)),
 mV 4 2 22])) .skip))) (.cut [0,2,3] c22)))
def c25:DCode:=(.loop [0,2,3] c24)
def c30:DCode:=(.seq (.region [mV 0 23 2,
 mV 1 2 23]) .ret)
def d:DFn:={ ntmps:=24,res:=[.t 2],body:=(.seq (.region [oP 0 2 (.move (kI 0))]) (.seq (.seq (.region [mV 0 4 0,
 oP 1 5 (.cmp .eql .u64 (.t 4) (.k (.c (.int .u64 0))))]) (.cond (.t 5) (.seq (.region [oP 0 2 (.move (kI 64))]) .ret) .skip)) (.seq (.seq (.region [oP 0 3 (.move (.k (.c (.int .u64 32))))]) (.block 0 c25)) c30))) }
def k30:Kont:=execC M.j C (M.ag C) c30 ({ exits:=[],ret:=retK d }:Env) (retK d)
def e26:Env:={ exits:=(0,(k30 M C))::(({ exits:=[],ret:=retK d }:Env)).exits,ret:=(({ exits:=[],ret:=retK d }:Env)).ret }
def L25 (a b d:Int) (G:GH):Option Res:=M.ag C [0,2,3] c24 (e26 M C) (k30 M C) (.v (.c (.int .u64 a))::(uS 1 (vI b::(.v (.c (.int .u64 d))::(uS 20 []))))) G
def k25:Kont:=fun tm G=>M.ag C [0,2,3] c24 (e26 M C) (k30 M C) (restr [0,2,3] 0 tm) G
def J22 (a b d:Int) (G:GH):Option Res:=M.j (execC M.j C (M.ag C) c22 (e26 M C) (k25 M C)) (.v (.c (.int .u64 a))::(uS 1 (vI b::(.v (.c (.int .u64 d))::(uS 20 []))))) G
theorem L25_eq (b d a:Int) (G:GH):L25 M C b d a G=(bif decide (a>0) then (binD .shl .u64 1 a).bind fun e=>bif decide (IntKind.u64.wrap (((BitVec.ofInt IntKind.u64.bits b) &&& (BitVec.ofInt IntKind.u64.bits (IntKind.u64.wrap (e-1)))).toNat:Int)=0) then (binD .shr .u64 b a).bind fun f=>J22 M C f (IntKind.i64.wrap (d+(IntKind.i64.wrap a))) a G else J22 M C b d a G else some ([.c (.int .i64 d)],G)):=(M.hs _ _ _ _ _ _ _).trans (by kernel_rfl)
theorem J22_eq (a b c:Int) (G:GH):J22 M C a b c G=(L25 M C a b (Int.fdiv c (2 ^ (min (1:Int).toNat IntKind.u64.bits))) G):=(M.hj _ _ _).trans (by kernel_rfl)
def f (a:Int) (G:GH):Option Res:=bif decide (a=0) then some ([.c (.int .i64 64)],G) else L25 M C a 0 32 G
theorem eq (a:Int) (G:GH):runF M C d [.c (.int .u64 a)] G=f M C a G:=by kernel_rfl
end F75
namespace F72
def c12:DCode:=(.cond (.t 16) (.seq (.region [oP 0 2 (.move (kB false))]) .ret) .skip)
def c16:DCode:=(.region [oP 0 17 (.bin .add .i64 (.t 7) (kI 1)),
 mV 1 7 17])
def c19:DCode:=(.seq (.region [oP 0 8 (.cmp .lss .i64 (.t 7) (.t 6))]) (.seq (.cond (.t 8) .skip (.exit 0)) (.seq (.block 1 (.seq (.region [oP 0 9 (.iaddr (.t 5) (.t 7) 1),
 oP 1 10 (.ldG 9 (.c (.int .i64))),
 mV 2 4 10]) (.seq (.region [mV 0 11 4,
 oP 1 12 (.cmp .lss .i64 (.t 11) (kI 1)),
 mV 2 13 12,
 ⟨3,some 14,.move (.t 4),some (13,false)⟩,
 ⟨4,some 15,.cmp .gtr .i64 (.t 14) (kI 65536),some (13,false)⟩,
 oP 5 16 (.pick (.t 13) (kB true) (.t 15))]) (.cut [5,6,7,16] c12)))) c16)))
def c20:DCode:=(.loop [5,6,7] c19)
def c25:DCode:=(.seq (.region [oP 0 2 (.move (kB true))]) .ret)
def d:DFn:={ ntmps:=18,res:=[.t 2],body:=(.seq (.region [oP 0 2 (.move (kB false))]) (.seq (.seq (.region [mV 0 5 0,
 oP 1 6 (.len (.t 5)),
 oP 2 7 (.move (kI 0))]) (.block 0 c20)) c25)) }
def k25:Kont:=execC M.j C (M.ag C) c25 ({ exits:=[],ret:=retK d }:Env) (retK d)
def e21:Env:={ exits:=(0,(k25 M C))::(({ exits:=[],ret:=retK d }:Env)).exits,ret:=(({ exits:=[],ret:=retK d }:Env)).ret }
def L20 (a b c:Nat) (d e:Int) (G:GH):Option Res:=M.ag C [5,6,7] c19 (e21 M C) (k25 M C) (uS 5 (vS 1 a b c::(vI d::(vI e::(uS 10 []))))) G
def k20:Kont:=fun tm G=>M.ag C [5,6,7] c19 (e21 M C) (k25 M C) (restr [5,6,7] 0 tm) G
def k16:Kont:=execC M.j C (M.ag C) c16 (e21 M C) (k20 M C)
def e15:Env:={ exits:=(1,(k16 M C))::((e21 M C)).exits,ret:=((e21 M C)).ret }
def J12 (a b c:Nat) (d e:Int) (f:Bool) (G:GH):Option Res:=M.j (execC M.j C (M.ag C) c12 (e15 M C) (k16 M C)) (uS 5 (vS 1 a b c::(vI d::(vI e::(uS 8 (vB f::(uS 1 []))))))) G
theorem L20_eq (b d e:Nat) (f a:Int) (G:GH):L20 M C b d e f a G=(bif decide (a<f) then guardK (decide (0≤a∧a<((e:Nat):Int))) (((G.ld b (d+Int.toNat a*1)).bind (Cell.asI .i64)).bind fun g=>bif decide (g<1) then J12 M C b d e f a true G else J12 M C b d e f a (decide (g>65536)) G) else some ([.c (.bool true)],G)):=(M.hs _ _ _ _ _ _ _).trans (by kernel_rfl)
theorem J12_eq (a b d:Nat) (e f:Int) (g:Bool) (G:GH):J12 M C a b d e f g G=(bif g then some ([.c (.bool false)],G) else L20 M C a b d e (IntKind.i64.wrap (f+1)) G):=(M.hj _ _ _).trans (by kernel_rfl)
def f (b c a:Nat) (G:GH):Option Res:=L20 M C b c a ((a:Nat):Int) 0 G
theorem eq (a b e:Nat) (G:GH):runF M C d [.c (.sl 1 a b e)] G=f M C a b e G:=by kernel_rfl
end F72
namespace F42
def c19:DCode:=(.seq (.seq (.region [mV 0 19 9,
 mV 1 20 2,
 oP 2 21 (.cmp .lss .i64 (.t 19) (.t 20))]) (.cond (.t 21) .skip (.exit 0))) (.seq (.block 1 (.region [mV 0 24 8,
 mV 1 25 1,
 mV 2 26 9,
 oP 3 27 (.bin .add .i64 (.t 25) (.t 26)),
 oP 4 28 (.iaddr (.t 24) (.t 27) 1),
 ⟨5,none,.stG 28 (.k (.c (.int .u8 0))) 1,none⟩])) (.region [mV 0 22 9,
 oP 1 23 (.bin .add .i64 (.t 22) (kI 1)),
 mV 2 9 23])))
def c25:DCode:=(.seq (.region [mV 0 29 8,
 mV 1 6 29,
 oP 2 7 (.move (kB true))]) .ret)
def d:DFn:={ ntmps:=30,res:=[.t 6,.t 7],body:=(.seq (.region [oP 0 6 (.move (.k (.c (.sl 1 0 0 0)))),
 oP 1 7 (.move (kB false))]) (.seq (.seq (.region [mV 0 10 0,
 mV 1 11 1,
 mV 2 12 2,
 oP 3 13 (.call 90 [.t 10,.t 11,.t 12] [.c (.bool)]),
 oP 4 14 (.not (.t 13))]) (.cond (.t 14) (.seq (.region [mV 0 15 0,
 mV 1 6 15,
 oP 2 7 (.move (kB false))]) .ret) .skip)) (.seq (.region [oP 0 16 (.bslice 0 1 [] []),
 mV 1 17 0,
 oP 2 18 (.app (.t 16) (.t 17) 1 1),
 mV 3 8 18]) (.seq (.seq (.region [oP 0 9 (.move (kI 0))]) (.block 0 (.loop [1,2,8,9] c19))) c25)))) }
def k25:Kont:=execC M.j C (M.ag C) c25 ({ exits:=[],ret:=retK d }:Env) (retK d)
def e21:Env:={ exits:=(0,(k25 M C))::(({ exits:=[],ret:=retK d }:Env)).exits,ret:=(({ exits:=[],ret:=retK d }:Env)).ret }
def L20 (a b:Int) (c d e:Nat) (f:Int) (G:GH):Option Res:=M.ag C [1,2,8,9] c19 (e21 M C) (k25 M C) (uS 1 (vI a::(vI b::(uS 5 (vS 1 c d e::(vI f::(uS 20 []))))))) G
theorem L20_eq (b g:Int) (d e f:Nat) (a:Int) (G:GH):L20 M C b g d e f a G=(bif decide (a<g) then guardK (decide (0≤IntKind.i64.wrap (b+a)∧IntKind.i64.wrap (b+a)<((f:Nat):Int))) ((G.sts d (e+Int.toNat (IntKind.i64.wrap (b+a))*1) [.int .u8 0]).bind fun h=>L20 M C b g d e f (IntKind.i64.wrap (a+1)) h) else some ([.c (.sl 1 d e f),.c (.bool true)],G)):=(M.hs _ _ _ _ _ _ _).trans (by kernel_rfl)
def f (d e a:Nat) (h i:Int) (G:GH):Option Res:=(C F26.id [.c (.sl 1 d e a),.c (.int .i64 h),.c (.int .i64 i)] G).bind fun b=>(((b.1[0]?).bind V1.c?).bind Cell.asB).bind fun k=>bif (!k) then some ([.c (.sl 1 d e a),.c (.bool false)],b.2) else let j:=b.2.alloc (.row [] false);(if a=0 then some [] else j.lds d e (a*1)).bind fun l=>guardK (decide (0+a≤most)) ((j.app b.2.next 0 0 1 a l).bind fun g=>L20 M C h i g.1 g.2.1 (0+a) 0 g.2.2)
theorem eq (a b e:Nat) (g h:Int) (G:GH):runF M C d [.c (.sl 1 a b e),.c (.int .i64 g),.c (.int .i64 h)] G=f M C a b e g h G:=by kernel_rfl
end F42
namespace F71
def d:DFn:={ ntmps:=59,res:=[.pt 2 (some 6),.t 3,.t 4],body:=(.seq (.region [oP 0 2 (.newz (zI 6)),
 oP 1 3 (.move (.k (.c (.sl 6 0 0 0)))),
 oP 2 4 (.move (kB false))]) (.seq (.seq (.region [mV 0 7 0,
 oP 1 8 (.len (.t 7)),
 oP 2 9 (.cmp .lss .i64 (.t 8) (kI 16))]) (.cond (.t 9) (.seq (.region [oP 0 10 (.ldG 2 (.agg (iS 6))),
 ⟨1,none,.stG 2 (.t 10) 6,none⟩,
 oP 2 3 (.move (.k (.c (.sl 6 0 0 0)))),
 oP 3 4 (.move (kB false))]) .ret) .skip)) (.seq (.seq (.region [oP 0 11 (.faddr 2 0),
 oP 1 12 (.faddr 2 1),
 oP 2 13 (.faddr 2 2),
 oP 3 14 (.faddr 2 3),
 oP 4 15 (.faddr 2 4),
 oP 5 16 (.bslice 5 1 [.ptr 0 0,.ptr 0 0,.ptr 0 0,.ptr 0 0,.ptr 0 0] [(0,1,.t 11),(1,1,.t 12),(2,1,.t 13),(3,1,.t 14),(4,1,.t 15)]),
 oP 6 17 (.len (.t 16)),
 oP 7 18 (.move (kI 0))]) (.block 0 (.loop [0,2,16,17,18] (.seq (.region [oP 0 19 (.cmp .lss .i64 (.t 18) (.t 17))]) (.seq (.cond (.t 19) .skip (.exit 0)) (.seq (.block 1 (.seq (.region [mV 0 20 18,
 oP 1 21 (.iaddr (.t 16) (.t 18) 1),
 oP 2 22 (.ldG 21 (.c (.ptr))),
 mV 3 5 20,
 mV 4 6 22]) (.region [mV 0 23 6,
 mV 1 24 0,
 mV 2 25 5,
 oP 3 26 (.bin .mul .i64 (kI 3) (.t 25)),
 oP 4 27 (.iaddr (.t 24) (.t 26) 1),
 oP 5 28 (.ldG 27 (.c (.int .u8))),
 oP 6 29 (.conv .i64 (.t 28)),
 oP 7 30 (.bin .shl .i64 (.t 29) (.k (.c (.int .u64 16)))),
 mV 8 31 0,
 mV 9 32 5,
 oP 10 33 (.bin .mul .i64 (kI 3) (.t 32)),
 oP 11 34 (.bin .add .i64 (.t 33) (kI 1)),
 oP 12 35 (.iaddr (.t 31) (.t 34) 1),
 oP 13 36 (.ldG 35 (.c (.int .u8))),
 oP 14 37 (.conv .i64 (.t 36)),
 oP 15 38 (.bin .shl .i64 (.t 37) (.k (.c (.int .u64 8)))),
 oP 16 39 (.bin .or .i64 (.t 30) (.t 38)),
 mV 17 40 0,
 mV 18 41 5,
 oP 19 42 (.bin .mul .i64 (kI 3) (.t 41)),
 oP 20 43 (.bin .add .i64 (.t 42) (kI 2)),
 oP 21 44 (.iaddr (.t 40) (.t 43) 1),
 oP 22 45 (.ldG 44 (.c (.int .u8))),
 oP 23 46 (.conv .i64 (.t 45)),
 oP 24 47 (.bin .or .i64 (.t 39) (.t 46)),
 oP 25 48 (.nilck (.t 23)),
 ⟨26,none,.stG 48 (.t 47) 1,none⟩]))) (.region [oP 0 49 (.bin .add .i64 (.t 18) (kI 1)),
 mV 1 18 49]))))))) (.seq (.region [mV 0 50 0,
 oP 1 51 (.iaddr (.t 50) (kI 15) 1),
 oP 2 52 (.ldG 51 (.c (.int .u8))),
 oP 3 53 (.conv .i64 (.t 52)),
 oP 4 54 (.faddr 2 5),
 ⟨5,none,.stG 54 (.t 53) 1,none⟩]) (.seq (.region [oP 0 55 (.ldG 2 (.agg (iS 6))),
 mV 1 56 0,
 oP 2 57 (.slice (.t 56) (some (kI 16)) none 1),
 oP 3 58 (.call 57 [.t 57] [.c (.sl 6)]),
 ⟨9999,none,.reG 55 2 (.agg (iS 6)),none⟩,
 ⟨4,none,.stG 2 (.t 55) 6,none⟩,
 mV 5 3 58,
 oP 6 4 (.move (kB true))]) .ret))))) }
end F71
namespace F95
def c14:DCode:=(.seq (.region [oP 0 13 (.cmp .lss .i64 (.t 12) (.t 11))]) (.seq (.cond (.t 13) .skip (.exit 0)) (.seq (.block 1 (.seq (.region [mV 0 14 12,
 oP 1 15 (.iaddr (.t 10) (.t 12) 1),
 oP 2 16 (.ldG 15 (.c (.sl 1))),
 mV 3 3 14,
 mV 4 4 16]) (.region [oP 0 17 (.faddr 1 1),
 oP 1 18 (.ldL 17 25 (.c (.sl 1))),
 mV 2 19 3,
 mV 3 20 4,
 oP 4 21 (.call 125 [.t 20] [.c (.sl 1)]),
 oP 5 22 (.iaddr (.t 18) (.t 19) 1),
 ⟨6,none,.stG 22 (.t 21) 1,none⟩]))) (.region [oP 0 23 (.bin .add .i64 (.t 12) (kI 1)),
 mV 1 12 23]))))
def c20:DCode:=(.seq (.region [oP 0 24 (.ldL 1 25 (.agg [.int .i64,.sl 1])),
 ⟨1,none,.stL 2 26 (.t 24) 2,none⟩]) .ret)
def d:DFn:={ ntmps:=27,res:=[.box 2 (some 2)],body:=(.seq (.region [oP 0 1 (.boxv 25 [5,8,9,17] (.t 0) 2),
 oP 1 2 (.boxz 26 [] [.int .i64 0,.sl 1 0 0 0])]) (.seq (.region [oP 0 5 (.faddr 1 1),
 oP 1 6 (.ldL 5 25 (.c (.sl 1))),
 oP 2 7 (.call 124 [.t 6] [.c (.sl 1)]),
 oP 3 8 (.faddr 1 1),
 ⟨4,none,.stL 8 25 (.t 7) 1,none⟩]) (.seq (.seq (.region [oP 0 9 (.faddr 1 1),
 oP 1 10 (.ldL 9 25 (.c (.sl 1))),
 oP 2 11 (.len (.t 10)),
 oP 3 12 (.move (kI 0))]) (.block 0 (.loop [1,2,10,11,12,25,26] c14))) c20))) }
def k20:Kont:=execC M.j C (M.ag C) c20 ({ exits:=[],ret:=retK d }:Env) (retK d)
def e16:Env:={ exits:=(0,(k20 M C))::(({ exits:=[],ret:=retK d }:Env)).exits,ret:=(({ exits:=[],ret:=retK d }:Env)).ret }
def L15 (a b c:Nat) (d e f:Int) (g h i:Nat) (j:Int) (k l m:Nat) (G:GH):Option Res:=M.ag C [1,2,10,11,12,25,26] c14 (e16 M C) (k20 M C) (uS 1 (.ref 25 0::(.ref 26 0::(uS 7 (vS 1 a b c::(vI d::(vI e::(uS 12 (.box [.int .i64 f,.sl 1 g h i]::(.box [.int .i64 j,.sl 1 k l m]::[])))))))))) G
theorem L15_eq (f g h:Nat) (i a j:Int) (b d e:Nat) (m:Int) (n o p:Nat) (G:GH):L15 M C f g h i a j b d e m n o p G=(bif decide (a<i) then guardK (decide (0≤a∧a<((h:Nat):Int))) (((G.ld f (g+Int.toNat a*1)).bind (Cell.asS 1)).bind fun k=>(C F4.id [.c (.sl 1 k.1 k.2.1 k.2.2)] G).bind fun q=>(((q.1[0]?).bind V1.c?).bind (Cell.asS 1)).bind fun l=>guardK (decide (0≤a∧a<((e:Nat):Int))) ((q.2.sts b (d+Int.toNat a*1) [.sl 1 l.1 l.2.1 l.2.2]).bind fun r=>L15 M C f g h i (IntKind.i64.wrap (a+1)) j b d e m n o p r)) else some ([.agg [.int .i64 j,.sl 1 b d e]],G)):=(M.hs _ _ _ _ _ _ _).trans (by kernel_rfl)
def f (d:Int) (e g h:Nat) (G:GH):Option Res:=(C F3.id [.c (.sl 1 e g h)] G).bind fun b=>(((b.1[0]?).bind V1.c?).bind (Cell.asS 1)).bind fun a=>L15 M C a.1 a.2.1 a.2.2 ((a.2.2:Nat):Int) 0 d a.1 a.2.1 a.2.2 0 0 0 0 b.2
theorem eq (a:Int) (b c e:Nat) (G:GH):runF M C d [.agg [.int .i64 a,.sl 1 b c e]] G=f M C a b c e G:=by kernel_rfl
end F95
namespace F30
def c14:DCode:=(.seq (.region [oP 0 18 (.cmp .lss .i64 (.t 17) (.t 16))]) (.seq (.cond (.t 18) .skip (.exit 0)) (.seq (.block 1 (.seq (.region [mV 0 19 17,
 oP 1 20 (.iaddr (.t 15) (.t 17) 1),
 oP 2 21 (.ldG 20 (.c (.int .i64))),
 mV 3 4 19,
 mV 4 5 21]) (.region [mV 0 22 3,
 mV 1 23 4,
 mV 2 24 5,
 oP 3 25 (.cmp .gtr .i64 (.t 24) (kI 0)),
 oP 4 26 (.iaddr (.t 22) (.t 23) 1),
 ⟨5,none,.stG 26 (.t 25) 1,none⟩]))) (.region [oP 0 27 (.bin .add .i64 (.t 17) (kI 1)),
 mV 1 17 27]))))
def c20:DCode:=(.seq (.region [mV 0 28 3,
 mV 1 2 28]) .ret)
def d:DFn:={ ntmps:=29,res:=[.t 2],body:=(.seq (.region [oP 0 2 (.move (.k (.c (.sl 1 0 0 0))))]) (.seq (.region [mV 0 6 0,
 oP 1 7 (.nilck (.t 6)),
 oP 2 8 (.faddr 7 15),
 oP 3 9 (.ldG 8 (.c (.sl 1))),
 oP 4 10 (.len (.t 9)),
 oP 5 11 (.mkslice (.t 10) 1 1 [.bool false]),
 mV 6 3 11]) (.seq (.seq (.region [mV 0 12 0,
 oP 1 13 (.nilck (.t 12)),
 oP 2 14 (.faddr 13 15),
 oP 3 15 (.ldG 14 (.c (.sl 1))),
 oP 4 16 (.len (.t 15)),
 oP 5 17 (.move (kI 0))]) (.block 0 (.loop [3,15,16,17] c14))) c20))) }
def k20:Kont:=execC M.j C (M.ag C) c20 ({ exits:=[],ret:=retK d }:Env) (retK d)
def e16:Env:={ exits:=(0,(k20 M C))::(({ exits:=[],ret:=retK d }:Env)).exits,ret:=(({ exits:=[],ret:=retK d }:Env)).ret }
def L15 (a b c d e f:Nat) (g h:Int) (G:GH):Option Res:=M.ag C [3,15,16,17] c14 (e16 M C) (k20 M C) (uS 3 (vS 1 a b c::(uS 11 (vS 1 d e f::(vI g::(vI h::(uS 11 []))))))) G
theorem L15_eq (b d e f g h:Nat) (i a:Int) (G:GH):L15 M C b d e f g h i a G=(bif decide (a<i) then guardK (decide (0≤a∧a<((h:Nat):Int))) (((G.ld f (g+Int.toNat a*1)).bind (Cell.asI .i64)).bind fun j=>guardK (decide (0≤a∧a<((e:Nat):Int))) ((G.sts b (d+Int.toNat a*1) [.bool (decide (j>0))]).bind fun k=>L15 M C b d e f g h i (IntKind.i64.wrap (a+1)) k)) else some ([.c (.sl 1 b d e)],G)):=(M.hs _ _ _ _ _ _ _).trans (by kernel_rfl)
def f (a d:Nat) (G:GH):Option Res:=guardK (!Nat.beq a 0) (((G.ld a (d+15)).bind (Cell.asS 1)).bind fun b=>guardK (decide (0≤((b.2.2:Nat):Int)∧((b.2.2:Nat):Int)≤(most:Int))) (let e:=G.alloc (.row (reps (Int.toNat ((b.2.2:Nat):Int)) [.bool false]) false);guardK (!Nat.beq a 0) (((e.ld a (d+15)).bind (Cell.asS 1)).bind fun c=>L15 M C G.next 0 (Int.toNat ((b.2.2:Nat):Int)) c.1 c.2.1 c.2.2 ((c.2.2:Nat):Int) 0 e)))
theorem eq (a b:Nat) (G:GH):runF M C d [.c (.ptr a b)] G=f M C a b G:=by kernel_rfl
end F30
namespace F104
def c6:DCode:=(.cond (.t 12) (.seq (.region [oP 0 2 (.move (kI 0)),
 oP 1 3 (.move (kB false))]) .ret) .skip)
def c17:DCode:=(.seq (.seq (.region [mV 0 13 0,
 oP 1 14 (.cmp .gtr .i64 (.t 13) (kI 1))]) (.cond (.t 14) .skip (.exit 0))) (.block 1 (.seq (.region [mV 0 15 0,
 oP 1 16 (.bin .shr .i64 (.t 15) (.k (.c (.int .u64 1)))),
 mV 2 0 16]) (.region [mV 0 17 2,
 oP 1 18 (.bin .add .i64 (.t 17) (kI 1)),
 mV 2 2 18]))))
def c22:DCode:=(.seq (.region [mV 0 19 2,
 mV 1 2 19,
 oP 2 3 (.move (kB true))]) .ret)
def c23:DCode:=(.seq (.block 0 (.loop [0,2] c17)) c22)
def d:DFn:={ ntmps:=20,res:=[.t 2,.t 3],body:=(.seq (.region [oP 0 2 (.move (kI 0)),
 oP 1 3 (.move (kB false))]) (.seq (.seq (.region [mV 0 4 0,
 oP 1 5 (.cmp .lss .i64 (.t 4) (kI 1)),
 mV 2 6 5,
 ⟨3,some 7,.move (.t 0),some (6,false)⟩,
 ⟨4,some 8,.move (.t 0),some (6,false)⟩,
 ⟨5,some 9,.bin .sub .i64 (.t 8) (kI 1),some (6,false)⟩,
 ⟨6,some 10,.bin .and .i64 (.t 7) (.t 9),some (6,false)⟩,
 ⟨7,some 11,.cmp .neq .i64 (.t 10) (kI 0),some (6,false)⟩,
 oP 8 12 (.pick (.t 6) (kB true) (.t 11))]) (.cut [0,2,12] c6)) c23)) }
def k23:Kont:=execC M.j C (M.ag C) c23 ({ exits:=[],ret:=retK d }:Env) (retK d)
def J6 (a b:Int) (c:Bool) (G:GH):Option Res:=M.j (execC M.j C (M.ag C) c6 ({ exits:=[],ret:=retK d }:Env) (k23 M C)) (vI a::(uS 1 (vI b::(uS 9 (vB c::(uS 7 [])))))) G
def k22:Kont:=execC M.j C (M.ag C) c22 ({ exits:=[],ret:=retK d }:Env) (retK d)
def e19:Env:={ exits:=(0,(k22 M C))::(({ exits:=[],ret:=retK d }:Env)).exits,ret:=(({ exits:=[],ret:=retK d }:Env)).ret }
def L18 (a b:Int) (G:GH):Option Res:=M.ag C [0,2] c17 (e19 M C) (k22 M C) (vI a::(uS 1 (vI b::(uS 17 [])))) G
theorem J6_eq (a b:Int) (d:Bool) (G:GH):J6 M C a b d G=(bif d then some ([.c (.int .i64 0),.c (.bool false)],G) else L18 M C a b G):=(M.hj _ _ _).trans (by kernel_rfl)
theorem L18_eq (a b:Int) (G:GH):L18 M C a b G=(bif decide (a>1) then L18 M C (Int.fdiv a (2 ^ (min (1:Int).toNat IntKind.i64.bits))) (IntKind.i64.wrap (b+1)) G else some ([.c (.int .i64 b),.c (.bool true)],G)):=(M.hs _ _ _ _ _ _ _).trans (by kernel_rfl)
def f (a:Int) (G:GH):Option Res:=bif decide (a<1) then J6 M C a 0 true G else J6 M C a 0 (!decide (IntKind.i64.wrap (((BitVec.ofInt IntKind.i64.bits a) &&& (BitVec.ofInt IntKind.i64.bits (IntKind.i64.wrap (a-1)))).toNat:Int)=0)) G
theorem eq (a:Int) (G:GH):runF M C d [.c (.int .i64 a)] G=f M C a G:=by kernel_rfl
end F104
namespace F53
def c22:DCode:=(.region [mV 0 8 5,
 oP 1 9 (.bin .add .i64 (.t 8) (kI 1)),
 mV 2 5 9])
def c24:DCode:=(.seq (.seq (.region [mV 0 6 5,
 oP 1 7 (.cmp .lss .i64 (.t 6) (kI 63))]) (.cond (.t 7) .skip (.exit 0))) (.seq (.block 1 (.seq (.seq (.region [mV 0 10 4,
 mV 1 11 0,
 oP 2 12 (.cmp .eql .i64 (.t 10) (.t 11))]) (.cond (.t 12) (.seq (.region [mV 0 13 5,
 mV 1 2 13,
 oP 2 3 (.move (kB true))]) .ret) .skip)) (.seq (.region [mV 0 14 5,
 oP 1 15 (.cmp .lss .i64 (.t 14) (kI 62))]) (.cond (.t 15) (.region [mV 0 16 4,
 oP 1 17 (.bin .mul .i64 (.t 16) (kI 2)),
 mV 2 4 17]) .skip)))) (.cut [0,4,5] c22)))
def c25:DCode:=(.loop [0,4,5] c24)
def c30:DCode:=(.seq (.region [oP 0 2 (.move (kI 0)),
 oP 1 3 (.move (kB false))]) .ret)
def d:DFn:={ ntmps:=18,res:=[.t 2,.t 3],body:=(.seq (.region [oP 0 2 (.move (kI 0)),
 oP 1 3 (.move (kB false))]) (.seq (.region [oP 0 4 (.move (kI 1))]) (.seq (.seq (.region [oP 0 5 (.move (kI 0))]) (.block 0 c25)) c30))) }
def k30:Kont:=execC M.j C (M.ag C) c30 ({ exits:=[],ret:=retK d }:Env) (retK d)
def e26:Env:={ exits:=(0,(k30 M C))::(({ exits:=[],ret:=retK d }:Env)).exits,ret:=(({ exits:=[],ret:=retK d }:Env)).ret }
def L25 (a b c:Int) (G:GH):Option Res:=M.ag C [0,4,5] c24 (e26 M C) (k30 M C) (vI a::(uS 3 (vI b::(vI c::(uS 12 []))))) G
def k25:Kont:=fun tm G=>M.ag C [0,4,5] c24 (e26 M C) (k30 M C) (restr [0,4,5] 0 tm) G
def J22 (a b c:Int) (G:GH):Option Res:=M.j (execC M.j C (M.ag C) c22 (e26 M C) (k25 M C)) (vI a::(uS 3 (vI b::(vI c::(uS 12 []))))) G
theorem L25_eq (b d a:Int) (G:GH):L25 M C b d a G=(bif decide (a<63) then bif decide (d=b) then some ([.c (.int .i64 a),.c (.bool true)],G) else bif decide (a<62) then J22 M C b (IntKind.i64.wrap (d*2)) a G else J22 M C b d a G else some ([.c (.int .i64 0),.c (.bool false)],G)):=(M.hs _ _ _ _ _ _ _).trans (by kernel_rfl)
theorem J22_eq (a b c:Int) (G:GH):J22 M C a b c G=(L25 M C a b (IntKind.i64.wrap (c+1)) G):=(M.hj _ _ _).trans (by kernel_rfl)
def f (a:Int) (G:GH):Option Res:=L25 M C a 1 0 G
theorem eq (a:Int) (G:GH):runF M C d [.c (.int .i64 a)] G=f M C a G:=by kernel_rfl
end F53
namespace F25
def c14:DCode:=(.region [mV 0 9 4,
 oP 1 10 (.bin .add .i64 (.t 9) (kI 1)),
 mV 2 4 10])
def c16:DCode:=(.seq (.seq (.region [mV 0 5 4,
 mV 1 6 0,
 oP 2 7 (.len (.t 6)),
 oP 3 8 (.cmp .lss .i64 (.t 5) (.t 7))]) (.cond (.t 8) .skip (.exit 0))) (.seq (.block 1 (.seq (.region [mV 0 11 0,
 mV 1 12 4,
 oP 2 13 (.iaddr (.t 11) (.t 12) 1),
 oP 3 14 (.ldG 13 (.c (.bool)))]) (.cond (.t 14) (.region [mV 0 15 3,
 oP 1 16 (.bin .add .i64 (.t 15) (kI 1)),
 mV 2 3 16]) .skip))) (.cut [0,3,4] c14)))
def c17:DCode:=(.loop [0,3,4] c16)
def c22:DCode:=(.seq (.region [mV 0 17 3,
 mV 1 2 17]) .ret)
def d:DFn:={ ntmps:=18,res:=[.t 2],body:=(.seq (.region [oP 0 2 (.move (kI 0))]) (.seq (.region [oP 0 3 (.move (kI 0))]) (.seq (.seq (.region [oP 0 4 (.move (kI 0))]) (.block 0 c17)) c22))) }
def k22:Kont:=execC M.j C (M.ag C) c22 ({ exits:=[],ret:=retK d }:Env) (retK d)
def e18:Env:={ exits:=(0,(k22 M C))::(({ exits:=[],ret:=retK d }:Env)).exits,ret:=(({ exits:=[],ret:=retK d }:Env)).ret }
def L17 (a b c:Nat) (d e:Int) (G:GH):Option Res:=M.ag C [0,3,4] c16 (e18 M C) (k22 M C) (vS 1 a b c::(uS 2 (vI d::(vI e::(uS 13 []))))) G
def k17:Kont:=fun tm G=>M.ag C [0,3,4] c16 (e18 M C) (k22 M C) (restr [0,3,4] 0 tm) G
def J14 (a b c:Nat) (d e:Int) (G:GH):Option Res:=M.j (execC M.j C (M.ag C) c14 (e18 M C) (k17 M C)) (vS 1 a b c::(uS 2 (vI d::(vI e::(uS 13 []))))) G
theorem L17_eq (d e b:Nat) (f a:Int) (G:GH):L17 M C d e b f a G=(bif decide (a<((b:Nat):Int)) then guardK (decide (0≤a∧a<((b:Nat):Int))) (((G.ld d (e+Int.toNat a*1)).bind Cell.asB).bind fun g=>bif g then J14 M C d e b (IntKind.i64.wrap (f+1)) a G else J14 M C d e b f a G) else some ([.c (.int .i64 f)],G)):=(M.hs _ _ _ _ _ _ _).trans (by kernel_rfl)
theorem J14_eq (a b c:Nat) (d e:Int) (G:GH):J14 M C a b c d e G=(L17 M C a b c d (IntKind.i64.wrap (e+1)) G):=(M.hj _ _ _).trans (by kernel_rfl)
def f (a b c:Nat) (G:GH):Option Res:=L17 M C a b c 0 0 G
theorem eq (a b e:Nat) (G:GH):runF M C d [.c (.sl 1 a b e)] G=f M C a b e G:=by kernel_rfl
end F25
namespace F85
def c13:DCode:=(.seq (.region [oP 0 9 (.cmp .lss .i64 (.t 8) (.t 7))]) (.seq (.cond (.t 9) .skip (.exit 0)) (.seq (.block 1 (.seq (.region [oP 0 10 (.iaddr (.t 6) (.t 8) 2),
 oP 1 11 (.ldG 10 (.agg [.int .i64,.sl 1])),
 oP 2 4 (.boxz 23 [] [.int .i64 0,.sl 1 0 0 0]),
 ⟨3,none,.stL 4 23 (.t 11) 2,none⟩]) (.region [oP 0 12 (.faddr 2 0),
 oP 1 13 (.ldL 12 22 (.c (.sl 2))),
 oP 2 14 (.ldL 4 23 (.agg [.int .i64,.sl 1])),
 oP 3 15 (.call 108 [.t 14,.k (.c (.int .i64 0)),.k (.c (.int .i64 0)),.k (.c (.bool true))] [.agg [.int .i64,.sl 1]]),
 oP 4 16 (.bslice 1 2 [.int .i64 0,.sl 1 0 0 0] [(0,2,.t 15)]),
 oP 5 17 (.app (.t 13) (.t 16) 2 32),
 oP 6 18 (.faddr 2 0),
 ⟨7,none,.stL 18 22 (.t 17) 1,none⟩]))) (.region [oP 0 19 (.bin .add .i64 (.t 8) (kI 1)),
 mV 1 8 19]))))
def c19:DCode:=(.seq (.region [oP 0 20 (.ldL 2 22 (.agg [.sl 2])),
 ⟨1,none,.stL 2 22 (.t 20) 1,none⟩]) .ret)
def d:DFn:={ ntmps:=24,res:=[.box 2 (some 1)],body:=(.seq (.region [oP 0 1 (.boxv 21 [5] (.t 0) 1),
 oP 1 2 (.boxz 22 [12,18] [.sl 2 0 0 0])]) (.seq (.seq (.region [oP 0 5 (.faddr 1 0),
 oP 1 6 (.ldL 5 21 (.c (.sl 2))),
 oP 2 7 (.len (.t 6)),
 oP 3 8 (.move (kI 0))]) (.block 0 (.loop [2,6,7,8,22] c13))) c19)) }
def k19:Kont:=execC M.j C (M.ag C) c19 ({ exits:=[],ret:=retK d }:Env) (retK d)
def e15:Env:={ exits:=(0,(k19 M C))::(({ exits:=[],ret:=retK d }:Env)).exits,ret:=(({ exits:=[],ret:=retK d }:Env)).ret }
def L14 (a b c:Nat) (d e:Int) (f g h:Nat) (G:GH):Option Res:=M.ag C [2,6,7,8,22] c13 (e15 M C) (k19 M C) (uS 2 (.ref 22 0::(uS 3 (vS 2 a b c::(vI d::(vI e::(uS 13 (.box [.sl 2 f g h]::(uS 1 []))))))))) G
theorem L14_eq (e f g:Nat) (h b:Int) (i j d:Nat) (G:GH):L14 M C e f g h b i j d G=(bif decide (b<h) then guardK (decide (0≤b∧b<((g:Nat):Int))) (((G.ld e ((f+Int.toNat b*2)+0)).bind (Cell.asI .i64)).bind fun q=>((G.ld e ((f+Int.toNat b*2)+1)).bind (Cell.asS 1)).bind fun k=>(C F109.id [.agg [.int .i64 q,.sl 1 k.1 k.2.1 k.2.2],.c (.int .i64 0),.c (.int .i64 0),.c (.bool true)] G).bind fun l=>((l.1[0]?).bind V1.a?).bind fun m=>if m.length=2 then (((m[0]?).bind (Cell.asI .i64)).bind fun r=>((m[1]?).bind (Cell.asS 1)).bind fun n=>let p:=l.2.alloc (.row [.int .i64 r,.sl 1 n.1 n.2.1 n.2.2] false);(if 1=0 then some [] else p.lds l.2.next 0 (1*2)).bind fun s=>guardK (decide (d+1≤most)) ((p.app i j d 2 1 s).bind fun o=>L14 M C e f g h (IntKind.i64.wrap (b+1)) o.1 o.2.1 (d+1) o.2.2)) else none) else some ([.agg [.sl 2 i j d]],G)):=(M.hs _ _ _ _ _ _ _).trans (by kernel_rfl)
def f (b c a:Nat) (G:GH):Option Res:=L14 M C b c a ((a:Nat):Int) 0 0 0 0 G
theorem eq (a b c:Nat) (G:GH):runF M C d [.agg [.sl 2 a b c]] G=f M C a b c G:=by kernel_rfl
end F85
namespace F119
def c6:DCode:=(.cond (.t 25) (.seq (.region [oP 0 6 (.move (.k (.c (.int .u64 18446744073709551615))))]) .ret) .skip)
def c10:DCode:=(.seq (.region [oP 0 26 (.faddr 3 1),
 oP 1 27 (.ldL 26 34 (.c (.sl 1))),
 mV 2 28 1,
 oP 3 29 (.iaddr (.t 27) (.t 28) 1),
 oP 4 30 (.ldG 29 (.c (.sl 1))),
 mV 5 31 2,
 oP 6 32 (.iaddr (.t 30) (.t 31) 1),
 oP 7 33 (.ldG 32 (.c (.int .u64))),
 mV 8 6 33]) .ret)
def d:DFn:={ ntmps:=35,res:=[.t 6],body:=(.seq (.region [oP 0 3 (.boxv 34 [8,18,26] (.t 0) 2),
 oP 1 6 (.move (.k (.c (.int .u64 0))))]) (.seq (.seq (.region [mV 0 7 1,
 oP 1 8 (.faddr 3 1),
 oP 2 9 (.ldL 8 34 (.c (.sl 1))),
 oP 3 10 (.len (.t 9)),
 oP 4 11 (.cmp .geq .i64 (.t 7) (.t 10)),
 mV 5 12 11,
 ⟨6,some 13,.move (.t 2),some (12,false)⟩,
 ⟨7,some 14,.cmp .lss .i64 (.t 13) (kI 0),some (12,false)⟩,
 oP 8 15 (.pick (.t 12) (kB true) (.t 14)),
 mV 9 16 15,
 ⟨10,some 17,.move (.t 2),some (16,false)⟩,
 ⟨11,some 18,.faddr 3 1,some (16,false)⟩,
 ⟨12,some 19,.ldL 18 34 (.c (.sl 1)),some (16,false)⟩,
 ⟨13,some 20,.move (.t 1),some (16,false)⟩,
 ⟨14,some 21,.iaddr (.t 19) (.t 20) 1,some (16,false)⟩,
 ⟨15,some 22,.ldG 21 (.c (.sl 1)),some (16,false)⟩,
 ⟨16,some 23,.len (.t 22),some (16,false)⟩,
 ⟨17,some 24,.cmp .geq .i64 (.t 17) (.t 23),some (16,false)⟩,
 oP 18 25 (.pick (.t 16) (kB true) (.t 24))]) (.cut [1,2,3,25,34] c6)) c10)) }
def k10:Kont:=execC M.j C (M.ag C) c10 ({ exits:=[],ret:=retK d }:Env) (retK d)
def J6 (a b:Int) (c:Bool) (e:Int) (f g h:Nat) (G:GH):Option Res:=M.j (execC M.j C (M.ag C) c6 ({ exits:=[],ret:=retK d }:Env) (k10 M C)) (uS 1 (vI a::(vI b::(.ref 34 0::(uS 21 (vB c::(uS 8 (.box [.int .i64 e,.sl 1 f g h]::[])))))))) G
theorem J6_eq (a b:Int) (e:Bool) (i:Int) (f g h:Nat) (G:GH):J6 M C a b e i f g h G=(bif e then some ([.c (.int .u64 18446744073709551615)],G) else guardK (decide (0≤a∧a<((h:Nat):Int))) (((G.ld f (g+Int.toNat a*1)).bind (Cell.asS 1)).bind fun d=>guardK (decide (0≤b∧b<((d.2.2:Nat):Int))) (((G.ld d.1 (d.2.1+Int.toNat b*1)).bind (Cell.asI .u64)).bind fun j=>some ([.c (.int .u64 j)],G)))):=(M.hj _ _ _).trans (by kernel_rfl)
def f (g:Int) (d e b:Nat) (a c:Int) (G:GH):Option Res:=bif decide (a≥((b:Nat):Int)) then J6 M C a c true g d e b G else bif decide (c<0) then J6 M C a c true g d e b G else guardK (decide (0≤a∧a<((b:Nat):Int))) (((G.ld d (e+Int.toNat a*1)).bind (Cell.asS 1)).bind fun h=>J6 M C a c (decide (c≥((h.2.2:Nat):Int))) g d e b G)
theorem eq (a:Int) (b e g:Nat) (h i:Int) (G:GH):runF M C d [.agg [.int .i64 a,.sl 1 b e g],.c (.int .i64 h),.c (.int .i64 i)] G=f M C a b e g h i G:=by kernel_rfl
end F119
namespace F9
def d:DFn:={ ntmps:=32,res:=[.t 4],body:=(.seq (.region [oP 0 3 (.boxv 31 [12,21] (.t 1) 8),
 oP 1 4 (.move (kI 0))]) (.seq (.seq (.region [mV 0 6 0,
 oP 1 7 (.call 19 [.t 6,.k (.c (.int .i64 12))] [.c (.int .i64)])]) (.block 0 (.seq (.region [oP 0 9 (.cmp .eql .i64 (.t 7) (kI 0)),
 mV 1 8 9]) (.cond (.t 8) (.seq (.region [oP 0 4 (.move (kI 0))]) .ret) (.seq (.region [oP 0 11 (.cmp .eql .i64 (.t 7) (kI 1)),
 mV 1 10 11]) (.cond (.t 10) (.seq (.region [oP 0 12 (.faddr 3 1),
 oP 1 13 (.ldL 12 31 (.c (.int .i64))),
 mV 2 14 0,
 oP 3 15 (.call 19 [.t 14,.k (.c (.int .i64 3))] [.c (.int .i64)]),
 oP 4 16 (.bin .add .i64 (.t 13) (.t 15)),
 mV 5 4 16]) .ret) (.seq (.region [oP 0 18 (.cmp .eql .i64 (.t 7) (kI 2)),
 mV 1 17 18]) (.cond (.t 17) (.seq (.region [oP 0 4 (.move (kI (-1)))]) .ret) .skip)))))))) (.seq (.region [oP 0 19 (.ldL 3 31 (.agg (iS 8))),
 mV 1 20 0,
 oP 2 21 (.faddr 3 3),
 oP 3 22 (.ldL 21 31 (.c (.int .i64))),
 oP 4 23 (.bin .add .i64 (.t 22) (kI 1)),
 oP 5 24 (.call 19 [.t 20,.t 23] [.c (.int .i64)]),
 oP 6 25 (.call 13 [.t 19,.t 24] [.c (.int .i64)]),
 mV 7 5 25]) (.seq (.region [mV 0 26 5,
 mV 1 27 0,
 oP 2 28 (.call 19 [.t 27,.k (.c (.int .i64 3))] [.c (.int .i64)]),
 oP 3 29 (.bin .sub .i64 (.t 26) (.t 28)),
 oP 4 30 (.mx (kI 1) [.t 29]),
 mV 5 4 30]) .ret)))) }
def f (M:Mach) (C:Call) (b d:Nat) (m g n h o p q r:Int) (G:GH):Option Res:=(C F10.id [.c (.ptr b d),.c (.int .i64 12)] G).bind fun a=>(((a.1[0]?).bind V1.c?).bind (Cell.asI .i64)).bind fun e=>bif decide (e=0) then some ([.c (.int .i64 0)],a.2) else bif decide (e=1) then (C F10.id [.c (.ptr b d),.c (.int .i64 3)] a.2).bind fun i=>(((i.1[0]?).bind V1.c?).bind (Cell.asI .i64)).bind fun s=>some ([.c (.int .i64 (IntKind.i64.wrap (g+s)))],i.2) else bif decide (e=2) then some ([.c (.int .i64 (-1))],a.2) else (C F10.id [.c (.ptr b d),.c (.int .i64 (IntKind.i64.wrap (h+1)))] a.2).bind fun j=>(((j.1[0]?).bind V1.c?).bind (Cell.asI .i64)).bind fun t=>(C F36.id [.agg [.int .i64 m,.int .i64 g,.int .i64 n,.int .i64 h,.int .i64 o,.int .i64 p,.int .i64 q,.int .i64 r],.c (.int .i64 t)] j.2).bind fun k=>(((k.1[0]?).bind V1.c?).bind (Cell.asI .i64)).bind fun v=>(C F10.id [.c (.ptr b d),.c (.int .i64 3)] k.2).bind fun l=>(((l.1[0]?).bind V1.c?).bind (Cell.asI .i64)).bind fun w=>some ([.c (.int .i64 (mx2 1 (IntKind.i64.wrap (v-w))))],l.2)
theorem eq (a b:Nat) (e g h i j k l m:Int) (G:GH):runF M C d [.c (.ptr a b),.agg [.int .i64 e,.int .i64 g,.int .i64 h,.int .i64 i,.int .i64 j,.int .i64 k,.int .i64 l,.int .i64 m]] G=f M C a b e g h i j k l m G:=by kernel_rfl
end F9
namespace F90
def c6:DCode:=(.cond (.t 15) (.seq (.region [oP 0 4 (.move (.k (.c (.int .u64 0))))]) .ret) .skip)
def c16:DCode:=(.seq (.region [mV 0 22 5,
 mV 1 23 0,
 oP 2 24 (.conv .u64 (.t 23)),
 oP 3 25 (.bin .shl .u64 (.t 22) (.t 24)),
 mV 4 4 25]) .ret)
def c18:DCode:=(.seq (.region [oP 0 5 (.move (.k (.c (.int .u64 18446744073709551615))))]) (.seq (.seq (.region [mV 0 16 1,
 oP 1 17 (.cmp .lss .i64 (.t 16) (kI 64))]) (.cond (.t 17) (.region [mV 0 18 1,
 oP 1 19 (.conv .u64 (.t 18)),
 oP 2 20 (.bin .shl .u64 (.k (.c (.int .u64 1))) (.t 19)),
 oP 3 21 (.bin .sub .u64 (.t 20) (.k (.c (.int .u64 1)))),
 mV 4 5 21]) .skip)) (.cut [0,5] c16)))
def d:DFn:={ ntmps:=26,res:=[.t 4],body:=(.seq (.region [oP 0 4 (.move (.k (.c (.int .u64 0))))]) (.seq (.seq (.region [mV 0 6 0,
 oP 1 7 (.cmp .lss .i64 (.t 6) (kI 0)),
 mV 2 8 7,
 ⟨3,some 9,.move (.t 1),some (8,false)⟩,
 ⟨4,some 10,.cmp .leq .i64 (.t 9) (kI 0),some (8,false)⟩,
 oP 5 11 (.pick (.t 8) (kB true) (.t 10)),
 mV 6 12 11,
 ⟨7,some 13,.move (.t 0),some (12,false)⟩,
 ⟨8,some 14,.cmp .geq .i64 (.t 13) (kI 64),some (12,false)⟩,
 oP 9 15 (.pick (.t 12) (kB true) (.t 14))]) (.cut [0,1,15] c6)) c18)) }
def k18:Kont:=execC M.j C (M.ag C) c18 ({ exits:=[],ret:=retK d }:Env) (retK d)
def J6 (a b:Int) (c:Bool) (G:GH):Option Res:=M.j (execC M.j C (M.ag C) c6 ({ exits:=[],ret:=retK d }:Env) (k18 M C)) (vI a::(vI b::(uS 13 (vB c::(uS 10 []))))) G
def J16 (a b:Int) (G:GH):Option Res:=M.j (execC M.j C (M.ag C) c16 ({ exits:=[],ret:=retK d }:Env) (retK d)) (vI a::(uS 4 (.v (.c (.int .u64 b))::(uS 20 [])))) G
theorem J6_eq (a b:Int) (d:Bool) (G:GH):J6 M C a b d G=(bif d then some ([.c (.int .u64 0)],G) else bif decide (b<64) then (binD .shl .u64 1 (IntKind.u64.wrap b)).bind fun e=>J16 M C a (IntKind.u64.wrap (e-1)) G else J16 M C a 18446744073709551615 G):=(M.hj _ _ _).trans (by kernel_rfl)
theorem J16_eq (a b:Int) (G:GH):J16 M C a b G=((binD .shl .u64 b (IntKind.u64.wrap a)).bind fun d=>some ([.c (.int .u64 d)],G)):=(M.hj _ _ _).trans (by kernel_rfl)
def f (a b:Int) (G:GH):Option Res:=bif decide (a<0) then J6 M C a b true G else bif decide (b≤0) then J6 M C a b true G else J6 M C a b (decide (a≥64)) G
theorem eq (a b:Int) (G:GH):runF M C d [.c (.int .i64 a),.c (.int .i64 b)] G=f M C a b G:=by kernel_rfl
end F90
namespace F62
def c6:DCode:=(.cond (.t 10) (.seq (.region [oP 0 2 (.move (kI 0)),
 oP 1 3 (.move (kB false))]) .ret) .skip)
def c16:DCode:=(.seq (.seq (.region [mV 0 11 4,
 mV 1 12 0,
 oP 2 13 (.cmp .lss .i64 (.t 11) (.t 12))]) (.cond (.t 13) .skip (.exit 0))) (.block 1 (.region [mV 0 14 4,
 oP 1 15 (.bin .mul .i64 (.t 14) (kI 2)),
 mV 2 4 15])))
def c21:DCode:=(.seq (.region [mV 0 16 4,
 mV 1 2 16,
 oP 2 3 (.move (kB true))]) .ret)
def c23:DCode:=(.seq (.region [oP 0 4 (.move (kI 1))]) (.seq (.block 0 (.loop [0,4] c16)) c21))
def d:DFn:={ ntmps:=17,res:=[.t 2,.t 3],body:=(.seq (.region [oP 0 2 (.move (kI 0)),
 oP 1 3 (.move (kB false))]) (.seq (.seq (.region [mV 0 5 0,
 oP 1 6 (.cmp .lss .i64 (.t 5) (kI 1)),
 mV 2 7 6,
 ⟨3,some 8,.move (.t 0),some (7,false)⟩,
 ⟨4,some 9,.cmp .gtr .i64 (.t 8) (kI 4611686018427387904),some (7,false)⟩,
 oP 5 10 (.pick (.t 7) (kB true) (.t 9))]) (.cut [0,10] c6)) c23)) }
def k23:Kont:=execC M.j C (M.ag C) c23 ({ exits:=[],ret:=retK d }:Env) (retK d)
def J6 (a:Int) (b:Bool) (G:GH):Option Res:=M.j (execC M.j C (M.ag C) c6 ({ exits:=[],ret:=retK d }:Env) (k23 M C)) (vI a::(uS 9 (vB b::(uS 6 [])))) G
def k21:Kont:=execC M.j C (M.ag C) c21 ({ exits:=[],ret:=retK d }:Env) (retK d)
def e18:Env:={ exits:=(0,(k21 M C))::(({ exits:=[],ret:=retK d }:Env)).exits,ret:=(({ exits:=[],ret:=retK d }:Env)).ret }
def L17 (a b:Int) (G:GH):Option Res:=M.ag C [0,4] c16 (e18 M C) (k21 M C) (vI a::(uS 3 (vI b::(uS 12 [])))) G
theorem J6_eq (a:Int) (b:Bool) (G:GH):J6 M C a b G=(bif b then some ([.c (.int .i64 0),.c (.bool false)],G) else L17 M C a 1 G):=(M.hj _ _ _).trans (by kernel_rfl)
theorem L17_eq (b a:Int) (G:GH):L17 M C b a G=(bif decide (a<b) then L17 M C b (IntKind.i64.wrap (a*2)) G else some ([.c (.int .i64 a),.c (.bool true)],G)):=(M.hs _ _ _ _ _ _ _).trans (by kernel_rfl)
def f (a:Int) (G:GH):Option Res:=bif decide (a<1) then J6 M C a true G else J6 M C a (decide (a>4611686018427387904)) G
theorem eq (a:Int) (G:GH):runF M C d [.c (.int .i64 a)] G=f M C a G:=by kernel_rfl
end F62
namespace F7
def c6:DCode:=(.cond (.t 12) (.seq (.region [mV 0 13 0,
 oP 1 14 (.call 19 [.t 13,.k (.c (.int .i64 200))] [.c (.int .i64)]),
 oP 2 15 (.bin .sub .i64 (.t 14) (kI 3)),
 mV 3 4 15]) .ret) .skip)
def c10:DCode:=(.seq (.region [mV 0 16 1,
 mV 1 17 0,
 mV 2 18 1,
 oP 3 19 (.len (.t 18)),
 oP 4 20 (.call 19 [.t 17,.t 19] [.c (.int .i64)]),
 oP 5 21 (.iaddr (.t 16) (.t 20) 3),
 oP 6 22 (.faddr 21 0),
 oP 7 23 (.ldG 22 (.c (.int .i64))),
 mV 8 4 23]) .ret)
def d:DFn:={ ntmps:=24,res:=[.t 4],body:=(.seq (.region [oP 0 4 (.move (kI 0))]) (.seq (.seq (.region [mV 0 5 1,
 oP 1 6 (.len (.t 5)),
 oP 2 7 (.cmp .eql .i64 (.t 6) (kI 0)),
 mV 3 8 7,
 ⟨4,some 9,.move (.t 0),some (8,false)⟩,
 ⟨5,some 10,.call 19 [.t 9,.k (.c (.int .i64 12))] [.c (.int .i64)],some (8,false)⟩,
 ⟨6,some 11,.cmp .eql .i64 (.t 10) (kI 0),some (8,false)⟩,
 oP 7 12 (.pick (.t 8) (kB true) (.t 11))]) (.cut [0,1,12] c6)) c10)) }
def k10:Kont:=execC M.j C (M.ag C) c10 ({ exits:=[],ret:=retK d }:Env) (retK d)
def J6 (a b c e f:Nat) (g:Bool) (G:GH):Option Res:=M.j (execC M.j C (M.ag C) c6 ({ exits:=[],ret:=retK d }:Env) (k10 M C)) (vP a b::(vS 3 c e f::(uS 10 (vB g::(uS 11 []))))) G
theorem J6_eq (a b g h d:Nat) (i:Bool) (G:GH):J6 M C a b g h d i G=(bif i then (C F10.id [.c (.ptr a b),.c (.int .i64 200)] G).bind fun j=>(((j.1[0]?).bind V1.c?).bind (Cell.asI .i64)).bind fun k=>some ([.c (.int .i64 (IntKind.i64.wrap (k-3)))],j.2) else (C F10.id [.c (.ptr a b),.c (.int .i64 ((d:Nat):Int))] G).bind fun e=>(((e.1[0]?).bind V1.c?).bind (Cell.asI .i64)).bind fun f=>guardK (decide (0≤f∧f<((d:Nat):Int))) (((e.2.ld g ((h+Int.toNat f*3)+0)).bind (Cell.asI .i64)).bind fun l=>some ([.c (.int .i64 l)],e.2))):=(M.hj _ _ _).trans (by kernel_rfl)
def f (a b e g d:Nat) (G:GH):Option Res:=bif decide (((d:Nat):Int)=0) then J6 M C a b e g d true G else (C F10.id [.c (.ptr a b),.c (.int .i64 12)] G).bind fun h=>(((h.1[0]?).bind V1.c?).bind (Cell.asI .i64)).bind fun i=>J6 M C a b e g d (decide (i=0)) h.2
theorem eq (a b e g h:Nat) (G:GH):runF M C d [.c (.ptr a b),.c (.sl 3 e g h)] G=f M C a b e g h G:=by kernel_rfl
end F7
namespace F50
def d:DFn:={ ntmps:=38,res:=[],body:=(.seq (.region [oP 0 3 (.boxv 37 [10,22,32] (.t 1) 3)]) (.seq (.region [mV 0 5 0,
 mV 1 6 0,
 oP 2 7 (.nilck (.t 6)),
 oP 3 8 (.faddr 7 8),
 oP 4 9 (.ldG 8 (.agg [.int .i64,.sl 2,.sl 2])),
 oP 5 10 (.faddr 3 0),
 oP 6 11 (.ldL 10 37 (.c (.int .i64))),
 oP 7 12 (.call 76 [.t 9,.t 11] [.agg [.int .i64,.sl 2,.sl 2],.c (.int .i64),.c (.bool)]),
 mV 8 4 12,
 oP 9 13 (.ext 4 0),
 oP 10 14 (.ext 4 1),
 oP 11 15 (.ext 4 2),
 oP 12 16 (.nilck (.t 5)),
 oP 13 17 (.faddr 16 8),
 ⟨14,none,.stG 17 (.t 13) 3,none⟩]) (.seq (.region [mV 0 18 0,
 oP 1 19 (.nilck (.t 18)),
 oP 2 20 (.faddr 19 11),
 oP 3 21 (.ldG 20 (.c (.map))),
 oP 4 22 (.faddr 3 0),
 oP 5 23 (.ldL 22 37 (.c (.int .i64))),
 oP 6 24 (.build [.int .i64 0] [(0,1,.t 23)]),
 ⟨7,none,.del (.agg [.int .i64]) (.t 21) (.t 24),none⟩]) (.seq (.region [mV 0 25 0,
 oP 1 26 (.ldL 3 37 (.agg (iS 3))),
 oP 2 27 (.call 77 [.t 25,.t 26,.k (.c (.int .i64 (-1)))] [])]) (.region [mV 0 28 0,
 oP 1 29 (.nilck (.t 28)),
 oP 2 30 (.faddr 29 12),
 oP 3 31 (.ldG 30 (.c (.int .i64))),
 oP 4 32 (.faddr 3 1),
 oP 5 33 (.ldL 32 37 (.c (.int .i64))),
 oP 6 34 (.bin .sub .i64 (.t 31) (.t 33)),
 oP 7 35 (.nilck (.t 28)),
 oP 8 36 (.faddr 35 12),
 ⟨9,none,.stG 36 (.t 34) 1,none⟩]))))) }
def f (M:Mach) (C:Call) (b d:Nat) (h n q:Int) (G:GH):Option Res:=guardK (!Nat.beq b 0) (((G.ld b ((d+8)+0)).bind (Cell.asI .i64)).bind fun r=>((G.ld b ((d+8)+1)).bind (Cell.asS 2)).bind fun i=>((G.ld b ((d+8)+2)).bind (Cell.asS 2)).bind fun j=>(C F61.id [.agg [.int .i64 r,.sl 2 i.1 i.2.1 i.2.2,.sl 2 j.1 j.2.1 j.2.2],.c (.int .i64 h)] G).bind fun e=>((e.1[0]?).bind V1.a?).bind fun g=>if g.length=3 then (((g[0]?).bind (Cell.asI .i64)).bind fun s=>((g[1]?).bind (Cell.asS 2)).bind fun k=>((g[2]?).bind (Cell.asS 2)).bind fun l=>(((e.1[1]?).bind V1.c?).bind (Cell.asI .i64)).bind fun y=>(((e.1[2]?).bind V1.c?).bind Cell.asB).bind fun z=>guardK (!Nat.beq b 0) ((e.2.sts b (d+8) [.int .i64 s,.sl 2 k.1 k.2.1 k.2.2,.sl 2 l.1 l.2.1 l.2.2]).bind fun m=>guardK (!Nat.beq b 0) (((m.ld b (d+11)).bind Cell.asM).bind fun o=>(m.ents (.agg [.int .i64]) o).bind fun t=>let v:=m.set o (some (.map (.agg [.int .i64]) (mapDel t (.agg [.int .i64 h]))));(C F31.id [.c (.ptr b d),.agg [.int .i64 h,.int .i64 n,.int .i64 q],.c (.int .i64 (-1))] v).bind fun p=>guardK (!Nat.beq b 0) (((p.2.ld b (d+12)).bind (Cell.asI .i64)).bind fun w=>guardK (!Nat.beq b 0) ((p.2.sts b (d+12) [.int .i64 (IntKind.i64.wrap (w-n))]).bind fun x=>some ([],x)))))) else none)
theorem eq (a b:Nat) (e g h:Int) (G:GH):runF M C d [.c (.ptr a b),.agg [.int .i64 e,.int .i64 g,.int .i64 h]] G=f M C a b e g h G:=by kernel_rfl
end F50
namespace F83
def c11:DCode:=(.seq (.region [mV 0 21 3,
 mV 1 2 21]) .ret)
def d:DFn:={ ntmps:=22,res:=[.t 2],body:=(.seq (.region [oP 0 2 (.move (.k (.c (.sl 1 0 0 0))))]) (.seq (.region [mV 0 5 0,
 oP 1 6 (.bin .sub .i64 (.t 5) (kI 1)),
 oP 2 7 (.bin .quo .i64 (.t 6) (kI 64)),
 oP 3 8 (.bin .add .i64 (.t 7) (kI 1)),
 oP 4 9 (.mkslice (.t 8) 1 8 [.int .u64 0]),
 mV 5 3 9]) (.seq (.seq (.region [mV 0 10 0,
 oP 1 11 (.bin .rem .i64 (.t 10) (kI 64)),
 mV 2 4 11]) (.seq (.region [mV 0 12 4,
 oP 1 13 (.cmp .gtr .i64 (.t 12) (kI 0))]) (.cond (.t 13) (.region [mV 0 14 3,
 mV 1 15 3,
 oP 2 16 (.len (.t 15)),
 oP 3 17 (.bin .sub .i64 (.t 16) (kI 1)),
 mV 4 18 4,
 oP 5 19 (.call 99 [.t 18,.k (.c (.int .i64 64))] [.c (.int .u64)]),
 oP 6 20 (.iaddr (.t 14) (.t 17) 1),
 ⟨7,none,.stG 20 (.t 19) 1,none⟩]) .skip))) (.cut [3] c11)))) }
def J11 (a b c:Nat) (G:GH):Option Res:=M.j (execC M.j C (M.ag C) c11 ({ exits:=[],ret:=retK d }:Env) (retK d)) (uS 3 (vS 1 a b c::(uS 18 []))) G
theorem J11_eq (a b d:Nat) (G:GH):J11 M C a b d G=(some ([.c (.sl 1 a b d)],G)):=(M.hj _ _ _).trans (by kernel_rfl)
def f (a:Int) (G:GH):Option Res:=guardK (decide (0≤IntKind.i64.wrap ((IntKind.i64.wrap (Int.tdiv (IntKind.i64.wrap (a-1)) 64))+1)∧IntKind.i64.wrap ((IntKind.i64.wrap (Int.tdiv (IntKind.i64.wrap (a-1)) 64))+1)≤(most:Int))) (let b:=G.alloc (.row (reps (Int.toNat (IntKind.i64.wrap ((IntKind.i64.wrap (Int.tdiv (IntKind.i64.wrap (a-1)) 64))+1))) [.int .u64 0]) false);bif decide (Int.tmod a 64>0) then (C F90.id [.c (.int .i64 (Int.tmod a 64)),.c (.int .i64 64)] b).bind fun d=>(((d.1[0]?).bind V1.c?).bind (Cell.asI .u64)).bind fun e=>guardK (decide (0≤IntKind.i64.wrap (((Int.toNat (IntKind.i64.wrap ((IntKind.i64.wrap (Int.tdiv (IntKind.i64.wrap (a-1)) 64))+1)):Nat):Int)-1)∧IntKind.i64.wrap (((Int.toNat (IntKind.i64.wrap ((IntKind.i64.wrap (Int.tdiv (IntKind.i64.wrap (a-1)) 64))+1)):Nat):Int)-1)<((Int.toNat (IntKind.i64.wrap ((IntKind.i64.wrap (Int.tdiv (IntKind.i64.wrap (a-1)) 64))+1)):Nat):Int))) ((d.2.sts G.next (0+Int.toNat (IntKind.i64.wrap (((Int.toNat (IntKind.i64.wrap ((IntKind.i64.wrap (Int.tdiv (IntKind.i64.wrap (a-1)) 64))+1)):Nat):Int)-1))*1) [.int .u64 e]).bind fun g=>J11 M C G.next 0 (Int.toNat (IntKind.i64.wrap ((IntKind.i64.wrap (Int.tdiv (IntKind.i64.wrap (a-1)) 64))+1))) g) else J11 M C G.next 0 (Int.toNat (IntKind.i64.wrap ((IntKind.i64.wrap (Int.tdiv (IntKind.i64.wrap (a-1)) 64))+1))) b)
theorem eq (a:Int) (G:GH):runF M C d [.c (.int .i64 a)] G=f M C a G:=by kernel_rfl
end F83
namespace F99
def c14:DCode:=(.region [oP 0 14 (.bin .add .i64 (.t 7) (kI 1)),
 mV 1 7 14])
def c17:DCode:=(.seq (.region [oP 0 8 (.cmp .lss .i64 (.t 7) (.t 6))]) (.seq (.cond (.t 8) .skip (.exit 0)) (.seq (.block 1 (.seq (.region [oP 0 9 (.iaddr (.t 5) (.t 7) 1),
 oP 1 10 (.ldG 9 (.c (.bool))),
 mV 2 4 10]) (.seq (.region [mV 0 11 4]) (.cond (.t 11) (.region [mV 0 12 2,
 oP 1 13 (.bin .add .i64 (.t 12) (kI 1)),
 mV 2 2 13]) .skip)))) (.cut [2,5,6,7] c14))))
def c18:DCode:=(.loop [2,5,6,7] c17)
def c23:DCode:=(.seq (.region [mV 0 15 2,
 mV 1 2 15]) .ret)
def d:DFn:={ ntmps:=16,res:=[.t 2],body:=(.seq (.region [oP 0 2 (.move (kI 0))]) (.seq (.seq (.region [mV 0 5 0,
 oP 1 6 (.len (.t 5)),
 oP 2 7 (.move (kI 0))]) (.block 0 c18)) c23)) }
def k23:Kont:=execC M.j C (M.ag C) c23 ({ exits:=[],ret:=retK d }:Env) (retK d)
def e19:Env:={ exits:=(0,(k23 M C))::(({ exits:=[],ret:=retK d }:Env)).exits,ret:=(({ exits:=[],ret:=retK d }:Env)).ret }
def L18 (a:Int) (b c d:Nat) (e f:Int) (G:GH):Option Res:=M.ag C [2,5,6,7] c17 (e19 M C) (k23 M C) (uS 2 (vI a::(uS 2 (vS 1 b c d::(vI e::(vI f::(uS 8 []))))))) G
def k18:Kont:=fun tm G=>M.ag C [2,5,6,7] c17 (e19 M C) (k23 M C) (restr [2,5,6,7] 0 tm) G
def J14 (a:Int) (b c d:Nat) (e f:Int) (G:GH):Option Res:=M.j (execC M.j C (M.ag C) c14 (e19 M C) (k18 M C)) (uS 2 (vI a::(uS 2 (vS 1 b c d::(vI e::(vI f::(uS 8 []))))))) G
theorem L18_eq (b:Int) (d e f:Nat) (g a:Int) (G:GH):L18 M C b d e f g a G=(bif decide (a<g) then guardK (decide (0≤a∧a<((f:Nat):Int))) (((G.ld d (e+Int.toNat a*1)).bind Cell.asB).bind fun h=>bif h then J14 M C (IntKind.i64.wrap (b+1)) d e f g a G else J14 M C b d e f g a G) else some ([.c (.int .i64 b)],G)):=(M.hs _ _ _ _ _ _ _).trans (by kernel_rfl)
theorem J14_eq (a:Int) (b c d:Nat) (e f:Int) (G:GH):J14 M C a b c d e f G=(L18 M C a b c d e (IntKind.i64.wrap (f+1)) G):=(M.hj _ _ _).trans (by kernel_rfl)
def f (b c a:Nat) (G:GH):Option Res:=L18 M C 0 b c a ((a:Nat):Int) 0 G
theorem eq (a b e:Nat) (G:GH):runF M C d [.c (.sl 1 a b e)] G=f M C a b e G:=by kernel_rfl
end F99
namespace F52
def c6:DCode:=(.cond (.t 23) (.seq (.region [oP 0 4 (.move (kI 0)),
 oP 1 5 (.move (kB false))]) .ret) .skip)
def c10:DCode:=(.seq (.region [mV 0 24 0,
 mV 1 25 1,
 oP 2 26 (.bin .add .i64 (.t 24) (.t 25)),
 mV 3 4 26,
 oP 4 5 (.move (kB true))]) .ret)
def d:DFn:={ ntmps:=27,res:=[.t 4,.t 5],body:=(.seq (.region [oP 0 4 (.move (kI 0)),
 oP 1 5 (.move (kB false))]) (.seq (.seq (.region [mV 0 6 1,
 oP 1 7 (.cmp .gtr .i64 (.t 6) (kI 0)),
 mV 2 8 7,
 ⟨3,some 9,.move (.t 0),some (8,true)⟩,
 ⟨4,some 10,.move (.t 1),some (8,true)⟩,
 ⟨5,some 11,.bin .sub .i64 (kI 9223372036854775807) (.t 10),some (8,true)⟩,
 ⟨6,some 12,.cmp .gtr .i64 (.t 9) (.t 11),some (8,true)⟩,
 oP 7 13 (.pick (.t 8) (.t 12) (kB false)),
 mV 8 14 13,
 ⟨9,some 15,.move (.t 1),some (14,false)⟩,
 ⟨10,some 16,.cmp .lss .i64 (.t 15) (kI 0),some (14,false)⟩,
 ⟨11,some 17,.move (.t 16),some (14,false)⟩,
 ⟨12,some 18,.move (.t 0),some (17,true)⟩,
 ⟨13,some 19,.move (.t 1),some (17,true)⟩,
 ⟨14,some 20,.bin .sub .i64 (kI (-9223372036854775808)) (.t 19),some (17,true)⟩,
 ⟨15,some 21,.cmp .lss .i64 (.t 18) (.t 20),some (17,true)⟩,
 ⟨16,some 22,.pick (.t 17) (.t 21) (kB false),some (14,false)⟩,
 oP 17 23 (.pick (.t 14) (kB true) (.t 22))]) (.cut [0,1,23] c6)) c10)) }
def k10:Kont:=execC M.j C (M.ag C) c10 ({ exits:=[],ret:=retK d }:Env) (retK d)
def J6 (a b:Int) (c:Bool) (G:GH):Option Res:=M.j (execC M.j C (M.ag C) c6 ({ exits:=[],ret:=retK d }:Env) (k10 M C)) (vI a::(vI b::(uS 21 (vB c::(uS 3 []))))) G
theorem J6_eq (a b:Int) (d:Bool) (G:GH):J6 M C a b d G=(bif d then some ([.c (.int .i64 0),.c (.bool false)],G) else some ([.c (.int .i64 (IntKind.i64.wrap (a+b))),.c (.bool true)],G)):=(M.hj _ _ _).trans (by kernel_rfl)
def f (b a:Int) (G:GH):Option Res:=bif decide (a>0) then bif decide (b>IntKind.i64.wrap (9223372036854775807-a)) then J6 M C b a true G else bif decide (a<0) then J6 M C b a (decide (b<IntKind.i64.wrap ((-9223372036854775808)-a))) G else J6 M C b a false G else bif decide (a<0) then J6 M C b a (decide (b<IntKind.i64.wrap ((-9223372036854775808)-a))) G else J6 M C b a false G
theorem eq (a b:Int) (G:GH):runF M C d [.c (.int .i64 a),.c (.int .i64 b)] G=f M C a b G:=by kernel_rfl
end F52
namespace F108
def c4:DCode:=(.cond (.t 26) (.region [oP 0 27 (.faddr 4 1),
 oP 1 28 (.ldL 27 35 (.c (.sl 1))),
 mV 2 29 1,
 oP 3 30 (.iaddr (.t 28) (.t 29) 1),
 oP 4 31 (.ldG 30 (.c (.sl 1))),
 mV 5 32 2,
 mV 6 33 3,
 oP 7 34 (.iaddr (.t 31) (.t 32) 1),
 ⟨8,none,.stG 34 (.t 33) 1,none⟩]) .skip)
def d:DFn:={ ntmps:=36,res:=[],body:=(.seq (.region [oP 0 4 (.boxv 35 [9,19,27] (.t 0) 2)]) (.seq (.region [mV 0 8 1,
 oP 1 9 (.faddr 4 1),
 oP 2 10 (.ldL 9 35 (.c (.sl 1))),
 oP 3 11 (.len (.t 10)),
 oP 4 12 (.cmp .lss .i64 (.t 8) (.t 11)),
 mV 5 13 12,
 ⟨6,some 14,.move (.t 2),some (13,true)⟩,
 ⟨7,some 15,.cmp .geq .i64 (.t 14) (kI 0),some (13,true)⟩,
 oP 8 16 (.pick (.t 13) (.t 15) (kB false)),
 mV 9 17 16,
 ⟨10,some 18,.move (.t 2),some (17,true)⟩,
 ⟨11,some 19,.faddr 4 1,some (17,true)⟩,
 ⟨12,some 20,.ldL 19 35 (.c (.sl 1)),some (17,true)⟩,
 ⟨13,some 21,.move (.t 1),some (17,true)⟩,
 ⟨14,some 22,.iaddr (.t 20) (.t 21) 1,some (17,true)⟩,
 ⟨15,some 23,.ldG 22 (.c (.sl 1)),some (17,true)⟩,
 ⟨16,some 24,.len (.t 23),some (17,true)⟩,
 ⟨17,some 25,.cmp .lss .i64 (.t 18) (.t 24),some (17,true)⟩,
 oP 18 26 (.pick (.t 17) (.t 25) (kB false))]) (.cut [1,2,3,4,26,35] c4))) }
def J4 (a b e:Int) (f:Bool) (g:Int) (h i k:Nat) (G:GH):Option Res:=M.j (execC M.j C (M.ag C) c4 ({ exits:=[],ret:=retK d }:Env) (retK d)) (uS 1 (vI a::(vI b::(.v (.c (.int .u64 e))::(.ref 35 0::(uS 21 (vB f::(uS 8 (.box [.int .i64 g,.sl 1 h i k]::[]))))))))) G
theorem J4_eq (a b d:Int) (e:Bool) (i:Int) (f g h:Nat) (G:GH):J4 M C a b d e i f g h G=(bif e then guardK (decide (0≤a∧a<((h:Nat):Int))) (((G.ld f (g+Int.toNat a*1)).bind (Cell.asS 1)).bind fun c=>guardK (decide (0≤b∧b<((c.2.2:Nat):Int))) ((G.sts c.1 (c.2.1+Int.toNat b*1) [.int .u64 d]).bind fun j=>some ([],j))) else some ([],G)):=(M.hj _ _ _).trans (by kernel_rfl)
def f (g:Int) (d e b:Nat) (a c h:Int) (G:GH):Option Res:=bif decide (a<((b:Nat):Int)) then bif decide (c≥0) then guardK (decide (0≤a∧a<((b:Nat):Int))) (((G.ld d (e+Int.toNat a*1)).bind (Cell.asS 1)).bind fun i=>J4 M C a c h (decide (c<((i.2.2:Nat):Int))) g d e b G) else J4 M C a c h false g d e b G else J4 M C a c h false g d e b G
theorem eq (a:Int) (b e g:Nat) (h i j:Int) (G:GH):runF M C d [.agg [.int .i64 a,.sl 1 b e g],.c (.int .i64 h),.c (.int .i64 i),.c (.int .u64 j)] G=f M C a b e g h i j G:=by kernel_rfl
end F108
namespace F117
def c6:DCode:=(.cond (.t 10) (.seq (.region [oP 0 2 (.move (kI 0)),
 oP 1 3 (.move (kB false))]) .ret) .skip)
def c16:DCode:=(.seq (.seq (.region [mV 0 11 4,
 mV 1 12 0,
 oP 2 13 (.cmp .lss .i64 (.t 11) (.t 12))]) (.cond (.t 13) .skip (.exit 0))) (.block 1 (.region [mV 0 14 4,
 oP 1 15 (.bin .shl .i64 (.t 14) (.k (.c (.int .u64 1)))),
 mV 2 4 15])))
def c21:DCode:=(.seq (.region [mV 0 16 4,
 mV 1 2 16,
 oP 2 3 (.move (kB true))]) .ret)
def c23:DCode:=(.seq (.region [oP 0 4 (.move (kI 1))]) (.seq (.block 0 (.loop [0,4] c16)) c21))
def d:DFn:={ ntmps:=17,res:=[.t 2,.t 3],body:=(.seq (.region [oP 0 2 (.move (kI 0)),
 oP 1 3 (.move (kB false))]) (.seq (.seq (.region [mV 0 5 0,
 oP 1 6 (.cmp .lss .i64 (.t 5) (kI 1)),
 mV 2 7 6,
 ⟨3,some 8,.move (.t 0),some (7,false)⟩,
 ⟨4,some 9,.cmp .gtr .i64 (.t 8) (kI 4611686018427387904),some (7,false)⟩,
 oP 5 10 (.pick (.t 7) (kB true) (.t 9))]) (.cut [0,10] c6)) c23)) }
def k23:Kont:=execC M.j C (M.ag C) c23 ({ exits:=[],ret:=retK d }:Env) (retK d)
def J6 (a:Int) (b:Bool) (G:GH):Option Res:=M.j (execC M.j C (M.ag C) c6 ({ exits:=[],ret:=retK d }:Env) (k23 M C)) (vI a::(uS 9 (vB b::(uS 6 [])))) G
def k21:Kont:=execC M.j C (M.ag C) c21 ({ exits:=[],ret:=retK d }:Env) (retK d)
def e18:Env:={ exits:=(0,(k21 M C))::(({ exits:=[],ret:=retK d }:Env)).exits,ret:=(({ exits:=[],ret:=retK d }:Env)).ret }
def L17 (a b:Int) (G:GH):Option Res:=M.ag C [0,4] c16 (e18 M C) (k21 M C) (vI a::(uS 3 (vI b::(uS 12 [])))) G
theorem J6_eq (a:Int) (b:Bool) (G:GH):J6 M C a b G=(bif b then some ([.c (.int .i64 0),.c (.bool false)],G) else L17 M C a 1 G):=(M.hj _ _ _).trans (by kernel_rfl)
theorem L17_eq (b a:Int) (G:GH):L17 M C b a G=(bif decide (a<b) then L17 M C b (IntKind.i64.wrap (a*2 ^ (min (1:Int).toNat IntKind.i64.bits))) G else some ([.c (.int .i64 a),.c (.bool true)],G)):=(M.hs _ _ _ _ _ _ _).trans (by kernel_rfl)
def f (a:Int) (G:GH):Option Res:=bif decide (a<1) then J6 M C a true G else J6 M C a (decide (a>4611686018427387904)) G
theorem eq (a:Int) (G:GH):runF M C d [.c (.int .i64 a)] G=f M C a G:=by kernel_rfl
end F117
namespace F16
def d:DFn:={ ntmps:=29,res:=[.box 6 (some 8)],body:=(.seq (.region [oP 0 6 (.boxz 28 [] zA)]) (.seq (.region [mV 0 10 0,
 oP 1 11 (.nilck (.t 10)),
 oP 2 12 (.faddr 11 0),
 oP 3 13 (.ldG 12 (.agg (iS 8))),
 mV 4 14 0,
 oP 5 15 (.nilck (.t 14)),
 oP 6 16 (.faddr 15 12),
 oP 7 17 (.ldG 16 (.c (.int .i64))),
 mV 8 18 1,
 mV 9 19 2,
 oP 10 20 (.call 50 [.t 13,.t 17,.t 18,.t 19] [.c (.int .i64),.c (.int .i64)]),
 mV 11 9 20,
 oP 12 21 (.ext 9 0),
 oP 13 22 (.ext 9 1),
 mV 14 7 21,
 mV 15 8 22]) (.seq (.region [mV 0 23 0,
 mV 1 24 7,
 mV 2 25 1,
 mV 3 26 8,
 oP 4 27 (.call 51 [.t 23,.t 24,.t 25,.t 26] [.agg sA]),
 ⟨5,none,.stL 6 28 (.t 27) 8,none⟩]) .ret))) }
def f (M:Mach) (C:Call) (b d:Nat) (h j:Int) (G:GH):Option Res:=guardK (!Nat.beq b 0) (((G.ld b ((d+0)+0)).bind (Cell.asI .i64)).bind fun k=>((G.ld b ((d+0)+1)).bind (Cell.asI .i64)).bind fun l=>((G.ld b ((d+0)+2)).bind (Cell.asI .i64)).bind fun m=>((G.ld b ((d+0)+3)).bind (Cell.asI .i64)).bind fun n=>((G.ld b ((d+0)+4)).bind (Cell.asI .i64)).bind fun o=>((G.ld b ((d+0)+5)).bind (Cell.asI .i64)).bind fun p=>((G.ld b ((d+0)+6)).bind (Cell.asI .i64)).bind fun q=>((G.ld b ((d+0)+7)).bind (Cell.asI .i64)).bind fun r=>guardK (!Nat.beq b 0) (((G.ld b (d+12)).bind (Cell.asI .i64)).bind fun s=>(C F93.id [.agg [.int .i64 k,.int .i64 l,.int .i64 m,.int .i64 n,.int .i64 o,.int .i64 p,.int .i64 q,.int .i64 r],.c (.int .i64 s),.c (.int .i64 h),.c (.int .i64 j)] G).bind fun g=>(((g.1[0]?).bind V1.c?).bind (Cell.asI .i64)).bind fun t=>(((g.1[1]?).bind V1.c?).bind (Cell.asI .i64)).bind fun v=>(C F49.id [.c (.ptr b d),.c (.int .i64 t),.c (.int .i64 h),.c (.int .i64 v)] g.2).bind fun i=>((i.1[0]?).bind V1.a?).bind fun e=>if e.length=8 then (((e[0]?).bind (Cell.asI .i64)).bind fun w=>((e[1]?).bind (Cell.asI .i64)).bind fun x=>((e[2]?).bind (Cell.asI .i64)).bind fun y=>((e[3]?).bind (Cell.asI .u8)).bind fun z=>((e[4]?).bind (Cell.asI .i64)).bind fun A=>((e[5]?).bind (Cell.asI .i64)).bind fun B=>((e[6]?).bind (Cell.asI .i64)).bind fun D=>((e[7]?).bind (Cell.asI .i64)).bind fun E=>some ([.agg [.int .i64 w,.int .i64 x,.int .i64 y,.int .u8 z,.int .i64 A,.int .i64 B,.int .i64 D,.int .i64 E]],i.2)) else none))
theorem eq (a b:Nat) (e g:Int) (G:GH):runF M C d [.c (.ptr a b),.c (.int .i64 e),.c (.int .i64 g)] G=f M C a b e g G:=by kernel_rfl
end F16
namespace F23
def c6:DCode:=(.cond (.t 11) (.seq (.region [oP 0 4 (.move (kI 0)),
 oP 1 5 (.move (kB false))]) .ret) .skip)
def c18:DCode:=(.seq (.seq (.region [mV 0 12 0,
 mV 1 13 1,
 oP 2 14 (.bin .rem .i64 (.t 12) (.t 13)),
 oP 3 15 (.cmp .eql .i64 (.t 14) (kI 0))]) (.cond (.t 15) (.seq (.region [mV 0 16 0,
 mV 1 4 16,
 oP 2 5 (.move (kB true))]) .ret) .skip)) (.seq (.region [mV 0 17 0,
 mV 1 18 0,
 mV 2 19 1,
 oP 3 20 (.bin .rem .i64 (.t 18) (.t 19)),
 oP 4 21 (.bin .sub .i64 (.t 17) (.t 20)),
 mV 5 22 1,
 oP 6 23 (.call 82 [.t 21,.t 22] [.c (.int .i64),.c (.bool)]),
 oP 7 24 (.ext 23 0),
 oP 8 25 (.ext 23 1),
 mV 9 4 24,
 mV 10 5 25]) .ret))
def d:DFn:={ ntmps:=26,res:=[.t 4,.t 5],body:=(.seq (.region [oP 0 4 (.move (kI 0)),
 oP 1 5 (.move (kB false))]) (.seq (.seq (.region [mV 0 6 0,
 oP 1 7 (.cmp .lss .i64 (.t 6) (kI 0)),
 mV 2 8 7,
 ⟨3,some 9,.move (.t 1),some (8,false)⟩,
 ⟨4,some 10,.cmp .lss .i64 (.t 9) (kI 1),some (8,false)⟩,
 oP 5 11 (.pick (.t 8) (kB true) (.t 10))]) (.cut [0,1,11] c6)) c18)) }
def k18:Kont:=execC M.j C (M.ag C) c18 ({ exits:=[],ret:=retK d }:Env) (retK d)
def J6 (a b:Int) (c:Bool) (G:GH):Option Res:=M.j (execC M.j C (M.ag C) c6 ({ exits:=[],ret:=retK d }:Env) (k18 M C)) (vI a::(vI b::(uS 9 (vB c::(uS 14 []))))) G
theorem J6_eq (a b:Int) (e:Bool) (G:GH):J6 M C a b e G=(bif e then some ([.c (.int .i64 0),.c (.bool false)],G) else (binD .rem .i64 a b).bind fun f=>bif decide (f=0) then some ([.c (.int .i64 a),.c (.bool true)],G) else (binD .rem .i64 a b).bind fun g=>(C F52.id [.c (.int .i64 (IntKind.i64.wrap (a-g))),.c (.int .i64 b)] G).bind fun d=>(((d.1[0]?).bind V1.c?).bind (Cell.asI .i64)).bind fun h=>(((d.1[1]?).bind V1.c?).bind Cell.asB).bind fun i=>some ([.c (.int .i64 h),.c (.bool i)],d.2)):=(M.hj _ _ _).trans (by kernel_rfl)
def f (a b:Int) (G:GH):Option Res:=bif decide (a<0) then J6 M C a b true G else J6 M C a b (decide (b<1)) G
theorem eq (a b:Int) (G:GH):runF M C d [.c (.int .i64 a),.c (.int .i64 b)] G=f M C a b G:=by kernel_rfl
end F23
namespace F67
def c6:DCode:=(.cond (.t 14) (.seq (.region [oP 0 4 (.move (kI 0)),
 oP 1 5 (.move (kB false))]) .ret) .skip)
def c10:DCode:=(.seq (.region [oP 0 15 (.faddr 2 0),
 oP 1 16 (.ldL 15 23 (.c (.sl 2))),
 mV 2 17 1,
 oP 3 18 (.iaddr (.t 16) (.t 17) 2),
 oP 4 19 (.ldG 18 (.agg [.int .i64,.sl 1])),
 oP 5 20 (.call 110 [.t 19,.k (.c (.int .i64 0))] [.c (.int .i64),.c (.bool)]),
 oP 6 21 (.ext 20 0),
 oP 7 22 (.ext 20 1),
 mV 8 4 21,
 mV 9 5 22]) .ret)
def d:DFn:={ ntmps:=24,res:=[.t 4,.t 5],body:=(.seq (.region [oP 0 2 (.boxv 23 [10,15] (.t 0) 1),
 oP 1 4 (.move (kI 0)),
 oP 2 5 (.move (kB false))]) (.seq (.seq (.region [mV 0 6 1,
 oP 1 7 (.cmp .lss .i64 (.t 6) (kI 0)),
 mV 2 8 7,
 ⟨3,some 9,.move (.t 1),some (8,false)⟩,
 ⟨4,some 10,.faddr 2 0,some (8,false)⟩,
 ⟨5,some 11,.ldL 10 23 (.c (.sl 2)),some (8,false)⟩,
 ⟨6,some 12,.len (.t 11),some (8,false)⟩,
 ⟨7,some 13,.cmp .geq .i64 (.t 9) (.t 12),some (8,false)⟩,
 oP 8 14 (.pick (.t 8) (kB true) (.t 13))]) (.cut [1,2,14,23] c6)) c10)) }
def k10:Kont:=execC M.j C (M.ag C) c10 ({ exits:=[],ret:=retK d }:Env) (retK d)
def J6 (a:Int) (b:Bool) (c e f:Nat) (G:GH):Option Res:=M.j (execC M.j C (M.ag C) c6 ({ exits:=[],ret:=retK d }:Env) (k10 M C)) (uS 1 (vI a::(.ref 23 0::(uS 11 (vB b::(uS 8 (.box [.sl 2 c e f]::[]))))))) G
theorem J6_eq (a:Int) (g:Bool) (b d h:Nat) (G:GH):J6 M C a g b d h G=(bif g then some ([.c (.int .i64 0),.c (.bool false)],G) else guardK (decide (0≤a∧a<((h:Nat):Int))) (((G.ld b ((d+Int.toNat a*2)+0)).bind (Cell.asI .i64)).bind fun i=>((G.ld b ((d+Int.toNat a*2)+1)).bind (Cell.asS 1)).bind fun e=>(C F47.id [.agg [.int .i64 i,.sl 1 e.1 e.2.1 e.2.2],.c (.int .i64 0)] G).bind fun f=>(((f.1[0]?).bind V1.c?).bind (Cell.asI .i64)).bind fun j=>(((f.1[1]?).bind V1.c?).bind Cell.asB).bind fun k=>some ([.c (.int .i64 j),.c (.bool k)],f.2))):=(M.hj _ _ _).trans (by kernel_rfl)
def f (c d b:Nat) (a:Int) (G:GH):Option Res:=bif decide (a<0) then J6 M C a true c d b G else J6 M C a (decide (a≥((b:Nat):Int))) c d b G
theorem eq (a b e:Nat) (g:Int) (G:GH):runF M C d [.agg [.sl 2 a b e],.c (.int .i64 g)] G=f M C a b e g G:=by kernel_rfl
end F67
namespace F82
def c6:DCode:=(.cond (.t 12) (.seq (.region [oP 0 4 (.move (kI 0)),
 oP 1 5 (.move (kB false))]) .ret) .skip)
def c20:DCode:=(.seq (.region [mV 0 13 0,
 mV 1 14 1,
 oP 2 15 (.bin .rem .i64 (.t 13) (.t 14)),
 mV 3 6 15]) (.seq (.seq (.region [mV 0 16 6,
 oP 1 17 (.cmp .eql .i64 (.t 16) (kI 0))]) (.cond (.t 17) (.seq (.region [mV 0 18 0,
 mV 1 4 18,
 oP 2 5 (.move (kB true))]) .ret) .skip)) (.seq (.region [mV 0 19 0,
 mV 1 20 1,
 mV 2 21 6,
 oP 3 22 (.bin .sub .i64 (.t 20) (.t 21)),
 oP 4 23 (.call 59 [.t 19,.t 22] [.c (.int .i64),.c (.bool)]),
 oP 5 24 (.ext 23 0),
 oP 6 25 (.ext 23 1),
 mV 7 4 24,
 mV 8 5 25]) .ret)))
def d:DFn:={ ntmps:=26,res:=[.t 4,.t 5],body:=(.seq (.region [oP 0 4 (.move (kI 0)),
 oP 1 5 (.move (kB false))]) (.seq (.seq (.region [mV 0 7 0,
 oP 1 8 (.cmp .lss .i64 (.t 7) (kI 0)),
 mV 2 9 8,
 ⟨3,some 10,.move (.t 1),some (9,false)⟩,
 ⟨4,some 11,.cmp .lss .i64 (.t 10) (kI 1),some (9,false)⟩,
 oP 5 12 (.pick (.t 9) (kB true) (.t 11))]) (.cut [0,1,12] c6)) c20)) }
def k20:Kont:=execC M.j C (M.ag C) c20 ({ exits:=[],ret:=retK d }:Env) (retK d)
def J6 (a b:Int) (c:Bool) (G:GH):Option Res:=M.j (execC M.j C (M.ag C) c6 ({ exits:=[],ret:=retK d }:Env) (k20 M C)) (vI a::(vI b::(uS 10 (vB c::(uS 13 []))))) G
theorem J6_eq (a b:Int) (e:Bool) (G:GH):J6 M C a b e G=(bif e then some ([.c (.int .i64 0),.c (.bool false)],G) else (binD .rem .i64 a b).bind fun f=>bif decide (f=0) then some ([.c (.int .i64 a),.c (.bool true)],G) else (C F105.id [.c (.int .i64 a),.c (.int .i64 (IntKind.i64.wrap (b-f)))] G).bind fun d=>(((d.1[0]?).bind V1.c?).bind (Cell.asI .i64)).bind fun g=>(((d.1[1]?).bind V1.c?).bind Cell.asB).bind fun h=>some ([.c (.int .i64 g),.c (.bool h)],d.2)):=(M.hj _ _ _).trans (by kernel_rfl)
def f (a b:Int) (G:GH):Option Res:=bif decide (a<0) then J6 M C a b true G else J6 M C a b (decide (b<1)) G
theorem eq (a b:Int) (G:GH):runF M C d [.c (.int .i64 a),.c (.int .i64 b)] G=f M C a b G:=by kernel_rfl
end F82
namespace F101
def d:DFn:={ ntmps:=31,res:=[.t 4,.t 5,.t 6],body:=(.seq (.region [oP 0 4 (.move (.k (.c (.sl 2 0 0 0)))),
 oP 1 5 (.move (kI 0)),
 oP 2 6 (.move (kB false))]) (.seq (.region [mV 0 10 0,
 oP 1 11 (.call 104 [.t 10] [.c (.sl 2)]),
 mV 2 7 11]) (.seq (.region [mV 0 13 0,
 mV 1 14 1,
 oP 2 15 (.call 105 [.t 13,.t 14] [.c (.int .i64),.c (.bool)]),
 mV 3 12 15,
 oP 4 16 (.ext 12 0),
 oP 5 17 (.ext 12 1),
 mV 6 8 16,
 mV 7 9 17]) (.seq (.seq (.region [mV 0 18 9,
 oP 1 19 (.not (.t 18))]) (.cond (.t 19) (.seq (.region [mV 0 20 7,
 mV 1 4 20,
 oP 2 5 (.move (kI 0)),
 oP 3 6 (.move (kB false))]) .ret) .skip)) (.seq (.region [mV 0 21 7,
 mV 1 22 8,
 mV 2 23 8,
 oP 3 24 (.bin .add .i64 (.t 23) (kI 1)),
 mV 5 26 0,
 mV 6 27 8,
 oP 7 28 (.iaddr (.t 26) (.t 27) 2),
 oP 8 29 (.faddr 28 1),
 oP 9 30 (.ldG 29 (.c (.int .i64))),
 oP 4 25 (.call 106 [.t 21,.t 22,.t 24] [.c (.sl 2)]),
 ⟨9999,none,.reG 30 29 (.c (.int .i64)),none⟩,
 mV 10 4 25,
 mV 11 5 30,
 oP 12 6 (.move (kB true))]) .ret))))) }
def f (M:Mach) (C:Call) (e g h:Nat) (m:Int) (G:GH):Option Res:=(C F2.id [.c (.sl 2 e g h)] G).bind fun k=>(((k.1[0]?).bind V1.c?).bind (Cell.asS 2)).bind fun a=>(C F98.id [.c (.sl 2 e g h),.c (.int .i64 m)] k.2).bind fun d=>(((d.1[0]?).bind V1.c?).bind (Cell.asI .i64)).bind fun b=>(((d.1[1]?).bind V1.c?).bind Cell.asB).bind fun n=>bif (!n) then some ([.c (.sl 2 a.1 a.2.1 a.2.2),.c (.int .i64 0),.c (.bool false)],d.2) else guardK (decide (0≤b∧b<((h:Nat):Int))) (((d.2.ld e ((g+Int.toNat b*2)+1)).bind (Cell.asI .i64)).bind fun l=>(C F1.id [.c (.sl 2 a.1 a.2.1 a.2.2),.c (.int .i64 b),.c (.int .i64 (IntKind.i64.wrap (b+1)))] d.2).bind fun i=>(((i.1[0]?).bind V1.c?).bind (Cell.asS 2)).bind fun j=>((i.2.ld e ((g+Int.toNat b*2)+1)).bind (Cell.asI .i64)).bind fun o=>guardK (decide ((.c (.int .i64 l):V1) = .c (.int .i64 o))) (some ([.c (.sl 2 j.1 j.2.1 j.2.2),.c (.int .i64 l),.c (.bool true)],i.2)))
theorem eq (a b e:Nat) (g:Int) (G:GH):runF M C d [.c (.sl 2 a b e),.c (.int .i64 g)] G=f M C a b e g G:=by kernel_rfl
end F101
namespace F28
def c17:DCode:=(.seq (.seq (.region [mV 0 6 5,
 mV 1 7 0,
 oP 2 8 (.len (.t 7)),
 oP 3 9 (.cmp .lss .i64 (.t 6) (.t 8))]) (.cond (.t 9) .skip (.exit 0))) (.seq (.block 1 (.seq (.region [mV 0 12 0,
 mV 1 13 5,
 oP 2 14 (.iaddr (.t 12) (.t 13) 3),
 oP 3 15 (.faddr 14 0),
 oP 4 16 (.ldG 15 (.c (.int .i64))),
 mV 5 17 1,
 oP 6 18 (.cmp .eql .i64 (.t 16) (.t 17))]) (.cond (.t 18) (.seq (.region [mV 0 19 5,
 mV 1 4 19]) .ret) .skip))) (.region [mV 0 10 5,
 oP 1 11 (.bin .add .i64 (.t 10) (kI 1)),
 mV 2 5 11])))
def c23:DCode:=(.seq (.region [oP 0 4 (.move (kI (-1)))]) .ret)
def d:DFn:={ ntmps:=20,res:=[.t 4],body:=(.seq (.region [oP 0 4 (.move (kI 0))]) (.seq (.seq (.region [oP 0 5 (.move (kI 0))]) (.block 0 (.loop [0,1,5] c17))) c23)) }
def k23:Kont:=execC M.j C (M.ag C) c23 ({ exits:=[],ret:=retK d }:Env) (retK d)
def e19:Env:={ exits:=(0,(k23 M C))::(({ exits:=[],ret:=retK d }:Env)).exits,ret:=(({ exits:=[],ret:=retK d }:Env)).ret }
def L18 (a b c:Nat) (d e:Int) (G:GH):Option Res:=M.ag C [0,1,5] c17 (e19 M C) (k23 M C) (vS 3 a b c::(vI d::(uS 3 (vI e::(uS 14 []))))) G
theorem L18_eq (d e b:Nat) (f a:Int) (G:GH):L18 M C d e b f a G=(bif decide (a<((b:Nat):Int)) then guardK (decide (0≤a∧a<((b:Nat):Int))) (((G.ld d ((e+Int.toNat a*3)+0)).bind (Cell.asI .i64)).bind fun g=>bif decide (g=f) then some ([.c (.int .i64 a)],G) else L18 M C d e b f (IntKind.i64.wrap (a+1)) G) else some ([.c (.int .i64 (-1))],G)):=(M.hs _ _ _ _ _ _ _).trans (by kernel_rfl)
def f (a b c:Nat) (d:Int) (G:GH):Option Res:=L18 M C a b c d 0 G
theorem eq (a b e:Nat) (g:Int) (G:GH):runF M C d [.c (.sl 3 a b e),.c (.int .i64 g)] G=f M C a b e g G:=by kernel_rfl
end F28
namespace F102
def c6:DCode:=(.cond (.t 12) (.seq (.region [oP 0 4 (.move (kI 0))]) .ret) .skip)
def c10:DCode:=(.seq (.region [oP 0 13 (.faddr 2 2),
 oP 1 14 (.ldL 13 21 (.c (.int .i64))),
 mV 2 15 1,
 oP 3 16 (.faddr 2 2),
 oP 4 17 (.ldL 16 21 (.c (.int .i64))),
 oP 5 18 (.bin .shr .i64 (.t 17) (.k (.c (.int .u64 1)))),
 oP 6 19 (.bin .mul .i64 (.t 15) (.t 18)),
 oP 7 20 (.bin .add .i64 (.t 14) (.t 19)),
 mV 8 4 20]) .ret)
def d:DFn:={ ntmps:=22,res:=[.t 4],body:=(.seq (.region [oP 0 2 (.boxv 21 [9,13,16] (.t 0) 8),
 oP 1 4 (.move (kI 0))]) (.seq (.seq (.region [mV 0 5 1,
 oP 1 6 (.cmp .lss .i64 (.t 5) (kI 0)),
 mV 2 7 6,
 ⟨3,some 8,.move (.t 1),some (7,false)⟩,
 ⟨4,some 9,.faddr 2 3,some (7,false)⟩,
 ⟨5,some 10,.ldL 9 21 (.c (.int .i64)),some (7,false)⟩,
 ⟨6,some 11,.cmp .gtr .i64 (.t 8) (.t 10),some (7,false)⟩,
 oP 7 12 (.pick (.t 7) (kB true) (.t 11))]) (.cut [1,2,12,21] c6)) c10)) }
def k10:Kont:=execC M.j C (M.ag C) c10 ({ exits:=[],ret:=retK d }:Env) (retK d)
def J6 (a:Int) (b:Bool) (c e f g h i k l:Int) (G:GH):Option Res:=M.j (execC M.j C (M.ag C) c6 ({ exits:=[],ret:=retK d }:Env) (k10 M C)) (uS 1 (vI a::(.ref 21 0::(uS 9 (vB b::(uS 8 (.box [.int .i64 c,.int .i64 e,.int .i64 f,.int .i64 g,.int .i64 h,.int .i64 i,.int .i64 k,.int .i64 l]::[]))))))) G
theorem J6_eq (b:Int) (d:Bool) (e f a g h i j k:Int) (G:GH):J6 M C b d e f a g h i j k G=(bif d then some ([.c (.int .i64 0)],G) else some ([.c (.int .i64 (IntKind.i64.wrap (a+(IntKind.i64.wrap (b*(Int.fdiv a (2 ^ (min (1:Int).toNat IntKind.i64.bits))))))))],G)):=(M.hj _ _ _).trans (by kernel_rfl)
def f (c d e b g h i j a:Int) (G:GH):Option Res:=bif decide (a<0) then J6 M C a true c d e b g h i j G else J6 M C a (decide (a>b)) c d e b g h i j G
theorem eq (a b e g h i j k l:Int) (G:GH):runF M C d [.agg [.int .i64 a,.int .i64 b,.int .i64 e,.int .i64 g,.int .i64 h,.int .i64 i,.int .i64 j,.int .i64 k],.c (.int .i64 l)] G=f M C a b e g h i j k l G:=by kernel_rfl
end F102
namespace F37
def d:DFn:={ ntmps:=29,res:=[.t 8,.t 9],body:=(.seq (.region [oP 0 4 (.boxv 28 [] (.t 0) 8),
 oP 1 8 (.move (kI 0)),
 oP 2 9 (.move (kI 0))]) (.seq (.region [oP 0 13 (.ldL 4 28 (.agg (iS 8))),
 mV 1 14 2,
 mV 2 15 3,
 oP 3 16 (.call 84 [.t 13,.t 14,.t 15] [.c (.int .i64),.c (.int .i64)]),
 mV 4 12 16,
 oP 5 17 (.ext 12 0),
 oP 6 18 (.ext 12 1),
 mV 7 10 17,
 mV 8 11 18]) (.seq (.seq (.region [mV 0 19 11,
 oP 1 20 (.cmp .neq .i64 (.t 19) (kI 0))]) (.cond (.t 20) (.seq (.region [mV 0 21 11,
 oP 1 8 (.move (kI 0)),
 mV 2 9 21]) .ret) .skip)) (.seq (.region [oP 0 22 (.ldL 4 28 (.agg (iS 8))),
 mV 1 23 1,
 mV 2 24 10,
 oP 3 25 (.call 64 [.t 22,.t 23,.t 24,.k (.c (.int .i64 1))] [.c (.int .i64),.c (.int .i64)]),
 oP 4 26 (.ext 25 0),
 oP 5 27 (.ext 25 1),
 mV 6 8 26,
 mV 7 9 27]) .ret)))) }
def f (M:Mach) (C:Call) (d e g h i j k l n o p:Int) (G:GH):Option Res:=(C F14.id [.agg [.int .i64 d,.int .i64 e,.int .i64 g,.int .i64 h,.int .i64 i,.int .i64 j,.int .i64 k,.int .i64 l],.c (.int .i64 o),.c (.int .i64 p)] G).bind fun a=>(((a.1[0]?).bind V1.c?).bind (Cell.asI .i64)).bind fun q=>(((a.1[1]?).bind V1.c?).bind (Cell.asI .i64)).bind fun m=>bif (!decide (m=0)) then some ([.c (.int .i64 0),.c (.int .i64 m)],a.2) else (C F54.id [.agg [.int .i64 d,.int .i64 e,.int .i64 g,.int .i64 h,.int .i64 i,.int .i64 j,.int .i64 k,.int .i64 l],.c (.int .i64 n),.c (.int .i64 q),.c (.int .i64 1)] a.2).bind fun b=>(((b.1[0]?).bind V1.c?).bind (Cell.asI .i64)).bind fun r=>(((b.1[1]?).bind V1.c?).bind (Cell.asI .i64)).bind fun s=>some ([.c (.int .i64 r),.c (.int .i64 s)],b.2)
theorem eq (a b e g h i j k l m n:Int) (G:GH):runF M C d [.agg [.int .i64 a,.int .i64 b,.int .i64 e,.int .i64 g,.int .i64 h,.int .i64 i,.int .i64 j,.int .i64 k],.c (.int .i64 l),.c (.int .i64 m),.c (.int .i64 n)] G=f M C a b e g h i j k l m n G:=by kernel_rfl
end F37
namespace F87
def d:DFn:={ ntmps:=29,res:=[.t 8,.t 9],body:=(.seq (.region [oP 0 4 (.boxv 28 [] (.t 0) 8),
 oP 1 8 (.move (kI 0)),
 oP 2 9 (.move (kI 0))]) (.seq (.region [oP 0 13 (.ldL 4 28 (.agg (iS 8))),
 mV 1 14 2,
 mV 2 15 3,
 oP 3 16 (.call 53 [.t 13,.t 14,.t 15] [.c (.int .i64),.c (.int .i64)]),
 mV 4 12 16,
 oP 5 17 (.ext 12 0),
 oP 6 18 (.ext 12 1),
 mV 7 10 17,
 mV 8 11 18]) (.seq (.seq (.region [mV 0 19 11,
 oP 1 20 (.cmp .neq .i64 (.t 19) (kI 0))]) (.cond (.t 20) (.seq (.region [mV 0 21 11,
 oP 1 8 (.move (kI 0)),
 mV 2 9 21]) .ret) .skip)) (.seq (.region [oP 0 22 (.ldL 4 28 (.agg (iS 8))),
 mV 1 23 1,
 mV 2 24 10,
 oP 3 25 (.call 50 [.t 22,.t 23,.t 24,.k (.c (.int .i64 1))] [.c (.int .i64),.c (.int .i64)]),
 oP 4 26 (.ext 25 0),
 oP 5 27 (.ext 25 1),
 mV 6 8 26,
 mV 7 9 27]) .ret)))) }
def f (M:Mach) (C:Call) (d e g h i j k l n o p:Int) (G:GH):Option Res:=(C F60.id [.agg [.int .i64 d,.int .i64 e,.int .i64 g,.int .i64 h,.int .i64 i,.int .i64 j,.int .i64 k,.int .i64 l],.c (.int .i64 o),.c (.int .i64 p)] G).bind fun a=>(((a.1[0]?).bind V1.c?).bind (Cell.asI .i64)).bind fun q=>(((a.1[1]?).bind V1.c?).bind (Cell.asI .i64)).bind fun m=>bif (!decide (m=0)) then some ([.c (.int .i64 0),.c (.int .i64 m)],a.2) else (C F93.id [.agg [.int .i64 d,.int .i64 e,.int .i64 g,.int .i64 h,.int .i64 i,.int .i64 j,.int .i64 k,.int .i64 l],.c (.int .i64 n),.c (.int .i64 q),.c (.int .i64 1)] a.2).bind fun b=>(((b.1[0]?).bind V1.c?).bind (Cell.asI .i64)).bind fun r=>(((b.1[1]?).bind V1.c?).bind (Cell.asI .i64)).bind fun s=>some ([.c (.int .i64 r),.c (.int .i64 s)],b.2)
theorem eq (a b e g h i j k l m n:Int) (G:GH):runF M C d [.agg [.int .i64 a,.int .i64 b,.int .i64 e,.int .i64 g,.int .i64 h,.int .i64 i,.int .i64 j,.int .i64 k],.c (.int .i64 l),.c (.int .i64 m),.c (.int .i64 n)] G=f M C a b e g h i j k l m n G:=by kernel_rfl
end F87
namespace F113
def d:DFn:={ ntmps:=38,res:=[.t 4,.t 5],body:=(.seq (.region [oP 0 2 (.boxv 36 [] (.t 0) 6),
 oP 1 4 (.move (.k (.c (.sl 8 0 0 0)))),
 oP 2 5 (.move (kI 0))]) (.seq (.region [oP 0 10 (.ldL 2 36 (.agg (iS 6))),
 oP 1 11 (.call 8 [.t 10] [.c (.ptr),.c (.int .i64)]),
 mV 2 9 11,
 oP 3 12 (.ext 9 0),
 oP 4 13 (.ext 9 1),
 mV 5 6 12,
 mV 6 5 13]) (.seq (.block 0 (.seq (.region [mV 0 15 5,
 oP 1 16 (.cmp .neq .i64 (.t 15) (kI 0)),
 mV 2 14 16]) (.cond (.t 14) (.seq (.region [mV 0 17 5,
 oP 1 4 (.move (.k (.c (.sl 8 0 0 0)))),
 mV 2 5 17]) .ret) (.seq (.region [mV 0 19 1,
 oP 1 20 (.len (.t 19)),
 oP 2 21 (.cmp .gtr .i64 (.t 20) (kI 5000)),
 mV 3 18 21]) (.cond (.t 18) (.seq (.region [oP 0 4 (.move (.k (.c (.sl 8 0 0 0)))),
 oP 1 5 (.move (kI 2))]) .ret) .skip))))) (.seq (.seq (.region [mV 0 22 1,
 oP 1 23 (.len (.t 22)),
 oP 2 24 (.move (kI 0))]) (.block 1 (.loop [4,6,22,23,24] (.seq (.region [oP 0 25 (.cmp .lss .i64 (.t 24) (.t 23))]) (.seq (.cond (.t 25) .skip (.exit 1)) (.seq (.block 2 (.seq (.region [oP 0 26 (.iaddr (.t 22) (.t 24) 6),
 oP 1 27 (.ldG 26 (.agg [.int .i64,.int .i64,.int .i64,.int .i64,.int .i64,.int .u8])),
 oP 2 8 (.boxz 37 [] [.int .i64 0,.int .i64 0,.int .i64 0,.int .i64 0,.int .i64 0,.int .u8 0]),
 ⟨3,none,.stL 8 37 (.t 27) 6,none⟩]) (.region [mV 0 28 4,
 mV 1 29 6,
 oP 2 30 (.ldL 8 37 (.agg [.int .i64,.int .i64,.int .i64,.int .i64,.int .i64,.int .u8])),
 oP 3 31 (.call 11 [.t 29,.t 30] [.agg sA]),
 oP 4 32 (.bslice 1 8 zA [(0,8,.t 31)]),
 oP 5 33 (.app (.t 28) (.t 32) 8 64),
 mV 6 4 33]))) (.region [oP 0 34 (.bin .add .i64 (.t 24) (kI 1)),
 mV 1 24 34]))))))) (.seq (.region [mV 0 35 4,
 mV 1 4 35,
 oP 2 5 (.move (kI 0))]) .ret))))) }
end F113
namespace F46
def d:DFn:={ ntmps:=32,res:=[],body:=(.seq (.region [oP 0 4 (.boxv 30 [14,25] (.t 1) 3),
 oP 1 5 (.boxv 31 [] (.t 2) 3)]) (.seq (.region [mV 0 6 0,
 oP 1 7 (.ldL 5 31 (.agg [.int .i64,.sl 2,.sl 2])),
 oP 2 8 (.nilck (.t 6)),
 oP 3 9 (.faddr 8 8),
 ⟨4,none,.stG 9 (.t 7) 3,none⟩]) (.seq (.region [mV 0 10 0,
 oP 1 11 (.nilck (.t 10)),
 oP 2 12 (.faddr 11 11),
 oP 3 13 (.ldG 12 (.c (.map))),
 oP 4 14 (.faddr 4 0),
 oP 5 15 (.ldL 14 30 (.c (.int .i64))),
 oP 6 16 (.build [.int .i64 0] [(0,1,.t 15)]),
 oP 7 17 (.ldL 4 30 (.agg (iS 3))),
 ⟨8,none,.mupd (.agg [.int .i64]) (.t 13) (.t 16) (.t 17),none⟩]) (.seq (.region [mV 0 18 0,
 oP 1 19 (.ldL 4 30 (.agg (iS 3))),
 oP 2 20 (.call 77 [.t 18,.t 19,.k (.c (.int .i64 1))] [])]) (.region [mV 0 21 0,
 oP 1 22 (.nilck (.t 21)),
 oP 2 23 (.faddr 22 12),
 oP 3 24 (.ldG 23 (.c (.int .i64))),
 oP 4 25 (.faddr 4 1),
 oP 5 26 (.ldL 25 30 (.c (.int .i64))),
 oP 6 27 (.bin .add .i64 (.t 24) (.t 26)),
 oP 7 28 (.nilck (.t 21)),
 oP 8 29 (.faddr 28 12),
 ⟨9,none,.stG 29 (.t 27) 1,none⟩]))))) }
def f (M:Mach) (C:Call) (a b:Nat) (d e h k:Int) (l m n o p q:Nat) (G:GH):Option Res:=guardK (!Nat.beq a 0) ((G.sts a (b+8) [.int .i64 k,.sl 2 l m n,.sl 2 o p q]).bind fun g=>guardK (!Nat.beq a 0) (((g.ld a (b+11)).bind Cell.asM).bind fun i=>(g.ents (.agg [.int .i64]) i).bind fun r=>let s:=g.set i (some (.map (.agg [.int .i64]) (mapPut r (.agg [.int .i64 d]) (.agg [.int .i64 d,.int .i64 e,.int .i64 h]))));(C F31.id [.c (.ptr a b),.agg [.int .i64 d,.int .i64 e,.int .i64 h],.c (.int .i64 1)] s).bind fun j=>guardK (!Nat.beq a 0) (((j.2.ld a (b+12)).bind (Cell.asI .i64)).bind fun t=>guardK (!Nat.beq a 0) ((j.2.sts a (b+12) [.int .i64 (IntKind.i64.wrap (t+e))]).bind fun v=>some ([],v)))))
theorem eq (a b:Nat) (e g h i:Int) (j k l m n o:Nat) (G:GH):runF M C d [.c (.ptr a b),.agg [.int .i64 e,.int .i64 g,.int .i64 h],.agg [.int .i64 i,.sl 2 j k l,.sl 2 m n o]] G=f M C a b e g h i j k l m n o G:=by kernel_rfl
end F46
namespace F54
def d:DFn:={ ntmps:=30,res:=[.t 8,.t 9],body:=(.seq (.region [oP 0 4 (.boxv 29 [23] (.t 0) 8),
 oP 1 8 (.move (kI 0)),
 oP 2 9 (.move (kI 0))]) (.seq (.region [oP 0 13 (.ldL 4 29 (.agg (iS 8))),
 mV 1 14 2,
 mV 2 15 3,
 oP 3 16 (.call 83 [.t 13,.t 14,.t 15] [.c (.int .i64),.c (.int .i64)]),
 mV 4 12 16,
 oP 5 17 (.ext 12 0),
 oP 6 18 (.ext 12 1),
 mV 7 10 17,
 mV 8 11 18]) (.seq (.seq (.region [mV 0 19 11,
 oP 1 20 (.cmp .neq .i64 (.t 19) (kI 0))]) (.cond (.t 20) (.seq (.region [mV 0 21 11,
 oP 1 8 (.move (kI 0)),
 mV 2 9 21]) .ret) .skip)) (.seq (.seq (.region [mV 0 22 1,
 oP 1 23 (.faddr 4 2),
 oP 2 24 (.ldL 23 29 (.c (.int .i64))),
 mV 3 25 10,
 oP 4 26 (.bin .sub .i64 (.t 24) (.t 25)),
 oP 5 27 (.cmp .gtr .i64 (.t 22) (.t 26))]) (.cond (.t 27) (.seq (.region [oP 0 8 (.move (kI 0)),
 oP 1 9 (.move (kI 5))]) .ret) .skip)) (.seq (.region [mV 0 28 10,
 mV 1 8 28,
 oP 2 9 (.move (kI 0))]) .ret))))) }
def f (M:Mach) (C:Call) (g h b i j k l m n o p:Int) (G:GH):Option Res:=(C F19.id [.agg [.int .i64 g,.int .i64 h,.int .i64 b,.int .i64 i,.int .i64 j,.int .i64 k,.int .i64 l,.int .i64 m],.c (.int .i64 o),.c (.int .i64 p)] G).bind fun a=>(((a.1[0]?).bind V1.c?).bind (Cell.asI .i64)).bind fun d=>(((a.1[1]?).bind V1.c?).bind (Cell.asI .i64)).bind fun e=>bif (!decide (e=0)) then some ([.c (.int .i64 0),.c (.int .i64 e)],a.2) else bif decide (n>IntKind.i64.wrap (b-d)) then some ([.c (.int .i64 0),.c (.int .i64 5)],a.2) else some ([.c (.int .i64 d),.c (.int .i64 0)],a.2)
theorem eq (a b e g h i j k l m n:Int) (G:GH):runF M C d [.agg [.int .i64 a,.int .i64 b,.int .i64 e,.int .i64 g,.int .i64 h,.int .i64 i,.int .i64 j,.int .i64 k],.c (.int .i64 l),.c (.int .i64 m),.c (.int .i64 n)] G=f M C a b e g h i j k l m n G:=by kernel_rfl
end F54
namespace F36
def c12:DCode:=(.seq (.seq (.region [mV 0 9 6,
 mV 1 10 1,
 oP 2 11 (.cmp .lss .i64 (.t 9) (.t 10))]) (.cond (.t 11) .skip (.exit 0))) (.seq (.block 1 (.region [mV 0 14 5,
 oP 1 15 (.bin .mul .i64 (.t 14) (kI 2)),
 mV 2 5 15])) (.region [mV 0 12 6,
 oP 1 13 (.bin .add .i64 (.t 12) (kI 1)),
 mV 2 6 13])))
def c18:DCode:=(.seq (.region [mV 0 16 5,
 mV 1 4 16]) .ret)
def d:DFn:={ ntmps:=18,res:=[.t 4],body:=(.seq (.region [oP 0 2 (.boxv 17 [7] (.t 0) 8),
 oP 1 4 (.move (kI 0))]) (.seq (.region [oP 0 7 (.faddr 2 0),
 oP 1 8 (.ldL 7 17 (.c (.int .i64))),
 mV 2 5 8]) (.seq (.seq (.region [oP 0 6 (.move (kI 0))]) (.block 0 (.loop [1,5,6] c12))) c18))) }
def k18:Kont:=execC M.j C (M.ag C) c18 ({ exits:=[],ret:=retK d }:Env) (retK d)
def e14:Env:={ exits:=(0,(k18 M C))::(({ exits:=[],ret:=retK d }:Env)).exits,ret:=(({ exits:=[],ret:=retK d }:Env)).ret }
def L13 (a b c:Int) (G:GH):Option Res:=M.ag C [1,5,6] c12 (e14 M C) (k18 M C) (uS 1 (vI a::(uS 3 (vI b::(vI c::(uS 11 [])))))) G
theorem L13_eq (a b d:Int) (G:GH):L13 M C a b d G=(bif decide (d<a) then L13 M C a (IntKind.i64.wrap (b*2)) (IntKind.i64.wrap (d+1)) G else some ([.c (.int .i64 b)],G)):=(M.hs _ _ _ _ _ _ _).trans (by kernel_rfl)
def f (a c d e g h i j b:Int) (G:GH):Option Res:=L13 M C b a 0 G
theorem eq (a b e g h i j k l:Int) (G:GH):runF M C d [.agg [.int .i64 a,.int .i64 b,.int .i64 e,.int .i64 g,.int .i64 h,.int .i64 i,.int .i64 j,.int .i64 k],.c (.int .i64 l)] G=f M C a b e g h i j k l G:=by kernel_rfl
end F36
namespace F111
def d:DFn:={ ntmps:=29,res:=[.t 4],body:=(.seq (.region [oP 0 3 (.boxv 28 [12] (.t 1) 2),
 oP 1 4 (.move (.k (.c (.sl 2 0 0 0))))]) (.seq (.region [mV 0 8 0,
 oP 1 9 (.call 104 [.t 8] [.c (.sl 2)]),
 mV 2 5 9]) (.seq (.region [mV 0 11 0,
 oP 1 12 (.faddr 3 0),
 oP 2 13 (.ldL 12 28 (.c (.int .i64))),
 oP 3 14 (.call 105 [.t 11,.t 13] [.c (.int .i64),.c (.bool)]),
 mV 4 10 14,
 oP 5 15 (.ext 10 0),
 oP 6 16 (.ext 10 1),
 mV 7 6 15,
 mV 8 7 16]) (.seq (.seq (.region [mV 0 17 7]) (.cond (.t 17) (.seq (.region [mV 0 18 5,
 mV 1 19 6,
 oP 2 20 (.ldL 3 28 (.agg (iS 2))),
 oP 3 21 (.iaddr (.t 18) (.t 19) 2),
 ⟨4,none,.stG 21 (.t 20) 2,none⟩]) (.seq (.region [mV 0 22 5,
 mV 1 4 22]) .ret)) .skip)) (.seq (.region [mV 0 23 5,
 mV 1 24 6,
 oP 2 25 (.ldL 3 28 (.agg (iS 2))),
 oP 3 26 (.bslice 1 2 (zI 2) [(0,2,.t 25)]),
 oP 4 27 (.call 111 [.t 23,.t 24,.t 26] [.c (.sl 2)]),
 mV 5 4 27]) .ret))))) }
def f (M:Mach) (C:Call) (h i j:Nat) (e k:Int) (G:GH):Option Res:=(C F2.id [.c (.sl 2 h i j)] G).bind fun l=>(((l.1[0]?).bind V1.c?).bind (Cell.asS 2)).bind fun a=>(C F98.id [.c (.sl 2 h i j),.c (.int .i64 e)] l.2).bind fun b=>(((b.1[0]?).bind V1.c?).bind (Cell.asI .i64)).bind fun d=>(((b.1[1]?).bind V1.c?).bind Cell.asB).bind fun n=>bif n then guardK (decide (0≤d∧d<((a.2.2:Nat):Int))) ((b.2.sts a.1 (a.2.1+Int.toNat d*2) [.int .i64 e,.int .i64 k]).bind fun o=>some ([.c (.sl 2 a.1 a.2.1 a.2.2)],o)) else let p:=b.2.alloc (.row [.int .i64 e,.int .i64 k] false);(C F0.id [.c (.sl 2 a.1 a.2.1 a.2.2),.c (.int .i64 d),.c (.sl 2 b.2.next 0 1)] p).bind fun m=>(((m.1[0]?).bind V1.c?).bind (Cell.asS 2)).bind fun g=>some ([.c (.sl 2 g.1 g.2.1 g.2.2)],m.2)
theorem eq (a b e:Nat) (g h:Int) (G:GH):runF M C d [.c (.sl 2 a b e),.agg [.int .i64 g,.int .i64 h]] G=f M C a b e g h G:=by kernel_rfl
end F111
namespace F115
def d:DFn:={ ntmps:=45,res:=[.t 2],body:=(.seq (.region [oP 0 1 (.newv (.t 0) 6),
 oP 1 2 (.move (.k (.c (.sl 1 0 0 0))))]) (.seq (.region [oP 0 7 (.faddr 1 0),
 oP 1 8 (.ldG 7 (.c (.int .i64))),
 oP 2 9 (.conv .u8 (.t 8)),
 oP 3 10 (.bslice 1 1 [.int .u8 0] [(0,1,.t 9)]),
 mV 4 3 10]) (.seq (.seq (.region [oP 0 11 (.faddr 1 0),
 oP 1 12 (.ldG 11 (.c (.int .i64))),
 oP 2 13 (.call 79 [.t 12] [.c (.str)]),
 oP 3 14 (.sbytes (.t 13)),
 oP 4 15 (.len (.t 14)),
 oP 5 16 (.move (kI 0))]) (.block 0 (.loop [1,3,14,15,16] (.seq (.region [oP 0 17 (.cmp .lss .i64 (.t 16) (.t 15))]) (.seq (.cond (.t 17) .skip (.exit 0)) (.seq (.block 1 (.seq (.region [oP 0 18 (.iaddr (.t 14) (.t 16) 1),
 oP 1 19 (.ldG 18 (.c (.int .u8))),
 mV 2 5 19]) (.seq (.region [mV 0 20 5,
 oP 1 21 (.call 80 [.t 1,.t 20] [.c (.ptr)]),
 oP 2 22 (.nilck (.t 21)),
 oP 3 23 (.ldG 22 (.c (.int .i64))),
 mV 4 6 23]) (.region [mV 0 24 3,
 mV 1 25 6,
 oP 2 26 (.bin .shr .i64 (.t 25) (.k (.c (.int .u64 16)))),
 oP 3 27 (.conv .u8 (.t 26)),
 mV 4 28 6,
 oP 5 29 (.bin .shr .i64 (.t 28) (.k (.c (.int .u64 8)))),
 oP 6 30 (.conv .u8 (.t 29)),
 mV 7 31 6,
 oP 8 32 (.conv .u8 (.t 31)),
 oP 9 33 (.bslice 3 1 [.int .u8 0,.int .u8 0,.int .u8 0] [(0,1,.t 27),(1,1,.t 30),(2,1,.t 32)]),
 oP 10 34 (.app (.t 24) (.t 33) 1 1),
 mV 11 3 34])))) (.region [oP 0 35 (.bin .add .i64 (.t 16) (kI 1)),
 mV 1 16 35]))))))) (.seq (.seq (.region [oP 0 36 (.faddr 1 0),
 oP 1 37 (.ldG 36 (.c (.int .i64))),
 oP 2 38 (.cmp .eql .i64 (.t 37) (kI 8))]) (.cond (.t 38) (.region [mV 0 39 3,
 oP 1 40 (.faddr 1 5),
 oP 2 41 (.ldG 40 (.c (.int .u8))),
 oP 3 42 (.bslice 1 1 [.int .u8 0] [(0,1,.t 41)]),
 oP 4 43 (.app (.t 39) (.t 42) 1 1),
 mV 5 3 43]) .skip)) (.seq (.region [mV 0 44 3,
 mV 1 2 44]) .ret))))) }
end F115
namespace F78
def d:DFn:={ ntmps:=46,res:=[.t 4],body:=(.seq (.region [oP 0 2 (.boxv 45 [7,9,11,13,15,36] (.t 0) 6),
 oP 1 4 (.move (.k (.c (.sl 1 0 0 0))))]) (.seq (.seq (.region [oP 0 7 (.faddr 2 0),
 oP 1 8 (.ldL 7 45 (.c (.int .i64))),
 oP 2 9 (.faddr 2 1),
 oP 3 10 (.ldL 9 45 (.c (.int .i64))),
 oP 4 11 (.faddr 2 2),
 oP 5 12 (.ldL 11 45 (.c (.int .i64))),
 oP 6 13 (.faddr 2 3),
 oP 7 14 (.ldL 13 45 (.c (.int .i64))),
 oP 8 15 (.faddr 2 4),
 oP 9 16 (.ldL 15 45 (.c (.int .i64))),
 oP 10 17 (.bslice 5 1 (zI 5) [(0,1,.t 8),(1,1,.t 10),(2,1,.t 12),(3,1,.t 14),(4,1,.t 16)]),
 oP 11 18 (.len (.t 17)),
 oP 12 19 (.move (kI 0))]) (.block 0 (.loop [1,2,4,17,18,19,45] (.seq (.region [oP 0 20 (.cmp .lss .i64 (.t 19) (.t 18))]) (.seq (.cond (.t 20) .skip (.exit 0)) (.seq (.block 1 (.seq (.region [oP 0 21 (.iaddr (.t 17) (.t 19) 1),
 oP 1 22 (.ldG 21 (.c (.int .i64))),
 mV 2 6 22]) (.region [mV 0 23 4,
 mV 1 24 6,
 oP 2 25 (.bin .shr .i64 (.t 24) (.k (.c (.int .u64 16)))),
 oP 3 26 (.conv .u8 (.t 25)),
 mV 4 27 6,
 oP 5 28 (.bin .shr .i64 (.t 27) (.k (.c (.int .u64 8)))),
 oP 6 29 (.conv .u8 (.t 28)),
 mV 7 30 6,
 oP 8 31 (.conv .u8 (.t 30)),
 oP 9 32 (.bslice 3 1 [.int .u8 0,.int .u8 0,.int .u8 0] [(0,1,.t 26),(1,1,.t 29),(2,1,.t 31)]),
 oP 10 33 (.app (.t 23) (.t 32) 1 1),
 mV 11 4 33]))) (.region [oP 0 34 (.bin .add .i64 (.t 19) (kI 1)),
 mV 1 19 34]))))))) (.seq (.region [mV 0 35 4,
 oP 1 36 (.faddr 2 5),
 oP 2 37 (.ldL 36 45 (.c (.int .i64))),
 oP 3 38 (.conv .u8 (.t 37)),
 oP 4 39 (.bslice 1 1 [.int .u8 0] [(0,1,.t 38)]),
 oP 5 40 (.app (.t 35) (.t 39) 1 1),
 mV 6 4 40]) (.seq (.region [mV 0 41 4,
 mV 1 42 1,
 oP 2 43 (.call 35 [.t 42] [.c (.sl 1)]),
 oP 3 44 (.app (.t 41) (.t 43) 1 1),
 mV 4 4 44]) .ret)))) }
end F78
namespace F89
def d:DFn:={ ntmps:=37,res:=[.t 2],body:=(.seq (.region [oP 0 2 (.move (.k (.c (.sl 6 0 0 0))))]) (.seq (.block 0 (.loop [0,2] (.seq (.seq (.region [mV 0 7 0,
 oP 1 8 (.len (.t 7)),
 oP 2 9 (.cmp .gtr .i64 (.t 8) (kI 0))]) (.cond (.t 9) .skip (.exit 0))) (.block 1 (.seq (.region [mV 0 10 0,
 oP 1 11 (.iaddr (.t 10) (kI 0) 1),
 oP 2 12 (.ldG 11 (.c (.int .u8))),
 oP 3 13 (.conv .i64 (.t 12)),
 oP 4 14 (.bin .rem .i64 (.t 13) (kI 11)),
 mV 5 3 14]) (.seq (.seq (.region [mV 0 15 0,
 oP 1 16 (.slice (.t 15) (some (kI 1)) none 1),
 mV 2 0 16]) (.seq (.region [mV 0 17 3,
 oP 1 18 (.cmp .eql .i64 (.t 17) (kI 0))]) (.cond (.t 18) (.exit 1) .skip))) (.seq (.region [mV 0 20 3,
 mV 1 21 0,
 oP 2 22 (.call 78 [.t 20,.t 21] [.agg [.int .i64,.int .i64,.int .i64,.int .i64,.int .i64,.int .u8],.c (.int .i64),.c (.bool)]),
 mV 3 19 22,
 oP 4 23 (.ext 19 0),
 oP 5 24 (.ext 19 1),
 oP 6 25 (.ext 19 2),
 oP 7 4 (.boxz 36 [] [.int .i64 0,.int .i64 0,.int .i64 0,.int .i64 0,.int .i64 0,.int .u8 0]),
 ⟨8,none,.stL 4 36 (.t 23) 6,none⟩,
 mV 9 5 24,
 mV 10 6 25]) (.seq (.seq (.region [mV 0 26 6,
 oP 1 27 (.not (.t 26))]) (.cond (.t 27) (.exit 0) .skip)) (.region [mV 0 28 2,
 oP 1 29 (.ldL 4 36 (.agg [.int .i64,.int .i64,.int .i64,.int .i64,.int .i64,.int .u8])),
 oP 2 30 (.bslice 1 6 [.int .i64 0,.int .i64 0,.int .i64 0,.int .i64 0,.int .i64 0,.int .u8 0] [(0,6,.t 29)]),
 oP 3 31 (.app (.t 28) (.t 30) 6 48),
 mV 4 32 0,
 mV 5 33 5,
 oP 6 34 (.slice (.t 32) (some (.t 33)) none 1),
 mV 7 2 31,
 mV 8 0 34]))))))))) (.seq (.region [mV 0 35 2,
 mV 1 2 35]) .ret))) }
end F89
namespace F110
def d:DFn:={ ntmps:=26,res:=[.t 4],body:=(.seq (.region [oP 0 2 (.boxv 25 [9] (.t 0) 2),
 oP 1 4 (.move (kB false))]) (.seq (.region [mV 0 5 1,
 oP 1 6 (.cmp .geq .i64 (.t 5) (kI 0)),
 mV 2 7 6,
 ⟨3,some 8,.move (.t 1),some (7,true)⟩,
 ⟨4,some 9,.faddr 2 0,some (7,true)⟩,
 ⟨5,some 10,.ldL 9 25 (.c (.int .i64)),some (7,true)⟩,
 ⟨6,some 11,.cmp .lss .i64 (.t 8) (.t 10),some (7,true)⟩,
 oP 7 12 (.pick (.t 7) (.t 11) (kB false)),
 mV 8 13 12,
 ⟨9,some 14,.ldL 2 25 (.agg [.int .i64,.sl 1]),some (13,true)⟩,
 ⟨10,some 15,.move (.t 1),some (13,true)⟩,
 ⟨11,some 16,.bin .quo .i64 (.t 15) (kI 64),some (13,true)⟩,
 ⟨12,some 17,.call 116 [.t 14,.k (.c (.int .i64 0)),.t 16] [.c (.int .u64)],some (13,true)⟩,
 ⟨13,some 18,.move (.t 1),some (13,true)⟩,
 ⟨14,some 19,.conv .u64 (.t 18),some (13,true)⟩,
 ⟨15,some 20,.bin .rem .u64 (.t 19) (.k (.c (.int .u64 64))),some (13,true)⟩,
 ⟨16,some 21,.bin .shr .u64 (.t 17) (.t 20),some (13,true)⟩,
 ⟨17,some 22,.bin .and .u64 (.t 21) (.k (.c (.int .u64 1))),some (13,true)⟩,
 ⟨18,some 23,.cmp .eql .u64 (.t 22) (.k (.c (.int .u64 1))),some (13,true)⟩,
 oP 19 24 (.pick (.t 13) (.t 23) (kB false)),
 mV 20 4 24]) .ret)) }
def f (M:Mach) (C:Call) (b:Int) (e g h:Nat) (a:Int) (G:GH):Option Res:=bif decide (a≥0) then bif decide (a<b) then (C F119.id [.agg [.int .i64 b,.sl 1 e g h],.c (.int .i64 0),.c (.int .i64 (IntKind.i64.wrap (Int.tdiv a 64)))] G).bind fun d=>(((d.1[0]?).bind V1.c?).bind (Cell.asI .u64)).bind fun i=>(binD .shr .u64 i (Int.tmod (IntKind.u64.wrap a) 64)).bind fun j=>some ([.c (.bool (decide (IntKind.u64.wrap (((BitVec.ofInt IntKind.u64.bits j) &&& (BitVec.ofInt IntKind.u64.bits 1)).toNat:Int)=1)))],d.2) else some ([.c (.bool false)],G) else some ([.c (.bool false)],G)
theorem eq (a:Int) (b e g:Nat) (h:Int) (G:GH):runF M C d [.agg [.int .i64 a,.sl 1 b e g],.c (.int .i64 h)] G=f M C a b e g h G:=by kernel_rfl
end F110
namespace F116
def d:DFn:={ ntmps:=33,res:=[.t 2],body:=(.seq (.region [oP 0 2 (.move (.k (.c (.sl 1 0 0 0))))]) (.seq (.seq (.region [mV 0 7 0,
 oP 1 8 (.len (.t 7)),
 oP 2 9 (.move (kI 0))]) (.block 0 (.loop [2,7,8,9] (.seq (.region [oP 0 10 (.cmp .lss .i64 (.t 9) (.t 8))]) (.seq (.cond (.t 10) .skip (.exit 0)) (.seq (.block 1 (.seq (.region [oP 0 11 (.iaddr (.t 7) (.t 9) 6),
 oP 1 12 (.ldG 11 (.agg [.int .i64,.int .i64,.int .i64,.int .i64,.int .i64,.int .u8])),
 oP 2 4 (.boxz 32 [] [.int .i64 0,.int .i64 0,.int .i64 0,.int .i64 0,.int .i64 0,.int .u8 0]),
 ⟨3,none,.stL 4 32 (.t 12) 6,none⟩]) (.seq (.region [oP 0 13 (.ldL 4 32 (.agg [.int .i64,.int .i64,.int .i64,.int .i64,.int .i64,.int .u8])),
 oP 1 14 (.call 58 [.t 13] [.c (.sl 1)]),
 mV 2 5 14]) (.seq (.region [mV 0 15 5,
 oP 1 16 (.call 57 [.t 15] [.c (.sl 6)]),
 mV 2 6 16]) (.seq (.region [mV 0 17 6,
 oP 1 18 (.len (.t 17)),
 oP 2 19 (.cmp .eql .i64 (.t 18) (kI 1)),
 mV 3 20 19,
 ⟨4,some 21,.move (.t 6),some (20,true)⟩,
 ⟨5,some 22,.iaddr (.t 21) (kI 0) 6,some (20,true)⟩,
 ⟨6,some 23,.ldG 22 (.agg [.int .i64,.int .i64,.int .i64,.int .i64,.int .i64,.int .u8]),some (20,true)⟩,
 ⟨7,some 24,.ldL 4 32 (.agg [.int .i64,.int .i64,.int .i64,.int .i64,.int .i64,.int .u8]),some (20,true)⟩,
 ⟨8,some 25,.aeq false [.int .i64,.int .i64,.int .i64,.int .i64,.int .i64,.int .u8] (.t 23) (.t 24),some (20,true)⟩,
 oP 9 26 (.pick (.t 20) (.t 25) (kB false))]) (.cond (.t 26) (.region [mV 0 27 2,
 mV 1 28 5,
 oP 2 29 (.app (.t 27) (.t 28) 1 1),
 mV 3 2 29]) .skip)))))) (.region [oP 0 30 (.bin .add .i64 (.t 9) (kI 1)),
 mV 1 9 30]))))))) (.seq (.region [mV 0 31 2,
 mV 1 2 31]) .ret))) }
end F116
namespace F45
def d:DFn:={ ntmps:=20,res:=[.t 4],body:=(.seq (.region [oP 0 4 (.move (kI 0))]) (.seq (.region [mV 0 7 0,
 oP 1 8 (.call 123 [.t 7] [.c (.bool)]),
 mV 2 5 8]) (.seq (.region [mV 0 9 1,
 oP 1 10 (.call 123 [.t 9] [.c (.bool)]),
 mV 2 6 10]) (.seq (.seq (.region [mV 0 11 5]) (.cond (.t 11) (.seq (.seq (.region [mV 0 12 6]) (.cond (.t 12) (.seq (.region [oP 0 4 (.move (kI 0))]) .ret) .skip)) (.seq (.region [oP 0 4 (.move (kI (-1)))]) .ret)) .skip)) (.seq (.seq (.region [mV 0 13 6]) (.cond (.t 13) (.seq (.region [oP 0 4 (.move (kI 1))]) .ret) .skip)) (.seq (.seq (.region [mV 0 14 0,
 mV 1 15 1,
 oP 2 16 (.cmp .lss .i64 (.t 14) (.t 15))]) (.cond (.t 16) (.seq (.region [oP 0 4 (.move (kI (-1)))]) .ret) .skip)) (.seq (.seq (.region [mV 0 17 0,
 mV 1 18 1,
 oP 2 19 (.cmp .gtr .i64 (.t 17) (.t 18))]) (.cond (.t 19) (.seq (.region [oP 0 4 (.move (kI 1))]) .ret) .skip)) (.seq (.region [oP 0 4 (.move (kI 0))]) .ret)))))))) }
def f (M:Mach) (C:Call) (b d:Int) (G:GH):Option Res:=(C F64.id [.c (.int .i64 b)] G).bind fun e=>(((e.1[0]?).bind V1.c?).bind Cell.asB).bind fun h=>(C F64.id [.c (.int .i64 d)] e.2).bind fun a=>(((a.1[0]?).bind V1.c?).bind Cell.asB).bind fun g=>bif h then bif g then some ([.c (.int .i64 0)],a.2) else some ([.c (.int .i64 (-1))],a.2) else bif g then some ([.c (.int .i64 1)],a.2) else bif decide (b<d) then some ([.c (.int .i64 (-1))],a.2) else bif decide (b>d) then some ([.c (.int .i64 1)],a.2) else some ([.c (.int .i64 0)],a.2)
theorem eq (a b:Int) (G:GH):runF M C d [.c (.int .i64 a),.c (.int .i64 b)] G=f M C a b G:=by kernel_rfl
end F45
namespace F39
def d:DFn:={ ntmps:=20,res:=[.t 6],body:=(.seq (.region [oP 0 6 (.move (.k (.c (.int .u8 0))))]) (.seq (.region [mV 0 7 0,
 oP 1 8 (.bin .rem .i64 (.t 7) (kI 256)),
 mV 2 9 1,
 oP 3 10 (.bin .rem .i64 (.t 9) (kI 256)),
 oP 4 11 (.bin .mul .i64 (kI 31) (.t 10)),
 oP 5 12 (.bin .add .i64 (.t 8) (.t 11)),
 mV 6 13 2,
 oP 7 14 (.bin .rem .i64 (.t 13) (kI 256)),
 oP 8 15 (.bin .mul .i64 (kI 7) (.t 14)),
 oP 9 16 (.bin .add .i64 (.t 12) (.t 15)),
 oP 10 17 (.bin .add .i64 (.t 16) (kI 1)),
 oP 11 18 (.bin .rem .i64 (.t 17) (kI 256)),
 oP 12 19 (.conv .u8 (.t 18)),
 mV 13 6 19]) .ret)) }
def f (M:Mach) (C:Call) (a b d:Int) (G:GH):Option Res:=some ([.c (.int .u8 (IntKind.u8.wrap (Int.tmod (IntKind.i64.wrap ((IntKind.i64.wrap ((IntKind.i64.wrap ((Int.tmod a 256)+(IntKind.i64.wrap (31*(Int.tmod b 256)))))+(IntKind.i64.wrap (7*(Int.tmod d 256)))))+1)) 256)))],G)
theorem eq (a b e:Int) (G:GH):runF M C d [.c (.int .i64 a),.c (.int .i64 b),.c (.int .i64 e)] G=f M C a b e G:=by kernel_rfl
end F39

end Go.Proofs.D
