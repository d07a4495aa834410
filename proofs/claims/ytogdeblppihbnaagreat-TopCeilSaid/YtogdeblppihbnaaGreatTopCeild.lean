/- Texts of the proof (T2); no condition. -/
import Derived.Test.YtogdeblppihbnaaGreatTopCeila
import Derived.KernelRfl
set_option linter.unusedSimpArgs false
set_option linter.unusedVariables false
set_option linter.unusedVariables false
set_option maxRecDepth 100000
namespace Go.Proofs.D
open Go
variable (M:Mach) (C:Call)
namespace F32
def c31:DCode:=(.cond (.t 46) (.seq (.region [oP 0 57 (.build zA [(0,1,.k (.c (.int .i64 9)))]),
 ⟨1,none,.stL 4 88 (.t 57) 8,none⟩]) .ret) (.seq (.region [oP 0 59 (.faddr 3 0),
 oP 1 60 (.ldL 59 87 (.c (.int .i64))),
 oP 2 61 (.cmp .eql .i64 (.t 60) (kI 7)),
 mV 3 58 61]) (.cond (.t 58) (.seq (.region [mV 0 62 0,
 oP 1 63 (.nilck (.t 62)),
 oP 2 64 (.faddr 63 17),
 oP 3 65 (.ldG 64 (.c (.sl 1))),
 oP 4 66 (.faddr 5 0),
 oP 5 67 (.ldL 66 89 (.c (.int .i64))),
 oP 6 68 (.faddr 3 4),
 oP 7 69 (.ldL 68 87 (.c (.int .i64))),
 oP 8 70 (.bin .add .i64 (.t 67) (.t 69)),
 oP 9 71 (.iaddr (.t 65) (.t 70) 1),
 oP 10 72 (.ldG 71 (.c (.int .u8))),
 oP 11 73 (.build zA [(3,1,.t 72)]),
 ⟨12,none,.stL 4 88 (.t 73) 8,none⟩]) .ret) .skip)))
def c46:DCode:=(.seq (.region [mV 0 74 0,
 oP 1 75 (.nilck (.t 74)),
 oP 2 76 (.faddr 75 17),
 oP 3 77 (.ldG 76 (.c (.sl 1))),
 oP 4 78 (.faddr 5 0),
 oP 5 79 (.ldL 78 89 (.c (.int .i64))),
 oP 6 80 (.faddr 3 4),
 oP 7 81 (.ldL 80 87 (.c (.int .i64))),
 oP 8 82 (.bin .add .i64 (.t 79) (.t 81)),
 oP 9 83 (.faddr 3 5),
 oP 10 84 (.ldL 83 87 (.c (.int .u8))),
 oP 11 85 (.iaddr (.t 77) (.t 82) 1),
 ⟨12,none,.stG 85 (.t 84) 1,none⟩]) (.seq (.region [oP 0 86 (.build zA []),
 ⟨1,none,.stL 4 88 (.t 86) 8,none⟩]) .ret))
def d:DFn:={ ntmps:=90,res:=[.box 4 (some 8)],body:=(.seq (.region [oP 0 3 (.boxv 87 [12,23,28,32,40,47,51,59,68,80,83] (.t 1) 6),
 oP 1 4 (.boxz 88 [] zA)]) (.seq (.region [mV 0 8 0,
 oP 1 9 (.nilck (.t 8)),
 oP 2 10 (.faddr 9 11),
 oP 3 11 (.ldG 10 (.c (.map))),
 oP 4 12 (.faddr 3 1),
 oP 5 13 (.ldL 12 87 (.c (.int .i64))),
 oP 6 14 (.build [.int .i64 0] [(0,1,.t 13)]),
 oP 7 15 (.lkup (.agg [.int .i64]) (.t 11) (.t 14) (.agg (zI 3)) (.agg (iS 3)) true),
 mV 8 7 15,
 oP 9 16 (.ext 7 0),
 oP 10 17 (.ext 7 1),
 oP 11 5 (.boxz 89 [43,53,66,78] (zI 3)),
 ⟨12,none,.stL 5 89 (.t 16) 3,none⟩,
 mV 13 6 17]) (.seq (.block 0 (.seq (.region [mV 0 19 6,
 oP 1 20 (.not (.t 19)),
 mV 2 18 20]) (.cond (.t 18) (.seq (.region [oP 0 21 (.build zA [(0,1,.k (.c (.int .i64 8)))]),
 ⟨1,none,.stL 4 88 (.t 21) 8,none⟩]) .ret) (.seq (.region [oP 0 23 (.faddr 3 0),
 oP 1 24 (.ldL 23 87 (.c (.int .i64))),
 oP 2 25 (.cmp .eql .i64 (.t 24) (kI 4)),
 mV 3 22 25]) (.cond (.t 22) (.seq (.region [mV 0 26 0,
 oP 1 27 (.ldL 5 89 (.agg (iS 3))),
 oP 2 28 (.faddr 3 2),
 oP 3 29 (.ldL 28 87 (.c (.int .i64))),
 oP 4 30 (.call 54 [.t 26,.t 27,.t 29] [.agg sA]),
 ⟨5,none,.stL 4 88 (.t 30) 8,none⟩]) .ret) (.seq (.region [oP 0 32 (.faddr 3 0),
 oP 1 33 (.ldL 32 87 (.c (.int .i64))),
 oP 2 34 (.cmp .eql .i64 (.t 33) (kI 5)),
 mV 3 31 34]) (.cond (.t 31) (.seq (.region [mV 0 35 0,
 oP 1 36 (.ldL 5 89 (.agg (iS 3))),
 oP 2 37 (.call 55 [.t 35,.t 36] [])]) (.seq (.region [oP 0 38 (.build zA []),
 ⟨1,none,.stL 4 88 (.t 38) 8,none⟩]) .ret)) (.seq (.region [oP 0 40 (.faddr 3 0),
 oP 1 41 (.ldL 40 87 (.c (.int .i64))),
 oP 2 42 (.cmp .eql .i64 (.t 41) (kI 6)),
 mV 3 39 42]) (.cond (.t 39) (.seq (.region [oP 0 43 (.faddr 5 1),
 oP 1 44 (.ldL 43 89 (.c (.int .i64))),
 oP 2 45 (.build zA [(2,1,.t 44)]),
 ⟨3,none,.stL 4 88 (.t 45) 8,none⟩]) .ret) (.seq (.region [oP 0 47 (.faddr 3 4),
 oP 1 48 (.ldL 47 87 (.c (.int .i64))),
 oP 2 49 (.cmp .lss .i64 (.t 48) (kI 0)),
 mV 3 50 49,
 ⟨4,some 51,.faddr 3 4,some (50,false)⟩,
 ⟨5,some 52,.ldL 51 87 (.c (.int .i64)),some (50,false)⟩,
 ⟨6,some 53,.faddr 5 1,some (50,false)⟩,
 ⟨7,some 54,.ldL 53 89 (.c (.int .i64)),some (50,false)⟩,
 ⟨8,some 55,.cmp .geq .i64 (.t 52) (.t 54),some (50,false)⟩,
 oP 9 56 (.pick (.t 50) (kB true) (.t 55)),
 mV 10 46 56]) (.cut [0,3,4,5,46,87,88,89] c31))))))))))) c46))) }
def k46:Kont:=execC M.j C (M.ag C) c46 ({ exits:=[],ret:=retK d }:Env) (retK d)
def e41:Env:={ exits:=(0,(k46 M C))::(({ exits:=[],ret:=retK d }:Env)).exits,ret:=(({ exits:=[],ret:=retK d }:Env)).ret }
def J31 (a b:Nat) (c:Bool) (d e f g h i k l m n o p q r s t v:Int) (G:GH):Option Res:=M.j (execC M.j C (M.ag C) c31 (e41 M C) (k46 M C)) (vP a b::(uS 2 (.ref 87 0::(.ref 88 0::(.ref 89 0::(uS 40 (vB c::(uS 40 (.box [.int .i64 d,.int .i64 e,.int .i64 f,.int .i64 g,.int .i64 h,.int .u8 i]::(.box [.int .i64 k,.int .i64 l,.int .i64 m,.int .u8 n,.int .i64 o,.int .i64 p,.int .i64 q,.int .i64 r]::(.box [.int .i64 s,.int .i64 t,.int .i64 v]::[]))))))))))) G
theorem J31_eq (c d:Nat) (g:Bool) (h j k l a i m n o p q r s t b v w:Int) (G:GH):J31 M C c d g h j k l a i m n o p q r s t b v w G=(bif g then some ([.agg [.int .i64 9,.int .i64 0,.int .i64 0,.int .u8 0,.int .i64 0,.int .i64 0,.int .i64 0,.int .i64 0]],G) else bif decide (h=7) then guardK (!Nat.beq c 0) (((G.ld c (d+17)).bind (Cell.asS 1)).bind fun e=>guardK (decide (0≤IntKind.i64.wrap (b+a)∧IntKind.i64.wrap (b+a)<((e.2.2:Nat):Int))) (((G.ld e.1 (e.2.1+Int.toNat (IntKind.i64.wrap (b+a))*1)).bind (Cell.asI .u8)).bind fun x=>some ([.agg [.int .i64 0,.int .i64 0,.int .i64 0,.int .u8 x,.int .i64 0,.int .i64 0,.int .i64 0,.int .i64 0]],G))) else guardK (!Nat.beq c 0) (((G.ld c (d+17)).bind (Cell.asS 1)).bind fun f=>guardK (decide (0≤IntKind.i64.wrap (b+a)∧IntKind.i64.wrap (b+a)<((f.2.2:Nat):Int))) ((G.sts f.1 (f.2.1+Int.toNat (IntKind.i64.wrap (b+a))*1) [.int .u8 i]).bind fun y=>some ([.agg [.int .i64 0,.int .i64 0,.int .i64 0,.int .u8 0,.int .i64 0,.int .i64 0,.int .i64 0,.int .i64 0]],y)))):=(M.hj _ _ _).trans (by kernel_rfl)
def f (d g:Nat) (h i n o j p:Int) (G:GH):Option Res:=guardK (!Nat.beq d 0) (((G.ld d (g+11)).bind Cell.asM).bind fun s=>(G.ents0 (.agg [.int .i64]) s).bind fun q=>(((some ((mapGet q (.agg [.int .i64 i])).getD (.agg [.int .i64 0,.int .i64 0,.int .i64 0])))).bind V1.a?).bind fun k=>if k.length=3 then (((k[0]?).bind (Cell.asI .i64)).bind fun l=>((k[1]?).bind (Cell.asI .i64)).bind fun e=>((k[2]?).bind (Cell.asI .i64)).bind fun m=>bif (!(mapGet q (.agg [.int .i64 i])).isSome) then some ([.agg [.int .i64 8,.int .i64 0,.int .i64 0,.int .u8 0,.int .i64 0,.int .i64 0,.int .i64 0,.int .i64 0]],G) else bif decide (h=4) then (C F17.id [.c (.ptr d g),.agg [.int .i64 l,.int .i64 e,.int .i64 m],.c (.int .i64 n)] G).bind fun r=>((r.1[0]?).bind V1.a?).bind fun b=>if b.length=8 then (((b[0]?).bind (Cell.asI .i64)).bind fun t=>((b[1]?).bind (Cell.asI .i64)).bind fun v=>((b[2]?).bind (Cell.asI .i64)).bind fun w=>((b[3]?).bind (Cell.asI .u8)).bind fun x=>((b[4]?).bind (Cell.asI .i64)).bind fun y=>((b[5]?).bind (Cell.asI .i64)).bind fun z=>((b[6]?).bind (Cell.asI .i64)).bind fun A=>((b[7]?).bind (Cell.asI .i64)).bind fun B=>some ([.agg [.int .i64 t,.int .i64 v,.int .i64 w,.int .u8 x,.int .i64 y,.int .i64 z,.int .i64 A,.int .i64 B]],r.2)) else none else bif decide (h=5) then (C F50.id [.c (.ptr d g),.agg [.int .i64 l,.int .i64 e,.int .i64 m]] G).bind fun D=>some ([.agg [.int .i64 0,.int .i64 0,.int .i64 0,.int .u8 0,.int .i64 0,.int .i64 0,.int .i64 0,.int .i64 0]],D.2) else bif decide (h=6) then some ([.agg [.int .i64 0,.int .i64 0,.int .i64 e,.int .u8 0,.int .i64 0,.int .i64 0,.int .i64 0,.int .i64 0]],G) else bif decide (j<0) then J31 M C d g true h i n o j p 0 0 0 0 0 0 0 0 l e m G else J31 M C d g (decide (j≥e)) h i n o j p 0 0 0 0 0 0 0 0 l e m G) else none)
theorem eq (a b:Nat) (e g h i j k:Int) (G:GH):runF M C d [.c (.ptr a b),.agg [.int .i64 e,.int .i64 g,.int .i64 h,.int .i64 i,.int .i64 j,.int .u8 k]] G=f M C a b e g h i j k G:=by kernel_rfl
end F32
namespace F17
def c24:DCode:=(.seq (.region [oP 0 74 (.ldL 11 78 (.agg sA)),
 ⟨1,none,.stL 6 76 (.t 74) 8,none⟩]) .ret)
def d:DFn:={ ntmps:=79,res:=[.box 6 (some 8)],body:=(.seq (.region [oP 0 4 (.boxv 75 [21,35,37,39] (.t 1) 3),
 oP 1 6 (.boxz 76 [] zA)]) (.seq (.region [mV 0 13 0,
 oP 1 14 (.nilck (.t 13)),
 oP 2 15 (.faddr 14 0),
 oP 3 16 (.ldG 15 (.agg (iS 8))),
 mV 4 17 0,
 oP 5 18 (.nilck (.t 17)),
 oP 6 19 (.faddr 18 12),
 oP 7 20 (.ldG 19 (.c (.int .i64))),
 oP 8 21 (.faddr 4 1),
 oP 9 22 (.ldL 21 75 (.c (.int .i64))),
 mV 10 23 2,
 oP 11 24 (.call 73 [.t 16,.t 20,.t 22,.t 23] [.c (.int .i64),.c (.int .i64)]),
 mV 12 12 24,
 oP 13 25 (.ext 12 0),
 oP 14 26 (.ext 12 1),
 mV 15 7 25,
 mV 16 8 26]) (.seq (.seq (.region [mV 0 27 8,
 oP 1 28 (.cmp .neq .i64 (.t 27) (kI 0))]) (.cond (.t 28) (.seq (.region [mV 0 29 8,
 oP 1 30 (.build zA [(0,1,.t 29)]),
 ⟨2,none,.stL 6 76 (.t 30) 8,none⟩]) .ret) .skip)) (.seq (.region [mV 0 31 0,
 oP 1 32 (.nilck (.t 31)),
 oP 2 33 (.faddr 32 17),
 oP 3 34 (.ldG 33 (.c (.sl 1))),
 oP 4 35 (.faddr 4 0),
 oP 5 36 (.ldL 35 75 (.c (.int .i64))),
 oP 6 37 (.faddr 4 0),
 oP 7 38 (.ldL 37 75 (.c (.int .i64))),
 oP 8 39 (.faddr 4 1),
 oP 9 40 (.ldL 39 75 (.c (.int .i64))),
 mV 10 41 7,
 oP 11 42 (.mn (.t 40) [.t 41]),
 oP 12 43 (.bin .add .i64 (.t 38) (.t 42)),
 oP 13 44 (.slice (.t 34) (some (.t 36)) (some (.t 43)) 1),
 mV 15 46 0,
 oP 16 47 (.nilck (.t 46)),
 oP 17 48 (.faddr 47 8),
 oP 18 49 (.ldG 48 (.agg [.int .i64,.sl 2,.sl 2])),
 oP 19 10 (.boxz 77 [] [.int .i64 0,.sl 2 0 0 0,.sl 2 0 0 0]),
 oP 14 45 (.call 74 [.t 44] [.c (.sl 1)]),
 ⟨9999,none,.reG 49 48 (.agg [.int .i64,.sl 2,.sl 2]),none⟩,
 mV 20 9 45,
 ⟨21,none,.stL 10 77 (.t 49) 3,none⟩]) (.seq (.region [mV 0 50 0,
 oP 1 51 (.ldL 4 75 (.agg (iS 3))),
 oP 2 52 (.call 55 [.t 50,.t 51] [])]) (.seq (.region [mV 0 53 0,
 mV 1 54 7,
 mV 2 55 2,
 oP 3 56 (.call 51 [.t 53,.t 54,.t 55,.k (.c (.int .i64 0))] [.agg sA]),
 oP 4 11 (.boxz 78 [57,69] zA),
 ⟨5,none,.stL 11 78 (.t 56) 8,none⟩]) (.seq (.seq (.region [oP 0 57 (.faddr 11 0),
 oP 1 58 (.ldL 57 78 (.c (.int .i64))),
 oP 2 59 (.cmp .neq .i64 (.t 58) (kI 0))]) (.cond (.t 59) (.seq (.region [mV 0 60 0,
 oP 1 61 (.ldL 4 75 (.agg (iS 3))),
 oP 2 62 (.ldL 10 77 (.agg [.int .i64,.sl 2,.sl 2])),
 oP 3 63 (.call 75 [.t 60,.t 61,.t 62] [])]) (.seq (.region [oP 0 64 (.ldL 11 78 (.agg sA)),
 ⟨1,none,.stL 6 76 (.t 64) 8,none⟩]) .ret)) .skip)) (.seq (.region [mV 0 65 0,
 oP 1 66 (.nilck (.t 65)),
 oP 2 67 (.faddr 66 17),
 oP 3 68 (.ldG 67 (.c (.sl 1))),
 oP 4 69 (.faddr 11 1),
 oP 5 70 (.ldL 69 78 (.c (.int .i64))),
 oP 6 71 (.slice (.t 68) (some (.t 70)) none 1),
 mV 7 72 9,
 oP 8 73 (.copy (.t 71) (.t 72) 1)]) (.cut [6,11,76,78] c24))))))))) }
def J24 (a b c e f g h i k l m n o p q r:Int) (G:GH):Option Res:=M.j (execC M.j C (M.ag C) c24 ({ exits:=[],ret:=retK d }:Env) (retK d)) (uS 6 (.ref 76 0::(uS 4 (.ref 78 0::(uS 64 (.box [.int .i64 a,.int .i64 b,.int .i64 c,.int .u8 e,.int .i64 f,.int .i64 g,.int .i64 h,.int .i64 i]::(uS 1 (.box [.int .i64 k,.int .i64 l,.int .i64 m,.int .u8 n,.int .i64 o,.int .i64 p,.int .i64 q,.int .i64 r]::[])))))))) G
theorem J24_eq (i j k l m n o p a b c d e f g h:Int) (G:GH):J24 M C i j k l m n o p a b c d e f g h G=(some ([.agg [.int .i64 a,.int .i64 b,.int .i64 c,.int .u8 d,.int .i64 e,.int .i64 f,.int .i64 g,.int .i64 h]],G)):=(M.hj _ _ _).trans (by kernel_rfl)
def f (b d:Nat) (e k D E:Int) (G:GH):Option Res:=guardK (!Nat.beq b 0) (((G.ld b ((d+0)+0)).bind (Cell.asI .i64)).bind fun I=>((G.ld b ((d+0)+1)).bind (Cell.asI .i64)).bind fun J=>((G.ld b ((d+0)+2)).bind (Cell.asI .i64)).bind fun K=>((G.ld b ((d+0)+3)).bind (Cell.asI .i64)).bind fun L=>((G.ld b ((d+0)+4)).bind (Cell.asI .i64)).bind fun N=>((G.ld b ((d+0)+5)).bind (Cell.asI .i64)).bind fun O=>((G.ld b ((d+0)+6)).bind (Cell.asI .i64)).bind fun P=>((G.ld b ((d+0)+7)).bind (Cell.asI .i64)).bind fun Q=>guardK (!Nat.beq b 0) (((G.ld b (d+12)).bind (Cell.asI .i64)).bind fun R=>(C F88.id [.agg [.int .i64 I,.int .i64 J,.int .i64 K,.int .i64 L,.int .i64 N,.int .i64 O,.int .i64 P,.int .i64 Q],.c (.int .i64 R),.c (.int .i64 k),.c (.int .i64 E)] G).bind fun h=>(((h.1[0]?).bind V1.c?).bind (Cell.asI .i64)).bind fun p=>(((h.1[1]?).bind V1.c?).bind (Cell.asI .i64)).bind fun F=>bif (!decide (F=0)) then some ([.agg [.int .i64 F,.int .i64 0,.int .i64 0,.int .u8 0,.int .i64 0,.int .i64 0,.int .i64 0,.int .i64 0]],h.2) else guardK (!Nat.beq b 0) (((h.2.ld b (d+17)).bind (Cell.asS 1)).bind fun s=>guardK (decide (0≤e∧e≤IntKind.i64.wrap (e+(mn2 k p))∧IntKind.i64.wrap (e+(mn2 k p))≤((s.2.2:Nat):Int))) (guardK (!Nat.beq b 0) (((h.2.ld b ((d+8)+0)).bind (Cell.asI .i64)).bind fun H=>((h.2.ld b ((d+8)+1)).bind (Cell.asS 2)).bind fun l=>((h.2.ld b ((d+8)+2)).bind (Cell.asS 2)).bind fun m=>(C F6.id [.c (.sl 1 s.1 (s.2.1+Int.toNat e*1) (Int.toNat (IntKind.i64.wrap (e+(mn2 k p)))-Int.toNat e))] h.2).bind fun o=>(((o.1[0]?).bind V1.c?).bind (Cell.asS 1)).bind fun q=>((o.2.ld b ((d+8)+0)).bind (Cell.asI .i64)).bind fun S=>((o.2.ld b ((d+8)+1)).bind (Cell.asS 2)).bind fun t=>((o.2.ld b ((d+8)+2)).bind (Cell.asS 2)).bind fun v=>guardK (decide ((.agg [.int .i64 H,.sl 2 l.1 l.2.1 l.2.2,.sl 2 m.1 m.2.1 m.2.2]:V1) = .agg [.int .i64 S,.sl 2 t.1 t.2.1 t.2.2,.sl 2 v.1 v.2.1 v.2.2])) ((C F50.id [.c (.ptr b d),.agg [.int .i64 e,.int .i64 k,.int .i64 D]] o.2).bind fun T=>(C F49.id [.c (.ptr b d),.c (.int .i64 p),.c (.int .i64 E),.c (.int .i64 0)] T.2).bind fun n=>((n.1[0]?).bind V1.a?).bind fun g=>if g.length=8 then (((g[0]?).bind (Cell.asI .i64)).bind fun r=>((g[1]?).bind (Cell.asI .i64)).bind fun i=>((g[2]?).bind (Cell.asI .i64)).bind fun w=>((g[3]?).bind (Cell.asI .u8)).bind fun x=>((g[4]?).bind (Cell.asI .i64)).bind fun y=>((g[5]?).bind (Cell.asI .i64)).bind fun z=>((g[6]?).bind (Cell.asI .i64)).bind fun A=>((g[7]?).bind (Cell.asI .i64)).bind fun B=>bif (!decide (r=0)) then (C F46.id [.c (.ptr b d),.agg [.int .i64 e,.int .i64 k,.int .i64 D],.agg [.int .i64 H,.sl 2 l.1 l.2.1 l.2.2,.sl 2 m.1 m.2.1 m.2.2]] n.2).bind fun U=>some ([.agg [.int .i64 r,.int .i64 i,.int .i64 w,.int .u8 x,.int .i64 y,.int .i64 z,.int .i64 A,.int .i64 B]],U.2) else guardK (!Nat.beq b 0) (((n.2.ld b (d+17)).bind (Cell.asS 1)).bind fun j=>guardK (decide (0≤i∧i≤((j.2.2:Nat):Int)∧((j.2.2:Nat):Int)≤((j.2.2:Nat):Int))) (if Int.toNat ((j.2.2:Nat):Int)-Int.toNat i=0∨q.2.2=0 then J24 M C 0 0 0 0 0 0 0 0 r i w x y z A B n.2 else (n.2.lds q.1 q.2.1 (min q.2.2 (Int.toNat ((j.2.2:Nat):Int)-Int.toNat i)*1)).bind fun V=>(n.2.sts j.1 (j.2.1+Int.toNat i*1) V).bind fun W=>J24 M C 0 0 0 0 0 0 0 0 r i w x y z A B W))) else none))))))
theorem eq (a b:Nat) (e g h i:Int) (G:GH):runF M C d [.c (.ptr a b),.agg [.int .i64 e,.int .i64 g,.int .i64 h],.c (.int .i64 i)] G=f M C a b e g h i G:=by kernel_rfl
end F17
namespace F43
def c13:DCode:=(.cond (.t 47) (.region [mV 0 48 7,
 oP 1 49 (.bin .add .i64 (.t 48) (kI 1)),
 mV 2 7 49]) .skip)
def c14:DCode:=(.seq (.region [mV 0 37 0,
 mV 1 38 8,
 oP 2 39 (.iaddr (.t 37) (.t 38) 1),
 oP 3 40 (.ldG 39 (.c (.bool))),
 mV 4 41 40,
 ⟨5,some 42,.move (.t 6),some (41,true)⟩,
 ⟨6,some 43,.move (.t 8),some (41,true)⟩,
 ⟨7,some 44,.iaddr (.t 42) (.t 43) 1,some (41,true)⟩,
 ⟨8,some 45,.ldG 44 (.c (.bool)),some (41,true)⟩,
 ⟨9,some 46,.not (.t 45),some (41,true)⟩,
 oP 10 47 (.pick (.t 41) (.t 46) (kB false))]) (.cut [0,1,6,7,8,47] c13))
def c17:DCode:=(.region [mV 0 16 8,
 oP 1 17 (.bin .add .i64 (.t 16) (kI 1)),
 mV 2 8 17])
def c19:DCode:=(.seq (.seq (.region [mV 0 12 8,
 mV 1 13 0,
 oP 2 14 (.len (.t 13)),
 oP 3 15 (.cmp .lss .i64 (.t 12) (.t 14))]) (.cond (.t 15) .skip (.exit 0))) (.seq (.block 1 (.seq (.region [mV 0 18 6,
 mV 1 19 8,
 mV 2 20 0,
 mV 3 21 8,
 oP 4 22 (.iaddr (.t 20) (.t 21) 1),
 oP 5 23 (.ldG 22 (.c (.bool))),
 mV 6 24 23,
 ⟨7,some 25,.move (.t 8),some (24,true)⟩,
 ⟨8,some 26,.move (.t 1),some (24,true)⟩,
 ⟨9,some 27,.len (.t 26),some (24,true)⟩,
 ⟨10,some 28,.cmp .lss .i64 (.t 25) (.t 27),some (24,true)⟩,
 oP 11 29 (.pick (.t 24) (.t 28) (kB false)),
 mV 12 30 29,
 ⟨13,some 31,.move (.t 1),some (30,true)⟩,
 ⟨14,some 32,.move (.t 8),some (30,true)⟩,
 ⟨15,some 33,.iaddr (.t 31) (.t 32) 1,some (30,true)⟩,
 ⟨16,some 34,.ldG 33 (.c (.bool)),some (30,true)⟩,
 oP 17 35 (.pick (.t 30) (.t 34) (kB false)),
 oP 18 36 (.iaddr (.t 18) (.t 19) 1),
 ⟨19,none,.stG 36 (.t 35) 1,none⟩]) (.cut [0,1,6,7,8] c14))) (.cut [0,1,6,7,8] c17)))
def c20:DCode:=(.loop [0,1,6,7,8] c19)
def c25:DCode:=(.seq (.region [mV 0 50 6,
 mV 1 51 7,
 mV 2 4 50,
 mV 3 5 51]) .ret)
def d:DFn:={ ntmps:=52,res:=[.t 4,.t 5],body:=(.seq (.region [oP 0 4 (.move (.k (.c (.sl 1 0 0 0)))),
 oP 1 5 (.move (kI 0))]) (.seq (.region [mV 0 9 0,
 oP 1 10 (.len (.t 9)),
 oP 2 11 (.mkslice (.t 10) 1 1 [.bool false]),
 mV 3 6 11]) (.seq (.region [oP 0 7 (.move (kI 0))]) (.seq (.seq (.region [oP 0 8 (.move (kI 0))]) (.block 0 c20)) c25)))) }
def k25:Kont:=execC M.j C (M.ag C) c25 ({ exits:=[],ret:=retK d }:Env) (retK d)
def e21:Env:={ exits:=(0,(k25 M C))::(({ exits:=[],ret:=retK d }:Env)).exits,ret:=(({ exits:=[],ret:=retK d }:Env)).ret }
def L20 (a b c d e f g h i:Nat) (j k:Int) (G:GH):Option Res:=M.ag C [0,1,6,7,8] c19 (e21 M C) (k25 M C) (vS 1 a b c::(vS 1 d e f::(uS 4 (vS 1 g h i::(vI j::(vI k::(uS 43 []))))))) G
def k20:Kont:=fun tm G=>M.ag C [0,1,6,7,8] c19 (e21 M C) (k25 M C) (restr [0,1,6,7,8] 0 tm) G
def k17:Kont:=execC M.j C (M.ag C) (.cut [0,1,6,7,8] c17) (e21 M C) (k20 M C)
def e16:Env:={ exits:=(1,(k17 M C))::((e21 M C)).exits,ret:=((e21 M C)).ret }
def J14 (a b c d e f g h i:Nat) (k l:Int) (G:GH):Option Res:=M.j (execC M.j C (M.ag C) c14 (e16 M C) (k17 M C)) (vS 1 a b c::(vS 1 d e f::(uS 4 (vS 1 g h i::(vI k::(vI l::(uS 43 []))))))) G
def J13 (a b c d e f g h i:Nat) (k l:Int) (m:Bool) (G:GH):Option Res:=M.j (execC M.j C (M.ag C) c13 (e16 M C) (k17 M C)) (vS 1 a b c::(vS 1 d e f::(uS 4 (vS 1 g h i::(vI k::(vI l::(uS 38 (vB m::(uS 4 []))))))))) G
def J17 (a b c d e f g h i:Nat) (k l:Int) (G:GH):Option Res:=M.j (execC M.j C (M.ag C) c17 (e21 M C) (k20 M C)) (vS 1 a b c::(vS 1 d e f::(uS 4 (vS 1 g h i::(vI k::(vI l::(uS 43 []))))))) G
theorem L20_eq (h i f j k g b d e:Nat) (l a:Int) (G:GH):L20 M C h i f j k g b d e l a G=(bif decide (a<((f:Nat):Int)) then guardK (decide (0≤a∧a<((f:Nat):Int))) (((G.ld h (i+Int.toNat a*1)).bind Cell.asB).bind fun m=>bif m then bif decide (a<((g:Nat):Int)) then guardK (decide (0≤a∧a<((g:Nat):Int))) (((G.ld j (k+Int.toNat a*1)).bind Cell.asB).bind fun n=>guardK (decide (0≤a∧a<((e:Nat):Int))) ((G.sts b (d+Int.toNat a*1) [.bool n]).bind fun o=>J14 M C h i f j k g b d e l a o)) else guardK (decide (0≤a∧a<((e:Nat):Int))) ((G.sts b (d+Int.toNat a*1) [.bool false]).bind fun p=>J14 M C h i f j k g b d e l a p) else guardK (decide (0≤a∧a<((e:Nat):Int))) ((G.sts b (d+Int.toNat a*1) [.bool false]).bind fun q=>J14 M C h i f j k g b d e l a q)) else some ([.c (.sl 1 b d e),.c (.int .i64 l)],G)):=(M.hs _ _ _ _ _ _ _).trans (by kernel_rfl)
theorem J14_eq (b c d h i j e f g:Nat) (k a:Int) (G:GH):J14 M C b c d h i j e f g k a G=(guardK (decide (0≤a∧a<((d:Nat):Int))) (((G.ld b (c+Int.toNat a*1)).bind Cell.asB).bind fun l=>bif l then guardK (decide (0≤a∧a<((g:Nat):Int))) (((G.ld e (f+Int.toNat a*1)).bind Cell.asB).bind fun m=>J13 M C b c d h i j e f g k a (!m) G) else J13 M C b c d h i j e f g k a false G)):=(M.hj _ _ _).trans (by kernel_rfl)
theorem J13_eq (a b c d e f g h i:Nat) (j k:Int) (l:Bool) (G:GH):J13 M C a b c d e f g h i j k l G=(bif l then J17 M C a b c d e f g h i (IntKind.i64.wrap (j+1)) k G else J17 M C a b c d e f g h i j k G):=(M.hj _ _ _).trans (by kernel_rfl)
theorem J17_eq (a b c d e f g h i:Nat) (j k:Int) (G:GH):J17 M C a b c d e f g h i j k G=(L20 M C a b c d e f g h i j (IntKind.i64.wrap (k+1)) G):=(M.hj _ _ _).trans (by kernel_rfl)
def f (b c a d e g:Nat) (G:GH):Option Res:=guardK (decide (0≤((a:Nat):Int)∧((a:Nat):Int)≤(most:Int))) (let h:=G.alloc (.row (reps (Int.toNat ((a:Nat):Int)) [.bool false]) false);L20 M C b c a d e g G.next 0 (Int.toNat ((a:Nat):Int)) 0 0 h)
theorem eq (a b e g h i:Nat) (G:GH):runF M C d [.c (.sl 1 a b e),.c (.sl 1 g h i)] G=f M C a b e g h i G:=by kernel_rfl
end F43
namespace F15
def c12:DCode:=(.cond (.t 26) .skip (.exit 2))
def c17:DCode:=(.seq (.block 3 (.region [mV 0 29 8,
 mV 1 30 2,
 oP 2 31 (.build (zI 2) [(0,1,.t 29),(1,1,.t 30)]),
 mV 3 32 1,
 mV 4 33 10,
 oP 5 34 (.iaddr (.t 32) (.t 33) 3),
 oP 6 35 (.faddr 34 0),
 oP 7 36 (.ldG 35 (.c (.int .i64))),
 mV 8 37 1,
 mV 9 38 10,
 oP 10 39 (.iaddr (.t 37) (.t 38) 3),
 oP 11 40 (.faddr 39 1),
 oP 12 41 (.ldG 40 (.c (.int .i64))),
 oP 13 42 (.build (zI 2) [(0,1,.t 36),(1,1,.t 41)]),
 oP 14 43 (.call 68 [.t 31,.t 42] [.c (.bool)]),
 oP 15 44 (.not (.t 43)),
 mV 16 9 44])) (.region [mV 0 27 10,
 oP 1 28 (.bin .add .i64 (.t 27) (kI 1)),
 mV 2 10 28]))
def c18:DCode:=(.seq (.seq (.region [mV 0 20 10,
 mV 1 21 1,
 oP 2 22 (.len (.t 21)),
 oP 3 23 (.cmp .lss .i64 (.t 20) (.t 22)),
 mV 4 24 23,
 ⟨5,some 25,.move (.t 9),some (24,true)⟩,
 oP 6 26 (.pick (.t 24) (.t 25) (kB false))]) (.cut [1,2,3,8,9,10,26,47] c12)) c17)
def c19:DCode:=(.loop [1,2,3,8,9,10,47] c18)
def c28:DCode:=(.seq (.region [mV 0 45 9]) (.cond (.t 45) (.seq (.region [mV 0 46 8,
 mV 1 6 46,
 oP 2 7 (.move (kB true))]) .ret) .skip))
def c32:DCode:=(.region [mV 0 17 8,
 mV 1 18 2,
 oP 2 19 (.bin .add .i64 (.t 17) (.t 18)),
 mV 3 8 19])
def c34:DCode:=(.seq (.seq (.region [mV 0 11 8,
 mV 1 12 2,
 oP 2 13 (.bin .add .i64 (.t 11) (.t 12)),
 oP 3 14 (.faddr 3 6),
 oP 4 15 (.ldL 14 47 (.c (.int .i64))),
 oP 5 16 (.cmp .leq .i64 (.t 13) (.t 15))]) (.cond (.t 16) .skip (.exit 0))) (.seq (.block 1 (.seq (.region [oP 0 9 (.move (kB true))]) (.seq (.seq (.region [oP 0 10 (.move (kI 0))]) (.block 2 c19)) c28))) c32))
def c35:DCode:=(.loop [1,2,3,8,47] c34)
def c40:DCode:=(.seq (.region [oP 0 6 (.move (kI 0)),
 oP 1 7 (.move (kB false))]) .ret)
def d:DFn:={ ntmps:=48,res:=[.t 6,.t 7],body:=(.seq (.region [oP 0 3 (.boxv 47 [14] (.t 0) 8),
 oP 1 6 (.move (kI 0)),
 oP 2 7 (.move (kB false))]) (.seq (.seq (.region [oP 0 8 (.move (kI 0))]) (.block 0 c35)) c40)) }
def k40:Kont:=execC M.j C (M.ag C) c40 ({ exits:=[],ret:=retK d }:Env) (retK d)
def e36:Env:={ exits:=(0,(k40 M C))::(({ exits:=[],ret:=retK d }:Env)).exits,ret:=(({ exits:=[],ret:=retK d }:Env)).ret }
def L35 (a b c:Nat) (d e f g h i j k l m:Int) (G:GH):Option Res:=M.ag C [1,2,3,8,47] c34 (e36 M C) (k40 M C) (uS 1 (vS 3 a b c::(vI d::(.ref 47 0::(uS 4 (vI e::(uS 38 (.box [.int .i64 f,.int .i64 g,.int .i64 h,.int .i64 i,.int .i64 j,.int .i64 k,.int .i64 l,.int .i64 m]::[])))))))) G
def k35:Kont:=fun tm G=>M.ag C [1,2,3,8,47] c34 (e36 M C) (k40 M C) (restr [1,2,3,8,47] 0 tm) G
def k32:Kont:=execC M.j C (M.ag C) c32 (e36 M C) (k35 M C)
def e31:Env:={ exits:=(1,(k32 M C))::((e36 M C)).exits,ret:=((e36 M C)).ret }
def k28:Kont:=execC M.j C (M.ag C) c28 (e31 M C) (k32 M C)
def e20:Env:={ exits:=(2,(k28 M C))::((e31 M C)).exits,ret:=((e31 M C)).ret }
def L19 (a b c:Nat) (d e:Int) (f:Bool) (g h i j k l m n o:Int) (G:GH):Option Res:=M.ag C [1,2,3,8,9,10,47] c18 (e20 M C) (k28 M C) (uS 1 (vS 3 a b c::(vI d::(.ref 47 0::(uS 4 (vI e::(vB f::(vI g::(uS 36 (.box [.int .i64 h,.int .i64 i,.int .i64 j,.int .i64 k,.int .i64 l,.int .i64 m,.int .i64 n,.int .i64 o]::[])))))))))) G
def k19:Kont:=fun tm G=>M.ag C [1,2,3,8,9,10,47] c18 (e20 M C) (k28 M C) (restr [1,2,3,8,9,10,47] 0 tm) G
def k17:Kont:=execC M.j C (M.ag C) c17 (e20 M C) (k19 M C)
def J12 (a b c:Nat) (d e:Int) (f:Bool) (g:Int) (h:Bool) (i k l m n o p q:Int) (G:GH):Option Res:=M.j (execC M.j C (M.ag C) c12 (e20 M C) (k17 M C)) (uS 1 (vS 3 a b c::(vI d::(.ref 47 0::(uS 4 (vI e::(vB f::(vI g::(uS 15 (vB h::(uS 20 (.box [.int .i64 i,.int .i64 k,.int .i64 l,.int .i64 m,.int .i64 n,.int .i64 o,.int .i64 p,.int .i64 q]::[])))))))))))) G
theorem L35_eq (e f g:Nat) (a b h i j k l m d n:Int) (G:GH):L35 M C e f g a b h i j k l m d n G=(bif decide (IntKind.i64.wrap (b+a)≤d) then L19 M C e f g a b true 0 h i j k l m d n G else some ([.c (.int .i64 0),.c (.bool false)],G)):=(M.hs _ _ _ _ _ _ _).trans (by kernel_rfl)
theorem L19_eq (d e a:Nat) (f g:Int) (b:Bool) (c h i j k l m n o:Int) (G:GH):L19 M C d e a f g b c h i j k l m n o G=(bif decide (c<((a:Nat):Int)) then J12 M C d e a f g b c b h i j k l m n o G else J12 M C d e a f g b c false h i j k l m n o G):=(M.hs _ _ _ _ _ _ _).trans (by kernel_rfl)
theorem J12_eq (b d e:Nat) (f g:Int) (p:Bool) (a:Int) (q:Bool) (h i j k l m n o:Int) (G:GH):J12 M C b d e f g p a q h i j k l m n o G=(bif q then guardK (decide (0≤a∧a<((e:Nat):Int))) (((G.ld b ((d+Int.toNat a*3)+0)).bind (Cell.asI .i64)).bind fun s=>guardK (decide (0≤a∧a<((e:Nat):Int))) (((G.ld b ((d+Int.toNat a*3)+1)).bind (Cell.asI .i64)).bind fun t=>(C F38.id [.agg [.int .i64 g,.int .i64 f],.agg [.int .i64 s,.int .i64 t]] G).bind fun r=>(((r.1[0]?).bind V1.c?).bind Cell.asB).bind fun v=>L19 M C b d e f g (!v) (IntKind.i64.wrap (a+1)) h i j k l m n o r.2)) else bif p then some ([.c (.int .i64 g),.c (.bool true)],G) else L35 M C b d e f (IntKind.i64.wrap (g+f)) h i j k l m n o G):=(M.hj _ _ _).trans (by kernel_rfl)
def f (a b c d e g h i:Int) (j k l:Nat) (m:Int) (G:GH):Option Res:=L35 M C j k l m 0 a b c d e g h i G
theorem eq (a b e g h i j k:Int) (l m n:Nat) (o:Int) (G:GH):runF M C d [.agg [.int .i64 a,.int .i64 b,.int .i64 e,.int .i64 g,.int .i64 h,.int .i64 i,.int .i64 j,.int .i64 k],.c (.sl 3 l m n),.c (.int .i64 o)] G=f M C a b e g h i j k l m n o G:=by kernel_rfl
end F15
namespace F41
def c12:DCode:=(.cond (.t 25) (.region [mV 0 26 5,
 oP 1 27 (.ldL 3 44 (.agg (iS 3))),
 oP 2 28 (.bslice 1 3 (zI 3) [(0,3,.t 27)]),
 oP 3 29 (.app (.t 26) (.t 28) 3 24),
 mV 4 5 29,
 oP 5 6 (.move (kB true))]) .skip)
def c14:DCode:=(.region [mV 0 30 5,
 mV 1 31 0,
 mV 2 32 7,
 oP 3 33 (.iaddr (.t 31) (.t 32) 3),
 oP 4 34 (.ldG 33 (.agg (iS 3))),
 oP 5 35 (.bslice 1 3 (zI 3) [(0,3,.t 34)]),
 oP 6 36 (.app (.t 30) (.t 35) 3 24),
 mV 7 5 36])
def c17:DCode:=(.region [mV 0 12 7,
 oP 1 13 (.bin .add .i64 (.t 12) (kI 1)),
 mV 2 7 13])
def c19:DCode:=(.seq (.seq (.region [mV 0 8 7,
 mV 1 9 0,
 oP 2 10 (.len (.t 9)),
 oP 3 11 (.cmp .lss .i64 (.t 8) (.t 10))]) (.cond (.t 11) .skip (.exit 0))) (.seq (.block 1 (.seq (.seq (.region [mV 0 14 6,
 oP 1 15 (.not (.t 14)),
 mV 2 16 15,
 ⟨3,some 17,.move (.t 0),some (16,true)⟩,
 ⟨4,some 18,.move (.t 7),some (16,true)⟩,
 ⟨5,some 19,.iaddr (.t 17) (.t 18) 3,some (16,true)⟩,
 ⟨6,some 20,.faddr 19 0,some (16,true)⟩,
 ⟨7,some 21,.ldG 20 (.c (.int .i64)),some (16,true)⟩,
 ⟨8,some 22,.faddr 3 0,some (16,true)⟩,
 ⟨9,some 23,.ldL 22 44 (.c (.int .i64)),some (16,true)⟩,
 ⟨10,some 24,.cmp .gtr .i64 (.t 21) (.t 23),some (16,true)⟩,
 oP 11 25 (.pick (.t 16) (.t 24) (kB false))]) (.cut [0,3,5,6,7,25,44] c12)) (.cut [0,3,5,6,7,44] c14))) c17))
def c20:DCode:=(.loop [0,3,5,6,7,44] c19)
def c30:DCode:=(.seq (.region [mV 0 43 5,
 mV 1 4 43]) .ret)
def c31:DCode:=(.seq (.seq (.region [mV 0 37 6,
 oP 1 38 (.not (.t 37))]) (.cond (.t 38) (.region [mV 0 39 5,
 oP 1 40 (.ldL 3 44 (.agg (iS 3))),
 oP 2 41 (.bslice 1 3 (zI 3) [(0,3,.t 40)]),
 oP 3 42 (.app (.t 39) (.t 41) 3 24),
 mV 4 5 42]) .skip)) (.cut [5] c30))
def d:DFn:={ ntmps:=45,res:=[.t 4],body:=(.seq (.region [oP 0 3 (.boxv 44 [22] (.t 1) 3),
 oP 1 4 (.move (.k (.c (.sl 3 0 0 0))))]) (.seq (.region [oP 0 5 (.move (.k (.c (.sl 3 0 0 0))))]) (.seq (.region [oP 0 6 (.move (kB false))]) (.seq (.seq (.region [oP 0 7 (.move (kI 0))]) (.block 0 c20)) c31)))) }
def k31:Kont:=execC M.j C (M.ag C) c31 ({ exits:=[],ret:=retK d }:Env) (retK d)
def e21:Env:={ exits:=(0,(k31 M C))::(({ exits:=[],ret:=retK d }:Env)).exits,ret:=(({ exits:=[],ret:=retK d }:Env)).ret }
def L20 (a b c d e f:Nat) (g:Bool) (h i j k:Int) (G:GH):Option Res:=M.ag C [0,3,5,6,7,44] c19 (e21 M C) (k31 M C) (vS 3 a b c::(uS 2 (.ref 44 0::(uS 1 (vS 3 d e f::(vB g::(vI h::(uS 36 (.box [.int .i64 i,.int .i64 j,.int .i64 k]::[]))))))))) G
def k20:Kont:=fun tm G=>M.ag C [0,3,5,6,7,44] c19 (e21 M C) (k31 M C) (restr [0,3,5,6,7,44] 0 tm) G
def k17:Kont:=execC M.j C (M.ag C) c17 (e21 M C) (k20 M C)
def e16:Env:={ exits:=(1,(k17 M C))::((e21 M C)).exits,ret:=((e21 M C)).ret }
def k14:Kont:=execC M.j C (M.ag C) (.cut [0,3,5,6,7,44] c14) (e16 M C) (k17 M C)
def J12 (a b c d e f:Nat) (g:Bool) (h:Int) (i:Bool) (k l m:Int) (G:GH):Option Res:=M.j (execC M.j C (M.ag C) c12 (e16 M C) (k14 M C)) (vS 3 a b c::(uS 2 (.ref 44 0::(uS 1 (vS 3 d e f::(vB g::(vI h::(uS 17 (vB i::(uS 18 (.box [.int .i64 k,.int .i64 l,.int .i64 m]::[]))))))))))) G
def J30 (a b c:Nat) (G:GH):Option Res:=M.j (execC M.j C (M.ag C) c30 ({ exits:=[],ret:=retK d }:Env) (retK d)) (uS 5 (vS 3 a b c::(uS 39 []))) G
def J14 (a b c d e f:Nat) (g:Bool) (h i k l:Int) (G:GH):Option Res:=M.j (execC M.j C (M.ag C) c14 (e16 M C) (k17 M C)) (vS 3 a b c::(uS 2 (.ref 44 0::(uS 1 (vS 3 d e f::(vB g::(vI h::(uS 36 (.box [.int .i64 i,.int .i64 k,.int .i64 l]::[]))))))))) G
theorem L20_eq (h i c d e a:Nat) (f:Bool) (b g j k:Int) (G:GH):L20 M C h i c d e a f b g j k G=(bif decide (b<((c:Nat):Int)) then bif (!f) then guardK (decide (0≤b∧b<((c:Nat):Int))) (((G.ld h ((i+Int.toNat b*3)+0)).bind (Cell.asI .i64)).bind fun n=>J12 M C h i c d e a f b (decide (n>g)) g j k G) else J12 M C h i c d e a f b false g j k G else bif (!f) then let m:=G.alloc (.row [.int .i64 g,.int .i64 j,.int .i64 k] false);(if 1=0 then some [] else m.lds G.next 0 (1*3)).bind fun o=>guardK (decide (a+1≤most)) ((m.app d e a 3 1 o).bind fun l=>J30 M C l.1 l.2.1 (a+1) l.2.2) else J30 M C d e a G):=(M.hs _ _ _ _ _ _ _).trans (by kernel_rfl)
theorem J12_eq (e f g h i a:Nat) (l:Bool) (j:Int) (m:Bool) (b c d:Int) (G:GH):J12 M C e f g h i a l j m b c d G=(bif m then let n:=G.alloc (.row [.int .i64 b,.int .i64 c,.int .i64 d] false);(if 1=0 then some [] else n.lds G.next 0 (1*3)).bind fun o=>guardK (decide (a+1≤most)) ((n.app h i a 3 1 o).bind fun k=>J14 M C e f g k.1 k.2.1 (a+1) true j b c d k.2.2) else J14 M C e f g h i a l j b c d G):=(M.hj _ _ _).trans (by kernel_rfl)
theorem J30_eq (a b d:Nat) (G:GH):J30 M C a b d G=(some ([.c (.sl 3 a b d)],G)):=(M.hj _ _ _).trans (by kernel_rfl)
theorem J14_eq (b c e g h d:Nat) (i:Bool) (a j k l:Int) (G:GH):J14 M C b c e g h d i a j k l G=(guardK (decide (0≤a∧a<((e:Nat):Int))) (((G.ld b ((c+Int.toNat a*3)+0)).bind (Cell.asI .i64)).bind fun n=>((G.ld b ((c+Int.toNat a*3)+1)).bind (Cell.asI .i64)).bind fun o=>((G.ld b ((c+Int.toNat a*3)+2)).bind (Cell.asI .i64)).bind fun p=>let m:=G.alloc (.row [.int .i64 n,.int .i64 o,.int .i64 p] false);(if 1=0 then some [] else m.lds G.next 0 (1*3)).bind fun q=>guardK (decide (d+1≤most)) ((m.app g h d 3 1 q).bind fun f=>L20 M C b c e f.1 f.2.1 (d+1) i (IntKind.i64.wrap (a+1)) j k l f.2.2))):=(M.hj _ _ _).trans (by kernel_rfl)
def f (a b c:Nat) (d e g:Int) (G:GH):Option Res:=L20 M C a b c 0 0 0 false 0 d e g G
theorem eq (a b e:Nat) (g h i:Int) (G:GH):runF M C d [.c (.sl 3 a b e),.agg [.int .i64 g,.int .i64 h,.int .i64 i]] G=f M C a b e g h i G:=by kernel_rfl
end F41
namespace F40
def c7:DCode:=(.cond (.t 19) (.seq (.region [mV 0 20 9,
 mV 1 8 20]) .ret) .skip)
def c18:DCode:=(.cond (.t 35) (.region [mV 0 36 9,
 mV 1 37 10,
 mV 2 38 1,
 mV 3 39 2,
 mV 4 40 10,
 mV 5 41 3,
 oP 6 42 (.bin .rem .i64 (.t 40) (.t 41)),
 oP 7 43 (.call 101 [.t 38,.t 39,.t 42] [.c (.int .u8)]),
 oP 8 44 (.iaddr (.t 36) (.t 37) 1),
 ⟨9,none,.stG 44 (.t 43) 1,none⟩]) .skip)
def c21:DCode:=(.region [mV 0 25 10,
 oP 1 26 (.bin .add .i64 (.t 25) (kI 1)),
 mV 2 10 26])
def c23:DCode:=(.seq (.seq (.region [mV 0 21 10,
 mV 1 22 9,
 oP 2 23 (.len (.t 22)),
 oP 3 24 (.cmp .lss .i64 (.t 21) (.t 23))]) (.cond (.t 24) .skip (.exit 0))) (.seq (.block 1 (.seq (.region [mV 0 27 3,
 oP 1 28 (.cmp .gtr .i64 (.t 27) (kI 0)),
 mV 2 29 28,
 ⟨3,some 30,.move (.t 10),some (29,true)⟩,
 ⟨4,some 31,.move (.t 3),some (29,true)⟩,
 ⟨5,some 32,.bin .quo .i64 (.t 30) (.t 31),some (29,true)⟩,
 ⟨6,some 33,.move (.t 2),some (29,true)⟩,
 ⟨7,some 34,.cmp .eql .i64 (.t 32) (.t 33),some (29,true)⟩,
 oP 8 35 (.pick (.t 29) (.t 34) (kB false))]) (.cut [1,2,3,9,10,35] c18))) (.cut [1,2,3,9,10] c21)))
def c24:DCode:=(.loop [1,2,3,9,10] c23)
def c29:DCode:=(.seq (.region [mV 0 45 9,
 mV 1 8 45]) .ret)
def c30:DCode:=(.seq (.seq (.region [oP 0 10 (.move (kI 0))]) (.block 0 c24)) c29)
def d:DFn:={ ntmps:=46,res:=[.t 8],body:=(.seq (.region [oP 0 8 (.move (.k (.c (.sl 1 0 0 0))))]) (.seq (.region [oP 0 11 (.bslice 0 1 [] []),
 mV 1 12 0,
 oP 2 13 (.app (.t 11) (.t 12) 1 1),
 mV 3 9 13]) (.seq (.seq (.region [mV 0 14 2,
 oP 1 15 (.cmp .lss .i64 (.t 14) (kI 0)),
 mV 2 16 15,
 ⟨3,some 17,.move (.t 3),some (16,false)⟩,
 ⟨4,some 18,.cmp .lss .i64 (.t 17) (kI 0),some (16,false)⟩,
 oP 5 19 (.pick (.t 16) (kB true) (.t 18))]) (.cut [1,2,3,9,19] c7)) c30))) }
def k30:Kont:=execC M.j C (M.ag C) c30 ({ exits:=[],ret:=retK d }:Env) (retK d)
def J7 (a b c:Int) (e f g:Nat) (h:Bool) (G:GH):Option Res:=M.j (execC M.j C (M.ag C) c7 ({ exits:=[],ret:=retK d }:Env) (k30 M C)) (uS 1 (vI a::(vI b::(vI c::(uS 5 (vS 1 e f g::(uS 9 (vB h::(uS 26 []))))))))) G
def k29:Kont:=execC M.j C (M.ag C) c29 ({ exits:=[],ret:=retK d }:Env) (retK d)
def e25:Env:={ exits:=(0,(k29 M C))::(({ exits:=[],ret:=retK d }:Env)).exits,ret:=(({ exits:=[],ret:=retK d }:Env)).ret }
def L24 (a b c:Int) (d e f:Nat) (g:Int) (G:GH):Option Res:=M.ag C [1,2,3,9,10] c23 (e25 M C) (k29 M C) (uS 1 (vI a::(vI b::(vI c::(uS 5 (vS 1 d e f::(vI g::(uS 35 [])))))))) G
def k24:Kont:=fun tm G=>M.ag C [1,2,3,9,10] c23 (e25 M C) (k29 M C) (restr [1,2,3,9,10] 0 tm) G
def k21:Kont:=execC M.j C (M.ag C) (.cut [1,2,3,9,10] c21) (e25 M C) (k24 M C)
def e20:Env:={ exits:=(1,(k21 M C))::((e25 M C)).exits,ret:=((e25 M C)).ret }
def J18 (a b c:Int) (d e f:Nat) (g:Int) (h:Bool) (G:GH):Option Res:=M.j (execC M.j C (M.ag C) c18 (e20 M C) (k21 M C)) (uS 1 (vI a::(vI b::(vI c::(uS 5 (vS 1 d e f::(vI g::(uS 24 (vB h::(uS 10 [])))))))))) G
def J21 (a b c:Int) (d e f:Nat) (g:Int) (G:GH):Option Res:=M.j (execC M.j C (M.ag C) c21 (e25 M C) (k24 M C)) (uS 1 (vI a::(vI b::(vI c::(uS 5 (vS 1 d e f::(vI g::(uS 35 [])))))))) G
theorem J7_eq (e f g:Int) (a b d:Nat) (h:Bool) (G:GH):J7 M C e f g a b d h G=(bif h then some ([.c (.sl 1 a b d)],G) else L24 M C e f g a b d 0 G):=(M.hj _ _ _).trans (by kernel_rfl)
theorem L24_eq (h e a:Int) (f g b:Nat) (d:Int) (G:GH):L24 M C h e a f g b d G=(bif decide (d<((b:Nat):Int)) then bif decide (a>0) then (binD .quo .i64 d a).bind fun i=>J18 M C h e a f g b d (decide (i=e)) G else J18 M C h e a f g b d false G else some ([.c (.sl 1 f g b)],G)):=(M.hs _ _ _ _ _ _ _).trans (by kernel_rfl)
theorem J18_eq (b d e:Int) (f g h:Nat) (a:Int) (i:Bool) (G:GH):J18 M C b d e f g h a i G=(bif i then (binD .rem .i64 a e).bind fun k=>(C F39.id [.c (.int .i64 b),.c (.int .i64 d),.c (.int .i64 k)] G).bind fun j=>(((j.1[0]?).bind V1.c?).bind (Cell.asI .u8)).bind fun l=>guardK (decide (0≤a∧a<((h:Nat):Int))) ((j.2.sts f (g+Int.toNat a*1) [.int .u8 l]).bind fun m=>J21 M C b d e f g h a m) else J21 M C b d e f g h a G):=(M.hj _ _ _).trans (by kernel_rfl)
theorem J21_eq (a b c:Int) (d e f:Nat) (g:Int) (G:GH):J21 M C a b c d e f g G=(L24 M C a b c d e f (IntKind.i64.wrap (g+1)) G):=(M.hj _ _ _).trans (by kernel_rfl)
def f (h i a:Nat) (e c d:Int) (G:GH):Option Res:=let g:=G.alloc (.row [] false);(if a=0 then some [] else g.lds h i (a*1)).bind fun j=>guardK (decide (0+a≤most)) ((g.app G.next 0 0 1 a j).bind fun b=>bif decide (c<0) then J7 M C e c d b.1 b.2.1 (0+a) true b.2.2 else J7 M C e c d b.1 b.2.1 (0+a) (decide (d<0)) b.2.2)
theorem eq (a b e:Nat) (g h i:Int) (G:GH):runF M C d [.c (.sl 1 a b e),.c (.int .i64 g),.c (.int .i64 h),.c (.int .i64 i)] G=f M C a b e g h i G:=by kernel_rfl
end F40
namespace F77
def c13:DCode:=(.cond (.t 30) (.seq (.region [mV 0 31 4,
 mV 1 32 6,
 oP 2 33 (.iaddr (.t 31) (.t 32) 1),
 ⟨3,none,.stG 33 (kB false) 1,none⟩]) (.region [mV 0 34 5,
 oP 1 35 (.bin .add .i64 (.t 34) (kI 1)),
 mV 2 5 35])) .skip)
def c17:DCode:=(.region [oP 0 36 (.bin .add .i64 (.t 12) (kI 1)),
 mV 1 12 36])
def c20:DCode:=(.seq (.region [oP 0 13 (.cmp .lss .i64 (.t 12) (.t 11))]) (.seq (.cond (.t 13) .skip (.exit 0)) (.seq (.block 1 (.seq (.region [mV 0 14 12,
 oP 1 15 (.iaddr (.t 10) (.t 12) 1),
 oP 2 16 (.ldG 15 (.c (.bool))),
 mV 3 6 14,
 mV 4 7 16]) (.seq (.region [mV 0 17 7,
 mV 1 18 17,
 ⟨2,some 19,.move (.t 6),some (18,true)⟩,
 ⟨3,some 20,.move (.t 1),some (18,true)⟩,
 ⟨4,some 21,.len (.t 20),some (18,true)⟩,
 ⟨5,some 22,.cmp .geq .i64 (.t 19) (.t 21),some (18,true)⟩,
 ⟨6,some 23,.move (.t 22),some (18,true)⟩,
 ⟨7,some 24,.move (.t 1),some (23,false)⟩,
 ⟨8,some 25,.move (.t 6),some (23,false)⟩,
 ⟨9,some 26,.iaddr (.t 24) (.t 25) 1,some (23,false)⟩,
 ⟨10,some 27,.ldG 26 (.c (.bool)),some (23,false)⟩,
 ⟨11,some 28,.not (.t 27),some (23,false)⟩,
 ⟨12,some 29,.pick (.t 23) (kB true) (.t 28),some (18,true)⟩,
 oP 13 30 (.pick (.t 18) (.t 29) (kB false))]) (.cut [1,4,5,6,10,11,12,30] c13)))) (.cut [1,4,5,10,11,12] c17))))
def c21:DCode:=(.loop [1,4,5,10,11,12] c20)
def c26:DCode:=(.seq (.region [mV 0 37 4,
 mV 1 38 5,
 mV 2 4 37,
 mV 3 5 38]) .ret)
def d:DFn:={ ntmps:=39,res:=[.t 4,.t 5],body:=(.seq (.region [oP 0 4 (.move (.k (.c (.sl 1 0 0 0)))),
 oP 1 5 (.move (kI 0))]) (.seq (.region [mV 0 8 0,
 oP 1 9 (.call 56 [.t 8] [.c (.sl 1)]),
 mV 2 4 9]) (.seq (.seq (.region [mV 0 10 0,
 oP 1 11 (.len (.t 10)),
 oP 2 12 (.move (kI 0))]) (.block 0 c21)) c26))) }
def k26:Kont:=execC M.j C (M.ag C) c26 ({ exits:=[],ret:=retK d }:Env) (retK d)
def e22:Env:={ exits:=(0,(k26 M C))::(({ exits:=[],ret:=retK d }:Env)).exits,ret:=(({ exits:=[],ret:=retK d }:Env)).ret }
def L21 (a b c d e f:Nat) (g:Int) (h i j:Nat) (k l:Int) (G:GH):Option Res:=M.ag C [1,4,5,10,11,12] c20 (e22 M C) (k26 M C) (uS 1 (vS 1 a b c::(uS 2 (vS 1 d e f::(vI g::(uS 4 (vS 1 h i j::(vI k::(vI l::(uS 26 [])))))))))) G
def k21:Kont:=fun tm G=>M.ag C [1,4,5,10,11,12] c20 (e22 M C) (k26 M C) (restr [1,4,5,10,11,12] 0 tm) G
def k17:Kont:=execC M.j C (M.ag C) (.cut [1,4,5,10,11,12] c17) (e22 M C) (k21 M C)
def e16:Env:={ exits:=(1,(k17 M C))::((e22 M C)).exits,ret:=((e22 M C)).ret }
def J13 (a b c d e f:Nat) (g h:Int) (i k l:Nat) (m n:Int) (o:Bool) (G:GH):Option Res:=M.j (execC M.j C (M.ag C) c13 (e16 M C) (k17 M C)) (uS 1 (vS 1 a b c::(uS 2 (vS 1 d e f::(vI g::(vI h::(uS 3 (vS 1 i k l::(vI m::(vI n::(uS 17 (vB o::(uS 8 []))))))))))))) G
def J17 (a b c d e f:Nat) (g:Int) (h i k:Nat) (l m:Int) (G:GH):Option Res:=M.j (execC M.j C (M.ag C) c17 (e22 M C) (k21 M C)) (uS 1 (vS 1 a b c::(uS 2 (vS 1 d e f::(vI g::(uS 4 (vS 1 h i k::(vI l::(vI m::(uS 26 [])))))))))) G
theorem L21_eq (d e b f g h:Nat) (i:Int) (j k l:Nat) (m a:Int) (G:GH):L21 M C d e b f g h i j k l m a G=(bif decide (a<m) then guardK (decide (0≤a∧a<((l:Nat):Int))) (((G.ld j (k+Int.toNat a*1)).bind Cell.asB).bind fun n=>bif n then bif decide (a≥((b:Nat):Int)) then J13 M C d e b f g h i a j k l m a true G else guardK (decide (0≤a∧a<((b:Nat):Int))) (((G.ld d (e+Int.toNat a*1)).bind Cell.asB).bind fun o=>J13 M C d e b f g h i a j k l m a (!o) G) else J13 M C d e b f g h i a j k l m a false G) else some ([.c (.sl 1 f g h),.c (.int .i64 i)],G)):=(M.hs _ _ _ _ _ _ _).trans (by kernel_rfl)
theorem J13_eq (e f g a b c:Nat) (h d:Int) (i j k:Nat) (l m:Int) (n:Bool) (G:GH):J13 M C e f g a b c h d i j k l m n G=(bif n then guardK (decide (0≤d∧d<((c:Nat):Int))) ((G.sts a (b+Int.toNat d*1) [.bool false]).bind fun o=>J17 M C e f g a b c (IntKind.i64.wrap (h+1)) i j k l m o) else J17 M C e f g a b c h i j k l m G):=(M.hj _ _ _).trans (by kernel_rfl)
theorem J17_eq (a b c d e f:Nat) (g:Int) (h i j:Nat) (k l:Int) (G:GH):J17 M C a b c d e f g h i j k l G=(L21 M C a b c d e f g h i j k (IntKind.i64.wrap (l+1)) G):=(M.hj _ _ _).trans (by kernel_rfl)
def f (d e a h i j:Nat) (G:GH):Option Res:=(C F5.id [.c (.sl 1 d e a)] G).bind fun g=>(((g.1[0]?).bind V1.c?).bind (Cell.asS 1)).bind fun b=>L21 M C h i j b.1 b.2.1 b.2.2 0 d e a ((a:Nat):Int) 0 g.2
theorem eq (a b e g h i:Nat) (G:GH):runF M C d [.c (.sl 1 a b e),.c (.sl 1 g h i)] G=f M C a b e g h i G:=by kernel_rfl
end F77
namespace F61
def c7:DCode:=(.cond (.t 36) (.seq (.region [oP 0 37 (.ldL 2 54 (.agg [.int .i64,.sl 2,.sl 2])),
 oP 1 38 (.call 97 [.t 37] [.agg [.int .i64,.sl 2,.sl 2]]),
 ⟨2,none,.stL 4 55 (.t 38) 3,none⟩,
 oP 3 5 (.move (kI 0)),
 oP 4 6 (.move (kB false))]) .ret) .skip)
def c13:DCode:=(.seq (.region [oP 0 39 (.faddr 2 1),
 oP 1 40 (.ldL 39 54 (.agg [.sl 2])),
 mV 2 41 1,
 oP 3 42 (.faddr 2 0),
 oP 4 43 (.ldL 42 54 (.c (.int .i64))),
 oP 5 44 (.bin .quo .i64 (.t 41) (.t 43)),
 mV 6 45 8,
 oP 7 46 (.conv .u64 (.t 45)),
 oP 8 47 (.bin .shl .i64 (kI 1) (.t 46)),
 oP 9 48 (.call 98 [.t 40,.t 44,.t 47,.k (.c (.bool false))] [.agg [.sl 2]]),
 mV 10 49 7,
 oP 11 50 (.faddr 2 1),
 ⟨12,none,.stL 50 54 (.t 48) 1,none⟩,
 oP 13 51 (.faddr 2 2),
 ⟨14,none,.stL 51 54 (.t 49) 1,none⟩]) (.seq (.region [oP 0 52 (.ldL 2 54 (.agg [.int .i64,.sl 2,.sl 2])),
 mV 1 53 8,
 ⟨2,none,.stL 4 55 (.t 52) 3,none⟩,
 mV 3 5 53,
 oP 4 6 (.move (kB true))]) .ret))
def d:DFn:={ ntmps:=56,res:=[.box 4 (some 3),.t 5,.t 6],body:=(.seq (.region [oP 0 2 (.boxv 54 [11,21,31,32,39,42,50,51] (.t 0) 3),
 oP 1 4 (.boxz 55 [] [.int .i64 0,.sl 2 0 0 0,.sl 2 0 0 0]),
 oP 2 5 (.move (kI 0)),
 oP 3 6 (.move (kB false))]) (.seq (.region [oP 0 11 (.faddr 2 2),
 oP 1 12 (.ldL 11 54 (.c (.sl 2))),
 mV 2 13 1,
 oP 3 14 (.call 96 [.t 12,.t 13] [.c (.sl 2),.c (.int .i64),.c (.bool)]),
 mV 4 10 14,
 oP 5 15 (.ext 10 0),
 oP 6 16 (.ext 10 1),
 oP 7 17 (.ext 10 2),
 mV 8 7 15,
 mV 9 8 16,
 mV 10 9 17]) (.seq (.seq (.region [mV 0 18 9,
 oP 1 19 (.not (.t 18)),
 mV 2 20 19,
 ⟨3,some 21,.faddr 2 0,some (20,false)⟩,
 ⟨4,some 22,.ldL 21 54 (.c (.int .i64)),some (20,false)⟩,
 ⟨5,some 23,.cmp .lss .i64 (.t 22) (kI 1),some (20,false)⟩,
 oP 6 24 (.pick (.t 20) (kB true) (.t 23)),
 mV 7 25 24,
 ⟨8,some 26,.move (.t 8),some (25,false)⟩,
 ⟨9,some 27,.cmp .lss .i64 (.t 26) (kI 0),some (25,false)⟩,
 oP 10 28 (.pick (.t 25) (kB true) (.t 27)),
 mV 11 29 28,
 ⟨12,some 30,.move (.t 8),some (29,false)⟩,
 ⟨13,some 31,.faddr 2 1,some (29,false)⟩,
 ⟨14,some 32,.faddr 31 0,some (29,false)⟩,
 ⟨15,some 33,.ldL 32 54 (.c (.sl 2)),some (29,false)⟩,
 ⟨16,some 34,.len (.t 33),some (29,false)⟩,
 ⟨17,some 35,.cmp .geq .i64 (.t 30) (.t 34),some (29,false)⟩,
 oP 18 36 (.pick (.t 29) (kB true) (.t 35))]) (.cut [1,2,4,7,8,36,54,55] c7)) c13))) }
def k13:Kont:=execC M.j C (M.ag C) c13 ({ exits:=[],ret:=retK d }:Env) (retK d)
def J7 (a:Int) (b c e:Nat) (f:Int) (g:Bool) (h:Int) (i k l m n o:Nat) (p:Int) (q r s t v w:Nat) (G:GH):Option Res:=M.j (execC M.j C (M.ag C) c7 ({ exits:=[],ret:=retK d }:Env) (k13 M C)) (uS 1 (vI a::(.ref 54 0::(uS 1 (.ref 55 0::(uS 2 (vS 2 b c e::(vI f::(uS 27 (vB g::(uS 17 (.box [.int .i64 h,.sl 2 i k l,.sl 2 m n o]::(.box [.int .i64 p,.sl 2 q r s,.sl 2 t v w]::[]))))))))))))) G
theorem J7_eq (l:Int) (m n o:Nat) (e:Int) (p:Bool) (b:Int) (f g h q r s:Nat) (x:Int) (y z A B D E:Nat) (G:GH):J7 M C l m n o e p b f g h q r s x y z A B D E G=(bif p then (C F86.id [.agg [.int .i64 b,.sl 2 f g h,.sl 2 q r s]] G).bind fun t=>((t.1[0]?).bind V1.a?).bind fun d=>if d.length=3 then (((d[0]?).bind (Cell.asI .i64)).bind fun F=>((d[1]?).bind (Cell.asS 2)).bind fun i=>((d[2]?).bind (Cell.asS 2)).bind fun j=>some ([.agg [.int .i64 F,.sl 2 i.1 i.2.1 i.2.2,.sl 2 j.1 j.2.1 j.2.2],.c (.int .i64 0),.c (.bool false)],t.2)) else none else (binD .quo .i64 l b).bind fun H=>(binD .shl .i64 1 (IntKind.u64.wrap e)).bind fun I=>(C F97.id [.agg [.sl 2 f g h],.c (.int .i64 H),.c (.int .i64 I),.c (.bool false)] G).bind fun v=>((v.1[0]?).bind V1.a?).bind fun w=>if w.length=1 then (((w[0]?).bind (Cell.asS 2)).bind fun k=>some ([.agg [.int .i64 b,.sl 2 k.1 k.2.1 k.2.2,.sl 2 m n o],.c (.int .i64 e),.c (.bool true)],v.2)) else none):=(M.hj _ _ _).trans (by kernel_rfl)
def f (e:Int) (l m g h i j:Nat) (k:Int) (G:GH):Option Res:=(C F101.id [.c (.sl 2 h i j),.c (.int .i64 k)] G).bind fun b=>(((b.1[0]?).bind V1.c?).bind (Cell.asS 2)).bind fun a=>(((b.1[1]?).bind V1.c?).bind (Cell.asI .i64)).bind fun d=>(((b.1[2]?).bind V1.c?).bind Cell.asB).bind fun n=>bif (!n) then J7 M C k a.1 a.2.1 a.2.2 d true e l m g h i j 0 0 0 0 0 0 0 b.2 else bif decide (e<1) then J7 M C k a.1 a.2.1 a.2.2 d true e l m g h i j 0 0 0 0 0 0 0 b.2 else bif decide (d<0) then J7 M C k a.1 a.2.1 a.2.2 d true e l m g h i j 0 0 0 0 0 0 0 b.2 else J7 M C k a.1 a.2.1 a.2.2 d (decide (d≥((g:Nat):Int))) e l m g h i j 0 0 0 0 0 0 0 b.2
theorem eq (a:Int) (b e g h i j:Nat) (k:Int) (G:GH):runF M C d [.agg [.int .i64 a,.sl 2 b e g,.sl 2 h i j],.c (.int .i64 k)] G=f M C a b e g h i j k G:=by kernel_rfl
end F61
namespace F91
def c6:DCode:=(.cond (.t 29) (.seq (.region [oP 0 30 (.ldL 4 47 (.agg [.sl 2])),
 ⟨1,none,.stL 4 47 (.t 30) 1,none⟩]) .ret) .skip)
def c20:DCode:=(.seq (.region [oP 0 33 (.cmp .lss .i64 (.t 32) (.t 31))]) (.seq (.cond (.t 33) .skip (.exit 0)) (.seq (.block 1 (.seq (.region [mV 0 34 32,
 mV 1 5 34]) (.region [oP 0 35 (.faddr 4 0),
 oP 1 36 (.ldL 35 47 (.c (.sl 2))),
 mV 2 37 0,
 mV 3 38 5,
 oP 4 39 (.conv .u64 (.t 38)),
 oP 5 40 (.bin .shr .i64 (.t 37) (.t 39)),
 oP 6 41 (.call 60 [.t 40] [.agg [.int .i64,.sl 1]]),
 oP 7 42 (.bslice 1 2 [.int .i64 0,.sl 1 0 0 0] [(0,2,.t 41)]),
 oP 8 43 (.app (.t 36) (.t 42) 2 32),
 oP 9 44 (.faddr 4 0),
 ⟨10,none,.stL 44 47 (.t 43) 1,none⟩]))) (.region [oP 0 45 (.bin .add .i64 (.t 32) (kI 1)),
 mV 1 32 45]))))
def c26:DCode:=(.seq (.region [oP 0 46 (.ldL 4 47 (.agg [.sl 2])),
 ⟨1,none,.stL 4 47 (.t 46) 1,none⟩]) .ret)
def c27:DCode:=(.seq (.seq (.region [mV 0 31 1,
 oP 1 32 (.move (kI 0))]) (.block 0 (.loop [0,4,31,32,47] c20))) c26)
def d:DFn:={ ntmps:=48,res:=[.box 4 (some 1)],body:=(.seq (.region [oP 0 4 (.boxz 47 [35,44] [.sl 2 0 0 0])]) (.seq (.seq (.region [mV 0 6 1,
 oP 1 7 (.cmp .lss .i64 (.t 6) (kI 1)),
 mV 2 8 7,
 ⟨3,some 9,.move (.t 1),some (8,false)⟩,
 ⟨4,some 10,.cmp .gtr .i64 (.t 9) (kI 17),some (8,false)⟩,
 oP 5 11 (.pick (.t 8) (kB true) (.t 10)),
 mV 6 12 11,
 ⟨7,some 13,.move (.t 0),some (12,false)⟩,
 ⟨8,some 14,.cmp .lss .i64 (.t 13) (kI 1),some (12,false)⟩,
 oP 9 15 (.pick (.t 12) (kB true) (.t 14)),
 mV 10 16 15,
 ⟨11,some 17,.move (.t 0),some (16,false)⟩,
 ⟨12,some 18,.cmp .gtr .i64 (.t 17) (kI 65536),some (16,false)⟩,
 oP 13 19 (.pick (.t 16) (kB true) (.t 18)),
 mV 14 20 19,
 ⟨15,some 21,.move (.t 0),some (20,false)⟩,
 ⟨16,some 22,.move (.t 1),some (20,false)⟩,
 ⟨17,some 23,.bin .sub .i64 (.t 22) (kI 1),some (20,false)⟩,
 ⟨18,some 24,.conv .u64 (.t 23),some (20,false)⟩,
 ⟨19,some 25,.bin .shl .i64 (kI 1) (.t 24),some (20,false)⟩,
 ⟨20,some 26,.bin .sub .i64 (.t 25) (kI 1),some (20,false)⟩,
 ⟨21,some 27,.bin .and .i64 (.t 21) (.t 26),some (20,false)⟩,
 ⟨22,some 28,.cmp .neq .i64 (.t 27) (kI 0),some (20,false)⟩,
 oP 23 29 (.pick (.t 20) (kB true) (.t 28))]) (.cut [0,1,4,29,47] c6)) c27)) }
def k27:Kont:=execC M.j C (M.ag C) c27 ({ exits:=[],ret:=retK d }:Env) (retK d)
def J6 (a b:Int) (c:Bool) (e f g:Nat) (G:GH):Option Res:=M.j (execC M.j C (M.ag C) c6 ({ exits:=[],ret:=retK d }:Env) (k27 M C)) (vI a::(vI b::(uS 2 (.ref 47 0::(uS 24 (vB c::(uS 17 (.box [.sl 2 e f g]::[])))))))) G
def k26:Kont:=execC M.j C (M.ag C) c26 ({ exits:=[],ret:=retK d }:Env) (retK d)
def e22:Env:={ exits:=(0,(k26 M C))::(({ exits:=[],ret:=retK d }:Env)).exits,ret:=(({ exits:=[],ret:=retK d }:Env)).ret }
def L21 (a b c:Int) (d e f:Nat) (G:GH):Option Res:=M.ag C [0,4,31,32,47] c20 (e22 M C) (k26 M C) (vI a::(uS 3 (.ref 47 0::(uS 26 (vI b::(vI c::(uS 14 (.box [.sl 2 d e f]::[])))))))) G
theorem J6_eq (d e:Int) (f:Bool) (a b c:Nat) (G:GH):J6 M C d e f a b c G=(bif f then some ([.agg [.sl 2 a b c]],G) else L21 M C d e 0 a b c G):=(M.hj _ _ _).trans (by kernel_rfl)
theorem L21_eq (e f d:Int) (g h b:Nat) (G:GH):L21 M C e f d g h b G=(bif decide (d<f) then (binD .shr .i64 e (IntKind.u64.wrap d)).bind fun n=>(C F106.id [.c (.int .i64 n)] G).bind fun i=>((i.1[0]?).bind V1.a?).bind fun j=>if j.length=2 then (((j[0]?).bind (Cell.asI .i64)).bind fun o=>((j[1]?).bind (Cell.asS 1)).bind fun k=>let m:=i.2.alloc (.row [.int .i64 o,.sl 1 k.1 k.2.1 k.2.2] false);(if 1=0 then some [] else m.lds i.2.next 0 (1*2)).bind fun p=>guardK (decide (b+1≤most)) ((m.app g h b 2 1 p).bind fun l=>L21 M C e f (IntKind.i64.wrap (d+1)) l.1 l.2.1 (b+1) l.2.2)) else none else some ([.agg [.sl 2 g h b]],G)):=(M.hs _ _ _ _ _ _ _).trans (by kernel_rfl)
def f (a b:Int) (G:GH):Option Res:=bif decide (b<1) then J6 M C a b true 0 0 0 G else bif decide (b>17) then J6 M C a b true 0 0 0 G else bif decide (a<1) then J6 M C a b true 0 0 0 G else bif decide (a>65536) then J6 M C a b true 0 0 0 G else (binD .shl .i64 1 (IntKind.u64.wrap (IntKind.i64.wrap (b-1)))).bind fun c=>J6 M C a b (!decide (IntKind.i64.wrap (((BitVec.ofInt IntKind.i64.bits a) &&& (BitVec.ofInt IntKind.i64.bits (IntKind.i64.wrap (c-1)))).toNat:Int)=0)) 0 0 0 G
theorem eq (a b:Int) (G:GH):runF M C d [.c (.int .i64 a),.c (.int .i64 b)] G=f M C a b G:=by kernel_rfl
end F91
namespace F19
def c7:DCode:=(.cond (.t 24) (.seq (.region [oP 0 6 (.move (kI 0)),
 oP 1 7 (.move (kI 3))]) .ret) .skip)
def c14:DCode:=(.cond (.t 32) (.seq (.region [oP 0 6 (.move (kI 0)),
 oP 1 7 (.move (kI 4))]) .ret) .skip)
def c20:DCode:=(.seq (.region [mV 0 34 1,
 mV 1 35 2,
 oP 2 36 (.mx (.t 34) [.t 35]),
 oP 3 37 (.faddr 3 0),
 oP 4 38 (.ldL 37 44 (.c (.int .i64))),
 oP 5 39 (.mx (.t 36) [.t 38]),
 oP 6 40 (.call 61 [.t 39] [.c (.int .i64),.c (.bool)]),
 mV 7 33 40,
 oP 8 41 (.ext 33 0),
 oP 9 42 (.ext 33 1),
 mV 10 10 41,
 mV 11 11 42]) (.seq (.region [mV 0 43 10,
 mV 1 6 43,
 oP 2 7 (.move (kI 0))]) .ret))
def c21:DCode:=(.seq (.seq (.region [mV 0 25 1,
 oP 1 26 (.cmp .lss .i64 (.t 25) (kI 0)),
 mV 2 27 26,
 ⟨3,some 28,.move (.t 1),some (27,false)⟩,
 ⟨4,some 29,.faddr 3 1,some (27,false)⟩,
 ⟨5,some 30,.ldL 29 44 (.c (.int .i64)),some (27,false)⟩,
 ⟨6,some 31,.cmp .gtr .i64 (.t 28) (.t 30),some (27,false)⟩,
 oP 7 32 (.pick (.t 27) (kB true) (.t 31))]) (.cut [1,2,3,32,44] c14)) c20)
def d:DFn:={ ntmps:=45,res:=[.t 6,.t 7],body:=(.seq (.region [oP 0 3 (.boxv 44 [21,29,37] (.t 0) 8),
 oP 1 6 (.move (kI 0)),
 oP 2 7 (.move (kI 0))]) (.seq (.region [mV 0 13 2,
 oP 1 14 (.call 63 [.t 13] [.c (.int .i64),.c (.bool)]),
 mV 2 12 14,
 oP 3 15 (.ext 12 0),
 oP 4 16 (.ext 12 1),
 mV 5 8 15,
 mV 6 9 16]) (.seq (.seq (.region [mV 0 17 9,
 oP 1 18 (.not (.t 17)),
 mV 2 19 18,
 ⟨3,some 20,.move (.t 2),some (19,false)⟩,
 ⟨4,some 21,.faddr 3 1,some (19,false)⟩,
 ⟨5,some 22,.ldL 21 44 (.c (.int .i64)),some (19,false)⟩,
 ⟨6,some 23,.cmp .gtr .i64 (.t 20) (.t 22),some (19,false)⟩,
 oP 7 24 (.pick (.t 19) (kB true) (.t 23))]) (.cut [1,2,3,24,44] c7)) c21))) }
def k21:Kont:=execC M.j C (M.ag C) c21 ({ exits:=[],ret:=retK d }:Env) (retK d)
def J7 (a b:Int) (c:Bool) (e f g h i k l m:Int) (G:GH):Option Res:=M.j (execC M.j C (M.ag C) c7 ({ exits:=[],ret:=retK d }:Env) (k21 M C)) (uS 1 (vI a::(vI b::(.ref 44 0::(uS 20 (vB c::(uS 19 (.box [.int .i64 e,.int .i64 f,.int .i64 g,.int .i64 h,.int .i64 i,.int .i64 k,.int .i64 l,.int .i64 m]::[])))))))) G
def k20:Kont:=execC M.j C (M.ag C) c20 ({ exits:=[],ret:=retK d }:Env) (retK d)
def J14 (a b:Int) (c:Bool) (e f g h i k l m:Int) (G:GH):Option Res:=M.j (execC M.j C (M.ag C) c14 ({ exits:=[],ret:=retK d }:Env) (k20 M C)) (uS 1 (vI a::(vI b::(.ref 44 0::(uS 28 (vB c::(uS 11 (.box [.int .i64 e,.int .i64 f,.int .i64 g,.int .i64 h,.int .i64 i,.int .i64 k,.int .i64 l,.int .i64 m]::[])))))))) G
theorem J7_eq (a d:Int) (l:Bool) (e b f g h i j k:Int) (G:GH):J7 M C a d l e b f g h i j k G=(bif l then some ([.c (.int .i64 0),.c (.int .i64 3)],G) else bif decide (a<0) then J14 M C a d true e b f g h i j k G else J14 M C a d (decide (a>b)) e b f g h i j k G):=(M.hj _ _ _).trans (by kernel_rfl)
theorem J14_eq (b d:Int) (e:Bool) (f g h i j k l m:Int) (G:GH):J14 M C b d e f g h i j k l m G=(bif e then some ([.c (.int .i64 0),.c (.int .i64 4)],G) else (C F62.id [.c (.int .i64 (mx2 (mx2 b d) f))] G).bind fun a=>(((a.1[0]?).bind V1.c?).bind (Cell.asI .i64)).bind fun n=>(((a.1[1]?).bind V1.c?).bind Cell.asB).bind fun o=>some ([.c (.int .i64 n),.c (.int .i64 0)],a.2)):=(M.hj _ _ _).trans (by kernel_rfl)
def f (e d g h i j k l m a:Int) (G:GH):Option Res:=(C F53.id [.c (.int .i64 a)] G).bind fun b=>(((b.1[0]?).bind V1.c?).bind (Cell.asI .i64)).bind fun o=>(((b.1[1]?).bind V1.c?).bind Cell.asB).bind fun n=>bif (!n) then J7 M C m a true e d g h i j k l b.2 else J7 M C m a (decide (a>d)) e d g h i j k l b.2
theorem eq (a b e g h i j k l m:Int) (G:GH):runF M C d [.agg [.int .i64 a,.int .i64 b,.int .i64 e,.int .i64 g,.int .i64 h,.int .i64 i,.int .i64 j,.int .i64 k],.c (.int .i64 l),.c (.int .i64 m)] G=f M C a b e g h i j k l m G:=by kernel_rfl
end F19
namespace F96
def c14:DCode:=(.region [oP 0 37 (.ldL 4 43 (.agg [.int .i64,.sl 1])),
 mV 1 38 1,
 mV 2 39 8,
 oP 3 40 (.bin .quo .i64 (.t 39) (kI 64)),
 mV 4 41 10,
 oP 5 42 (.call 117 [.t 37,.t 38,.t 40,.t 41] [])])
def c19:DCode:=(.region [mV 0 15 8,
 oP 1 16 (.bin .add .i64 (.t 15) (kI 1)),
 mV 2 8 16])
def c21:DCode:=(.seq (.seq (.region [mV 0 12 8,
 mV 1 13 3,
 oP 2 14 (.cmp .leq .i64 (.t 12) (.t 13))]) (.cond (.t 14) .skip (.exit 0))) (.seq (.block 1 (.seq (.region [mV 0 17 8,
 oP 1 18 (.conv .u64 (.t 17)),
 oP 2 19 (.bin .rem .u64 (.t 18) (.k (.c (.int .u64 64)))),
 oP 3 20 (.bin .shl .u64 (.k (.c (.int .u64 1))) (.t 19)),
 mV 4 9 20]) (.seq (.region [oP 0 21 (.ldL 4 43 (.agg [.int .i64,.sl 1])),
 mV 1 22 1,
 mV 2 23 8,
 oP 3 24 (.bin .quo .i64 (.t 23) (kI 64)),
 oP 4 25 (.call 116 [.t 21,.t 22,.t 24] [.c (.int .u64)]),
 mV 5 26 9,
 oP 6 27 (.bin .andNot .u64 (.t 25) (.t 26)),
 mV 7 10 27]) (.seq (.seq (.region [oP 0 28 (.ldL 4 43 (.agg [.int .i64,.sl 1])),
 mV 1 29 1,
 oP 2 30 (.bin .sub .i64 (.t 29) (kI 1)),
 mV 3 31 8,
 oP 4 32 (.call 116 [.t 28,.t 30,.t 31] [.c (.int .u64)]),
 oP 5 33 (.cmp .eql .u64 (.t 32) (.k (.c (.int .u64 18446744073709551615))))]) (.cond (.t 33) (.region [mV 0 34 10,
 mV 1 35 9,
 oP 2 36 (.bin .or .u64 (.t 34) (.t 35)),
 mV 3 10 36]) .skip)) (.cut [1,3,4,8,10,43] c14))))) c19))
def c22:DCode:=(.loop [1,3,4,8,43] c21)
def d:DFn:={ ntmps:=44,res:=[],body:=(.seq (.region [oP 0 4 (.boxv 43 [] (.t 0) 2)]) (.seq (.region [mV 0 11 2,
 mV 1 8 11]) (.block 0 c22))) }
def e23 (M:Mach) (C:Call):Env:={ exits:=(0,(retK d))::(({ exits:=[],ret:=retK d }:Env)).exits,ret:=(({ exits:=[],ret:=retK d }:Env)).ret }
def L22 (a b c e:Int) (f g h:Nat) (G:GH):Option Res:=M.ag C [1,3,4,8,43] c21 (e23 M C) (retK d) (uS 1 (vI a::(uS 1 (vI b::(.ref 43 0::(uS 3 (vI c::(uS 34 (.box [.int .i64 e,.sl 1 f g h]::[]))))))))) G
def k22:Kont:=fun tm G=>M.ag C [1,3,4,8,43] c21 (e23 M C) (retK d) (restr [1,3,4,8,43] 0 tm) G
def k19:Kont:=execC M.j C (M.ag C) c19 (e23 M C) (k22 M C)
def e18:Env:={ exits:=(1,(k19 M C))::((e23 M C)).exits,ret:=((e23 M C)).ret }
def J14 (a b d e f:Int) (g h i:Nat) (G:GH):Option Res:=M.j (execC M.j C (M.ag C) c14 (e18 M C) (k19 M C)) (uS 1 (vI a::(uS 1 (vI b::(.ref 43 0::(uS 3 (vI d::(uS 1 (.v (.c (.int .u64 e))::(uS 32 (.box [.int .i64 f,.sl 1 g h i]::[]))))))))))) G
theorem L22_eq (b h a d:Int) (e f g:Nat) (G:GH):L22 M C b h a d e f g G=(bif decide (a≤h) then (binD .shl .u64 1 (Int.tmod (IntKind.u64.wrap a) 64)).bind fun i=>(C F119.id [.agg [.int .i64 d,.sl 1 e f g],.c (.int .i64 b),.c (.int .i64 (IntKind.i64.wrap (Int.tdiv a 64)))] G).bind fun k=>(((k.1[0]?).bind V1.c?).bind (Cell.asI .u64)).bind fun l=>(C F119.id [.agg [.int .i64 d,.sl 1 e f g],.c (.int .i64 (IntKind.i64.wrap (b-1))),.c (.int .i64 a)] k.2).bind fun j=>(((j.1[0]?).bind V1.c?).bind (Cell.asI .u64)).bind fun m=>bif decide (m=18446744073709551615) then J14 M C b h a (IntKind.u64.wrap (((BitVec.ofInt IntKind.u64.bits (IntKind.u64.wrap (((BitVec.ofInt IntKind.u64.bits l) &&& ~~~ (BitVec.ofInt IntKind.u64.bits i)).toNat:Int))) ||| (BitVec.ofInt IntKind.u64.bits i)).toNat:Int)) d e f g j.2 else J14 M C b h a (IntKind.u64.wrap (((BitVec.ofInt IntKind.u64.bits l) &&& ~~~ (BitVec.ofInt IntKind.u64.bits i)).toNat:Int)) d e f g j.2 else some ([],G)):=(M.hs _ _ _ _ _ _ _).trans (by kernel_rfl)
theorem J14_eq (a h b i d:Int) (e f g:Nat) (G:GH):J14 M C a h b i d e f g G=((C F108.id [.agg [.int .i64 d,.sl 1 e f g],.c (.int .i64 a),.c (.int .i64 (IntKind.i64.wrap (Int.tdiv b 64))),.c (.int .u64 i)] G).bind fun j=>L22 M C a h (IntKind.i64.wrap (b+1)) d e f g j.2):=(M.hj _ _ _).trans (by kernel_rfl)
def f (a:Int) (b c d:Nat) (e g h:Int) (G:GH):Option Res:=L22 M C e h g a b c d G
theorem eq (a:Int) (b e g:Nat) (h i j:Int) (G:GH):runF M C d [.agg [.int .i64 a,.sl 1 b e g],.c (.int .i64 h),.c (.int .i64 i),.c (.int .i64 j)] G=f M C a b e g h i j G:=by kernel_rfl
end F96
namespace F68
def c16:DCode:=(.seq (.seq (.region [mV 0 15 9,
 mV 1 16 10,
 oP 2 17 (.cmp .lss .i64 (.t 15) (.t 16))]) (.cond (.t 17) .skip (.exit 0))) (.block 1 (.seq (.region [mV 0 18 9,
 mV 1 19 10,
 oP 2 20 (.bin .add .i64 (.t 18) (.t 19)),
 oP 3 21 (.conv .u64 (.t 20)),
 oP 4 22 (.bin .shr .u64 (.t 21) (.k (.c (.int .u64 1)))),
 oP 5 23 (.conv .i64 (.t 22)),
 mV 6 11 23]) (.seq (.region [mV 0 24 2,
 mV 1 25 0,
 mV 2 26 11,
 oP 3 27 (.iaddr (.t 25) (.t 26) 2),
 oP 4 28 (.ldG 27 (.agg (iS 2))),
 mV 5 29 1,
 oP 6 30 (.callT (.t 24) [.t 28,.t 29] [.c (.int .i64)]),
 oP 7 31 (.cmp .lss .i64 (.t 30) (kI 0))]) (.cond (.t 31) (.region [mV 0 32 11,
 oP 1 33 (.bin .add .i64 (.t 32) (kI 1)),
 mV 2 9 33]) (.region [mV 0 34 11,
 mV 1 10 34]))))))
def c21:DCode:=(.seq (.region [mV 0 35 9,
 mV 1 36 9,
 mV 2 37 8,
 oP 3 38 (.cmp .lss .i64 (.t 36) (.t 37)),
 mV 4 39 38,
 ⟨5,some 40,.move (.t 2),some (39,true)⟩,
 ⟨6,some 41,.move (.t 0),some (39,true)⟩,
 ⟨7,some 42,.move (.t 9),some (39,true)⟩,
 ⟨8,some 43,.iaddr (.t 41) (.t 42) 2,some (39,true)⟩,
 ⟨9,some 44,.ldG 43 (.agg (iS 2)),some (39,true)⟩,
 ⟨10,some 45,.move (.t 1),some (39,true)⟩,
 ⟨11,some 46,.callT (.t 40) [.t 44,.t 45] [.c (.int .i64)],some (39,true)⟩,
 ⟨12,some 47,.cmp .eql .i64 (.t 46) (kI 0),some (39,true)⟩,
 oP 13 48 (.pick (.t 39) (.t 47) (kB false)),
 mV 14 6 35,
 mV 15 7 48]) .ret)
def d:DFn:={ ntmps:=49,res:=[.t 6,.t 7],body:=(.seq (.region [oP 0 6 (.move (kI 0)),
 oP 1 7 (.move (kB false))]) (.seq (.region [mV 0 12 0,
 oP 1 13 (.len (.t 12)),
 mV 2 8 13]) (.seq (.region [mV 0 14 8,
 oP 1 9 (.move (kI 0)),
 mV 2 10 14]) (.seq (.block 0 (.loop [0,1,2,8,9,10] c16)) c21)))) }
def k21:Kont:=execC M.j C (M.ag C) c21 ({ exits:=[],ret:=retK d }:Env) (retK d)
def e18:Env:={ exits:=(0,(k21 M C))::(({ exits:=[],ret:=retK d }:Env)).exits,ret:=(({ exits:=[],ret:=retK d }:Env)).ret }
def L17 (a b d:Nat) (e:Int) (f:Nat) (g h i:Int) (G:GH):Option Res:=M.ag C [0,1,2,8,9,10] c16 (e18 M C) (k21 M C) (vS 2 a b d::(vI e::(.v (.c (.fn f))::(uS 5 (vI g::(vI h::(vI i::(uS 38 [])))))))) G
theorem L17_eq (d e f:Nat) (g:Int) (h:Nat) (i a b:Int) (G:GH):L17 M C d e f g h i a b G=(bif decide (a<b) then guardK (decide (0≤IntKind.i64.wrap (Int.fdiv (IntKind.u64.wrap (IntKind.i64.wrap (a+b))) (2 ^ (min (1:Int).toNat IntKind.u64.bits)))∧IntKind.i64.wrap (Int.fdiv (IntKind.u64.wrap (IntKind.i64.wrap (a+b))) (2 ^ (min (1:Int).toNat IntKind.u64.bits)))<((f:Nat):Int))) (((G.ld d ((e+Int.toNat (IntKind.i64.wrap (Int.fdiv (IntKind.u64.wrap (IntKind.i64.wrap (a+b))) (2 ^ (min (1:Int).toNat IntKind.u64.bits))))*2)+0)).bind (Cell.asI .i64)).bind fun l=>((G.ld d ((e+Int.toNat (IntKind.i64.wrap (Int.fdiv (IntKind.u64.wrap (IntKind.i64.wrap (a+b))) (2 ^ (min (1:Int).toNat IntKind.u64.bits))))*2)+1)).bind (Cell.asI .i64)).bind fun m=>(C h [.agg [.int .i64 l,.int .i64 m],.c (.int .i64 g)] G).bind fun j=>chk (Nat.beq j.1.length 1) ((((j.1[0]?).bind V1.c?).bind (Cell.asI .i64)).bind fun n=>bif decide (n<0) then L17 M C d e f g h i (IntKind.i64.wrap ((IntKind.i64.wrap (Int.fdiv (IntKind.u64.wrap (IntKind.i64.wrap (a+b))) (2 ^ (min (1:Int).toNat IntKind.u64.bits))))+1)) b j.2 else L17 M C d e f g h i a (IntKind.i64.wrap (Int.fdiv (IntKind.u64.wrap (IntKind.i64.wrap (a+b))) (2 ^ (min (1:Int).toNat IntKind.u64.bits)))) j.2)) else bif decide (a<i) then guardK (decide (0≤a∧a<((f:Nat):Int))) (((G.ld d ((e+Int.toNat a*2)+0)).bind (Cell.asI .i64)).bind fun o=>((G.ld d ((e+Int.toNat a*2)+1)).bind (Cell.asI .i64)).bind fun p=>(C h [.agg [.int .i64 o,.int .i64 p],.c (.int .i64 g)] G).bind fun k=>chk (Nat.beq k.1.length 1) ((((k.1[0]?).bind V1.c?).bind (Cell.asI .i64)).bind fun q=>some ([.c (.int .i64 a),.c (.bool (decide (q=0)))],k.2))) else some ([.c (.int .i64 a),.c (.bool false)],G)):=(M.hs _ _ _ _ _ _ _).trans (by kernel_rfl)
def f (b c a:Nat) (d:Int) (e:Nat) (G:GH):Option Res:=L17 M C b c a d e ((a:Nat):Int) 0 ((a:Nat):Int) G
theorem eq (a b e:Nat) (g:Int) (h:Nat) (G:GH):runF M C d [.c (.sl 2 a b e),.c (.int .i64 g),.c (.fn h)] G=f M C a b e g h G:=by kernel_rfl
end F68
namespace F92
def c6:DCode:=(.cond (.t 21) (.seq (.region [oP 0 22 (.ldL 6 40 (.agg [.int .i64,.sl 2,.sl 2])),
 ⟨1,none,.stL 6 40 (.t 22) 3,none⟩,
 oP 2 7 (.move (kB false))]) .ret) .skip)
def c14:DCode:=(.cond (.t 35) (.seq (.region [oP 0 36 (.ldL 6 40 (.agg [.int .i64,.sl 2,.sl 2])),
 ⟨1,none,.stL 6 40 (.t 36) 3,none⟩,
 oP 2 7 (.move (kB false))]) .ret) .skip)
def c18:DCode:=(.seq (.region [mV 0 37 0,
 oP 1 38 (.ldL 8 41 (.agg [.sl 2])),
 oP 2 39 (.build [.int .i64 0,.sl 2 0 0 0,.sl 2 0 0 0] [(0,1,.t 37),(1,1,.t 38)]),
 ⟨3,none,.stL 6 40 (.t 39) 3,none⟩,
 oP 4 7 (.move (kB true))]) .ret)
def c20:DCode:=(.seq (.region [mV 0 23 1,
 mV 1 24 2,
 oP 2 25 (.call 39 [.t 23,.t 24] [.agg [.sl 2]]),
 oP 3 8 (.boxz 41 [26] [.sl 2 0 0 0]),
 ⟨4,none,.stL 8 41 (.t 25) 1,none⟩]) (.seq (.seq (.region [oP 0 26 (.faddr 8 0),
 oP 1 27 (.ldL 26 41 (.c (.sl 2))),
 oP 2 28 (.len (.t 27)),
 oP 3 29 (.cmp .eql .i64 (.t 28) (kI 0)),
 mV 4 30 29,
 ⟨5,some 31,.move (.t 1),some (30,false)⟩,
 ⟨6,some 32,.move (.t 0),some (30,false)⟩,
 ⟨7,some 33,.bin .quo .i64 (kI 65536) (.t 32),some (30,false)⟩,
 ⟨8,some 34,.cmp .gtr .i64 (.t 31) (.t 33),some (30,false)⟩,
 oP 9 35 (.pick (.t 30) (kB true) (.t 34))]) (.cut [0,6,8,35,40,41] c14)) c18))
def d:DFn:={ ntmps:=42,res:=[.box 6 (some 3),.t 7],body:=(.seq (.region [oP 0 6 (.boxz 40 [] [.int .i64 0,.sl 2 0 0 0,.sl 2 0 0 0]),
 oP 1 7 (.move (kB false))]) (.seq (.seq (.region [mV 0 9 0,
 oP 1 10 (.cmp .lss .i64 (.t 9) (kI 1)),
 mV 2 11 10,
 ⟨3,some 12,.move (.t 0),some (11,false)⟩,
 ⟨4,some 13,.cmp .gtr .i64 (.t 12) (kI 65536),some (11,false)⟩,
 oP 5 14 (.pick (.t 11) (kB true) (.t 13)),
 mV 6 15 14,
 ⟨7,some 16,.move (.t 0),some (15,false)⟩,
 ⟨8,some 17,.move (.t 0),some (15,false)⟩,
 ⟨9,some 18,.bin .sub .i64 (.t 17) (kI 1),some (15,false)⟩,
 ⟨10,some 19,.bin .and .i64 (.t 16) (.t 18),some (15,false)⟩,
 ⟨11,some 20,.cmp .neq .i64 (.t 19) (kI 0),some (15,false)⟩,
 oP 12 21 (.pick (.t 15) (kB true) (.t 20))]) (.cut [0,1,2,6,21,40] c6)) c20)) }
def k20:Kont:=execC M.j C (M.ag C) c20 ({ exits:=[],ret:=retK d }:Env) (retK d)
def J6 (a b c:Int) (e:Bool) (f:Int) (g h i k l m:Nat) (G:GH):Option Res:=M.j (execC M.j C (M.ag C) c6 ({ exits:=[],ret:=retK d }:Env) (k20 M C)) (vI a::(vI b::(vI c::(uS 3 (.ref 40 0::(uS 14 (vB e::(uS 18 (.box [.int .i64 f,.sl 2 g h i,.sl 2 k l m]::(uS 1 [])))))))))) G
def k18:Kont:=execC M.j C (M.ag C) c18 ({ exits:=[],ret:=retK d }:Env) (retK d)
def J14 (a:Int) (b:Bool) (c:Int) (e f g h i k l m n:Nat) (G:GH):Option Res:=M.j (execC M.j C (M.ag C) c14 ({ exits:=[],ret:=retK d }:Env) (k18 M C)) (vI a::(uS 5 (.ref 40 0::(uS 1 (.ref 41 0::(uS 26 (vB b::(uS 4 (.box [.int .i64 c,.sl 2 e f g,.sl 2 h i k]::(.box [.sl 2 l m n]::[])))))))))) G
theorem J6_eq (d l n:Int) (o:Bool) (e:Int) (f g h i j k:Nat) (G:GH):J6 M C d l n o e f g h i j k G=(bif o then some ([.agg [.int .i64 e,.sl 2 f g h,.sl 2 i j k],.c (.bool false)],G) else (C F91.id [.c (.int .i64 l),.c (.int .i64 n)] G).bind fun m=>((m.1[0]?).bind V1.a?).bind fun p=>if p.length=1 then (((p[0]?).bind (Cell.asS 2)).bind fun b=>bif decide (((b.2.2:Nat):Int)=0) then J14 M C d true e f g h i j k b.1 b.2.1 b.2.2 m.2 else (binD .quo .i64 65536 d).bind fun q=>J14 M C d (decide (l>q)) e f g h i j k b.1 b.2.1 b.2.2 m.2) else none):=(M.hj _ _ _).trans (by kernel_rfl)
theorem J14_eq (a:Int) (b:Bool) (d:Int) (e f g h i j k l m:Nat) (G:GH):J14 M C a b d e f g h i j k l m G=(bif b then some ([.agg [.int .i64 d,.sl 2 e f g,.sl 2 h i j],.c (.bool false)],G) else some ([.agg [.int .i64 a,.sl 2 k l m,.sl 2 0 0 0],.c (.bool true)],G)):=(M.hj _ _ _).trans (by kernel_rfl)
def f (a b c:Int) (G:GH):Option Res:=bif decide (a<1) then J6 M C a b c true 0 0 0 0 0 0 0 G else bif decide (a>65536) then J6 M C a b c true 0 0 0 0 0 0 0 G else J6 M C a b c (!decide (IntKind.i64.wrap (((BitVec.ofInt IntKind.i64.bits a) &&& (BitVec.ofInt IntKind.i64.bits (IntKind.i64.wrap (a-1)))).toNat:Int)=0)) 0 0 0 0 0 0 0 G
theorem eq (a b e:Int) (G:GH):runF M C d [.c (.int .i64 a),.c (.int .i64 b),.c (.int .i64 e)] G=f M C a b e G:=by kernel_rfl
end F92
namespace F65
def c7:DCode:=(.cond (.t 24) (.seq (.region [oP 0 6 (.move (kI 0)),
 oP 1 7 (.move (kI 3))]) .ret) .skip)
def c15:DCode:=(.cond (.t 32) (.seq (.region [oP 0 6 (.move (kI 0)),
 oP 1 7 (.move (kI 4))]) .ret) .skip)
def c21:DCode:=(.seq (.region [mV 0 34 1,
 mV 1 35 2,
 oP 2 36 (.faddr 3 0),
 oP 3 37 (.ldL 36 43 (.c (.int .i64))),
 oP 4 38 (.mx (.t 34) [.t 35,.t 37]),
 oP 5 39 (.call 37 [.t 38] [.c (.int .i64),.c (.bool)]),
 mV 6 33 39,
 oP 7 40 (.ext 33 0),
 oP 8 41 (.ext 33 1),
 mV 9 10 40,
 mV 10 11 41]) (.seq (.region [mV 0 42 10,
 mV 1 6 42,
 oP 2 7 (.move (kI 0))]) .ret))
def c22:DCode:=(.seq (.seq (.region [mV 0 25 1,
 oP 1 26 (.cmp .lss .i64 (.t 25) (kI 0)),
 mV 2 27 26,
 ⟨3,some 28,.move (.t 1),some (27,false)⟩,
 ⟨4,some 29,.faddr 3 1,some (27,false)⟩,
 ⟨5,some 30,.ldL 29 43 (.c (.int .i64)),some (27,false)⟩,
 ⟨6,some 31,.cmp .gtr .i64 (.t 28) (.t 30),some (27,false)⟩,
 oP 7 32 (.pick (.t 27) (kB true) (.t 31))]) (.cut [1,2,3,32,43] c15)) c21)
def d:DFn:={ ntmps:=44,res:=[.t 6,.t 7],body:=(.seq (.region [oP 0 3 (.boxv 43 [21,29,36] (.t 0) 8),
 oP 1 6 (.move (kI 0)),
 oP 2 7 (.move (kI 0))]) (.seq (.seq (.region [mV 0 13 2,
 oP 1 14 (.call 32 [.t 13] [.c (.int .i64),.c (.bool)]),
 mV 2 12 14,
 oP 3 15 (.ext 12 0),
 oP 4 16 (.ext 12 1),
 mV 5 8 15,
 mV 6 9 16]) (.seq (.region [mV 0 17 9,
 oP 1 18 (.not (.t 17)),
 mV 2 19 18,
 ⟨3,some 20,.move (.t 2),some (19,false)⟩,
 ⟨4,some 21,.faddr 3 1,some (19,false)⟩,
 ⟨5,some 22,.ldL 21 43 (.c (.int .i64)),some (19,false)⟩,
 ⟨6,some 23,.cmp .gtr .i64 (.t 20) (.t 22),some (19,false)⟩,
 oP 7 24 (.pick (.t 19) (kB true) (.t 23))]) (.cut [1,2,3,24,43] c7))) c22)) }
def k22:Kont:=execC M.j C (M.ag C) c22 ({ exits:=[],ret:=retK d }:Env) (retK d)
def J7 (a b:Int) (c:Bool) (e f g h i k l m:Int) (G:GH):Option Res:=M.j (execC M.j C (M.ag C) c7 ({ exits:=[],ret:=retK d }:Env) (k22 M C)) (uS 1 (vI a::(vI b::(.ref 43 0::(uS 20 (vB c::(uS 18 (.box [.int .i64 e,.int .i64 f,.int .i64 g,.int .i64 h,.int .i64 i,.int .i64 k,.int .i64 l,.int .i64 m]::[])))))))) G
def k21:Kont:=execC M.j C (M.ag C) c21 ({ exits:=[],ret:=retK d }:Env) (retK d)
def J15 (a b:Int) (c:Bool) (e f g h i k l m:Int) (G:GH):Option Res:=M.j (execC M.j C (M.ag C) c15 ({ exits:=[],ret:=retK d }:Env) (k21 M C)) (uS 1 (vI a::(vI b::(.ref 43 0::(uS 28 (vB c::(uS 10 (.box [.int .i64 e,.int .i64 f,.int .i64 g,.int .i64 h,.int .i64 i,.int .i64 k,.int .i64 l,.int .i64 m]::[])))))))) G
theorem J7_eq (a d:Int) (l:Bool) (e b f g h i j k:Int) (G:GH):J7 M C a d l e b f g h i j k G=(bif l then some ([.c (.int .i64 0),.c (.int .i64 3)],G) else bif decide (a<0) then J15 M C a d true e b f g h i j k G else J15 M C a d (decide (a>b)) e b f g h i j k G):=(M.hj _ _ _).trans (by kernel_rfl)
theorem J15_eq (b d:Int) (e:Bool) (f g h i j k l m:Int) (G:GH):J15 M C b d e f g h i j k l m G=(bif e then some ([.c (.int .i64 0),.c (.int .i64 4)],G) else (C F117.id [.c (.int .i64 (mx2 (mx2 b d) f))] G).bind fun a=>(((a.1[0]?).bind V1.c?).bind (Cell.asI .i64)).bind fun n=>(((a.1[1]?).bind V1.c?).bind Cell.asB).bind fun o=>some ([.c (.int .i64 n),.c (.int .i64 0)],a.2)):=(M.hj _ _ _).trans (by kernel_rfl)
def f (e d g h i j k l m a:Int) (G:GH):Option Res:=(C F104.id [.c (.int .i64 a)] G).bind fun b=>(((b.1[0]?).bind V1.c?).bind (Cell.asI .i64)).bind fun o=>(((b.1[1]?).bind V1.c?).bind Cell.asB).bind fun n=>bif (!n) then J7 M C m a true e d g h i j k l b.2 else J7 M C m a (decide (a>d)) e d g h i j k l b.2
theorem eq (a b e g h i j k l m:Int) (G:GH):runF M C d [.agg [.int .i64 a,.int .i64 b,.int .i64 e,.int .i64 g,.int .i64 h,.int .i64 i,.int .i64 j,.int .i64 k],.c (.int .i64 l),.c (.int .i64 m)] G=f M C a b e g h i j k l m G:=by kernel_rfl
end F65
namespace F107
def d:DFn:={ ntmps:=54,res:=[.t 2,.t 3],body:=(.seq (.region [oP 0 1 (.boxv 52 [] (.t 0) 6),
 oP 1 2 (.move (.k (.c (.ptr 0 0)))),
 oP 2 3 (.move (kI 0))]) (.seq (.region [oP 0 8 (.ldL 1 52 (.agg (iS 6))),
 oP 1 9 (.call 20 [.t 8] [.agg (iS 8),.c (.int .i64)]),
 mV 2 7 9,
 oP 3 10 (.ext 7 0),
 oP 4 11 (.ext 7 1),
 oP 5 4 (.boxz 53 [17,19,23,25,29,36,38,40,43] (zI 8)),
 ⟨6,none,.stL 4 53 (.t 10) 8,none⟩,
 mV 7 5 11]) (.seq (.seq (.region [mV 0 12 5,
 oP 1 13 (.cmp .neq .i64 (.t 12) (kI 0))]) (.cond (.t 13) (.seq (.region [mV 0 14 5,
 oP 1 2 (.move (.k (.c (.ptr 0 0)))),
 mV 2 3 14]) .ret) .skip)) (.seq (.region [oP 0 15 (.ldL 4 53 (.agg (iS 8))),
 oP 1 16 (.mkmap (.agg [.int .i64])),
 oP 2 17 (.faddr 4 6),
 oP 3 18 (.ldL 17 53 (.c (.int .i64))),
 oP 4 19 (.faddr 4 4),
 oP 5 20 (.ldL 19 53 (.c (.int .i64))),
 oP 6 21 (.bin .quo .i64 (.t 18) (.t 20)),
 oP 7 22 (.mkslice (.t 21) 1 8 [.int .i64 0]),
 oP 8 23 (.faddr 4 6),
 oP 9 24 (.ldL 23 53 (.c (.int .i64))),
 oP 10 25 (.faddr 4 4),
 oP 11 26 (.ldL 25 53 (.c (.int .i64))),
 oP 12 27 (.bin .quo .i64 (.t 24) (.t 26)),
 oP 13 28 (.mkslice (.t 27) 1 1 [.bool false]),
 oP 14 29 (.faddr 4 6),
 oP 15 30 (.ldL 29 53 (.c (.int .i64))),
 oP 16 31 (.mkslice (.t 30) 1 1 [.int .u8 0]),
 oP 17 32 (.build [.int .i64 0,.int .i64 0,.int .i64 0,.int .i64 0,.int .i64 0,.int .i64 0,.int .i64 0,.int .i64 0,.int .i64 0,.sl 2 0 0 0,.sl 2 0 0 0,.map 0,.int .i64 0,.int .i64 0,.int .i64 0,.sl 1 0 0 0,.sl 1 0 0 0,.sl 1 0 0 0] [(0,8,.t 15),(11,1,.t 16),(15,1,.t 22),(16,1,.t 28),(17,1,.t 31)]),
 oP 18 33 (.newv (.t 32) 18),
 mV 19 6 33]) (.seq (.region [mV 0 35 6,
 oP 1 36 (.faddr 4 0),
 oP 2 37 (.ldL 36 53 (.c (.int .i64))),
 oP 3 38 (.faddr 4 6),
 oP 4 39 (.ldL 38 53 (.c (.int .i64))),
 oP 5 40 (.faddr 4 0),
 oP 6 41 (.ldL 40 53 (.c (.int .i64))),
 oP 7 42 (.bin .quo .i64 (.t 39) (.t 41)),
 oP 8 43 (.faddr 4 3),
 oP 9 44 (.ldL 43 53 (.c (.int .i64))),
 oP 10 45 (.bin .add .i64 (.t 44) (kI 1)),
 oP 11 46 (.call 21 [.t 37,.t 42,.t 45] [.agg [.int .i64,.sl 2,.sl 2],.c (.bool)]),
 mV 12 34 46,
 oP 13 47 (.ext 34 0),
 oP 14 48 (.ext 34 1),
 oP 15 49 (.nilck (.t 35)),
 oP 16 50 (.faddr 49 8),
 ⟨17,none,.stG 50 (.t 47) 3,none⟩]) (.seq (.region [mV 0 51 6,
 mV 1 2 51,
 oP 2 3 (.move (kI 0))]) .ret)))))) }
def f (M:Mach) (C:Call) (v w x y z A:Int) (G:GH):Option Res:=(C F118.id [.agg [.int .i64 v,.int .i64 w,.int .i64 x,.int .i64 y,.int .i64 z,.int .i64 A]] G).bind fun e=>((e.1[0]?).bind V1.a?).bind fun b=>if b.length=8 then (((b[0]?).bind (Cell.asI .i64)).bind fun k=>((b[1]?).bind (Cell.asI .i64)).bind fun B=>((b[2]?).bind (Cell.asI .i64)).bind fun D=>((b[3]?).bind (Cell.asI .i64)).bind fun p=>((b[4]?).bind (Cell.asI .i64)).bind fun l=>((b[5]?).bind (Cell.asI .i64)).bind fun E=>((b[6]?).bind (Cell.asI .i64)).bind fun d=>((b[7]?).bind (Cell.asI .i64)).bind fun F=>(((e.1[1]?).bind V1.c?).bind (Cell.asI .i64)).bind fun q=>bif (!decide (q=0)) then some ([.c (.ptr 0 0),.c (.int .i64 q)],e.2) else let r:=e.2.alloc (.map (.agg [.int .i64]) []);(binD .quo .i64 d l).bind fun g=>guardK (decide (0≤g∧g≤(most:Int))) (let s:=r.alloc (.row (reps (Int.toNat g) [.int .i64 0]) false);(binD .quo .i64 d l).bind fun h=>guardK (decide (0≤h∧h≤(most:Int))) (let t:=s.alloc (.row (reps (Int.toNat h) [.bool false]) false);guardK (decide (0≤d∧d≤(most:Int))) (let i:=t.alloc (.row (reps (Int.toNat d) [.int .u8 0]) false);let H:=i.alloc (.row [.int .i64 k,.int .i64 B,.int .i64 D,.int .i64 p,.int .i64 l,.int .i64 E,.int .i64 d,.int .i64 F,.int .i64 0,.sl 2 0 0 0,.sl 2 0 0 0,.map e.2.next,.int .i64 0,.int .i64 0,.int .i64 0,.sl 1 r.next 0 (Int.toNat g),.sl 1 s.next 0 (Int.toNat h),.sl 1 t.next 0 (Int.toNat d)] false);(binD .quo .i64 d k).bind fun I=>(C F92.id [.c (.int .i64 k),.c (.int .i64 I),.c (.int .i64 (IntKind.i64.wrap (p+1)))] H).bind fun m=>((m.1[0]?).bind V1.a?).bind fun j=>if j.length=3 then (((j[0]?).bind (Cell.asI .i64)).bind fun J=>((j[1]?).bind (Cell.asS 2)).bind fun n=>((j[2]?).bind (Cell.asS 2)).bind fun o=>(((m.1[1]?).bind V1.c?).bind Cell.asB).bind fun L=>guardK (!Nat.beq i.next 0) ((m.2.sts i.next (0+8) [.int .i64 J,.sl 2 n.1 n.2.1 n.2.2,.sl 2 o.1 o.2.1 o.2.2]).bind fun K=>some ([.c (.ptr i.next 0),.c (.int .i64 0)],K))) else none)))) else none
theorem eq (a b c e g h:Int) (G:GH):runF M C d [.agg [.int .i64 a,.int .i64 b,.int .i64 c,.int .i64 e,.int .i64 g,.int .i64 h]] G=f M C a b c e g h G:=by kernel_rfl
end F107
namespace F55
def c6:DCode:=(.cond (.t 12) (.seq (.region [oP 0 4 (.move (kI 0)),
 oP 1 5 (.move (kB true))]) .ret) .skip)
def c14:DCode:=(.cond (.t 36) (.seq (.region [oP 0 4 (.move (kI 0)),
 oP 1 5 (.move (kB false))]) .ret) .skip)
def c18:DCode:=(.seq (.region [mV 0 37 6,
 mV 1 4 37,
 oP 2 5 (.move (kB true))]) .ret)
def c20:DCode:=(.seq (.region [mV 0 13 0,
 mV 1 14 1,
 oP 2 15 (.bin .mul .i64 (.t 13) (.t 14)),
 mV 3 6 15]) (.seq (.seq (.region [mV 0 16 0,
 oP 1 17 (.cmp .eql .i64 (.t 16) (kI (-1))),
 mV 2 18 17,
 ⟨3,some 19,.move (.t 1),some (18,true)⟩,
 ⟨4,some 20,.cmp .eql .i64 (.t 19) (kI (-9223372036854775808)),some (18,true)⟩,
 oP 5 21 (.pick (.t 18) (.t 20) (kB false)),
 mV 6 22 21,
 ⟨7,some 23,.move (.t 1),some (22,false)⟩,
 ⟨8,some 24,.cmp .eql .i64 (.t 23) (kI (-1)),some (22,false)⟩,
 ⟨9,some 25,.move (.t 24),some (22,false)⟩,
 ⟨10,some 26,.move (.t 0),some (25,true)⟩,
 ⟨11,some 27,.cmp .eql .i64 (.t 26) (kI (-9223372036854775808)),some (25,true)⟩,
 ⟨12,some 28,.pick (.t 25) (.t 27) (kB false),some (22,false)⟩,
 oP 13 29 (.pick (.t 22) (kB true) (.t 28)),
 mV 14 30 29,
 ⟨15,some 31,.move (.t 6),some (30,false)⟩,
 ⟨16,some 32,.move (.t 1),some (30,false)⟩,
 ⟨17,some 33,.bin .quo .i64 (.t 31) (.t 32),some (30,false)⟩,
 ⟨18,some 34,.move (.t 0),some (30,false)⟩,
 ⟨19,some 35,.cmp .neq .i64 (.t 33) (.t 34),some (30,false)⟩,
 oP 20 36 (.pick (.t 30) (kB true) (.t 35))]) (.cut [6,36] c14)) c18))
def d:DFn:={ ntmps:=38,res:=[.t 4,.t 5],body:=(.seq (.region [oP 0 4 (.move (kI 0)),
 oP 1 5 (.move (kB false))]) (.seq (.seq (.region [mV 0 7 0,
 oP 1 8 (.cmp .eql .i64 (.t 7) (kI 0)),
 mV 2 9 8,
 ⟨3,some 10,.move (.t 1),some (9,false)⟩,
 ⟨4,some 11,.cmp .eql .i64 (.t 10) (kI 0),some (9,false)⟩,
 oP 5 12 (.pick (.t 9) (kB true) (.t 11))]) (.cut [0,1,12] c6)) c20)) }
def k20:Kont:=execC M.j C (M.ag C) c20 ({ exits:=[],ret:=retK d }:Env) (retK d)
def J6 (a b:Int) (c:Bool) (G:GH):Option Res:=M.j (execC M.j C (M.ag C) c6 ({ exits:=[],ret:=retK d }:Env) (k20 M C)) (vI a::(vI b::(uS 10 (vB c::(uS 25 []))))) G
def k18:Kont:=execC M.j C (M.ag C) c18 ({ exits:=[],ret:=retK d }:Env) (retK d)
def J14 (a:Int) (b:Bool) (G:GH):Option Res:=M.j (execC M.j C (M.ag C) c14 ({ exits:=[],ret:=retK d }:Env) (k18 M C)) (uS 6 (vI a::(uS 29 (vB b::(uS 1 []))))) G
theorem J6_eq (a b:Int) (d:Bool) (G:GH):J6 M C a b d G=(bif d then some ([.c (.int .i64 0),.c (.bool true)],G) else bif decide (a=(-1)) then bif decide (b=(-9223372036854775808)) then J14 M C (IntKind.i64.wrap (a*b)) true G else bif decide (b=(-1)) then bif decide (a=(-9223372036854775808)) then J14 M C (IntKind.i64.wrap (a*b)) true G else (binD .quo .i64 (IntKind.i64.wrap (a*b)) b).bind fun e=>J14 M C (IntKind.i64.wrap (a*b)) (!decide (e=a)) G else (binD .quo .i64 (IntKind.i64.wrap (a*b)) b).bind fun f=>J14 M C (IntKind.i64.wrap (a*b)) (!decide (f=a)) G else bif decide (b=(-1)) then bif decide (a=(-9223372036854775808)) then J14 M C (IntKind.i64.wrap (a*b)) true G else (binD .quo .i64 (IntKind.i64.wrap (a*b)) b).bind fun g=>J14 M C (IntKind.i64.wrap (a*b)) (!decide (g=a)) G else (binD .quo .i64 (IntKind.i64.wrap (a*b)) b).bind fun h=>J14 M C (IntKind.i64.wrap (a*b)) (!decide (h=a)) G):=(M.hj _ _ _).trans (by kernel_rfl)
theorem J14_eq (a:Int) (b:Bool) (G:GH):J14 M C a b G=(bif b then some ([.c (.int .i64 0),.c (.bool false)],G) else some ([.c (.int .i64 a),.c (.bool true)],G)):=(M.hj _ _ _).trans (by kernel_rfl)
def f (a b:Int) (G:GH):Option Res:=bif decide (a=0) then J6 M C a b true G else J6 M C a b (decide (b=0)) G
theorem eq (a b:Int) (G:GH):runF M C d [.c (.int .i64 a),.c (.int .i64 b)] G=f M C a b G:=by kernel_rfl
end F55
namespace F84
def c6:DCode:=(.cond (.t 23) (.seq (.region [oP 0 4 (.move (kI 0)),
 oP 1 5 (.move (kB false))]) .ret) .skip)
def c14:DCode:=(.cond (.t 39) (.seq (.region [oP 0 4 (.move (kI 0)),
 oP 1 5 (.move (kB false))]) .ret) .skip)
def c18:DCode:=(.seq (.region [mV 0 40 6,
 mV 1 4 40,
 oP 2 5 (.move (kB true))]) .ret)
def c20:DCode:=(.seq (.region [mV 0 25 1,
 oP 1 26 (.faddr 2 0),
 oP 2 27 (.ldL 26 41 (.c (.int .i64))),
 oP 3 28 (.bin .quo .i64 (.t 25) (.t 27)),
 oP 4 29 (.call 32 [.t 28] [.c (.int .i64),.c (.bool)]),
 mV 5 24 29,
 oP 6 30 (.ext 24 0),
 oP 7 31 (.ext 24 1),
 mV 8 6 30,
 mV 9 7 31]) (.seq (.seq (.region [mV 0 32 7,
 oP 1 33 (.not (.t 32)),
 mV 2 34 33,
 ⟨3,some 35,.move (.t 6),some (34,false)⟩,
 ⟨4,some 36,.faddr 2 3,some (34,false)⟩,
 ⟨5,some 37,.ldL 36 41 (.c (.int .i64)),some (34,false)⟩,
 ⟨6,some 38,.cmp .gtr .i64 (.t 35) (.t 37),some (34,false)⟩,
 oP 7 39 (.pick (.t 34) (kB true) (.t 38))]) (.cut [6,39] c14)) c18))
def d:DFn:={ ntmps:=42,res:=[.t 4,.t 5],body:=(.seq (.region [oP 0 2 (.boxv 41 [8,13,19,26,36] (.t 0) 8),
 oP 1 4 (.move (kI 0)),
 oP 2 5 (.move (kB false))]) (.seq (.seq (.region [oP 0 8 (.faddr 2 0),
 oP 1 9 (.ldL 8 41 (.c (.int .i64))),
 oP 2 10 (.cmp .lss .i64 (.t 9) (kI 1)),
 mV 3 11 10,
 ⟨4,some 12,.move (.t 1),some (11,false)⟩,
 ⟨5,some 13,.faddr 2 0,some (11,false)⟩,
 ⟨6,some 14,.ldL 13 41 (.c (.int .i64)),some (11,false)⟩,
 ⟨7,some 15,.cmp .lss .i64 (.t 12) (.t 14),some (11,false)⟩,
 oP 8 16 (.pick (.t 11) (kB true) (.t 15)),
 mV 9 17 16,
 ⟨10,some 18,.move (.t 1),some (17,false)⟩,
 ⟨11,some 19,.faddr 2 0,some (17,false)⟩,
 ⟨12,some 20,.ldL 19 41 (.c (.int .i64)),some (17,false)⟩,
 ⟨13,some 21,.bin .rem .i64 (.t 18) (.t 20),some (17,false)⟩,
 ⟨14,some 22,.cmp .neq .i64 (.t 21) (kI 0),some (17,false)⟩,
 oP 15 23 (.pick (.t 17) (kB true) (.t 22))]) (.cut [1,2,23,41] c6)) c20)) }
def k20:Kont:=execC M.j C (M.ag C) c20 ({ exits:=[],ret:=retK d }:Env) (retK d)
def J6 (a:Int) (b:Bool) (c e f g h i k l:Int) (G:GH):Option Res:=M.j (execC M.j C (M.ag C) c6 ({ exits:=[],ret:=retK d }:Env) (k20 M C)) (uS 1 (vI a::(.ref 41 0::(uS 20 (vB b::(uS 17 (.box [.int .i64 c,.int .i64 e,.int .i64 f,.int .i64 g,.int .i64 h,.int .i64 i,.int .i64 k,.int .i64 l]::[]))))))) G
def k18:Kont:=execC M.j C (M.ag C) c18 ({ exits:=[],ret:=retK d }:Env) (retK d)
def J14 (a:Int) (b:Bool) (G:GH):Option Res:=M.j (execC M.j C (M.ag C) c14 ({ exits:=[],ret:=retK d }:Env) (k18 M C)) (uS 6 (vI a::(uS 32 (vB b::(uS 2 []))))) G
theorem J6_eq (d:Int) (e:Bool) (f h i g j k l m:Int) (G:GH):J6 M C d e f h i g j k l m G=(bif e then some ([.c (.int .i64 0),.c (.bool false)],G) else (binD .quo .i64 d f).bind fun n=>(C F104.id [.c (.int .i64 n)] G).bind fun a=>(((a.1[0]?).bind V1.c?).bind (Cell.asI .i64)).bind fun b=>(((a.1[1]?).bind V1.c?).bind Cell.asB).bind fun o=>bif (!o) then J14 M C b true a.2 else J14 M C b (decide (b>g)) a.2):=(M.hj _ _ _).trans (by kernel_rfl)
theorem J14_eq (a:Int) (b:Bool) (G:GH):J14 M C a b G=(bif b then some ([.c (.int .i64 0),.c (.bool false)],G) else some ([.c (.int .i64 a),.c (.bool true)],G)):=(M.hj _ _ _).trans (by kernel_rfl)
def f (a c d e g h i j b:Int) (G:GH):Option Res:=bif decide (a<1) then J6 M C b true a c d e g h i j G else bif decide (b<a) then J6 M C b true a c d e g h i j G else (binD .rem .i64 b a).bind fun k=>J6 M C b (!decide (k=0)) a c d e g h i j G
theorem eq (a b e g h i j k l:Int) (G:GH):runF M C d [.agg [.int .i64 a,.int .i64 b,.int .i64 e,.int .i64 g,.int .i64 h,.int .i64 i,.int .i64 j,.int .i64 k],.c (.int .i64 l)] G=f M C a b e g h i j k l G:=by kernel_rfl
end F84
namespace F112
def c10:DCode:=(.cond (.t 14) (.seq (.region [oP 0 4 (.move (kI 0)),
 oP 1 5 (.move (kB false))]) .ret) .skip)
def c12:DCode:=(.cond (.t 7) (.seq (.region [oP 0 4 (.move (kI 0)),
 oP 1 5 (.move (kB true))]) .ret) (.seq (.region [mV 0 15 0,
 oP 1 16 (.cmp .eql .i64 (.t 15) (kI (-1))),
 mV 2 17 16,
 ⟨3,some 18,.move (.t 1),some (17,true)⟩,
 ⟨4,some 19,.cmp .eql .i64 (.t 18) (kI (-9223372036854775808)),some (17,true)⟩,
 oP 5 20 (.pick (.t 17) (.t 19) (kB false)),
 mV 6 21 20,
 ⟨7,some 22,.move (.t 1),some (21,false)⟩,
 ⟨8,some 23,.cmp .eql .i64 (.t 22) (kI (-1)),some (21,false)⟩,
 ⟨9,some 24,.move (.t 23),some (21,false)⟩,
 ⟨10,some 25,.move (.t 0),some (24,true)⟩,
 ⟨11,some 26,.cmp .eql .i64 (.t 25) (kI (-9223372036854775808)),some (24,true)⟩,
 ⟨12,some 27,.pick (.t 24) (.t 26) (kB false),some (21,false)⟩,
 oP 13 28 (.pick (.t 21) (kB true) (.t 27)),
 mV 14 14 28]) (.cut [0,1,14] c10)))
def c27:DCode:=(.seq (.region [mV 0 29 0,
 oP 1 30 (.conv .u64 (.t 29)),
 mV 2 31 1,
 oP 3 32 (.conv .u64 (.t 31)),
 oP 4 33 (.bin .mul .u64 (.t 30) (.t 32)),
 oP 5 34 (.conv .i64 (.t 33)),
 mV 6 6 34]) (.seq (.seq (.region [mV 0 35 6,
 mV 1 36 1,
 oP 2 37 (.bin .quo .i64 (.t 35) (.t 36)),
 mV 3 38 0,
 oP 4 39 (.cmp .neq .i64 (.t 37) (.t 38))]) (.cond (.t 39) (.seq (.region [oP 0 4 (.move (kI 0)),
 oP 1 5 (.move (kB false))]) .ret) .skip)) (.seq (.region [mV 0 40 6,
 mV 1 4 40,
 oP 2 5 (.move (kB true))]) .ret)))
def d:DFn:={ ntmps:=41,res:=[.t 4,.t 5],body:=(.seq (.region [oP 0 4 (.move (kI 0)),
 oP 1 5 (.move (kB false))]) (.seq (.block 0 (.seq (.region [mV 0 8 0,
 oP 1 9 (.cmp .eql .i64 (.t 8) (kI 0)),
 mV 2 10 9,
 ⟨3,some 11,.move (.t 1),some (10,false)⟩,
 ⟨4,some 12,.cmp .eql .i64 (.t 11) (kI 0),some (10,false)⟩,
 oP 5 13 (.pick (.t 10) (kB true) (.t 12)),
 mV 6 7 13]) (.cut [0,1,7] c12))) c27)) }
def k27:Kont:=execC M.j C (M.ag C) c27 ({ exits:=[],ret:=retK d }:Env) (retK d)
def e14:Env:={ exits:=(0,(k27 M C))::(({ exits:=[],ret:=retK d }:Env)).exits,ret:=(({ exits:=[],ret:=retK d }:Env)).ret }
def J12 (a b:Int) (c:Bool) (G:GH):Option Res:=M.j (execC M.j C (M.ag C) c12 (e14 M C) (k27 M C)) (vI a::(vI b::(uS 5 (vB c::(uS 33 []))))) G
def J10 (a b:Int) (c:Bool) (G:GH):Option Res:=M.j (execC M.j C (M.ag C) c10 (e14 M C) (k27 M C)) (vI a::(vI b::(uS 12 (vB c::(uS 26 []))))) G
theorem J12_eq (a b:Int) (d:Bool) (G:GH):J12 M C a b d G=(bif d then some ([.c (.int .i64 0),.c (.bool true)],G) else bif decide (a=(-1)) then bif decide (b=(-9223372036854775808)) then J10 M C a b true G else bif decide (b=(-1)) then J10 M C a b (decide (a=(-9223372036854775808))) G else J10 M C a b false G else bif decide (b=(-1)) then J10 M C a b (decide (a=(-9223372036854775808))) G else J10 M C a b false G):=(M.hj _ _ _).trans (by kernel_rfl)
theorem J10_eq (a b:Int) (d:Bool) (G:GH):J10 M C a b d G=(bif d then some ([.c (.int .i64 0),.c (.bool false)],G) else (binD .quo .i64 (IntKind.i64.wrap (IntKind.u64.wrap ((IntKind.u64.wrap a)*(IntKind.u64.wrap b)))) b).bind fun e=>bif (!decide (e=a)) then some ([.c (.int .i64 0),.c (.bool false)],G) else some ([.c (.int .i64 (IntKind.i64.wrap (IntKind.u64.wrap ((IntKind.u64.wrap a)*(IntKind.u64.wrap b))))),.c (.bool true)],G)):=(M.hj _ _ _).trans (by kernel_rfl)
def f (a b:Int) (G:GH):Option Res:=bif decide (a=0) then J12 M C a b true G else J12 M C a b (decide (b=0)) G
theorem eq (a b:Int) (G:GH):runF M C d [.c (.int .i64 a),.c (.int .i64 b)] G=f M C a b G:=by kernel_rfl
end F112
namespace F24
def c6:DCode:=(.cond (.t 19) (.seq (.region [oP 0 6 (.move (kI 0)),
 oP 1 7 (.move (kI 0))]) .ret) .skip)
def c23:DCode:=(.seq (.region [mV 0 37 1,
 mV 1 38 0,
 oP 2 39 (.bin .quo .i64 (.t 37) (.t 38)),
 mV 3 40 8,
 mV 4 41 0,
 oP 5 42 (.bin .quo .i64 (.t 40) (.t 41)),
 oP 6 43 (.bin .add .i64 (.t 42) (kI 1)),
 mV 7 6 39,
 mV 8 7 43]) .ret)
def c26:DCode:=(.seq (.seq (.region [mV 0 20 2,
 oP 1 21 (.cmp .eql .i64 (.t 20) (kI 0))]) (.cond (.t 21) (.seq (.region [mV 0 22 1,
 mV 1 23 0,
 oP 2 24 (.bin .quo .i64 (.t 22) (.t 23)),
 mV 3 25 1,
 mV 4 26 0,
 oP 5 27 (.bin .quo .i64 (.t 25) (.t 26)),
 mV 6 6 24,
 mV 7 7 27]) .ret) .skip)) (.seq (.region [mV 0 29 1,
 mV 1 30 2,
 oP 2 31 (.bin .sub .i64 (.t 30) (kI 1)),
 oP 3 32 (.call 82 [.t 29,.t 31] [.c (.int .i64),.c (.bool)]),
 mV 4 28 32,
 oP 5 33 (.ext 28 0),
 oP 6 34 (.ext 28 1),
 mV 7 8 33,
 mV 8 9 34]) (.seq (.seq (.region [mV 0 35 9,
 oP 1 36 (.not (.t 35))]) (.cond (.t 36) (.region [oP 0 8 (.move (kI 9223372036854775807))]) .skip)) (.cut [0,1,8] c23))))
def d:DFn:={ ntmps:=44,res:=[.t 6,.t 7],body:=(.seq (.region [oP 0 6 (.move (kI 0)),
 oP 1 7 (.move (kI 0))]) (.seq (.seq (.region [mV 0 10 0,
 oP 1 11 (.cmp .lss .i64 (.t 10) (kI 1)),
 mV 2 12 11,
 ⟨3,some 13,.move (.t 1),some (12,false)⟩,
 ⟨4,some 14,.cmp .lss .i64 (.t 13) (kI 0),some (12,false)⟩,
 oP 5 15 (.pick (.t 12) (kB true) (.t 14)),
 mV 6 16 15,
 ⟨7,some 17,.move (.t 2),some (16,false)⟩,
 ⟨8,some 18,.cmp .lss .i64 (.t 17) (kI 0),some (16,false)⟩,
 oP 9 19 (.pick (.t 16) (kB true) (.t 18))]) (.cut [0,1,2,19] c6)) c26)) }
def k26:Kont:=execC M.j C (M.ag C) c26 ({ exits:=[],ret:=retK d }:Env) (retK d)
def J6 (a b c:Int) (e:Bool) (G:GH):Option Res:=M.j (execC M.j C (M.ag C) c6 ({ exits:=[],ret:=retK d }:Env) (k26 M C)) (vI a::(vI b::(vI c::(uS 16 (vB e::(uS 24 [])))))) G
def J23 (a b c:Int) (G:GH):Option Res:=M.j (execC M.j C (M.ag C) c23 ({ exits:=[],ret:=retK d }:Env) (retK d)) (vI a::(vI b::(uS 6 (vI c::(uS 35 []))))) G
theorem J6_eq (b a e:Int) (f:Bool) (G:GH):J6 M C b a e f G=(bif f then some ([.c (.int .i64 0),.c (.int .i64 0)],G) else bif decide (e=0) then (binD .quo .i64 a b).bind fun g=>(binD .quo .i64 a b).bind fun h=>some ([.c (.int .i64 g),.c (.int .i64 h)],G) else (C F52.id [.c (.int .i64 a),.c (.int .i64 (IntKind.i64.wrap (e-1)))] G).bind fun d=>(((d.1[0]?).bind V1.c?).bind (Cell.asI .i64)).bind fun i=>(((d.1[1]?).bind V1.c?).bind Cell.asB).bind fun j=>bif (!j) then J23 M C b a 9223372036854775807 d.2 else J23 M C b a i d.2):=(M.hj _ _ _).trans (by kernel_rfl)
theorem J23_eq (a b d:Int) (G:GH):J23 M C a b d G=((binD .quo .i64 b a).bind fun e=>(binD .quo .i64 d a).bind fun f=>some ([.c (.int .i64 e),.c (.int .i64 (IntKind.i64.wrap (f+1)))],G)):=(M.hj _ _ _).trans (by kernel_rfl)
def f (a b c:Int) (G:GH):Option Res:=bif decide (a<1) then J6 M C a b c true G else bif decide (b<0) then J6 M C a b c true G else J6 M C a b c (decide (c<0)) G
theorem eq (a b e:Int) (G:GH):runF M C d [.c (.int .i64 a),.c (.int .i64 b),.c (.int .i64 e)] G=f M C a b e G:=by kernel_rfl
end F24
namespace F14
def c6:DCode:=(.cond (.t 15) (.seq (.region [oP 0 6 (.move (kI 0)),
 oP 1 7 (.move (kI 2))]) .ret) .skip)
def c14:DCode:=(.cond (.t 29) (.seq (.region [oP 0 6 (.move (kI 0)),
 oP 1 7 (.move (kI 4))]) .ret) .skip)
def c18:DCode:=(.seq (.region [mV 0 30 8,
 mV 1 6 30,
 oP 2 7 (.move (kI 0))]) .ret)
def c20:DCode:=(.seq (.region [mV 0 17 1,
 mV 1 18 2,
 oP 2 19 (.call 100 [.t 17,.t 18] [.c (.int .i64),.c (.bool)]),
 mV 3 16 19,
 oP 4 20 (.ext 16 0),
 oP 5 21 (.ext 16 1),
 mV 6 8 20,
 mV 7 9 21]) (.seq (.seq (.region [mV 0 22 9,
 oP 1 23 (.not (.t 22)),
 mV 2 24 23,
 ⟨3,some 25,.move (.t 8),some (24,false)⟩,
 ⟨4,some 26,.faddr 3 1,some (24,false)⟩,
 ⟨5,some 27,.ldL 26 31 (.c (.int .i64)),some (24,false)⟩,
 ⟨6,some 28,.cmp .gtr .i64 (.t 25) (.t 27),some (24,false)⟩,
 oP 7 29 (.pick (.t 24) (kB true) (.t 28))]) (.cut [8,29] c14)) c18))
def d:DFn:={ ntmps:=32,res:=[.t 6,.t 7],body:=(.seq (.region [oP 0 3 (.boxv 31 [26] (.t 0) 8),
 oP 1 6 (.move (kI 0)),
 oP 2 7 (.move (kI 0))]) (.seq (.seq (.region [mV 0 10 1,
 oP 1 11 (.cmp .lss .i64 (.t 10) (kI 0)),
 mV 2 12 11,
 ⟨3,some 13,.move (.t 2),some (12,false)⟩,
 ⟨4,some 14,.cmp .lss .i64 (.t 13) (kI 0),some (12,false)⟩,
 oP 5 15 (.pick (.t 12) (kB true) (.t 14))]) (.cut [1,2,3,15,31] c6)) c20)) }
def k20:Kont:=execC M.j C (M.ag C) c20 ({ exits:=[],ret:=retK d }:Env) (retK d)
def J6 (a b:Int) (c:Bool) (e f g h i k l m:Int) (G:GH):Option Res:=M.j (execC M.j C (M.ag C) c6 ({ exits:=[],ret:=retK d }:Env) (k20 M C)) (uS 1 (vI a::(vI b::(.ref 31 0::(uS 11 (vB c::(uS 15 (.box [.int .i64 e,.int .i64 f,.int .i64 g,.int .i64 h,.int .i64 i,.int .i64 k,.int .i64 l,.int .i64 m]::[])))))))) G
def k18:Kont:=execC M.j C (M.ag C) c18 ({ exits:=[],ret:=retK d }:Env) (retK d)
def J14 (a:Int) (b:Bool) (G:GH):Option Res:=M.j (execC M.j C (M.ag C) c14 ({ exits:=[],ret:=retK d }:Env) (k18 M C)) (uS 8 (vI a::(uS 20 (vB b::(uS 2 []))))) G
theorem J6_eq (d e:Int) (f:Bool) (h g i j k l m n:Int) (G:GH):J6 M C d e f h g i j k l m n G=(bif f then some ([.c (.int .i64 0),.c (.int .i64 2)],G) else (C F55.id [.c (.int .i64 d),.c (.int .i64 e)] G).bind fun a=>(((a.1[0]?).bind V1.c?).bind (Cell.asI .i64)).bind fun b=>(((a.1[1]?).bind V1.c?).bind Cell.asB).bind fun o=>bif (!o) then J14 M C b true a.2 else J14 M C b (decide (b>g)) a.2):=(M.hj _ _ _).trans (by kernel_rfl)
theorem J14_eq (a:Int) (b:Bool) (G:GH):J14 M C a b G=(bif b then some ([.c (.int .i64 0),.c (.int .i64 4)],G) else some ([.c (.int .i64 a),.c (.int .i64 0)],G)):=(M.hj _ _ _).trans (by kernel_rfl)
def f (c d e g h i j k a b:Int) (G:GH):Option Res:=bif decide (a<0) then J6 M C a b true c d e g h i j k G else J6 M C a b (decide (b<0)) c d e g h i j k G
theorem eq (a b e g h i j k l m:Int) (G:GH):runF M C d [.agg [.int .i64 a,.int .i64 b,.int .i64 e,.int .i64 g,.int .i64 h,.int .i64 i,.int .i64 j,.int .i64 k],.c (.int .i64 l),.c (.int .i64 m)] G=f M C a b e g h i j k l m G:=by kernel_rfl
end F14
namespace F94
def c6:DCode:=(.cond (.t 18) (.seq (.region [oP 0 6 (.move (kI 0)),
 oP 1 7 (.move (kI 0))]) .ret) .skip)
def c24:DCode:=(.seq (.region [mV 0 35 6,
 mV 1 36 8,
 mV 2 37 0,
 oP 3 38 (.bin .quo .i64 (.t 36) (.t 37)),
 oP 4 39 (.bin .add .i64 (.t 38) (kI 1)),
 mV 5 6 35,
 mV 6 7 39]) .ret)
def c28:DCode:=(.seq (.region [mV 0 19 1,
 mV 1 20 0,
 oP 2 21 (.bin .quo .i64 (.t 19) (.t 20)),
 mV 3 6 21]) (.seq (.seq (.region [mV 0 22 2,
 oP 1 23 (.cmp .eql .i64 (.t 22) (kI 0))]) (.cond (.t 23) (.seq (.region [mV 0 24 6,
 mV 1 25 6,
 mV 2 6 24,
 mV 3 7 25]) .ret) .skip)) (.seq (.region [oP 0 8 (.move (kI 9223372036854775807))]) (.seq (.seq (.region [mV 0 26 2,
 oP 1 27 (.bin .sub .i64 (.t 26) (kI 1)),
 mV 2 28 1,
 oP 3 29 (.bin .sub .i64 (kI 9223372036854775807) (.t 28)),
 oP 4 30 (.cmp .leq .i64 (.t 27) (.t 29))]) (.cond (.t 30) (.region [mV 0 31 1,
 mV 1 32 2,
 oP 2 33 (.bin .add .i64 (.t 31) (.t 32)),
 oP 3 34 (.bin .sub .i64 (.t 33) (kI 1)),
 mV 4 8 34]) .skip)) (.cut [0,6,8] c24)))))
def d:DFn:={ ntmps:=40,res:=[.t 6,.t 7],body:=(.seq (.region [oP 0 6 (.move (kI 0)),
 oP 1 7 (.move (kI 0))]) (.seq (.seq (.region [mV 0 9 0,
 oP 1 10 (.cmp .lss .i64 (.t 9) (kI 1)),
 mV 2 11 10,
 ⟨3,some 12,.move (.t 1),some (11,false)⟩,
 ⟨4,some 13,.cmp .lss .i64 (.t 12) (kI 0),some (11,false)⟩,
 oP 5 14 (.pick (.t 11) (kB true) (.t 13)),
 mV 6 15 14,
 ⟨7,some 16,.move (.t 2),some (15,false)⟩,
 ⟨8,some 17,.cmp .lss .i64 (.t 16) (kI 0),some (15,false)⟩,
 oP 9 18 (.pick (.t 15) (kB true) (.t 17))]) (.cut [0,1,2,18] c6)) c28)) }
def k28:Kont:=execC M.j C (M.ag C) c28 ({ exits:=[],ret:=retK d }:Env) (retK d)
def J6 (a b c:Int) (e:Bool) (G:GH):Option Res:=M.j (execC M.j C (M.ag C) c6 ({ exits:=[],ret:=retK d }:Env) (k28 M C)) (vI a::(vI b::(vI c::(uS 15 (vB e::(uS 21 [])))))) G
def J24 (a b c:Int) (G:GH):Option Res:=M.j (execC M.j C (M.ag C) c24 ({ exits:=[],ret:=retK d }:Env) (retK d)) (vI a::(uS 5 (vI b::(uS 1 (vI c::(uS 31 [])))))) G
theorem J6_eq (a b d:Int) (f:Bool) (G:GH):J6 M C a b d f G=(bif f then some ([.c (.int .i64 0),.c (.int .i64 0)],G) else (binD .quo .i64 b a).bind fun e=>bif decide (d=0) then some ([.c (.int .i64 e),.c (.int .i64 e)],G) else bif decide (IntKind.i64.wrap (d-1)≤IntKind.i64.wrap (9223372036854775807-b)) then J24 M C a e (IntKind.i64.wrap ((IntKind.i64.wrap (b+d))-1)) G else J24 M C a e 9223372036854775807 G):=(M.hj _ _ _).trans (by kernel_rfl)
theorem J24_eq (a b d:Int) (G:GH):J24 M C a b d G=((binD .quo .i64 d a).bind fun e=>some ([.c (.int .i64 b),.c (.int .i64 (IntKind.i64.wrap (e+1)))],G)):=(M.hj _ _ _).trans (by kernel_rfl)
def f (a b c:Int) (G:GH):Option Res:=bif decide (a<1) then J6 M C a b c true G else bif decide (b<0) then J6 M C a b c true G else J6 M C a b c (decide (c<0)) G
theorem eq (a b e:Int) (G:GH):runF M C d [.c (.int .i64 a),.c (.int .i64 b),.c (.int .i64 e)] G=f M C a b e G:=by kernel_rfl
end F94
namespace F11
def c10:DCode:=(.seq (.region [oP 0 30 (.ldL 6 32 (.agg (iS 6))),
 ⟨1,none,.stL 4 31 (.t 30) 6,none⟩]) .ret)
def d:DFn:={ ntmps:=33,res:=[.box 4 (some 6)],body:=(.seq (.region [oP 0 4 (.boxz 31 [] (zI 6))]) (.seq (.region [mV 0 7 0,
 oP 1 8 (.call 19 [.t 7,.k (.c (.int .i64 9))] [.c (.int .i64)]),
 oP 2 9 (.bin .add .i64 (kI 1) (.t 8)),
 mV 3 5 9]) (.seq (.region [mV 0 10 5,
 mV 1 11 5,
 mV 2 12 0,
 oP 3 13 (.call 19 [.t 12,.k (.c (.int .i64 12))] [.c (.int .i64)]),
 oP 4 14 (.bin .add .i64 (kI 1) (.t 13)),
 oP 5 15 (.bin .mul .i64 (.t 11) (.t 14)),
 mV 6 16 0,
 oP 7 17 (.call 19 [.t 16,.k (.c (.int .i64 150))] [.c (.int .i64)]),
 oP 8 18 (.bin .add .i64 (kI 1) (.t 17)),
 mV 9 19 0,
 oP 10 20 (.call 19 [.t 19,.k (.c (.int .i64 30))] [.c (.int .i64)]),
 oP 11 21 (.bin .add .i64 (kI 1) (.t 20)),
 mV 12 22 0,
 oP 13 23 (.call 19 [.t 22,.k (.c (.int .i64 200))] [.c (.int .i64)]),
 mV 14 24 0,
 oP 15 25 (.call 19 [.t 24,.k (.c (.int .i64 20))] [.c (.int .i64)]),
 oP 16 26 (.bin .add .i64 (kI 1) (.t 25)),
 oP 17 27 (.build (zI 6) [(0,1,.t 10),(1,1,.t 15),(2,1,.t 18),(3,1,.t 21),(5,1,.t 23),(4,1,.t 26)]),
 oP 18 6 (.boxz 32 [29] (zI 6)),
 ⟨19,none,.stL 6 32 (.t 27) 6,none⟩]) (.seq (.seq (.region [mV 0 28 1]) (.cond (.t 28) (.region [oP 0 29 (.faddr 6 4),
 ⟨1,none,.stL 29 32 (kI 5000) 1,none⟩]) .skip)) (.cut [4,6,31,32] c10))))) }
def J10 (a b c e f g h i k l m n:Int) (G:GH):Option Res:=M.j (execC M.j C (M.ag C) c10 ({ exits:=[],ret:=retK d }:Env) (retK d)) (uS 4 (.ref 31 0::(uS 1 (.ref 32 0::(uS 24 (.box [.int .i64 a,.int .i64 b,.int .i64 c,.int .i64 e,.int .i64 f,.int .i64 g]::(.box [.int .i64 h,.int .i64 i,.int .i64 k,.int .i64 l,.int .i64 m,.int .i64 n]::[]))))))) G
theorem J10_eq (g h i j k l a b c d e f:Int) (G:GH):J10 M C g h i j k l a b c d e f G=(some ([.agg [.int .i64 a,.int .i64 b,.int .i64 c,.int .i64 d,.int .i64 e,.int .i64 f]],G)):=(M.hj _ _ _).trans (by kernel_rfl)
def f (a b:Nat) (p:Bool) (G:GH):Option Res:=(C F10.id [.c (.ptr a b),.c (.int .i64 9)] G).bind fun g=>(((g.1[0]?).bind V1.c?).bind (Cell.asI .i64)).bind fun d=>(C F10.id [.c (.ptr a b),.c (.int .i64 12)] g.2).bind fun h=>(((h.1[0]?).bind V1.c?).bind (Cell.asI .i64)).bind fun i=>(C F10.id [.c (.ptr a b),.c (.int .i64 150)] h.2).bind fun j=>(((j.1[0]?).bind V1.c?).bind (Cell.asI .i64)).bind fun k=>(C F10.id [.c (.ptr a b),.c (.int .i64 30)] j.2).bind fun l=>(((l.1[0]?).bind V1.c?).bind (Cell.asI .i64)).bind fun m=>(C F10.id [.c (.ptr a b),.c (.int .i64 200)] l.2).bind fun n=>(((n.1[0]?).bind V1.c?).bind (Cell.asI .i64)).bind fun o=>(C F10.id [.c (.ptr a b),.c (.int .i64 20)] n.2).bind fun e=>(((e.1[0]?).bind V1.c?).bind (Cell.asI .i64)).bind fun q=>bif p then J10 M C 0 0 0 0 0 0 (IntKind.i64.wrap (1+d)) (IntKind.i64.wrap ((IntKind.i64.wrap (1+d))*(IntKind.i64.wrap (1+i)))) (IntKind.i64.wrap (1+k)) (IntKind.i64.wrap (1+m)) 5000 o e.2 else J10 M C 0 0 0 0 0 0 (IntKind.i64.wrap (1+d)) (IntKind.i64.wrap ((IntKind.i64.wrap (1+d))*(IntKind.i64.wrap (1+i)))) (IntKind.i64.wrap (1+k)) (IntKind.i64.wrap (1+m)) (IntKind.i64.wrap (1+q)) o e.2
theorem eq (a b:Nat) (e:Bool) (G:GH):runF M C d [.c (.ptr a b),.c (.bool e)] G=f M C a b e G:=by kernel_rfl
end F11
namespace F60
def c6:DCode:=(.cond (.t 15) (.seq (.region [oP 0 6 (.move (kI 0)),
 oP 1 7 (.move (kI 2))]) .ret) .skip)
def c14:DCode:=(.cond (.t 29) (.seq (.region [oP 0 6 (.move (kI 0)),
 oP 1 7 (.move (kI 4))]) .ret) .skip)
def c18:DCode:=(.seq (.region [mV 0 30 8,
 mV 1 6 30,
 oP 2 7 (.move (kI 0))]) .ret)
def c20:DCode:=(.seq (.region [mV 0 17 1,
 mV 1 18 2,
 oP 2 19 (.call 72 [.t 17,.t 18] [.c (.int .i64),.c (.bool)]),
 mV 3 16 19,
 oP 4 20 (.ext 16 0),
 oP 5 21 (.ext 16 1),
 mV 6 8 20,
 mV 7 9 21]) (.seq (.seq (.region [mV 0 22 9,
 oP 1 23 (.not (.t 22)),
 mV 2 24 23,
 ⟨3,some 25,.move (.t 8),some (24,false)⟩,
 ⟨4,some 26,.faddr 3 1,some (24,false)⟩,
 ⟨5,some 27,.ldL 26 31 (.c (.int .i64)),some (24,false)⟩,
 ⟨6,some 28,.cmp .gtr .i64 (.t 25) (.t 27),some (24,false)⟩,
 oP 7 29 (.pick (.t 24) (kB true) (.t 28))]) (.cut [8,29] c14)) c18))
def d:DFn:={ ntmps:=32,res:=[.t 6,.t 7],body:=(.seq (.region [oP 0 3 (.boxv 31 [26] (.t 0) 8),
 oP 1 6 (.move (kI 0)),
 oP 2 7 (.move (kI 0))]) (.seq (.seq (.region [mV 0 10 1,
 oP 1 11 (.cmp .lss .i64 (.t 10) (kI 0)),
 mV 2 12 11,
 ⟨3,some 13,.move (.t 2),some (12,false)⟩,
 ⟨4,some 14,.cmp .lss .i64 (.t 13) (kI 0),some (12,false)⟩,
 oP 5 15 (.pick (.t 12) (kB true) (.t 14))]) (.cut [1,2,3,15,31] c6)) c20)) }
def k20:Kont:=execC M.j C (M.ag C) c20 ({ exits:=[],ret:=retK d }:Env) (retK d)
def J6 (a b:Int) (c:Bool) (e f g h i k l m:Int) (G:GH):Option Res:=M.j (execC M.j C (M.ag C) c6 ({ exits:=[],ret:=retK d }:Env) (k20 M C)) (uS 1 (vI a::(vI b::(.ref 31 0::(uS 11 (vB c::(uS 15 (.box [.int .i64 e,.int .i64 f,.int .i64 g,.int .i64 h,.int .i64 i,.int .i64 k,.int .i64 l,.int .i64 m]::[])))))))) G
def k18:Kont:=execC M.j C (M.ag C) c18 ({ exits:=[],ret:=retK d }:Env) (retK d)
def J14 (a:Int) (b:Bool) (G:GH):Option Res:=M.j (execC M.j C (M.ag C) c14 ({ exits:=[],ret:=retK d }:Env) (k18 M C)) (uS 8 (vI a::(uS 20 (vB b::(uS 2 []))))) G
theorem J6_eq (d e:Int) (f:Bool) (h g i j k l m n:Int) (G:GH):J6 M C d e f h g i j k l m n G=(bif f then some ([.c (.int .i64 0),.c (.int .i64 2)],G) else (C F112.id [.c (.int .i64 d),.c (.int .i64 e)] G).bind fun a=>(((a.1[0]?).bind V1.c?).bind (Cell.asI .i64)).bind fun b=>(((a.1[1]?).bind V1.c?).bind Cell.asB).bind fun o=>bif (!o) then J14 M C b true a.2 else J14 M C b (decide (b>g)) a.2):=(M.hj _ _ _).trans (by kernel_rfl)
theorem J14_eq (a:Int) (b:Bool) (G:GH):J14 M C a b G=(bif b then some ([.c (.int .i64 0),.c (.int .i64 4)],G) else some ([.c (.int .i64 a),.c (.int .i64 0)],G)):=(M.hj _ _ _).trans (by kernel_rfl)
def f (c d e g h i j k a b:Int) (G:GH):Option Res:=bif decide (a<0) then J6 M C a b true c d e g h i j k G else J6 M C a b (decide (b<0)) c d e g h i j k G
theorem eq (a b e g h i j k l m:Int) (G:GH):runF M C d [.agg [.int .i64 a,.int .i64 b,.int .i64 e,.int .i64 g,.int .i64 h,.int .i64 i,.int .i64 j,.int .i64 k],.c (.int .i64 l),.c (.int .i64 m)] G=f M C a b e g h i j k l m G:=by kernel_rfl
end F60
namespace F103
def d:DFn:={ ntmps:=69,res:=[.pt 4 (some 6),.t 5,.t 6],body:=(.seq (.region [oP 0 4 (.newz [.int .i64 0,.int .i64 0,.int .i64 0,.int .i64 0,.int .i64 0,.int .u8 0]),
 oP 1 5 (.move (kI 0)),
 oP 2 6 (.move (kB false))]) (.seq (.region [mV 0 9 0,
 oP 1 10 (.faddr 4 0),
 ⟨2,none,.stG 10 (.t 9) 1,none⟩]) (.seq (.seq (.region [mV 0 11 0,
 oP 1 12 (.call 79 [.t 11] [.c (.str)]),
 oP 2 13 (.sbytes (.t 12)),
 oP 3 14 (.len (.t 13)),
 oP 4 15 (.move (kI 0))]) (.block 0 (.loop [0,1,4,5,13,14,15] (.seq (.region [oP 0 16 (.cmp .lss .i64 (.t 15) (.t 14))]) (.seq (.cond (.t 16) .skip (.exit 0)) (.seq (.block 1 (.seq (.region [oP 0 17 (.iaddr (.t 13) (.t 15) 1),
 oP 1 18 (.ldG 17 (.c (.int .u8))),
 mV 2 8 18]) (.seq (.seq (.region [mV 0 19 1,
 oP 1 20 (.len (.t 19)),
 mV 2 21 5,
 oP 3 22 (.bin .sub .i64 (.t 20) (.t 21)),
 oP 4 23 (.cmp .lss .i64 (.t 22) (kI 3))]) (.cond (.t 23) (.seq (.region [oP 0 24 (.ldG 4 (.agg [.int .i64,.int .i64,.int .i64,.int .i64,.int .i64,.int .u8])),
 ⟨1,none,.stG 4 (.t 24) 6,none⟩,
 oP 2 5 (.move (kI 0)),
 oP 3 6 (.move (kB false))]) .ret) .skip)) (.seq (.region [mV 0 25 8,
 mV 2 27 1,
 mV 3 28 5,
 oP 4 29 (.iaddr (.t 27) (.t 28) 1),
 oP 5 30 (.ldG 29 (.c (.int .u8))),
 oP 6 31 (.conv .i64 (.t 30)),
 oP 7 32 (.bin .shl .i64 (.t 31) (.k (.c (.int .u64 16)))),
 mV 8 33 1,
 mV 9 34 5,
 oP 10 35 (.bin .add .i64 (.t 34) (kI 1)),
 oP 11 36 (.iaddr (.t 33) (.t 35) 1),
 oP 12 37 (.ldG 36 (.c (.int .u8))),
 oP 13 38 (.conv .i64 (.t 37)),
 oP 14 39 (.bin .shl .i64 (.t 38) (.k (.c (.int .u64 8)))),
 oP 15 40 (.bin .or .i64 (.t 32) (.t 39)),
 mV 16 41 1,
 mV 17 42 5,
 oP 18 43 (.bin .add .i64 (.t 42) (kI 2)),
 oP 19 44 (.iaddr (.t 41) (.t 43) 1),
 oP 20 45 (.ldG 44 (.c (.int .u8))),
 oP 21 46 (.conv .i64 (.t 45)),
 oP 22 47 (.bin .or .i64 (.t 40) (.t 46)),
 oP 1 26 (.call 80 [.t 4,.t 25] [.c (.ptr)]),
 ⟨9999,none,.reG 30 29 (.c (.int .u8)),none⟩,
 ⟨9999,none,.reG 37 36 (.c (.int .u8)),none⟩,
 ⟨9999,none,.reG 45 44 (.c (.int .u8)),none⟩,
 oP 23 48 (.nilck (.t 26)),
 ⟨24,none,.stG 48 (.t 47) 1,none⟩]) (.region [mV 0 49 5,
 oP 1 50 (.bin .add .i64 (.t 49) (kI 3)),
 mV 2 5 50]))))) (.region [oP 0 51 (.bin .add .i64 (.t 15) (kI 1)),
 mV 1 15 51]))))))) (.seq (.seq (.region [mV 0 52 0,
 oP 1 53 (.cmp .neq .i64 (.t 52) (kI 8))]) (.cond (.t 53) (.seq (.region [oP 0 54 (.ldG 4 (.agg [.int .i64,.int .i64,.int .i64,.int .i64,.int .i64,.int .u8])),
 mV 1 55 5,
 ⟨2,none,.stG 4 (.t 54) 6,none⟩,
 mV 3 5 55,
 oP 4 6 (.move (kB true))]) .ret) .skip)) (.seq (.seq (.region [mV 0 56 1,
 oP 1 57 (.len (.t 56)),
 mV 2 58 5,
 oP 3 59 (.cmp .leq .i64 (.t 57) (.t 58))]) (.cond (.t 59) (.seq (.region [oP 0 60 (.ldG 4 (.agg [.int .i64,.int .i64,.int .i64,.int .i64,.int .i64,.int .u8])),
 ⟨1,none,.stG 4 (.t 60) 6,none⟩,
 oP 2 5 (.move (kI 0)),
 oP 3 6 (.move (kB false))]) .ret) .skip)) (.seq (.region [mV 0 61 1,
 mV 1 62 5,
 oP 2 63 (.iaddr (.t 61) (.t 62) 1),
 oP 3 64 (.ldG 63 (.c (.int .u8))),
 oP 4 65 (.faddr 4 5),
 ⟨5,none,.stG 65 (.t 64) 1,none⟩]) (.seq (.region [oP 0 66 (.ldG 4 (.agg [.int .i64,.int .i64,.int .i64,.int .i64,.int .i64,.int .u8])),
 mV 1 67 5,
 oP 2 68 (.bin .add .i64 (.t 67) (kI 1)),
 ⟨3,none,.stG 4 (.t 66) 6,none⟩,
 mV 4 5 68,
 oP 5 6 (.move (kB true))]) .ret))))))) }
end F103
namespace F33
def d:DFn:={ ntmps:=29,res:=[.t 0],body:=(.seq (.region [oP 0 0 (.move (kB false))]) (.seq (.region [oP 0 4 (.build (zI 6) [(0,1,.k (.c (.int .i64 1))),(1,1,.k (.c (.int .i64 4))),(2,1,.k (.c (.int .i64 8))),(3,1,.k (.c (.int .i64 4))),(4,1,.k (.c (.int .i64 6)))]),
 oP 1 1 (.boxz 28 [] (zI 6)),
 ⟨2,none,.stL 1 28 (.t 4) 6,none⟩]) (.seq (.region [oP 0 6 (.ldL 1 28 (.agg (iS 6))),
 oP 1 7 (.build [.int .i64 0,.int .i64 0,.int .i64 0,.int .i64 0,.int .i64 0,.int .u8 0] [(0,1,.k (.c (.int .i64 1))),(2,1,.k (.c (.int .i64 3)))]),
 oP 2 8 (.build [.int .i64 0,.int .i64 0,.int .i64 0,.int .i64 0,.int .i64 0,.int .u8 0] [(0,1,.k (.c (.int .i64 1))),(2,1,.k (.c (.int .i64 1)))]),
 oP 3 9 (.bslice 2 6 [.int .i64 0,.int .i64 0,.int .i64 0,.int .i64 0,.int .i64 0,.int .u8 0,.int .i64 0,.int .i64 0,.int .i64 0,.int .i64 0,.int .i64 0,.int .u8 0] [(0,6,.t 7),(6,6,.t 8)]),
 oP 4 10 (.call 18 [.t 6,.t 9] [.c (.sl 1)]),
 oP 5 11 (.call 17 [.t 10] [.c (.sl 8),.c (.int .i64)]),
 mV 6 5 11,
 oP 7 12 (.ext 5 0),
 oP 8 13 (.ext 5 1),
 mV 9 2 12,
 mV 10 3 13]) (.seq (.region [mV 0 14 3,
 oP 1 15 (.cmp .eql .i64 (.t 14) (kI 0)),
 mV 2 16 15,
 ⟨3,some 17,.move (.t 2),some (16,true)⟩,
 ⟨4,some 18,.len (.t 17),some (16,true)⟩,
 ⟨5,some 19,.cmp .eql .i64 (.t 18) (kI 2),some (16,true)⟩,
 oP 6 20 (.pick (.t 16) (.t 19) (kB false)),
 mV 7 21 20,
 ⟨8,some 22,.move (.t 2),some (21,true)⟩,
 ⟨9,some 23,.iaddr (.t 22) (kI 1) 8,some (21,true)⟩,
 ⟨10,some 24,.faddr 23 1,some (21,true)⟩,
 ⟨11,some 25,.ldG 24 (.c (.int .i64)),some (21,true)⟩,
 ⟨12,some 26,.cmp .eql .i64 (.t 25) (kI 4),some (21,true)⟩,
 oP 13 27 (.pick (.t 21) (.t 26) (kB false)),
 mV 14 0 27]) .ret)))) }
end F33

end Go.Proofs.D
