/- Texts of the proof (T0); no condition. -/
import Derived.Test.YtogdeblppihbnaaGreatTopCeila
import Derived.KernelRfl
set_option linter.unusedSimpArgs false
set_option linter.unusedVariables false
set_option linter.unusedVariables false
set_option maxRecDepth 100000
namespace Go.Proofs.D
open Go
variable (M:Mach) (C:Call)
namespace hodmantop_TopCeil
def c13:DCode:=(.cond (.t 27) (.seq (.region [oP 0 4 (.move (kB true))]) .ret) .skip)
def c22:DCode:=(.cond (.t 41) (.seq (.region [mV 0 42 6,
 oP 1 43 (.pnil false (.t 42)),
 mV 2 4 43]) .ret) .skip)
def c47:DCode:=(.cond (.t 98) (.seq (.region [oP 0 4 (.move (kB false))]) .ret) .skip)
def c49:DCode:=(.region [mV 0 99 10,
 oP 1 100 (.ldL 8 147 (.agg (iS 8))),
 mV 2 101 15,
 oP 3 102 (.call 15 [.t 100,.t 101] [.c (.int .i64)]),
 oP 4 103 (.mx (.t 99) [.t 102]),
 mV 5 10 103])
def c53:DCode:=(.region [mV 0 68 14,
 oP 1 69 (.bin .add .i64 (.t 68) (kI 1)),
 mV 2 14 69])
def c55:DCode:=(.seq (.seq (.region [mV 0 64 14,
 mV 1 65 13,
 oP 2 66 (.len (.t 65)),
 oP 3 67 (.cmp .lss .i64 (.t 64) (.t 66))]) (.cond (.t 67) .skip (.exit 2))) (.seq (.block 3 (.seq (.region [oP 0 71 (.ldL 8 147 (.agg (iS 8))),
 mV 1 72 13,
 mV 2 73 14,
 oP 3 74 (.iaddr (.t 72) (.t 73) 3),
 oP 4 75 (.faddr 74 1),
 oP 5 76 (.ldG 75 (.c (.int .i64))),
 oP 6 77 (.call 14 [.t 71,.t 76] [.c (.int .i64),.c (.bool)]),
 mV 7 70 77,
 oP 8 78 (.ext 70 0),
 oP 9 79 (.ext 70 1),
 mV 10 15 78,
 mV 11 16 79]) (.seq (.seq (.region [mV 0 80 16,
 oP 1 81 (.not (.t 80)),
 mV 2 82 81,
 ⟨3,some 83,.move (.t 13),some (82,false)⟩,
 ⟨4,some 84,.move (.t 14),some (82,false)⟩,
 ⟨5,some 85,.iaddr (.t 83) (.t 84) 3,some (82,false)⟩,
 ⟨6,some 86,.faddr 85 0,some (82,false)⟩,
 ⟨7,some 87,.ldG 86 (.c (.int .i64)),some (82,false)⟩,
 ⟨8,some 88,.move (.t 13),some (82,false)⟩,
 ⟨9,some 89,.move (.t 14),some (82,false)⟩,
 ⟨10,some 90,.iaddr (.t 88) (.t 89) 3,some (82,false)⟩,
 ⟨11,some 91,.faddr 90 1,some (82,false)⟩,
 ⟨12,some 92,.ldG 91 (.c (.int .i64)),some (82,false)⟩,
 ⟨13,some 93,.bin .add .i64 (.t 87) (.t 92),some (82,false)⟩,
 ⟨14,some 94,.ldL 8 147 (.agg (iS 8)),some (82,false)⟩,
 ⟨15,some 95,.move (.t 15),some (82,false)⟩,
 ⟨16,some 96,.call 15 [.t 94,.t 95] [.c (.int .i64)],some (82,false)⟩,
 ⟨9999,none,.reG 87 86 (.c (.int .i64)),some (82,false)⟩,
 ⟨9999,none,.reG 92 91 (.c (.int .i64)),some (82,false)⟩,
 ⟨17,some 97,.cmp .gtr .i64 (.t 93) (.t 96),some (82,false)⟩,
 oP 18 98 (.pick (.t 82) (kB true) (.t 97))]) (.cut [6,8,9,10,11,12,13,14,15,98,147,148] c47)) c49))) c53))
def c56:DCode:=(.loop [6,8,9,10,11,12,13,14,147,148] c55)
def c65:DCode:=(.cond (.t 145) (.seq (.region [oP 0 4 (.move (kB false))]) .ret) .skip)
def c67:DCode:=(.seq (.region [mV 0 104 6,
 oP 1 105 (.build [.int .i64 0,.int .i64 0,.int .i64 0,.int .i64 0,.int .i64 0,.int .u8 0] [(0,1,.k (.c (.int .i64 10)))]),
 oP 2 106 (.call 11 [.t 104,.t 105] [.agg sA]),
 oP 3 17 (.boxz 149 [112,118,125,135] zA),
 ⟨4,none,.stL 17 149 (.t 106) 8,none⟩]) (.seq (.region [oP 0 107 (.ldL 8 147 (.agg (iS 8))),
 mV 1 108 13,
 oP 2 109 (.call 16 [.t 107,.t 108] [.c (.bool)]),
 oP 3 110 (.not (.t 109)),
 mV 4 111 110,
 ⟨5,some 112,.faddr 17 6,some (111,false)⟩,
 ⟨6,some 113,.ldL 112 149 (.c (.int .i64)),some (111,false)⟩,
 ⟨7,some 114,.move (.t 10),some (111,false)⟩,
 ⟨8,some 115,.cmp .gtr .i64 (.t 113) (.t 114),some (111,false)⟩,
 oP 9 116 (.pick (.t 111) (kB true) (.t 115)),
 mV 10 117 116,
 ⟨11,some 118,.faddr 17 7,some (117,false)⟩,
 ⟨12,some 119,.ldL 118 149 (.c (.int .i64)),some (117,false)⟩,
 ⟨13,some 120,.faddr 8 5,some (117,false)⟩,
 ⟨14,some 121,.ldL 120 147 (.c (.int .i64)),some (117,false)⟩,
 ⟨15,some 122,.cmp .gtr .i64 (.t 119) (.t 121),some (117,false)⟩,
 oP 16 123 (.pick (.t 117) (kB true) (.t 122)),
 mV 17 124 123,
 ⟨18,some 125,.faddr 17 7,some (124,false)⟩,
 ⟨19,some 126,.ldL 125 149 (.c (.int .i64)),some (124,false)⟩,
 ⟨20,some 127,.faddr 8 4,some (124,false)⟩,
 ⟨21,some 128,.ldL 127 147 (.c (.int .i64)),some (124,false)⟩,
 ⟨22,some 129,.bin .mul .i64 (.t 126) (.t 128),some (124,false)⟩,
 ⟨23,some 130,.move (.t 10),some (124,false)⟩,
 ⟨24,some 131,.mx (.t 130) [.k (.c (.int .i64 0))],some (124,false)⟩,
 ⟨25,some 132,.cmp .gtr .i64 (.t 129) (.t 131),some (124,false)⟩,
 oP 26 133 (.pick (.t 124) (kB true) (.t 132)),
 mV 27 134 133,
 ⟨28,some 135,.faddr 17 5,some (134,false)⟩,
 ⟨29,some 136,.ldL 135 149 (.c (.int .i64)),some (134,false)⟩,
 ⟨30,some 137,.faddr 8 2,some (134,false)⟩,
 ⟨31,some 138,.ldL 137 147 (.c (.int .i64)),some (134,false)⟩,
 ⟨32,some 139,.cmp .gtr .i64 (.t 136) (.t 138),some (134,false)⟩,
 oP 33 140 (.pick (.t 134) (kB true) (.t 139)),
 mV 34 141 140,
 ⟨35,some 142,.faddr 12 0,some (141,false)⟩,
 ⟨36,some 143,.ldL 142 148 (.c (.int .i64)),some (141,false)⟩,
 ⟨37,some 144,.cmp .eql .i64 (.t 143) (kI 7),some (141,false)⟩,
 oP 38 145 (.pick (.t 141) (kB true) (.t 144))]) (.cut [6,8,9,10,11,145,147] c65)))
def c72:DCode:=(.region [mV 0 54 11,
 oP 1 55 (.bin .add .i64 (.t 54) (kI 1)),
 mV 2 11 55])
def c74:DCode:=(.seq (.seq (.region [mV 0 50 11,
 mV 1 51 9,
 oP 2 52 (.len (.t 51)),
 oP 3 53 (.cmp .lss .i64 (.t 50) (.t 52))]) (.cond (.t 53) .skip (.exit 0))) (.seq (.block 1 (.seq (.region [mV 0 56 6,
 mV 1 57 9,
 mV 2 58 11,
 oP 3 59 (.iaddr (.t 57) (.t 58) 6),
 oP 4 60 (.ldG 59 (.agg [.int .i64,.int .i64,.int .i64,.int .i64,.int .i64,.int .u8])),
 oP 5 61 (.call 11 [.t 56,.t 60] [.agg sA]),
 oP 6 12 (.boxz 148 [142] zA),
 ⟨7,none,.stL 12 148 (.t 61) 8,none⟩]) (.seq (.region [mV 0 62 6,
 oP 1 63 (.call 12 [.t 62] [.c (.sl 3)]),
 mV 2 13 63]) (.seq (.seq (.region [oP 0 14 (.move (kI 0))]) (.block 2 c56)) c67)))) c72))
def c75:DCode:=(.loop [6,8,9,10,11,147] c74)
def c80:DCode:=(.seq (.region [oP 0 4 (.move (kB true))]) .ret)
def c84:DCode:=(.seq (.region [mV 0 44 6,
 oP 1 45 (.call 9 [.t 44] [.agg (iS 8)]),
 oP 2 8 (.boxz 147 [120,127,137] (zI 8)),
 ⟨3,none,.stL 8 147 (.t 45) 8,none⟩]) (.seq (.region [mV 0 46 1,
 oP 1 47 (.call 6 [.t 46] [.c (.ptr)]),
 oP 2 48 (.ldL 5 146 (.agg (iS 6))),
 oP 3 49 (.call 10 [.t 47,.t 48,.k (.c (.int .i64 80))] [.c (.sl 6)]),
 mV 4 9 49]) (.seq (.region [oP 0 10 (.move (kI 0))]) (.seq (.seq (.region [oP 0 11 (.move (kI 0))]) (.block 0 c75)) c80))))
def c87:DCode:=(.seq (.region [mV 0 28 0,
 oP 1 29 (.call 6 [.t 28] [.c (.ptr)]),
 oP 2 30 (.call 7 [.t 29,.k (.c (.bool false))] [.agg (iS 6)]),
 oP 3 5 (.boxz 146 [] (zI 6)),
 ⟨4,none,.stL 5 146 (.t 30) 6,none⟩]) (.seq (.region [oP 0 32 (.ldL 5 146 (.agg (iS 6))),
 oP 1 33 (.call 8 [.t 32] [.c (.ptr),.c (.int .i64)]),
 mV 2 31 33,
 oP 3 34 (.ext 31 0),
 oP 4 35 (.ext 31 1),
 mV 5 6 34,
 mV 6 7 35]) (.seq (.seq (.region [mV 0 36 7,
 oP 1 37 (.cmp .neq .i64 (.t 36) (kI 0)),
 mV 2 38 37,
 ⟨3,some 39,.move (.t 6),some (38,false)⟩,
 ⟨4,some 40,.pnil false (.t 39),some (38,false)⟩,
 oP 5 41 (.pick (.t 38) (kB true) (.t 40))]) (.cut [1,5,6,41,146] c22)) c84)))
def d:DFn:={ ntmps:=150,res:=[.t 4],body:=(.seq (.region [oP 0 4 (.move (kB false))]) (.seq (.seq (.region [oP 0 18 (.call 5 [] [.c (.bool)]),
 oP 1 19 (.not (.t 18))]) (.cond (.t 19) (.seq (.region [oP 0 4 (.move (kB false))]) .ret) .skip)) (.seq (.seq (.region [mV 0 20 0,
 oP 1 21 (.len (.t 20)),
 oP 2 22 (.cmp .gtr .i64 (.t 21) (kI 6)),
 mV 3 23 22,
 ⟨4,some 24,.move (.t 1),some (23,false)⟩,
 ⟨5,some 25,.len (.t 24),some (23,false)⟩,
 ⟨6,some 26,.cmp .gtr .i64 (.t 25) (kI 250),some (23,false)⟩,
 oP 7 27 (.pick (.t 23) (kB true) (.t 26))]) (.cut [0,1,27] c13)) c87))) }
def k87:Kont:=execC M.j C (M.ag C) c87 ({ exits:=[],ret:=retK d }:Env) (retK d)
def J13 (a b c e f g:Nat) (h:Bool) (G:GH):Option Res:=M.j (execC M.j C (M.ag C) c13 ({ exits:=[],ret:=retK d }:Env) (k87 M C)) (vS 1 a b c::(vS 1 e f g::(uS 25 (vB h::(uS 122 []))))) G
def k84:Kont:=execC M.j C (M.ag C) c84 ({ exits:=[],ret:=retK d }:Env) (retK d)
def J22 (a b c e f:Nat) (g:Bool) (h i k l m n:Int) (G:GH):Option Res:=M.j (execC M.j C (M.ag C) c22 ({ exits:=[],ret:=retK d }:Env) (k84 M C)) (uS 1 (vS 1 a b c::(uS 3 (.ref 146 0::(vP e f::(uS 34 (vB g::(uS 104 (.box [.int .i64 h,.int .i64 i,.int .i64 k,.int .i64 l,.int .i64 m,.int .i64 n]::(uS 3 [])))))))))) G
def k80:Kont:=execC M.j C (M.ag C) c80 ({ exits:=[],ret:=retK d }:Env) (retK d)
def e76:Env:={ exits:=(0,(k80 M C))::(({ exits:=[],ret:=retK d }:Env)).exits,ret:=(({ exits:=[],ret:=retK d }:Env)).ret }
def L75 (a b c d e:Nat) (f g h i j k l m n o:Int) (G:GH):Option Res:=M.ag C [6,8,9,10,11,147] c74 (e76 M C) (k80 M C) (uS 6 (vP a b::(uS 1 (.ref 147 0::(vS 6 c d e::(vI f::(vI g::(uS 135 (.box [.int .i64 h,.int .i64 i,.int .i64 j,.int .i64 k,.int .i64 l,.int .i64 m,.int .i64 n,.int .i64 o]::(uS 2 [])))))))))) G
def k75:Kont:=fun tm G=>M.ag C [6,8,9,10,11,147] c74 (e76 M C) (k80 M C) (restr [6,8,9,10,11,147] 0 tm) G
def k72:Kont:=execC M.j C (M.ag C) c72 (e76 M C) (k75 M C)
def e71:Env:={ exits:=(1,(k72 M C))::((e76 M C)).exits,ret:=((e76 M C)).ret }
def k67:Kont:=execC M.j C (M.ag C) c67 (e71 M C) (k72 M C)
def e57:Env:={ exits:=(2,(k67 M C))::((e71 M C)).exits,ret:=((e71 M C)).ret }
def L56 (a b c d e:Nat) (f g:Int) (h i j:Nat) (k l m n o p q r s t v w x y z A B:Int) (G:GH):Option Res:=M.ag C [6,8,9,10,11,12,13,14,147,148] c55 (e57 M C) (k67 M C) (uS 6 (vP a b::(uS 1 (.ref 147 0::(vS 6 c d e::(vI f::(vI g::(.ref 148 0::(vS 3 h i j::(vI k::(uS 132 (.box [.int .i64 l,.int .i64 m,.int .i64 n,.int .i64 o,.int .i64 p,.int .i64 q,.int .i64 r,.int .i64 s]::(.box [.int .i64 t,.int .i64 v,.int .i64 w,.int .u8 x,.int .i64 y,.int .i64 z,.int .i64 A,.int .i64 B]::(uS 1 [])))))))))))))) G
def k56:Kont:=fun tm G=>M.ag C [6,8,9,10,11,12,13,14,147,148] c55 (e57 M C) (k67 M C) (restr [6,8,9,10,11,12,13,14,147,148] 0 tm) G
def k53:Kont:=execC M.j C (M.ag C) c53 (e57 M C) (k56 M C)
def e52:Env:={ exits:=(3,(k53 M C))::((e57 M C)).exits,ret:=((e57 M C)).ret }
def k49:Kont:=execC M.j C (M.ag C) c49 (e52 M C) (k53 M C)
def J47 (a b c d e:Nat) (f g:Int) (h i k:Nat) (l m:Int) (n:Bool) (o p q r s t v w x y z A B D E F:Int) (G:GH):Option Res:=M.j (execC M.j C (M.ag C) c47 (e52 M C) (k49 M C)) (uS 6 (vP a b::(uS 1 (.ref 147 0::(vS 6 c d e::(vI f::(vI g::(.ref 148 0::(vS 3 h i k::(vI l::(vI m::(uS 82 (vB n::(uS 48 (.box [.int .i64 o,.int .i64 p,.int .i64 q,.int .i64 r,.int .i64 s,.int .i64 t,.int .i64 v,.int .i64 w]::(.box [.int .i64 x,.int .i64 y,.int .i64 z,.int .u8 A,.int .i64 B,.int .i64 D,.int .i64 E,.int .i64 F]::(uS 1 []))))))))))))))))) G
def J65 (a b c d e:Nat) (f g:Int) (h:Bool) (i k l m n o p q:Int) (G:GH):Option Res:=M.j (execC M.j C (M.ag C) c65 (e71 M C) (k72 M C)) (uS 6 (vP a b::(uS 1 (.ref 147 0::(vS 6 c d e::(vI f::(vI g::(uS 133 (vB h::(uS 1 (.box [.int .i64 i,.int .i64 k,.int .i64 l,.int .i64 m,.int .i64 n,.int .i64 o,.int .i64 p,.int .i64 q]::(uS 2 [])))))))))))) G
theorem J13_eq (o p q f g h:Nat) (r:Bool) (G:GH):J13 M C o p q f g h r G=(bif r then some ([.c (.bool true)],G) else (C F34.id [.c (.sl 1 o p q)] G).bind fun s=>(((s.1[0]?).bind V1.c?).bind Cell.asP).bind fun t=>(C F11.id [.c (.ptr t.1 t.2),.c (.bool false)] s.2).bind fun v=>((v.1[0]?).bind V1.a?).bind fun b=>if b.length=6 then (((b[0]?).bind (Cell.asI .i64)).bind fun i=>((b[1]?).bind (Cell.asI .i64)).bind fun j=>((b[2]?).bind (Cell.asI .i64)).bind fun k=>((b[3]?).bind (Cell.asI .i64)).bind fun l=>((b[4]?).bind (Cell.asI .i64)).bind fun m=>((b[5]?).bind (Cell.asI .i64)).bind fun n=>(C F107.id [.agg [.int .i64 i,.int .i64 j,.int .i64 k,.int .i64 l,.int .i64 m,.int .i64 n]] v.2).bind fun e=>(((e.1[0]?).bind V1.c?).bind Cell.asP).bind fun d=>(((e.1[1]?).bind V1.c?).bind (Cell.asI .i64)).bind fun w=>bif (!decide (w=0)) then J22 M C f g h d.1 d.2 true i j k l m n e.2 else J22 M C f g h d.1 d.2 (Bool.xor false (Nat.beq d.1 0)) i j k l m n e.2) else none):=(M.hj _ _ _).trans (by kernel_rfl)
theorem J22_eq (g h i d e:Nat) (j:Bool) (k l m n o p:Int) (G:GH):J22 M C g h i d e j k l m n o p G=(bif j then some ([.c (.bool (Bool.xor false (Nat.beq d 0)))],G) else (C F51.id [.c (.ptr d e)] G).bind fun q=>((q.1[0]?).bind V1.a?).bind fun b=>if b.length=8 then (((b[0]?).bind (Cell.asI .i64)).bind fun v=>((b[1]?).bind (Cell.asI .i64)).bind fun w=>((b[2]?).bind (Cell.asI .i64)).bind fun x=>((b[3]?).bind (Cell.asI .i64)).bind fun y=>((b[4]?).bind (Cell.asI .i64)).bind fun z=>((b[5]?).bind (Cell.asI .i64)).bind fun A=>((b[6]?).bind (Cell.asI .i64)).bind fun B=>((b[7]?).bind (Cell.asI .i64)).bind fun D=>(C F34.id [.c (.sl 1 g h i)] q.2).bind fun r=>(((r.1[0]?).bind V1.c?).bind Cell.asP).bind fun s=>(C F12.id [.c (.ptr s.1 s.2),.agg [.int .i64 k,.int .i64 l,.int .i64 m,.int .i64 n,.int .i64 o,.int .i64 p],.c (.int .i64 80)] r.2).bind fun t=>(((t.1[0]?).bind V1.c?).bind (Cell.asS 6)).bind fun f=>L75 M C d e f.1 f.2.1 f.2.2 0 0 v w x y z A B D t.2) else none):=(M.hj _ _ _).trans (by kernel_rfl)
theorem L75_eq (g h e f i:Nat) (k b l m n o p q r s:Int) (G:GH):L75 M C g h e f i k b l m n o p q r s G=(bif decide (b<((i:Nat):Int)) then guardK (decide (0≤b∧b<((i:Nat):Int))) (((G.ld e ((f+Int.toNat b*6)+0)).bind (Cell.asI .i64)).bind fun w=>((G.ld e ((f+Int.toNat b*6)+1)).bind (Cell.asI .i64)).bind fun x=>((G.ld e ((f+Int.toNat b*6)+2)).bind (Cell.asI .i64)).bind fun y=>((G.ld e ((f+Int.toNat b*6)+3)).bind (Cell.asI .i64)).bind fun z=>((G.ld e ((f+Int.toNat b*6)+4)).bind (Cell.asI .i64)).bind fun A=>((G.ld e ((f+Int.toNat b*6)+5)).bind (Cell.asI .u8)).bind fun B=>(C F69.id [.c (.ptr g h),.agg [.int .i64 w,.int .i64 x,.int .i64 y,.int .i64 z,.int .i64 A,.int .u8 B]] G).bind fun t=>((t.1[0]?).bind V1.a?).bind fun d=>if d.length=8 then (((d[0]?).bind (Cell.asI .i64)).bind fun D=>((d[1]?).bind (Cell.asI .i64)).bind fun E=>((d[2]?).bind (Cell.asI .i64)).bind fun F=>((d[3]?).bind (Cell.asI .u8)).bind fun H=>((d[4]?).bind (Cell.asI .i64)).bind fun I=>((d[5]?).bind (Cell.asI .i64)).bind fun J=>((d[6]?).bind (Cell.asI .i64)).bind fun K=>((d[7]?).bind (Cell.asI .i64)).bind fun L=>(C F29.id [.c (.ptr g h)] t.2).bind fun v=>(((v.1[0]?).bind V1.c?).bind (Cell.asS 3)).bind fun j=>L56 M C g h e f i k b j.1 j.2.1 j.2.2 0 l m n o p q r s D E F H I J K L v.2) else none) else some ([.c (.bool true)],G)):=(M.hs _ _ _ _ _ _ _).trans (by kernel_rfl)
theorem L56_eq (m n o p q:Nat) (l r:Int) (s t w:Nat) (b g h d i e f j k z B D E F H I J:Int) (G:GH):L56 M C m n o p q l r s t w b g h d i e f j k z B D E F H I J G=(bif decide (b<((w:Nat):Int)) then guardK (decide (0≤b∧b<((w:Nat):Int))) (((G.ld s ((t+Int.toNat b*3)+1)).bind (Cell.asI .i64)).bind fun Q=>(C F84.id [.agg [.int .i64 g,.int .i64 h,.int .i64 d,.int .i64 i,.int .i64 e,.int .i64 f,.int .i64 j,.int .i64 k],.c (.int .i64 Q)] G).bind fun y=>(((y.1[0]?).bind V1.c?).bind (Cell.asI .i64)).bind fun K=>(((y.1[1]?).bind V1.c?).bind Cell.asB).bind fun R=>bif (!R) then J47 M C m n o p q l r s t w b K true g h d i e f j k z B D E F H I J y.2 else guardK (decide (0≤b∧b<((w:Nat):Int))) (((y.2.ld s ((t+Int.toNat b*3)+0)).bind (Cell.asI .i64)).bind fun L=>guardK (decide (0≤b∧b<((w:Nat):Int))) (((y.2.ld s ((t+Int.toNat b*3)+1)).bind (Cell.asI .i64)).bind fun N=>(C F102.id [.agg [.int .i64 g,.int .i64 h,.int .i64 d,.int .i64 i,.int .i64 e,.int .i64 f,.int .i64 j,.int .i64 k],.c (.int .i64 K)] y.2).bind fun A=>(((A.1[0]?).bind V1.c?).bind (Cell.asI .i64)).bind fun S=>((A.2.ld s ((t+Int.toNat b*3)+0)).bind (Cell.asI .i64)).bind fun T=>guardK (decide ((.c (.int .i64 L):V1) = .c (.int .i64 T))) (((A.2.ld s ((t+Int.toNat b*3)+1)).bind (Cell.asI .i64)).bind fun U=>guardK (decide ((.c (.int .i64 N):V1) = .c (.int .i64 U))) (J47 M C m n o p q l r s t w b K (decide (IntKind.i64.wrap (L+N)>S)) g h d i e f j k z B D E F H I J A.2))))) else (C F69.id [.c (.ptr m n),.agg [.int .i64 10,.int .i64 0,.int .i64 0,.int .i64 0,.int .i64 0,.int .u8 0]] G).bind fun O=>((O.1[0]?).bind V1.a?).bind fun v=>if v.length=8 then (((v[0]?).bind (Cell.asI .i64)).bind fun Y=>((v[1]?).bind (Cell.asI .i64)).bind fun Z=>((v[2]?).bind (Cell.asI .i64)).bind fun a0=>((v[3]?).bind (Cell.asI .u8)).bind fun a1=>((v[4]?).bind (Cell.asI .i64)).bind fun a2=>((v[5]?).bind (Cell.asI .i64)).bind fun V=>((v[6]?).bind (Cell.asI .i64)).bind fun W=>((v[7]?).bind (Cell.asI .i64)).bind fun P=>(C F79.id [.agg [.int .i64 g,.int .i64 h,.int .i64 d,.int .i64 i,.int .i64 e,.int .i64 f,.int .i64 j,.int .i64 k],.c (.sl 3 s t w)] O.2).bind fun x=>(((x.1[0]?).bind V1.c?).bind Cell.asB).bind fun X=>bif (!X) then J65 M C m n o p q l r true g h d i e f j k x.2 else bif decide (W>l) then J65 M C m n o p q l r true g h d i e f j k x.2 else bif decide (P>f) then J65 M C m n o p q l r true g h d i e f j k x.2 else bif decide (IntKind.i64.wrap (P*e)>mx2 l 0) then J65 M C m n o p q l r true g h d i e f j k x.2 else bif decide (V>d) then J65 M C m n o p q l r true g h d i e f j k x.2 else J65 M C m n o p q l r (decide (z=7)) g h d i e f j k x.2) else none):=(M.hs _ _ _ _ _ _ _).trans (by kernel_rfl)
theorem J47_eq (j k l m n:Nat) (o p:Int) (q r s:Nat) (t v:Int) (w:Bool) (a b d e f g h i x y z A B D E F:Int) (G:GH):J47 M C j k l m n o p q r s t v w a b d e f g h i x y z A B D E F G=(bif w then some ([.c (.bool false)],G) else (C F102.id [.agg [.int .i64 a,.int .i64 b,.int .i64 d,.int .i64 e,.int .i64 f,.int .i64 g,.int .i64 h,.int .i64 i],.c (.int .i64 v)] G).bind fun H=>(((H.1[0]?).bind V1.c?).bind (Cell.asI .i64)).bind fun I=>L56 M C j k l m n (mx2 o I) p q r s (IntKind.i64.wrap (t+1)) a b d e f g h i x y z A B D E F H.2):=(M.hj _ _ _).trans (by kernel_rfl)
theorem J65_eq (a b d e f:Nat) (g h:Int) (i:Bool) (j k l m n o p q:Int) (G:GH):J65 M C a b d e f g h i j k l m n o p q G=(bif i then some ([.c (.bool false)],G) else L75 M C a b d e f g (IntKind.i64.wrap (h+1)) j k l m n o p q G):=(M.hj _ _ _).trans (by kernel_rfl)
def f (e g b h i d:Nat) (G:GH):Option Res:=(C F33.id [] G).bind fun a=>(((a.1[0]?).bind V1.c?).bind Cell.asB).bind fun j=>bif (!j) then some ([.c (.bool false)],a.2) else bif decide (((b:Nat):Int)>6) then J13 M C e g b h i d true a.2 else J13 M C e g b h i d (decide (((d:Nat):Int)>250)) a.2
theorem eq (a b e g h i:Nat) (G:GH):runF M C d [.c (.sl 1 a b e),.c (.sl 1 g h i)] G=f M C a b e g h i G:=by kernel_rfl
end hodmantop_TopCeil
namespace F57
def c56:DCode:=(.cond (.t 130) (.seq (.region [oP 0 131 (.ldL 3 166 (.agg [.int .i64,.int .i64,.int .i64,.int .i64,.int .i64,.int .i64,.int .i64,.int .i64,.sl 3,.int .i64,.int .i64,.int .i64,.sl 1,.sl 1])),
 oP 1 132 (.call 48 [.t 131,.k (.c (.int .i64 9))] [.agg [.int .i64,.int .i64,.int .i64,.int .i64,.int .i64,.int .i64,.int .i64,.int .i64,.sl 3,.int .i64,.int .i64,.int .i64,.sl 1,.sl 1],.agg sA]),
 oP 2 133 (.ext 132 0),
 oP 3 134 (.ext 132 1),
 ⟨4,none,.stL 6 168 (.t 133) 14,none⟩,
 ⟨5,none,.stL 7 169 (.t 134) 8,none⟩]) .ret) .skip)
def c72:DCode:=(.seq (.seq (.region [oP 0 135 (.faddr 4 0),
 oP 1 136 (.ldL 135 167 (.c (.int .i64))),
 oP 2 137 (.cmp .eql .i64 (.t 136) (kI 7))]) (.cond (.t 137) (.seq (.region [oP 0 138 (.ldL 3 166 (.agg [.int .i64,.int .i64,.int .i64,.int .i64,.int .i64,.int .i64,.int .i64,.int .i64,.sl 3,.int .i64,.int .i64,.int .i64,.sl 1,.sl 1])),
 oP 1 139 (.faddr 3 13),
 oP 2 140 (.ldL 139 166 (.c (.sl 1))),
 oP 3 141 (.faddr 8 0),
 oP 4 142 (.ldL 141 170 (.c (.int .i64))),
 oP 5 143 (.faddr 4 4),
 oP 6 144 (.ldL 143 167 (.c (.int .i64))),
 oP 7 145 (.bin .add .i64 (.t 142) (.t 144)),
 oP 8 146 (.iaddr (.t 140) (.t 145) 1),
 oP 9 147 (.ldG 146 (.c (.int .u8))),
 oP 10 148 (.build zA [(3,1,.t 147)]),
 ⟨11,none,.stL 6 168 (.t 138) 14,none⟩,
 ⟨12,none,.stL 7 169 (.t 148) 8,none⟩]) .ret) .skip)) (.seq (.region [oP 0 149 (.bslice 0 1 [] []),
 oP 1 150 (.faddr 3 13),
 oP 2 151 (.ldL 150 166 (.c (.sl 1))),
 oP 3 152 (.app (.t 149) (.t 151) 1 1),
 oP 4 153 (.faddr 3 13),
 ⟨5,none,.stL 153 166 (.t 152) 1,none⟩]) (.seq (.region [oP 0 154 (.faddr 3 13),
 oP 1 155 (.ldL 154 166 (.c (.sl 1))),
 oP 2 156 (.faddr 8 0),
 oP 3 157 (.ldL 156 170 (.c (.int .i64))),
 oP 4 158 (.faddr 4 4),
 oP 5 159 (.ldL 158 167 (.c (.int .i64))),
 oP 6 160 (.bin .add .i64 (.t 157) (.t 159)),
 oP 7 161 (.faddr 4 5),
 oP 8 162 (.ldL 161 167 (.c (.int .u8))),
 oP 9 163 (.iaddr (.t 155) (.t 160) 1),
 ⟨10,none,.stG 163 (.t 162) 1,none⟩]) (.seq (.region [oP 0 164 (.ldL 3 166 (.agg [.int .i64,.int .i64,.int .i64,.int .i64,.int .i64,.int .i64,.int .i64,.int .i64,.sl 3,.int .i64,.int .i64,.int .i64,.sl 1,.sl 1])),
 oP 1 165 (.build zA []),
 ⟨2,none,.stL 6 168 (.t 164) 14,none⟩,
 ⟨3,none,.stL 7 169 (.t 165) 8,none⟩]) .ret))))
def d:DFn:={ ntmps:=172,res:=[.box 6 (some 14),.box 7 (some 8)],body:=(.seq (.region [oP 0 3 (.boxv 166 [15,21,26,37,39,82,106,111,112,139,150,153,154] (.t 0) 14),
 oP 1 4 (.boxv 167 [32,43,59,121,125,135,143,158,161] (.t 1) 6),
 oP 2 6 (.boxz 168 [] [.int .i64 0,.int .i64 0,.int .i64 0,.int .i64 0,.int .i64 0,.int .i64 0,.int .i64 0,.int .i64 0,.sl 3 0 0 0,.int .i64 0,.int .i64 0,.int .i64 0,.sl 1 0 0 0,.sl 1 0 0 0]),
 oP 3 7 (.boxz 169 [] zA)]) (.seq (.region [oP 0 15 (.faddr 3 8),
 oP 1 16 (.ldL 15 166 (.c (.sl 3))),
 mV 2 17 2,
 oP 3 18 (.iaddr (.t 16) (.t 17) 3),
 oP 4 19 (.ldG 18 (.agg (iS 3))),
 oP 5 8 (.boxz 170 [41,73,84,86,108,118,127,141,156] (zI 3)),
 ⟨6,none,.stL 8 170 (.t 19) 3,none⟩]) (.seq (.region [oP 0 20 (.bslice 0 3 [] []),
 oP 1 21 (.faddr 3 8),
 oP 2 22 (.ldL 21 166 (.c (.sl 3))),
 mV 3 23 2,
 oP 4 24 (.slice (.t 22) none (some (.t 23)) 3),
 oP 5 25 (.app (.t 20) (.t 24) 3 24),
 oP 6 26 (.faddr 3 8),
 oP 7 27 (.ldL 26 166 (.c (.sl 3))),
 mV 8 28 2,
 oP 9 29 (.bin .add .i64 (.t 28) (kI 1)),
 oP 10 30 (.slice (.t 27) (some (.t 29)) none 3),
 oP 11 31 (.app (.t 25) (.t 30) 3 24),
 mV 12 9 31]) (.seq (.seq (.region [oP 0 32 (.faddr 4 0),
 oP 1 33 (.ldL 32 167 (.c (.int .i64)))]) (.block 0 (.seq (.region [oP 0 35 (.cmp .eql .i64 (.t 33) (kI 4)),
 mV 1 34 35]) (.cond (.t 34) (.seq (.region [oP 0 37 (.faddr 3 0),
 oP 1 38 (.ldL 37 166 (.agg (iS 8))),
 oP 2 39 (.faddr 3 9),
 oP 3 40 (.ldL 39 166 (.c (.int .i64))),
 oP 4 41 (.faddr 8 1),
 oP 5 42 (.ldL 41 170 (.c (.int .i64))),
 oP 6 43 (.faddr 4 2),
 oP 7 44 (.ldL 43 167 (.c (.int .i64))),
 oP 8 45 (.call 69 [.t 38,.t 40,.t 42,.t 44] [.c (.int .i64),.c (.int .i64)]),
 mV 9 36 45,
 oP 10 46 (.ext 36 0),
 oP 11 47 (.ext 36 1),
 mV 12 10 46,
 mV 13 11 47]) (.seq (.seq (.region [mV 0 48 11,
 oP 1 49 (.cmp .neq .i64 (.t 48) (kI 0))]) (.cond (.t 49) (.seq (.region [oP 0 50 (.ldL 3 166 (.agg [.int .i64,.int .i64,.int .i64,.int .i64,.int .i64,.int .i64,.int .i64,.int .i64,.sl 3,.int .i64,.int .i64,.int .i64,.sl 1,.sl 1])),
 mV 1 51 11,
 oP 2 52 (.call 48 [.t 50,.t 51] [.agg [.int .i64,.int .i64,.int .i64,.int .i64,.int .i64,.int .i64,.int .i64,.int .i64,.sl 3,.int .i64,.int .i64,.int .i64,.sl 1,.sl 1],.agg sA]),
 oP 3 53 (.ext 52 0),
 oP 4 54 (.ext 52 1),
 ⟨5,none,.stL 6 168 (.t 53) 14,none⟩,
 ⟨6,none,.stL 7 169 (.t 54) 8,none⟩]) .ret) .skip)) (.seq (.region [oP 0 56 (.ldL 3 166 (.agg [.int .i64,.int .i64,.int .i64,.int .i64,.int .i64,.int .i64,.int .i64,.int .i64,.sl 3,.int .i64,.int .i64,.int .i64,.sl 1,.sl 1])),
 mV 1 57 9,
 mV 2 58 10,
 oP 3 59 (.faddr 4 2),
 oP 4 60 (.ldL 59 167 (.c (.int .i64))),
 oP 5 61 (.call 66 [.t 56,.t 57,.t 58,.t 60] [.agg [.int .i64,.int .i64,.int .i64,.int .i64,.int .i64,.int .i64,.int .i64,.int .i64,.sl 3,.int .i64,.int .i64,.int .i64,.sl 1,.sl 1],.c (.int .i64),.c (.int .i64)]),
 mV 6 55 61,
 oP 7 62 (.ext 55 0),
 oP 8 63 (.ext 55 1),
 oP 9 64 (.ext 55 2),
 oP 10 12 (.boxz 171 [77,92,99] [.int .i64 0,.int .i64 0,.int .i64 0,.int .i64 0,.int .i64 0,.int .i64 0,.int .i64 0,.int .i64 0,.sl 3 0 0 0,.int .i64 0,.int .i64 0,.int .i64 0,.sl 1 0 0 0,.sl 1 0 0 0]),
 ⟨11,none,.stL 12 171 (.t 62) 14,none⟩,
 mV 12 13 63,
 mV 13 11 64]) (.seq (.seq (.region [mV 0 65 11,
 oP 1 66 (.cmp .neq .i64 (.t 65) (kI 0))]) (.cond (.t 66) (.seq (.region [oP 0 67 (.ldL 3 166 (.agg [.int .i64,.int .i64,.int .i64,.int .i64,.int .i64,.int .i64,.int .i64,.int .i64,.sl 3,.int .i64,.int .i64,.int .i64,.sl 1,.sl 1])),
 mV 1 68 11,
 oP 2 69 (.call 48 [.t 67,.t 68] [.agg [.int .i64,.int .i64,.int .i64,.int .i64,.int .i64,.int .i64,.int .i64,.int .i64,.sl 3,.int .i64,.int .i64,.int .i64,.sl 1,.sl 1],.agg sA]),
 oP 3 70 (.ext 69 0),
 oP 4 71 (.ext 69 1),
 ⟨5,none,.stL 6 168 (.t 70) 14,none⟩,
 ⟨6,none,.stL 7 169 (.t 71) 8,none⟩]) .ret) .skip)) (.seq (.region [mV 0 72 10,
 oP 1 73 (.faddr 8 1),
 oP 2 74 (.ldL 73 170 (.c (.int .i64))),
 oP 3 75 (.mn (.t 72) [.t 74]),
 mV 4 14 75]) (.seq (.region [oP 0 76 (.bslice 0 1 [] []),
 oP 1 77 (.faddr 12 13),
 oP 2 78 (.ldL 77 171 (.c (.sl 1))),
 mV 3 79 13,
 oP 4 80 (.slice (.t 78) none (some (.t 79)) 1),
 oP 5 81 (.app (.t 76) (.t 80) 1 1),
 oP 6 82 (.faddr 3 13),
 oP 7 83 (.ldL 82 166 (.c (.sl 1))),
 oP 8 84 (.faddr 8 0),
 oP 9 85 (.ldL 84 170 (.c (.int .i64))),
 oP 10 86 (.faddr 8 0),
 oP 11 87 (.ldL 86 170 (.c (.int .i64))),
 mV 12 88 14,
 oP 13 89 (.bin .add .i64 (.t 87) (.t 88)),
 oP 14 90 (.slice (.t 83) (some (.t 85)) (some (.t 89)) 1),
 oP 15 91 (.app (.t 81) (.t 90) 1 1),
 oP 16 92 (.faddr 12 13),
 oP 17 93 (.ldL 92 171 (.c (.sl 1))),
 mV 18 94 13,
 mV 19 95 14,
 oP 20 96 (.bin .add .i64 (.t 94) (.t 95)),
 oP 21 97 (.slice (.t 93) (some (.t 96)) none 1),
 oP 22 98 (.app (.t 91) (.t 97) 1 1),
 oP 23 99 (.faddr 12 13),
 ⟨24,none,.stL 99 171 (.t 98) 1,none⟩]) (.seq (.region [oP 0 100 (.ldL 12 171 (.agg [.int .i64,.int .i64,.int .i64,.int .i64,.int .i64,.int .i64,.int .i64,.int .i64,.sl 3,.int .i64,.int .i64,.int .i64,.sl 1,.sl 1])),
 mV 1 101 13,
 oP 2 102 (.build zA [(1,1,.t 101)]),
 ⟨3,none,.stL 6 168 (.t 100) 14,none⟩,
 ⟨4,none,.stL 7 169 (.t 102) 8,none⟩]) .ret))))))) (.seq (.region [oP 0 104 (.cmp .eql .i64 (.t 33) (kI 5)),
 mV 1 103 104]) (.cond (.t 103) (.seq (.region [mV 0 105 9,
 oP 1 106 (.faddr 3 9),
 oP 2 107 (.ldL 106 166 (.c (.int .i64))),
 oP 3 108 (.faddr 8 1),
 oP 4 109 (.ldL 108 170 (.c (.int .i64))),
 oP 5 110 (.bin .sub .i64 (.t 107) (.t 109)),
 oP 6 111 (.faddr 3 8),
 ⟨7,none,.stL 111 166 (.t 105) 1,none⟩,
 oP 8 112 (.faddr 3 9),
 ⟨9,none,.stL 112 166 (.t 110) 1,none⟩]) (.seq (.region [oP 0 113 (.ldL 3 166 (.agg [.int .i64,.int .i64,.int .i64,.int .i64,.int .i64,.int .i64,.int .i64,.int .i64,.sl 3,.int .i64,.int .i64,.int .i64,.sl 1,.sl 1])),
 oP 1 114 (.build zA []),
 ⟨2,none,.stL 6 168 (.t 113) 14,none⟩,
 ⟨3,none,.stL 7 169 (.t 114) 8,none⟩]) .ret)) (.seq (.region [oP 0 116 (.cmp .eql .i64 (.t 33) (kI 6)),
 mV 1 115 116]) (.cond (.t 115) (.seq (.region [oP 0 117 (.ldL 3 166 (.agg [.int .i64,.int .i64,.int .i64,.int .i64,.int .i64,.int .i64,.int .i64,.int .i64,.sl 3,.int .i64,.int .i64,.int .i64,.sl 1,.sl 1])),
 oP 1 118 (.faddr 8 1),
 oP 2 119 (.ldL 118 170 (.c (.int .i64))),
 oP 3 120 (.build zA [(2,1,.t 119)]),
 ⟨4,none,.stL 6 168 (.t 117) 14,none⟩,
 ⟨5,none,.stL 7 169 (.t 120) 8,none⟩]) .ret) .skip)))))))) (.seq (.seq (.region [oP 0 121 (.faddr 4 4),
 oP 1 122 (.ldL 121 167 (.c (.int .i64))),
 oP 2 123 (.cmp .lss .i64 (.t 122) (kI 0)),
 mV 3 124 123,
 ⟨4,some 125,.faddr 4 4,some (124,false)⟩,
 ⟨5,some 126,.ldL 125 167 (.c (.int .i64)),some (124,false)⟩,
 ⟨6,some 127,.faddr 8 1,some (124,false)⟩,
 ⟨7,some 128,.ldL 127 170 (.c (.int .i64)),some (124,false)⟩,
 ⟨8,some 129,.cmp .geq .i64 (.t 126) (.t 128),some (124,false)⟩,
 oP 9 130 (.pick (.t 124) (kB true) (.t 129))]) (.cut [3,4,6,7,8,130,166,167,168,169,170] c56)) c72))))) }
def k72:Kont:=execC M.j C (M.ag C) c72 ({ exits:=[],ret:=retK d }:Env) (retK d)
def J56 (a:Bool) (b c e f g h i k:Int) (l m n:Nat) (o p q:Int) (r s t v w x:Nat) (y z A B D E F H I J K L N O:Int) (P Q R:Nat) (S T U:Int) (V W X Y Z a0:Nat) (a1 a2 a3 a4 a5 a6 a7 a8 a9 b0 b1:Int) (G:GH):Option Res:=M.j (execC M.j C (M.ag C) c56 ({ exits:=[],ret:=retK d }:Env) (k72 M C)) (uS 3 (.ref 166 0::(.ref 167 0::(uS 1 (.ref 168 0::(.ref 169 0::(.ref 170 0::(uS 121 (vB a::(uS 35 (.box [.int .i64 b,.int .i64 c,.int .i64 e,.int .i64 f,.int .i64 g,.int .i64 h,.int .i64 i,.int .i64 k,.sl 3 l m n,.int .i64 o,.int .i64 p,.int .i64 q,.sl 1 r s t,.sl 1 v w x]::(.box [.int .i64 y,.int .i64 z,.int .i64 A,.int .i64 B,.int .i64 D,.int .u8 E]::(.box [.int .i64 F,.int .i64 H,.int .i64 I,.int .i64 J,.int .i64 K,.int .i64 L,.int .i64 N,.int .i64 O,.sl 3 P Q R,.int .i64 S,.int .i64 T,.int .i64 U,.sl 1 V W X,.sl 1 Y Z a0]::(.box [.int .i64 a1,.int .i64 a2,.int .i64 a3,.int .u8 a4,.int .i64 a5,.int .i64 a6,.int .i64 a7,.int .i64 a8]::(.box [.int .i64 a9,.int .i64 b0,.int .i64 b1]::(uS 1 [])))))))))))))))) G
theorem J56_eq (I:Bool) (k l m n o p q r:Int) (s t v:Nat) (w x y:Int) (z A B h i d:Nat) (J N O P f K Q R S T U V W X:Int) (Y Z a0:Nat) (a1 a2 a3:Int) (a4 a5 a6 a7 a8 a9:Nat) (b0 b1 b2 b3 b4 b5 b6 b7 g b8 b9:Int) (G:GH):J56 M C I k l m n o p q r s t v w x y z A B h i d J N O P f K Q R S T U V W X Y Z a0 a1 a2 a3 a4 a5 a6 a7 a8 a9 b0 b1 b2 b3 b4 b5 b6 b7 g b8 b9 G=(bif I then (C F18.id [.agg [.int .i64 k,.int .i64 l,.int .i64 m,.int .i64 n,.int .i64 o,.int .i64 p,.int .i64 q,.int .i64 r,.sl 3 s t v,.int .i64 w,.int .i64 x,.int .i64 y,.sl 1 z A B,.sl 1 h i d],.c (.int .i64 9)] G).bind fun D=>((D.1[0]?).bind V1.a?).bind fun b=>if b.length=14 then (((b[0]?).bind (Cell.asI .i64)).bind fun c0=>((b[1]?).bind (Cell.asI .i64)).bind fun c1=>((b[2]?).bind (Cell.asI .i64)).bind fun c2=>((b[3]?).bind (Cell.asI .i64)).bind fun c3=>((b[4]?).bind (Cell.asI .i64)).bind fun c4=>((b[5]?).bind (Cell.asI .i64)).bind fun c5=>((b[6]?).bind (Cell.asI .i64)).bind fun c6=>((b[7]?).bind (Cell.asI .i64)).bind fun c7=>((b[8]?).bind (Cell.asS 3)).bind fun E=>((b[9]?).bind (Cell.asI .i64)).bind fun c8=>((b[10]?).bind (Cell.asI .i64)).bind fun c9=>((b[11]?).bind (Cell.asI .i64)).bind fun d0=>((b[12]?).bind (Cell.asS 1)).bind fun F=>((b[13]?).bind (Cell.asS 1)).bind fun H=>((D.1[1]?).bind V1.a?).bind fun e=>if e.length=8 then (((e[0]?).bind (Cell.asI .i64)).bind fun d1=>((e[1]?).bind (Cell.asI .i64)).bind fun d2=>((e[2]?).bind (Cell.asI .i64)).bind fun d3=>((e[3]?).bind (Cell.asI .u8)).bind fun d4=>((e[4]?).bind (Cell.asI .i64)).bind fun d5=>((e[5]?).bind (Cell.asI .i64)).bind fun d6=>((e[6]?).bind (Cell.asI .i64)).bind fun d7=>((e[7]?).bind (Cell.asI .i64)).bind fun d8=>some ([.agg [.int .i64 c0,.int .i64 c1,.int .i64 c2,.int .i64 c3,.int .i64 c4,.int .i64 c5,.int .i64 c6,.int .i64 c7,.sl 3 E.1 E.2.1 E.2.2,.int .i64 c8,.int .i64 c9,.int .i64 d0,.sl 1 F.1 F.2.1 F.2.2,.sl 1 H.1 H.2.1 H.2.2],.agg [.int .i64 d1,.int .i64 d2,.int .i64 d3,.int .u8 d4,.int .i64 d5,.int .i64 d6,.int .i64 d7,.int .i64 d8]],D.2)) else none) else none else bif decide (J=7) then guardK (decide (0≤IntKind.i64.wrap (g+f)∧IntKind.i64.wrap (g+f)<((d:Nat):Int))) (((G.ld h (i+Int.toNat (IntKind.i64.wrap (g+f))*1)).bind (Cell.asI .u8)).bind fun d9=>some ([.agg [.int .i64 k,.int .i64 l,.int .i64 m,.int .i64 n,.int .i64 o,.int .i64 p,.int .i64 q,.int .i64 r,.sl 3 s t v,.int .i64 w,.int .i64 x,.int .i64 y,.sl 1 z A B,.sl 1 h i d],.agg [.int .i64 0,.int .i64 0,.int .i64 0,.int .u8 d9,.int .i64 0,.int .i64 0,.int .i64 0,.int .i64 0]],G)) else let L:=G.alloc (.row [] false);(if d=0 then some [] else L.lds h i (d*1)).bind fun e0=>guardK (decide (0+d≤most)) ((L.app G.next 0 0 1 d e0).bind fun j=>guardK (decide (0≤IntKind.i64.wrap (g+f)∧IntKind.i64.wrap (g+f)<((0+d:Nat):Int))) ((j.2.2.sts j.1 (j.2.1+Int.toNat (IntKind.i64.wrap (g+f))*1) [.int .u8 K]).bind fun e1=>some ([.agg [.int .i64 k,.int .i64 l,.int .i64 m,.int .i64 n,.int .i64 o,.int .i64 p,.int .i64 q,.int .i64 r,.sl 3 s t v,.int .i64 w,.int .i64 x,.int .i64 y,.sl 1 z A B,.sl 1 j.1 j.2.1 (0+d)],.agg [.int .i64 0,.int .i64 0,.int .i64 0,.int .u8 0,.int .i64 0,.int .i64 0,.int .i64 0,.int .i64 0]],e1)))):=(M.hj _ _ _).trans (by kernel_rfl)
def f (s t v w x y z A:Int) (n o i:Nat) (B H I:Int) (J K L D E F:Nat) (O a6 P a7 Q a8 b:Int) (G:GH):Option Res:=guardK (decide (0≤b∧b<((i:Nat):Int))) (((G.ld n ((o+Int.toNat b*3)+0)).bind (Cell.asI .i64)).bind fun e=>((G.ld n ((o+Int.toNat b*3)+1)).bind (Cell.asI .i64)).bind fun d=>((G.ld n ((o+Int.toNat b*3)+2)).bind (Cell.asI .i64)).bind fun q3=>let q4:=G.alloc (.row [] false);guardK (decide (0≤(0:Int)∧(0:Int)≤b∧b≤((i:Nat):Int))) ((if Int.toNat b-Int.toNat 0=0 then some [] else q4.lds n (o+Int.toNat 0*3) ((Int.toNat b-Int.toNat 0)*3)).bind fun q5=>guardK (decide (0+(Int.toNat b-Int.toNat 0)≤most)) ((q4.app G.next 0 0 3 (Int.toNat b-Int.toNat 0) q5).bind fun R=>guardK (decide (0≤IntKind.i64.wrap (b+1)∧IntKind.i64.wrap (b+1)≤((i:Nat):Int)∧((i:Nat):Int)≤((i:Nat):Int))) ((if Int.toNat ((i:Nat):Int)-Int.toNat (IntKind.i64.wrap (b+1))=0 then some [] else R.2.2.lds n (o+Int.toNat (IntKind.i64.wrap (b+1))*3) ((Int.toNat ((i:Nat):Int)-Int.toNat (IntKind.i64.wrap (b+1)))*3)).bind fun q7=>guardK (decide ((0+(Int.toNat b-Int.toNat 0))+(Int.toNat ((i:Nat):Int)-Int.toNat (IntKind.i64.wrap (b+1)))≤most)) ((R.2.2.app R.1 R.2.1 (0+(Int.toNat b-Int.toNat 0)) 3 (Int.toNat ((i:Nat):Int)-Int.toNat (IntKind.i64.wrap (b+1))) q7).bind fun p=>bif decide (O=4) then (C F44.id [.agg [.int .i64 s,.int .i64 t,.int .i64 v,.int .i64 w,.int .i64 x,.int .i64 y,.int .i64 z,.int .i64 A],.c (.int .i64 B),.c (.int .i64 d),.c (.int .i64 P)] p.2.2).bind fun S=>(((S.1[0]?).bind V1.c?).bind (Cell.asI .i64)).bind fun h=>(((S.1[1]?).bind V1.c?).bind (Cell.asI .i64)).bind fun q11=>bif (!decide (q11=0)) then (C F18.id [.agg [.int .i64 s,.int .i64 t,.int .i64 v,.int .i64 w,.int .i64 x,.int .i64 y,.int .i64 z,.int .i64 A,.sl 3 n o i,.int .i64 B,.int .i64 H,.int .i64 I,.sl 1 J K L,.sl 1 D E F],.c (.int .i64 q11)] S.2).bind fun V=>((V.1[0]?).bind V1.a?).bind fun j=>if j.length=14 then (((j[0]?).bind (Cell.asI .i64)).bind fun q14=>((j[1]?).bind (Cell.asI .i64)).bind fun q15=>((j[2]?).bind (Cell.asI .i64)).bind fun q16=>((j[3]?).bind (Cell.asI .i64)).bind fun q17=>((j[4]?).bind (Cell.asI .i64)).bind fun q18=>((j[5]?).bind (Cell.asI .i64)).bind fun q19=>((j[6]?).bind (Cell.asI .i64)).bind fun q20=>((j[7]?).bind (Cell.asI .i64)).bind fun q21=>((j[8]?).bind (Cell.asS 3)).bind fun W=>((j[9]?).bind (Cell.asI .i64)).bind fun q23=>((j[10]?).bind (Cell.asI .i64)).bind fun q24=>((j[11]?).bind (Cell.asI .i64)).bind fun q25=>((j[12]?).bind (Cell.asS 1)).bind fun X=>((j[13]?).bind (Cell.asS 1)).bind fun Y=>((V.1[1]?).bind V1.a?).bind fun q=>if q.length=8 then (((q[0]?).bind (Cell.asI .i64)).bind fun q29=>((q[1]?).bind (Cell.asI .i64)).bind fun q30=>((q[2]?).bind (Cell.asI .i64)).bind fun q31=>((q[3]?).bind (Cell.asI .u8)).bind fun q32=>((q[4]?).bind (Cell.asI .i64)).bind fun q33=>((q[5]?).bind (Cell.asI .i64)).bind fun q34=>((q[6]?).bind (Cell.asI .i64)).bind fun q35=>((q[7]?).bind (Cell.asI .i64)).bind fun q36=>some ([.agg [.int .i64 q14,.int .i64 q15,.int .i64 q16,.int .i64 q17,.int .i64 q18,.int .i64 q19,.int .i64 q20,.int .i64 q21,.sl 3 W.1 W.2.1 W.2.2,.int .i64 q23,.int .i64 q24,.int .i64 q25,.sl 1 X.1 X.2.1 X.2.2,.sl 1 Y.1 Y.2.1 Y.2.2],.agg [.int .i64 q29,.int .i64 q30,.int .i64 q31,.int .u8 q32,.int .i64 q33,.int .i64 q34,.int .i64 q35,.int .i64 q36]],V.2)) else none) else none else (C F21.id [.agg [.int .i64 s,.int .i64 t,.int .i64 v,.int .i64 w,.int .i64 x,.int .i64 y,.int .i64 z,.int .i64 A,.sl 3 n o i,.int .i64 B,.int .i64 H,.int .i64 I,.sl 1 J K L,.sl 1 D E F],.c (.sl 3 p.1 p.2.1 ((0+(Int.toNat b-Int.toNat 0))+(Int.toNat ((i:Nat):Int)-Int.toNat (IntKind.i64.wrap (b+1))))),.c (.int .i64 h),.c (.int .i64 P)] S.2).bind fun N=>((N.1[0]?).bind V1.a?).bind fun k=>if k.length=14 then (((k[0]?).bind (Cell.asI .i64)).bind fun q39=>((k[1]?).bind (Cell.asI .i64)).bind fun q40=>((k[2]?).bind (Cell.asI .i64)).bind fun q41=>((k[3]?).bind (Cell.asI .i64)).bind fun q42=>((k[4]?).bind (Cell.asI .i64)).bind fun q43=>((k[5]?).bind (Cell.asI .i64)).bind fun q44=>((k[6]?).bind (Cell.asI .i64)).bind fun q45=>((k[7]?).bind (Cell.asI .i64)).bind fun q46=>((k[8]?).bind (Cell.asS 3)).bind fun Z=>((k[9]?).bind (Cell.asI .i64)).bind fun q48=>((k[10]?).bind (Cell.asI .i64)).bind fun q49=>((k[11]?).bind (Cell.asI .i64)).bind fun q50=>((k[12]?).bind (Cell.asS 1)).bind fun a0=>((k[13]?).bind (Cell.asS 1)).bind fun m=>(((N.1[1]?).bind V1.c?).bind (Cell.asI .i64)).bind fun g=>(((N.1[2]?).bind V1.c?).bind (Cell.asI .i64)).bind fun q54=>bif (!decide (q54=0)) then (C F18.id [.agg [.int .i64 s,.int .i64 t,.int .i64 v,.int .i64 w,.int .i64 x,.int .i64 y,.int .i64 z,.int .i64 A,.sl 3 n o i,.int .i64 B,.int .i64 H,.int .i64 I,.sl 1 J K L,.sl 1 D E F],.c (.int .i64 q54)] N.2).bind fun a1=>((a1.1[0]?).bind V1.a?).bind fun l=>if l.length=14 then (((l[0]?).bind (Cell.asI .i64)).bind fun q57=>((l[1]?).bind (Cell.asI .i64)).bind fun q58=>((l[2]?).bind (Cell.asI .i64)).bind fun q59=>((l[3]?).bind (Cell.asI .i64)).bind fun q60=>((l[4]?).bind (Cell.asI .i64)).bind fun q61=>((l[5]?).bind (Cell.asI .i64)).bind fun q62=>((l[6]?).bind (Cell.asI .i64)).bind fun q63=>((l[7]?).bind (Cell.asI .i64)).bind fun q64=>((l[8]?).bind (Cell.asS 3)).bind fun a2=>((l[9]?).bind (Cell.asI .i64)).bind fun q66=>((l[10]?).bind (Cell.asI .i64)).bind fun q67=>((l[11]?).bind (Cell.asI .i64)).bind fun q68=>((l[12]?).bind (Cell.asS 1)).bind fun a3=>((l[13]?).bind (Cell.asS 1)).bind fun a4=>((a1.1[1]?).bind V1.a?).bind fun r=>if r.length=8 then (((r[0]?).bind (Cell.asI .i64)).bind fun q72=>((r[1]?).bind (Cell.asI .i64)).bind fun q73=>((r[2]?).bind (Cell.asI .i64)).bind fun q74=>((r[3]?).bind (Cell.asI .u8)).bind fun q75=>((r[4]?).bind (Cell.asI .i64)).bind fun q76=>((r[5]?).bind (Cell.asI .i64)).bind fun q77=>((r[6]?).bind (Cell.asI .i64)).bind fun q78=>((r[7]?).bind (Cell.asI .i64)).bind fun q79=>some ([.agg [.int .i64 q57,.int .i64 q58,.int .i64 q59,.int .i64 q60,.int .i64 q61,.int .i64 q62,.int .i64 q63,.int .i64 q64,.sl 3 a2.1 a2.2.1 a2.2.2,.int .i64 q66,.int .i64 q67,.int .i64 q68,.sl 1 a3.1 a3.2.1 a3.2.2,.sl 1 a4.1 a4.2.1 a4.2.2],.agg [.int .i64 q72,.int .i64 q73,.int .i64 q74,.int .u8 q75,.int .i64 q76,.int .i64 q77,.int .i64 q78,.int .i64 q79]],a1.2)) else none) else none else let q80:=N.2.alloc (.row [] false);guardK (decide (0≤(0:Int)∧(0:Int)≤g∧g≤((m.2.2:Nat):Int))) ((if Int.toNat g-Int.toNat 0=0 then some [] else q80.lds m.1 (m.2.1+Int.toNat 0*1) ((Int.toNat g-Int.toNat 0)*1)).bind fun q81=>guardK (decide (0+(Int.toNat g-Int.toNat 0)≤most)) ((q80.app N.2.next 0 0 1 (Int.toNat g-Int.toNat 0) q81).bind fun T=>guardK (decide (0≤e∧e≤IntKind.i64.wrap (e+(mn2 h d))∧IntKind.i64.wrap (e+(mn2 h d))≤((F:Nat):Int))) ((if Int.toNat (IntKind.i64.wrap (e+(mn2 h d)))-Int.toNat e=0 then some [] else T.2.2.lds D (E+Int.toNat e*1) ((Int.toNat (IntKind.i64.wrap (e+(mn2 h d)))-Int.toNat e)*1)).bind fun q83=>guardK (decide ((0+(Int.toNat g-Int.toNat 0))+(Int.toNat (IntKind.i64.wrap (e+(mn2 h d)))-Int.toNat e)≤most)) ((T.2.2.app T.1 T.2.1 (0+(Int.toNat g-Int.toNat 0)) 1 (Int.toNat (IntKind.i64.wrap (e+(mn2 h d)))-Int.toNat e) q83).bind fun U=>guardK (decide (0≤IntKind.i64.wrap (g+(mn2 h d))∧IntKind.i64.wrap (g+(mn2 h d))≤((m.2.2:Nat):Int)∧((m.2.2:Nat):Int)≤((m.2.2:Nat):Int))) ((if Int.toNat ((m.2.2:Nat):Int)-Int.toNat (IntKind.i64.wrap (g+(mn2 h d)))=0 then some [] else U.2.2.lds m.1 (m.2.1+Int.toNat (IntKind.i64.wrap (g+(mn2 h d)))*1) ((Int.toNat ((m.2.2:Nat):Int)-Int.toNat (IntKind.i64.wrap (g+(mn2 h d))))*1)).bind fun q85=>guardK (decide (((0+(Int.toNat g-Int.toNat 0))+(Int.toNat (IntKind.i64.wrap (e+(mn2 h d)))-Int.toNat e))+(Int.toNat ((m.2.2:Nat):Int)-Int.toNat (IntKind.i64.wrap (g+(mn2 h d))))≤most)) ((U.2.2.app U.1 U.2.1 ((0+(Int.toNat g-Int.toNat 0))+(Int.toNat (IntKind.i64.wrap (e+(mn2 h d)))-Int.toNat e)) 1 (Int.toNat ((m.2.2:Nat):Int)-Int.toNat (IntKind.i64.wrap (g+(mn2 h d)))) q85).bind fun a5=>some ([.agg [.int .i64 q39,.int .i64 q40,.int .i64 q41,.int .i64 q42,.int .i64 q43,.int .i64 q44,.int .i64 q45,.int .i64 q46,.sl 3 Z.1 Z.2.1 Z.2.2,.int .i64 q48,.int .i64 q49,.int .i64 q50,.sl 1 a0.1 a0.2.1 a0.2.2,.sl 1 a5.1 a5.2.1 (((0+(Int.toNat g-Int.toNat 0))+(Int.toNat (IntKind.i64.wrap (e+(mn2 h d)))-Int.toNat e))+(Int.toNat ((m.2.2:Nat):Int)-Int.toNat (IntKind.i64.wrap (g+(mn2 h d)))))],.agg [.int .i64 0,.int .i64 g,.int .i64 0,.int .u8 0,.int .i64 0,.int .i64 0,.int .i64 0,.int .i64 0]],a5.2.2)))))))) else none else bif decide (O=5) then some ([.agg [.int .i64 s,.int .i64 t,.int .i64 v,.int .i64 w,.int .i64 x,.int .i64 y,.int .i64 z,.int .i64 A,.sl 3 p.1 p.2.1 ((0+(Int.toNat b-Int.toNat 0))+(Int.toNat ((i:Nat):Int)-Int.toNat (IntKind.i64.wrap (b+1)))),.int .i64 (IntKind.i64.wrap (B-d)),.int .i64 H,.int .i64 I,.sl 1 J K L,.sl 1 D E F],.agg [.int .i64 0,.int .i64 0,.int .i64 0,.int .u8 0,.int .i64 0,.int .i64 0,.int .i64 0,.int .i64 0]],p.2.2) else bif decide (O=6) then some ([.agg [.int .i64 s,.int .i64 t,.int .i64 v,.int .i64 w,.int .i64 x,.int .i64 y,.int .i64 z,.int .i64 A,.sl 3 n o i,.int .i64 B,.int .i64 H,.int .i64 I,.sl 1 J K L,.sl 1 D E F],.agg [.int .i64 0,.int .i64 0,.int .i64 d,.int .u8 0,.int .i64 0,.int .i64 0,.int .i64 0,.int .i64 0]],p.2.2) else bif decide (Q<0) then J56 M C true s t v w x y z A n o i B H I J K L D E F O a6 P a7 Q a8 0 0 0 0 0 0 0 0 0 0 0 0 0 0 0 0 0 0 0 0 0 0 0 0 0 0 0 0 e d q3 p.2.2 else J56 M C (decide (Q≥d)) s t v w x y z A n o i B H I J K L D E F O a6 P a7 Q a8 0 0 0 0 0 0 0 0 0 0 0 0 0 0 0 0 0 0 0 0 0 0 0 0 0 0 0 0 e d q3 p.2.2)))))
theorem eq (a b e g h i j k:Int) (l m n:Nat) (o p q:Int) (r s t v w x:Nat) (y z A B D E F:Int) (G:GH):runF M C d [.agg [.int .i64 a,.int .i64 b,.int .i64 e,.int .i64 g,.int .i64 h,.int .i64 i,.int .i64 j,.int .i64 k,.sl 3 l m n,.int .i64 o,.int .i64 p,.int .i64 q,.sl 1 r s t,.sl 1 v w x],.agg [.int .i64 y,.int .i64 z,.int .i64 A,.int .i64 B,.int .i64 D,.int .u8 E],.c (.int .i64 F)] G=f M C a b e g h i j k l m n o p q r s t v w x y z A B D E F G:=by kernel_rfl
end F57
namespace F20
def c6:DCode:=(.cond (.t 38) (.seq (.region [oP 0 10 (.move (.k (.c (.sl 1 0 0 0)))),
 oP 1 11 (.move (.k (.c (.sl 1 0 0 0)))),
 oP 2 12 (.move (kB false))]) .ret) .skip)
def c21:DCode:=(.cond (.t 86) (.region [mV 0 87 15,
 mV 1 88 16,
 oP 2 89 (.bslice 1 1 [.int .i64 0] [(0,1,.t 88)]),
 oP 3 90 (.app (.t 87) (.t 89) 1 8),
 mV 4 15 90]) .skip)
def c22:DCode:=(.seq (.region [mV 0 79 17,
 mV 1 80 79,
 ⟨2,some 81,.move (.t 0),some (80,true)⟩,
 ⟨3,some 82,.move (.t 16),some (80,true)⟩,
 ⟨4,some 83,.iaddr (.t 81) (.t 82) 1,some (80,true)⟩,
 ⟨5,some 84,.ldG 83 (.c (.bool)),some (80,true)⟩,
 ⟨6,some 85,.not (.t 84),some (80,true)⟩,
 oP 7 86 (.pick (.t 80) (.t 85) (kB false))]) (.cut [0,1,2,3,4,13,14,15,16,86] c21))
def c23:DCode:=(.seq (.region [mV 0 59 13,
 mV 1 60 16,
 mV 2 61 14,
 mV 3 62 16,
 mV 4 63 1,
 mV 5 64 16,
 oP 6 65 (.iaddr (.t 63) (.t 64) 1),
 oP 7 66 (.ldG 65 (.c (.bool))),
 mV 8 67 66,
 ⟨9,some 68,.move (.t 17),some (67,false)⟩,
 oP 10 69 (.pick (.t 67) (kB true) (.t 68)),
 mV 11 70 0,
 mV 12 71 16,
 oP 13 72 (.iaddr (.t 70) (.t 71) 1),
 oP 14 73 (.ldG 72 (.c (.bool))),
 mV 15 74 73,
 ⟨16,some 75,.move (.t 17),some (74,false)⟩,
 oP 17 76 (.pick (.t 74) (kB true) (.t 75)),
 oP 18 77 (.iaddr (.t 59) (.t 60) 1),
 ⟨19,none,.stG 77 (.t 69) 1,none⟩,
 oP 20 78 (.iaddr (.t 61) (.t 62) 1),
 ⟨21,none,.stG 78 (.t 76) 1,none⟩]) (.cut [0,1,2,3,4,13,14,15,16,17] c22))
def c26:DCode:=(.region [mV 0 49 16,
 oP 1 50 (.bin .add .i64 (.t 49) (kI 1)),
 mV 2 16 50])
def c28:DCode:=(.seq (.seq (.region [mV 0 45 16,
 mV 1 46 0,
 oP 2 47 (.len (.t 46)),
 oP 3 48 (.cmp .lss .i64 (.t 45) (.t 47))]) (.cond (.t 48) .skip (.exit 0))) (.seq (.block 1 (.seq (.region [mV 0 51 16,
 mV 1 52 2,
 oP 2 53 (.cmp .geq .i64 (.t 51) (.t 52)),
 mV 3 54 53,
 ⟨4,some 55,.move (.t 16),some (54,true)⟩,
 ⟨5,some 56,.move (.t 3),some (54,true)⟩,
 ⟨6,some 57,.cmp .lss .i64 (.t 55) (.t 56),some (54,true)⟩,
 oP 7 58 (.pick (.t 54) (.t 57) (kB false)),
 mV 8 17 58]) (.cut [0,1,2,3,4,13,14,15,16,17] c23))) (.cut [0,1,2,3,4,13,14,15,16] c26)))
def c29:DCode:=(.loop [0,1,2,3,4,13,14,15,16] c28)
def c48:DCode:=(.region [mV 0 103 18,
 oP 1 104 (.bin .add .i64 (.t 103) (kI 1)),
 mV 2 18 104])
def c50:DCode:=(.seq (.seq (.region [mV 0 99 18,
 mV 1 100 0,
 oP 2 101 (.len (.t 100)),
 oP 3 102 (.cmp .lss .i64 (.t 99) (.t 101))]) (.cond (.t 102) .skip (.exit 2))) (.seq (.block 3 (.region [mV 0 105 14,
 mV 1 106 18,
 mV 2 107 14,
 mV 3 108 18,
 oP 4 109 (.iaddr (.t 107) (.t 108) 1),
 oP 5 110 (.ldG 109 (.c (.bool))),
 mV 6 111 110,
 ⟨7,some 112,.move (.t 13),some (111,true)⟩,
 ⟨8,some 113,.move (.t 18),some (111,true)⟩,
 ⟨9,some 114,.iaddr (.t 112) (.t 113) 1,some (111,true)⟩,
 ⟨10,some 115,.ldG 114 (.c (.bool)),some (111,true)⟩,
 oP 11 116 (.pick (.t 111) (.t 115) (kB false)),
 oP 12 117 (.iaddr (.t 105) (.t 106) 1),
 ⟨13,none,.stG 117 (.t 116) 1,none⟩])) (.cut [0,13,14,15,18] c48)))
def c51:DCode:=(.loop [0,13,14,15,18] c50)
def c59:DCode:=(.seq (.region [mV 0 118 14,
 mV 1 119 15,
 mV 2 10 118,
 mV 3 11 119,
 oP 4 12 (.move (kB true))]) .ret)
def c61:DCode:=(.seq (.seq (.region [mV 0 91 13,
 oP 1 92 (.call 46 [.t 91] [.c (.int .i64)]),
 mV 2 93 4,
 oP 3 94 (.cmp .gtr .i64 (.t 92) (.t 93))]) (.cond (.t 94) (.seq (.region [oP 0 10 (.move (.k (.c (.sl 1 0 0 0)))),
 oP 1 11 (.move (.k (.c (.sl 1 0 0 0)))),
 oP 2 12 (.move (kB false))]) .ret) .skip)) (.seq (.seq (.region [mV 0 95 14,
 oP 1 96 (.call 46 [.t 95] [.c (.int .i64)]),
 mV 2 97 4,
 oP 3 98 (.cmp .gtr .i64 (.t 96) (.t 97))]) (.cond (.t 98) (.seq (.region [oP 0 18 (.move (kI 0))]) (.block 2 c51)) .skip)) (.cut [14,15] c59)))
def c64:DCode:=(.seq (.region [mV 0 39 0,
 oP 1 40 (.len (.t 39)),
 oP 2 41 (.mkslice (.t 40) 1 1 [.bool false]),
 mV 3 42 0,
 oP 4 43 (.len (.t 42)),
 oP 5 44 (.mkslice (.t 43) 1 1 [.bool false]),
 mV 6 13 41,
 mV 7 14 44]) (.seq (.region [oP 0 15 (.move (.k (.c (.sl 1 0 0 0))))]) (.seq (.seq (.region [oP 0 16 (.move (kI 0))]) (.block 0 c29)) c61)))
def d:DFn:={ ntmps:=120,res:=[.t 10,.t 11,.t 12],body:=(.seq (.region [oP 0 10 (.move (.k (.c (.sl 1 0 0 0)))),
 oP 1 11 (.move (.k (.c (.sl 1 0 0 0)))),
 oP 2 12 (.move (kB false))]) (.seq (.seq (.region [mV 0 19 0,
 oP 1 20 (.len (.t 19)),
 mV 2 21 1,
 oP 3 22 (.len (.t 21)),
 oP 4 23 (.cmp .neq .i64 (.t 20) (.t 22)),
 mV 5 24 23,
 ⟨6,some 25,.move (.t 2),some (24,false)⟩,
 ⟨7,some 26,.cmp .lss .i64 (.t 25) (kI 0),some (24,false)⟩,
 oP 8 27 (.pick (.t 24) (kB true) (.t 26)),
 mV 9 28 27,
 ⟨10,some 29,.move (.t 2),some (28,false)⟩,
 ⟨11,some 30,.move (.t 3),some (28,false)⟩,
 ⟨12,some 31,.cmp .gtr .i64 (.t 29) (.t 30),some (28,false)⟩,
 oP 13 32 (.pick (.t 28) (kB true) (.t 31)),
 mV 14 33 32,
 ⟨15,some 34,.move (.t 3),some (33,false)⟩,
 ⟨16,some 35,.move (.t 0),some (33,false)⟩,
 ⟨17,some 36,.len (.t 35),some (33,false)⟩,
 ⟨18,some 37,.cmp .gtr .i64 (.t 34) (.t 36),some (33,false)⟩,
 oP 19 38 (.pick (.t 33) (kB true) (.t 37))]) (.cut [0,1,2,3,4,38] c6)) c64)) }
def k64:Kont:=execC M.j C (M.ag C) c64 ({ exits:=[],ret:=retK d }:Env) (retK d)
def J6 (a b c e f g:Nat) (h i k:Int) (l:Bool) (G:GH):Option Res:=M.j (execC M.j C (M.ag C) c6 ({ exits:=[],ret:=retK d }:Env) (k64 M C)) (vS 1 a b c::(vS 1 e f g::(vI h::(vI i::(vI k::(uS 33 (vB l::(uS 81 [])))))))) G
def k61:Kont:=execC M.j C (M.ag C) c61 ({ exits:=[],ret:=retK d }:Env) (retK d)
def e30:Env:={ exits:=(0,(k61 M C))::(({ exits:=[],ret:=retK d }:Env)).exits,ret:=(({ exits:=[],ret:=retK d }:Env)).ret }
def L29 (a b c d e f:Nat) (g h i:Int) (j k l m n o p q r:Nat) (s:Int) (G:GH):Option Res:=M.ag C [0,1,2,3,4,13,14,15,16] c28 (e30 M C) (k61 M C) (vS 1 a b c::(vS 1 d e f::(vI g::(vI h::(vI i::(uS 8 (vS 1 j k l::(vS 1 m n o::(vS 1 p q r::(vI s::(uS 103 []))))))))))) G
def k59:Kont:=execC M.j C (M.ag C) (.cut [14,15] c59) ({ exits:=[],ret:=retK d }:Env) (retK d)
def e52:Env:={ exits:=(2,(k59 M C))::(({ exits:=[],ret:=retK d }:Env)).exits,ret:=(({ exits:=[],ret:=retK d }:Env)).ret }
def L51 (a b c d e f g h i j k l:Nat) (m:Int) (G:GH):Option Res:=M.ag C [0,13,14,15,18] c50 (e52 M C) (k59 M C) (vS 1 a b c::(uS 12 (vS 1 d e f::(vS 1 g h i::(vS 1 j k l::(uS 2 (vI m::(uS 101 [])))))))) G
def k29:Kont:=fun tm G=>M.ag C [0,1,2,3,4,13,14,15,16] c28 (e30 M C) (k61 M C) (restr [0,1,2,3,4,13,14,15,16] 0 tm) G
def k26:Kont:=execC M.j C (M.ag C) (.cut [0,1,2,3,4,13,14,15,16] c26) (e30 M C) (k29 M C)
def e25:Env:={ exits:=(1,(k26 M C))::((e30 M C)).exits,ret:=((e30 M C)).ret }
def J23 (a b c d e f:Nat) (g h i:Int) (k l m n o p q r s:Nat) (t:Int) (v:Bool) (G:GH):Option Res:=M.j (execC M.j C (M.ag C) c23 (e25 M C) (k26 M C)) (vS 1 a b c::(vS 1 d e f::(vI g::(vI h::(vI i::(uS 8 (vS 1 k l m::(vS 1 n o p::(vS 1 q r s::(vI t::(vB v::(uS 102 [])))))))))))) G
def J59 (a b c e f g:Nat) (G:GH):Option Res:=M.j (execC M.j C (M.ag C) c59 ({ exits:=[],ret:=retK d }:Env) (retK d)) (uS 14 (vS 1 a b c::(vS 1 e f g::(uS 104 [])))) G
def k51:Kont:=fun tm G=>M.ag C [0,13,14,15,18] c50 (e52 M C) (k59 M C) (restr [0,13,14,15,18] 0 tm) G
def J48 (a b c d e f g h i k l m:Nat) (n:Int) (G:GH):Option Res:=M.j (execC M.j C (M.ag C) c48 (e52 M C) (k51 M C)) (vS 1 a b c::(uS 12 (vS 1 d e f::(vS 1 g h i::(vS 1 k l m::(uS 2 (vI n::(uS 101 [])))))))) G
def J22 (a b c d e f:Nat) (g h i:Int) (k l m n o p q r s:Nat) (t:Int) (v:Bool) (G:GH):Option Res:=M.j (execC M.j C (M.ag C) c22 (e25 M C) (k26 M C)) (vS 1 a b c::(vS 1 d e f::(vI g::(vI h::(vI i::(uS 8 (vS 1 k l m::(vS 1 n o p::(vS 1 q r s::(vI t::(vB v::(uS 102 [])))))))))))) G
def J21 (a b c d e f:Nat) (g h i:Int) (k l m n o p q r s:Nat) (t:Int) (v:Bool) (G:GH):Option Res:=M.j (execC M.j C (M.ag C) c21 (e25 M C) (k26 M C)) (vS 1 a b c::(vS 1 d e f::(vI g::(vI h::(vI i::(uS 8 (vS 1 k l m::(vS 1 n o p::(vS 1 q r s::(vI t::(uS 69 (vB v::(uS 33 []))))))))))))) G
def J26 (a b c d e f:Nat) (g h i:Int) (k l m n o p q r s:Nat) (t:Int) (G:GH):Option Res:=M.j (execC M.j C (M.ag C) c26 (e30 M C) (k29 M C)) (vS 1 a b c::(vS 1 d e f::(vI g::(vI h::(vI i::(uS 8 (vS 1 k l m::(vS 1 n o p::(vS 1 q r s::(vI t::(uS 103 []))))))))))) G
theorem J6_eq (b d a e f g:Nat) (h i j:Int) (k:Bool) (G:GH):J6 M C b d a e f g h i j k G=(bif k then some ([.c (.sl 1 0 0 0),.c (.sl 1 0 0 0),.c (.bool false)],G) else guardK (decide (0≤((a:Nat):Int)∧((a:Nat):Int)≤(most:Int))) (let l:=G.alloc (.row (reps (Int.toNat ((a:Nat):Int)) [.bool false]) false);guardK (decide (0≤((a:Nat):Int)∧((a:Nat):Int)≤(most:Int))) (let m:=l.alloc (.row (reps (Int.toNat ((a:Nat):Int)) [.bool false]) false);L29 M C b d a e f g h i j G.next 0 (Int.toNat ((a:Nat):Int)) l.next 0 (Int.toNat ((a:Nat):Int)) 0 0 0 0 m))):=(M.hj _ _ _).trans (by kernel_rfl)
theorem L29_eq (n o f r s t:Nat) (p q g:Int) (h i j a b d k l m:Nat) (e:Int) (G:GH):L29 M C n o f r s t p q g h i j a b d k l m e G=(bif decide (e<((f:Nat):Int)) then bif decide (e≥p) then J23 M C n o f r s t p q g h i j a b d k l m e (decide (e<q)) G else J23 M C n o f r s t p q g h i j a b d k l m e false G else (C F25.id [.c (.sl 1 h i j)] G).bind fun v=>(((v.1[0]?).bind V1.c?).bind (Cell.asI .i64)).bind fun x=>bif decide (x>g) then some ([.c (.sl 1 0 0 0),.c (.sl 1 0 0 0),.c (.bool false)],v.2) else (C F25.id [.c (.sl 1 a b d)] v.2).bind fun w=>(((w.1[0]?).bind V1.c?).bind (Cell.asI .i64)).bind fun y=>bif decide (y>g) then L51 M C n o f h i j a b d k l m 0 w.2 else J59 M C a b d k l m w.2):=(M.hs _ _ _ _ _ _ _).trans (by kernel_rfl)
theorem L51_eq (l m e f g h b c d i j k:Nat) (a:Int) (G:GH):L51 M C l m e f g h b c d i j k a G=(bif decide (a<((e:Nat):Int)) then guardK (decide (0≤a∧a<((d:Nat):Int))) (((G.ld b (c+Int.toNat a*1)).bind Cell.asB).bind fun n=>bif n then guardK (decide (0≤a∧a<((h:Nat):Int))) (((G.ld f (g+Int.toNat a*1)).bind Cell.asB).bind fun o=>guardK (decide (0≤a∧a<((d:Nat):Int))) ((G.sts b (c+Int.toNat a*1) [.bool o]).bind fun p=>J48 M C l m e f g h b c d i j k a p)) else guardK (decide (0≤a∧a<((d:Nat):Int))) ((G.sts b (c+Int.toNat a*1) [.bool false]).bind fun q=>J48 M C l m e f g h b c d i j k a q)) else J59 M C b c d i j k G):=(M.hs _ _ _ _ _ _ _).trans (by kernel_rfl)
theorem J23_eq (i j k l m n:Nat) (o p q:Int) (b c d e f g r s t:Nat) (a:Int) (h:Bool) (G:GH):J23 M C i j k l m n o p q b c d e f g r s t a h G=(guardK (decide (0≤a∧a<((n:Nat):Int))) (((G.ld l (m+Int.toNat a*1)).bind Cell.asB).bind fun v=>bif v then guardK (decide (0≤a∧a<((k:Nat):Int))) (((G.ld i (j+Int.toNat a*1)).bind Cell.asB).bind fun w=>bif w then guardK (decide (0≤a∧a<((d:Nat):Int))) ((G.sts b (c+Int.toNat a*1) [.bool true]).bind fun x=>guardK (decide (0≤a∧a<((g:Nat):Int))) ((x.sts e (f+Int.toNat a*1) [.bool true]).bind fun y=>J22 M C i j k l m n o p q b c d e f g r s t a h y)) else guardK (decide (0≤a∧a<((d:Nat):Int))) ((G.sts b (c+Int.toNat a*1) [.bool true]).bind fun z=>guardK (decide (0≤a∧a<((g:Nat):Int))) ((z.sts e (f+Int.toNat a*1) [.bool h]).bind fun A=>J22 M C i j k l m n o p q b c d e f g r s t a h A))) else guardK (decide (0≤a∧a<((k:Nat):Int))) (((G.ld i (j+Int.toNat a*1)).bind Cell.asB).bind fun B=>bif B then guardK (decide (0≤a∧a<((d:Nat):Int))) ((G.sts b (c+Int.toNat a*1) [.bool h]).bind fun D=>guardK (decide (0≤a∧a<((g:Nat):Int))) ((D.sts e (f+Int.toNat a*1) [.bool true]).bind fun E=>J22 M C i j k l m n o p q b c d e f g r s t a h E)) else guardK (decide (0≤a∧a<((d:Nat):Int))) ((G.sts b (c+Int.toNat a*1) [.bool h]).bind fun F=>guardK (decide (0≤a∧a<((g:Nat):Int))) ((F.sts e (f+Int.toNat a*1) [.bool h]).bind fun H=>J22 M C i j k l m n o p q b c d e f g r s t a h H))))):=(M.hj _ _ _).trans (by kernel_rfl)
theorem J59_eq (a b d e f g:Nat) (G:GH):J59 M C a b d e f g G=(some ([.c (.sl 1 a b d),.c (.sl 1 e f g),.c (.bool true)],G)):=(M.hj _ _ _).trans (by kernel_rfl)
theorem J48_eq (a b c d e f g h i j k l:Nat) (m:Int) (G:GH):J48 M C a b c d e f g h i j k l m G=(L51 M C a b c d e f g h i j k l (IntKind.i64.wrap (m+1)) G):=(M.hj _ _ _).trans (by kernel_rfl)
theorem J22_eq (b c d e f g:Nat) (h i j:Int) (k l m n o p q r s:Nat) (a:Int) (t:Bool) (G:GH):J22 M C b c d e f g h i j k l m n o p q r s a t G=(bif t then guardK (decide (0≤a∧a<((d:Nat):Int))) (((G.ld b (c+Int.toNat a*1)).bind Cell.asB).bind fun v=>J21 M C b c d e f g h i j k l m n o p q r s a (!v) G) else J21 M C b c d e f g h i j k l m n o p q r s a false G):=(M.hj _ _ _).trans (by kernel_rfl)
theorem J21_eq (c d e f g h:Nat) (i j k:Int) (l m n o p q r s a:Nat) (b:Int) (v:Bool) (G:GH):J21 M C c d e f g h i j k l m n o p q r s a b v G=(bif v then let w:=G.alloc (.row [.int .i64 b] false);(if 1=0 then some [] else w.lds G.next 0 (1*1)).bind fun x=>guardK (decide (a+1≤most)) ((w.app r s a 1 1 x).bind fun t=>J26 M C c d e f g h i j k l m n o p q t.1 t.2.1 (a+1) b t.2.2) else J26 M C c d e f g h i j k l m n o p q r s a b G):=(M.hj _ _ _).trans (by kernel_rfl)
theorem J26_eq (a b c d e f:Nat) (g h i:Int) (j k l m n o p q r:Nat) (s:Int) (G:GH):J26 M C a b c d e f g h i j k l m n o p q r s G=(L29 M C a b c d e f g h i j k l m n o p q r (IntKind.i64.wrap (s+1)) G):=(M.hj _ _ _).trans (by kernel_rfl)
def f (e g a h i d:Nat) (b c j:Int) (G:GH):Option Res:=bif (!decide (((a:Nat):Int)=((d:Nat):Int))) then J6 M C e g a h i d b c j true G else bif decide (b<0) then J6 M C e g a h i d b c j true G else bif decide (b>c) then J6 M C e g a h i d b c j true G else J6 M C e g a h i d b c j (decide (c>((a:Nat):Int))) G
theorem eq (a b e g h i:Nat) (j k l:Int) (G:GH):runF M C d [.c (.sl 1 a b e),.c (.sl 1 g h i),.c (.int .i64 j),.c (.int .i64 k),.c (.int .i64 l)] G=f M C a b e g h i j k l G:=by kernel_rfl
end F20
namespace F58
def c57:DCode:=(.cond (.t 55) (.seq (.region [oP 0 61 (.faddr 2 8),
 oP 1 62 (.ldL 61 82 (.c (.sl 3))),
 oP 2 63 (.faddr 3 1),
 oP 3 64 (.ldL 63 83 (.c (.int .i64))),
 oP 4 65 (.call 47 [.t 62,.t 64] [.c (.int .i64)]),
 mV 5 8 65]) (.seq (.seq (.region [mV 0 66 8,
 oP 1 67 (.cmp .lss .i64 (.t 66) (kI 0))]) (.cond (.t 67) (.seq (.region [oP 0 68 (.ldL 2 82 (.agg [.int .i64,.int .i64,.int .i64,.int .i64,.int .i64,.int .i64,.int .i64,.int .i64,.sl 3,.int .i64,.int .i64,.int .i64,.sl 1,.sl 1])),
 oP 1 69 (.call 48 [.t 68,.k (.c (.int .i64 8))] [.agg [.int .i64,.int .i64,.int .i64,.int .i64,.int .i64,.int .i64,.int .i64,.int .i64,.sl 3,.int .i64,.int .i64,.int .i64,.sl 1,.sl 1],.agg sA]),
 oP 2 70 (.ext 69 0),
 oP 3 71 (.ext 69 1),
 ⟨4,none,.stL 4 84 (.t 70) 14,none⟩,
 ⟨5,none,.stL 5 85 (.t 71) 8,none⟩]) .ret) .skip)) (.seq (.region [oP 0 72 (.ldL 2 82 (.agg [.int .i64,.int .i64,.int .i64,.int .i64,.int .i64,.int .i64,.int .i64,.int .i64,.sl 3,.int .i64,.int .i64,.int .i64,.sl 1,.sl 1])),
 oP 1 73 (.ldL 3 83 (.agg [.int .i64,.int .i64,.int .i64,.int .i64,.int .i64,.int .u8])),
 mV 2 74 8,
 oP 3 75 (.call 49 [.t 72,.t 73,.t 74] [.agg [.int .i64,.int .i64,.int .i64,.int .i64,.int .i64,.int .i64,.int .i64,.int .i64,.sl 3,.int .i64,.int .i64,.int .i64,.sl 1,.sl 1],.agg sA]),
 oP 4 76 (.ext 75 0),
 oP 5 77 (.ext 75 1),
 ⟨6,none,.stL 4 84 (.t 76) 14,none⟩,
 ⟨7,none,.stL 5 85 (.t 77) 8,none⟩]) .ret))) .skip)
def c63:DCode:=(.cond (.t 11) (.seq (.region [oP 0 15 (.ldL 2 82 (.agg [.int .i64,.int .i64,.int .i64,.int .i64,.int .i64,.int .i64,.int .i64,.int .i64,.sl 3,.int .i64,.int .i64,.int .i64,.sl 1,.sl 1])),
 oP 1 16 (.ldL 3 83 (.agg [.int .i64,.int .i64,.int .i64,.int .i64,.int .i64,.int .u8])),
 oP 2 17 (.call 43 [.t 15,.t 16] [.agg [.int .i64,.int .i64,.int .i64,.int .i64,.int .i64,.int .i64,.int .i64,.int .i64,.sl 3,.int .i64,.int .i64,.int .i64,.sl 1,.sl 1],.agg sA]),
 oP 3 18 (.ext 17 0),
 oP 4 19 (.ext 17 1),
 ⟨5,none,.stL 4 84 (.t 18) 14,none⟩,
 ⟨6,none,.stL 5 85 (.t 19) 8,none⟩]) .ret) (.seq (.region [oP 0 21 (.cmp .eql .i64 (.t 10) (kI 9)),
 mV 1 20 21]) (.cond (.t 20) (.seq (.region [oP 0 23 (.faddr 2 12),
 oP 1 24 (.ldL 23 82 (.c (.sl 1))),
 oP 2 25 (.faddr 2 0),
 oP 3 26 (.faddr 25 4),
 oP 4 27 (.ldL 26 82 (.c (.int .i64))),
 oP 5 28 (.faddr 2 0),
 oP 6 29 (.faddr 28 6),
 oP 7 30 (.ldL 29 82 (.c (.int .i64))),
 oP 8 31 (.faddr 2 8),
 oP 9 32 (.ldL 31 82 (.c (.sl 3))),
 oP 10 33 (.call 45 [.t 27,.t 30,.t 32] [.c (.sl 1)]),
 oP 11 34 (.call 44 [.t 24,.t 33] [.c (.sl 1),.c (.int .i64)]),
 mV 12 22 34,
 oP 13 35 (.ext 22 0),
 oP 14 36 (.ext 22 1),
 mV 15 6 35,
 mV 16 7 36]) (.seq (.region [mV 0 37 6,
 oP 1 38 (.faddr 2 12),
 ⟨2,none,.stL 38 82 (.t 37) 1,none⟩]) (.seq (.region [oP 0 39 (.ldL 2 82 (.agg [.int .i64,.int .i64,.int .i64,.int .i64,.int .i64,.int .i64,.int .i64,.int .i64,.sl 3,.int .i64,.int .i64,.int .i64,.sl 1,.sl 1])),
 mV 1 40 7,
 oP 2 41 (.build zA [(2,1,.t 40)]),
 ⟨3,none,.stL 4 84 (.t 39) 14,none⟩,
 ⟨4,none,.stL 5 85 (.t 41) 8,none⟩]) .ret))) (.seq (.region [oP 0 43 (.cmp .eql .i64 (.t 10) (kI 10)),
 mV 1 42 43]) (.cond (.t 42) (.seq (.region [oP 0 44 (.ldL 2 82 (.agg [.int .i64,.int .i64,.int .i64,.int .i64,.int .i64,.int .i64,.int .i64,.int .i64,.sl 3,.int .i64,.int .i64,.int .i64,.sl 1,.sl 1])),
 oP 1 45 (.faddr 2 9),
 oP 2 46 (.ldL 45 82 (.c (.int .i64))),
 oP 3 47 (.faddr 2 10),
 oP 4 48 (.ldL 47 82 (.c (.int .i64))),
 oP 5 49 (.faddr 2 11),
 oP 6 50 (.ldL 49 82 (.c (.int .i64))),
 oP 7 51 (.faddr 2 12),
 oP 8 52 (.ldL 51 82 (.c (.sl 1))),
 oP 9 53 (.call 46 [.t 52] [.c (.int .i64)]),
 oP 10 54 (.build zA [(4,1,.t 46),(5,1,.t 48),(6,1,.t 50),(7,1,.t 53)]),
 ⟨11,none,.stL 4 84 (.t 44) 14,none⟩,
 ⟨12,none,.stL 5 85 (.t 54) 8,none⟩]) .ret) (.seq (.seq (.region [oP 0 56 (.cmp .eql .i64 (.t 10) (kI 4)),
 mV 1 55 56]) (.cond (.t 55) .skip (.seq (.region [oP 0 57 (.cmp .eql .i64 (.t 10) (kI 5)),
 mV 1 55 57]) (.cond (.t 55) .skip (.seq (.region [oP 0 58 (.cmp .eql .i64 (.t 10) (kI 6)),
 mV 1 55 58]) (.cond (.t 55) .skip (.seq (.region [oP 0 59 (.cmp .eql .i64 (.t 10) (kI 7)),
 mV 1 55 59]) (.cond (.t 55) .skip (.region [oP 0 60 (.cmp .eql .i64 (.t 10) (kI 8)),
 mV 1 55 60]))))))))) (.cut [2,3,4,5,55,82,83,84,85] c57)))))))
def c69:DCode:=(.seq (.region [oP 0 78 (.ldL 2 82 (.agg [.int .i64,.int .i64,.int .i64,.int .i64,.int .i64,.int .i64,.int .i64,.int .i64,.sl 3,.int .i64,.int .i64,.int .i64,.sl 1,.sl 1])),
 oP 1 79 (.call 48 [.t 78,.k (.c (.int .i64 2))] [.agg [.int .i64,.int .i64,.int .i64,.int .i64,.int .i64,.int .i64,.int .i64,.int .i64,.sl 3,.int .i64,.int .i64,.int .i64,.sl 1,.sl 1],.agg sA]),
 oP 2 80 (.ext 79 0),
 oP 3 81 (.ext 79 1),
 ⟨4,none,.stL 4 84 (.t 80) 14,none⟩,
 ⟨5,none,.stL 5 85 (.t 81) 8,none⟩]) .ret)
def d:DFn:={ ntmps:=86,res:=[.box 4 (some 14),.box 5 (some 8)],body:=(.seq (.region [oP 0 2 (.boxv 82 [23,25,26,28,29,31,38,45,47,49,51,61] (.t 0) 14),
 oP 1 3 (.boxv 83 [9,63] (.t 1) 6),
 oP 2 4 (.boxz 84 [] [.int .i64 0,.int .i64 0,.int .i64 0,.int .i64 0,.int .i64 0,.int .i64 0,.int .i64 0,.int .i64 0,.sl 3 0 0 0,.int .i64 0,.int .i64 0,.int .i64 0,.sl 1 0 0 0,.sl 1 0 0 0]),
 oP 3 5 (.boxz 85 [] zA)]) (.seq (.seq (.region [oP 0 9 (.faddr 3 0),
 oP 1 10 (.ldL 9 83 (.c (.int .i64)))]) (.block 0 (.seq (.seq (.region [oP 0 12 (.cmp .eql .i64 (.t 10) (kI 1)),
 mV 1 11 12]) (.cond (.t 11) .skip (.seq (.region [oP 0 13 (.cmp .eql .i64 (.t 10) (kI 3)),
 mV 1 11 13]) (.cond (.t 11) .skip (.region [oP 0 14 (.cmp .eql .i64 (.t 10) (kI 2)),
 mV 1 11 14]))))) (.cut [2,3,4,5,10,11,82,83,84,85] c63)))) c69)) }
def k69:Kont:=execC M.j C (M.ag C) c69 ({ exits:=[],ret:=retK d }:Env) (retK d)
def e65:Env:={ exits:=(0,(k69 M C))::(({ exits:=[],ret:=retK d }:Env)).exits,ret:=(({ exits:=[],ret:=retK d }:Env)).ret }
def J63 (a:Int) (b:Bool) (c d e f g h i k:Int) (l m n:Nat) (o p q:Int) (r s t v w x:Nat) (y z A B D E F H I J K L N O:Int) (P Q R:Nat) (S T U:Int) (V W X Y Z a0:Nat) (a1 a2 a3 a4 a5 a6 a7 a8:Int) (G:GH):Option Res:=M.j (execC M.j C (M.ag C) c63 (e65 M C) (k69 M C)) (uS 2 (.ref 82 0::(.ref 83 0::(.ref 84 0::(.ref 85 0::(uS 4 (vI a::(vB b::(uS 70 (.box [.int .i64 c,.int .i64 d,.int .i64 e,.int .i64 f,.int .i64 g,.int .i64 h,.int .i64 i,.int .i64 k,.sl 3 l m n,.int .i64 o,.int .i64 p,.int .i64 q,.sl 1 r s t,.sl 1 v w x]::(.box [.int .i64 y,.int .i64 z,.int .i64 A,.int .i64 B,.int .i64 D,.int .u8 E]::(.box [.int .i64 F,.int .i64 H,.int .i64 I,.int .i64 J,.int .i64 K,.int .i64 L,.int .i64 N,.int .i64 O,.sl 3 P Q R,.int .i64 S,.int .i64 T,.int .i64 U,.sl 1 V W X,.sl 1 Y Z a0]::(.box [.int .i64 a1,.int .i64 a2,.int .i64 a3,.int .u8 a4,.int .i64 a5,.int .i64 a6,.int .i64 a7,.int .i64 a8]::[]))))))))))))) G
def J57 (a:Bool) (b c d e f g h i:Int) (k l m:Nat) (n o p:Int) (q r s t v w:Nat) (x y z A B D E F H I J K L N:Int) (O P Q:Nat) (R S T:Int) (U V W X Y Z:Nat) (a0 a1 a2 a3 a4 a5 a6 a7:Int) (G:GH):Option Res:=M.j (execC M.j C (M.ag C) c57 (e65 M C) (k69 M C)) (uS 2 (.ref 82 0::(.ref 83 0::(.ref 84 0::(.ref 85 0::(uS 49 (vB a::(uS 26 (.box [.int .i64 b,.int .i64 c,.int .i64 d,.int .i64 e,.int .i64 f,.int .i64 g,.int .i64 h,.int .i64 i,.sl 3 k l m,.int .i64 n,.int .i64 o,.int .i64 p,.sl 1 q r s,.sl 1 t v w]::(.box [.int .i64 x,.int .i64 y,.int .i64 z,.int .i64 A,.int .i64 B,.int .u8 D]::(.box [.int .i64 E,.int .i64 F,.int .i64 H,.int .i64 I,.int .i64 J,.int .i64 K,.int .i64 L,.int .i64 N,.sl 3 O P Q,.int .i64 R,.int .i64 S,.int .i64 T,.sl 1 U V W,.sl 1 X Y Z]::(.box [.int .i64 a0,.int .i64 a1,.int .i64 a2,.int .u8 a3,.int .i64 a4,.int .i64 a5,.int .i64 a6,.int .i64 a7]::[])))))))))))) G
theorem J63_eq (d:Int) (u2:Bool) (p q r s e t f v:Int) (g h i:Nat) (j k l:Int) (m n o w x y:Nat) (A B D E F H I J K L N O P Q:Int) (R S T:Nat) (U V W:Int) (X Y Z a0 a1 a2:Nat) (a3 a4 a5 a6 a7 a8 a9 b0:Int) (G:GH):J63 M C d u2 p q r s e t f v g h i j k l m n o w x y A B D E F H I J K L N O P Q R S T U V W X Y Z a0 a1 a2 a3 a4 a5 a6 a7 a8 a9 b0 G=(bif u2 then (C F27.id [.agg [.int .i64 p,.int .i64 q,.int .i64 r,.int .i64 s,.int .i64 e,.int .i64 t,.int .i64 f,.int .i64 v,.sl 3 g h i,.int .i64 j,.int .i64 k,.int .i64 l,.sl 1 m n o,.sl 1 w x y],.agg [.int .i64 A,.int .i64 B,.int .i64 D,.int .i64 E,.int .i64 F,.int .u8 H]] G).bind fun q1=>((q1.1[0]?).bind V1.a?).bind fun b=>if b.length=14 then (((b[0]?).bind (Cell.asI .i64)).bind fun q3=>((b[1]?).bind (Cell.asI .i64)).bind fun q4=>((b[2]?).bind (Cell.asI .i64)).bind fun q5=>((b[3]?).bind (Cell.asI .i64)).bind fun q6=>((b[4]?).bind (Cell.asI .i64)).bind fun q7=>((b[5]?).bind (Cell.asI .i64)).bind fun q8=>((b[6]?).bind (Cell.asI .i64)).bind fun q9=>((b[7]?).bind (Cell.asI .i64)).bind fun q10=>((b[8]?).bind (Cell.asS 3)).bind fun q11=>((b[9]?).bind (Cell.asI .i64)).bind fun q12=>((b[10]?).bind (Cell.asI .i64)).bind fun q13=>((b[11]?).bind (Cell.asI .i64)).bind fun q14=>((b[12]?).bind (Cell.asS 1)).bind fun q15=>((b[13]?).bind (Cell.asS 1)).bind fun q16=>((q1.1[1]?).bind V1.a?).bind fun z=>if z.length=8 then (((z[0]?).bind (Cell.asI .i64)).bind fun q18=>((z[1]?).bind (Cell.asI .i64)).bind fun q19=>((z[2]?).bind (Cell.asI .i64)).bind fun q20=>((z[3]?).bind (Cell.asI .u8)).bind fun q21=>((z[4]?).bind (Cell.asI .i64)).bind fun q22=>((z[5]?).bind (Cell.asI .i64)).bind fun q23=>((z[6]?).bind (Cell.asI .i64)).bind fun q24=>((z[7]?).bind (Cell.asI .i64)).bind fun q25=>some ([.agg [.int .i64 q3,.int .i64 q4,.int .i64 q5,.int .i64 q6,.int .i64 q7,.int .i64 q8,.int .i64 q9,.int .i64 q10,.sl 3 q11.1 q11.2.1 q11.2.2,.int .i64 q12,.int .i64 q13,.int .i64 q14,.sl 1 q15.1 q15.2.1 q15.2.2,.sl 1 q16.1 q16.2.1 q16.2.2],.agg [.int .i64 q18,.int .i64 q19,.int .i64 q20,.int .u8 q21,.int .i64 q22,.int .i64 q23,.int .i64 q24,.int .i64 q25]],q1.2)) else none) else none else bif decide (d=9) then (C F56.id [.c (.int .i64 e),.c (.int .i64 f),.c (.sl 3 g h i)] G).bind fun q26=>(((q26.1[0]?).bind V1.c?).bind (Cell.asS 1)).bind fun q27=>(C F43.id [.c (.sl 1 m n o),.c (.sl 1 q27.1 q27.2.1 q27.2.2)] q26.2).bind fun q28=>(((q28.1[0]?).bind V1.c?).bind (Cell.asS 1)).bind fun q29=>(((q28.1[1]?).bind V1.c?).bind (Cell.asI .i64)).bind fun q30=>some ([.agg [.int .i64 p,.int .i64 q,.int .i64 r,.int .i64 s,.int .i64 e,.int .i64 t,.int .i64 f,.int .i64 v,.sl 3 g h i,.int .i64 j,.int .i64 k,.int .i64 l,.sl 1 q29.1 q29.2.1 q29.2.2,.sl 1 w x y],.agg [.int .i64 0,.int .i64 0,.int .i64 q30,.int .u8 0,.int .i64 0,.int .i64 0,.int .i64 0,.int .i64 0]],q28.2) else bif decide (d=10) then (C F25.id [.c (.sl 1 m n o)] G).bind fun q31=>(((q31.1[0]?).bind V1.c?).bind (Cell.asI .i64)).bind fun q32=>some ([.agg [.int .i64 p,.int .i64 q,.int .i64 r,.int .i64 s,.int .i64 e,.int .i64 t,.int .i64 f,.int .i64 v,.sl 3 g h i,.int .i64 j,.int .i64 k,.int .i64 l,.sl 1 m n o,.sl 1 w x y],.agg [.int .i64 0,.int .i64 0,.int .i64 0,.int .u8 0,.int .i64 j,.int .i64 k,.int .i64 l,.int .i64 q32]],q31.2) else bif decide (d=4) then J57 M C (decide (d=4)) p q r s e t f v g h i j k l m n o w x y A B D E F H I J K L N O P Q R S T U V W X Y Z a0 a1 a2 a3 a4 a5 a6 a7 a8 a9 b0 G else bif decide (d=5) then J57 M C (decide (d=5)) p q r s e t f v g h i j k l m n o w x y A B D E F H I J K L N O P Q R S T U V W X Y Z a0 a1 a2 a3 a4 a5 a6 a7 a8 a9 b0 G else bif decide (d=6) then J57 M C (decide (d=6)) p q r s e t f v g h i j k l m n o w x y A B D E F H I J K L N O P Q R S T U V W X Y Z a0 a1 a2 a3 a4 a5 a6 a7 a8 a9 b0 G else bif decide (d=7) then J57 M C (decide (d=7)) p q r s e t f v g h i j k l m n o w x y A B D E F H I J K L N O P Q R S T U V W X Y Z a0 a1 a2 a3 a4 a5 a6 a7 a8 a9 b0 G else J57 M C (decide (d=8)) p q r s e t f v g h i j k l m n o w x y A B D E F H I J K L N O P Q R S T U V W X Y Z a0 a1 a2 a3 a4 a5 a6 a7 a8 a9 b0 G):=(M.hj _ _ _).trans (by kernel_rfl)
theorem J57_eq (U:Bool) (l m n o p q r s:Int) (i j k:Nat) (t v w:Int) (x y z A B D:Nat) (V E W X Y Z a1 a2 a3 a4 a5 a6 a7 a8:Int) (a9 b0 b1:Nat) (b2 b3 b4:Int) (b5 b6 b7 b8 b9 c0:Nat) (c1 c2 c3 c4 c5 c6 c7 c8:Int) (G:GH):J57 M C U l m n o p q r s i j k t v w x y z A B D V E W X Y Z a1 a2 a3 a4 a5 a6 a7 a8 a9 b0 b1 b2 b3 b4 b5 b6 b7 b8 b9 c0 c1 c2 c3 c4 c5 c6 c7 c8 G=(bif U then (C F28.id [.c (.sl 3 i j k),.c (.int .i64 E)] G).bind fun F=>(((F.1[0]?).bind V1.c?).bind (Cell.asI .i64)).bind fun a0=>bif decide (a0<0) then (C F18.id [.agg [.int .i64 l,.int .i64 m,.int .i64 n,.int .i64 o,.int .i64 p,.int .i64 q,.int .i64 r,.int .i64 s,.sl 3 i j k,.int .i64 t,.int .i64 v,.int .i64 w,.sl 1 x y z,.sl 1 A B D],.c (.int .i64 8)] F.2).bind fun H=>((H.1[0]?).bind V1.a?).bind fun b=>if b.length=14 then (((b[0]?).bind (Cell.asI .i64)).bind fun c9=>((b[1]?).bind (Cell.asI .i64)).bind fun d0=>((b[2]?).bind (Cell.asI .i64)).bind fun d1=>((b[3]?).bind (Cell.asI .i64)).bind fun d2=>((b[4]?).bind (Cell.asI .i64)).bind fun d3=>((b[5]?).bind (Cell.asI .i64)).bind fun d4=>((b[6]?).bind (Cell.asI .i64)).bind fun d5=>((b[7]?).bind (Cell.asI .i64)).bind fun d6=>((b[8]?).bind (Cell.asS 3)).bind fun I=>((b[9]?).bind (Cell.asI .i64)).bind fun d7=>((b[10]?).bind (Cell.asI .i64)).bind fun d8=>((b[11]?).bind (Cell.asI .i64)).bind fun d9=>((b[12]?).bind (Cell.asS 1)).bind fun J=>((b[13]?).bind (Cell.asS 1)).bind fun K=>((H.1[1]?).bind V1.a?).bind fun f=>if f.length=8 then (((f[0]?).bind (Cell.asI .i64)).bind fun e0=>((f[1]?).bind (Cell.asI .i64)).bind fun e1=>((f[2]?).bind (Cell.asI .i64)).bind fun e2=>((f[3]?).bind (Cell.asI .u8)).bind fun e3=>((f[4]?).bind (Cell.asI .i64)).bind fun e4=>((f[5]?).bind (Cell.asI .i64)).bind fun e5=>((f[6]?).bind (Cell.asI .i64)).bind fun e6=>((f[7]?).bind (Cell.asI .i64)).bind fun e7=>some ([.agg [.int .i64 c9,.int .i64 d0,.int .i64 d1,.int .i64 d2,.int .i64 d3,.int .i64 d4,.int .i64 d5,.int .i64 d6,.sl 3 I.1 I.2.1 I.2.2,.int .i64 d7,.int .i64 d8,.int .i64 d9,.sl 1 J.1 J.2.1 J.2.2,.sl 1 K.1 K.2.1 K.2.2],.agg [.int .i64 e0,.int .i64 e1,.int .i64 e2,.int .u8 e3,.int .i64 e4,.int .i64 e5,.int .i64 e6,.int .i64 e7]],H.2)) else none) else none else (C F57.id [.agg [.int .i64 l,.int .i64 m,.int .i64 n,.int .i64 o,.int .i64 p,.int .i64 q,.int .i64 r,.int .i64 s,.sl 3 i j k,.int .i64 t,.int .i64 v,.int .i64 w,.sl 1 x y z,.sl 1 A B D],.agg [.int .i64 V,.int .i64 E,.int .i64 W,.int .i64 X,.int .i64 Y,.int .u8 Z],.c (.int .i64 a0)] F.2).bind fun L=>((L.1[0]?).bind V1.a?).bind fun d=>if d.length=14 then (((d[0]?).bind (Cell.asI .i64)).bind fun e8=>((d[1]?).bind (Cell.asI .i64)).bind fun e9=>((d[2]?).bind (Cell.asI .i64)).bind fun f0=>((d[3]?).bind (Cell.asI .i64)).bind fun f1=>((d[4]?).bind (Cell.asI .i64)).bind fun f2=>((d[5]?).bind (Cell.asI .i64)).bind fun f3=>((d[6]?).bind (Cell.asI .i64)).bind fun f4=>((d[7]?).bind (Cell.asI .i64)).bind fun f5=>((d[8]?).bind (Cell.asS 3)).bind fun N=>((d[9]?).bind (Cell.asI .i64)).bind fun f6=>((d[10]?).bind (Cell.asI .i64)).bind fun f7=>((d[11]?).bind (Cell.asI .i64)).bind fun f8=>((d[12]?).bind (Cell.asS 1)).bind fun O=>((d[13]?).bind (Cell.asS 1)).bind fun P=>((L.1[1]?).bind V1.a?).bind fun g=>if g.length=8 then (((g[0]?).bind (Cell.asI .i64)).bind fun f9=>((g[1]?).bind (Cell.asI .i64)).bind fun g0=>((g[2]?).bind (Cell.asI .i64)).bind fun g1=>((g[3]?).bind (Cell.asI .u8)).bind fun g2=>((g[4]?).bind (Cell.asI .i64)).bind fun g3=>((g[5]?).bind (Cell.asI .i64)).bind fun g4=>((g[6]?).bind (Cell.asI .i64)).bind fun g5=>((g[7]?).bind (Cell.asI .i64)).bind fun g6=>some ([.agg [.int .i64 e8,.int .i64 e9,.int .i64 f0,.int .i64 f1,.int .i64 f2,.int .i64 f3,.int .i64 f4,.int .i64 f5,.sl 3 N.1 N.2.1 N.2.2,.int .i64 f6,.int .i64 f7,.int .i64 f8,.sl 1 O.1 O.2.1 O.2.2,.sl 1 P.1 P.2.1 P.2.2],.agg [.int .i64 f9,.int .i64 g0,.int .i64 g1,.int .u8 g2,.int .i64 g3,.int .i64 g4,.int .i64 g5,.int .i64 g6]],L.2)) else none) else none else (C F18.id [.agg [.int .i64 l,.int .i64 m,.int .i64 n,.int .i64 o,.int .i64 p,.int .i64 q,.int .i64 r,.int .i64 s,.sl 3 i j k,.int .i64 t,.int .i64 v,.int .i64 w,.sl 1 x y z,.sl 1 A B D],.c (.int .i64 2)] G).bind fun Q=>((Q.1[0]?).bind V1.a?).bind fun e=>if e.length=14 then (((e[0]?).bind (Cell.asI .i64)).bind fun g7=>((e[1]?).bind (Cell.asI .i64)).bind fun g8=>((e[2]?).bind (Cell.asI .i64)).bind fun g9=>((e[3]?).bind (Cell.asI .i64)).bind fun h0=>((e[4]?).bind (Cell.asI .i64)).bind fun h1=>((e[5]?).bind (Cell.asI .i64)).bind fun h2=>((e[6]?).bind (Cell.asI .i64)).bind fun h3=>((e[7]?).bind (Cell.asI .i64)).bind fun h4=>((e[8]?).bind (Cell.asS 3)).bind fun R=>((e[9]?).bind (Cell.asI .i64)).bind fun h5=>((e[10]?).bind (Cell.asI .i64)).bind fun h6=>((e[11]?).bind (Cell.asI .i64)).bind fun h7=>((e[12]?).bind (Cell.asS 1)).bind fun S=>((e[13]?).bind (Cell.asS 1)).bind fun T=>((Q.1[1]?).bind V1.a?).bind fun h=>if h.length=8 then (((h[0]?).bind (Cell.asI .i64)).bind fun h8=>((h[1]?).bind (Cell.asI .i64)).bind fun h9=>((h[2]?).bind (Cell.asI .i64)).bind fun i0=>((h[3]?).bind (Cell.asI .u8)).bind fun i1=>((h[4]?).bind (Cell.asI .i64)).bind fun i2=>((h[5]?).bind (Cell.asI .i64)).bind fun i3=>((h[6]?).bind (Cell.asI .i64)).bind fun i4=>((h[7]?).bind (Cell.asI .i64)).bind fun i5=>some ([.agg [.int .i64 g7,.int .i64 g8,.int .i64 g9,.int .i64 h0,.int .i64 h1,.int .i64 h2,.int .i64 h3,.int .i64 h4,.sl 3 R.1 R.2.1 R.2.2,.int .i64 h5,.int .i64 h6,.int .i64 h7,.sl 1 S.1 S.2.1 S.2.2,.sl 1 T.1 T.2.1 T.2.2],.agg [.int .i64 h8,.int .i64 h9,.int .i64 i0,.int .u8 i1,.int .i64 i2,.int .i64 i3,.int .i64 i4,.int .i64 i5]],Q.2)) else none) else none):=(M.hj _ _ _).trans (by kernel_rfl)
def f (b c d e g h i j:Int) (k l m:Nat) (n o p:Int) (q r s t v w:Nat) (a x y z A B:Int) (G:GH):Option Res:=bif decide (a=1) then J63 M C a (decide (a=1)) b c d e g h i j k l m n o p q r s t v w a x y z A B 0 0 0 0 0 0 0 0 0 0 0 0 0 0 0 0 0 0 0 0 0 0 0 0 0 0 0 0 G else bif decide (a=3) then J63 M C a (decide (a=3)) b c d e g h i j k l m n o p q r s t v w a x y z A B 0 0 0 0 0 0 0 0 0 0 0 0 0 0 0 0 0 0 0 0 0 0 0 0 0 0 0 0 G else J63 M C a (decide (a=2)) b c d e g h i j k l m n o p q r s t v w a x y z A B 0 0 0 0 0 0 0 0 0 0 0 0 0 0 0 0 0 0 0 0 0 0 0 0 0 0 0 0 G
theorem eq (a b c e g h i j:Int) (k l m:Nat) (n o p:Int) (q r s t v w:Nat) (x y z A B D:Int) (G:GH):runF M C d [.agg [.int .i64 a,.int .i64 b,.int .i64 c,.int .i64 e,.int .i64 g,.int .i64 h,.int .i64 i,.int .i64 j,.sl 3 k l m,.int .i64 n,.int .i64 o,.int .i64 p,.sl 1 q r s,.sl 1 t v w],.agg [.int .i64 x,.int .i64 y,.int .i64 z,.int .i64 A,.int .i64 B,.int .u8 D]] G=f M C a b c e g h i j k l m n o p q r s t v w x y z A B D G:=by kernel_rfl
end F58
namespace F27
def c37:DCode:=(.seq (.region [oP 0 85 (.ldL 10 92 (.agg [.int .i64,.int .i64,.int .i64,.int .i64,.int .i64,.int .i64,.int .i64,.int .i64,.sl 3,.int .i64,.int .i64,.int .i64,.sl 1,.sl 1])),
 mV 1 86 11,
 oP 2 87 (.build zA [(1,1,.t 86)]),
 ⟨3,none,.stL 4 90 (.t 85) 14,none⟩,
 ⟨4,none,.stL 5 91 (.t 87) 8,none⟩]) .ret)
def c41:DCode:=(.seq (.seq (.region [mV 0 49 9,
 oP 1 50 (.cmp .neq .i64 (.t 49) (kI 0))]) (.cond (.t 50) (.seq (.region [oP 0 51 (.ldL 2 88 (.agg [.int .i64,.int .i64,.int .i64,.int .i64,.int .i64,.int .i64,.int .i64,.int .i64,.sl 3,.int .i64,.int .i64,.int .i64,.sl 1,.sl 1])),
 mV 1 52 9,
 oP 2 53 (.call 48 [.t 51,.t 52] [.agg [.int .i64,.int .i64,.int .i64,.int .i64,.int .i64,.int .i64,.int .i64,.int .i64,.sl 3,.int .i64,.int .i64,.int .i64,.sl 1,.sl 1],.agg sA]),
 oP 3 54 (.ext 53 0),
 oP 4 55 (.ext 53 1),
 ⟨5,none,.stL 4 90 (.t 54) 14,none⟩,
 ⟨6,none,.stL 5 91 (.t 55) 8,none⟩]) .ret) .skip)) (.seq (.region [oP 0 57 (.ldL 2 88 (.agg [.int .i64,.int .i64,.int .i64,.int .i64,.int .i64,.int .i64,.int .i64,.int .i64,.sl 3,.int .i64,.int .i64,.int .i64,.sl 1,.sl 1])),
 oP 1 58 (.faddr 2 8),
 oP 2 59 (.ldL 58 88 (.c (.sl 3))),
 mV 3 60 8,
 mV 4 61 7,
 oP 5 62 (.call 66 [.t 57,.t 59,.t 60,.t 61] [.agg [.int .i64,.int .i64,.int .i64,.int .i64,.int .i64,.int .i64,.int .i64,.int .i64,.sl 3,.int .i64,.int .i64,.int .i64,.sl 1,.sl 1],.c (.int .i64),.c (.int .i64)]),
 mV 6 56 62,
 oP 7 63 (.ext 56 0),
 oP 8 64 (.ext 56 1),
 oP 9 65 (.ext 56 2),
 oP 10 10 (.boxz 92 [77,84] [.int .i64 0,.int .i64 0,.int .i64 0,.int .i64 0,.int .i64 0,.int .i64 0,.int .i64 0,.int .i64 0,.sl 3 0 0 0,.int .i64 0,.int .i64 0,.int .i64 0,.sl 1 0 0 0,.sl 1 0 0 0]),
 ⟨11,none,.stL 10 92 (.t 63) 14,none⟩,
 mV 12 11 64,
 mV 13 9 65]) (.seq (.seq (.region [mV 0 66 9,
 oP 1 67 (.cmp .neq .i64 (.t 66) (kI 0))]) (.cond (.t 67) (.seq (.region [oP 0 68 (.ldL 2 88 (.agg [.int .i64,.int .i64,.int .i64,.int .i64,.int .i64,.int .i64,.int .i64,.int .i64,.sl 3,.int .i64,.int .i64,.int .i64,.sl 1,.sl 1])),
 mV 1 69 9,
 oP 2 70 (.call 48 [.t 68,.t 69] [.agg [.int .i64,.int .i64,.int .i64,.int .i64,.int .i64,.int .i64,.int .i64,.int .i64,.sl 3,.int .i64,.int .i64,.int .i64,.sl 1,.sl 1],.agg sA]),
 oP 3 71 (.ext 70 0),
 oP 4 72 (.ext 70 1),
 ⟨5,none,.stL 4 90 (.t 71) 14,none⟩,
 ⟨6,none,.stL 5 91 (.t 72) 8,none⟩]) .ret) .skip)) (.seq (.seq (.region [oP 0 73 (.faddr 3 0),
 oP 1 74 (.ldL 73 89 (.c (.int .i64))),
 oP 2 75 (.cmp .eql .i64 (.t 74) (kI 2))]) (.cond (.t 75) (.region [oP 0 77 (.faddr 10 13),
 oP 1 78 (.ldL 77 92 (.c (.sl 1))),
 mV 2 79 11,
 mV 3 80 8,
 oP 4 81 (.call 67 [.t 78,.t 79,.t 80] [.c (.sl 1),.c (.bool)]),
 mV 5 76 81,
 oP 6 82 (.ext 76 0),
 oP 7 83 (.ext 76 1),
 oP 8 84 (.faddr 10 13),
 ⟨9,none,.stL 84 92 (.t 82) 1,none⟩]) .skip)) (.cut [4,5,10,11,90,91,92] c37)))))
def c43:DCode:=(.seq (.region [oP 0 20 (.faddr 2 0),
 oP 1 21 (.ldL 20 88 (.agg (iS 8))),
 oP 2 22 (.faddr 2 9),
 oP 3 23 (.ldL 22 88 (.c (.int .i64))),
 mV 4 24 7,
 mV 5 25 6,
 oP 6 26 (.call 64 [.t 21,.t 23,.t 24,.t 25] [.c (.int .i64),.c (.int .i64)]),
 mV 7 19 26,
 oP 8 27 (.ext 19 0),
 oP 9 28 (.ext 19 1),
 mV 10 8 27,
 mV 11 9 28]) (.seq (.seq (.region [oP 0 29 (.faddr 3 0),
 oP 1 30 (.ldL 29 89 (.c (.int .i64))),
 oP 2 31 (.cmp .eql .i64 (.t 30) (kI 2))]) (.cond (.t 31) (.seq (.region [oP 0 33 (.faddr 2 0),
 oP 1 34 (.ldL 33 88 (.agg (iS 8))),
 oP 2 35 (.faddr 2 9),
 oP 3 36 (.ldL 35 88 (.c (.int .i64))),
 oP 4 37 (.faddr 3 4),
 oP 5 38 (.ldL 37 89 (.c (.int .i64))),
 oP 6 39 (.faddr 3 2),
 oP 7 40 (.ldL 39 89 (.c (.int .i64))),
 oP 8 41 (.call 65 [.t 34,.t 36,.t 38,.t 40] [.c (.int .i64),.c (.int .i64)]),
 mV 9 32 41,
 oP 10 42 (.ext 32 0),
 oP 11 43 (.ext 32 1),
 mV 12 8 42,
 mV 13 9 43]) (.region [oP 0 44 (.faddr 3 4),
 oP 1 45 (.ldL 44 89 (.c (.int .i64))),
 oP 2 46 (.faddr 3 2),
 oP 3 47 (.ldL 46 89 (.c (.int .i64))),
 oP 4 48 (.bin .mul .i64 (.t 45) (.t 47)),
 mV 5 7 48])) .skip)) (.cut [2,3,4,5,7,8,9,88,89,90,91] c41)))
def d:DFn:={ ntmps:=93,res:=[.box 4 (some 14),.box 5 (some 8)],body:=(.seq (.region [oP 0 2 (.boxv 88 [20,22,33,35,58] (.t 0) 14),
 oP 1 3 (.boxv 89 [12,14,17,29,37,39,44,46,73] (.t 1) 6),
 oP 2 4 (.boxz 90 [] [.int .i64 0,.int .i64 0,.int .i64 0,.int .i64 0,.int .i64 0,.int .i64 0,.int .i64 0,.int .i64 0,.sl 3 0 0 0,.int .i64 0,.int .i64 0,.int .i64 0,.sl 1 0 0 0,.sl 1 0 0 0]),
 oP 3 5 (.boxz 91 [] zA)]) (.seq (.region [oP 0 12 (.faddr 3 2),
 oP 1 13 (.ldL 12 89 (.c (.int .i64))),
 oP 2 6 (.move (kI 1)),
 mV 3 7 13]) (.seq (.seq (.region [oP 0 14 (.faddr 3 0),
 oP 1 15 (.ldL 14 89 (.c (.int .i64))),
 oP 2 16 (.cmp .eql .i64 (.t 15) (kI 3))]) (.cond (.t 16) (.region [oP 0 17 (.faddr 3 3),
 oP 1 18 (.ldL 17 89 (.c (.int .i64))),
 mV 2 6 18]) .skip)) (.cut [2,3,4,5,6,7,88,89,90,91] c43)))) }
def J43 (a b c e f g h i k l:Int) (m n o:Nat) (p q r:Int) (s t v w x y:Nat) (z A B D E F H I J K L N O P:Int) (Q R S:Nat) (T U V:Int) (W X Y Z a0 a1:Nat) (a2 a3 a4 a5 a6 a7 a8 a9:Int) (G:GH):Option Res:=M.j (execC M.j C (M.ag C) c43 ({ exits:=[],ret:=retK d }:Env) (retK d)) (uS 2 (.ref 88 0::(.ref 89 0::(.ref 90 0::(.ref 91 0::(vI a::(vI b::(uS 80 (.box [.int .i64 c,.int .i64 e,.int .i64 f,.int .i64 g,.int .i64 h,.int .i64 i,.int .i64 k,.int .i64 l,.sl 3 m n o,.int .i64 p,.int .i64 q,.int .i64 r,.sl 1 s t v,.sl 1 w x y]::(.box [.int .i64 z,.int .i64 A,.int .i64 B,.int .i64 D,.int .i64 E,.int .u8 F]::(.box [.int .i64 H,.int .i64 I,.int .i64 J,.int .i64 K,.int .i64 L,.int .i64 N,.int .i64 O,.int .i64 P,.sl 3 Q R S,.int .i64 T,.int .i64 U,.int .i64 V,.sl 1 W X Y,.sl 1 Z a0 a1]::(.box [.int .i64 a2,.int .i64 a3,.int .i64 a4,.int .u8 a5,.int .i64 a6,.int .i64 a7,.int .i64 a8,.int .i64 a9]::(uS 1 []))))))))))))) G
def J41 (a b c e f g h i k l m:Int) (n o p:Nat) (q r s:Int) (t v w x y z:Nat) (A B D E F H I J K L N O P Q:Int) (R S T:Nat) (U V W:Int) (X Y Z a0 a1 a2:Nat) (a3 a4 a5 a6 a7 a8 a9 b0:Int) (G:GH):Option Res:=M.j (execC M.j C (M.ag C) c41 ({ exits:=[],ret:=retK d }:Env) (retK d)) (uS 2 (.ref 88 0::(.ref 89 0::(.ref 90 0::(.ref 91 0::(uS 1 (vI a::(vI b::(vI c::(uS 78 (.box [.int .i64 e,.int .i64 f,.int .i64 g,.int .i64 h,.int .i64 i,.int .i64 k,.int .i64 l,.int .i64 m,.sl 3 n o p,.int .i64 q,.int .i64 r,.int .i64 s,.sl 1 t v w,.sl 1 x y z]::(.box [.int .i64 A,.int .i64 B,.int .i64 D,.int .i64 E,.int .i64 F,.int .u8 H]::(.box [.int .i64 I,.int .i64 J,.int .i64 K,.int .i64 L,.int .i64 N,.int .i64 O,.int .i64 P,.int .i64 Q,.sl 3 R S T,.int .i64 U,.int .i64 V,.int .i64 W,.sl 1 X Y Z,.sl 1 a0 a1 a2]::(.box [.int .i64 a3,.int .i64 a4,.int .i64 a5,.int .u8 a6,.int .i64 a7,.int .i64 a8,.int .i64 a9,.int .i64 b0]::(uS 1 []))))))))))))))) G
def J37 (a b c e f g h i k:Int) (l m n:Nat) (o p q:Int) (r s t v w x:Nat) (y z A B D E F H I J K L N O P Q:Int) (R S T:Nat) (U V W:Int) (X Y Z a0 a1 a2:Nat) (G:GH):Option Res:=M.j (execC M.j C (M.ag C) c37 ({ exits:=[],ret:=retK d }:Env) (retK d)) (uS 4 (.ref 90 0::(.ref 91 0::(uS 4 (.ref 92 0::(vI a::(uS 78 (.box [.int .i64 b,.int .i64 c,.int .i64 e,.int .i64 f,.int .i64 g,.int .i64 h,.int .i64 i,.int .i64 k,.sl 3 l m n,.int .i64 o,.int .i64 p,.int .i64 q,.sl 1 r s t,.sl 1 v w x]::(.box [.int .i64 y,.int .i64 z,.int .i64 A,.int .u8 B,.int .i64 D,.int .i64 E,.int .i64 F,.int .i64 H]::(.box [.int .i64 I,.int .i64 J,.int .i64 K,.int .i64 L,.int .i64 N,.int .i64 O,.int .i64 P,.int .i64 Q,.sl 3 R S T,.int .i64 U,.int .i64 V,.int .i64 W,.sl 1 X Y Z,.sl 1 a0 a1 a2]::[])))))))))) G
theorem J43_eq (u1 o a b d e f g h i:Int) (p q r:Nat) (j s t:Int) (v w x y z A:Nat) (m B k D l E F H I J K L N O:Int) (P Q R:Nat) (S T U:Int) (V W X Y Z a0:Nat) (a1 a2 a3 a4 a5 a6 a7 a8:Int) (G:GH):J43 M C u1 o a b d e f g h i p q r j s t v w x y z A m B k D l E F H I J K L N O P Q R S T U V W X Y Z a0 a1 a2 a3 a4 a5 a6 a7 a8 G=((C F54.id [.agg [.int .i64 a,.int .i64 b,.int .i64 d,.int .i64 e,.int .i64 f,.int .i64 g,.int .i64 h,.int .i64 i],.c (.int .i64 j),.c (.int .i64 o),.c (.int .i64 u1)] G).bind fun n=>(((n.1[0]?).bind V1.c?).bind (Cell.asI .i64)).bind fun q2=>(((n.1[1]?).bind V1.c?).bind (Cell.asI .i64)).bind fun q3=>bif decide (m=2) then (C F37.id [.agg [.int .i64 a,.int .i64 b,.int .i64 d,.int .i64 e,.int .i64 f,.int .i64 g,.int .i64 h,.int .i64 i],.c (.int .i64 j),.c (.int .i64 l),.c (.int .i64 k)] n.2).bind fun q4=>(((q4.1[0]?).bind V1.c?).bind (Cell.asI .i64)).bind fun q5=>(((q4.1[1]?).bind V1.c?).bind (Cell.asI .i64)).bind fun q6=>J41 M C (IntKind.i64.wrap (l*k)) q5 q6 a b d e f g h i p q r j s t v w x y z A m B k D l E F H I J K L N O P Q R S T U V W X Y Z a0 a1 a2 a3 a4 a5 a6 a7 a8 q4.2 else J41 M C o q2 q3 a b d e f g h i p q r j s t v w x y z A m B k D l E F H I J K L N O P Q R S T U V W X Y Z a0 a1 a2 a3 a4 a5 a6 a7 a8 n.2):=(M.hj _ _ _).trans (by kernel_rfl)
theorem J41_eq (u1 I J o p q r s t v w:Int) (l m n:Nat) (x y z:Int) (A B D E F H:Nat) (u18 u19 u20 u21 u22 u23 K L N O P Q R S:Int) (T U V:Nat) (W X Y:Int) (Z a0 a1 a2 a3 a4:Nat) (a5 a6 a7 a8 a9 b0 b1 b2:Int) (G:GH):J41 M C u1 I J o p q r s t v w l m n x y z A B D E F H u18 u19 u20 u21 u22 u23 K L N O P Q R S T U V W X Y Z a0 a1 a2 a3 a4 a5 a6 a7 a8 a9 b0 b1 b2 G=(bif (!decide (J=0)) then (C F18.id [.agg [.int .i64 o,.int .i64 p,.int .i64 q,.int .i64 r,.int .i64 s,.int .i64 t,.int .i64 v,.int .i64 w,.sl 3 l m n,.int .i64 x,.int .i64 y,.int .i64 z,.sl 1 A B D,.sl 1 E F H],.c (.int .i64 J)] G).bind fun q7=>((q7.1[0]?).bind V1.a?).bind fun b=>if b.length=14 then (((b[0]?).bind (Cell.asI .i64)).bind fun q9=>((b[1]?).bind (Cell.asI .i64)).bind fun q10=>((b[2]?).bind (Cell.asI .i64)).bind fun q11=>((b[3]?).bind (Cell.asI .i64)).bind fun q12=>((b[4]?).bind (Cell.asI .i64)).bind fun q13=>((b[5]?).bind (Cell.asI .i64)).bind fun q14=>((b[6]?).bind (Cell.asI .i64)).bind fun q15=>((b[7]?).bind (Cell.asI .i64)).bind fun q16=>((b[8]?).bind (Cell.asS 3)).bind fun q17=>((b[9]?).bind (Cell.asI .i64)).bind fun q18=>((b[10]?).bind (Cell.asI .i64)).bind fun q19=>((b[11]?).bind (Cell.asI .i64)).bind fun q20=>((b[12]?).bind (Cell.asS 1)).bind fun q21=>((b[13]?).bind (Cell.asS 1)).bind fun q22=>((q7.1[1]?).bind V1.a?).bind fun f=>if f.length=8 then (((f[0]?).bind (Cell.asI .i64)).bind fun q24=>((f[1]?).bind (Cell.asI .i64)).bind fun q25=>((f[2]?).bind (Cell.asI .i64)).bind fun q26=>((f[3]?).bind (Cell.asI .u8)).bind fun q27=>((f[4]?).bind (Cell.asI .i64)).bind fun q28=>((f[5]?).bind (Cell.asI .i64)).bind fun q29=>((f[6]?).bind (Cell.asI .i64)).bind fun q30=>((f[7]?).bind (Cell.asI .i64)).bind fun q31=>some ([.agg [.int .i64 q9,.int .i64 q10,.int .i64 q11,.int .i64 q12,.int .i64 q13,.int .i64 q14,.int .i64 q15,.int .i64 q16,.sl 3 q17.1 q17.2.1 q17.2.2,.int .i64 q18,.int .i64 q19,.int .i64 q20,.sl 1 q21.1 q21.2.1 q21.2.2,.sl 1 q22.1 q22.2.1 q22.2.2],.agg [.int .i64 q24,.int .i64 q25,.int .i64 q26,.int .u8 q27,.int .i64 q28,.int .i64 q29,.int .i64 q30,.int .i64 q31]],q7.2)) else none) else none else (C F21.id [.agg [.int .i64 o,.int .i64 p,.int .i64 q,.int .i64 r,.int .i64 s,.int .i64 t,.int .i64 v,.int .i64 w,.sl 3 l m n,.int .i64 x,.int .i64 y,.int .i64 z,.sl 1 A B D,.sl 1 E F H],.c (.sl 3 l m n),.c (.int .i64 I),.c (.int .i64 u1)] G).bind fun h=>((h.1[0]?).bind V1.a?).bind fun d=>if d.length=14 then (((d[0]?).bind (Cell.asI .i64)).bind fun q34=>((d[1]?).bind (Cell.asI .i64)).bind fun q35=>((d[2]?).bind (Cell.asI .i64)).bind fun q36=>((d[3]?).bind (Cell.asI .i64)).bind fun q37=>((d[4]?).bind (Cell.asI .i64)).bind fun q38=>((d[5]?).bind (Cell.asI .i64)).bind fun q39=>((d[6]?).bind (Cell.asI .i64)).bind fun q40=>((d[7]?).bind (Cell.asI .i64)).bind fun q41=>((d[8]?).bind (Cell.asS 3)).bind fun i=>((d[9]?).bind (Cell.asI .i64)).bind fun q43=>((d[10]?).bind (Cell.asI .i64)).bind fun q44=>((d[11]?).bind (Cell.asI .i64)).bind fun q45=>((d[12]?).bind (Cell.asS 1)).bind fun j=>((d[13]?).bind (Cell.asS 1)).bind fun k=>(((h.1[1]?).bind V1.c?).bind (Cell.asI .i64)).bind fun q48=>(((h.1[2]?).bind V1.c?).bind (Cell.asI .i64)).bind fun q49=>bif (!decide (q49=0)) then (C F18.id [.agg [.int .i64 o,.int .i64 p,.int .i64 q,.int .i64 r,.int .i64 s,.int .i64 t,.int .i64 v,.int .i64 w,.sl 3 l m n,.int .i64 x,.int .i64 y,.int .i64 z,.sl 1 A B D,.sl 1 E F H],.c (.int .i64 q49)] h.2).bind fun q50=>((q50.1[0]?).bind V1.a?).bind fun e=>if e.length=14 then (((e[0]?).bind (Cell.asI .i64)).bind fun q52=>((e[1]?).bind (Cell.asI .i64)).bind fun q53=>((e[2]?).bind (Cell.asI .i64)).bind fun q54=>((e[3]?).bind (Cell.asI .i64)).bind fun q55=>((e[4]?).bind (Cell.asI .i64)).bind fun q56=>((e[5]?).bind (Cell.asI .i64)).bind fun q57=>((e[6]?).bind (Cell.asI .i64)).bind fun q58=>((e[7]?).bind (Cell.asI .i64)).bind fun q59=>((e[8]?).bind (Cell.asS 3)).bind fun q60=>((e[9]?).bind (Cell.asI .i64)).bind fun q61=>((e[10]?).bind (Cell.asI .i64)).bind fun q62=>((e[11]?).bind (Cell.asI .i64)).bind fun q63=>((e[12]?).bind (Cell.asS 1)).bind fun q64=>((e[13]?).bind (Cell.asS 1)).bind fun q65=>((q50.1[1]?).bind V1.a?).bind fun g=>if g.length=8 then (((g[0]?).bind (Cell.asI .i64)).bind fun q67=>((g[1]?).bind (Cell.asI .i64)).bind fun q68=>((g[2]?).bind (Cell.asI .i64)).bind fun q69=>((g[3]?).bind (Cell.asI .u8)).bind fun q70=>((g[4]?).bind (Cell.asI .i64)).bind fun q71=>((g[5]?).bind (Cell.asI .i64)).bind fun q72=>((g[6]?).bind (Cell.asI .i64)).bind fun q73=>((g[7]?).bind (Cell.asI .i64)).bind fun q74=>some ([.agg [.int .i64 q52,.int .i64 q53,.int .i64 q54,.int .i64 q55,.int .i64 q56,.int .i64 q57,.int .i64 q58,.int .i64 q59,.sl 3 q60.1 q60.2.1 q60.2.2,.int .i64 q61,.int .i64 q62,.int .i64 q63,.sl 1 q64.1 q64.2.1 q64.2.2,.sl 1 q65.1 q65.2.1 q65.2.2],.agg [.int .i64 q67,.int .i64 q68,.int .i64 q69,.int .u8 q70,.int .i64 q71,.int .i64 q72,.int .i64 q73,.int .i64 q74]],q50.2)) else none) else none else bif decide (u18=2) then (C F42.id [.c (.sl 1 k.1 k.2.1 k.2.2),.c (.int .i64 q48),.c (.int .i64 I)] h.2).bind fun q75=>(((q75.1[0]?).bind V1.c?).bind (Cell.asS 1)).bind fun q76=>(((q75.1[1]?).bind V1.c?).bind Cell.asB).bind fun q77=>J37 M C q48 K L N O P Q R S T U V W X Y Z a0 a1 a2 a3 a4 a5 a6 a7 a8 a9 b0 b1 b2 q34 q35 q36 q37 q38 q39 q40 q41 i.1 i.2.1 i.2.2 q43 q44 q45 j.1 j.2.1 j.2.2 q76.1 q76.2.1 q76.2.2 q75.2 else J37 M C q48 K L N O P Q R S T U V W X Y Z a0 a1 a2 a3 a4 a5 a6 a7 a8 a9 b0 b1 b2 q34 q35 q36 q37 q38 q39 q40 q41 i.1 i.2.1 i.2.2 q43 q44 q45 j.1 j.2.1 j.2.2 k.1 k.2.1 k.2.2 h.2) else none):=(M.hj _ _ _).trans (by kernel_rfl)
theorem J37_eq (a w x y z A B D E:Int) (F H I:Nat) (J K L:Int) (N O P Q R S:Nat) (T U V W X Y Z a0 b c d e f g h i:Int) (j k l:Nat) (m n o:Int) (p q r s t v:Nat) (G:GH):J37 M C a w x y z A B D E F H I J K L N O P Q R S T U V W X Y Z a0 b c d e f g h i j k l m n o p q r s t v G=(some ([.agg [.int .i64 b,.int .i64 c,.int .i64 d,.int .i64 e,.int .i64 f,.int .i64 g,.int .i64 h,.int .i64 i,.sl 3 j k l,.int .i64 m,.int .i64 n,.int .i64 o,.sl 1 p q r,.sl 1 s t v],.agg [.int .i64 0,.int .i64 a,.int .i64 0,.int .u8 0,.int .i64 0,.int .i64 0,.int .i64 0,.int .i64 0]],G)):=(M.hj _ _ _).trans (by kernel_rfl)
def f (d e g h i j k l:Int) (m n o:Nat) (p q r:Int) (s t v w x y:Nat) (b z a c A B:Int) (G:GH):Option Res:=bif decide (b=3) then J43 M C c a d e g h i j k l m n o p q r s t v w x y b z a c A B 0 0 0 0 0 0 0 0 0 0 0 0 0 0 0 0 0 0 0 0 0 0 0 0 0 0 0 0 G else J43 M C 1 a d e g h i j k l m n o p q r s t v w x y b z a c A B 0 0 0 0 0 0 0 0 0 0 0 0 0 0 0 0 0 0 0 0 0 0 0 0 0 0 0 0 G
theorem eq (a b c e g h i j:Int) (k l m:Nat) (n o p:Int) (q r s t v w:Nat) (x y z A B D:Int) (G:GH):runF M C d [.agg [.int .i64 a,.int .i64 b,.int .i64 c,.int .i64 e,.int .i64 g,.int .i64 h,.int .i64 i,.int .i64 j,.sl 3 k l m,.int .i64 n,.int .i64 o,.int .i64 p,.sl 1 q r s,.sl 1 t v w],.agg [.int .i64 x,.int .i64 y,.int .i64 z,.int .i64 A,.int .i64 B,.int .u8 D]] G=f M C a b c e g h i j k l m n o p q r s t v w x y z A B D G:=by kernel_rfl
end F27
namespace F97
def c7:DCode:=(.cond (.t 39) (.seq (.region [oP 0 40 (.ldL 9 112 (.agg [.sl 2])),
 ⟨1,none,.stL 8 111 (.t 40) 1,none⟩]) .ret) .skip)
def c27:DCode:=(.cond (.t 90) (.region [oP 0 91 (.ldL 12 113 (.agg [.int .i64,.sl 1])),
 mV 1 92 16,
 oP 2 93 (.faddr 9 0),
 oP 3 94 (.ldL 93 112 (.c (.sl 2))),
 mV 4 95 11,
 oP 5 96 (.bin .sub .i64 (.t 95) (kI 1)),
 oP 6 97 (.iaddr (.t 94) (.t 96) 2),
 oP 7 98 (.ldG 97 (.agg [.int .i64,.sl 1])),
 mV 8 99 16,
 oP 9 100 (.call 109 [.t 98,.t 99] [.c (.bool)]),
 oP 10 101 (.call 108 [.t 91,.t 92,.k (.c (.int .i64 1)),.t 100] [.agg [.int .i64,.sl 1]]),
 ⟨11,none,.stL 12 113 (.t 101) 2,none⟩]) .skip)
def c31:DCode:=(.region [oP 0 102 (.bin .add .i64 (.t 81) (kI 1)),
 mV 1 81 102])
def c34:DCode:=(.seq (.region [oP 0 82 (.cmp .lss .i64 (.t 81) (.t 80))]) (.seq (.cond (.t 82) .skip (.exit 2)) (.seq (.block 3 (.seq (.region [oP 0 83 (.iaddr (.t 79) (.t 81) 1),
 oP 1 84 (.ldG 83 (.c (.int .i64))),
 mV 2 16 84]) (.seq (.region [mV 0 85 11,
 oP 1 86 (.cmp .gtr .i64 (.t 85) (kI 0)),
 mV 2 87 86,
 ⟨3,some 88,.move (.t 3),some (87,true)⟩,
 ⟨4,some 89,.not (.t 88),some (87,true)⟩,
 oP 5 90 (.pick (.t 87) (.t 89) (kB false))]) (.cut [1,3,8,9,10,11,12,16,54,55,56,79,80,81,90,111,112,113] c27)))) (.cut [1,3,8,9,10,11,12,54,55,56,79,80,81,111,112,113] c31))))
def c35:DCode:=(.loop [1,3,8,9,10,11,12,54,55,56,79,80,81,111,112,113] c34)
def c38:DCode:=(.region [oP 0 103 (.faddr 9 0),
 oP 1 104 (.ldL 103 112 (.c (.sl 2))),
 mV 2 105 11,
 oP 3 106 (.ldL 12 113 (.agg [.int .i64,.sl 1])),
 oP 4 107 (.iaddr (.t 104) (.t 105) 2),
 ⟨5,none,.stG 107 (.t 106) 2,none⟩])
def c44:DCode:=(.region [oP 0 108 (.bin .add .i64 (.t 56) (kI 1)),
 mV 1 56 108])
def c47:DCode:=(.seq (.region [oP 0 57 (.cmp .lss .i64 (.t 56) (.t 55))]) (.seq (.cond (.t 57) .skip (.exit 0)) (.seq (.block 1 (.seq (.region [mV 0 58 56,
 oP 1 59 (.iaddr (.t 54) (.t 56) 2),
 oP 2 60 (.ldG 59 (.agg [.int .i64,.sl 1])),
 oP 3 12 (.boxz 113 [] [.int .i64 0,.sl 1 0 0 0]),
 mV 4 11 58,
 ⟨5,none,.stL 12 113 (.t 60) 2,none⟩]) (.seq (.region [mV 0 61 1,
 mV 1 62 11,
 oP 2 63 (.conv .u64 (.t 62)),
 oP 3 64 (.bin .shr .i64 (.t 61) (.t 63)),
 mV 4 65 10,
 mV 5 66 11,
 oP 6 67 (.conv .u64 (.t 66)),
 oP 7 68 (.bin .shr .i64 (.t 65) (.t 67)),
 mV 8 13 64,
 mV 9 14 68]) (.seq (.region [oP 0 69 (.ldL 12 113 (.agg [.int .i64,.sl 1])),
 mV 1 70 13,
 mV 2 71 14,
 mV 3 72 13,
 oP 4 73 (.bin .sub .i64 (.t 71) (.t 72)),
 oP 5 74 (.bin .add .i64 (.t 73) (kI 1)),
 mV 6 75 3,
 oP 7 76 (.call 108 [.t 69,.t 70,.t 74,.t 75] [.agg [.int .i64,.sl 1]]),
 ⟨8,none,.stL 12 113 (.t 76) 2,none⟩]) (.seq (.seq (.region [mV 0 77 13,
 mV 1 78 14,
 oP 2 79 (.bslice 2 1 (zI 2) [(0,1,.t 77),(1,1,.t 78)]),
 oP 3 80 (.len (.t 79)),
 oP 4 81 (.move (kI 0))]) (.block 2 c35)) c38))))) c44)))
def c48:DCode:=(.loop [1,3,8,9,10,54,55,56,111,112] c47)
def c53:DCode:=(.seq (.region [oP 0 109 (.ldL 9 112 (.agg [.sl 2])),
 ⟨1,none,.stL 8 111 (.t 109) 1,none⟩]) .ret)
def c55:DCode:=(.seq (.region [mV 0 41 1,
 mV 1 42 2,
 oP 2 43 (.faddr 9 0),
 oP 3 44 (.ldL 43 112 (.c (.sl 2))),
 oP 4 45 (.iaddr (.t 44) (kI 0) 2),
 oP 5 46 (.faddr 45 0),
 oP 6 47 (.ldG 46 (.c (.int .i64))),
 mV 7 48 1,
 oP 8 49 (.bin .sub .i64 (.t 47) (.t 48)),
 oP 9 50 (.mn (.t 42) [.t 49]),
 oP 10 51 (.bin .add .i64 (.t 41) (.t 50)),
 oP 11 52 (.bin .sub .i64 (.t 51) (kI 1)),
 mV 12 10 52]) (.seq (.seq (.region [oP 0 53 (.faddr 9 0),
 oP 1 54 (.ldL 53 112 (.c (.sl 2))),
 oP 2 55 (.len (.t 54)),
 oP 3 56 (.move (kI 0))]) (.block 0 c48)) c53))
def d:DFn:={ ntmps:=114,res:=[.box 8 (some 1)],body:=(.seq (.region [oP 0 4 (.boxv 110 [] (.t 0) 1),
 oP 1 8 (.boxz 111 [] [.sl 2 0 0 0])]) (.seq (.region [oP 0 17 (.ldL 4 110 (.agg [.sl 2])),
 oP 1 18 (.call 107 [.t 17] [.agg [.sl 2]]),
 oP 2 9 (.boxz 112 [19,33,43,53,93,103] [.sl 2 0 0 0]),
 ⟨3,none,.stL 9 112 (.t 18) 1,none⟩]) (.seq (.seq (.region [oP 0 19 (.faddr 9 0),
 oP 1 20 (.ldL 19 112 (.c (.sl 2))),
 oP 2 21 (.len (.t 20)),
 oP 3 22 (.cmp .eql .i64 (.t 21) (kI 0)),
 mV 4 23 22,
 ⟨5,some 24,.move (.t 1),some (23,false)⟩,
 ⟨6,some 25,.cmp .lss .i64 (.t 24) (kI 0),some (23,false)⟩,
 oP 7 26 (.pick (.t 23) (kB true) (.t 25)),
 mV 8 27 26,
 ⟨9,some 28,.move (.t 2),some (27,false)⟩,
 ⟨10,some 29,.cmp .lss .i64 (.t 28) (kI 1),some (27,false)⟩,
 oP 11 30 (.pick (.t 27) (kB true) (.t 29)),
 mV 12 31 30,
 ⟨13,some 32,.move (.t 1),some (31,false)⟩,
 ⟨14,some 33,.faddr 9 0,some (31,false)⟩,
 ⟨15,some 34,.ldL 33 112 (.c (.sl 2)),some (31,false)⟩,
 ⟨16,some 35,.iaddr (.t 34) (kI 0) 2,some (31,false)⟩,
 ⟨17,some 36,.faddr 35 0,some (31,false)⟩,
 ⟨18,some 37,.ldG 36 (.c (.int .i64)),some (31,false)⟩,
 ⟨19,some 38,.cmp .geq .i64 (.t 32) (.t 37),some (31,false)⟩,
 oP 20 39 (.pick (.t 31) (kB true) (.t 38))]) (.cut [1,2,3,8,9,39,111,112] c7)) c55))) }
def k55:Kont:=execC M.j C (M.ag C) c55 ({ exits:=[],ret:=retK d }:Env) (retK d)
def J7 (a b:Int) (c e:Bool) (f g h i k l:Nat) (G:GH):Option Res:=M.j (execC M.j C (M.ag C) c7 ({ exits:=[],ret:=retK d }:Env) (k55 M C)) (uS 1 (vI a::(vI b::(vB c::(uS 4 (.ref 111 0::(.ref 112 0::(uS 29 (vB e::(uS 71 (.box [.sl 2 f g h]::(.box [.sl 2 i k l]::(uS 1 []))))))))))))) G
def k53:Kont:=execC M.j C (M.ag C) c53 ({ exits:=[],ret:=retK d }:Env) (retK d)
def e49:Env:={ exits:=(0,(k53 M C))::(({ exits:=[],ret:=retK d }:Env)).exits,ret:=(({ exits:=[],ret:=retK d }:Env)).ret }
def L48 (a:Int) (b:Bool) (c:Int) (d e f:Nat) (g h:Int) (i j k l m n:Nat) (G:GH):Option Res:=M.ag C [1,3,8,9,10,54,55,56,111,112] c47 (e49 M C) (k53 M C) (uS 1 (vI a::(uS 1 (vB b::(uS 4 (.ref 111 0::(.ref 112 0::(vI c::(uS 43 (vS 2 d e f::(vI g::(vI h::(uS 54 (.box [.sl 2 i j k]::(.box [.sl 2 l m n]::(uS 1 [])))))))))))))))) G
def k48:Kont:=fun tm G=>M.ag C [1,3,8,9,10,54,55,56,111,112] c47 (e49 M C) (k53 M C) (restr [1,3,8,9,10,54,55,56,111,112] 0 tm) G
def k44:Kont:=execC M.j C (M.ag C) c44 (e49 M C) (k48 M C)
def e43:Env:={ exits:=(1,(k44 M C))::((e49 M C)).exits,ret:=((e49 M C)).ret }
def k38:Kont:=execC M.j C (M.ag C) c38 (e43 M C) (k44 M C)
def e36:Env:={ exits:=(2,(k38 M C))::((e43 M C)).exits,ret:=((e43 M C)).ret }
def L35 (a:Int) (b:Bool) (c d:Int) (e f g:Nat) (h i:Int) (j k l:Nat) (m n:Int) (o p q r s t:Nat) (v:Int) (w x y:Nat) (G:GH):Option Res:=M.ag C [1,3,8,9,10,11,12,54,55,56,79,80,81,111,112,113] c34 (e36 M C) (k38 M C) (uS 1 (vI a::(uS 1 (vB b::(uS 4 (.ref 111 0::(.ref 112 0::(vI c::(vI d::(.ref 113 0::(uS 41 (vS 2 e f g::(vI h::(vI i::(uS 22 (vS 1 j k l::(vI m::(vI n::(uS 29 (.box [.sl 2 o p q]::(.box [.sl 2 r s t]::(.box [.int .i64 v,.sl 1 w x y]::[])))))))))))))))))))))) G
def k35:Kont:=fun tm G=>M.ag C [1,3,8,9,10,11,12,54,55,56,79,80,81,111,112,113] c34 (e36 M C) (k38 M C) (restr [1,3,8,9,10,11,12,54,55,56,79,80,81,111,112,113] 0 tm) G
def k31:Kont:=execC M.j C (M.ag C) (.cut [1,3,8,9,10,11,12,54,55,56,79,80,81,111,112,113] c31) (e36 M C) (k35 M C)
def e30:Env:={ exits:=(3,(k31 M C))::((e36 M C)).exits,ret:=((e36 M C)).ret }
def J27 (a:Int) (b:Bool) (c d e:Int) (f g h:Nat) (i k:Int) (l m n:Nat) (o p:Int) (q:Bool) (r s t v w x:Nat) (y:Int) (z A B:Nat) (G:GH):Option Res:=M.j (execC M.j C (M.ag C) c27 (e30 M C) (k31 M C)) (uS 1 (vI a::(uS 1 (vB b::(uS 4 (.ref 111 0::(.ref 112 0::(vI c::(vI d::(.ref 113 0::(uS 3 (vI e::(uS 37 (vS 2 f g h::(vI i::(vI k::(uS 22 (vS 1 l m n::(vI o::(vI p::(uS 8 (vB q::(uS 20 (.box [.sl 2 r s t]::(.box [.sl 2 v w x]::(.box [.int .i64 y,.sl 1 z A B]::[])))))))))))))))))))))))))) G
def J31 (a:Int) (b:Bool) (c d:Int) (e f g:Nat) (h i:Int) (k l m:Nat) (n o:Int) (p q r s t v:Nat) (w:Int) (x y z:Nat) (G:GH):Option Res:=M.j (execC M.j C (M.ag C) c31 (e36 M C) (k35 M C)) (uS 1 (vI a::(uS 1 (vB b::(uS 4 (.ref 111 0::(.ref 112 0::(vI c::(vI d::(.ref 113 0::(uS 41 (vS 2 e f g::(vI h::(vI i::(uS 22 (vS 1 k l m::(vI n::(vI o::(uS 29 (.box [.sl 2 p q r]::(.box [.sl 2 s t v]::(.box [.int .i64 w,.sl 1 x y z]::[])))))))))))))))))))))) G
theorem J7_eq (d e:Int) (f g:Bool) (h i j b c a:Nat) (G:GH):J7 M C d e f g h i j b c a G=(bif g then some ([.agg [.sl 2 b c a]],G) else guardK (decide (0≤(0:Int)∧(0:Int)<((a:Nat):Int))) (((G.ld b ((c+Int.toNat 0*2)+0)).bind (Cell.asI .i64)).bind fun k=>L48 M C d f (IntKind.i64.wrap ((IntKind.i64.wrap (d+(mn2 e (IntKind.i64.wrap (k-d)))))-1)) b c a ((a:Nat):Int) 0 h i j b c a G)):=(M.hj _ _ _).trans (by kernel_rfl)
theorem L48_eq (f:Int) (g:Bool) (h:Int) (d e i:Nat) (j b:Int) (s t v k l m:Nat) (G:GH):L48 M C f g h d e i j b s t v k l m G=(bif decide (b<j) then guardK (decide (0≤b∧b<((i:Nat):Int))) (((G.ld d ((e+Int.toNat b*2)+0)).bind (Cell.asI .i64)).bind fun x=>((G.ld d ((e+Int.toNat b*2)+1)).bind (Cell.asS 1)).bind fun n=>(binD .shr .i64 f (IntKind.u64.wrap b)).bind fun o=>(binD .shr .i64 h (IntKind.u64.wrap b)).bind fun w=>(C F109.id [.agg [.int .i64 x,.sl 1 n.1 n.2.1 n.2.2],.c (.int .i64 o),.c (.int .i64 (IntKind.i64.wrap ((IntKind.i64.wrap (w-o))+1))),.c (.bool g)] G).bind fun p=>((p.1[0]?).bind V1.a?).bind fun q=>if q.length=2 then (((q[0]?).bind (Cell.asI .i64)).bind fun y=>((q[1]?).bind (Cell.asS 1)).bind fun r=>let z:=p.2.alloc (.row [.int .i64 o,.int .i64 w] false);L35 M C f g h b d e i j b p.2.next 0 2 2 0 s t v k l m y r.1 r.2.1 r.2.2 z) else none) else some ([.agg [.sl 2 k l m]],G)):=(M.hs _ _ _ _ _ _ _).trans (by kernel_rfl)
theorem L35_eq (g:Int) (c:Bool) (h a:Int) (i j k:Nat) (l m:Int) (n o p:Nat) (q b:Int) (r s t d e f:Nat) (v:Int) (w x y:Nat) (G:GH):L35 M C g c h a i j k l m n o p q b r s t d e f v w x y G=(bif decide (b<q) then guardK (decide (0≤b∧b<((p:Nat):Int))) (((G.ld n (o+Int.toNat b*1)).bind (Cell.asI .i64)).bind fun z=>bif decide (a>0) then J27 M C g c h a z i j k l m n o p q b (!c) r s t d e f v w x y G else J27 M C g c h a z i j k l m n o p q b false r s t d e f v w x y G) else guardK (decide (0≤a∧a<((f:Nat):Int))) ((G.sts d (e+Int.toNat a*2) [.int .i64 v,.sl 1 w x y]).bind fun A=>L48 M C g c h i j k l (IntKind.i64.wrap (m+1)) r s t d e f A)):=(M.hs _ _ _ _ _ _ _).trans (by kernel_rfl)
theorem J27_eq (g:Int) (h:Bool) (i b j:Int) (k l m:Nat) (n o:Int) (p q r:Nat) (s t:Int) (H:Bool) (v w x d e f:Nat) (y:Int) (z A B:Nat) (G:GH):J27 M C g h i b j k l m n o p q r s t H v w x d e f y z A B G=(bif H then guardK (decide (0≤IntKind.i64.wrap (b-1)∧IntKind.i64.wrap (b-1)<((f:Nat):Int))) (((G.ld d ((e+Int.toNat (IntKind.i64.wrap (b-1))*2)+0)).bind (Cell.asI .i64)).bind fun K=>((G.ld d ((e+Int.toNat (IntKind.i64.wrap (b-1))*2)+1)).bind (Cell.asS 1)).bind fun D=>(C F74.id [.agg [.int .i64 K,.sl 1 D.1 D.2.1 D.2.2],.c (.int .i64 j)] G).bind fun I=>(((I.1[0]?).bind V1.c?).bind Cell.asB).bind fun L=>(C F109.id [.agg [.int .i64 y,.sl 1 z A B],.c (.int .i64 j),.c (.int .i64 1),.c (.bool L)] I.2).bind fun J=>((J.1[0]?).bind V1.a?).bind fun E=>if E.length=2 then (((E[0]?).bind (Cell.asI .i64)).bind fun N=>((E[1]?).bind (Cell.asS 1)).bind fun F=>J31 M C g h i b k l m n o p q r s t v w x d e f N F.1 F.2.1 F.2.2 J.2) else none) else J31 M C g h i b k l m n o p q r s t v w x d e f y z A B G):=(M.hj _ _ _).trans (by kernel_rfl)
theorem J31_eq (a:Int) (b:Bool) (c d:Int) (e f g:Nat) (h i:Int) (j k l:Nat) (m n:Int) (o p q r s t:Nat) (v:Int) (w x y:Nat) (G:GH):J31 M C a b c d e f g h i j k l m n o p q r s t v w x y G=(L35 M C a b c d e f g h i j k l m (IntKind.i64.wrap (n+1)) o p q r s t v w x y G):=(M.hj _ _ _).trans (by kernel_rfl)
def f (i j k:Nat) (c e:Int) (g:Bool) (G:GH):Option Res:=(C F85.id [.agg [.sl 2 i j k]] G).bind fun d=>((d.1[0]?).bind V1.a?).bind fun h=>if h.length=1 then (((h[0]?).bind (Cell.asS 2)).bind fun b=>bif decide (((b.2.2:Nat):Int)=0) then J7 M C c e g true 0 0 0 b.1 b.2.1 b.2.2 d.2 else bif decide (c<0) then J7 M C c e g true 0 0 0 b.1 b.2.1 b.2.2 d.2 else bif decide (e<1) then J7 M C c e g true 0 0 0 b.1 b.2.1 b.2.2 d.2 else guardK (decide (0≤(0:Int)∧(0:Int)<((b.2.2:Nat):Int))) (((d.2.ld b.1 ((b.2.1+Int.toNat 0*2)+0)).bind (Cell.asI .i64)).bind fun l=>J7 M C c e g (decide (c≥l)) 0 0 0 b.1 b.2.1 b.2.2 d.2)) else none
theorem eq (a b e:Nat) (g h:Int) (i:Bool) (G:GH):runF M C d [.agg [.sl 2 a b e],.c (.int .i64 g),.c (.int .i64 h),.c (.bool i)] G=f M C a b e g h i G:=by kernel_rfl
end F97
namespace F79
def c13:DCode:=(.cond (.t 34) (.seq (.region [oP 0 4 (.move (kB false))]) .ret) .skip)
def c18:DCode:=(.region [oP 0 35 (.bin .add .i64 (.t 11) (kI 1)),
 mV 1 11 35])
def c21:DCode:=(.seq (.region [oP 0 12 (.cmp .lss .i64 (.t 11) (.t 10))]) (.seq (.cond (.t 12) .skip (.exit 0)) (.seq (.block 1 (.seq (.region [oP 0 13 (.iaddr (.t 9) (.t 11) 3),
 oP 1 14 (.ldG 13 (.agg (iS 3))),
 oP 2 6 (.boxz 37 [17,25,30] (zI 3)),
 ⟨3,none,.stL 6 37 (.t 14) 3,none⟩]) (.seq (.region [oP 0 16 (.ldL 2 36 (.agg (iS 8))),
 oP 1 17 (.faddr 6 1),
 oP 2 18 (.ldL 17 37 (.c (.int .i64))),
 oP 3 19 (.call 14 [.t 16,.t 18] [.c (.int .i64),.c (.bool)]),
 mV 4 15 19,
 oP 5 20 (.ext 15 0),
 oP 6 21 (.ext 15 1),
 mV 7 7 20,
 mV 8 8 21]) (.seq (.region [mV 0 22 8,
 oP 1 23 (.not (.t 22)),
 mV 2 24 23,
 ⟨3,some 25,.faddr 6 0,some (24,false)⟩,
 ⟨4,some 26,.ldL 25 37 (.c (.int .i64)),some (24,false)⟩,
 ⟨5,some 27,.ldL 2 36 (.agg (iS 8)),some (24,false)⟩,
 ⟨6,some 28,.move (.t 7),some (24,false)⟩,
 ⟨7,some 29,.call 15 [.t 27,.t 28] [.c (.int .i64)],some (24,false)⟩,
 ⟨8,some 30,.faddr 6 1,some (24,false)⟩,
 ⟨9,some 31,.ldL 30 37 (.c (.int .i64)),some (24,false)⟩,
 ⟨10,some 32,.bin .sub .i64 (.t 29) (.t 31),some (24,false)⟩,
 ⟨11,some 33,.cmp .gtr .i64 (.t 26) (.t 32),some (24,false)⟩,
 oP 12 34 (.pick (.t 24) (kB true) (.t 33))]) (.cut [2,9,10,11,34,36] c13))))) c18)))
def c22:DCode:=(.loop [2,9,10,11,36] c21)
def c27:DCode:=(.seq (.region [oP 0 4 (.move (kB true))]) .ret)
def d:DFn:={ ntmps:=38,res:=[.t 4],body:=(.seq (.region [oP 0 2 (.boxv 36 [] (.t 0) 8),
 oP 1 4 (.move (kB false))]) (.seq (.seq (.region [mV 0 9 1,
 oP 1 10 (.len (.t 9)),
 oP 2 11 (.move (kI 0))]) (.block 0 c22)) c27)) }
def k27:Kont:=execC M.j C (M.ag C) c27 ({ exits:=[],ret:=retK d }:Env) (retK d)
def e23:Env:={ exits:=(0,(k27 M C))::(({ exits:=[],ret:=retK d }:Env)).exits,ret:=(({ exits:=[],ret:=retK d }:Env)).ret }
def L22 (a b c:Nat) (d e f g h i j k l m:Int) (G:GH):Option Res:=M.ag C [2,9,10,11,36] c21 (e23 M C) (k27 M C) (uS 2 (.ref 36 0::(uS 6 (vS 3 a b c::(vI d::(vI e::(uS 24 (.box [.int .i64 f,.int .i64 g,.int .i64 h,.int .i64 i,.int .i64 j,.int .i64 k,.int .i64 l,.int .i64 m]::(uS 1 []))))))))) G
def k22:Kont:=fun tm G=>M.ag C [2,9,10,11,36] c21 (e23 M C) (k27 M C) (restr [2,9,10,11,36] 0 tm) G
def k18:Kont:=execC M.j C (M.ag C) c18 (e23 M C) (k22 M C)
def e17:Env:={ exits:=(1,(k18 M C))::((e23 M C)).exits,ret:=((e23 M C)).ret }
def J13 (a b c:Nat) (d e:Int) (f:Bool) (g h i k l m n o:Int) (G:GH):Option Res:=M.j (execC M.j C (M.ag C) c13 (e17 M C) (k18 M C)) (uS 2 (.ref 36 0::(uS 6 (vS 3 a b c::(vI d::(vI e::(uS 22 (vB f::(uS 1 (.box [.int .i64 g,.int .i64 h,.int .i64 i,.int .i64 k,.int .i64 l,.int .i64 m,.int .i64 n,.int .i64 o]::(uS 1 []))))))))))) G
theorem L22_eq (b d m:Nat) (n a e f g h i j k l:Int) (G:GH):L22 M C b d m n a e f g h i j k l G=(bif decide (a<n) then guardK (decide (0≤a∧a<((m:Nat):Int))) (((G.ld b ((d+Int.toNat a*3)+0)).bind (Cell.asI .i64)).bind fun r=>((G.ld b ((d+Int.toNat a*3)+1)).bind (Cell.asI .i64)).bind fun p=>((G.ld b ((d+Int.toNat a*3)+2)).bind (Cell.asI .i64)).bind fun w=>(C F84.id [.agg [.int .i64 e,.int .i64 f,.int .i64 g,.int .i64 h,.int .i64 i,.int .i64 j,.int .i64 k,.int .i64 l],.c (.int .i64 p)] G).bind fun o=>(((o.1[0]?).bind V1.c?).bind (Cell.asI .i64)).bind fun s=>(((o.1[1]?).bind V1.c?).bind Cell.asB).bind fun t=>bif (!t) then J13 M C b d m n a true e f g h i j k l o.2 else (C F102.id [.agg [.int .i64 e,.int .i64 f,.int .i64 g,.int .i64 h,.int .i64 i,.int .i64 j,.int .i64 k,.int .i64 l],.c (.int .i64 s)] o.2).bind fun q=>(((q.1[0]?).bind V1.c?).bind (Cell.asI .i64)).bind fun v=>J13 M C b d m n a (decide (r>IntKind.i64.wrap (v-p))) e f g h i j k l q.2) else some ([.c (.bool true)],G)):=(M.hs _ _ _ _ _ _ _).trans (by kernel_rfl)
theorem J13_eq (a b d:Nat) (e f:Int) (g:Bool) (h i j k l m n o:Int) (G:GH):J13 M C a b d e f g h i j k l m n o G=(bif g then some ([.c (.bool false)],G) else L22 M C a b d e (IntKind.i64.wrap (f+1)) h i j k l m n o G):=(M.hj _ _ _).trans (by kernel_rfl)
def f (b c d e g h i j:Int) (k l a:Nat) (G:GH):Option Res:=L22 M C k l a ((a:Nat):Int) 0 b c d e g h i j G
theorem eq (a b e g h i j k:Int) (l m n:Nat) (G:GH):runF M C d [.agg [.int .i64 a,.int .i64 b,.int .i64 e,.int .i64 g,.int .i64 h,.int .i64 i,.int .i64 j,.int .i64 k],.c (.sl 3 l m n)] G=f M C a b e g h i j k l m n G:=by kernel_rfl
end F79

end Go.Proofs.D
