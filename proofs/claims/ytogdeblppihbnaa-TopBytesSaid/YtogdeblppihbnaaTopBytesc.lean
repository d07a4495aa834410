/- Texts of the proof (T1); no condition. -/
import Derived.Test.YtogdeblppihbnaaTopBytesa
import Derived.KernelRfl
set_option linter.unusedSimpArgs false
set_option linter.unusedVariables false
set_option linter.unusedVariables false
set_option maxRecDepth 100000
namespace Go.Proofs.D
open Go
variable (M:Mach) (C:Call)
namespace F67
def c7:DCode:=(.cond (.t 39) (.seq (.region [oP 0 40 (.ldL 9 112 (.agg [.sl 2])),
 ⟨1,none,.stL 8 111 (.t 40) 1,none⟩]) .ret) .skip)
def c27:DCode:=(.cond (.t 90) (.region [oP 0 91 (.ldL 12 113 (.agg [.int .i64,.sl 1])),
 mV 1 92 16,
 oP 2 93 (.faddr 9 0),
 oP 3 94 (.ldL 93 112 (.c (.sl 2))),
 mV 4 95 11,
 oP 5 96 (.bin .sub .i64 (.t 95) (kI 1)),
 oP 6 97 (.iaddr (.t 94) (.t 96) 2),
 oP 7 98 (.ldG 97 (.agg [.int .i64,.sl 1])),
 mV 8 99 16,
 oP 9 100 (.call 88 [.t 98,.t 99] [.c (.bool)]),
 oP 10 101 (.call 87 [.t 91,.t 92,.k (.c (.int .i64 1)),.t 100] [.agg [.int .i64,.sl 1]]),
 ⟨11,none,.stL 12 113 (.t 101) 2,none⟩]) .skip)
def c31:DCode:=(.region [oP 0 102 (.bin .add .i64 (.t 81) (kI 1)),
 mV 1 81 102])
def c34:DCode:=(.seq (.region [oP 0 82 (.cmp .lss .i64 (.t 81) (.t 80))]) (.seq (.cond (.t 82) .skip (.exit 2)) (.seq (.block 3 (.seq (.region [oP 0 83 (.iaddr (.t 79) (.t 81) 1),
 oP 1 84 (.ldG 83 (.c (.int .i64))),
 mV 2 16 84]) (.seq (.region [mV 0 85 11,
 oP 1 86 (.cmp .gtr .i64 (.t 85) (kI 0)),
 mV 2 87 86,
 ⟨3,some 88,.move (.t 3),some (87,true)⟩,
 ⟨4,some 89,.not (.t 88),some (87,true)⟩,
 oP 5 90 (.pick (.t 87) (.t 89) (kB false))]) (.cut [1,3,8,9,10,11,12,16,54,55,56,79,80,81,90,111,112,113] c27)))) (.cut [1,3,8,9,10,11,12,54,55,56,79,80,81,111,112,113] c31))))
def c35:DCode:=(.loop [1,3,8,9,10,11,12,54,55,56,79,80,81,111,112,113] c34)
def c38:DCode:=(.region [oP 0 103 (.faddr 9 0),
 oP 1 104 (.ldL 103 112 (.c (.sl 2))),
 mV 2 105 11,
 oP 3 106 (.ldL 12 113 (.agg [.int .i64,.sl 1])),
 oP 4 107 (.iaddr (.t 104) (.t 105) 2),
 ⟨5,none,.stG 107 (.t 106) 2,none⟩])
def c44:DCode:=(.region [oP 0 108 (.bin .add .i64 (.t 56) (kI 1)),
 mV 1 56 108])
def c47:DCode:=(.seq (.region [oP 0 57 (.cmp .lss .i64 (.t 56) (.t 55))]) (.seq (.cond (.t 57) .skip (.exit 0)) (.seq (.block 1 (.seq (.region [mV 0 58 56,
 oP 1 59 (.iaddr (.t 54) (.t 56) 2),
 oP 2 60 (.ldG 59 (.agg [.int .i64,.sl 1])),
 oP 3 12 (.boxz 113 [] [.int .i64 0,.sl 1 0 0 0]),
 mV 4 11 58,
 ⟨5,none,.stL 12 113 (.t 60) 2,none⟩]) (.seq (.region [mV 0 61 1,
 mV 1 62 11,
 oP 2 63 (.conv .u64 (.t 62)),
 oP 3 64 (.bin .shr .i64 (.t 61) (.t 63)),
 mV 4 65 10,
 mV 5 66 11,
 oP 6 67 (.conv .u64 (.t 66)),
 oP 7 68 (.bin .shr .i64 (.t 65) (.t 67)),
 mV 8 13 64,
 mV 9 14 68]) (.seq (.region [oP 0 69 (.ldL 12 113 (.agg [.int .i64,.sl 1])),
 mV 1 70 13,
 mV 2 71 14,
 mV 3 72 13,
 oP 4 73 (.bin .sub .i64 (.t 71) (.t 72)),
 oP 5 74 (.bin .add .i64 (.t 73) (kI 1)),
 mV 6 75 3,
 oP 7 76 (.call 87 [.t 69,.t 70,.t 74,.t 75] [.agg [.int .i64,.sl 1]]),
 ⟨8,none,.stL 12 113 (.t 76) 2,none⟩]) (.seq (.seq (.region [mV 0 77 13,
 mV 1 78 14,
 oP 2 79 (.bslice 2 1 (zI 2) [(0,1,.t 77),(1,1,.t 78)]),
 oP 3 80 (.len (.t 79)),
 oP 4 81 (.move (kI 0))]) (.block 2 c35)) c38))))) c44)))
def c48:DCode:=(.loop [1,3,8,9,10,54,55,56,111,112] c47)
def c53:DCode:=(.seq (.region [oP 0 109 (.ldL 9 112 (.agg [.sl 2])),
 ⟨1,none,.stL 8 111 (.t 109) 1,none⟩]) .ret)
def c55:DCode:=(.seq (.region [mV 0 41 1,
 mV 1 42 2,
 oP 2 43 (.faddr 9 0),
 oP 3 44 (.ldL 43 112 (.c (.sl 2))),
 oP 4 45 (.iaddr (.t 44) (kI 0) 2),
 oP 5 46 (.faddr 45 0),
 oP 6 47 (.ldG 46 (.c (.int .i64))),
 mV 7 48 1,
 oP 8 49 (.bin .sub .i64 (.t 47) (.t 48)),
 oP 9 50 (.mn (.t 42) [.t 49]),
 oP 10 51 (.bin .add .i64 (.t 41) (.t 50)),
 oP 11 52 (.bin .sub .i64 (.t 51) (kI 1)),
 mV 12 10 52]) (.seq (.seq (.region [oP 0 53 (.faddr 9 0),
 oP 1 54 (.ldL 53 112 (.c (.sl 2))),
 oP 2 55 (.len (.t 54)),
 oP 3 56 (.move (kI 0))]) (.block 0 c48)) c53))
def d:DFn:={ ntmps:=114,res:=[.box 8 (some 1)],body:=(.seq (.region [oP 0 4 (.boxv 110 [] (.t 0) 1),
 oP 1 8 (.boxz 111 [] [.sl 2 0 0 0])]) (.seq (.region [oP 0 17 (.ldL 4 110 (.agg [.sl 2])),
 oP 1 18 (.call 86 [.t 17] [.agg [.sl 2]]),
 oP 2 9 (.boxz 112 [19,33,43,53,93,103] [.sl 2 0 0 0]),
 ⟨3,none,.stL 9 112 (.t 18) 1,none⟩]) (.seq (.seq (.region [oP 0 19 (.faddr 9 0),
 oP 1 20 (.ldL 19 112 (.c (.sl 2))),
 oP 2 21 (.len (.t 20)),
 oP 3 22 (.cmp .eql .i64 (.t 21) (kI 0)),
 mV 4 23 22,
 ⟨5,some 24,.move (.t 1),some (23,false)⟩,
 ⟨6,some 25,.cmp .lss .i64 (.t 24) (kI 0),some (23,false)⟩,
 oP 7 26 (.pick (.t 23) (kB true) (.t 25)),
 mV 8 27 26,
 ⟨9,some 28,.move (.t 2),some (27,false)⟩,
 ⟨10,some 29,.cmp .lss .i64 (.t 28) (kI 1),some (27,false)⟩,
 oP 11 30 (.pick (.t 27) (kB true) (.t 29)),
 mV 12 31 30,
 ⟨13,some 32,.move (.t 1),some (31,false)⟩,
 ⟨14,some 33,.faddr 9 0,some (31,false)⟩,
 ⟨15,some 34,.ldL 33 112 (.c (.sl 2)),some (31,false)⟩,
 ⟨16,some 35,.iaddr (.t 34) (kI 0) 2,some (31,false)⟩,
 ⟨17,some 36,.faddr 35 0,some (31,false)⟩,
 ⟨18,some 37,.ldG 36 (.c (.int .i64)),some (31,false)⟩,
 ⟨19,some 38,.cmp .geq .i64 (.t 32) (.t 37),some (31,false)⟩,
 oP 20 39 (.pick (.t 31) (kB true) (.t 38))]) (.cut [1,2,3,8,9,39,111,112] c7)) c55))) }
def k55:Kont:=execC M.j C (M.ag C) c55 ({ exits:=[],ret:=retK d }:Env) (retK d)
def J7 (a b:Int) (c e:Bool) (f g h i k l:Nat) (G:GH):Option Res:=M.j (execC M.j C (M.ag C) c7 ({ exits:=[],ret:=retK d }:Env) (k55 M C)) (uS 1 (vI a::(vI b::(vB c::(uS 4 (.ref 111 0::(.ref 112 0::(uS 29 (vB e::(uS 71 (.box [.sl 2 f g h]::(.box [.sl 2 i k l]::(uS 1 []))))))))))))) G
def k53:Kont:=execC M.j C (M.ag C) c53 ({ exits:=[],ret:=retK d }:Env) (retK d)
def e49:Env:={ exits:=(0,(k53 M C))::(({ exits:=[],ret:=retK d }:Env)).exits,ret:=(({ exits:=[],ret:=retK d }:Env)).ret }
def L48 (a:Int) (b:Bool) (c:Int) (d e f:Nat) (g h:Int) (i j k l m n:Nat) (G:GH):Option Res:=M.ag C [1,3,8,9,10,54,55,56,111,112] c47 (e49 M C) (k53 M C) (uS 1 (vI a::(uS 1 (vB b::(uS 4 (.ref 111 0::(.ref 112 0::(vI c::(uS 43 (vS 2 d e f::(vI g::(vI h::(uS 54 (.box [.sl 2 i j k]::(.box [.sl 2 l m n]::(uS 1 [])))))))))))))))) G
def k48:Kont:=fun tm G=>M.ag C [1,3,8,9,10,54,55,56,111,112] c47 (e49 M C) (k53 M C) (restr [1,3,8,9,10,54,55,56,111,112] 0 tm) G
def k44:Kont:=execC M.j C (M.ag C) c44 (e49 M C) (k48 M C)
def e43:Env:={ exits:=(1,(k44 M C))::((e49 M C)).exits,ret:=((e49 M C)).ret }
def k38:Kont:=execC M.j C (M.ag C) c38 (e43 M C) (k44 M C)
def e36:Env:={ exits:=(2,(k38 M C))::((e43 M C)).exits,ret:=((e43 M C)).ret }
def L35 (a:Int) (b:Bool) (c d:Int) (e f g:Nat) (h i:Int) (j k l:Nat) (m n:Int) (o p q r s t:Nat) (v:Int) (w x y:Nat) (G:GH):Option Res:=M.ag C [1,3,8,9,10,11,12,54,55,56,79,80,81,111,112,113] c34 (e36 M C) (k38 M C) (uS 1 (vI a::(uS 1 (vB b::(uS 4 (.ref 111 0::(.ref 112 0::(vI c::(vI d::(.ref 113 0::(uS 41 (vS 2 e f g::(vI h::(vI i::(uS 22 (vS 1 j k l::(vI m::(vI n::(uS 29 (.box [.sl 2 o p q]::(.box [.sl 2 r s t]::(.box [.int .i64 v,.sl 1 w x y]::[])))))))))))))))))))))) G
def k35:Kont:=fun tm G=>M.ag C [1,3,8,9,10,11,12,54,55,56,79,80,81,111,112,113] c34 (e36 M C) (k38 M C) (restr [1,3,8,9,10,11,12,54,55,56,79,80,81,111,112,113] 0 tm) G
def k31:Kont:=execC M.j C (M.ag C) (.cut [1,3,8,9,10,11,12,54,55,56,79,80,81,111,112,113] c31) (e36 M C) (k35 M C)
def e30:Env:={ exits:=(3,(k31 M C))::((e36 M C)).exits,ret:=((e36 M C)).ret }
def J27 (a:Int) (b:Bool) (c d e:Int) (f g h:Nat) (i k:Int) (l m n:Nat) (o p:Int) (q:Bool) (r s t v w x:Nat) (y:Int) (z A B:Nat) (G:GH):Option Res:=M.j (execC M.j C (M.ag C) c27 (e30 M C) (k31 M C)) (uS 1 (vI a::(uS 1 (vB b::(uS 4 (.ref 111 0::(.ref 112 0::(vI c::(vI d::(.ref 113 0::(uS 3 (vI e::(uS 37 (vS 2 f g h::(vI i::(vI k::(uS 22 (vS 1 l m n::(vI o::(vI p::(uS 8 (vB q::(uS 20 (.box [.sl 2 r s t]::(.box [.sl 2 v w x]::(.box [.int .i64 y,.sl 1 z A B]::[])))))))))))))))))))))))))) G
def J31 (a:Int) (b:Bool) (c d:Int) (e f g:Nat) (h i:Int) (k l m:Nat) (n o:Int) (p q r s t v:Nat) (w:Int) (x y z:Nat) (G:GH):Option Res:=M.j (execC M.j C (M.ag C) c31 (e36 M C) (k35 M C)) (uS 1 (vI a::(uS 1 (vB b::(uS 4 (.ref 111 0::(.ref 112 0::(vI c::(vI d::(.ref 113 0::(uS 41 (vS 2 e f g::(vI h::(vI i::(uS 22 (vS 1 k l m::(vI n::(vI o::(uS 29 (.box [.sl 2 p q r]::(.box [.sl 2 s t v]::(.box [.int .i64 w,.sl 1 x y z]::[])))))))))))))))))))))) G
theorem J7_eq (d e:Int) (f g:Bool) (h i j b c a:Nat) (G:GH):J7 M C d e f g h i j b c a G=(bif g then some ([.agg [.sl 2 b c a]],G) else guardK (decide (0≤(0:Int)∧(0:Int)<((a:Nat):Int))) (((G.ld b ((c+Int.toNat 0*2)+0)).bind (Cell.asI .i64)).bind fun k=>L48 M C d f (IntKind.i64.wrap ((IntKind.i64.wrap (d+(mn2 e (IntKind.i64.wrap (k-d)))))-1)) b c a ((a:Nat):Int) 0 h i j b c a G)):=(M.hj _ _ _).trans (by kernel_rfl)
theorem L48_eq (f:Int) (g:Bool) (h:Int) (d e i:Nat) (j b:Int) (s t v k l m:Nat) (G:GH):L48 M C f g h d e i j b s t v k l m G=(bif decide (b<j) then guardK (decide (0≤b∧b<((i:Nat):Int))) (((G.ld d ((e+Int.toNat b*2)+0)).bind (Cell.asI .i64)).bind fun x=>((G.ld d ((e+Int.toNat b*2)+1)).bind (Cell.asS 1)).bind fun n=>(binD .shr .i64 f (IntKind.u64.wrap b)).bind fun o=>(binD .shr .i64 h (IntKind.u64.wrap b)).bind fun w=>(C F78.id [.agg [.int .i64 x,.sl 1 n.1 n.2.1 n.2.2],.c (.int .i64 o),.c (.int .i64 (IntKind.i64.wrap ((IntKind.i64.wrap (w-o))+1))),.c (.bool g)] G).bind fun p=>((p.1[0]?).bind V1.a?).bind fun q=>if q.length=2 then (((q[0]?).bind (Cell.asI .i64)).bind fun y=>((q[1]?).bind (Cell.asS 1)).bind fun r=>let z:=p.2.alloc (.row [.int .i64 o,.int .i64 w] false);L35 M C f g h b d e i j b p.2.next 0 2 2 0 s t v k l m y r.1 r.2.1 r.2.2 z) else none) else some ([.agg [.sl 2 k l m]],G)):=(M.hs _ _ _ _ _ _ _).trans (by kernel_rfl)
theorem L35_eq (g:Int) (c:Bool) (h a:Int) (i j k:Nat) (l m:Int) (n o p:Nat) (q b:Int) (r s t d e f:Nat) (v:Int) (w x y:Nat) (G:GH):L35 M C g c h a i j k l m n o p q b r s t d e f v w x y G=(bif decide (b<q) then guardK (decide (0≤b∧b<((p:Nat):Int))) (((G.ld n (o+Int.toNat b*1)).bind (Cell.asI .i64)).bind fun z=>bif decide (a>0) then J27 M C g c h a z i j k l m n o p q b (!c) r s t d e f v w x y G else J27 M C g c h a z i j k l m n o p q b false r s t d e f v w x y G) else guardK (decide (0≤a∧a<((f:Nat):Int))) ((G.sts d (e+Int.toNat a*2) [.int .i64 v,.sl 1 w x y]).bind fun A=>L48 M C g c h i j k l (IntKind.i64.wrap (m+1)) r s t d e f A)):=(M.hs _ _ _ _ _ _ _).trans (by kernel_rfl)
theorem J27_eq (g:Int) (h:Bool) (i b j:Int) (k l m:Nat) (n o:Int) (p q r:Nat) (s t:Int) (H:Bool) (v w x d e f:Nat) (y:Int) (z A B:Nat) (G:GH):J27 M C g h i b j k l m n o p q r s t H v w x d e f y z A B G=(bif H then guardK (decide (0≤IntKind.i64.wrap (b-1)∧IntKind.i64.wrap (b-1)<((f:Nat):Int))) (((G.ld d ((e+Int.toNat (IntKind.i64.wrap (b-1))*2)+0)).bind (Cell.asI .i64)).bind fun K=>((G.ld d ((e+Int.toNat (IntKind.i64.wrap (b-1))*2)+1)).bind (Cell.asS 1)).bind fun D=>(C F45.id [.agg [.int .i64 K,.sl 1 D.1 D.2.1 D.2.2],.c (.int .i64 j)] G).bind fun I=>(((I.1[0]?).bind V1.c?).bind Cell.asB).bind fun L=>(C F78.id [.agg [.int .i64 y,.sl 1 z A B],.c (.int .i64 j),.c (.int .i64 1),.c (.bool L)] I.2).bind fun J=>((J.1[0]?).bind V1.a?).bind fun E=>if E.length=2 then (((E[0]?).bind (Cell.asI .i64)).bind fun N=>((E[1]?).bind (Cell.asS 1)).bind fun F=>J31 M C g h i b k l m n o p q r s t v w x d e f N F.1 F.2.1 F.2.2 J.2) else none) else J31 M C g h i b k l m n o p q r s t v w x d e f y z A B G):=(M.hj _ _ _).trans (by kernel_rfl)
theorem J31_eq (a:Int) (b:Bool) (c d:Int) (e f g:Nat) (h i:Int) (j k l:Nat) (m n:Int) (o p q r s t:Nat) (v:Int) (w x y:Nat) (G:GH):J31 M C a b c d e f g h i j k l m n o p q r s t v w x y G=(L35 M C a b c d e f g h i j k l m (IntKind.i64.wrap (n+1)) o p q r s t v w x y G):=(M.hj _ _ _).trans (by kernel_rfl)
def f (i j k:Nat) (c e:Int) (g:Bool) (G:GH):Option Res:=(C F55.id [.agg [.sl 2 i j k]] G).bind fun d=>((d.1[0]?).bind V1.a?).bind fun h=>if h.length=1 then (((h[0]?).bind (Cell.asS 2)).bind fun b=>bif decide (((b.2.2:Nat):Int)=0) then J7 M C c e g true 0 0 0 b.1 b.2.1 b.2.2 d.2 else bif decide (c<0) then J7 M C c e g true 0 0 0 b.1 b.2.1 b.2.2 d.2 else bif decide (e<1) then J7 M C c e g true 0 0 0 b.1 b.2.1 b.2.2 d.2 else guardK (decide (0≤(0:Int)∧(0:Int)<((b.2.2:Nat):Int))) (((d.2.ld b.1 ((b.2.1+Int.toNat 0*2)+0)).bind (Cell.asI .i64)).bind fun l=>J7 M C c e g (decide (c≥l)) 0 0 0 b.1 b.2.1 b.2.2 d.2)) else none
theorem eq (a b e:Nat) (g h:Int) (i:Bool) (G:GH):runF M C d [.agg [.sl 2 a b e],.c (.int .i64 g),.c (.int .i64 h),.c (.bool i)] G=f M C a b e g h i G:=by kernel_rfl
end F67
namespace F25
def c37:DCode:=(.seq (.region [oP 0 84 (.cmp .lss .i64 (.t 83) (.t 82))]) (.seq (.cond (.t 84) .skip (.exit 2)) (.seq (.block 3 (.seq (.region [mV 0 85 83,
 mV 1 19 85]) (.region [mV 0 86 0,
 oP 1 87 (.nilck (.t 86)),
 oP 2 88 (.faddr 87 17),
 oP 3 89 (.ldG 88 (.c (.sl 1))),
 mV 4 90 18,
 mV 5 91 0,
 oP 6 92 (.nilck (.t 91)),
 oP 7 93 (.faddr 92 0),
 oP 8 94 (.faddr 93 4),
 oP 9 95 (.ldG 94 (.c (.int .i64))),
 oP 10 96 (.bin .mul .i64 (.t 90) (.t 95)),
 mV 11 97 19,
 oP 12 98 (.bin .add .i64 (.t 96) (.t 97)),
 mV 13 99 0,
 oP 14 100 (.nilck (.t 99)),
 oP 15 101 (.faddr 100 0),
 oP 16 102 (.faddr 101 7),
 oP 17 103 (.ldG 102 (.c (.int .i64))),
 mV 18 104 18,
 mV 19 105 19,
 oP 20 106 (.call 76 [.t 103,.t 104,.t 105] [.c (.int .u8)]),
 ⟨9999,none,.reG 89 88 (.c (.sl 1)),none⟩,
 ⟨9999,none,.reG 95 94 (.c (.int .i64)),none⟩,
 oP 21 107 (.iaddr (.t 89) (.t 98) 1),
 ⟨22,none,.stG 107 (.t 106) 1,none⟩]))) (.region [oP 0 108 (.bin .add .i64 (.t 83) (kI 1)),
 mV 1 83 108]))))
def c43:DCode:=(.region [oP 0 109 (.bin .add .i64 (.t 74) (kI 1)),
 mV 1 74 109])
def c46:DCode:=(.seq (.region [oP 0 75 (.cmp .lss .i64 (.t 74) (.t 73))]) (.seq (.cond (.t 75) .skip (.exit 0)) (.seq (.block 1 (.seq (.region [oP 0 76 (.iaddr (.t 72) (.t 74) 1),
 oP 1 77 (.ldG 76 (.c (.int .i64))),
 mV 2 18 77]) (.seq (.region [mV 0 78 0,
 oP 1 79 (.nilck (.t 78)),
 oP 2 80 (.faddr 79 0),
 oP 3 81 (.faddr 80 4),
 oP 4 82 (.ldG 81 (.c (.int .i64))),
 oP 5 83 (.move (kI 0))]) (.block 2 (.loop [0,1,2,10,11,15,18,72,73,74,82,83,145] c37))))) c43)))
def c47:DCode:=(.loop [0,1,2,10,11,15,72,73,74,145] c46)
def c58:DCode:=(.seq (.region [mV 0 110 0,
 mV 1 111 15,
 oP 2 112 (.nilck (.t 110)),
 oP 3 113 (.faddr 112 16),
 ⟨4,none,.stG 113 (.t 111) 1,none⟩]) (.seq (.region [mV 0 114 0,
 mV 1 115 11,
 mV 2 116 1,
 mV 3 117 2,
 oP 4 118 (.build (zI 3) [(0,1,.t 115),(1,1,.t 116),(2,1,.t 117)]),
 oP 5 119 (.ldL 10 145 (.agg [.int .i64,.sl 2,.sl 2])),
 oP 6 120 (.call 65 [.t 114,.t 118,.t 119] [])]) (.seq (.region [mV 0 121 0,
 mV 1 122 0,
 mV 2 123 0,
 oP 3 124 (.nilck (.t 123)),
 oP 4 125 (.faddr 124 13),
 oP 5 126 (.ldG 125 (.c (.int .i64))),
 mV 6 127 0,
 oP 7 128 (.nilck (.t 127)),
 oP 8 129 (.faddr 128 12),
 oP 9 130 (.ldG 129 (.c (.int .i64))),
 oP 10 131 (.mx (.t 126) [.t 130]),
 mV 11 132 0,
 oP 12 133 (.nilck (.t 132)),
 oP 13 134 (.faddr 133 14),
 oP 14 135 (.ldG 134 (.c (.int .i64))),
 mV 15 136 11,
 mV 16 137 1,
 oP 17 138 (.bin .add .i64 (.t 136) (.t 137)),
 oP 18 139 (.mx (.t 135) [.t 138]),
 oP 19 140 (.nilck (.t 121)),
 oP 20 141 (.faddr 140 13),
 ⟨21,none,.stG 141 (.t 131) 1,none⟩,
 oP 22 142 (.nilck (.t 122)),
 oP 23 143 (.faddr 142 14),
 ⟨24,none,.stG 143 (.t 139) 1,none⟩]) (.seq (.region [mV 0 144 11,
 mV 1 6 144,
 oP 2 7 (.move (kI 0))]) .ret))))
def d:DFn:={ ntmps:=146,res:=[.t 6,.t 7],body:=(.seq (.region [oP 0 6 (.move (kI 0)),
 oP 1 7 (.move (kI 0))]) (.seq (.region [mV 0 21 0,
 oP 1 22 (.nilck (.t 21)),
 oP 2 23 (.faddr 22 0),
 oP 3 24 (.ldG 23 (.agg (iS 8))),
 mV 4 25 1,
 oP 5 26 (.call 72 [.t 24,.t 25] [.c (.int .i64),.c (.bool)]),
 mV 6 20 26,
 oP 7 27 (.ext 20 0),
 oP 8 28 (.ext 20 1),
 mV 9 8 27,
 mV 10 9 28]) (.seq (.region [mV 0 30 0,
 oP 1 31 (.nilck (.t 30)),
 oP 2 32 (.faddr 31 8),
 oP 3 33 (.ldG 32 (.agg [.int .i64,.sl 2,.sl 2])),
 mV 4 34 8,
 oP 5 35 (.call 73 [.t 33,.t 34] [.agg [.int .i64,.sl 2,.sl 2],.c (.int .i64),.c (.bool)]),
 mV 6 29 35,
 oP 7 36 (.ext 29 0),
 oP 8 37 (.ext 29 1),
 oP 9 38 (.ext 29 2),
 oP 10 10 (.boxz 145 [] [.int .i64 0,.sl 2 0 0 0,.sl 2 0 0 0]),
 ⟨11,none,.stL 10 145 (.t 36) 3,none⟩,
 mV 12 11 37,
 mV 13 12 38]) (.seq (.seq (.region [mV 0 39 12,
 oP 1 40 (.not (.t 39))]) (.cond (.t 40) (.seq (.region [oP 0 6 (.move (kI 0)),
 oP 1 7 (.move (kI 7))]) .ret) .skip)) (.seq (.region [mV 0 42 0,
 oP 1 43 (.nilck (.t 42)),
 oP 2 44 (.faddr 43 0),
 oP 3 45 (.faddr 44 4),
 oP 4 46 (.ldG 45 (.c (.int .i64))),
 mV 5 47 11,
 mV 6 48 1,
 oP 7 49 (.call 74 [.t 46,.t 47,.t 48] [.c (.int .i64),.c (.int .i64)]),
 mV 8 41 49,
 oP 9 50 (.ext 41 0),
 oP 10 51 (.ext 41 1),
 mV 11 13 50,
 mV 12 14 51]) (.seq (.region [mV 0 53 0,
 oP 1 54 (.nilck (.t 53)),
 oP 2 55 (.faddr 54 16),
 oP 3 56 (.ldG 55 (.c (.sl 1))),
 mV 4 57 0,
 mV 6 59 13,
 mV 7 60 14,
 mV 8 61 0,
 oP 9 62 (.nilck (.t 61)),
 oP 10 63 (.faddr 62 0),
 oP 11 64 (.faddr 63 5),
 oP 12 65 (.ldG 64 (.c (.int .i64))),
 oP 5 58 (.call 31 [.t 57] [.c (.sl 1)]),
 ⟨9999,none,.reG 56 55 (.c (.sl 1)),none⟩,
 ⟨9999,none,.reG 65 64 (.c (.int .i64)),none⟩,
 oP 13 66 (.call 75 [.t 56,.t 58,.t 59,.t 60,.t 65] [.c (.sl 1),.c (.sl 1),.c (.bool)]),
 mV 14 52 66,
 oP 15 67 (.ext 52 0),
 oP 16 68 (.ext 52 1),
 oP 17 69 (.ext 52 2),
 mV 18 15 67,
 mV 19 16 68,
 mV 20 12 69]) (.seq (.seq (.region [mV 0 70 12,
 oP 1 71 (.not (.t 70))]) (.cond (.t 71) (.seq (.region [oP 0 6 (.move (kI 0)),
 oP 1 7 (.move (kI 6))]) .ret) .skip)) (.seq (.seq (.region [mV 0 72 16,
 oP 1 73 (.len (.t 72)),
 oP 2 74 (.move (kI 0))]) (.block 0 c47)) c58)))))))) }
def k58:Kont:=execC M.j C (M.ag C) c58 ({ exits:=[],ret:=retK d }:Env) (retK d)
def e48:Env:={ exits:=(0,(k58 M C))::(({ exits:=[],ret:=retK d }:Env)).exits,ret:=(({ exits:=[],ret:=retK d }:Env)).ret }
def L47 (a b:Nat) (c d e:Int) (f g h i j k:Nat) (l m n:Int) (o p q r s t:Nat) (G:GH):Option Res:=M.ag C [0,1,2,10,11,15,72,73,74,145] c46 (e48 M C) (k58 M C) (vP a b::(vI c::(vI d::(uS 7 (.ref 145 0::(vI e::(uS 3 (vS 1 f g h::(uS 56 (vS 1 i j k::(vI l::(vI m::(uS 70 (.box [.int .i64 n,.sl 2 o p q,.sl 2 r s t]::[])))))))))))))) G
def k47:Kont:=fun tm G=>M.ag C [0,1,2,10,11,15,72,73,74,145] c46 (e48 M C) (k58 M C) (restr [0,1,2,10,11,15,72,73,74,145] 0 tm) G
def k43:Kont:=execC M.j C (M.ag C) c43 (e48 M C) (k47 M C)
def e42:Env:={ exits:=(1,(k43 M C))::((e48 M C)).exits,ret:=((e48 M C)).ret }
def e39:Env:={ exits:=(2,(k43 M C))::((e42 M C)).exits,ret:=((e42 M C)).ret }
def L38 (a b:Nat) (c d e:Int) (f g h:Nat) (i:Int) (j k l:Nat) (m n o p q:Int) (r s t v w x:Nat) (G:GH):Option Res:=M.ag C [0,1,2,10,11,15,18,72,73,74,82,83,145] c37 (e39 M C) (k43 M C) (vP a b::(vI c::(vI d::(uS 7 (.ref 145 0::(vI e::(uS 3 (vS 1 f g h::(uS 2 (vI i::(uS 53 (vS 1 j k l::(vI m::(vI n::(uS 7 (vI o::(vI p::(uS 61 (.box [.int .i64 q,.sl 2 r s t,.sl 2 v w x]::[]))))))))))))))))))) G
theorem L47_eq (a b:Nat) (f h e:Int) (i j k l m n:Nat) (o d p:Int) (q r s t v w:Nat) (G:GH):L47 M C a b f h e i j k l m n o d p q r s t v w G=(bif decide (d<o) then guardK (decide (0≤d∧d<((n:Nat):Int))) (((G.ld l (m+Int.toNat d*1)).bind (Cell.asI .i64)).bind fun x=>guardK (!Nat.beq a 0) (((G.ld a ((b+0)+4)).bind (Cell.asI .i64)).bind fun y=>L38 M C a b f h e i j k x l m n o d y 0 p q r s t v w G)) else guardK (!Nat.beq a 0) ((G.sts a (b+16) [.sl 1 i j k]).bind fun z=>(C F23.id [.c (.ptr a b),.agg [.int .i64 e,.int .i64 f,.int .i64 h],.agg [.int .i64 p,.sl 2 q r s,.sl 2 t v w]] z).bind fun g=>guardK (!Nat.beq a 0) (((g.2.ld a (b+13)).bind (Cell.asI .i64)).bind fun A=>guardK (!Nat.beq a 0) (((g.2.ld a (b+12)).bind (Cell.asI .i64)).bind fun B=>guardK (!Nat.beq a 0) (((g.2.ld a (b+14)).bind (Cell.asI .i64)).bind fun D=>guardK (!Nat.beq a 0) ((g.2.sts a (b+13) [.int .i64 (mx2 A B)]).bind fun E=>guardK (!Nat.beq a 0) ((E.sts a (b+14) [.int .i64 (mx2 D (IntKind.i64.wrap (e+f)))]).bind fun F=>some ([.c (.int .i64 e),.c (.int .i64 0)],F)))))))):=(M.hs _ _ _ _ _ _ _).trans (by kernel_rfl)
theorem L38_eq (a b:Nat) (i j k:Int) (l m n:Nat) (e:Int) (o p q:Nat) (r s t d v:Int) (w x y z A B:Nat) (G:GH):L38 M C a b i j k l m n e o p q r s t d v w x y z A B G=(bif decide (d<t) then guardK (!Nat.beq a 0) (((G.ld a (b+17)).bind (Cell.asS 1)).bind fun f=>guardK (!Nat.beq a 0) (((G.ld a ((b+0)+4)).bind (Cell.asI .i64)).bind fun g=>guardK (!Nat.beq a 0) (((G.ld a ((b+0)+7)).bind (Cell.asI .i64)).bind fun E=>(C F70.id [.c (.int .i64 E),.c (.int .i64 e),.c (.int .i64 d)] G).bind fun h=>(((h.1[0]?).bind V1.c?).bind (Cell.asI .u8)).bind fun F=>((h.2.ld a (b+17)).bind (Cell.asS 1)).bind fun D=>guardK (decide ((.c (.sl 1 f.1 f.2.1 f.2.2):V1) = .c (.sl 1 D.1 D.2.1 D.2.2))) (((h.2.ld a ((b+0)+4)).bind (Cell.asI .i64)).bind fun H=>guardK (decide ((.c (.int .i64 g):V1) = .c (.int .i64 H))) (guardK (decide (0≤IntKind.i64.wrap ((IntKind.i64.wrap (e*g))+d)∧IntKind.i64.wrap ((IntKind.i64.wrap (e*g))+d)<((f.2.2:Nat):Int))) ((h.2.sts f.1 (f.2.1+Int.toNat (IntKind.i64.wrap ((IntKind.i64.wrap (e*g))+d))*1) [.int .u8 F]).bind fun I=>L38 M C a b i j k l m n e o p q r s t (IntKind.i64.wrap (d+1)) v w x y z A B I)))))) else L47 M C a b i j k l m n o p q r (IntKind.i64.wrap (s+1)) v w x y z A B G):=(M.hs _ _ _ _ _ _ _).trans (by kernel_rfl)
def f (b d:Nat) (n y:Int) (G:GH):Option Res:=guardK (!Nat.beq b 0) (((G.ld b ((d+0)+0)).bind (Cell.asI .i64)).bind fun z=>((G.ld b ((d+0)+1)).bind (Cell.asI .i64)).bind fun A=>((G.ld b ((d+0)+2)).bind (Cell.asI .i64)).bind fun B=>((G.ld b ((d+0)+3)).bind (Cell.asI .i64)).bind fun D=>((G.ld b ((d+0)+4)).bind (Cell.asI .i64)).bind fun E=>((G.ld b ((d+0)+5)).bind (Cell.asI .i64)).bind fun F=>((G.ld b ((d+0)+6)).bind (Cell.asI .i64)).bind fun H=>((G.ld b ((d+0)+7)).bind (Cell.asI .i64)).bind fun I=>(C F44.id [.agg [.int .i64 z,.int .i64 A,.int .i64 B,.int .i64 D,.int .i64 E,.int .i64 F,.int .i64 H,.int .i64 I],.c (.int .i64 n)] G).bind fun e=>(((e.1[0]?).bind V1.c?).bind (Cell.asI .i64)).bind fun J=>(((e.1[1]?).bind V1.c?).bind Cell.asB).bind fun T=>guardK (!Nat.beq b 0) (((e.2.ld b ((d+8)+0)).bind (Cell.asI .i64)).bind fun K=>((e.2.ld b ((d+8)+1)).bind (Cell.asS 2)).bind fun o=>((e.2.ld b ((d+8)+2)).bind (Cell.asS 2)).bind fun p=>(C F47.id [.agg [.int .i64 K,.sl 2 o.1 o.2.1 o.2.2,.sl 2 p.1 p.2.1 p.2.2],.c (.int .i64 J)] e.2).bind fun g=>((g.1[0]?).bind V1.a?).bind fun k=>if k.length=3 then (((k[0]?).bind (Cell.asI .i64)).bind fun L=>((k[1]?).bind (Cell.asS 2)).bind fun q=>((k[2]?).bind (Cell.asS 2)).bind fun r=>(((g.1[1]?).bind V1.c?).bind (Cell.asI .i64)).bind fun w=>(((g.1[2]?).bind V1.c?).bind Cell.asB).bind fun N=>bif (!N) then some ([.c (.int .i64 0),.c (.int .i64 7)],g.2) else guardK (!Nat.beq b 0) (((g.2.ld b ((d+0)+4)).bind (Cell.asI .i64)).bind fun O=>(C F64.id [.c (.int .i64 O),.c (.int .i64 w),.c (.int .i64 n)] g.2).bind fun i=>(((i.1[0]?).bind V1.c?).bind (Cell.asI .i64)).bind fun P=>(((i.1[1]?).bind V1.c?).bind (Cell.asI .i64)).bind fun Q=>guardK (!Nat.beq b 0) (((i.2.ld b (d+16)).bind (Cell.asS 1)).bind fun h=>guardK (!Nat.beq b 0) (((i.2.ld b ((d+0)+5)).bind (Cell.asI .i64)).bind fun x=>(C F17.id [.c (.ptr b d)] i.2).bind fun l=>(((l.1[0]?).bind V1.c?).bind (Cell.asS 1)).bind fun s=>((l.2.ld b (d+16)).bind (Cell.asS 1)).bind fun t=>guardK (decide ((.c (.sl 1 h.1 h.2.1 h.2.2):V1) = .c (.sl 1 t.1 t.2.1 t.2.2))) (((l.2.ld b ((d+0)+5)).bind (Cell.asI .i64)).bind fun R=>guardK (decide ((.c (.int .i64 x):V1) = .c (.int .i64 R))) ((C F31.id [.c (.sl 1 h.1 h.2.1 h.2.2),.c (.sl 1 s.1 s.2.1 s.2.2),.c (.int .i64 P),.c (.int .i64 Q),.c (.int .i64 x)] l.2).bind fun j=>(((j.1[0]?).bind V1.c?).bind (Cell.asS 1)).bind fun v=>(((j.1[1]?).bind V1.c?).bind (Cell.asS 1)).bind fun m=>(((j.1[2]?).bind V1.c?).bind Cell.asB).bind fun S=>bif (!S) then some ([.c (.int .i64 0),.c (.int .i64 6)],j.2) else L47 M C b d n y w v.1 v.2.1 v.2.2 m.1 m.2.1 m.2.2 ((m.2.2:Nat):Int) 0 L q.1 q.2.1 q.2.2 r.1 r.2.1 r.2.2 j.2)))))) else none))
theorem eq (a b:Nat) (e g:Int) (G:GH):runF M C d [.c (.ptr a b),.c (.int .i64 e),.c (.int .i64 g)] G=f M C a b e g G:=by kernel_rfl
end F25
namespace F78
def c7:DCode:=(.cond (.t 36) (.seq (.region [oP 0 37 (.ldL 4 118 (.agg [.int .i64,.sl 1])),
 ⟨1,none,.stL 8 119 (.t 37) 2,none⟩]) .ret) .skip)
def c24:DCode:=(.region [oP 0 86 (.ldL 4 118 (.agg [.int .i64,.sl 1])),
 mV 1 87 10,
 mV 2 88 13,
 oP 3 89 (.call 96 [.t 86,.k (.c (.int .i64 0)),.t 87,.t 88] [])])
def c30:DCode:=(.region [mV 0 60 10,
 oP 1 61 (.bin .add .i64 (.t 60) (kI 1)),
 mV 2 10 61])
def c32:DCode:=(.seq (.seq (.region [mV 0 49 10,
 mV 1 50 9,
 oP 2 51 (.bin .quo .i64 (.t 50) (kI 64)),
 oP 3 52 (.faddr 4 1),
 oP 4 53 (.ldL 52 118 (.c (.sl 1))),
 oP 5 54 (.iaddr (.t 53) (kI 0) 1),
 oP 6 55 (.ldG 54 (.c (.sl 1))),
 oP 7 56 (.len (.t 55)),
 oP 8 57 (.bin .sub .i64 (.t 56) (kI 1)),
 oP 9 58 (.mn (.t 51) [.t 57]),
 oP 10 59 (.cmp .leq .i64 (.t 49) (.t 58))]) (.cond (.t 59) .skip (.exit 0))) (.seq (.block 1 (.seq (.region [mV 0 62 1,
 mV 1 63 10,
 oP 2 64 (.bin .mul .i64 (.t 63) (kI 64)),
 oP 3 65 (.bin .sub .i64 (.t 62) (.t 64)),
 oP 4 66 (.mx (.t 65) [.k (.c (.int .i64 0))]),
 mV 5 11 66]) (.seq (.region [mV 0 67 11,
 mV 1 68 9,
 mV 2 69 10,
 oP 3 70 (.bin .mul .i64 (.t 69) (kI 64)),
 oP 4 71 (.bin .sub .i64 (.t 68) (.t 70)),
 oP 5 72 (.mn (.t 71) [.k (.c (.int .i64 63))]),
 mV 6 73 11,
 oP 7 74 (.bin .sub .i64 (.t 72) (.t 73)),
 oP 8 75 (.bin .add .i64 (.t 74) (kI 1)),
 oP 9 76 (.call 80 [.t 67,.t 75] [.c (.int .u64)]),
 mV 10 12 76]) (.seq (.region [oP 0 77 (.ldL 4 118 (.agg [.int .i64,.sl 1])),
 mV 1 78 10,
 oP 2 79 (.call 95 [.t 77,.k (.c (.int .i64 0)),.t 78] [.c (.int .u64)]),
 mV 3 80 12,
 oP 4 81 (.bin .andNot .u64 (.t 79) (.t 80)),
 mV 5 13 81]) (.seq (.seq (.region [mV 0 82 3]) (.cond (.t 82) (.region [mV 0 83 13,
 mV 1 84 12,
 oP 2 85 (.bin .or .u64 (.t 83) (.t 84)),
 mV 3 13 85]) .skip)) (.cut [1,3,4,8,9,10,13,118,119] c24)))))) c30))
def c33:DCode:=(.loop [1,3,4,8,9,10,118,119] c32)
def c49:DCode:=(.seq (.seq (.region [mV 0 101 16,
 oP 1 102 (.faddr 4 1),
 oP 2 103 (.ldL 102 118 (.c (.sl 1))),
 oP 3 104 (.len (.t 103)),
 oP 4 105 (.cmp .lss .i64 (.t 101) (.t 104))]) (.cond (.t 105) .skip (.exit 2))) (.seq (.block 3 (.seq (.region [oP 0 108 (.ldL 4 118 (.agg [.int .i64,.sl 1])),
 mV 1 109 16,
 mV 2 110 14,
 mV 3 111 15,
 oP 4 112 (.call 97 [.t 108,.t 109,.t 110,.t 111] [])]) (.region [mV 0 113 14,
 oP 1 114 (.bin .quo .i64 (.t 113) (kI 64)),
 mV 2 115 15,
 oP 3 116 (.bin .quo .i64 (.t 115) (kI 64)),
 mV 4 14 114,
 mV 5 15 116]))) (.region [mV 0 106 16,
 oP 1 107 (.bin .add .i64 (.t 106) (kI 1)),
 mV 2 16 107])))
def c55:DCode:=(.seq (.region [oP 0 117 (.ldL 4 118 (.agg [.int .i64,.sl 1])),
 ⟨1,none,.stL 8 119 (.t 117) 2,none⟩]) .ret)
def c57:DCode:=(.seq (.region [mV 0 90 1,
 oP 1 91 (.bin .quo .i64 (.t 90) (kI 64)),
 mV 2 92 9,
 oP 3 93 (.bin .quo .i64 (.t 92) (kI 64)),
 oP 4 94 (.faddr 4 1),
 oP 5 95 (.ldL 94 118 (.c (.sl 1))),
 oP 6 96 (.iaddr (.t 95) (kI 0) 1),
 oP 7 97 (.ldG 96 (.c (.sl 1))),
 oP 8 98 (.len (.t 97)),
 oP 9 99 (.bin .sub .i64 (.t 98) (kI 1)),
 oP 10 100 (.mn (.t 93) [.t 99]),
 mV 11 14 91,
 mV 12 15 100]) (.seq (.seq (.region [oP 0 16 (.move (kI 1))]) (.block 2 (.loop [4,8,14,15,16,118,119] c49))) c55))
def c59:DCode:=(.seq (.region [mV 0 38 1,
 mV 1 39 2,
 oP 2 40 (.faddr 4 0),
 oP 3 41 (.ldL 40 118 (.c (.int .i64))),
 mV 4 42 1,
 oP 5 43 (.bin .sub .i64 (.t 41) (.t 42)),
 oP 6 44 (.mn (.t 39) [.t 43]),
 oP 7 45 (.bin .add .i64 (.t 38) (.t 44)),
 oP 8 46 (.bin .sub .i64 (.t 45) (kI 1)),
 mV 9 9 46]) (.seq (.seq (.region [mV 0 47 1,
 oP 1 48 (.bin .quo .i64 (.t 47) (kI 64)),
 mV 2 10 48]) (.block 0 c33)) c57))
def d:DFn:={ ntmps:=120,res:=[.box 8 (some 2)],body:=(.seq (.region [oP 0 4 (.boxv 118 [27,32,40,52,94,102] (.t 0) 2),
 oP 1 8 (.boxz 119 [] [.int .i64 0,.sl 1 0 0 0])]) (.seq (.region [oP 0 17 (.ldL 4 118 (.agg [.int .i64,.sl 1])),
 oP 1 18 (.call 94 [.t 17] [.agg [.int .i64,.sl 1]]),
 ⟨2,none,.stL 4 118 (.t 18) 2,none⟩]) (.seq (.seq (.region [mV 0 19 1,
 oP 1 20 (.cmp .lss .i64 (.t 19) (kI 0)),
 mV 2 21 20,
 ⟨3,some 22,.move (.t 2),some (21,false)⟩,
 ⟨4,some 23,.cmp .lss .i64 (.t 22) (kI 1),some (21,false)⟩,
 oP 5 24 (.pick (.t 21) (kB true) (.t 23)),
 mV 6 25 24,
 ⟨7,some 26,.move (.t 1),some (25,false)⟩,
 ⟨8,some 27,.faddr 4 0,some (25,false)⟩,
 ⟨9,some 28,.ldL 27 118 (.c (.int .i64)),some (25,false)⟩,
 ⟨10,some 29,.cmp .geq .i64 (.t 26) (.t 28),some (25,false)⟩,
 oP 11 30 (.pick (.t 25) (kB true) (.t 29)),
 mV 12 31 30,
 ⟨13,some 32,.faddr 4 1,some (31,false)⟩,
 ⟨14,some 33,.ldL 32 118 (.c (.sl 1)),some (31,false)⟩,
 ⟨15,some 34,.len (.t 33),some (31,false)⟩,
 ⟨16,some 35,.cmp .eql .i64 (.t 34) (kI 0),some (31,false)⟩,
 oP 17 36 (.pick (.t 31) (kB true) (.t 35))]) (.cut [1,2,3,4,8,36,118,119] c7)) c59))) }
def k59:Kont:=execC M.j C (M.ag C) c59 ({ exits:=[],ret:=retK d }:Env) (retK d)
def J7 (a b:Int) (c e:Bool) (f:Int) (g h i:Nat) (k:Int) (l m n:Nat) (G:GH):Option Res:=M.j (execC M.j C (M.ag C) c7 ({ exits:=[],ret:=retK d }:Env) (k59 M C)) (uS 1 (vI a::(vI b::(vB c::(.ref 118 0::(uS 3 (.ref 119 0::(uS 27 (vB e::(uS 81 (.box [.int .i64 f,.sl 1 g h i]::(.box [.int .i64 k,.sl 1 l m n]::[])))))))))))) G
def k57:Kont:=execC M.j C (M.ag C) c57 ({ exits:=[],ret:=retK d }:Env) (retK d)
def e34:Env:={ exits:=(0,(k57 M C))::(({ exits:=[],ret:=retK d }:Env)).exits,ret:=(({ exits:=[],ret:=retK d }:Env)).ret }
def L33 (a:Int) (b:Bool) (c d e:Int) (f g h:Nat) (i:Int) (j k l:Nat) (G:GH):Option Res:=M.ag C [1,3,4,8,9,10,118,119] c32 (e34 M C) (k57 M C) (uS 1 (vI a::(uS 1 (vB b::(.ref 118 0::(uS 3 (.ref 119 0::(vI c::(vI d::(uS 107 (.box [.int .i64 e,.sl 1 f g h]::(.box [.int .i64 i,.sl 1 j k l]::[])))))))))))) G
def k55:Kont:=execC M.j C (M.ag C) c55 ({ exits:=[],ret:=retK d }:Env) (retK d)
def e51:Env:={ exits:=(2,(k55 M C))::(({ exits:=[],ret:=retK d }:Env)).exits,ret:=(({ exits:=[],ret:=retK d }:Env)).ret }
def L50 (a b c d:Int) (e f g:Nat) (h:Int) (i j k:Nat) (G:GH):Option Res:=M.ag C [4,8,14,15,16,118,119] c49 (e51 M C) (k55 M C) (uS 4 (.ref 118 0::(uS 3 (.ref 119 0::(uS 5 (vI a::(vI b::(vI c::(uS 101 (.box [.int .i64 d,.sl 1 e f g]::(.box [.int .i64 h,.sl 1 i j k]::[]))))))))))) G
def k33:Kont:=fun tm G=>M.ag C [1,3,4,8,9,10,118,119] c32 (e34 M C) (k57 M C) (restr [1,3,4,8,9,10,118,119] 0 tm) G
def k30:Kont:=execC M.j C (M.ag C) c30 (e34 M C) (k33 M C)
def e29:Env:={ exits:=(1,(k30 M C))::((e34 M C)).exits,ret:=((e34 M C)).ret }
def J24 (a:Int) (b:Bool) (d e f g:Int) (h i k:Nat) (l:Int) (m n o:Nat) (G:GH):Option Res:=M.j (execC M.j C (M.ag C) c24 (e29 M C) (k30 M C)) (uS 1 (vI a::(uS 1 (vB b::(.ref 118 0::(uS 3 (.ref 119 0::(vI d::(vI e::(uS 2 (.v (.c (.int .u64 f))::(uS 104 (.box [.int .i64 g,.sl 1 h i k]::(.box [.int .i64 l,.sl 1 m n o]::[])))))))))))))) G
theorem J7_eq (a f:Int) (g h:Bool) (b:Int) (c d e:Nat) (i:Int) (j k l:Nat) (G:GH):J7 M C a f g h b c d e i j k l G=(bif h then some ([.agg [.int .i64 b,.sl 1 c d e]],G) else L33 M C a g (IntKind.i64.wrap ((IntKind.i64.wrap (a+(mn2 f (IntKind.i64.wrap (b-a)))))-1)) (IntKind.i64.wrap (Int.tdiv a 64)) b c d e i j k l G):=(M.hj _ _ _).trans (by kernel_rfl)
theorem L33_eq (f:Int) (i:Bool) (g a h:Int) (b d e:Nat) (j:Int) (k l m:Nat) (G:GH):L33 M C f i g a h b d e j k l m G=(guardK (decide (0≤(0:Int)∧(0:Int)<((e:Nat):Int))) (((G.ld b (d+Int.toNat 0*1)).bind (Cell.asS 1)).bind fun r=>bif decide (a≤mn2 (IntKind.i64.wrap (Int.tdiv g 64)) (IntKind.i64.wrap (((r.2.2:Nat):Int)-1))) then (C F60.id [.c (.int .i64 (mx2 (IntKind.i64.wrap (f-(IntKind.i64.wrap (a*64)))) 0)),.c (.int .i64 (IntKind.i64.wrap ((IntKind.i64.wrap ((mn2 (IntKind.i64.wrap (g-(IntKind.i64.wrap (a*64)))) 63)-(mx2 (IntKind.i64.wrap (f-(IntKind.i64.wrap (a*64)))) 0)))+1)))] G).bind fun p=>(((p.1[0]?).bind V1.c?).bind (Cell.asI .u64)).bind fun n=>(C F88.id [.agg [.int .i64 h,.sl 1 b d e],.c (.int .i64 0),.c (.int .i64 a)] p.2).bind fun o=>(((o.1[0]?).bind V1.c?).bind (Cell.asI .u64)).bind fun q=>bif i then J24 M C f i g a (IntKind.u64.wrap (((BitVec.ofInt IntKind.u64.bits (IntKind.u64.wrap (((BitVec.ofInt IntKind.u64.bits q) &&& ~~~ (BitVec.ofInt IntKind.u64.bits n)).toNat:Int))) ||| (BitVec.ofInt IntKind.u64.bits n)).toNat:Int)) h b d e j k l m o.2 else J24 M C f i g a (IntKind.u64.wrap (((BitVec.ofInt IntKind.u64.bits q) &&& ~~~ (BitVec.ofInt IntKind.u64.bits n)).toNat:Int)) h b d e j k l m o.2 else guardK (decide (0≤(0:Int)∧(0:Int)<((e:Nat):Int))) (((G.ld b (d+Int.toNat 0*1)).bind (Cell.asS 1)).bind fun s=>L50 M C (IntKind.i64.wrap (Int.tdiv f 64)) (mn2 (IntKind.i64.wrap (Int.tdiv g 64)) (IntKind.i64.wrap (((s.2.2:Nat):Int)-1))) 1 h b d e j k l m G))):=(M.hs _ _ _ _ _ _ _).trans (by kernel_rfl)
theorem L50_eq (g h b d:Int) (e f a:Nat) (i:Int) (j k l:Nat) (G:GH):L50 M C g h b d e f a i j k l G=(bif decide (b<((a:Nat):Int)) then (C F66.id [.agg [.int .i64 d,.sl 1 e f a],.c (.int .i64 b),.c (.int .i64 g),.c (.int .i64 h)] G).bind fun m=>L50 M C (IntKind.i64.wrap (Int.tdiv g 64)) (IntKind.i64.wrap (Int.tdiv h 64)) (IntKind.i64.wrap (b+1)) d e f a i j k l m.2 else some ([.agg [.int .i64 d,.sl 1 e f a]],G)):=(M.hs _ _ _ _ _ _ _).trans (by kernel_rfl)
theorem J24_eq (g:Int) (h:Bool) (i a j b:Int) (d e f:Nat) (k:Int) (l m n:Nat) (G:GH):J24 M C g h i a j b d e f k l m n G=((C F77.id [.agg [.int .i64 b,.sl 1 d e f],.c (.int .i64 0),.c (.int .i64 a),.c (.int .u64 j)] G).bind fun o=>L33 M C g h i (IntKind.i64.wrap (a+1)) b d e f k l m n o.2):=(M.hj _ _ _).trans (by kernel_rfl)
def f (j:Int) (k l m:Nat) (c d:Int) (h:Bool) (G:GH):Option Res:=(C F65.id [.agg [.int .i64 j,.sl 1 k l m]] G).bind fun e=>((e.1[0]?).bind V1.a?).bind fun i=>if i.length=2 then (((i[0]?).bind (Cell.asI .i64)).bind fun g=>((i[1]?).bind (Cell.asS 1)).bind fun b=>bif decide (c<0) then J7 M C c d h true g b.1 b.2.1 b.2.2 0 0 0 0 e.2 else bif decide (d<1) then J7 M C c d h true g b.1 b.2.1 b.2.2 0 0 0 0 e.2 else bif decide (c≥g) then J7 M C c d h true g b.1 b.2.1 b.2.2 0 0 0 0 e.2 else J7 M C c d h (decide (((b.2.2:Nat):Int)=0)) g b.1 b.2.1 b.2.2 0 0 0 0 e.2) else none
theorem eq (a:Int) (b e g:Nat) (h i:Int) (j:Bool) (G:GH):runF M C d [.agg [.int .i64 a,.sl 1 b e g],.c (.int .i64 h),.c (.int .i64 i),.c (.bool j)] G=f M C a b e g h i j G:=by kernel_rfl
end F78
namespace F40
def c56:DCode:=(.cond (.t 32) (.seq (.region [mV 0 38 0,
 oP 1 39 (.ldL 3 79 (.agg [.int .i64,.int .i64,.int .i64,.int .i64,.int .i64,.int .u8])),
 oP 2 40 (.call 29 [.t 38,.t 39] [.agg sA]),
 ⟨3,none,.stL 4 80 (.t 40) 8,none⟩]) .ret) (.seq (.region [oP 0 42 (.cmp .eql .i64 (.t 9) (kI 9)),
 mV 1 41 42]) (.cond (.t 41) (.seq (.region [mV 0 44 0,
 mV 1 45 0,
 oP 2 46 (.nilck (.t 45)),
 oP 3 47 (.faddr 46 16),
 oP 4 48 (.ldG 47 (.c (.sl 1))),
 mV 5 49 0,
 oP 6 50 (.call 31 [.t 49] [.c (.sl 1)]),
 ⟨9999,none,.reG 48 47 (.c (.sl 1)),none⟩,
 oP 7 51 (.call 30 [.t 48,.t 50] [.c (.sl 1),.c (.int .i64)]),
 mV 8 43 51,
 oP 9 52 (.ext 43 0),
 oP 10 53 (.ext 43 1),
 oP 11 54 (.nilck (.t 44)),
 oP 12 55 (.faddr 54 16),
 ⟨13,none,.stG 55 (.t 52) 1,none⟩,
 oP 14 56 (.faddr 4 2),
 ⟨15,none,.stL 56 80 (.t 53) 1,none⟩]) (.seq (.region [oP 0 57 (.ldL 4 80 (.agg sA)),
 ⟨1,none,.stL 4 80 (.t 57) 8,none⟩]) .ret)) (.seq (.region [oP 0 59 (.cmp .eql .i64 (.t 9) (kI 10)),
 mV 1 58 59]) (.cond (.t 58) (.seq (.region [mV 0 60 0,
 oP 1 61 (.nilck (.t 60)),
 oP 2 62 (.faddr 61 12),
 oP 3 63 (.ldG 62 (.c (.int .i64))),
 mV 4 64 0,
 oP 5 65 (.nilck (.t 64)),
 oP 6 66 (.faddr 65 13),
 oP 7 67 (.ldG 66 (.c (.int .i64))),
 mV 8 68 0,
 oP 9 69 (.nilck (.t 68)),
 oP 10 70 (.faddr 69 14),
 oP 11 71 (.ldG 70 (.c (.int .i64))),
 mV 12 72 0,
 oP 13 73 (.nilck (.t 72)),
 oP 14 74 (.faddr 73 16),
 oP 15 75 (.ldG 74 (.c (.sl 1))),
 oP 16 76 (.call 32 [.t 75] [.c (.int .i64)]),
 ⟨9999,none,.reG 63 62 (.c (.int .i64)),none⟩,
 ⟨9999,none,.reG 67 66 (.c (.int .i64)),none⟩,
 ⟨9999,none,.reG 71 70 (.c (.int .i64)),none⟩,
 oP 17 77 (.build zA [(4,1,.t 63),(5,1,.t 67),(6,1,.t 71),(7,1,.t 76)]),
 ⟨18,none,.stL 4 80 (.t 77) 8,none⟩]) .ret) .skip)))))
def c68:DCode:=(.seq (.region [oP 0 78 (.build zA [(0,1,.k (.c (.int .i64 2)))]),
 ⟨1,none,.stL 4 80 (.t 78) 8,none⟩]) .ret)
def d:DFn:={ ntmps:=81,res:=[.box 4 (some 8)],body:=(.seq (.region [oP 0 3 (.boxv 79 [8,13,19,21,27,29] (.t 1) 6),
 oP 1 4 (.boxz 80 [56] zA)]) (.seq (.seq (.region [mV 0 5 0,
 oP 1 6 (.pnil false (.t 5))]) (.cond (.t 6) (.seq (.region [oP 0 7 (.build zA [(0,1,.k (.c (.int .i64 1)))]),
 ⟨1,none,.stL 4 80 (.t 7) 8,none⟩]) .ret) .skip)) (.seq (.seq (.region [oP 0 8 (.faddr 3 0),
 oP 1 9 (.ldL 8 79 (.c (.int .i64)))]) (.block 0 (.seq (.region [oP 0 11 (.cmp .eql .i64 (.t 9) (kI 1)),
 mV 1 10 11]) (.cond (.t 10) (.seq (.region [mV 0 12 0,
 oP 1 13 (.faddr 3 2),
 oP 2 14 (.ldL 13 79 (.c (.int .i64))),
 oP 3 15 (.call 27 [.t 12,.t 14,.k (.c (.int .i64 1))] [.agg sA]),
 ⟨4,none,.stL 4 80 (.t 15) 8,none⟩]) .ret) (.seq (.region [oP 0 17 (.cmp .eql .i64 (.t 9) (kI 2)),
 mV 1 16 17]) (.cond (.t 16) (.seq (.region [mV 0 18 0,
 oP 1 19 (.faddr 3 4),
 oP 2 20 (.ldL 19 79 (.c (.int .i64))),
 oP 3 21 (.faddr 3 2),
 oP 4 22 (.ldL 21 79 (.c (.int .i64))),
 oP 5 23 (.call 28 [.t 18,.t 20,.t 22] [.agg sA]),
 ⟨6,none,.stL 4 80 (.t 23) 8,none⟩]) .ret) (.seq (.region [oP 0 25 (.cmp .eql .i64 (.t 9) (kI 3)),
 mV 1 24 25]) (.cond (.t 24) (.seq (.region [mV 0 26 0,
 oP 1 27 (.faddr 3 2),
 oP 2 28 (.ldL 27 79 (.c (.int .i64))),
 oP 3 29 (.faddr 3 3),
 oP 4 30 (.ldL 29 79 (.c (.int .i64))),
 oP 5 31 (.call 27 [.t 26,.t 28,.t 30] [.agg sA]),
 ⟨6,none,.stL 4 80 (.t 31) 8,none⟩]) .ret) (.seq (.seq (.region [oP 0 33 (.cmp .eql .i64 (.t 9) (kI 4)),
 mV 1 32 33]) (.cond (.t 32) .skip (.seq (.region [oP 0 34 (.cmp .eql .i64 (.t 9) (kI 5)),
 mV 1 32 34]) (.cond (.t 32) .skip (.seq (.region [oP 0 35 (.cmp .eql .i64 (.t 9) (kI 6)),
 mV 1 32 35]) (.cond (.t 32) .skip (.seq (.region [oP 0 36 (.cmp .eql .i64 (.t 9) (kI 7)),
 mV 1 32 36]) (.cond (.t 32) .skip (.region [oP 0 37 (.cmp .eql .i64 (.t 9) (kI 8)),
 mV 1 32 37]))))))))) (.cut [0,3,4,9,32,79,80] c56)))))))))) c68))) }
def k68:Kont:=execC M.j C (M.ag C) c68 ({ exits:=[],ret:=retK d }:Env) (retK d)
def e64:Env:={ exits:=(0,(k68 M C))::(({ exits:=[],ret:=retK d }:Env)).exits,ret:=(({ exits:=[],ret:=retK d }:Env)).ret }
def J56 (a b:Nat) (c:Int) (d:Bool) (e f g h i k l m n o p q r s:Int) (G:GH):Option Res:=M.j (execC M.j C (M.ag C) c56 (e64 M C) (k68 M C)) (vP a b::(uS 2 (.ref 79 0::(.ref 80 0::(uS 4 (vI c::(uS 22 (vB d::(uS 46 (.box [.int .i64 e,.int .i64 f,.int .i64 g,.int .i64 h,.int .i64 i,.int .u8 k]::(.box [.int .i64 l,.int .i64 m,.int .i64 n,.int .u8 o,.int .i64 p,.int .i64 q,.int .i64 r,.int .i64 s]::[]))))))))))) G
theorem J56_eq (b d:Nat) (h:Int) (o:Bool) (p q r s t v w x J y z A B D:Int) (G:GH):J56 M C b d h o p q r s t v w x J y z A B D G=(bif o then (C F19.id [.c (.ptr b d),.agg [.int .i64 p,.int .i64 q,.int .i64 r,.int .i64 s,.int .i64 t,.int .u8 v]] G).bind fun E=>((E.1[0]?).bind V1.a?).bind fun e=>if e.length=8 then (((e[0]?).bind (Cell.asI .i64)).bind fun K=>((e[1]?).bind (Cell.asI .i64)).bind fun L=>((e[2]?).bind (Cell.asI .i64)).bind fun N=>((e[3]?).bind (Cell.asI .u8)).bind fun O=>((e[4]?).bind (Cell.asI .i64)).bind fun P=>((e[5]?).bind (Cell.asI .i64)).bind fun Q=>((e[6]?).bind (Cell.asI .i64)).bind fun R=>((e[7]?).bind (Cell.asI .i64)).bind fun S=>some ([.agg [.int .i64 K,.int .i64 L,.int .i64 N,.int .u8 O,.int .i64 P,.int .i64 Q,.int .i64 R,.int .i64 S]],E.2)) else none else bif decide (h=9) then guardK (!Nat.beq b 0) (((G.ld b (d+16)).bind (Cell.asS 1)).bind fun f=>(C F17.id [.c (.ptr b d)] G).bind fun i=>(((i.1[0]?).bind V1.c?).bind (Cell.asS 1)).bind fun j=>((i.2.ld b (d+16)).bind (Cell.asS 1)).bind fun k=>guardK (decide ((.c (.sl 1 f.1 f.2.1 f.2.2):V1) = .c (.sl 1 k.1 k.2.1 k.2.2))) ((C F48.id [.c (.sl 1 f.1 f.2.1 f.2.2),.c (.sl 1 j.1 j.2.1 j.2.2)] i.2).bind fun l=>(((l.1[0]?).bind V1.c?).bind (Cell.asS 1)).bind fun m=>(((l.1[1]?).bind V1.c?).bind (Cell.asI .i64)).bind fun T=>guardK (!Nat.beq b 0) ((l.2.sts b (d+16) [.sl 1 m.1 m.2.1 m.2.2]).bind fun U=>some ([.agg [.int .i64 w,.int .i64 x,.int .i64 T,.int .u8 y,.int .i64 z,.int .i64 A,.int .i64 B,.int .i64 D]],U)))) else bif decide (h=10) then guardK (!Nat.beq b 0) (((G.ld b (d+12)).bind (Cell.asI .i64)).bind fun F=>guardK (!Nat.beq b 0) (((G.ld b (d+13)).bind (Cell.asI .i64)).bind fun H=>guardK (!Nat.beq b 0) (((G.ld b (d+14)).bind (Cell.asI .i64)).bind fun I=>guardK (!Nat.beq b 0) (((G.ld b (d+16)).bind (Cell.asS 1)).bind fun n=>(C F69.id [.c (.sl 1 n.1 n.2.1 n.2.2)] G).bind fun g=>(((g.1[0]?).bind V1.c?).bind (Cell.asI .i64)).bind fun V=>((g.2.ld b (d+12)).bind (Cell.asI .i64)).bind fun W=>guardK (decide ((.c (.int .i64 F):V1) = .c (.int .i64 W))) (((g.2.ld b (d+13)).bind (Cell.asI .i64)).bind fun X=>guardK (decide ((.c (.int .i64 H):V1) = .c (.int .i64 X))) (((g.2.ld b (d+14)).bind (Cell.asI .i64)).bind fun Y=>guardK (decide ((.c (.int .i64 I):V1) = .c (.int .i64 Y))) (some ([.agg [.int .i64 0,.int .i64 0,.int .i64 0,.int .u8 0,.int .i64 F,.int .i64 H,.int .i64 I,.int .i64 V]],g.2)))))))) else some ([.agg [.int .i64 2,.int .i64 0,.int .i64 0,.int .u8 0,.int .i64 0,.int .i64 0,.int .i64 0,.int .i64 0]],G)):=(M.hj _ _ _).trans (by kernel_rfl)
def f (d i:Nat) (b m j k l n:Int) (G:GH):Option Res:=bif Bool.xor false (Nat.beq d 0) then some ([.agg [.int .i64 1,.int .i64 0,.int .i64 0,.int .u8 0,.int .i64 0,.int .i64 0,.int .i64 0,.int .i64 0]],G) else bif decide (b=1) then (C F12.id [.c (.ptr d i),.c (.int .i64 j),.c (.int .i64 1)] G).bind fun o=>((o.1[0]?).bind V1.a?).bind fun e=>if e.length=8 then (((e[0]?).bind (Cell.asI .i64)).bind fun r=>((e[1]?).bind (Cell.asI .i64)).bind fun s=>((e[2]?).bind (Cell.asI .i64)).bind fun t=>((e[3]?).bind (Cell.asI .u8)).bind fun v=>((e[4]?).bind (Cell.asI .i64)).bind fun w=>((e[5]?).bind (Cell.asI .i64)).bind fun x=>((e[6]?).bind (Cell.asI .i64)).bind fun y=>((e[7]?).bind (Cell.asI .i64)).bind fun z=>some ([.agg [.int .i64 r,.int .i64 s,.int .i64 t,.int .u8 v,.int .i64 w,.int .i64 x,.int .i64 y,.int .i64 z]],o.2)) else none else bif decide (b=2) then (C F15.id [.c (.ptr d i),.c (.int .i64 l),.c (.int .i64 j)] G).bind fun p=>((p.1[0]?).bind V1.a?).bind fun g=>if g.length=8 then (((g[0]?).bind (Cell.asI .i64)).bind fun A=>((g[1]?).bind (Cell.asI .i64)).bind fun B=>((g[2]?).bind (Cell.asI .i64)).bind fun D=>((g[3]?).bind (Cell.asI .u8)).bind fun E=>((g[4]?).bind (Cell.asI .i64)).bind fun F=>((g[5]?).bind (Cell.asI .i64)).bind fun H=>((g[6]?).bind (Cell.asI .i64)).bind fun I=>((g[7]?).bind (Cell.asI .i64)).bind fun J=>some ([.agg [.int .i64 A,.int .i64 B,.int .i64 D,.int .u8 E,.int .i64 F,.int .i64 H,.int .i64 I,.int .i64 J]],p.2)) else none else bif decide (b=3) then (C F12.id [.c (.ptr d i),.c (.int .i64 j),.c (.int .i64 k)] G).bind fun q=>((q.1[0]?).bind V1.a?).bind fun h=>if h.length=8 then (((h[0]?).bind (Cell.asI .i64)).bind fun K=>((h[1]?).bind (Cell.asI .i64)).bind fun L=>((h[2]?).bind (Cell.asI .i64)).bind fun N=>((h[3]?).bind (Cell.asI .u8)).bind fun O=>((h[4]?).bind (Cell.asI .i64)).bind fun P=>((h[5]?).bind (Cell.asI .i64)).bind fun Q=>((h[6]?).bind (Cell.asI .i64)).bind fun R=>((h[7]?).bind (Cell.asI .i64)).bind fun S=>some ([.agg [.int .i64 K,.int .i64 L,.int .i64 N,.int .u8 O,.int .i64 P,.int .i64 Q,.int .i64 R,.int .i64 S]],q.2)) else none else bif decide (b=4) then J56 M C d i b (decide (b=4)) b m j k l n 0 0 0 0 0 0 0 0 G else bif decide (b=5) then J56 M C d i b (decide (b=5)) b m j k l n 0 0 0 0 0 0 0 0 G else bif decide (b=6) then J56 M C d i b (decide (b=6)) b m j k l n 0 0 0 0 0 0 0 0 G else bif decide (b=7) then J56 M C d i b (decide (b=7)) b m j k l n 0 0 0 0 0 0 0 0 G else J56 M C d i b (decide (b=8)) b m j k l n 0 0 0 0 0 0 0 0 G
theorem eq (a b:Nat) (e g h i j k:Int) (G:GH):runF M C d [.c (.ptr a b),.agg [.int .i64 e,.int .i64 g,.int .i64 h,.int .i64 i,.int .i64 j,.int .u8 k]] G=f M C a b e g h i j k G:=by kernel_rfl
end F40
namespace F24
def c6:DCode:=(.cond (.t 16) (.seq (.region [oP 0 4 (.move (kI 0)),
 oP 1 5 (.move (kB false))]) .ret) .skip)
def c14:DCode:=(.cond (.t 38) (.seq (.region [oP 0 4 (.move (kI 0)),
 oP 1 5 (.move (kB false))]) .ret) .skip)
def c24:DCode:=(.seq (.region [oP 0 39 (.ldL 2 74 (.agg [.int .i64,.sl 1])),
 mV 1 40 6,
 mV 2 41 7,
 oP 3 42 (.bin .quo .i64 (.t 41) (kI 64)),
 oP 4 43 (.call 95 [.t 39,.t 40,.t 42] [.c (.int .u64)]),
 mV 5 44 7,
 oP 6 45 (.bin .rem .i64 (.t 44) (kI 64)),
 oP 7 46 (.call 80 [.k (.c (.int .i64 0)),.t 45] [.c (.int .u64)]),
 oP 8 47 (.bin .or .u64 (.t 43) (.t 46)),
 oP 9 48 (.call 99 [.t 47] [.c (.int .i64)]),
 mV 10 8 48]) (.seq (.region [mV 0 49 8,
 oP 1 50 (.cmp .lss .i64 (.t 49) (kI 64))]) (.cond (.t 50) (.seq (.region [mV 0 51 7,
 oP 1 52 (.bin .quo .i64 (.t 51) (kI 64)),
 oP 2 53 (.bin .mul .i64 (.t 52) (kI 64)),
 mV 3 54 8,
 oP 4 55 (.bin .add .i64 (.t 53) (.t 54)),
 mV 5 7 55]) (.exit 0)) .skip)))
def c27:DCode:=(.region [mV 0 18 6,
 oP 1 19 (.bin .add .i64 (.t 18) (kI 1)),
 mV 2 20 7,
 oP 3 21 (.bin .quo .i64 (.t 20) (kI 64)),
 oP 4 22 (.bin .add .i64 (.t 21) (kI 1)),
 mV 5 6 19,
 mV 6 7 22])
def c28:DCode:=(.seq (.block 1 (.seq (.seq (.region [mV 0 23 6,
 oP 1 24 (.faddr 2 1),
 oP 2 25 (.ldL 24 74 (.c (.sl 1))),
 oP 3 26 (.len (.t 25)),
 oP 4 27 (.cmp .geq .i64 (.t 23) (.t 26)),
 mV 5 28 27,
 ⟨6,some 29,.move (.t 7),some (28,false)⟩,
 ⟨7,some 30,.bin .quo .i64 (.t 29) (kI 64),some (28,false)⟩,
 ⟨8,some 31,.faddr 2 1,some (28,false)⟩,
 ⟨9,some 32,.ldL 31 74 (.c (.sl 1)),some (28,false)⟩,
 ⟨10,some 33,.move (.t 6),some (28,false)⟩,
 ⟨11,some 34,.iaddr (.t 32) (.t 33) 1,some (28,false)⟩,
 ⟨12,some 35,.ldG 34 (.c (.sl 1)),some (28,false)⟩,
 ⟨13,some 36,.len (.t 35),some (28,false)⟩,
 ⟨14,some 37,.cmp .geq .i64 (.t 30) (.t 36),some (28,false)⟩,
 oP 15 38 (.pick (.t 28) (kB true) (.t 37))]) (.cut [2,6,7,38,74] c14)) c24)) c27)
def c29:DCode:=(.loop [2,6,7,74] c28)
def c40:DCode:=(.seq (.seq (.region [mV 0 56 6,
 oP 1 57 (.cmp .gtr .i64 (.t 56) (kI 0))]) (.cond (.t 57) .skip (.exit 2))) (.seq (.block 3 (.region [mV 0 60 7,
 oP 1 61 (.bin .mul .i64 (.t 60) (kI 64)),
 oP 2 62 (.ldL 2 74 (.agg [.int .i64,.sl 1])),
 mV 3 63 6,
 oP 4 64 (.bin .sub .i64 (.t 63) (kI 1)),
 mV 5 65 7,
 oP 6 66 (.call 95 [.t 62,.t 64,.t 65] [.c (.int .u64)]),
 oP 7 67 (.call 99 [.t 66] [.c (.int .i64)]),
 oP 8 68 (.bin .add .i64 (.t 61) (.t 67)),
 mV 9 7 68])) (.region [mV 0 58 6,
 oP 1 59 (.bin .sub .i64 (.t 58) (kI 1)),
 mV 2 6 59])))
def c45:DCode:=(.seq (.region [mV 0 69 7,
 mV 1 70 7,
 oP 2 71 (.faddr 2 0),
 oP 3 72 (.ldL 71 74 (.c (.int .i64))),
 oP 4 73 (.cmp .lss .i64 (.t 70) (.t 72)),
 mV 5 4 69,
 mV 6 5 73]) .ret)
def c46:DCode:=(.seq (.block 2 (.loop [2,6,7,74] c40)) c45)
def c48:DCode:=(.seq (.region [mV 0 17 1,
 oP 1 6 (.move (kI 0)),
 mV 2 7 17]) (.seq (.block 0 c29) c46))
def d:DFn:={ ntmps:=75,res:=[.t 4,.t 5],body:=(.seq (.region [oP 0 2 (.boxv 74 [13,24,31,71] (.t 0) 2),
 oP 1 4 (.move (kI 0)),
 oP 2 5 (.move (kB false))]) (.seq (.seq (.region [mV 0 9 1,
 oP 1 10 (.cmp .lss .i64 (.t 9) (kI 0)),
 mV 2 11 10,
 ⟨3,some 12,.move (.t 1),some (11,false)⟩,
 ⟨4,some 13,.faddr 2 0,some (11,false)⟩,
 ⟨5,some 14,.ldL 13 74 (.c (.int .i64)),some (11,false)⟩,
 ⟨6,some 15,.cmp .geq .i64 (.t 12) (.t 14),some (11,false)⟩,
 oP 7 16 (.pick (.t 11) (kB true) (.t 15))]) (.cut [1,2,16,74] c6)) c48)) }
def k48:Kont:=execC M.j C (M.ag C) c48 ({ exits:=[],ret:=retK d }:Env) (retK d)
def J6 (a:Int) (b:Bool) (c:Int) (e f g:Nat) (G:GH):Option Res:=M.j (execC M.j C (M.ag C) c6 ({ exits:=[],ret:=retK d }:Env) (k48 M C)) (uS 1 (vI a::(.ref 74 0::(uS 13 (vB b::(uS 57 (.box [.int .i64 c,.sl 1 e f g]::[]))))))) G
def k46:Kont:=execC M.j C (M.ag C) c46 ({ exits:=[],ret:=retK d }:Env) (retK d)
def e30:Env:={ exits:=(0,(k46 M C))::(({ exits:=[],ret:=retK d }:Env)).exits,ret:=(({ exits:=[],ret:=retK d }:Env)).ret }
def L29 (a b c:Int) (d e f:Nat) (G:GH):Option Res:=M.ag C [2,6,7,74] c28 (e30 M C) (k46 M C) (uS 2 (.ref 74 0::(uS 3 (vI a::(vI b::(uS 66 (.box [.int .i64 c,.sl 1 d e f]::[]))))))) G
def k29:Kont:=fun tm G=>M.ag C [2,6,7,74] c28 (e30 M C) (k46 M C) (restr [2,6,7,74] 0 tm) G
def k27:Kont:=execC M.j C (M.ag C) c27 (e30 M C) (k29 M C)
def e26:Env:={ exits:=(1,(k27 M C))::((e30 M C)).exits,ret:=((e30 M C)).ret }
def k24:Kont:=execC M.j C (M.ag C) c24 (e26 M C) (k27 M C)
def J14 (a b:Int) (c:Bool) (d:Int) (e f g:Nat) (G:GH):Option Res:=M.j (execC M.j C (M.ag C) c14 (e26 M C) (k24 M C)) (uS 2 (.ref 74 0::(uS 3 (vI a::(vI b::(uS 30 (vB c::(uS 35 (.box [.int .i64 d,.sl 1 e f g]::[]))))))))) G
def k45:Kont:=execC M.j C (M.ag C) c45 ({ exits:=[],ret:=retK d }:Env) (retK d)
def e42:Env:={ exits:=(2,(k45 M C))::(({ exits:=[],ret:=retK d }:Env)).exits,ret:=(({ exits:=[],ret:=retK d }:Env)).ret }
def L41 (a b c:Int) (d e f:Nat) (G:GH):Option Res:=M.ag C [2,6,7,74] c40 (e42 M C) (k45 M C) (uS 2 (.ref 74 0::(uS 3 (vI a::(vI b::(uS 66 (.box [.int .i64 c,.sl 1 d e f]::[]))))))) G
theorem J6_eq (a:Int) (b:Bool) (d:Int) (e f g:Nat) (G:GH):J6 M C a b d e f g G=(bif b then some ([.c (.int .i64 0),.c (.bool false)],G) else L29 M C 0 a d e f g G):=(M.hj _ _ _).trans (by kernel_rfl)
theorem L29_eq (a c f:Int) (d e b:Nat) (G:GH):L29 M C a c f d e b G=(bif decide (a≥((b:Nat):Int)) then J14 M C a c true f d e b G else guardK (decide (0≤a∧a<((b:Nat):Int))) (((G.ld d (e+Int.toNat a*1)).bind (Cell.asS 1)).bind fun g=>J14 M C a c (decide (IntKind.i64.wrap (Int.tdiv c 64)≥((g.2.2:Nat):Int))) f d e b G)):=(M.hs _ _ _ _ _ _ _).trans (by kernel_rfl)
theorem J14_eq (b a:Int) (i:Bool) (d:Int) (e f g:Nat) (G:GH):J14 M C b a i d e f g G=(bif i then some ([.c (.int .i64 0),.c (.bool false)],G) else (C F88.id [.agg [.int .i64 d,.sl 1 e f g],.c (.int .i64 b),.c (.int .i64 (IntKind.i64.wrap (Int.tdiv a 64)))] G).bind fun j=>(((j.1[0]?).bind V1.c?).bind (Cell.asI .u64)).bind fun m=>(C F60.id [.c (.int .i64 0),.c (.int .i64 (Int.tmod a 64))] j.2).bind fun k=>(((k.1[0]?).bind V1.c?).bind (Cell.asI .u64)).bind fun n=>(C F37.id [.c (.int .u64 (IntKind.u64.wrap (((BitVec.ofInt IntKind.u64.bits m) ||| (BitVec.ofInt IntKind.u64.bits n)).toNat:Int)))] k.2).bind fun h=>(((h.1[0]?).bind V1.c?).bind (Cell.asI .i64)).bind fun l=>bif decide (l<64) then L41 M C b (IntKind.i64.wrap ((IntKind.i64.wrap ((IntKind.i64.wrap (Int.tdiv a 64))*64))+l)) d e f g h.2 else L29 M C (IntKind.i64.wrap (b+1)) (IntKind.i64.wrap ((IntKind.i64.wrap (Int.tdiv a 64))+1)) d e f g h.2):=(M.hj _ _ _).trans (by kernel_rfl)
theorem L41_eq (b a d:Int) (e f g:Nat) (G:GH):L41 M C b a d e f g G=(bif decide (b>0) then (C F88.id [.agg [.int .i64 d,.sl 1 e f g],.c (.int .i64 (IntKind.i64.wrap (b-1))),.c (.int .i64 a)] G).bind fun h=>(((h.1[0]?).bind V1.c?).bind (Cell.asI .u64)).bind fun j=>(C F37.id [.c (.int .u64 j)] h.2).bind fun i=>(((i.1[0]?).bind V1.c?).bind (Cell.asI .i64)).bind fun k=>L41 M C (IntKind.i64.wrap (b-1)) (IntKind.i64.wrap ((IntKind.i64.wrap (a*64))+k)) d e f g i.2 else some ([.c (.int .i64 a),.c (.bool (decide (a<d)))],G)):=(M.hs _ _ _ _ _ _ _).trans (by kernel_rfl)
def f (b:Int) (c d e:Nat) (a:Int) (G:GH):Option Res:=bif decide (a<0) then J6 M C a true b c d e G else J6 M C a (decide (a≥b)) b c d e G
theorem eq (a:Int) (b e g:Nat) (h:Int) (G:GH):runF M C d [.agg [.int .i64 a,.sl 1 b e g],.c (.int .i64 h)] G=f M C a b e g h G:=by kernel_rfl
end F24
namespace F31
def c6:DCode:=(.cond (.t 34) (.seq (.region [oP 0 10 (.move (.k (.c (.sl 1 0 0 0)))),
 oP 1 11 (.move (.k (.c (.sl 1 0 0 0)))),
 oP 2 12 (.move (kB false))]) .ret) .skip)
def c20:DCode:=(.region [mV 0 54 10,
 mV 1 55 14,
 mV 2 56 13,
 mV 3 57 14,
 oP 4 58 (.iaddr (.t 54) (.t 55) 1),
 ⟨5,none,.stG 58 (kB true) 1,none⟩,
 oP 6 59 (.iaddr (.t 56) (.t 57) 1),
 ⟨7,none,.stG 59 (kB true) 1,none⟩])
def c23:DCode:=(.region [mV 0 43 14,
 oP 1 44 (.bin .add .i64 (.t 43) (kI 1)),
 mV 2 14 44])
def c25:DCode:=(.seq (.seq (.region [mV 0 40 14,
 mV 1 41 3,
 oP 2 42 (.cmp .lss .i64 (.t 40) (.t 41))]) (.cond (.t 42) .skip (.exit 0))) (.seq (.block 1 (.seq (.seq (.region [mV 0 45 0,
 mV 1 46 14,
 oP 2 47 (.iaddr (.t 45) (.t 46) 1),
 oP 3 48 (.ldG 47 (.c (.bool))),
 oP 4 49 (.not (.t 48))]) (.cond (.t 49) (.region [mV 0 50 11,
 mV 1 51 14,
 oP 2 52 (.bslice 1 1 [.int .i64 0] [(0,1,.t 51)]),
 oP 3 53 (.app (.t 50) (.t 52) 1 8),
 mV 4 11 53]) .skip)) (.cut [0,3,4,10,11,13,14] c20))) c23))
def c26:DCode:=(.loop [0,3,4,10,11,13,14] c25)
def c43:DCode:=(.seq (.region [mV 0 74 10,
 mV 1 75 11,
 mV 2 10 74,
 mV 3 11 75,
 oP 4 12 (.move (kB true))]) .ret)
def c45:DCode:=(.seq (.seq (.region [mV 0 60 13,
 oP 1 61 (.call 32 [.t 60] [.c (.int .i64)]),
 mV 2 62 4,
 oP 3 63 (.cmp .gtr .i64 (.t 61) (.t 62))]) (.cond (.t 63) (.seq (.region [oP 0 10 (.move (.k (.c (.sl 1 0 0 0)))),
 oP 1 11 (.move (.k (.c (.sl 1 0 0 0)))),
 oP 2 12 (.move (kB false))]) .ret) .skip)) (.seq (.seq (.region [mV 0 64 10,
 oP 1 65 (.call 32 [.t 64] [.c (.int .i64)]),
 mV 2 66 4,
 oP 3 67 (.cmp .gtr .i64 (.t 65) (.t 66))]) (.cond (.t 67) (.region [mV 0 69 10,
 mV 1 70 13,
 oP 2 71 (.call 30 [.t 69,.t 70] [.c (.sl 1),.c (.int .i64)]),
 mV 3 68 71,
 oP 4 72 (.ext 68 0),
 oP 5 73 (.ext 68 1),
 mV 6 10 72]) .skip)) (.cut [10,11] c43)))
def c47:DCode:=(.seq (.region [mV 0 35 0,
 oP 1 36 (.call 52 [.t 35] [.c (.sl 1)]),
 mV 2 37 1,
 oP 3 38 (.call 52 [.t 37] [.c (.sl 1)]),
 mV 4 10 36,
 mV 5 13 38]) (.seq (.seq (.region [mV 0 39 2,
 mV 1 14 39]) (.block 0 c26)) c45))
def d:DFn:={ ntmps:=76,res:=[.t 10,.t 11,.t 12],body:=(.seq (.region [oP 0 10 (.move (.k (.c (.sl 1 0 0 0)))),
 oP 1 11 (.move (.k (.c (.sl 1 0 0 0)))),
 oP 2 12 (.move (kB false))]) (.seq (.seq (.region [mV 0 15 0,
 oP 1 16 (.len (.t 15)),
 mV 2 17 1,
 oP 3 18 (.len (.t 17)),
 oP 4 19 (.cmp .neq .i64 (.t 16) (.t 18)),
 mV 5 20 19,
 ⟨6,some 21,.move (.t 2),some (20,false)⟩,
 ⟨7,some 22,.cmp .lss .i64 (.t 21) (kI 0),some (20,false)⟩,
 oP 8 23 (.pick (.t 20) (kB true) (.t 22)),
 mV 9 24 23,
 ⟨10,some 25,.move (.t 2),some (24,false)⟩,
 ⟨11,some 26,.move (.t 3),some (24,false)⟩,
 ⟨12,some 27,.cmp .gtr .i64 (.t 25) (.t 26),some (24,false)⟩,
 oP 13 28 (.pick (.t 24) (kB true) (.t 27)),
 mV 14 29 28,
 ⟨15,some 30,.move (.t 3),some (29,false)⟩,
 ⟨16,some 31,.move (.t 0),some (29,false)⟩,
 ⟨17,some 32,.len (.t 31),some (29,false)⟩,
 ⟨18,some 33,.cmp .gtr .i64 (.t 30) (.t 32),some (29,false)⟩,
 oP 19 34 (.pick (.t 29) (kB true) (.t 33))]) (.cut [0,1,2,3,4,11,34] c6)) c47)) }
def k47:Kont:=execC M.j C (M.ag C) c47 ({ exits:=[],ret:=retK d }:Env) (retK d)
def J6 (a b c e f g:Nat) (h i k:Int) (l m n:Nat) (o:Bool) (G:GH):Option Res:=M.j (execC M.j C (M.ag C) c6 ({ exits:=[],ret:=retK d }:Env) (k47 M C)) (vS 1 a b c::(vS 1 e f g::(vI h::(vI i::(vI k::(uS 6 (vS 1 l m n::(uS 22 (vB o::(uS 41 [])))))))))) G
def k45:Kont:=execC M.j C (M.ag C) c45 ({ exits:=[],ret:=retK d }:Env) (retK d)
def e27:Env:={ exits:=(0,(k45 M C))::(({ exits:=[],ret:=retK d }:Env)).exits,ret:=(({ exits:=[],ret:=retK d }:Env)).ret }
def L26 (a b c:Nat) (d e:Int) (f g h i j k l m n:Nat) (o:Int) (G:GH):Option Res:=M.ag C [0,3,4,10,11,13,14] c25 (e27 M C) (k45 M C) (vS 1 a b c::(uS 2 (vI d::(vI e::(uS 5 (vS 1 f g h::(vS 1 i j k::(uS 1 (vS 1 l m n::(vI o::(uS 61 []))))))))))) G
def k26:Kont:=fun tm G=>M.ag C [0,3,4,10,11,13,14] c25 (e27 M C) (k45 M C) (restr [0,3,4,10,11,13,14] 0 tm) G
def k23:Kont:=execC M.j C (M.ag C) c23 (e27 M C) (k26 M C)
def e22:Env:={ exits:=(1,(k23 M C))::((e27 M C)).exits,ret:=((e27 M C)).ret }
def J20 (a b c:Nat) (d e:Int) (f g h i k l m n o:Nat) (p:Int) (G:GH):Option Res:=M.j (execC M.j C (M.ag C) c20 (e22 M C) (k23 M C)) (vS 1 a b c::(uS 2 (vI d::(vI e::(uS 5 (vS 1 f g h::(vS 1 i k l::(uS 1 (vS 1 m n o::(vI p::(uS 61 []))))))))))) G
def J43 (a b c e f g:Nat) (G:GH):Option Res:=M.j (execC M.j C (M.ag C) c43 ({ exits:=[],ret:=retK d }:Env) (retK d)) (uS 10 (vS 1 a b c::(vS 1 e f g::(uS 64 [])))) G
theorem J6_eq (a b d g h i:Nat) (j k l:Int) (m n o:Nat) (p:Bool) (G:GH):J6 M C a b d g h i j k l m n o p G=(bif p then some ([.c (.sl 1 0 0 0),.c (.sl 1 0 0 0),.c (.bool false)],G) else (C F5.id [.c (.sl 1 a b d)] G).bind fun q=>(((q.1[0]?).bind V1.c?).bind (Cell.asS 1)).bind fun e=>(C F5.id [.c (.sl 1 g h i)] q.2).bind fun r=>(((r.1[0]?).bind V1.c?).bind (Cell.asS 1)).bind fun f=>L26 M C a b d k l e.1 e.2.1 e.2.2 m n o f.1 f.2.1 f.2.2 j r.2):=(M.hj _ _ _).trans (by kernel_rfl)
theorem L26_eq (m n o:Nat) (p g:Int) (d e f h i b j k l:Nat) (a:Int) (G:GH):L26 M C m n o p g d e f h i b j k l a G=(bif decide (a<p) then guardK (decide (0≤a∧a<((o:Nat):Int))) (((G.ld m (n+Int.toNat a*1)).bind Cell.asB).bind fun x=>bif (!x) then let w:=G.alloc (.row [.int .i64 a] false);(if 1=0 then some [] else w.lds G.next 0 (1*1)).bind fun y=>guardK (decide (b+1≤most)) ((w.app h i b 1 1 y).bind fun q=>J20 M C m n o p g d e f q.1 q.2.1 (b+1) j k l a q.2.2) else J20 M C m n o p g d e f h i b j k l a G) else (C F69.id [.c (.sl 1 j k l)] G).bind fun r=>(((r.1[0]?).bind V1.c?).bind (Cell.asI .i64)).bind fun z=>bif decide (z>g) then some ([.c (.sl 1 0 0 0),.c (.sl 1 0 0 0),.c (.bool false)],r.2) else (C F69.id [.c (.sl 1 d e f)] r.2).bind fun s=>(((s.1[0]?).bind V1.c?).bind (Cell.asI .i64)).bind fun A=>bif decide (A>g) then (C F48.id [.c (.sl 1 d e f),.c (.sl 1 j k l)] s.2).bind fun t=>(((t.1[0]?).bind V1.c?).bind (Cell.asS 1)).bind fun v=>(((t.1[1]?).bind V1.c?).bind (Cell.asI .i64)).bind fun B=>J43 M C v.1 v.2.1 v.2.2 h i b t.2 else J43 M C d e f h i b s.2):=(M.hs _ _ _ _ _ _ _).trans (by kernel_rfl)
theorem J20_eq (h i j:Nat) (k l:Int) (b c d m n o e f g:Nat) (a:Int) (G:GH):J20 M C h i j k l b c d m n o e f g a G=(guardK (decide (0≤a∧a<((d:Nat):Int))) ((G.sts b (c+Int.toNat a*1) [.bool true]).bind fun p=>guardK (decide (0≤a∧a<((g:Nat):Int))) ((p.sts e (f+Int.toNat a*1) [.bool true]).bind fun q=>L26 M C h i j k l b c d m n o e f g (IntKind.i64.wrap (a+1)) q))):=(M.hj _ _ _).trans (by kernel_rfl)
theorem J43_eq (a b d e f g:Nat) (G:GH):J43 M C a b d e f g G=(some ([.c (.sl 1 a b d),.c (.sl 1 e f g),.c (.bool true)],G)):=(M.hj _ _ _).trans (by kernel_rfl)
def f (e g a h i d:Nat) (b c j:Int) (G:GH):Option Res:=bif (!decide (((a:Nat):Int)=((d:Nat):Int))) then J6 M C e g a h i d b c j 0 0 0 true G else bif decide (b<0) then J6 M C e g a h i d b c j 0 0 0 true G else bif decide (b>c) then J6 M C e g a h i d b c j 0 0 0 true G else J6 M C e g a h i d b c j 0 0 0 (decide (c>((a:Nat):Int))) G
theorem eq (a b e g h i:Nat) (j k l:Int) (G:GH):runF M C d [.c (.sl 1 a b e),.c (.sl 1 g h i),.c (.int .i64 j),.c (.int .i64 k),.c (.int .i64 l)] G=f M C a b e g h i j k l G:=by kernel_rfl
end F31
namespace F19
def c31:DCode:=(.cond (.t 46) (.seq (.region [oP 0 57 (.build zA [(0,1,.k (.c (.int .i64 9)))]),
 ⟨1,none,.stL 4 88 (.t 57) 8,none⟩]) .ret) (.seq (.region [oP 0 59 (.faddr 3 0),
 oP 1 60 (.ldL 59 87 (.c (.int .i64))),
 oP 2 61 (.cmp .eql .i64 (.t 60) (kI 7)),
 mV 3 58 61]) (.cond (.t 58) (.seq (.region [mV 0 62 0,
 oP 1 63 (.nilck (.t 62)),
 oP 2 64 (.faddr 63 17),
 oP 3 65 (.ldG 64 (.c (.sl 1))),
 oP 4 66 (.faddr 5 0),
 oP 5 67 (.ldL 66 89 (.c (.int .i64))),
 oP 6 68 (.faddr 3 4),
 oP 7 69 (.ldL 68 87 (.c (.int .i64))),
 oP 8 70 (.bin .add .i64 (.t 67) (.t 69)),
 oP 9 71 (.iaddr (.t 65) (.t 70) 1),
 oP 10 72 (.ldG 71 (.c (.int .u8))),
 oP 11 73 (.build zA [(3,1,.t 72)]),
 ⟨12,none,.stL 4 88 (.t 73) 8,none⟩]) .ret) .skip)))
def c46:DCode:=(.seq (.region [mV 0 74 0,
 oP 1 75 (.nilck (.t 74)),
 oP 2 76 (.faddr 75 17),
 oP 3 77 (.ldG 76 (.c (.sl 1))),
 oP 4 78 (.faddr 5 0),
 oP 5 79 (.ldL 78 89 (.c (.int .i64))),
 oP 6 80 (.faddr 3 4),
 oP 7 81 (.ldL 80 87 (.c (.int .i64))),
 oP 8 82 (.bin .add .i64 (.t 79) (.t 81)),
 oP 9 83 (.faddr 3 5),
 oP 10 84 (.ldL 83 87 (.c (.int .u8))),
 oP 11 85 (.iaddr (.t 77) (.t 82) 1),
 ⟨12,none,.stG 85 (.t 84) 1,none⟩]) (.seq (.region [oP 0 86 (.build zA []),
 ⟨1,none,.stL 4 88 (.t 86) 8,none⟩]) .ret))
def d:DFn:={ ntmps:=90,res:=[.box 4 (some 8)],body:=(.seq (.region [oP 0 3 (.boxv 87 [12,23,28,32,40,47,51,59,68,80,83] (.t 1) 6),
 oP 1 4 (.boxz 88 [] zA)]) (.seq (.region [mV 0 8 0,
 oP 1 9 (.nilck (.t 8)),
 oP 2 10 (.faddr 9 11),
 oP 3 11 (.ldG 10 (.c (.map))),
 oP 4 12 (.faddr 3 1),
 oP 5 13 (.ldL 12 87 (.c (.int .i64))),
 oP 6 14 (.build [.int .i64 0] [(0,1,.t 13)]),
 oP 7 15 (.lkup (.agg [.int .i64]) (.t 11) (.t 14) (.agg (zI 3)) (.agg (iS 3)) true),
 mV 8 7 15,
 oP 9 16 (.ext 7 0),
 oP 10 17 (.ext 7 1),
 oP 11 5 (.boxz 89 [43,53,66,78] (zI 3)),
 ⟨12,none,.stL 5 89 (.t 16) 3,none⟩,
 mV 13 6 17]) (.seq (.block 0 (.seq (.region [mV 0 19 6,
 oP 1 20 (.not (.t 19)),
 mV 2 18 20]) (.cond (.t 18) (.seq (.region [oP 0 21 (.build zA [(0,1,.k (.c (.int .i64 8)))]),
 ⟨1,none,.stL 4 88 (.t 21) 8,none⟩]) .ret) (.seq (.region [oP 0 23 (.faddr 3 0),
 oP 1 24 (.ldL 23 87 (.c (.int .i64))),
 oP 2 25 (.cmp .eql .i64 (.t 24) (kI 4)),
 mV 3 22 25]) (.cond (.t 22) (.seq (.region [mV 0 26 0,
 oP 1 27 (.ldL 5 89 (.agg (iS 3))),
 oP 2 28 (.faddr 3 2),
 oP 3 29 (.ldL 28 87 (.c (.int .i64))),
 oP 4 30 (.call 50 [.t 26,.t 27,.t 29] [.agg sA]),
 ⟨5,none,.stL 4 88 (.t 30) 8,none⟩]) .ret) (.seq (.region [oP 0 32 (.faddr 3 0),
 oP 1 33 (.ldL 32 87 (.c (.int .i64))),
 oP 2 34 (.cmp .eql .i64 (.t 33) (kI 5)),
 mV 3 31 34]) (.cond (.t 31) (.seq (.region [mV 0 35 0,
 oP 1 36 (.ldL 5 89 (.agg (iS 3))),
 oP 2 37 (.call 51 [.t 35,.t 36] [])]) (.seq (.region [oP 0 38 (.build zA []),
 ⟨1,none,.stL 4 88 (.t 38) 8,none⟩]) .ret)) (.seq (.region [oP 0 40 (.faddr 3 0),
 oP 1 41 (.ldL 40 87 (.c (.int .i64))),
 oP 2 42 (.cmp .eql .i64 (.t 41) (kI 6)),
 mV 3 39 42]) (.cond (.t 39) (.seq (.region [oP 0 43 (.faddr 5 1),
 oP 1 44 (.ldL 43 89 (.c (.int .i64))),
 oP 2 45 (.build zA [(2,1,.t 44)]),
 ⟨3,none,.stL 4 88 (.t 45) 8,none⟩]) .ret) (.seq (.region [oP 0 47 (.faddr 3 4),
 oP 1 48 (.ldL 47 87 (.c (.int .i64))),
 oP 2 49 (.cmp .lss .i64 (.t 48) (kI 0)),
 mV 3 50 49,
 ⟨4,some 51,.faddr 3 4,some (50,false)⟩,
 ⟨5,some 52,.ldL 51 87 (.c (.int .i64)),some (50,false)⟩,
 ⟨6,some 53,.faddr 5 1,some (50,false)⟩,
 ⟨7,some 54,.ldL 53 89 (.c (.int .i64)),some (50,false)⟩,
 ⟨8,some 55,.cmp .geq .i64 (.t 52) (.t 54),some (50,false)⟩,
 oP 9 56 (.pick (.t 50) (kB true) (.t 55)),
 mV 10 46 56]) (.cut [0,3,4,5,46,87,88,89] c31))))))))))) c46))) }
def k46:Kont:=execC M.j C (M.ag C) c46 ({ exits:=[],ret:=retK d }:Env) (retK d)
def e41:Env:={ exits:=(0,(k46 M C))::(({ exits:=[],ret:=retK d }:Env)).exits,ret:=(({ exits:=[],ret:=retK d }:Env)).ret }
def J31 (a b:Nat) (c:Bool) (d e f g h i k l m n o p q r s t v:Int) (G:GH):Option Res:=M.j (execC M.j C (M.ag C) c31 (e41 M C) (k46 M C)) (vP a b::(uS 2 (.ref 87 0::(.ref 88 0::(.ref 89 0::(uS 40 (vB c::(uS 40 (.box [.int .i64 d,.int .i64 e,.int .i64 f,.int .i64 g,.int .i64 h,.int .u8 i]::(.box [.int .i64 k,.int .i64 l,.int .i64 m,.int .u8 n,.int .i64 o,.int .i64 p,.int .i64 q,.int .i64 r]::(.box [.int .i64 s,.int .i64 t,.int .i64 v]::[]))))))))))) G
theorem J31_eq (c d:Nat) (g:Bool) (h j k l a i m n o p q r s t b v w:Int) (G:GH):J31 M C c d g h j k l a i m n o p q r s t b v w G=(bif g then some ([.agg [.int .i64 9,.int .i64 0,.int .i64 0,.int .u8 0,.int .i64 0,.int .i64 0,.int .i64 0,.int .i64 0]],G) else bif decide (h=7) then guardK (!Nat.beq c 0) (((G.ld c (d+17)).bind (Cell.asS 1)).bind fun e=>guardK (decide (0≤IntKind.i64.wrap (b+a)∧IntKind.i64.wrap (b+a)<((e.2.2:Nat):Int))) (((G.ld e.1 (e.2.1+Int.toNat (IntKind.i64.wrap (b+a))*1)).bind (Cell.asI .u8)).bind fun x=>some ([.agg [.int .i64 0,.int .i64 0,.int .i64 0,.int .u8 x,.int .i64 0,.int .i64 0,.int .i64 0,.int .i64 0]],G))) else guardK (!Nat.beq c 0) (((G.ld c (d+17)).bind (Cell.asS 1)).bind fun f=>guardK (decide (0≤IntKind.i64.wrap (b+a)∧IntKind.i64.wrap (b+a)<((f.2.2:Nat):Int))) ((G.sts f.1 (f.2.1+Int.toNat (IntKind.i64.wrap (b+a))*1) [.int .u8 i]).bind fun y=>some ([.agg [.int .i64 0,.int .i64 0,.int .i64 0,.int .u8 0,.int .i64 0,.int .i64 0,.int .i64 0,.int .i64 0]],y)))):=(M.hj _ _ _).trans (by kernel_rfl)
def f (d g:Nat) (h i n o j p:Int) (G:GH):Option Res:=guardK (!Nat.beq d 0) (((G.ld d (g+11)).bind Cell.asM).bind fun s=>(G.ents0 (.agg [.int .i64]) s).bind fun q=>(((some ((mapGet q (.agg [.int .i64 i])).getD (.agg [.int .i64 0,.int .i64 0,.int .i64 0])))).bind V1.a?).bind fun k=>if k.length=3 then (((k[0]?).bind (Cell.asI .i64)).bind fun l=>((k[1]?).bind (Cell.asI .i64)).bind fun e=>((k[2]?).bind (Cell.asI .i64)).bind fun m=>bif (!(mapGet q (.agg [.int .i64 i])).isSome) then some ([.agg [.int .i64 8,.int .i64 0,.int .i64 0,.int .u8 0,.int .i64 0,.int .i64 0,.int .i64 0,.int .i64 0]],G) else bif decide (h=4) then (C F13.id [.c (.ptr d g),.agg [.int .i64 l,.int .i64 e,.int .i64 m],.c (.int .i64 n)] G).bind fun r=>((r.1[0]?).bind V1.a?).bind fun b=>if b.length=8 then (((b[0]?).bind (Cell.asI .i64)).bind fun t=>((b[1]?).bind (Cell.asI .i64)).bind fun v=>((b[2]?).bind (Cell.asI .i64)).bind fun w=>((b[3]?).bind (Cell.asI .u8)).bind fun x=>((b[4]?).bind (Cell.asI .i64)).bind fun y=>((b[5]?).bind (Cell.asI .i64)).bind fun z=>((b[6]?).bind (Cell.asI .i64)).bind fun A=>((b[7]?).bind (Cell.asI .i64)).bind fun B=>some ([.agg [.int .i64 t,.int .i64 v,.int .i64 w,.int .u8 x,.int .i64 y,.int .i64 z,.int .i64 A,.int .i64 B]],r.2)) else none else bif decide (h=5) then (C F27.id [.c (.ptr d g),.agg [.int .i64 l,.int .i64 e,.int .i64 m]] G).bind fun D=>some ([.agg [.int .i64 0,.int .i64 0,.int .i64 0,.int .u8 0,.int .i64 0,.int .i64 0,.int .i64 0,.int .i64 0]],D.2) else bif decide (h=6) then some ([.agg [.int .i64 0,.int .i64 0,.int .i64 e,.int .u8 0,.int .i64 0,.int .i64 0,.int .i64 0,.int .i64 0]],G) else bif decide (j<0) then J31 M C d g true h i n o j p 0 0 0 0 0 0 0 0 l e m G else J31 M C d g (decide (j≥e)) h i n o j p 0 0 0 0 0 0 0 0 l e m G) else none)
theorem eq (a b:Nat) (e g h i j k:Int) (G:GH):runF M C d [.c (.ptr a b),.agg [.int .i64 e,.int .i64 g,.int .i64 h,.int .i64 i,.int .i64 j,.int .u8 k]] G=f M C a b e g h i j k G:=by kernel_rfl
end F19
namespace F13
def c24:DCode:=(.seq (.region [oP 0 74 (.ldL 11 78 (.agg sA)),
 ⟨1,none,.stL 6 76 (.t 74) 8,none⟩]) .ret)
def d:DFn:={ ntmps:=79,res:=[.box 6 (some 8)],body:=(.seq (.region [oP 0 4 (.boxv 75 [21,35,37,39] (.t 1) 3),
 oP 1 6 (.boxz 76 [] zA)]) (.seq (.region [mV 0 13 0,
 oP 1 14 (.nilck (.t 13)),
 oP 2 15 (.faddr 14 0),
 oP 3 16 (.ldG 15 (.agg (iS 8))),
 mV 4 17 0,
 oP 5 18 (.nilck (.t 17)),
 oP 6 19 (.faddr 18 12),
 oP 7 20 (.ldG 19 (.c (.int .i64))),
 oP 8 21 (.faddr 4 1),
 oP 9 22 (.ldL 21 75 (.c (.int .i64))),
 mV 10 23 2,
 oP 11 24 (.call 63 [.t 16,.t 20,.t 22,.t 23] [.c (.int .i64),.c (.int .i64)]),
 mV 12 12 24,
 oP 13 25 (.ext 12 0),
 oP 14 26 (.ext 12 1),
 mV 15 7 25,
 mV 16 8 26]) (.seq (.seq (.region [mV 0 27 8,
 oP 1 28 (.cmp .neq .i64 (.t 27) (kI 0))]) (.cond (.t 28) (.seq (.region [mV 0 29 8,
 oP 1 30 (.build zA [(0,1,.t 29)]),
 ⟨2,none,.stL 6 76 (.t 30) 8,none⟩]) .ret) .skip)) (.seq (.region [mV 0 31 0,
 oP 1 32 (.nilck (.t 31)),
 oP 2 33 (.faddr 32 17),
 oP 3 34 (.ldG 33 (.c (.sl 1))),
 oP 4 35 (.faddr 4 0),
 oP 5 36 (.ldL 35 75 (.c (.int .i64))),
 oP 6 37 (.faddr 4 0),
 oP 7 38 (.ldL 37 75 (.c (.int .i64))),
 oP 8 39 (.faddr 4 1),
 oP 9 40 (.ldL 39 75 (.c (.int .i64))),
 mV 10 41 7,
 oP 11 42 (.mn (.t 40) [.t 41]),
 oP 12 43 (.bin .add .i64 (.t 38) (.t 42)),
 oP 13 44 (.slice (.t 34) (some (.t 36)) (some (.t 43)) 1),
 mV 15 46 0,
 oP 16 47 (.nilck (.t 46)),
 oP 17 48 (.faddr 47 8),
 oP 18 49 (.ldG 48 (.agg [.int .i64,.sl 2,.sl 2])),
 oP 19 10 (.boxz 77 [] [.int .i64 0,.sl 2 0 0 0,.sl 2 0 0 0]),
 oP 14 45 (.call 64 [.t 44] [.c (.sl 1)]),
 ⟨9999,none,.reG 49 48 (.agg [.int .i64,.sl 2,.sl 2]),none⟩,
 mV 20 9 45,
 ⟨21,none,.stL 10 77 (.t 49) 3,none⟩]) (.seq (.region [mV 0 50 0,
 oP 1 51 (.ldL 4 75 (.agg (iS 3))),
 oP 2 52 (.call 51 [.t 50,.t 51] [])]) (.seq (.region [mV 0 53 0,
 mV 1 54 7,
 mV 2 55 2,
 oP 3 56 (.call 47 [.t 53,.t 54,.t 55,.k (.c (.int .i64 0))] [.agg sA]),
 oP 4 11 (.boxz 78 [57,69] zA),
 ⟨5,none,.stL 11 78 (.t 56) 8,none⟩]) (.seq (.seq (.region [oP 0 57 (.faddr 11 0),
 oP 1 58 (.ldL 57 78 (.c (.int .i64))),
 oP 2 59 (.cmp .neq .i64 (.t 58) (kI 0))]) (.cond (.t 59) (.seq (.region [mV 0 60 0,
 oP 1 61 (.ldL 4 75 (.agg (iS 3))),
 oP 2 62 (.ldL 10 77 (.agg [.int .i64,.sl 2,.sl 2])),
 oP 3 63 (.call 65 [.t 60,.t 61,.t 62] [])]) (.seq (.region [oP 0 64 (.ldL 11 78 (.agg sA)),
 ⟨1,none,.stL 6 76 (.t 64) 8,none⟩]) .ret)) .skip)) (.seq (.region [mV 0 65 0,
 oP 1 66 (.nilck (.t 65)),
 oP 2 67 (.faddr 66 17),
 oP 3 68 (.ldG 67 (.c (.sl 1))),
 oP 4 69 (.faddr 11 1),
 oP 5 70 (.ldL 69 78 (.c (.int .i64))),
 oP 6 71 (.slice (.t 68) (some (.t 70)) none 1),
 mV 7 72 9,
 oP 8 73 (.copy (.t 71) (.t 72) 1)]) (.cut [6,11,76,78] c24))))))))) }
def J24 (a b c e f g h i k l m n o p q r:Int) (G:GH):Option Res:=M.j (execC M.j C (M.ag C) c24 ({ exits:=[],ret:=retK d }:Env) (retK d)) (uS 6 (.ref 76 0::(uS 4 (.ref 78 0::(uS 64 (.box [.int .i64 a,.int .i64 b,.int .i64 c,.int .u8 e,.int .i64 f,.int .i64 g,.int .i64 h,.int .i64 i]::(uS 1 (.box [.int .i64 k,.int .i64 l,.int .i64 m,.int .u8 n,.int .i64 o,.int .i64 p,.int .i64 q,.int .i64 r]::[])))))))) G
theorem J24_eq (i j k l m n o p a b c d e f g h:Int) (G:GH):J24 M C i j k l m n o p a b c d e f g h G=(some ([.agg [.int .i64 a,.int .i64 b,.int .i64 c,.int .u8 d,.int .i64 e,.int .i64 f,.int .i64 g,.int .i64 h]],G)):=(M.hj _ _ _).trans (by kernel_rfl)
def f (b d:Nat) (e k D E:Int) (G:GH):Option Res:=guardK (!Nat.beq b 0) (((G.ld b ((d+0)+0)).bind (Cell.asI .i64)).bind fun I=>((G.ld b ((d+0)+1)).bind (Cell.asI .i64)).bind fun J=>((G.ld b ((d+0)+2)).bind (Cell.asI .i64)).bind fun K=>((G.ld b ((d+0)+3)).bind (Cell.asI .i64)).bind fun L=>((G.ld b ((d+0)+4)).bind (Cell.asI .i64)).bind fun N=>((G.ld b ((d+0)+5)).bind (Cell.asI .i64)).bind fun O=>((G.ld b ((d+0)+6)).bind (Cell.asI .i64)).bind fun P=>((G.ld b ((d+0)+7)).bind (Cell.asI .i64)).bind fun Q=>guardK (!Nat.beq b 0) (((G.ld b (d+12)).bind (Cell.asI .i64)).bind fun R=>(C F58.id [.agg [.int .i64 I,.int .i64 J,.int .i64 K,.int .i64 L,.int .i64 N,.int .i64 O,.int .i64 P,.int .i64 Q],.c (.int .i64 R),.c (.int .i64 k),.c (.int .i64 E)] G).bind fun h=>(((h.1[0]?).bind V1.c?).bind (Cell.asI .i64)).bind fun p=>(((h.1[1]?).bind V1.c?).bind (Cell.asI .i64)).bind fun F=>bif (!decide (F=0)) then some ([.agg [.int .i64 F,.int .i64 0,.int .i64 0,.int .u8 0,.int .i64 0,.int .i64 0,.int .i64 0,.int .i64 0]],h.2) else guardK (!Nat.beq b 0) (((h.2.ld b (d+17)).bind (Cell.asS 1)).bind fun s=>guardK (decide (0≤e∧e≤IntKind.i64.wrap (e+(mn2 k p))∧IntKind.i64.wrap (e+(mn2 k p))≤((s.2.2:Nat):Int))) (guardK (!Nat.beq b 0) (((h.2.ld b ((d+8)+0)).bind (Cell.asI .i64)).bind fun H=>((h.2.ld b ((d+8)+1)).bind (Cell.asS 2)).bind fun l=>((h.2.ld b ((d+8)+2)).bind (Cell.asS 2)).bind fun m=>(C F6.id [.c (.sl 1 s.1 (s.2.1+Int.toNat e*1) (Int.toNat (IntKind.i64.wrap (e+(mn2 k p)))-Int.toNat e))] h.2).bind fun o=>(((o.1[0]?).bind V1.c?).bind (Cell.asS 1)).bind fun q=>((o.2.ld b ((d+8)+0)).bind (Cell.asI .i64)).bind fun S=>((o.2.ld b ((d+8)+1)).bind (Cell.asS 2)).bind fun t=>((o.2.ld b ((d+8)+2)).bind (Cell.asS 2)).bind fun v=>guardK (decide ((.agg [.int .i64 H,.sl 2 l.1 l.2.1 l.2.2,.sl 2 m.1 m.2.1 m.2.2]:V1) = .agg [.int .i64 S,.sl 2 t.1 t.2.1 t.2.2,.sl 2 v.1 v.2.1 v.2.2])) ((C F27.id [.c (.ptr b d),.agg [.int .i64 e,.int .i64 k,.int .i64 D]] o.2).bind fun T=>(C F26.id [.c (.ptr b d),.c (.int .i64 p),.c (.int .i64 E),.c (.int .i64 0)] T.2).bind fun n=>((n.1[0]?).bind V1.a?).bind fun g=>if g.length=8 then (((g[0]?).bind (Cell.asI .i64)).bind fun r=>((g[1]?).bind (Cell.asI .i64)).bind fun i=>((g[2]?).bind (Cell.asI .i64)).bind fun w=>((g[3]?).bind (Cell.asI .u8)).bind fun x=>((g[4]?).bind (Cell.asI .i64)).bind fun y=>((g[5]?).bind (Cell.asI .i64)).bind fun z=>((g[6]?).bind (Cell.asI .i64)).bind fun A=>((g[7]?).bind (Cell.asI .i64)).bind fun B=>bif (!decide (r=0)) then (C F23.id [.c (.ptr b d),.agg [.int .i64 e,.int .i64 k,.int .i64 D],.agg [.int .i64 H,.sl 2 l.1 l.2.1 l.2.2,.sl 2 m.1 m.2.1 m.2.2]] n.2).bind fun U=>some ([.agg [.int .i64 r,.int .i64 i,.int .i64 w,.int .u8 x,.int .i64 y,.int .i64 z,.int .i64 A,.int .i64 B]],U.2) else guardK (!Nat.beq b 0) (((n.2.ld b (d+17)).bind (Cell.asS 1)).bind fun j=>guardK (decide (0≤i∧i≤((j.2.2:Nat):Int)∧((j.2.2:Nat):Int)≤((j.2.2:Nat):Int))) (if Int.toNat ((j.2.2:Nat):Int)-Int.toNat i=0∨q.2.2=0 then J24 M C 0 0 0 0 0 0 0 0 r i w x y z A B n.2 else (n.2.lds q.1 q.2.1 (min q.2.2 (Int.toNat ((j.2.2:Nat):Int)-Int.toNat i)*1)).bind fun V=>(n.2.sts j.1 (j.2.1+Int.toNat i*1) V).bind fun W=>J24 M C 0 0 0 0 0 0 0 0 r i w x y z A B W))) else none))))))
theorem eq (a b:Nat) (e g h i:Int) (G:GH):runF M C d [.c (.ptr a b),.agg [.int .i64 e,.int .i64 g,.int .i64 h],.c (.int .i64 i)] G=f M C a b e g h i G:=by kernel_rfl
end F13
namespace F15
def c11:DCode:=(.seq (.region [oP 0 55 (.ldL 11 57 (.agg sA)),
 ⟨1,none,.stL 6 56 (.t 55) 8,none⟩]) .ret)
def d:DFn:={ ntmps:=58,res:=[.box 6 (some 8)],body:=(.seq (.region [oP 0 6 (.boxz 56 [] zA)]) (.seq (.region [mV 0 13 0,
 oP 1 14 (.nilck (.t 13)),
 oP 2 15 (.faddr 14 0),
 oP 3 16 (.ldG 15 (.agg (iS 8))),
 mV 4 17 0,
 oP 5 18 (.nilck (.t 17)),
 oP 6 19 (.faddr 18 12),
 oP 7 20 (.ldG 19 (.c (.int .i64))),
 mV 8 21 1,
 mV 9 22 2,
 oP 10 23 (.call 48 [.t 16,.t 20,.t 21,.t 22] [.c (.int .i64),.c (.int .i64)]),
 mV 11 12 23,
 oP 12 24 (.ext 12 0),
 oP 13 25 (.ext 12 1),
 mV 14 7 24,
 mV 15 8 25]) (.seq (.region [mV 0 27 0,
 oP 1 28 (.nilck (.t 27)),
 oP 2 29 (.faddr 28 0),
 oP 3 30 (.ldG 29 (.agg (iS 8))),
 mV 4 31 1,
 mV 5 32 2,
 oP 6 33 (.call 49 [.t 30,.t 31,.t 32] [.c (.int .i64),.c (.int .i64)]),
 mV 7 26 33,
 oP 8 34 (.ext 26 0),
 oP 9 35 (.ext 26 1),
 mV 10 9 34,
 mV 11 10 35]) (.seq (.region [mV 0 36 0,
 mV 1 37 7,
 mV 2 38 9,
 mV 3 39 8,
 oP 4 40 (.call 47 [.t 36,.t 37,.t 38,.t 39] [.agg sA]),
 oP 5 11 (.boxz 57 [41,48,50] zA),
 ⟨6,none,.stL 11 57 (.t 40) 8,none⟩]) (.seq (.seq (.region [oP 0 41 (.faddr 11 0),
 oP 1 42 (.ldL 41 57 (.c (.int .i64))),
 oP 2 43 (.cmp .eql .i64 (.t 42) (kI 0))]) (.cond (.t 43) (.region [mV 0 44 0,
 oP 1 45 (.nilck (.t 44)),
 oP 2 46 (.faddr 45 17),
 oP 3 47 (.ldG 46 (.c (.sl 1))),
 oP 4 48 (.faddr 11 1),
 oP 5 49 (.ldL 48 57 (.c (.int .i64))),
 oP 6 50 (.faddr 11 1),
 oP 7 51 (.ldL 50 57 (.c (.int .i64))),
 mV 8 52 7,
 oP 9 53 (.bin .add .i64 (.t 51) (.t 52)),
 oP 10 54 (.slice (.t 47) (some (.t 49)) (some (.t 53)) 1),
 ⟨11,none,.clear (.t 54) [.int .u8 0],none⟩]) .skip)) (.cut [6,11,56,57] c11)))))) }
def J11 (a b c e f g h i k l m n o p q r:Int) (G:GH):Option Res:=M.j (execC M.j C (M.ag C) c11 ({ exits:=[],ret:=retK d }:Env) (retK d)) (uS 6 (.ref 56 0::(uS 4 (.ref 57 0::(uS 44 (.box [.int .i64 a,.int .i64 b,.int .i64 c,.int .u8 e,.int .i64 f,.int .i64 g,.int .i64 h,.int .i64 i]::(.box [.int .i64 k,.int .i64 l,.int .i64 m,.int .u8 n,.int .i64 o,.int .i64 p,.int .i64 q,.int .i64 r]::[]))))))) G
theorem J11_eq (i j k l m n o p a b c d e f g h:Int) (G:GH):J11 M C i j k l m n o p a b c d e f g h G=(some ([.agg [.int .i64 a,.int .i64 b,.int .i64 c,.int .u8 d,.int .i64 e,.int .i64 f,.int .i64 g,.int .i64 h]],G)):=(M.hj _ _ _).trans (by kernel_rfl)
def f (b d:Nat) (t v:Int) (G:GH):Option Res:=guardK (!Nat.beq b 0) (((G.ld b ((d+0)+0)).bind (Cell.asI .i64)).bind fun w=>((G.ld b ((d+0)+1)).bind (Cell.asI .i64)).bind fun x=>((G.ld b ((d+0)+2)).bind (Cell.asI .i64)).bind fun y=>((G.ld b ((d+0)+3)).bind (Cell.asI .i64)).bind fun z=>((G.ld b ((d+0)+4)).bind (Cell.asI .i64)).bind fun A=>((G.ld b ((d+0)+5)).bind (Cell.asI .i64)).bind fun B=>((G.ld b ((d+0)+6)).bind (Cell.asI .i64)).bind fun D=>((G.ld b ((d+0)+7)).bind (Cell.asI .i64)).bind fun E=>guardK (!Nat.beq b 0) (((G.ld b (d+12)).bind (Cell.asI .i64)).bind fun F=>(C F57.id [.agg [.int .i64 w,.int .i64 x,.int .i64 y,.int .i64 z,.int .i64 A,.int .i64 B,.int .i64 D,.int .i64 E],.c (.int .i64 F),.c (.int .i64 t),.c (.int .i64 v)] G).bind fun g=>(((g.1[0]?).bind V1.c?).bind (Cell.asI .i64)).bind fun i=>(((g.1[1]?).bind V1.c?).bind (Cell.asI .i64)).bind fun H=>guardK (!Nat.beq b 0) (((g.2.ld b ((d+0)+0)).bind (Cell.asI .i64)).bind fun I=>((g.2.ld b ((d+0)+1)).bind (Cell.asI .i64)).bind fun J=>((g.2.ld b ((d+0)+2)).bind (Cell.asI .i64)).bind fun K=>((g.2.ld b ((d+0)+3)).bind (Cell.asI .i64)).bind fun L=>((g.2.ld b ((d+0)+4)).bind (Cell.asI .i64)).bind fun N=>((g.2.ld b ((d+0)+5)).bind (Cell.asI .i64)).bind fun O=>((g.2.ld b ((d+0)+6)).bind (Cell.asI .i64)).bind fun P=>((g.2.ld b ((d+0)+7)).bind (Cell.asI .i64)).bind fun Q=>(C F32.id [.agg [.int .i64 I,.int .i64 J,.int .i64 K,.int .i64 L,.int .i64 N,.int .i64 O,.int .i64 P,.int .i64 Q],.c (.int .i64 t),.c (.int .i64 v)] g.2).bind fun l=>(((l.1[0]?).bind V1.c?).bind (Cell.asI .i64)).bind fun R=>(((l.1[1]?).bind V1.c?).bind (Cell.asI .i64)).bind fun T=>(C F26.id [.c (.ptr b d),.c (.int .i64 i),.c (.int .i64 R),.c (.int .i64 H)] l.2).bind fun j=>((j.1[0]?).bind V1.a?).bind fun h=>if h.length=8 then (((h[0]?).bind (Cell.asI .i64)).bind fun k=>((h[1]?).bind (Cell.asI .i64)).bind fun e=>((h[2]?).bind (Cell.asI .i64)).bind fun m=>((h[3]?).bind (Cell.asI .u8)).bind fun n=>((h[4]?).bind (Cell.asI .i64)).bind fun o=>((h[5]?).bind (Cell.asI .i64)).bind fun p=>((h[6]?).bind (Cell.asI .i64)).bind fun q=>((h[7]?).bind (Cell.asI .i64)).bind fun r=>bif decide (k=0) then guardK (!Nat.beq b 0) (((j.2.ld b (d+17)).bind (Cell.asS 1)).bind fun s=>guardK (decide (0≤e∧e≤IntKind.i64.wrap (e+i)∧IntKind.i64.wrap (e+i)≤((s.2.2:Nat):Int))) (if Int.toNat (IntKind.i64.wrap (e+i))-Int.toNat e=0 then J11 M C 0 0 0 0 0 0 0 0 k e m n o p q r j.2 else (j.2.sts s.1 (s.2.1+Int.toNat e*1) (reps (Int.toNat (IntKind.i64.wrap (e+i))-Int.toNat e) [.int .u8 0])).bind fun S=>J11 M C 0 0 0 0 0 0 0 0 k e m n o p q r S)) else J11 M C 0 0 0 0 0 0 0 0 k e m n o p q r j.2) else none)))
theorem eq (a b:Nat) (e g:Int) (G:GH):runF M C d [.c (.ptr a b),.c (.int .i64 e),.c (.int .i64 g)] G=f M C a b e g G:=by kernel_rfl
end F15
namespace F48
def c13:DCode:=(.cond (.t 30) (.seq (.region [mV 0 31 4,
 mV 1 32 6,
 oP 2 33 (.iaddr (.t 31) (.t 32) 1),
 ⟨3,none,.stG 33 (kB false) 1,none⟩]) (.region [mV 0 34 5,
 oP 1 35 (.bin .add .i64 (.t 34) (kI 1)),
 mV 2 5 35])) .skip)
def c17:DCode:=(.region [oP 0 36 (.bin .add .i64 (.t 12) (kI 1)),
 mV 1 12 36])
def c20:DCode:=(.seq (.region [oP 0 13 (.cmp .lss .i64 (.t 12) (.t 11))]) (.seq (.cond (.t 13) .skip (.exit 0)) (.seq (.block 1 (.seq (.region [mV 0 14 12,
 oP 1 15 (.iaddr (.t 10) (.t 12) 1),
 oP 2 16 (.ldG 15 (.c (.bool))),
 mV 3 6 14,
 mV 4 7 16]) (.seq (.region [mV 0 17 7,
 mV 1 18 17,
 ⟨2,some 19,.move (.t 6),some (18,true)⟩,
 ⟨3,some 20,.move (.t 1),some (18,true)⟩,
 ⟨4,some 21,.len (.t 20),some (18,true)⟩,
 ⟨5,some 22,.cmp .geq .i64 (.t 19) (.t 21),some (18,true)⟩,
 ⟨6,some 23,.move (.t 22),some (18,true)⟩,
 ⟨7,some 24,.move (.t 1),some (23,false)⟩,
 ⟨8,some 25,.move (.t 6),some (23,false)⟩,
 ⟨9,some 26,.iaddr (.t 24) (.t 25) 1,some (23,false)⟩,
 ⟨10,some 27,.ldG 26 (.c (.bool)),some (23,false)⟩,
 ⟨11,some 28,.not (.t 27),some (23,false)⟩,
 ⟨12,some 29,.pick (.t 23) (kB true) (.t 28),some (18,true)⟩,
 oP 13 30 (.pick (.t 18) (.t 29) (kB false))]) (.cut [1,4,5,6,10,11,12,30] c13)))) (.cut [1,4,5,10,11,12] c17))))
def c21:DCode:=(.loop [1,4,5,10,11,12] c20)
def c26:DCode:=(.seq (.region [mV 0 37 4,
 mV 1 38 5,
 mV 2 4 37,
 mV 3 5 38]) .ret)
def d:DFn:={ ntmps:=39,res:=[.t 4,.t 5],body:=(.seq (.region [oP 0 4 (.move (.k (.c (.sl 1 0 0 0)))),
 oP 1 5 (.move (kI 0))]) (.seq (.region [mV 0 8 0,
 oP 1 9 (.call 52 [.t 8] [.c (.sl 1)]),
 mV 2 4 9]) (.seq (.seq (.region [mV 0 10 0,
 oP 1 11 (.len (.t 10)),
 oP 2 12 (.move (kI 0))]) (.block 0 c21)) c26))) }
def k26:Kont:=execC M.j C (M.ag C) c26 ({ exits:=[],ret:=retK d }:Env) (retK d)
def e22:Env:={ exits:=(0,(k26 M C))::(({ exits:=[],ret:=retK d }:Env)).exits,ret:=(({ exits:=[],ret:=retK d }:Env)).ret }
def L21 (a b c d e f:Nat) (g:Int) (h i j:Nat) (k l:Int) (G:GH):Option Res:=M.ag C [1,4,5,10,11,12] c20 (e22 M C) (k26 M C) (uS 1 (vS 1 a b c::(uS 2 (vS 1 d e f::(vI g::(uS 4 (vS 1 h i j::(vI k::(vI l::(uS 26 [])))))))))) G
def k21:Kont:=fun tm G=>M.ag C [1,4,5,10,11,12] c20 (e22 M C) (k26 M C) (restr [1,4,5,10,11,12] 0 tm) G
def k17:Kont:=execC M.j C (M.ag C) (.cut [1,4,5,10,11,12] c17) (e22 M C) (k21 M C)
def e16:Env:={ exits:=(1,(k17 M C))::((e22 M C)).exits,ret:=((e22 M C)).ret }
def J13 (a b c d e f:Nat) (g h:Int) (i k l:Nat) (m n:Int) (o:Bool) (G:GH):Option Res:=M.j (execC M.j C (M.ag C) c13 (e16 M C) (k17 M C)) (uS 1 (vS 1 a b c::(uS 2 (vS 1 d e f::(vI g::(vI h::(uS 3 (vS 1 i k l::(vI m::(vI n::(uS 17 (vB o::(uS 8 []))))))))))))) G
def J17 (a b c d e f:Nat) (g:Int) (h i k:Nat) (l m:Int) (G:GH):Option Res:=M.j (execC M.j C (M.ag C) c17 (e22 M C) (k21 M C)) (uS 1 (vS 1 a b c::(uS 2 (vS 1 d e f::(vI g::(uS 4 (vS 1 h i k::(vI l::(vI m::(uS 26 [])))))))))) G
theorem L21_eq (d e b f g h:Nat) (i:Int) (j k l:Nat) (m a:Int) (G:GH):L21 M C d e b f g h i j k l m a G=(bif decide (a<m) then guardK (decide (0≤a∧a<((l:Nat):Int))) (((G.ld j (k+Int.toNat a*1)).bind Cell.asB).bind fun n=>bif n then bif decide (a≥((b:Nat):Int)) then J13 M C d e b f g h i a j k l m a true G else guardK (decide (0≤a∧a<((b:Nat):Int))) (((G.ld d (e+Int.toNat a*1)).bind Cell.asB).bind fun o=>J13 M C d e b f g h i a j k l m a (!o) G) else J13 M C d e b f g h i a j k l m a false G) else some ([.c (.sl 1 f g h),.c (.int .i64 i)],G)):=(M.hs _ _ _ _ _ _ _).trans (by kernel_rfl)
theorem J13_eq (e f g a b c:Nat) (h d:Int) (i j k:Nat) (l m:Int) (n:Bool) (G:GH):J13 M C e f g a b c h d i j k l m n G=(bif n then guardK (decide (0≤d∧d<((c:Nat):Int))) ((G.sts a (b+Int.toNat d*1) [.bool false]).bind fun o=>J17 M C e f g a b c (IntKind.i64.wrap (h+1)) i j k l m o) else J17 M C e f g a b c h i j k l m G):=(M.hj _ _ _).trans (by kernel_rfl)
theorem J17_eq (a b c d e f:Nat) (g:Int) (h i j:Nat) (k l:Int) (G:GH):J17 M C a b c d e f g h i j k l G=(L21 M C a b c d e f g h i j k (IntKind.i64.wrap (l+1)) G):=(M.hj _ _ _).trans (by kernel_rfl)
def f (d e a h i j:Nat) (G:GH):Option Res:=(C F5.id [.c (.sl 1 d e a)] G).bind fun g=>(((g.1[0]?).bind V1.c?).bind (Cell.asS 1)).bind fun b=>L21 M C h i j b.1 b.2.1 b.2.2 0 d e a ((a:Nat):Int) 0 g.2
theorem eq (a b e g h i:Nat) (G:GH):runF M C d [.c (.sl 1 a b e),.c (.sl 1 g h i)] G=f M C a b e g h i G:=by kernel_rfl
end F48
namespace F33
def c7:DCode:=(.cond (.t 36) (.seq (.region [oP 0 37 (.ldL 2 54 (.agg [.int .i64,.sl 2,.sl 2])),
 oP 1 38 (.call 78 [.t 37] [.agg [.int .i64,.sl 2,.sl 2]]),
 ⟨2,none,.stL 4 55 (.t 38) 3,none⟩,
 oP 3 5 (.move (kI 0)),
 oP 4 6 (.move (kB false))]) .ret) .skip)
def c13:DCode:=(.seq (.region [oP 0 39 (.faddr 2 1),
 oP 1 40 (.ldL 39 54 (.agg [.sl 2])),
 mV 2 41 1,
 oP 3 42 (.faddr 2 0),
 oP 4 43 (.ldL 42 54 (.c (.int .i64))),
 oP 5 44 (.bin .quo .i64 (.t 41) (.t 43)),
 mV 6 45 8,
 oP 7 46 (.conv .u64 (.t 45)),
 oP 8 47 (.bin .shl .i64 (kI 1) (.t 46)),
 oP 9 48 (.call 79 [.t 40,.t 44,.t 47,.k (.c (.bool false))] [.agg [.sl 2]]),
 mV 10 49 7,
 oP 11 50 (.faddr 2 1),
 ⟨12,none,.stL 50 54 (.t 48) 1,none⟩,
 oP 13 51 (.faddr 2 2),
 ⟨14,none,.stL 51 54 (.t 49) 1,none⟩]) (.seq (.region [oP 0 52 (.ldL 2 54 (.agg [.int .i64,.sl 2,.sl 2])),
 mV 1 53 8,
 ⟨2,none,.stL 4 55 (.t 52) 3,none⟩,
 mV 3 5 53,
 oP 4 6 (.move (kB true))]) .ret))
def d:DFn:={ ntmps:=56,res:=[.box 4 (some 3),.t 5,.t 6],body:=(.seq (.region [oP 0 2 (.boxv 54 [11,21,31,32,39,42,50,51] (.t 0) 3),
 oP 1 4 (.boxz 55 [] [.int .i64 0,.sl 2 0 0 0,.sl 2 0 0 0]),
 oP 2 5 (.move (kI 0)),
 oP 3 6 (.move (kB false))]) (.seq (.region [oP 0 11 (.faddr 2 2),
 oP 1 12 (.ldL 11 54 (.c (.sl 2))),
 mV 2 13 1,
 oP 3 14 (.call 77 [.t 12,.t 13] [.c (.sl 2),.c (.int .i64),.c (.bool)]),
 mV 4 10 14,
 oP 5 15 (.ext 10 0),
 oP 6 16 (.ext 10 1),
 oP 7 17 (.ext 10 2),
 mV 8 7 15,
 mV 9 8 16,
 mV 10 9 17]) (.seq (.seq (.region [mV 0 18 9,
 oP 1 19 (.not (.t 18)),
 mV 2 20 19,
 ⟨3,some 21,.faddr 2 0,some (20,false)⟩,
 ⟨4,some 22,.ldL 21 54 (.c (.int .i64)),some (20,false)⟩,
 ⟨5,some 23,.cmp .lss .i64 (.t 22) (kI 1),some (20,false)⟩,
 oP 6 24 (.pick (.t 20) (kB true) (.t 23)),
 mV 7 25 24,
 ⟨8,some 26,.move (.t 8),some (25,false)⟩,
 ⟨9,some 27,.cmp .lss .i64 (.t 26) (kI 0),some (25,false)⟩,
 oP 10 28 (.pick (.t 25) (kB true) (.t 27)),
 mV 11 29 28,
 ⟨12,some 30,.move (.t 8),some (29,false)⟩,
 ⟨13,some 31,.faddr 2 1,some (29,false)⟩,
 ⟨14,some 32,.faddr 31 0,some (29,false)⟩,
 ⟨15,some 33,.ldL 32 54 (.c (.sl 2)),some (29,false)⟩,
 ⟨16,some 34,.len (.t 33),some (29,false)⟩,
 ⟨17,some 35,.cmp .geq .i64 (.t 30) (.t 34),some (29,false)⟩,
 oP 18 36 (.pick (.t 29) (kB true) (.t 35))]) (.cut [1,2,4,7,8,36,54,55] c7)) c13))) }
def k13:Kont:=execC M.j C (M.ag C) c13 ({ exits:=[],ret:=retK d }:Env) (retK d)
def J7 (a:Int) (b c e:Nat) (f:Int) (g:Bool) (h:Int) (i k l m n o:Nat) (p:Int) (q r s t v w:Nat) (G:GH):Option Res:=M.j (execC M.j C (M.ag C) c7 ({ exits:=[],ret:=retK d }:Env) (k13 M C)) (uS 1 (vI a::(.ref 54 0::(uS 1 (.ref 55 0::(uS 2 (vS 2 b c e::(vI f::(uS 27 (vB g::(uS 17 (.box [.int .i64 h,.sl 2 i k l,.sl 2 m n o]::(.box [.int .i64 p,.sl 2 q r s,.sl 2 t v w]::[]))))))))))))) G
theorem J7_eq (l:Int) (m n o:Nat) (e:Int) (p:Bool) (b:Int) (f g h q r s:Nat) (x:Int) (y z A B D E:Nat) (G:GH):J7 M C l m n o e p b f g h q r s x y z A B D E G=(bif p then (C F56.id [.agg [.int .i64 b,.sl 2 f g h,.sl 2 q r s]] G).bind fun t=>((t.1[0]?).bind V1.a?).bind fun d=>if d.length=3 then (((d[0]?).bind (Cell.asI .i64)).bind fun F=>((d[1]?).bind (Cell.asS 2)).bind fun i=>((d[2]?).bind (Cell.asS 2)).bind fun j=>some ([.agg [.int .i64 F,.sl 2 i.1 i.2.1 i.2.2,.sl 2 j.1 j.2.1 j.2.2],.c (.int .i64 0),.c (.bool false)],t.2)) else none else (binD .quo .i64 l b).bind fun H=>(binD .shl .i64 1 (IntKind.u64.wrap e)).bind fun I=>(C F67.id [.agg [.sl 2 f g h],.c (.int .i64 H),.c (.int .i64 I),.c (.bool false)] G).bind fun v=>((v.1[0]?).bind V1.a?).bind fun w=>if w.length=1 then (((w[0]?).bind (Cell.asS 2)).bind fun k=>some ([.agg [.int .i64 b,.sl 2 k.1 k.2.1 k.2.2,.sl 2 m n o],.c (.int .i64 e),.c (.bool true)],v.2)) else none):=(M.hj _ _ _).trans (by kernel_rfl)
def f (e:Int) (l m g h i j:Nat) (k:Int) (G:GH):Option Res:=(C F71.id [.c (.sl 2 h i j),.c (.int .i64 k)] G).bind fun b=>(((b.1[0]?).bind V1.c?).bind (Cell.asS 2)).bind fun a=>(((b.1[1]?).bind V1.c?).bind (Cell.asI .i64)).bind fun d=>(((b.1[2]?).bind V1.c?).bind Cell.asB).bind fun n=>bif (!n) then J7 M C k a.1 a.2.1 a.2.2 d true e l m g h i j 0 0 0 0 0 0 0 b.2 else bif decide (e<1) then J7 M C k a.1 a.2.1 a.2.2 d true e l m g h i j 0 0 0 0 0 0 0 b.2 else bif decide (d<0) then J7 M C k a.1 a.2.1 a.2.2 d true e l m g h i j 0 0 0 0 0 0 0 b.2 else J7 M C k a.1 a.2.1 a.2.2 d (decide (d≥((g:Nat):Int))) e l m g h i j 0 0 0 0 0 0 0 b.2
theorem eq (a:Int) (b e g h i j:Nat) (k:Int) (G:GH):runF M C d [.agg [.int .i64 a,.sl 2 b e g,.sl 2 h i j],.c (.int .i64 k)] G=f M C a b e g h i j k G:=by kernel_rfl
end F33
namespace F61
def c6:DCode:=(.cond (.t 29) (.seq (.region [oP 0 30 (.ldL 4 47 (.agg [.sl 2])),
 ⟨1,none,.stL 4 47 (.t 30) 1,none⟩]) .ret) .skip)
def c20:DCode:=(.seq (.region [oP 0 33 (.cmp .lss .i64 (.t 32) (.t 31))]) (.seq (.cond (.t 33) .skip (.exit 0)) (.seq (.block 1 (.seq (.region [mV 0 34 32,
 mV 1 5 34]) (.region [oP 0 35 (.faddr 4 0),
 oP 1 36 (.ldL 35 47 (.c (.sl 2))),
 mV 2 37 0,
 mV 3 38 5,
 oP 4 39 (.conv .u64 (.t 38)),
 oP 5 40 (.bin .shr .i64 (.t 37) (.t 39)),
 oP 6 41 (.call 59 [.t 40] [.agg [.int .i64,.sl 1]]),
 oP 7 42 (.bslice 1 2 [.int .i64 0,.sl 1 0 0 0] [(0,2,.t 41)]),
 oP 8 43 (.app (.t 36) (.t 42) 2 32),
 oP 9 44 (.faddr 4 0),
 ⟨10,none,.stL 44 47 (.t 43) 1,none⟩]))) (.region [oP 0 45 (.bin .add .i64 (.t 32) (kI 1)),
 mV 1 32 45]))))
def c26:DCode:=(.seq (.region [oP 0 46 (.ldL 4 47 (.agg [.sl 2])),
 ⟨1,none,.stL 4 47 (.t 46) 1,none⟩]) .ret)
def c27:DCode:=(.seq (.seq (.region [mV 0 31 1,
 oP 1 32 (.move (kI 0))]) (.block 0 (.loop [0,4,31,32,47] c20))) c26)
def d:DFn:={ ntmps:=48,res:=[.box 4 (some 1)],body:=(.seq (.region [oP 0 4 (.boxz 47 [35,44] [.sl 2 0 0 0])]) (.seq (.seq (.region [mV 0 6 1,
 oP 1 7 (.cmp .lss .i64 (.t 6) (kI 1)),
 mV 2 8 7,
 ⟨3,some 9,.move (.t 1),some (8,false)⟩,
 ⟨4,some 10,.cmp .gtr .i64 (.t 9) (kI 17),some (8,false)⟩,
 oP 5 11 (.pick (.t 8) (kB true) (.t 10)),
 mV 6 12 11,
 ⟨7,some 13,.move (.t 0),some (12,false)⟩,
 ⟨8,some 14,.cmp .lss .i64 (.t 13) (kI 1),some (12,false)⟩,
 oP 9 15 (.pick (.t 12) (kB true) (.t 14)),
 mV 10 16 15,
 ⟨11,some 17,.move (.t 0),some (16,false)⟩,
 ⟨12,some 18,.cmp .gtr .i64 (.t 17) (kI 65536),some (16,false)⟩,
 oP 13 19 (.pick (.t 16) (kB true) (.t 18)),
 mV 14 20 19,
 ⟨15,some 21,.move (.t 0),some (20,false)⟩,
 ⟨16,some 22,.move (.t 1),some (20,false)⟩,
 ⟨17,some 23,.bin .sub .i64 (.t 22) (kI 1),some (20,false)⟩,
 ⟨18,some 24,.conv .u64 (.t 23),some (20,false)⟩,
 ⟨19,some 25,.bin .shl .i64 (kI 1) (.t 24),some (20,false)⟩,
 ⟨20,some 26,.bin .sub .i64 (.t 25) (kI 1),some (20,false)⟩,
 ⟨21,some 27,.bin .and .i64 (.t 21) (.t 26),some (20,false)⟩,
 ⟨22,some 28,.cmp .neq .i64 (.t 27) (kI 0),some (20,false)⟩,
 oP 23 29 (.pick (.t 20) (kB true) (.t 28))]) (.cut [0,1,4,29,47] c6)) c27)) }
def k27:Kont:=execC M.j C (M.ag C) c27 ({ exits:=[],ret:=retK d }:Env) (retK d)
def J6 (a b:Int) (c:Bool) (e f g:Nat) (G:GH):Option Res:=M.j (execC M.j C (M.ag C) c6 ({ exits:=[],ret:=retK d }:Env) (k27 M C)) (vI a::(vI b::(uS 2 (.ref 47 0::(uS 24 (vB c::(uS 17 (.box [.sl 2 e f g]::[])))))))) G
def k26:Kont:=execC M.j C (M.ag C) c26 ({ exits:=[],ret:=retK d }:Env) (retK d)
def e22:Env:={ exits:=(0,(k26 M C))::(({ exits:=[],ret:=retK d }:Env)).exits,ret:=(({ exits:=[],ret:=retK d }:Env)).ret }
def L21 (a b c:Int) (d e f:Nat) (G:GH):Option Res:=M.ag C [0,4,31,32,47] c20 (e22 M C) (k26 M C) (vI a::(uS 3 (.ref 47 0::(uS 26 (vI b::(vI c::(uS 14 (.box [.sl 2 d e f]::[])))))))) G
theorem J6_eq (d e:Int) (f:Bool) (a b c:Nat) (G:GH):J6 M C d e f a b c G=(bif f then some ([.agg [.sl 2 a b c]],G) else L21 M C d e 0 a b c G):=(M.hj _ _ _).trans (by kernel_rfl)
theorem L21_eq (e f d:Int) (g h b:Nat) (G:GH):L21 M C e f d g h b G=(bif decide (d<f) then (binD .shr .i64 e (IntKind.u64.wrap d)).bind fun n=>(C F75.id [.c (.int .i64 n)] G).bind fun i=>((i.1[0]?).bind V1.a?).bind fun j=>if j.length=2 then (((j[0]?).bind (Cell.asI .i64)).bind fun o=>((j[1]?).bind (Cell.asS 1)).bind fun k=>let m:=i.2.alloc (.row [.int .i64 o,.sl 1 k.1 k.2.1 k.2.2] false);(if 1=0 then some [] else m.lds i.2.next 0 (1*2)).bind fun p=>guardK (decide (b+1≤most)) ((m.app g h b 2 1 p).bind fun l=>L21 M C e f (IntKind.i64.wrap (d+1)) l.1 l.2.1 (b+1) l.2.2)) else none else some ([.agg [.sl 2 g h b]],G)):=(M.hs _ _ _ _ _ _ _).trans (by kernel_rfl)
def f (a b:Int) (G:GH):Option Res:=bif decide (b<1) then J6 M C a b true 0 0 0 G else bif decide (b>17) then J6 M C a b true 0 0 0 G else bif decide (a<1) then J6 M C a b true 0 0 0 G else bif decide (a>65536) then J6 M C a b true 0 0 0 G else (binD .shl .i64 1 (IntKind.u64.wrap (IntKind.i64.wrap (b-1)))).bind fun c=>J6 M C a b (!decide (IntKind.i64.wrap (((BitVec.ofInt IntKind.i64.bits a) &&& (BitVec.ofInt IntKind.i64.bits (IntKind.i64.wrap (c-1)))).toNat:Int)=0)) 0 0 0 G
theorem eq (a b:Int) (G:GH):runF M C d [.c (.int .i64 a),.c (.int .i64 b)] G=f M C a b G:=by kernel_rfl
end F61
namespace F14
def c7:DCode:=(.cond (.t 24) (.seq (.region [oP 0 6 (.move (kI 0)),
 oP 1 7 (.move (kI 3))]) .ret) .skip)
def c14:DCode:=(.cond (.t 32) (.seq (.region [oP 0 6 (.move (kI 0)),
 oP 1 7 (.move (kI 4))]) .ret) .skip)
def c20:DCode:=(.seq (.region [mV 0 34 1,
 mV 1 35 2,
 oP 2 36 (.mx (.t 34) [.t 35]),
 oP 3 37 (.faddr 3 0),
 oP 4 38 (.ldL 37 44 (.c (.int .i64))),
 oP 5 39 (.mx (.t 36) [.t 38]),
 oP 6 40 (.call 34 [.t 39] [.c (.int .i64),.c (.bool)]),
 mV 7 33 40,
 oP 8 41 (.ext 33 0),
 oP 9 42 (.ext 33 1),
 mV 10 10 41,
 mV 11 11 42]) (.seq (.region [mV 0 43 10,
 mV 1 6 43,
 oP 2 7 (.move (kI 0))]) .ret))
def c21:DCode:=(.seq (.seq (.region [mV 0 25 1,
 oP 1 26 (.cmp .lss .i64 (.t 25) (kI 0)),
 mV 2 27 26,
 ⟨3,some 28,.move (.t 1),some (27,false)⟩,
 ⟨4,some 29,.faddr 3 1,some (27,false)⟩,
 ⟨5,some 30,.ldL 29 44 (.c (.int .i64)),some (27,false)⟩,
 ⟨6,some 31,.cmp .gtr .i64 (.t 28) (.t 30),some (27,false)⟩,
 oP 7 32 (.pick (.t 27) (kB true) (.t 31))]) (.cut [1,2,3,32,44] c14)) c20)
def d:DFn:={ ntmps:=45,res:=[.t 6,.t 7],body:=(.seq (.region [oP 0 3 (.boxv 44 [21,29,37] (.t 0) 8),
 oP 1 6 (.move (kI 0)),
 oP 2 7 (.move (kI 0))]) (.seq (.region [mV 0 13 2,
 oP 1 14 (.call 33 [.t 13] [.c (.int .i64),.c (.bool)]),
 mV 2 12 14,
 oP 3 15 (.ext 12 0),
 oP 4 16 (.ext 12 1),
 mV 5 8 15,
 mV 6 9 16]) (.seq (.seq (.region [mV 0 17 9,
 oP 1 18 (.not (.t 17)),
 mV 2 19 18,
 ⟨3,some 20,.move (.t 2),some (19,false)⟩,
 ⟨4,some 21,.faddr 3 1,some (19,false)⟩,
 ⟨5,some 22,.ldL 21 44 (.c (.int .i64)),some (19,false)⟩,
 ⟨6,some 23,.cmp .gtr .i64 (.t 20) (.t 22),some (19,false)⟩,
 oP 7 24 (.pick (.t 19) (kB true) (.t 23))]) (.cut [1,2,3,24,44] c7)) c21))) }
def k21:Kont:=execC M.j C (M.ag C) c21 ({ exits:=[],ret:=retK d }:Env) (retK d)
def J7 (a b:Int) (c:Bool) (e f g h i k l m:Int) (G:GH):Option Res:=M.j (execC M.j C (M.ag C) c7 ({ exits:=[],ret:=retK d }:Env) (k21 M C)) (uS 1 (vI a::(vI b::(.ref 44 0::(uS 20 (vB c::(uS 19 (.box [.int .i64 e,.int .i64 f,.int .i64 g,.int .i64 h,.int .i64 i,.int .i64 k,.int .i64 l,.int .i64 m]::[])))))))) G
def k20:Kont:=execC M.j C (M.ag C) c20 ({ exits:=[],ret:=retK d }:Env) (retK d)
def J14 (a b:Int) (c:Bool) (e f g h i k l m:Int) (G:GH):Option Res:=M.j (execC M.j C (M.ag C) c14 ({ exits:=[],ret:=retK d }:Env) (k20 M C)) (uS 1 (vI a::(vI b::(.ref 44 0::(uS 28 (vB c::(uS 11 (.box [.int .i64 e,.int .i64 f,.int .i64 g,.int .i64 h,.int .i64 i,.int .i64 k,.int .i64 l,.int .i64 m]::[])))))))) G
theorem J7_eq (a d:Int) (l:Bool) (e b f g h i j k:Int) (G:GH):J7 M C a d l e b f g h i j k G=(bif l then some ([.c (.int .i64 0),.c (.int .i64 3)],G) else bif decide (a<0) then J14 M C a d true e b f g h i j k G else J14 M C a d (decide (a>b)) e b f g h i j k G):=(M.hj _ _ _).trans (by kernel_rfl)
theorem J14_eq (b d:Int) (e:Bool) (f g h i j k l m:Int) (G:GH):J14 M C b d e f g h i j k l m G=(bif e then some ([.c (.int .i64 0),.c (.int .i64 4)],G) else (C F34.id [.c (.int .i64 (mx2 (mx2 b d) f))] G).bind fun a=>(((a.1[0]?).bind V1.c?).bind (Cell.asI .i64)).bind fun n=>(((a.1[1]?).bind V1.c?).bind Cell.asB).bind fun o=>some ([.c (.int .i64 n),.c (.int .i64 0)],a.2)):=(M.hj _ _ _).trans (by kernel_rfl)
def f (e d g h i j k l m a:Int) (G:GH):Option Res:=(C F30.id [.c (.int .i64 a)] G).bind fun b=>(((b.1[0]?).bind V1.c?).bind (Cell.asI .i64)).bind fun o=>(((b.1[1]?).bind V1.c?).bind Cell.asB).bind fun n=>bif (!n) then J7 M C m a true e d g h i j k l b.2 else J7 M C m a (decide (a>d)) e d g h i j k l b.2
theorem eq (a b e g h i j k l m:Int) (G:GH):runF M C d [.agg [.int .i64 a,.int .i64 b,.int .i64 e,.int .i64 g,.int .i64 h,.int .i64 i,.int .i64 j,.int .i64 k],.c (.int .i64 l),.c (.int .i64 m)] G=f M C a b e g h i j k l m G:=by kernel_rfl
end F14
namespace F66
def c14:DCode:=(.region [oP 0 37 (.ldL 4 43 (.agg [.int .i64,.sl 1])),
 mV 1 38 1,
 mV 2 39 8,
 oP 3 40 (.bin .quo .i64 (.t 39) (kI 64)),
 mV 4 41 10,
 oP 5 42 (.call 96 [.t 37,.t 38,.t 40,.t 41] [])])
def c19:DCode:=(.region [mV 0 15 8,
 oP 1 16 (.bin .add .i64 (.t 15) (kI 1)),
 mV 2 8 16])
def c21:DCode:=(.seq (.seq (.region [mV 0 12 8,
 mV 1 13 3,
 oP 2 14 (.cmp .leq .i64 (.t 12) (.t 13))]) (.cond (.t 14) .skip (.exit 0))) (.seq (.block 1 (.seq (.region [mV 0 17 8,
 oP 1 18 (.conv .u64 (.t 17)),
 oP 2 19 (.bin .rem .u64 (.t 18) (.k (.c (.int .u64 64)))),
 oP 3 20 (.bin .shl .u64 (.k (.c (.int .u64 1))) (.t 19)),
 mV 4 9 20]) (.seq (.region [oP 0 21 (.ldL 4 43 (.agg [.int .i64,.sl 1])),
 mV 1 22 1,
 mV 2 23 8,
 oP 3 24 (.bin .quo .i64 (.t 23) (kI 64)),
 oP 4 25 (.call 95 [.t 21,.t 22,.t 24] [.c (.int .u64)]),
 mV 5 26 9,
 oP 6 27 (.bin .andNot .u64 (.t 25) (.t 26)),
 mV 7 10 27]) (.seq (.seq (.region [oP 0 28 (.ldL 4 43 (.agg [.int .i64,.sl 1])),
 mV 1 29 1,
 oP 2 30 (.bin .sub .i64 (.t 29) (kI 1)),
 mV 3 31 8,
 oP 4 32 (.call 95 [.t 28,.t 30,.t 31] [.c (.int .u64)]),
 oP 5 33 (.cmp .eql .u64 (.t 32) (.k (.c (.int .u64 18446744073709551615))))]) (.cond (.t 33) (.region [mV 0 34 10,
 mV 1 35 9,
 oP 2 36 (.bin .or .u64 (.t 34) (.t 35)),
 mV 3 10 36]) .skip)) (.cut [1,3,4,8,10,43] c14))))) c19))
def c22:DCode:=(.loop [1,3,4,8,43] c21)
def d:DFn:={ ntmps:=44,res:=[],body:=(.seq (.region [oP 0 4 (.boxv 43 [] (.t 0) 2)]) (.seq (.region [mV 0 11 2,
 mV 1 8 11]) (.block 0 c22))) }
def e23 (M:Mach) (C:Call):Env:={ exits:=(0,(retK d))::(({ exits:=[],ret:=retK d }:Env)).exits,ret:=(({ exits:=[],ret:=retK d }:Env)).ret }
def L22 (a b c e:Int) (f g h:Nat) (G:GH):Option Res:=M.ag C [1,3,4,8,43] c21 (e23 M C) (retK d) (uS 1 (vI a::(uS 1 (vI b::(.ref 43 0::(uS 3 (vI c::(uS 34 (.box [.int .i64 e,.sl 1 f g h]::[]))))))))) G
def k22:Kont:=fun tm G=>M.ag C [1,3,4,8,43] c21 (e23 M C) (retK d) (restr [1,3,4,8,43] 0 tm) G
def k19:Kont:=execC M.j C (M.ag C) c19 (e23 M C) (k22 M C)
def e18:Env:={ exits:=(1,(k19 M C))::((e23 M C)).exits,ret:=((e23 M C)).ret }
def J14 (a b d e f:Int) (g h i:Nat) (G:GH):Option Res:=M.j (execC M.j C (M.ag C) c14 (e18 M C) (k19 M C)) (uS 1 (vI a::(uS 1 (vI b::(.ref 43 0::(uS 3 (vI d::(uS 1 (.v (.c (.int .u64 e))::(uS 32 (.box [.int .i64 f,.sl 1 g h i]::[]))))))))))) G
theorem L22_eq (b h a d:Int) (e f g:Nat) (G:GH):L22 M C b h a d e f g G=(bif decide (a≤h) then (binD .shl .u64 1 (Int.tmod (IntKind.u64.wrap a) 64)).bind fun i=>(C F88.id [.agg [.int .i64 d,.sl 1 e f g],.c (.int .i64 b),.c (.int .i64 (IntKind.i64.wrap (Int.tdiv a 64)))] G).bind fun k=>(((k.1[0]?).bind V1.c?).bind (Cell.asI .u64)).bind fun l=>(C F88.id [.agg [.int .i64 d,.sl 1 e f g],.c (.int .i64 (IntKind.i64.wrap (b-1))),.c (.int .i64 a)] k.2).bind fun j=>(((j.1[0]?).bind V1.c?).bind (Cell.asI .u64)).bind fun m=>bif decide (m=18446744073709551615) then J14 M C b h a (IntKind.u64.wrap (((BitVec.ofInt IntKind.u64.bits (IntKind.u64.wrap (((BitVec.ofInt IntKind.u64.bits l) &&& ~~~ (BitVec.ofInt IntKind.u64.bits i)).toNat:Int))) ||| (BitVec.ofInt IntKind.u64.bits i)).toNat:Int)) d e f g j.2 else J14 M C b h a (IntKind.u64.wrap (((BitVec.ofInt IntKind.u64.bits l) &&& ~~~ (BitVec.ofInt IntKind.u64.bits i)).toNat:Int)) d e f g j.2 else some ([],G)):=(M.hs _ _ _ _ _ _ _).trans (by kernel_rfl)
theorem J14_eq (a h b i d:Int) (e f g:Nat) (G:GH):J14 M C a h b i d e f g G=((C F77.id [.agg [.int .i64 d,.sl 1 e f g],.c (.int .i64 a),.c (.int .i64 (IntKind.i64.wrap (Int.tdiv b 64))),.c (.int .u64 i)] G).bind fun j=>L22 M C a h (IntKind.i64.wrap (b+1)) d e f g j.2):=(M.hj _ _ _).trans (by kernel_rfl)
def f (a:Int) (b c d:Nat) (e g h:Int) (G:GH):Option Res:=L22 M C e h g a b c d G
theorem eq (a:Int) (b e g:Nat) (h i j:Int) (G:GH):runF M C d [.agg [.int .i64 a,.sl 1 b e g],.c (.int .i64 h),.c (.int .i64 i),.c (.int .i64 j)] G=f M C a b e g h i j G:=by kernel_rfl
end F66
namespace F39
def c16:DCode:=(.seq (.seq (.region [mV 0 15 9,
 mV 1 16 10,
 oP 2 17 (.cmp .lss .i64 (.t 15) (.t 16))]) (.cond (.t 17) .skip (.exit 0))) (.block 1 (.seq (.region [mV 0 18 9,
 mV 1 19 10,
 oP 2 20 (.bin .add .i64 (.t 18) (.t 19)),
 oP 3 21 (.conv .u64 (.t 20)),
 oP 4 22 (.bin .shr .u64 (.t 21) (.k (.c (.int .u64 1)))),
 oP 5 23 (.conv .i64 (.t 22)),
 mV 6 11 23]) (.seq (.region [mV 0 24 2,
 mV 1 25 0,
 mV 2 26 11,
 oP 3 27 (.iaddr (.t 25) (.t 26) 2),
 oP 4 28 (.ldG 27 (.agg (iS 2))),
 mV 5 29 1,
 oP 6 30 (.callT (.t 24) [.t 28,.t 29] [.c (.int .i64)]),
 oP 7 31 (.cmp .lss .i64 (.t 30) (kI 0))]) (.cond (.t 31) (.region [mV 0 32 11,
 oP 1 33 (.bin .add .i64 (.t 32) (kI 1)),
 mV 2 9 33]) (.region [mV 0 34 11,
 mV 1 10 34]))))))
def c21:DCode:=(.seq (.region [mV 0 35 9,
 mV 1 36 9,
 mV 2 37 8,
 oP 3 38 (.cmp .lss .i64 (.t 36) (.t 37)),
 mV 4 39 38,
 ⟨5,some 40,.move (.t 2),some (39,true)⟩,
 ⟨6,some 41,.move (.t 0),some (39,true)⟩,
 ⟨7,some 42,.move (.t 9),some (39,true)⟩,
 ⟨8,some 43,.iaddr (.t 41) (.t 42) 2,some (39,true)⟩,
 ⟨9,some 44,.ldG 43 (.agg (iS 2)),some (39,true)⟩,
 ⟨10,some 45,.move (.t 1),some (39,true)⟩,
 ⟨11,some 46,.callT (.t 40) [.t 44,.t 45] [.c (.int .i64)],some (39,true)⟩,
 ⟨12,some 47,.cmp .eql .i64 (.t 46) (kI 0),some (39,true)⟩,
 oP 13 48 (.pick (.t 39) (.t 47) (kB false)),
 mV 14 6 35,
 mV 15 7 48]) .ret)
def d:DFn:={ ntmps:=49,res:=[.t 6,.t 7],body:=(.seq (.region [oP 0 6 (.move (kI 0)),
 oP 1 7 (.move (kB false))]) (.seq (.region [mV 0 12 0,
 oP 1 13 (.len (.t 12)),
 mV 2 8 13]) (.seq (.region [mV 0 14 8,
 oP 1 9 (.move (kI 0)),
 mV 2 10 14]) (.seq (.block 0 (.loop [0,1,2,8,9,10] c16)) c21)))) }
def k21:Kont:=execC M.j C (M.ag C) c21 ({ exits:=[],ret:=retK d }:Env) (retK d)
def e18:Env:={ exits:=(0,(k21 M C))::(({ exits:=[],ret:=retK d }:Env)).exits,ret:=(({ exits:=[],ret:=retK d }:Env)).ret }
def L17 (a b d:Nat) (e:Int) (f:Nat) (g h i:Int) (G:GH):Option Res:=M.ag C [0,1,2,8,9,10] c16 (e18 M C) (k21 M C) (vS 2 a b d::(vI e::(.v (.c (.fn f))::(uS 5 (vI g::(vI h::(vI i::(uS 38 [])))))))) G
theorem L17_eq (d e f:Nat) (g:Int) (h:Nat) (i a b:Int) (G:GH):L17 M C d e f g h i a b G=(bif decide (a<b) then guardK (decide (0≤IntKind.i64.wrap (Int.fdiv (IntKind.u64.wrap (IntKind.i64.wrap (a+b))) (2 ^ (min (1:Int).toNat IntKind.u64.bits)))∧IntKind.i64.wrap (Int.fdiv (IntKind.u64.wrap (IntKind.i64.wrap (a+b))) (2 ^ (min (1:Int).toNat IntKind.u64.bits)))<((f:Nat):Int))) (((G.ld d ((e+Int.toNat (IntKind.i64.wrap (Int.fdiv (IntKind.u64.wrap (IntKind.i64.wrap (a+b))) (2 ^ (min (1:Int).toNat IntKind.u64.bits))))*2)+0)).bind (Cell.asI .i64)).bind fun l=>((G.ld d ((e+Int.toNat (IntKind.i64.wrap (Int.fdiv (IntKind.u64.wrap (IntKind.i64.wrap (a+b))) (2 ^ (min (1:Int).toNat IntKind.u64.bits))))*2)+1)).bind (Cell.asI .i64)).bind fun m=>(C h [.agg [.int .i64 l,.int .i64 m],.c (.int .i64 g)] G).bind fun j=>chk (Nat.beq j.1.length 1) ((((j.1[0]?).bind V1.c?).bind (Cell.asI .i64)).bind fun n=>bif decide (n<0) then L17 M C d e f g h i (IntKind.i64.wrap ((IntKind.i64.wrap (Int.fdiv (IntKind.u64.wrap (IntKind.i64.wrap (a+b))) (2 ^ (min (1:Int).toNat IntKind.u64.bits))))+1)) b j.2 else L17 M C d e f g h i a (IntKind.i64.wrap (Int.fdiv (IntKind.u64.wrap (IntKind.i64.wrap (a+b))) (2 ^ (min (1:Int).toNat IntKind.u64.bits)))) j.2)) else bif decide (a<i) then guardK (decide (0≤a∧a<((f:Nat):Int))) (((G.ld d ((e+Int.toNat a*2)+0)).bind (Cell.asI .i64)).bind fun o=>((G.ld d ((e+Int.toNat a*2)+1)).bind (Cell.asI .i64)).bind fun p=>(C h [.agg [.int .i64 o,.int .i64 p],.c (.int .i64 g)] G).bind fun k=>chk (Nat.beq k.1.length 1) ((((k.1[0]?).bind V1.c?).bind (Cell.asI .i64)).bind fun q=>some ([.c (.int .i64 a),.c (.bool (decide (q=0)))],k.2))) else some ([.c (.int .i64 a),.c (.bool false)],G)):=(M.hs _ _ _ _ _ _ _).trans (by kernel_rfl)
def f (b c a:Nat) (d:Int) (e:Nat) (G:GH):Option Res:=L17 M C b c a d e ((a:Nat):Int) 0 ((a:Nat):Int) G
theorem eq (a b e:Nat) (g:Int) (h:Nat) (G:GH):runF M C d [.c (.sl 2 a b e),.c (.int .i64 g),.c (.fn h)] G=f M C a b e g h G:=by kernel_rfl
end F39
namespace F41
def d:DFn:={ ntmps:=18,res:=[.t 2],body:=(.seq (.region [oP 0 2 (.move (.k (.c (.str []))))]) (.seq (.seq (.region [mV 0 3 0]) (.block 0 (.seq (.region [oP 0 5 (.cmp .eql .i64 (.t 3) (kI 1)),
 mV 1 4 5]) (.cond (.t 4) (.seq (.region [oP 0 2 (.move (.k (.c (.str [83]))))]) .ret) (.seq (.region [oP 0 7 (.cmp .eql .i64 (.t 3) (kI 2)),
 mV 1 6 7]) (.cond (.t 6) (.seq (.region [oP 0 2 (.move (.k (.c (.str [78,83]))))]) .ret) (.seq (.region [oP 0 9 (.cmp .eql .i64 (.t 3) (kI 3)),
 mV 1 8 9]) (.cond (.t 8) (.seq (.region [oP 0 2 (.move (.k (.c (.str [83,65]))))]) .ret) (.seq (.region [oP 0 11 (.cmp .eql .i64 (.t 3) (kI 4)),
 mV 1 10 11]) (.cond (.t 10) (.seq (.region [oP 0 2 (.move (.k (.c (.str [80,83]))))]) .ret) (.seq (.seq (.region [oP 0 13 (.cmp .eql .i64 (.t 3) (kI 5)),
 mV 1 12 13]) (.cond (.t 12) .skip (.region [oP 0 14 (.cmp .eql .i64 (.t 3) (kI 6)),
 mV 1 12 14]))) (.cond (.t 12) (.seq (.region [oP 0 2 (.move (.k (.c (.str [80]))))]) .ret) (.seq (.seq (.region [oP 0 16 (.cmp .eql .i64 (.t 3) (kI 7)),
 mV 1 15 16]) (.cond (.t 15) .skip (.region [oP 0 17 (.cmp .eql .i64 (.t 3) (kI 8)),
 mV 1 15 17]))) (.cond (.t 15) (.seq (.region [oP 0 2 (.move (.k (.c (.str [80,78]))))]) .ret) .skip)))))))))))))) (.seq (.region [oP 0 2 (.move (.k (.c (.str []))))]) .ret))) }
end F41

end Go.Proofs.D
