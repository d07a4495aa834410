/- Texts of the proof (T0); no condition. -/
import Derived.Test.YtogdeblppihbnaaTopBytesa
import Derived.KernelRfl
set_option linter.unusedSimpArgs false
set_option linter.unusedVariables false
set_option linter.unusedVariables false
set_option maxRecDepth 100000
namespace Go.Proofs.D
open Go
variable (M:Mach) (C:Call)
namespace hodmantop_TopBytes
def c13:DCode:=(.cond (.t 32) (.seq (.region [oP 0 4 (.move (kB true))]) .ret) .skip)
def c22:DCode:=(.cond (.t 46) (.seq (.region [mV 0 47 6,
 oP 1 48 (.pnil false (.t 47)),
 mV 2 4 48]) .ret) .skip)
def c47:DCode:=(.cond (.t 86) (.region [mV 0 87 10,
 oP 1 88 (.faddr 14 1),
 oP 2 89 (.ldL 88 216 (.c (.int .i64))),
 oP 3 90 (.iaddr (.t 87) (.t 89) 1),
 oP 4 91 (.ldG 90 (.c (.int .i64))),
 oP 5 92 (.faddr 14 1),
 ⟨6,none,.stL 92 216 (.t 91) 1,none⟩]) .skip)
def c69:DCode:=(.cond (.t 138) .skip (.exit 3))
def c79:DCode:=(.region [mV 0 139 17,
 oP 1 140 (.bin .add .i64 (.t 139) (kI 1)),
 mV 2 17 140])
def c80:DCode:=(.seq (.block 4 (.seq (.region [mV 0 142 11,
 mV 1 143 15,
 oP 2 144 (.iaddr (.t 142) (.t 143) 1),
 oP 3 145 (.ldG 144 (.c (.map))),
 mV 4 146 17,
 oP 5 147 (.lkup (.c (.int .i64)) (.t 145) (.t 146) (.c (.int .u8 0)) (.c (.int .u8)) true),
 mV 6 141 147,
 oP 7 148 (.ext 141 0),
 oP 8 149 (.ext 141 1),
 mV 9 18 148,
 mV 10 19 149]) (.seq (.region [mV 0 150 19]) (.cond (.t 150) (.region [mV 0 151 11,
 mV 1 152 13,
 oP 2 153 (.iaddr (.t 151) (.t 152) 1),
 oP 3 154 (.ldG 153 (.c (.map))),
 mV 4 155 17,
 mV 5 156 18,
 ⟨6,none,.mupd (.c (.int .i64)) (.t 154) (.t 155) (.t 156),none⟩]) .skip)))) (.cut [6,8,9,10,11,12,13,14,15,17,215,216] c79))
def c81:DCode:=(.seq (.seq (.region [mV 0 123 17,
 mV 1 124 12,
 mV 2 125 13,
 oP 3 126 (.iaddr (.t 124) (.t 125) 1),
 oP 4 127 (.ldG 126 (.c (.int .i64))),
 mV 5 128 12,
 mV 6 129 15,
 oP 7 130 (.iaddr (.t 128) (.t 129) 1),
 oP 8 131 (.ldG 130 (.c (.int .i64))),
 oP 9 132 (.mn (.t 127) [.t 131]),
 oP 10 133 (.cmp .lss .i64 (.t 123) (.t 132)),
 mV 11 134 133,
 ⟨12,some 135,.faddr 14 0,some (134,true)⟩,
 ⟨13,some 136,.ldL 135 216 (.c (.int .i64)),some (134,true)⟩,
 ⟨14,some 137,.cmp .eql .i64 (.t 136) (kI 4),some (134,true)⟩,
 oP 15 138 (.pick (.t 134) (.t 137) (kB false))]) (.cut [6,8,9,10,11,12,13,14,15,17,138,215,216] c69)) c80)
def c82:DCode:=(.loop [6,8,9,10,11,12,13,14,15,17,215,216] c81)
def c98:DCode:=(.seq (.seq (.region [mV 0 172 20,
 mV 1 173 12,
 mV 2 174 13,
 oP 3 175 (.iaddr (.t 173) (.t 174) 1),
 oP 4 176 (.ldG 175 (.c (.int .i64))),
 oP 5 177 (.cmp .lss .i64 (.t 172) (.t 176))]) (.cond (.t 177) .skip (.exit 5))) (.seq (.block 6 (.region [mV 0 180 11,
 mV 1 181 13,
 oP 2 182 (.iaddr (.t 180) (.t 181) 1),
 oP 3 183 (.ldG 182 (.c (.map))),
 mV 4 184 20,
 ⟨5,none,.mupd (.c (.int .i64)) (.t 183) (.t 184) (.k (.c (.int .u8 0))),none⟩])) (.region [mV 0 178 20,
 oP 1 179 (.bin .add .i64 (.t 178) (kI 1)),
 mV 2 20 179])))
def c112:DCode:=(.cond (.t 213) (.seq (.region [oP 0 4 (.move (kB false))]) .ret) .skip)
def c122:DCode:=(.cond (.t 110) (.seq (.region [mV 0 114 12,
 mV 1 115 13,
 oP 2 116 (.ldL 8 215 (.agg (iS 8))),
 oP 3 117 (.faddr 14 2),
 oP 4 118 (.ldL 117 216 (.c (.int .i64))),
 oP 5 119 (.call 14 [.t 116,.t 118,.k (.c (.int .i64 1))] [.c (.int .i64),.c (.int .i64)]),
 mV 6 113 119,
 oP 7 120 (.ext 113 0),
 oP 8 121 (.ext 113 1),
 oP 9 122 (.iaddr (.t 114) (.t 115) 1),
 ⟨10,none,.stG 122 (.t 120) 1,none⟩]) (.seq (.region [oP 0 17 (.move (kI 0))]) (.block 3 c82))) (.seq (.region [oP 0 158 (.cmp .eql .i64 (.t 109) (kI 2)),
 mV 1 157 158]) (.cond (.t 157) (.seq (.region [mV 0 160 12,
 mV 1 161 13,
 oP 2 162 (.ldL 8 215 (.agg (iS 8))),
 oP 3 163 (.faddr 14 4),
 oP 4 164 (.ldL 163 216 (.c (.int .i64))),
 oP 5 165 (.faddr 14 2),
 oP 6 166 (.ldL 165 216 (.c (.int .i64))),
 oP 7 167 (.bin .mul .i64 (.t 164) (.t 166)),
 oP 8 168 (.call 14 [.t 162,.t 167,.k (.c (.int .i64 1))] [.c (.int .i64),.c (.int .i64)]),
 mV 9 159 168,
 oP 10 169 (.ext 159 0),
 oP 11 170 (.ext 159 1),
 oP 12 171 (.iaddr (.t 160) (.t 161) 1),
 ⟨13,none,.stG 171 (.t 169) 1,none⟩]) (.seq (.region [oP 0 20 (.move (kI 0))]) (.block 5 (.loop [6,8,9,10,11,12,13,20,215] c98)))) (.seq (.region [oP 0 186 (.cmp .eql .i64 (.t 109) (kI 8)),
 mV 1 185 186]) (.cond (.t 185) (.region [mV 0 187 11,
 mV 1 188 15,
 oP 2 189 (.iaddr (.t 187) (.t 188) 1),
 oP 3 190 (.ldG 189 (.c (.map))),
 oP 4 191 (.faddr 14 4),
 oP 5 192 (.ldL 191 216 (.c (.int .i64))),
 oP 6 193 (.faddr 14 5),
 oP 7 194 (.ldL 193 216 (.c (.int .u8))),
 ⟨8,none,.mupd (.c (.int .i64)) (.t 190) (.t 192) (.t 194),none⟩]) (.seq (.region [oP 0 196 (.cmp .eql .i64 (.t 109) (kI 7)),
 mV 1 195 196]) (.cond (.t 195) (.seq (.region [mV 0 198 11,
 mV 1 199 15,
 oP 2 200 (.iaddr (.t 198) (.t 199) 1),
 oP 3 201 (.ldG 200 (.c (.map))),
 oP 4 202 (.faddr 14 4),
 oP 5 203 (.ldL 202 216 (.c (.int .i64))),
 oP 6 204 (.lkup (.c (.int .i64)) (.t 201) (.t 203) (.c (.int .u8 0)) (.c (.int .u8)) true),
 mV 7 197 204,
 oP 8 205 (.ext 197 0),
 oP 9 206 (.ext 197 1),
 mV 10 21 205,
 mV 11 22 206]) (.seq (.region [mV 0 207 22,
 mV 1 208 207,
 ⟨2,some 209,.move (.t 21),some (208,true)⟩,
 ⟨3,some 210,.faddr 16 3,some (208,true)⟩,
 ⟨4,some 211,.ldL 210 217 (.c (.int .u8)),some (208,true)⟩,
 ⟨5,some 212,.cmp .neq .u8 (.t 209) (.t 211),some (208,true)⟩,
 oP 6 213 (.pick (.t 208) (.t 212) (kB false))]) (.cut [6,8,9,10,11,12,13,213,215] c112))) .skip)))))))
def c128:DCode:=(.seq (.region [mV 0 93 6,
 oP 1 94 (.ldL 14 216 (.agg [.int .i64,.int .i64,.int .i64,.int .i64,.int .i64,.int .u8])),
 oP 2 95 (.call 13 [.t 93,.t 94] [.agg sA]),
 oP 3 16 (.boxz 217 [96,103,210] zA),
 ⟨4,none,.stL 16 217 (.t 95) 8,none⟩]) (.seq (.seq (.region [oP 0 96 (.faddr 16 0),
 oP 1 97 (.ldL 96 217 (.c (.int .i64))),
 oP 2 98 (.cmp .neq .i64 (.t 97) (kI 0))]) (.cond (.t 98) (.seq (.region [oP 0 4 (.move (kB false))]) .ret) .skip)) (.seq (.region [mV 0 99 10,
 mV 1 100 13,
 mV 2 101 11,
 mV 3 102 13,
 oP 4 103 (.faddr 16 1),
 oP 5 104 (.ldL 103 217 (.c (.int .i64))),
 oP 6 105 (.mkmap (.c (.int .i64))),
 oP 7 106 (.iaddr (.t 99) (.t 100) 1),
 ⟨8,none,.stG 106 (.t 104) 1,none⟩,
 oP 9 107 (.iaddr (.t 101) (.t 102) 1),
 ⟨10,none,.stG 107 (.t 105) 1,none⟩]) (.seq (.region [oP 0 108 (.faddr 14 0),
 oP 1 109 (.ldL 108 216 (.c (.int .i64)))]) (.block 2 (.seq (.seq (.region [oP 0 111 (.cmp .eql .i64 (.t 109) (kI 1)),
 mV 1 110 111]) (.cond (.t 110) .skip (.region [oP 0 112 (.cmp .eql .i64 (.t 109) (kI 4)),
 mV 1 110 112]))) (.cut [6,8,9,10,11,12,13,14,15,16,109,110,215,216,217] c122)))))))
def c133:DCode:=(.region [mV 0 71 13,
 oP 1 72 (.bin .add .i64 (.t 71) (kI 1)),
 mV 2 13 72])
def c135:DCode:=(.seq (.seq (.region [mV 0 67 13,
 mV 1 68 9,
 oP 2 69 (.len (.t 68)),
 oP 3 70 (.cmp .lss .i64 (.t 67) (.t 69))]) (.cond (.t 70) .skip (.exit 0))) (.seq (.block 1 (.seq (.region [mV 0 73 9,
 mV 1 74 13,
 oP 2 75 (.iaddr (.t 73) (.t 74) 6),
 oP 3 76 (.ldG 75 (.agg [.int .i64,.int .i64,.int .i64,.int .i64,.int .i64,.int .u8])),
 oP 4 14 (.boxz 216 [77,79,83,88,92,108,117,135,163,165,191,193,202] [.int .i64 0,.int .i64 0,.int .i64 0,.int .i64 0,.int .i64 0,.int .u8 0]),
 ⟨5,none,.stL 14 216 (.t 76) 6,none⟩]) (.seq (.region [oP 0 77 (.faddr 14 1),
 oP 1 78 (.ldL 77 216 (.c (.int .i64))),
 mV 2 15 78]) (.seq (.seq (.region [oP 0 79 (.faddr 14 0),
 oP 1 80 (.ldL 79 216 (.c (.int .i64))),
 oP 2 81 (.cmp .geq .i64 (.t 80) (kI 4)),
 mV 3 82 81,
 ⟨4,some 83,.faddr 14 0,some (82,true)⟩,
 ⟨5,some 84,.ldL 83 216 (.c (.int .i64)),some (82,true)⟩,
 ⟨6,some 85,.cmp .leq .i64 (.t 84) (kI 8),some (82,true)⟩,
 oP 7 86 (.pick (.t 82) (.t 85) (kB false))]) (.cut [6,8,9,10,11,12,13,14,15,86,215,216] c47)) (.cut [6,8,9,10,11,12,13,14,15,215,216] c128))))) (.cut [6,8,9,10,11,12,13,215] c133)))
def c136:DCode:=(.loop [6,8,9,10,11,12,13,215] c135)
def c141:DCode:=(.seq (.region [oP 0 4 (.move (kB true))]) .ret)
def c148:DCode:=(.seq (.region [mV 0 49 6,
 oP 1 50 (.call 10 [.t 49] [.agg (iS 8)]),
 oP 2 8 (.boxz 215 [] (zI 8)),
 ⟨3,none,.stL 8 215 (.t 50) 8,none⟩]) (.seq (.region [oP 0 51 (.ldL 8 215 (.agg (iS 8))),
 mV 1 52 1,
 oP 2 53 (.call 11 [.t 51,.t 52,.k (.c (.int .i64 60))] [.c (.sl 6)]),
 mV 3 9 53]) (.seq (.seq (.region [oP 0 54 (.ldL 8 215 (.agg (iS 8))),
 mV 1 55 9,
 oP 2 56 (.call 12 [.t 54,.t 55] [.c (.bool)]),
 oP 3 57 (.not (.t 56))]) (.cond (.t 57) (.seq (.region [oP 0 4 (.move (kB true))]) .ret) .skip)) (.seq (.region [mV 0 58 9,
 oP 1 59 (.len (.t 58)),
 oP 2 60 (.mkslice (.t 59) 1 8 [.int .i64 0]),
 mV 3 10 60]) (.seq (.region [mV 0 61 9,
 oP 1 62 (.len (.t 61)),
 oP 2 63 (.mkslice (.t 62) 1 8 [.map 0]),
 mV 3 11 63]) (.seq (.region [mV 0 64 9,
 oP 1 65 (.len (.t 64)),
 oP 2 66 (.mkslice (.t 65) 1 8 [.int .i64 0]),
 mV 3 12 66]) (.seq (.seq (.region [oP 0 13 (.move (kI 0))]) (.block 0 c136)) c141)))))))
def c151:DCode:=(.seq (.region [mV 0 33 0,
 oP 1 34 (.call 7 [.t 33] [.c (.ptr)]),
 oP 2 35 (.call 8 [.t 34,.k (.c (.bool true))] [.agg (iS 6)]),
 oP 3 5 (.boxz 214 [] (zI 6)),
 ⟨4,none,.stL 5 214 (.t 35) 6,none⟩]) (.seq (.region [oP 0 37 (.ldL 5 214 (.agg (iS 6))),
 oP 1 38 (.call 9 [.t 37] [.c (.ptr),.c (.int .i64)]),
 mV 2 36 38,
 oP 3 39 (.ext 36 0),
 oP 4 40 (.ext 36 1),
 mV 5 6 39,
 mV 6 7 40]) (.seq (.seq (.region [mV 0 41 7,
 oP 1 42 (.cmp .neq .i64 (.t 41) (kI 0)),
 mV 2 43 42,
 ⟨3,some 44,.move (.t 6),some (43,false)⟩,
 ⟨4,some 45,.pnil false (.t 44),some (43,false)⟩,
 oP 5 46 (.pick (.t 43) (kB true) (.t 45))]) (.cut [1,6,46] c22)) c148)))
def d:DFn:={ ntmps:=218,res:=[.t 4],body:=(.seq (.region [oP 0 4 (.move (kB false))]) (.seq (.seq (.region [oP 0 23 (.call 6 [] [.c (.bool)]),
 oP 1 24 (.not (.t 23))]) (.cond (.t 24) (.seq (.region [oP 0 4 (.move (kB false))]) .ret) .skip)) (.seq (.seq (.region [mV 0 25 0,
 oP 1 26 (.len (.t 25)),
 oP 2 27 (.cmp .gtr .i64 (.t 26) (kI 6)),
 mV 3 28 27,
 ⟨4,some 29,.move (.t 1),some (28,false)⟩,
 ⟨5,some 30,.len (.t 29),some (28,false)⟩,
 ⟨6,some 31,.cmp .gtr .i64 (.t 30) (kI 200),some (28,false)⟩,
 oP 7 32 (.pick (.t 28) (kB true) (.t 31))]) (.cut [0,1,32] c13)) c151))) }
def k151:Kont:=execC M.j C (M.ag C) c151 ({ exits:=[],ret:=retK d }:Env) (retK d)
def J13 (a b c e f g:Nat) (h:Bool) (G:GH):Option Res:=M.j (execC M.j C (M.ag C) c13 ({ exits:=[],ret:=retK d }:Env) (k151 M C)) (vS 1 a b c::(vS 1 e f g::(uS 30 (vB h::(uS 185 []))))) G
def k148:Kont:=execC M.j C (M.ag C) c148 ({ exits:=[],ret:=retK d }:Env) (retK d)
def J22 (a b c e f:Nat) (g:Bool) (G:GH):Option Res:=M.j (execC M.j C (M.ag C) c22 ({ exits:=[],ret:=retK d }:Env) (k148 M C)) (uS 1 (vS 1 a b c::(uS 4 (vP e f::(uS 39 (vB g::(uS 171 []))))))) G
def k141:Kont:=execC M.j C (M.ag C) c141 ({ exits:=[],ret:=retK d }:Env) (retK d)
def e137:Env:={ exits:=(0,(k141 M C))::(({ exits:=[],ret:=retK d }:Env)).exits,ret:=(({ exits:=[],ret:=retK d }:Env)).ret }
def L136 (a b c d e f g h i j k l m n:Nat) (o p q r s t v w x:Int) (G:GH):Option Res:=M.ag C [6,8,9,10,11,12,13,215] c135 (e137 M C) (k141 M C) (uS 6 (vP a b::(uS 1 (.ref 215 0::(vS 6 c d e::(vS 1 f g h::(vS 1 i j k::(vS 1 l m n::(vI o::(uS 201 (.box [.int .i64 p,.int .i64 q,.int .i64 r,.int .i64 s,.int .i64 t,.int .i64 v,.int .i64 w,.int .i64 x]::(uS 2 [])))))))))))) G
def k136:Kont:=fun tm G=>M.ag C [6,8,9,10,11,12,13,215] c135 (e137 M C) (k141 M C) (restr [6,8,9,10,11,12,13,215] 0 tm) G
def k133:Kont:=execC M.j C (M.ag C) (.cut [6,8,9,10,11,12,13,215] c133) (e137 M C) (k136 M C)
def e132:Env:={ exits:=(1,(k133 M C))::((e137 M C)).exits,ret:=((e137 M C)).ret }
def k128:Kont:=execC M.j C (M.ag C) (.cut [6,8,9,10,11,12,13,14,15,215,216] c128) (e132 M C) (k133 M C)
def J47 (a b c d e f g h i k l m n o:Nat) (p q:Int) (r:Bool) (s t v w x y z A B D E F H I:Int) (G:GH):Option Res:=M.j (execC M.j C (M.ag C) c47 (e132 M C) (k128 M C)) (uS 6 (vP a b::(uS 1 (.ref 215 0::(vS 6 c d e::(vS 1 f g h::(vS 1 i k l::(vS 1 m n o::(vI p::(.ref 216 0::(vI q::(uS 70 (vB r::(uS 128 (.box [.int .i64 s,.int .i64 t,.int .i64 v,.int .i64 w,.int .i64 x,.int .i64 y,.int .i64 z,.int .i64 A]::(.box [.int .i64 B,.int .i64 D,.int .i64 E,.int .i64 F,.int .i64 H,.int .u8 I]::(uS 1 []))))))))))))))))) G
def J128 (a b c d e f g h i k l m n o:Nat) (p q r s t v w x y z A B D E F H:Int) (G:GH):Option Res:=M.j (execC M.j C (M.ag C) c128 (e132 M C) (k133 M C)) (uS 6 (vP a b::(uS 1 (.ref 215 0::(vS 6 c d e::(vS 1 f g h::(vS 1 i k l::(vS 1 m n o::(vI p::(.ref 216 0::(vI q::(uS 199 (.box [.int .i64 r,.int .i64 s,.int .i64 t,.int .i64 v,.int .i64 w,.int .i64 x,.int .i64 y,.int .i64 z]::(.box [.int .i64 A,.int .i64 B,.int .i64 D,.int .i64 E,.int .i64 F,.int .u8 H]::(uS 1 []))))))))))))))) G
def e124:Env:={ exits:=(2,(k133 M C))::((e132 M C)).exits,ret:=((e132 M C)).ret }
def J122 (a b c d e f g h i k l m n o:Nat) (p q r:Int) (s:Bool) (t v w x y z A B D E F H I J K L N O P Q R S:Int) (G:GH):Option Res:=M.j (execC M.j C (M.ag C) c122 (e124 M C) (k133 M C)) (uS 6 (vP a b::(uS 1 (.ref 215 0::(vS 6 c d e::(vS 1 f g h::(vS 1 i k l::(vS 1 m n o::(vI p::(.ref 216 0::(vI q::(.ref 217 0::(uS 92 (vI r::(vB s::(uS 104 (.box [.int .i64 t,.int .i64 v,.int .i64 w,.int .i64 x,.int .i64 y,.int .i64 z,.int .i64 A,.int .i64 B]::(.box [.int .i64 D,.int .i64 E,.int .i64 F,.int .i64 H,.int .i64 I,.int .u8 J]::(.box [.int .i64 K,.int .i64 L,.int .i64 N,.int .u8 O,.int .i64 P,.int .i64 Q,.int .i64 R,.int .i64 S]::[]))))))))))))))))))) G
def e83:Env:={ exits:=(3,(k133 M C))::((e124 M C)).exits,ret:=((e124 M C)).ret }
def L82 (a b c d e f g h i j k l m n:Nat) (o p q r s t v w x y z A B D E F H:Int) (G:GH):Option Res:=M.ag C [6,8,9,10,11,12,13,14,15,17,215,216] c81 (e83 M C) (k133 M C) (uS 6 (vP a b::(uS 1 (.ref 215 0::(vS 6 c d e::(vS 1 f g h::(vS 1 i j k::(vS 1 l m n::(vI o::(.ref 216 0::(vI p::(uS 1 (vI q::(uS 197 (.box [.int .i64 r,.int .i64 s,.int .i64 t,.int .i64 v,.int .i64 w,.int .i64 x,.int .i64 y,.int .i64 z]::(.box [.int .i64 A,.int .i64 B,.int .i64 D,.int .i64 E,.int .i64 F,.int .u8 H]::(uS 1 []))))))))))))))))) G
def e100:Env:={ exits:=(5,(k133 M C))::((e124 M C)).exits,ret:=((e124 M C)).ret }
def L99 (a b c d e f g h i j k l m n:Nat) (o p q r s t v w x y:Int) (G:GH):Option Res:=M.ag C [6,8,9,10,11,12,13,20,215] c98 (e100 M C) (k133 M C) (uS 6 (vP a b::(uS 1 (.ref 215 0::(vS 6 c d e::(vS 1 f g h::(vS 1 i j k::(vS 1 l m n::(vI o::(uS 6 (vI p::(uS 194 (.box [.int .i64 q,.int .i64 r,.int .i64 s,.int .i64 t,.int .i64 v,.int .i64 w,.int .i64 x,.int .i64 y]::(uS 2 [])))))))))))))) G
def J133 (a b c d e f g h i k l m n o:Nat) (p q r s t v w x y:Int) (G:GH):Option Res:=M.j (execC M.j C (M.ag C) c133 (e137 M C) (k136 M C)) (uS 6 (vP a b::(uS 1 (.ref 215 0::(vS 6 c d e::(vS 1 f g h::(vS 1 i k l::(vS 1 m n o::(vI p::(uS 201 (.box [.int .i64 q,.int .i64 r,.int .i64 s,.int .i64 t,.int .i64 v,.int .i64 w,.int .i64 x,.int .i64 y]::(uS 2 [])))))))))))) G
def J112 (a b c d e f g h i k l m n o:Nat) (p:Int) (q:Bool) (r s t v w x y z:Int) (G:GH):Option Res:=M.j (execC M.j C (M.ag C) c112 (e124 M C) (k133 M C)) (uS 6 (vP a b::(uS 1 (.ref 215 0::(vS 6 c d e::(vS 1 f g h::(vS 1 i k l::(vS 1 m n o::(vI p::(uS 199 (vB q::(uS 1 (.box [.int .i64 r,.int .i64 s,.int .i64 t,.int .i64 v,.int .i64 w,.int .i64 x,.int .i64 y,.int .i64 z]::(uS 2 [])))))))))))))) G
def k82:Kont:=fun tm G=>M.ag C [6,8,9,10,11,12,13,14,15,17,215,216] c81 (e83 M C) (k133 M C) (restr [6,8,9,10,11,12,13,14,15,17,215,216] 0 tm) G
def k80:Kont:=execC M.j C (M.ag C) c80 (e83 M C) (k82 M C)
def J69 (a b c d e f g h i k l m n o:Nat) (p q r:Int) (s:Bool) (t v w x y z A B D E F H I J:Int) (G:GH):Option Res:=M.j (execC M.j C (M.ag C) c69 (e83 M C) (k80 M C)) (uS 6 (vP a b::(uS 1 (.ref 215 0::(vS 6 c d e::(vS 1 f g h::(vS 1 i k l::(vS 1 m n o::(vI p::(.ref 216 0::(vI q::(uS 1 (vI r::(uS 120 (vB s::(uS 76 (.box [.int .i64 t,.int .i64 v,.int .i64 w,.int .i64 x,.int .i64 y,.int .i64 z,.int .i64 A,.int .i64 B]::(.box [.int .i64 D,.int .i64 E,.int .i64 F,.int .i64 H,.int .i64 I,.int .u8 J]::(uS 1 []))))))))))))))))))) G
def J79 (a b c d e f g h i k l m n o:Nat) (p q r s t v w x y z A B D E F H I:Int) (G:GH):Option Res:=M.j (execC M.j C (M.ag C) c79 (e83 M C) (k82 M C)) (uS 6 (vP a b::(uS 1 (.ref 215 0::(vS 6 c d e::(vS 1 f g h::(vS 1 i k l::(vS 1 m n o::(vI p::(.ref 216 0::(vI q::(uS 1 (vI r::(uS 197 (.box [.int .i64 s,.int .i64 t,.int .i64 v,.int .i64 w,.int .i64 x,.int .i64 y,.int .i64 z,.int .i64 A]::(.box [.int .i64 B,.int .i64 D,.int .i64 E,.int .i64 F,.int .i64 H,.int .u8 I]::(uS 1 []))))))))))))))))) G
theorem J13_eq (i j k f g h:Nat) (l:Bool) (G:GH):J13 M C i j k f g h l G=(bif l then some ([.c (.bool true)],G) else (C F21.id [.c (.sl 1 i j k)] G).bind fun m=>(((m.1[0]?).bind V1.c?).bind Cell.asP).bind fun n=>(C F9.id [.c (.ptr n.1 n.2),.c (.bool true)] m.2).bind fun o=>((o.1[0]?).bind V1.a?).bind fun b=>if b.length=6 then (((b[0]?).bind (Cell.asI .i64)).bind fun p=>((b[1]?).bind (Cell.asI .i64)).bind fun q=>((b[2]?).bind (Cell.asI .i64)).bind fun r=>((b[3]?).bind (Cell.asI .i64)).bind fun s=>((b[4]?).bind (Cell.asI .i64)).bind fun t=>((b[5]?).bind (Cell.asI .i64)).bind fun v=>(C F76.id [.agg [.int .i64 p,.int .i64 q,.int .i64 r,.int .i64 s,.int .i64 t,.int .i64 v]] o.2).bind fun e=>(((e.1[0]?).bind V1.c?).bind Cell.asP).bind fun d=>(((e.1[1]?).bind V1.c?).bind (Cell.asI .i64)).bind fun w=>bif (!decide (w=0)) then J22 M C f g h d.1 d.2 true e.2 else J22 M C f g h d.1 d.2 (Bool.xor false (Nat.beq d.1 0)) e.2) else none):=(M.hj _ _ _).trans (by kernel_rfl)
theorem J22_eq (p q r e g:Nat) (s:Bool) (G:GH):J22 M C p q r e g s G=(bif s then some ([.c (.bool (Bool.xor false (Nat.beq e 0)))],G) else (C F28.id [.c (.ptr e g)] G).bind fun t=>((t.1[0]?).bind V1.a?).bind fun d=>if d.length=8 then (((d[0]?).bind (Cell.asI .i64)).bind fun h=>((d[1]?).bind (Cell.asI .i64)).bind fun i=>((d[2]?).bind (Cell.asI .i64)).bind fun j=>((d[3]?).bind (Cell.asI .i64)).bind fun k=>((d[4]?).bind (Cell.asI .i64)).bind fun l=>((d[5]?).bind (Cell.asI .i64)).bind fun m=>((d[6]?).bind (Cell.asI .i64)).bind fun n=>((d[7]?).bind (Cell.asI .i64)).bind fun o=>(C F10.id [.agg [.int .i64 h,.int .i64 i,.int .i64 j,.int .i64 k,.int .i64 l,.int .i64 m,.int .i64 n,.int .i64 o],.c (.sl 1 p q r),.c (.int .i64 60)] t.2).bind fun v=>(((v.1[0]?).bind V1.c?).bind (Cell.asS 6)).bind fun b=>(C F16.id [.agg [.int .i64 h,.int .i64 i,.int .i64 j,.int .i64 k,.int .i64 l,.int .i64 m,.int .i64 n,.int .i64 o],.c (.sl 6 b.1 b.2.1 b.2.2)] v.2).bind fun f=>(((f.1[0]?).bind V1.c?).bind Cell.asB).bind fun y=>bif (!y) then some ([.c (.bool true)],f.2) else guardK (decide (0≤((b.2.2:Nat):Int)∧((b.2.2:Nat):Int)≤(most:Int))) (let w:=f.2.alloc (.row (reps (Int.toNat ((b.2.2:Nat):Int)) [.int .i64 0]) false);guardK (decide (0≤((b.2.2:Nat):Int)∧((b.2.2:Nat):Int)≤(most:Int))) (let x:=w.alloc (.row (reps (Int.toNat ((b.2.2:Nat):Int)) [.map 0]) false);guardK (decide (0≤((b.2.2:Nat):Int)∧((b.2.2:Nat):Int)≤(most:Int))) (let z:=x.alloc (.row (reps (Int.toNat ((b.2.2:Nat):Int)) [.int .i64 0]) false);L136 M C e g b.1 b.2.1 b.2.2 f.2.next 0 (Int.toNat ((b.2.2:Nat):Int)) w.next 0 (Int.toNat ((b.2.2:Nat):Int)) x.next 0 (Int.toNat ((b.2.2:Nat):Int)) 0 h i j k l m n o z)))) else none):=(M.hj _ _ _).trans (by kernel_rfl)
theorem L136_eq (h i b d e j k l m n o p q r:Nat) (a s t v w x y z A:Int) (G:GH):L136 M C h i b d e j k l m n o p q r a s t v w x y z A G=(bif decide (a<((e:Nat):Int)) then guardK (decide (0≤a∧a<((e:Nat):Int))) (((G.ld b ((d+Int.toNat a*6)+0)).bind (Cell.asI .i64)).bind fun f=>((G.ld b ((d+Int.toNat a*6)+1)).bind (Cell.asI .i64)).bind fun g=>((G.ld b ((d+Int.toNat a*6)+2)).bind (Cell.asI .i64)).bind fun B=>((G.ld b ((d+Int.toNat a*6)+3)).bind (Cell.asI .i64)).bind fun D=>((G.ld b ((d+Int.toNat a*6)+4)).bind (Cell.asI .i64)).bind fun E=>((G.ld b ((d+Int.toNat a*6)+5)).bind (Cell.asI .u8)).bind fun F=>bif decide (f≥4) then J47 M C h i b d e j k l m n o p q r a g (decide (f≤8)) s t v w x y z A f g B D E F G else J47 M C h i b d e j k l m n o p q r a g false s t v w x y z A f g B D E F G) else some ([.c (.bool true)],G)):=(M.hs _ _ _ _ _ _ _).trans (by kernel_rfl)
theorem J47_eq (e f g h i b c d j k l m n o:Nat) (p q:Int) (H:Bool) (r s t v w x y z A a B D E F:Int) (G:GH):J47 M C e f g h i b c d j k l m n o p q H r s t v w x y z A a B D E F G=(bif H then guardK (decide (0≤a∧a<((d:Nat):Int))) (((G.ld b (c+Int.toNat a*1)).bind (Cell.asI .i64)).bind fun I=>J128 M C e f g h i b c d j k l m n o p q r s t v w x y z A I B D E F G) else J128 M C e f g h i b c d j k l m n o p q r s t v w x y z A a B D E F G):=(M.hj _ _ _).trans (by kernel_rfl)
theorem J128_eq (f g t v w h i j k l m x y z:Nat) (b A B D E F H I J K d n o p q r:Int) (G:GH):J128 M C f g t v w h i j k l m x y z b A B D E F H I J K d n o p q r G=((C F40.id [.c (.ptr f g),.agg [.int .i64 d,.int .i64 n,.int .i64 o,.int .i64 p,.int .i64 q,.int .u8 r]] G).bind fun s=>((s.1[0]?).bind V1.a?).bind fun e=>if e.length=8 then (((e[0]?).bind (Cell.asI .i64)).bind fun L=>((e[1]?).bind (Cell.asI .i64)).bind fun N=>((e[2]?).bind (Cell.asI .i64)).bind fun O=>((e[3]?).bind (Cell.asI .u8)).bind fun P=>((e[4]?).bind (Cell.asI .i64)).bind fun Q=>((e[5]?).bind (Cell.asI .i64)).bind fun R=>((e[6]?).bind (Cell.asI .i64)).bind fun S=>((e[7]?).bind (Cell.asI .i64)).bind fun T=>bif (!decide (L=0)) then some ([.c (.bool false)],s.2) else let V:=s.2.alloc (.map (.c (.int .i64)) []);guardK (decide (0≤b∧b<((j:Nat):Int))) ((V.sts h (i+Int.toNat b*1) [.int .i64 N]).bind fun W=>guardK (decide (0≤b∧b<((m:Nat):Int))) ((W.sts k (l+Int.toNat b*1) [.map s.2.next]).bind fun U=>bif decide (d=1) then J122 M C f g t v w h i j k l m x y z b A d (decide (d=1)) B D E F H I J K d n o p q r L N O P Q R S T U else J122 M C f g t v w h i j k l m x y z b A d (decide (d=4)) B D E F H I J K d n o p q r L N O P Q R S T U))) else none):=(M.hj _ _ _).trans (by kernel_rfl)
theorem J122_eq (r s t v w x y z b d e f g h:Nat) (a q B:Int) (I:Bool) (i j k l m n o p J K D L A E Q R S N T U V W:Int) (G:GH):J122 M C r s t v w x y z b d e f g h a q B I i j k l m n o p J K D L A E Q R S N T U V W G=(bif I then (C F14.id [.agg [.int .i64 i,.int .i64 j,.int .i64 k,.int .i64 l,.int .i64 m,.int .i64 n,.int .i64 o,.int .i64 p],.c (.int .i64 D),.c (.int .i64 1)] G).bind fun F=>(((F.1[0]?).bind V1.c?).bind (Cell.asI .i64)).bind fun X=>(((F.1[1]?).bind V1.c?).bind (Cell.asI .i64)).bind fun a5=>guardK (decide (0≤a∧a<((h:Nat):Int))) ((F.2.sts f (g+Int.toNat a*1) [.int .i64 X]).bind fun Y=>L82 M C r s t v w x y z b d e f g h a q 0 i j k l m n o p J K D L A E Y) else bif decide (B=2) then (C F14.id [.agg [.int .i64 i,.int .i64 j,.int .i64 k,.int .i64 l,.int .i64 m,.int .i64 n,.int .i64 o,.int .i64 p],.c (.int .i64 (IntKind.i64.wrap (A*D))),.c (.int .i64 1)] G).bind fun H=>(((H.1[0]?).bind V1.c?).bind (Cell.asI .i64)).bind fun Z=>(((H.1[1]?).bind V1.c?).bind (Cell.asI .i64)).bind fun a6=>guardK (decide (0≤a∧a<((h:Nat):Int))) ((H.2.sts f (g+Int.toNat a*1) [.int .i64 Z]).bind fun a0=>L99 M C r s t v w x y z b d e f g h a 0 i j k l m n o p a0) else bif decide (B=8) then guardK (decide (0≤q∧q<((e:Nat):Int))) (((G.ld b (d+Int.toNat q*1)).bind Cell.asM).bind fun O=>(G.ents (.c (.int .i64)) O).bind fun a1=>let a2:=G.set O (some (.map (.c (.int .i64)) (mapPut a1 (.c (.int .i64 A)) (.c (.int .u8 E)))));J133 M C r s t v w x y z b d e f g h a i j k l m n o p a2) else bif decide (B=7) then guardK (decide (0≤q∧q<((e:Nat):Int))) (((G.ld b (d+Int.toNat q*1)).bind Cell.asM).bind fun a3=>(G.ents0 (.c (.int .i64)) a3).bind fun P=>((((some ((mapGet P (.c (.int .i64 A))).getD (.c (.int .u8 0))))).bind V1.c?).bind (Cell.asI .u8)).bind fun a4=>bif (mapGet P (.c (.int .i64 A))).isSome then J112 M C r s t v w x y z b d e f g h a (!decide (a4=N)) i j k l m n o p G else J112 M C r s t v w x y z b d e f g h a false i j k l m n o p G) else J133 M C r s t v w x y z b d e f g h a i j k l m n o p G):=(M.hj _ _ _).trans (by kernel_rfl)
theorem L82_eq (h i j k l m n o p q r c d e:Nat) (a b f s t v w x y z A g B D E F H:Int) (G:GH):L82 M C h i j k l m n o p q r c d e a b f s t v w x y z A g B D E F H G=(guardK (decide (0≤a∧a<((e:Nat):Int))) (((G.ld c (d+Int.toNat a*1)).bind (Cell.asI .i64)).bind fun I=>guardK (decide (0≤b∧b<((e:Nat):Int))) (((G.ld c (d+Int.toNat b*1)).bind (Cell.asI .i64)).bind fun J=>bif decide (f<mn2 I J) then J69 M C h i j k l m n o p q r c d e a b f (decide (g=4)) s t v w x y z A g B D E F H G else J69 M C h i j k l m n o p q r c d e a b f false s t v w x y z A g B D E F H G))):=(M.hs _ _ _ _ _ _ _).trans (by kernel_rfl)
theorem L99_eq (j k l m n o p q b d e f g h:Nat) (a i r s t v w x y z:Int) (G:GH):L99 M C j k l m n o p q b d e f g h a i r s t v w x y z G=(guardK (decide (0≤a∧a<((h:Nat):Int))) (((G.ld f (g+Int.toNat a*1)).bind (Cell.asI .i64)).bind fun B=>bif decide (i<B) then guardK (decide (0≤a∧a<((e:Nat):Int))) (((G.ld b (d+Int.toNat a*1)).bind Cell.asM).bind fun A=>(G.ents (.c (.int .i64)) A).bind fun D=>let E:=G.set A (some (.map (.c (.int .i64)) (mapPut D (.c (.int .i64 i)) (.c (.int .u8 0)))));L99 M C j k l m n o p q b d e f g h a (IntKind.i64.wrap (i+1)) r s t v w x y z E) else J133 M C j k l m n o p q b d e f g h a r s t v w x y z G)):=(M.hs _ _ _ _ _ _ _).trans (by kernel_rfl)
theorem J133_eq (a b c d e f g h i j k l m n:Nat) (o p q r s t v w x:Int) (G:GH):J133 M C a b c d e f g h i j k l m n o p q r s t v w x G=(L136 M C a b c d e f g h i j k l m n (IntKind.i64.wrap (o+1)) p q r s t v w x G):=(M.hj _ _ _).trans (by kernel_rfl)
theorem J112_eq (a b d e f g h i j k l m n o:Nat) (p:Int) (q:Bool) (r s t v w x y z:Int) (G:GH):J112 M C a b d e f g h i j k l m n o p q r s t v w x y z G=(bif q then some ([.c (.bool false)],G) else J133 M C a b d e f g h i j k l m n o p r s t v w x y z G):=(M.hj _ _ _).trans (by kernel_rfl)
theorem J69_eq (h i j k l m n o b d e p q r:Nat) (a f g:Int) (J:Bool) (s t v w x y z A B D E F H I:Int) (G:GH):J69 M C h i j k l m n o b d e p q r a f g J s t v w x y z A B D E F H I G=(bif J then guardK (decide (0≤f∧f<((e:Nat):Int))) (((G.ld b (d+Int.toNat f*1)).bind Cell.asM).bind fun N=>(G.ents0 (.c (.int .i64)) N).bind fun K=>((((some ((mapGet K (.c (.int .i64 g))).getD (.c (.int .u8 0))))).bind V1.c?).bind (Cell.asI .u8)).bind fun O=>bif (mapGet K (.c (.int .i64 g))).isSome then guardK (decide (0≤a∧a<((e:Nat):Int))) (((G.ld b (d+Int.toNat a*1)).bind Cell.asM).bind fun L=>(G.ents (.c (.int .i64)) L).bind fun P=>let Q:=G.set L (some (.map (.c (.int .i64)) (mapPut P (.c (.int .i64 g)) (.c (.int .u8 O)))));J79 M C h i j k l m n o b d e p q r a f g s t v w x y z A B D E F H I Q) else J79 M C h i j k l m n o b d e p q r a f g s t v w x y z A B D E F H I G) else J133 M C h i j k l m n o b d e p q r a s t v w x y z A G):=(M.hj _ _ _).trans (by kernel_rfl)
theorem J79_eq (a b c d e f g h i j k l m n:Nat) (o p q r s t v w x y z A B D E F H:Int) (G:GH):J79 M C a b c d e f g h i j k l m n o p q r s t v w x y z A B D E F H G=(L82 M C a b c d e f g h i j k l m n o p (IntKind.i64.wrap (q+1)) r s t v w x y z A B D E F H G):=(M.hj _ _ _).trans (by kernel_rfl)
def f (e g b h i d:Nat) (G:GH):Option Res:=(C F20.id [] G).bind fun a=>(((a.1[0]?).bind V1.c?).bind Cell.asB).bind fun j=>bif (!j) then some ([.c (.bool false)],a.2) else bif decide (((b:Nat):Int)>6) then J13 M C e g b h i d true a.2 else J13 M C e g b h i d (decide (((d:Nat):Int)>200)) a.2
theorem eq (a b e g h i:Nat) (G:GH):runF M C d [.c (.sl 1 a b e),.c (.sl 1 g h i)] G=f M C a b e g h i G:=by kernel_rfl
end hodmantop_TopBytes
namespace F10
def c10:DCode:=(.cond (.t 30) .skip (.exit 0))
def c24:DCode:=(.cond (.t 64) (.region [oP 0 16 (.move (kI 15))]) .skip)
def c74:DCode:=(.region [mV 0 162 19,
 oP 1 163 (.bin .add .i64 (.t 162) (kI 1)),
 mV 2 19 163])
def c76:DCode:=(.seq (.seq (.region [mV 0 158 19,
 mV 1 159 9,
 oP 2 160 (.len (.t 159)),
 oP 3 161 (.cmp .lss .i64 (.t 158) (.t 160))]) (.cond (.t 161) .skip (.exit 3))) (.seq (.block 4 (.seq (.region [mV 0 164 9,
 mV 1 165 19,
 oP 2 166 (.iaddr (.t 164) (.t 165) 1),
 oP 3 167 (.ldG 166 (.c (.int .i64))),
 mV 4 168 14,
 oP 5 169 (.cmp .neq .i64 (.t 167) (.t 168))]) (.cond (.t 169) (.region [mV 0 170 18,
 mV 1 171 9,
 mV 2 172 19,
 oP 3 173 (.iaddr (.t 171) (.t 172) 1),
 oP 4 174 (.ldG 173 (.c (.int .i64))),
 oP 5 175 (.bslice 1 1 [.int .i64 0] [(0,1,.t 174)]),
 oP 6 176 (.app (.t 170) (.t 175) 1 8),
 mV 7 18 176]) .skip))) (.cut [2,3,7,8,9,10,11,12,13,14,17,18,19,202,203] c74)))
def c77:DCode:=(.loop [2,3,7,8,9,10,11,12,13,14,17,18,19,202,203] c76)
def c80:DCode:=(.region [mV 0 177 18,
 mV 1 9 177])
def c85:DCode:=(.cond (.t 152) (.seq (.region [mV 0 153 11,
 mV 1 154 10,
 mV 2 155 14,
 oP 3 156 (.lkup (.c (.int .i64)) (.t 154) (.t 155) (.c (.int .i64 0)) (.c (.int .i64)) false),
 oP 4 157 (.bin .sub .i64 (.t 153) (.t 156)),
 mV 5 11 157]) (.seq (.region [oP 0 18 (.move (.k (.c (.sl 1 0 0 0))))]) (.seq (.seq (.region [oP 0 19 (.move (kI 0))]) (.block 3 c77)) c80))) .skip)
def c92:DCode:=(.cond (.t 190) (.seq (.region [mV 0 191 9,
 mV 1 192 12,
 oP 2 193 (.bslice 1 1 [.int .i64 0] [(0,1,.t 192)]),
 oP 3 194 (.app (.t 191) (.t 193) 1 8),
 mV 4 195 11,
 mV 5 196 17,
 oP 6 197 (.bin .add .i64 (.t 195) (.t 196)),
 mV 7 9 194,
 mV 8 11 197]) (.region [mV 0 198 10,
 mV 1 199 12,
 mV 2 200 17,
 ⟨3,none,.mupd (.c (.int .i64)) (.t 198) (.t 199) (.t 200),none⟩])) .skip)
def c93:DCode:=(.seq (.region [oP 0 178 (.faddr 13 0),
 oP 1 179 (.ldL 178 203 (.c (.int .i64))),
 oP 2 180 (.cmp .eql .i64 (.t 179) (kI 1)),
 mV 3 181 180,
 ⟨4,some 182,.faddr 13 0,some (181,false)⟩,
 ⟨5,some 183,.ldL 182 203 (.c (.int .i64)),some (181,false)⟩,
 ⟨6,some 184,.cmp .eql .i64 (.t 183) (kI 2),some (181,false)⟩,
 oP 7 185 (.pick (.t 181) (kB true) (.t 184)),
 mV 8 186 185,
 ⟨9,some 187,.faddr 13 0,some (186,false)⟩,
 ⟨10,some 188,.ldL 187 203 (.c (.int .i64)),some (186,false)⟩,
 ⟨11,some 189,.cmp .eql .i64 (.t 188) (kI 4),some (186,false)⟩,
 oP 12 190 (.pick (.t 186) (kB true) (.t 189))]) (.cut [2,3,7,8,9,10,11,12,17,190,202] c92))
def c95:DCode:=(.seq (.region [mV 0 141 8,
 oP 1 142 (.ldL 13 203 (.agg [.int .i64,.int .i64,.int .i64,.int .i64,.int .i64,.int .u8])),
 oP 2 143 (.bslice 1 6 [.int .i64 0,.int .i64 0,.int .i64 0,.int .i64 0,.int .i64 0,.int .u8 0] [(0,6,.t 142)]),
 oP 3 144 (.app (.t 141) (.t 143) 6 48),
 mV 4 8 144]) (.seq (.seq (.region [oP 0 145 (.faddr 13 0),
 oP 1 146 (.ldL 145 203 (.c (.int .i64))),
 oP 2 147 (.cmp .eql .i64 (.t 146) (kI 5)),
 mV 3 148 147,
 ⟨4,some 149,.faddr 13 0,some (148,false)⟩,
 ⟨5,some 150,.ldL 149 203 (.c (.int .i64)),some (148,false)⟩,
 ⟨6,some 151,.cmp .eql .i64 (.t 150) (kI 4),some (148,false)⟩,
 oP 7 152 (.pick (.t 148) (kB true) (.t 151))]) (.cut [2,3,7,8,9,10,11,12,13,14,17,152,202,203] c85)) (.cut [2,3,7,8,9,10,11,12,13,17,202,203] c93)))
def c96:DCode:=(.seq (.block 2 (.seq (.region [mV 0 88 16,
 oP 1 89 (.cmp .lss .i64 (.t 88) (kI 7)),
 mV 2 87 89]) (.cond (.t 87) (.region [mV 0 90 17,
 oP 1 91 (.faddr 13 2),
 ⟨2,none,.stL 91 203 (.t 90) 1,none⟩]) (.seq (.region [mV 0 93 16,
 oP 1 94 (.cmp .eql .i64 (.t 93) (kI 7)),
 mV 2 92 94]) (.cond (.t 92) (.region [mV 0 95 17,
 oP 1 96 (.faddr 13 0),
 ⟨2,none,.stL 96 203 (kI 2) 1,none⟩,
 oP 3 97 (.faddr 13 4),
 ⟨4,none,.stL 97 203 (kI 1) 1,none⟩,
 oP 5 98 (.faddr 13 2),
 ⟨6,none,.stL 98 203 (.t 95) 1,none⟩]) (.seq (.region [mV 0 100 16,
 oP 1 101 (.cmp .lss .i64 (.t 100) (kI 10)),
 mV 2 99 101]) (.cond (.t 99) (.region [mV 0 102 14,
 mV 1 103 17,
 oP 2 104 (.faddr 13 0),
 ⟨3,none,.stL 104 203 (kI 4) 1,none⟩,
 oP 4 105 (.faddr 13 1),
 ⟨5,none,.stL 105 203 (.t 102) 1,none⟩,
 oP 6 106 (.faddr 13 2),
 ⟨7,none,.stL 106 203 (.t 103) 1,none⟩]) (.seq (.region [mV 0 108 16,
 oP 1 109 (.cmp .lss .i64 (.t 108) (kI 13)),
 mV 2 107 109]) (.cond (.t 107) (.region [mV 0 110 14,
 oP 1 111 (.faddr 13 0),
 ⟨2,none,.stL 111 203 (kI 5) 1,none⟩,
 oP 3 112 (.faddr 13 1),
 ⟨4,none,.stL 112 203 (.t 110) 1,none⟩]) (.seq (.region [mV 0 114 16,
 oP 1 115 (.cmp .eql .i64 (.t 114) (kI 13)),
 mV 2 113 115]) (.cond (.t 113) (.region [mV 0 116 14,
 mV 1 117 7,
 mV 2 118 10,
 mV 3 119 14,
 oP 4 120 (.lkup (.c (.int .i64)) (.t 118) (.t 119) (.c (.int .i64 0)) (.c (.int .i64)) false),
 oP 5 121 (.call 23 [.t 117,.t 120] [.c (.int .i64)]),
 oP 6 122 (.faddr 13 0),
 ⟨7,none,.stL 122 203 (kI 7) 1,none⟩,
 oP 8 123 (.faddr 13 1),
 ⟨9,none,.stL 123 203 (.t 116) 1,none⟩,
 oP 10 124 (.faddr 13 4),
 ⟨11,none,.stL 124 203 (.t 121) 1,none⟩]) (.seq (.region [mV 0 126 16,
 oP 1 127 (.cmp .eql .i64 (.t 126) (kI 14)),
 mV 2 125 127]) (.cond (.t 125) (.region [mV 0 128 14,
 mV 1 129 7,
 mV 2 130 10,
 mV 3 131 14,
 oP 4 132 (.lkup (.c (.int .i64)) (.t 130) (.t 131) (.c (.int .i64 0)) (.c (.int .i64)) false),
 oP 5 133 (.call 23 [.t 129,.t 132] [.c (.int .i64)]),
 mV 6 134 7,
 oP 7 135 (.call 23 [.t 134,.k (.c (.int .i64 256))] [.c (.int .i64)]),
 oP 8 136 (.conv .u8 (.t 135)),
 oP 9 137 (.faddr 13 0),
 ⟨10,none,.stL 137 203 (kI 8) 1,none⟩,
 oP 11 138 (.faddr 13 1),
 ⟨12,none,.stL 138 203 (.t 128) 1,none⟩,
 oP 13 139 (.faddr 13 4),
 ⟨14,none,.stL 139 203 (.t 133) 1,none⟩,
 oP 15 140 (.faddr 13 5),
 ⟨16,none,.stL 140 203 (.t 136) 1,none⟩]) (.region [mV 0 83 7,
 oP 1 84 (.call 23 [.t 83,.k (.c (.int .i64 2))] [.c (.int .i64)]),
 oP 2 85 (.bin .add .i64 (kI 9) (.t 84)),
 oP 3 86 (.faddr 13 0),
 ⟨4,none,.stL 86 203 (.t 85) 1,none⟩])))))))))))))) (.cut [2,3,7,8,9,10,11,12,13,14,17,202,203] c95))
def c98:DCode:=(.seq (.region [mV 0 65 7,
 oP 1 66 (.faddr 3 1),
 oP 2 67 (.ldL 66 202 (.c (.int .i64))),
 mV 3 68 15,
 oP 4 69 (.mx (.t 68) [.k (.c (.int .i64 1))]),
 oP 5 70 (.mn (.t 67) [.t 69]),
 oP 6 71 (.mx (kI 1) [.t 70]),
 oP 7 72 (.call 23 [.t 65,.t 71] [.c (.int .i64)]),
 oP 8 73 (.bin .add .i64 (kI 1) (.t 72)),
 mV 9 17 73]) (.seq (.seq (.region [mV 0 74 17,
 oP 1 75 (.bin .mul .i64 (kI 2) (.t 74)),
 oP 2 76 (.faddr 3 0),
 oP 3 77 (.ldL 76 202 (.c (.int .i64))),
 oP 4 78 (.cmp .lss .i64 (.t 75) (.t 77))]) (.cond (.t 78) (.region [oP 0 79 (.faddr 3 0),
 oP 1 80 (.ldL 79 202 (.c (.int .i64))),
 oP 2 81 (.bin .add .i64 (.t 80) (kI 1)),
 oP 3 82 (.bin .quo .i64 (.t 81) (kI 2)),
 mV 4 17 82]) .skip)) (.cut [2,3,7,8,9,10,11,12,13,14,16,17,202,203] c96)))
def c101:DCode:=(.seq (.region [oP 0 44 (.faddr 3 2),
 oP 1 45 (.ldL 44 202 (.c (.int .i64))),
 oP 2 46 (.bin .quo .i64 (.t 45) (kI 2)),
 mV 3 47 11,
 oP 4 48 (.bin .sub .i64 (.t 46) (.t 47)),
 mV 5 15 48]) (.seq (.region [mV 0 49 7,
 oP 1 50 (.call 23 [.t 49,.k (.c (.int .i64 16))] [.c (.int .i64)]),
 mV 2 16 50]) (.seq (.seq (.region [mV 0 51 16,
 oP 1 52 (.cmp .geq .i64 (.t 51) (kI 8)),
 mV 2 53 52,
 ⟨3,some 54,.move (.t 14),some (53,true)⟩,
 ⟨4,some 55,.cmp .lss .i64 (.t 54) (kI 0),some (53,true)⟩,
 oP 5 56 (.pick (.t 53) (.t 55) (kB false)),
 mV 6 57 56,
 ⟨7,some 58,.move (.t 16),some (57,false)⟩,
 ⟨8,some 59,.cmp .lss .i64 (.t 58) (kI 8),some (57,false)⟩,
 ⟨9,some 60,.move (.t 59),some (57,false)⟩,
 ⟨10,some 61,.move (.t 15),some (60,true)⟩,
 ⟨11,some 62,.cmp .lss .i64 (.t 61) (kI 1),some (60,true)⟩,
 ⟨12,some 63,.pick (.t 60) (.t 62) (kB false),some (57,false)⟩,
 oP 13 64 (.pick (.t 57) (kB true) (.t 63))]) (.cut [2,3,7,8,9,10,11,12,13,14,15,16,64,202,203] c24)) (.cut [2,3,7,8,9,10,11,12,13,14,15,16,202,203] c98))))
def c106:DCode:=(.region [mV 0 31 12,
 oP 1 32 (.bin .add .i64 (.t 31) (kI 1)),
 mV 2 12 32])
def c107:DCode:=(.seq (.block 1 (.seq (.region [oP 0 33 (.build [.int .i64 0,.int .i64 0,.int .i64 0,.int .i64 0,.int .i64 0,.int .u8 0] [(0,1,.k (.c (.int .i64 1)))]),
 oP 1 13 (.boxz 203 [86,91,96,97,98,104,105,106,111,112,122,123,124,137,138,139,140,145,149,178,182,187] [.int .i64 0,.int .i64 0,.int .i64 0,.int .i64 0,.int .i64 0,.int .u8 0]),
 ⟨2,none,.stL 13 203 (.t 33) 6,none⟩]) (.seq (.region [oP 0 14 (.move (kI (-1)))]) (.seq (.seq (.region [mV 0 34 9,
 oP 1 35 (.len (.t 34)),
 oP 2 36 (.cmp .gtr .i64 (.t 35) (kI 0))]) (.cond (.t 36) (.region [mV 0 37 9,
 mV 1 38 7,
 mV 2 39 9,
 oP 3 40 (.len (.t 39)),
 oP 4 41 (.call 23 [.t 38,.t 40] [.c (.int .i64)]),
 oP 5 42 (.iaddr (.t 37) (.t 41) 1),
 oP 6 43 (.ldG 42 (.c (.int .i64))),
 mV 7 14 43]) .skip)) (.cut [2,3,7,8,9,10,11,12,13,14,202,203] c101))))) (.cut [2,3,7,8,9,10,11,12,202] c106))
def c108:DCode:=(.seq (.seq (.region [mV 0 23 12,
 mV 1 24 2,
 oP 2 25 (.cmp .lss .i64 (.t 23) (.t 24)),
 mV 3 26 25,
 ⟨4,some 27,.move (.t 7),some (26,true)⟩,
 ⟨5,some 28,.call 25 [.t 27] [.c (.bool)],some (26,true)⟩,
 ⟨6,some 29,.not (.t 28),some (26,true)⟩,
 oP 7 30 (.pick (.t 26) (.t 29) (kB false))]) (.cut [2,3,7,8,9,10,11,12,30,202] c10)) c107)
def c109:DCode:=(.loop [2,3,7,8,9,10,11,12,202] c108)
def c114:DCode:=(.seq (.region [mV 0 201 8,
 mV 1 6 201]) .ret)
def d:DFn:={ ntmps:=204,res:=[.t 6],body:=(.seq (.region [oP 0 3 (.boxv 202 [44,66,76,79] (.t 0) 8),
 oP 1 6 (.move (.k (.c (.sl 6 0 0 0))))]) (.seq (.region [mV 0 20 1,
 oP 1 21 (.call 7 [.t 20] [.c (.ptr)]),
 mV 2 7 21]) (.seq (.region [oP 0 8 (.move (.k (.c (.sl 6 0 0 0))))]) (.seq (.region [oP 0 9 (.move (.k (.c (.sl 1 0 0 0))))]) (.seq (.region [oP 0 22 (.mkmap (.c (.int .i64))),
 mV 1 10 22]) (.seq (.region [oP 0 11 (.move (kI 0))]) (.seq (.seq (.region [oP 0 12 (.move (kI 0))]) (.block 0 c109)) c114))))))) }
def k114:Kont:=execC M.j C (M.ag C) c114 ({ exits:=[],ret:=retK d }:Env) (retK d)
def e110:Env:={ exits:=(0,(k114 M C))::(({ exits:=[],ret:=retK d }:Env)).exits,ret:=(({ exits:=[],ret:=retK d }:Env)).ret }
def L109 (a:Int) (b d e f g h i j k:Nat) (l m n o p q r s t w:Int) (G:GH):Option Res:=M.ag C [2,3,7,8,9,10,11,12,202] c108 (e110 M C) (k114 M C) (uS 2 (vI a::(.ref 202 0::(uS 3 (vP b d::(vS 6 e f g::(vS 1 h i j::(.v (.c (.map k))::(vI l::(vI m::(uS 189 (.box [.int .i64 n,.int .i64 o,.int .i64 p,.int .i64 q,.int .i64 r,.int .i64 s,.int .i64 t,.int .i64 w]::(uS 1 []))))))))))))) G
def k109:Kont:=fun tm G=>M.ag C [2,3,7,8,9,10,11,12,202] c108 (e110 M C) (k114 M C) (restr [2,3,7,8,9,10,11,12,202] 0 tm) G
def k107:Kont:=execC M.j C (M.ag C) c107 (e110 M C) (k109 M C)
def J10 (a:Int) (b d e f g h i k l:Nat) (m n:Int) (o:Bool) (p q r s t w x y:Int) (G:GH):Option Res:=M.j (execC M.j C (M.ag C) c10 (e110 M C) (k107 M C)) (uS 2 (vI a::(.ref 202 0::(uS 3 (vP b d::(vS 6 e f g::(vS 1 h i k::(.v (.c (.map l))::(vI m::(vI n::(uS 17 (vB o::(uS 171 (.box [.int .i64 p,.int .i64 q,.int .i64 r,.int .i64 s,.int .i64 t,.int .i64 w,.int .i64 x,.int .i64 y]::(uS 1 []))))))))))))))) G
def k106:Kont:=execC M.j C (M.ag C) (.cut [2,3,7,8,9,10,11,12,202] c106) (e110 M C) (k109 M C)
def e105:Env:={ exits:=(1,(k106 M C))::((e110 M C)).exits,ret:=((e110 M C)).ret }
def J101 (a:Int) (b d e f g h i k l:Nat) (m n o p q r s t w x y z A B D E F:Int) (G:GH):Option Res:=M.j (execC M.j C (M.ag C) c101 (e105 M C) (k106 M C)) (uS 2 (vI a::(.ref 202 0::(uS 3 (vP b d::(vS 6 e f g::(vS 1 h i k::(.v (.c (.map l))::(vI m::(vI n::(.ref 203 0::(vI o::(uS 187 (.box [.int .i64 p,.int .i64 q,.int .i64 r,.int .i64 s,.int .i64 t,.int .i64 w,.int .i64 x,.int .i64 y]::(.box [.int .i64 z,.int .i64 A,.int .i64 B,.int .i64 D,.int .i64 E,.int .u8 F]::[]))))))))))))))) G
def k98:Kont:=execC M.j C (M.ag C) (.cut [2,3,7,8,9,10,11,12,13,14,15,16,202,203] c98) (e105 M C) (k106 M C)
def J24 (a:Int) (b d e f g h i k l:Nat) (m n o p q:Int) (r:Bool) (s t w x y z A B D E F H I J:Int) (G:GH):Option Res:=M.j (execC M.j C (M.ag C) c24 (e105 M C) (k98 M C)) (uS 2 (vI a::(.ref 202 0::(uS 3 (vP b d::(vS 6 e f g::(vS 1 h i k::(.v (.c (.map l))::(vI m::(vI n::(.ref 203 0::(vI o::(vI p::(vI q::(uS 47 (vB r::(uS 137 (.box [.int .i64 s,.int .i64 t,.int .i64 w,.int .i64 x,.int .i64 y,.int .i64 z,.int .i64 A,.int .i64 B]::(.box [.int .i64 D,.int .i64 E,.int .i64 F,.int .i64 H,.int .i64 I,.int .u8 J]::[]))))))))))))))))))) G
def J98 (a:Int) (b d e f g h i k l:Nat) (m n o p q r s t w x y z A B D E F H I:Int) (G:GH):Option Res:=M.j (execC M.j C (M.ag C) c98 (e105 M C) (k106 M C)) (uS 2 (vI a::(.ref 202 0::(uS 3 (vP b d::(vS 6 e f g::(vS 1 h i k::(.v (.c (.map l))::(vI m::(vI n::(.ref 203 0::(vI o::(vI p::(vI q::(uS 185 (.box [.int .i64 r,.int .i64 s,.int .i64 t,.int .i64 w,.int .i64 x,.int .i64 y,.int .i64 z,.int .i64 A]::(.box [.int .i64 B,.int .i64 D,.int .i64 E,.int .i64 F,.int .i64 H,.int .u8 I]::[]))))))))))))))))) G
def J96 (a:Int) (b d e f g h i k l:Nat) (m n o p q r s t w x y z A B D E F H I:Int) (G:GH):Option Res:=M.j (execC M.j C (M.ag C) c96 (e105 M C) (k106 M C)) (uS 2 (vI a::(.ref 202 0::(uS 3 (vP b d::(vS 6 e f g::(vS 1 h i k::(.v (.c (.map l))::(vI m::(vI n::(.ref 203 0::(vI o::(uS 1 (vI p::(vI q::(uS 184 (.box [.int .i64 r,.int .i64 s,.int .i64 t,.int .i64 w,.int .i64 x,.int .i64 y,.int .i64 z,.int .i64 A]::(.box [.int .i64 B,.int .i64 D,.int .i64 E,.int .i64 F,.int .i64 H,.int .u8 I]::[])))))))))))))))))) G
def J95 (a:Int) (b d e f g h i k l:Nat) (m n o p q r s t w x y z A B D E F H:Int) (G:GH):Option Res:=M.j (execC M.j C (M.ag C) c95 (e105 M C) (k106 M C)) (uS 2 (vI a::(.ref 202 0::(uS 3 (vP b d::(vS 6 e f g::(vS 1 h i k::(.v (.c (.map l))::(vI m::(vI n::(.ref 203 0::(vI o::(uS 2 (vI p::(uS 184 (.box [.int .i64 q,.int .i64 r,.int .i64 s,.int .i64 t,.int .i64 w,.int .i64 x,.int .i64 y,.int .i64 z]::(.box [.int .i64 A,.int .i64 B,.int .i64 D,.int .i64 E,.int .i64 F,.int .u8 H]::[]))))))))))))))))) G
def k93:Kont:=execC M.j C (M.ag C) (.cut [2,3,7,8,9,10,11,12,13,17,202,203] c93) (e105 M C) (k106 M C)
def J85 (a:Int) (b d e f g h i k l:Nat) (m n o p:Int) (q:Bool) (r s t w x y z A B D E F H I:Int) (G:GH):Option Res:=M.j (execC M.j C (M.ag C) c85 (e105 M C) (k93 M C)) (uS 2 (vI a::(.ref 202 0::(uS 3 (vP b d::(vS 6 e f g::(vS 1 h i k::(.v (.c (.map l))::(vI m::(vI n::(.ref 203 0::(vI o::(uS 2 (vI p::(uS 134 (vB q::(uS 49 (.box [.int .i64 r,.int .i64 s,.int .i64 t,.int .i64 w,.int .i64 x,.int .i64 y,.int .i64 z,.int .i64 A]::(.box [.int .i64 B,.int .i64 D,.int .i64 E,.int .i64 F,.int .i64 H,.int .u8 I]::[]))))))))))))))))))) G
def k80:Kont:=execC M.j C (M.ag C) c80 (e105 M C) (k93 M C)
def e78:Env:={ exits:=(3,(k80 M C))::((e105 M C)).exits,ret:=((e105 M C)).ret }
def L77 (a:Int) (b d e f g h i j k:Nat) (l m n o:Int) (p q r:Nat) (s t w x y z A B D E F H I J K:Int) (G:GH):Option Res:=M.ag C [2,3,7,8,9,10,11,12,13,14,17,18,19,202,203] c76 (e78 M C) (k80 M C) (uS 2 (vI a::(.ref 202 0::(uS 3 (vP b d::(vS 6 e f g::(vS 1 h i j::(.v (.c (.map k))::(vI l::(vI m::(.ref 203 0::(vI n::(uS 2 (vI o::(vS 1 p q r::(vI s::(uS 182 (.box [.int .i64 t,.int .i64 w,.int .i64 x,.int .i64 y,.int .i64 z,.int .i64 A,.int .i64 B,.int .i64 D]::(.box [.int .i64 E,.int .i64 F,.int .i64 H,.int .i64 I,.int .i64 J,.int .u8 K]::[]))))))))))))))))))) G
def J93 (a:Int) (b d e f g h i k l:Nat) (m n o p q r s t w x y z A B D E F:Int) (G:GH):Option Res:=M.j (execC M.j C (M.ag C) c93 (e105 M C) (k106 M C)) (uS 2 (vI a::(.ref 202 0::(uS 3 (vP b d::(vS 6 e f g::(vS 1 h i k::(.v (.c (.map l))::(vI m::(vI n::(.ref 203 0::(uS 3 (vI o::(uS 184 (.box [.int .i64 p,.int .i64 q,.int .i64 r,.int .i64 s,.int .i64 t,.int .i64 w,.int .i64 x,.int .i64 y]::(.box [.int .i64 z,.int .i64 A,.int .i64 B,.int .i64 D,.int .i64 E,.int .u8 F]::[])))))))))))))))) G
def k77:Kont:=fun tm G=>M.ag C [2,3,7,8,9,10,11,12,13,14,17,18,19,202,203] c76 (e78 M C) (k80 M C) (restr [2,3,7,8,9,10,11,12,13,14,17,18,19,202,203] 0 tm) G
def J74 (a:Int) (b d e f g h i k l:Nat) (m n o p:Int) (q r s:Nat) (t w x y z A B D E F H I J K L:Int) (G:GH):Option Res:=M.j (execC M.j C (M.ag C) c74 (e78 M C) (k77 M C)) (uS 2 (vI a::(.ref 202 0::(uS 3 (vP b d::(vS 6 e f g::(vS 1 h i k::(.v (.c (.map l))::(vI m::(vI n::(.ref 203 0::(vI o::(uS 2 (vI p::(vS 1 q r s::(vI t::(uS 182 (.box [.int .i64 w,.int .i64 x,.int .i64 y,.int .i64 z,.int .i64 A,.int .i64 B,.int .i64 D,.int .i64 E]::(.box [.int .i64 F,.int .i64 H,.int .i64 I,.int .i64 J,.int .i64 K,.int .u8 L]::[]))))))))))))))))))) G
def J92 (a:Int) (b d e f g h i k l:Nat) (m n o:Int) (p:Bool) (q r s t w x y z:Int) (G:GH):Option Res:=M.j (execC M.j C (M.ag C) c92 (e105 M C) (k106 M C)) (uS 2 (vI a::(.ref 202 0::(uS 3 (vP b d::(vS 6 e f g::(vS 1 h i k::(.v (.c (.map l))::(vI m::(vI n::(uS 4 (vI o::(uS 172 (vB p::(uS 11 (.box [.int .i64 q,.int .i64 r,.int .i64 s,.int .i64 t,.int .i64 w,.int .i64 x,.int .i64 y,.int .i64 z]::(uS 1 []))))))))))))))))) G
def J106 (a:Int) (b d e f g h i k l:Nat) (m n o p q r s t w x:Int) (G:GH):Option Res:=M.j (execC M.j C (M.ag C) c106 (e110 M C) (k109 M C)) (uS 2 (vI a::(.ref 202 0::(uS 3 (vP b d::(vS 6 e f g::(vS 1 h i k::(.v (.c (.map l))::(vI m::(vI n::(uS 189 (.box [.int .i64 o,.int .i64 p,.int .i64 q,.int .i64 r,.int .i64 s,.int .i64 t,.int .i64 w,.int .i64 x]::(uS 1 []))))))))))))) G
theorem L109_eq (a:Int) (b d f g h i j k l:Nat) (m e n o p q r s t v:Int) (G:GH):L109 M C a b d f g h i j k l m e n o p q r s t v G=(bif decide (e<a) then (C F7.id [.c (.ptr b d)] G).bind fun w=>(((w.1[0]?).bind V1.c?).bind Cell.asB).bind fun x=>J10 M C a b d f g h i j k l m e (!x) n o p q r s t v w.2 else J10 M C a b d f g h i j k l m e false n o p q r s t v G):=(M.hs _ _ _ _ _ _ _).trans (by kernel_rfl)
theorem J10_eq (j:Int) (b d e f g h i a k:Nat) (l m:Int) (y:Bool) (n o p q r s t v:Int) (G:GH):J10 M C j b d e f g h i a k l m y n o p q r s t v G=(bif y then bif decide (((a:Nat):Int)>0) then (C F8.id [.c (.ptr b d),.c (.int .i64 ((a:Nat):Int))] G).bind fun w=>(((w.1[0]?).bind V1.c?).bind (Cell.asI .i64)).bind fun x=>guardK (decide (0≤x∧x<((a:Nat):Int))) (((w.2.ld h (i+Int.toNat x*1)).bind (Cell.asI .i64)).bind fun z=>J101 M C j b d e f g h i a k l m z n o p q r s t v 1 0 0 0 0 0 w.2) else J101 M C j b d e f g h i a k l m (-1) n o p q r s t v 1 0 0 0 0 0 G else some ([.c (.sl 6 e f g)],G)):=(M.hj _ _ _).trans (by kernel_rfl)
theorem J101_eq (h:Int) (e f i j k l m n o:Nat) (a p g q r b s t v w x y z A B D E:Int) (G:GH):J101 M C h e f i j k l m n o a p g q r b s t v w x y z A B D E G=((C F8.id [.c (.ptr e f),.c (.int .i64 16)] G).bind fun F=>(((F.1[0]?).bind V1.c?).bind (Cell.asI .i64)).bind fun d=>bif decide (d≥8) then bif decide (g<0) then J24 M C h e f i j k l m n o a p g (IntKind.i64.wrap ((IntKind.i64.wrap (Int.tdiv b 2))-a)) d true q r b s t v w x y z A B D E F.2 else bif decide (d<8) then J24 M C h e f i j k l m n o a p g (IntKind.i64.wrap ((IntKind.i64.wrap (Int.tdiv b 2))-a)) d (decide (IntKind.i64.wrap ((IntKind.i64.wrap (Int.tdiv b 2))-a)<1)) q r b s t v w x y z A B D E F.2 else J24 M C h e f i j k l m n o a p g (IntKind.i64.wrap ((IntKind.i64.wrap (Int.tdiv b 2))-a)) d false q r b s t v w x y z A B D E F.2 else bif decide (d<8) then J24 M C h e f i j k l m n o a p g (IntKind.i64.wrap ((IntKind.i64.wrap (Int.tdiv b 2))-a)) d (decide (IntKind.i64.wrap ((IntKind.i64.wrap (Int.tdiv b 2))-a)<1)) q r b s t v w x y z A B D E F.2 else J24 M C h e f i j k l m n o a p g (IntKind.i64.wrap ((IntKind.i64.wrap (Int.tdiv b 2))-a)) d false q r b s t v w x y z A B D E F.2):=(M.hj _ _ _).trans (by kernel_rfl)
theorem J24_eq (a:Int) (b c d e f g h i j:Nat) (k l m n E:Int) (F:Bool) (o p q r s t v w x y z A B D:Int) (G:GH):J24 M C a b c d e f g h i j k l m n E F o p q r s t v w x y z A B D G=(bif F then J98 M C a b c d e f g h i j k l m n 15 o p q r s t v w x y z A B D G else J98 M C a b c d e f g h i j k l m n E o p q r s t v w x y z A B D G):=(M.hj _ _ _).trans (by kernel_rfl)
theorem J98_eq (f:Int) (b d g h i j k l m:Nat) (n o p H q a e r s t v w x y z A B D E:Int) (G:GH):J98 M C f b d g h i j k l m n o p H q a e r s t v w x y z A B D E G=((C F8.id [.c (.ptr b d),.c (.int .i64 (mx2 1 (mn2 e (mx2 H 1))))] G).bind fun F=>(((F.1[0]?).bind V1.c?).bind (Cell.asI .i64)).bind fun I=>bif decide (IntKind.i64.wrap (2*(IntKind.i64.wrap (1+I)))<a) then J96 M C f b d g h i j k l m n o p q (IntKind.i64.wrap (Int.tdiv (IntKind.i64.wrap (a+1)) 2)) a e r s t v w x y z A B D E F.2 else J96 M C f b d g h i j k l m n o p q (IntKind.i64.wrap (1+I)) a e r s t v w x y z A B D E F.2):=(M.hj _ _ _).trans (by kernel_rfl)
theorem J96_eq (g:Int) (b d h i j k l m f:Nat) (n o a z e p q r s t v w x F E B y D A:Int) (G:GH):J96 M C g b d h i j k l m f n o a z e p q r s t v w x F E B y D A G=(bif decide (z<7) then J95 M C g b d h i j k l m f n o a e p q r s t v w x F E e y D A G else bif decide (z=7) then J95 M C g b d h i j k l m f n o a e p q r s t v w x 2 E e y 1 A G else bif decide (z<10) then J95 M C g b d h i j k l m f n o a e p q r s t v w x 4 a e y D A G else bif decide (z<13) then J95 M C g b d h i j k l m f n o a e p q r s t v w x 5 a B y D A G else bif decide (z=13) then (G.ents0 (.c (.int .i64)) f).bind fun L=>((((some ((mapGet L (.c (.int .i64 a))).getD (.c (.int .i64 0))))).bind V1.c?).bind (Cell.asI .i64)).bind fun N=>(C F8.id [.c (.ptr b d),.c (.int .i64 N)] G).bind fun H=>(((H.1[0]?).bind V1.c?).bind (Cell.asI .i64)).bind fun O=>J95 M C g b d h i j k l m f n o a e p q r s t v w x 7 a B y O A H.2 else bif decide (z=14) then (G.ents0 (.c (.int .i64)) f).bind fun P=>((((some ((mapGet P (.c (.int .i64 a))).getD (.c (.int .i64 0))))).bind V1.c?).bind (Cell.asI .i64)).bind fun Q=>(C F8.id [.c (.ptr b d),.c (.int .i64 Q)] G).bind fun I=>(((I.1[0]?).bind V1.c?).bind (Cell.asI .i64)).bind fun R=>(C F8.id [.c (.ptr b d),.c (.int .i64 256)] I.2).bind fun J=>(((J.1[0]?).bind V1.c?).bind (Cell.asI .i64)).bind fun S=>J95 M C g b d h i j k l m f n o a e p q r s t v w x 8 a B y R (IntKind.u8.wrap S) J.2 else (C F8.id [.c (.ptr b d),.c (.int .i64 2)] G).bind fun K=>(((K.1[0]?).bind V1.c?).bind (Cell.asI .i64)).bind fun T=>J95 M C g b d h i j k l m f n o a e p q r s t v w x (IntKind.i64.wrap (9+T)) E B y D A K.2):=(M.hj _ _ _).trans (by kernel_rfl)
theorem J95_eq (i:Int) (j k D E c l m n o:Nat) (p q r s t v w x y z A B a d e f g h:Int) (G:GH):J95 M C i j k D E c l m n o p q r s t v w x y z A B a d e f g h G=(let F:=G.alloc (.row [.int .i64 a,.int .i64 d,.int .i64 e,.int .i64 f,.int .i64 g,.int .u8 h] false);(if 1=0 then some [] else F.lds G.next 0 (1*6)).bind fun H=>guardK (decide (c+1≤most)) ((F.app D E c 6 1 H).bind fun b=>bif decide (a=5) then J85 M C i j k b.1 b.2.1 (c+1) l m n o p q r s true t v w x y z A B a d e f g h b.2.2 else J85 M C i j k b.1 b.2.1 (c+1) l m n o p q r s (decide (a=4)) t v w x y z A B a d e f g h b.2.2)):=(M.hj _ _ _).trans (by kernel_rfl)
theorem J85_eq (b:Int) (d e f g h i j k a:Nat) (l m n o:Int) (F:Bool) (p q r s t v w x y z A B D E:Int) (G:GH):J85 M C b d e f g h i j k a l m n o F p q r s t v w x y z A B D E G=(bif F then (G.ents0 (.c (.int .i64)) a).bind fun H=>((((some ((mapGet H (.c (.int .i64 n))).getD (.c (.int .i64 0))))).bind V1.c?).bind (Cell.asI .i64)).bind fun I=>L77 M C b d e f g h i j k a (IntKind.i64.wrap (l-I)) m n o 0 0 0 0 p q r s t v w x y z A B D E G else J93 M C b d e f g h i j k a l m o p q r s t v w x y z A B D E G):=(M.hj _ _ _).trans (by kernel_rfl)
theorem L77_eq (f:Int) (g h i j k d e b l:Nat) (m n o p:Int) (q r c:Nat) (a s t v w x y z A B D E F H I:Int) (G:GH):L77 M C f g h i j k d e b l m n o p q r c a s t v w x y z A B D E F H I G=(bif decide (a<((b:Nat):Int)) then guardK (decide (0≤a∧a<((b:Nat):Int))) (((G.ld d (e+Int.toNat a*1)).bind (Cell.asI .i64)).bind fun L=>bif (!decide (L=o)) then guardK (decide (0≤a∧a<((b:Nat):Int))) (((G.ld d (e+Int.toNat a*1)).bind (Cell.asI .i64)).bind fun N=>let K:=G.alloc (.row [.int .i64 N] false);(if 1=0 then some [] else K.lds G.next 0 (1*1)).bind fun O=>guardK (decide (c+1≤most)) ((K.app q r c 1 1 O).bind fun J=>J74 M C f g h i j k d e b l m n o p J.1 J.2.1 (c+1) a s t v w x y z A B D E F H I J.2.2)) else J74 M C f g h i j k d e b l m n o p q r c a s t v w x y z A B D E F H I G) else J93 M C f g h i j k q r c l m n p s t v w x y z A B D E F H I G):=(M.hs _ _ _ _ _ _ _).trans (by kernel_rfl)
theorem J93_eq (a:Int) (b c d e f g h i j:Nat) (k l m n o p q r s t v w x y z A B:Int) (G:GH):J93 M C a b c d e f g h i j k l m n o p q r s t v w x y z A B G=(bif decide (w=1) then J92 M C a b c d e f g h i j k l m true n o p q r s t v G else bif decide (w=2) then J92 M C a b c d e f g h i j k l m true n o p q r s t v G else J92 M C a b c d e f g h i j k l m (decide (w=4)) n o p q r s t v G):=(M.hj _ _ _).trans (by kernel_rfl)
theorem J74_eq (a:Int) (b c d e f g h i j:Nat) (k l m n:Int) (o p q:Nat) (r s t v w x y z A B D E F H I:Int) (G:GH):J74 M C a b c d e f g h i j k l m n o p q r s t v w x y z A B D E F H I G=(L77 M C a b c d e f g h i j k l m n o p q (IntKind.i64.wrap (r+1)) s t v w x y z A B D E F H I G):=(M.hj _ _ _).trans (by kernel_rfl)
theorem J92_eq (f:Int) (g h i j k l m a b:Nat) (n d o:Int) (y:Bool) (p q r s t v w x:Int) (G:GH):J92 M C f g h i j k l m a b n d o y p q r s t v w x G=(bif y then let z:=G.alloc (.row [.int .i64 d] false);(if 1=0 then some [] else z.lds G.next 0 (1*1)).bind fun A=>guardK (decide (a+1≤most)) ((z.app l m a 1 1 A).bind fun e=>(e.2.2.ents (.c (.int .i64)) b).bind fun B=>let D:=e.2.2.set b (some (.map (.c (.int .i64)) (mapPut B (.c (.int .i64 d)) (.c (.int .i64 o)))));J106 M C f g h i j k e.1 e.2.1 (a+1) b (IntKind.i64.wrap (n+o)) d p q r s t v w x D) else J106 M C f g h i j k l m a b n d p q r s t v w x G):=(M.hj _ _ _).trans (by kernel_rfl)
theorem J106_eq (a:Int) (b c d e f g h i j:Nat) (k l m n o p q r s t:Int) (G:GH):J106 M C a b c d e f g h i j k l m n o p q r s t G=(L109 M C a b c d e f g h i j k (IntKind.i64.wrap (l+1)) m n o p q r s t G):=(M.hj _ _ _).trans (by kernel_rfl)
def f (d e g h i j k l:Int) (m n o:Nat) (p:Int) (G:GH):Option Res:=(C F21.id [.c (.sl 1 m n o)] G).bind fun a=>(((a.1[0]?).bind V1.c?).bind Cell.asP).bind fun b=>let q:=a.2.alloc (.map (.c (.int .i64)) []);L109 M C p b.1 b.2 0 0 0 0 0 0 a.2.next 0 0 d e g h i j k l q
theorem eq (a b e g h i j k:Int) (l m n:Nat) (o:Int) (G:GH):runF M C d [.agg [.int .i64 a,.int .i64 b,.int .i64 e,.int .i64 g,.int .i64 h,.int .i64 i,.int .i64 j,.int .i64 k],.c (.sl 1 l m n),.c (.int .i64 o)] G=f M C a b e g h i j k l m n o G:=by kernel_rfl
end F10
namespace F16
def c48:DCode:=(.cond (.t 81) (.seq (.region [oP 0 4 (.move (kB false))]) .ret) .skip)
def c53:DCode:=(.cond (.t 89) (.region [mV 0 90 5,
 oP 1 91 (.faddr 8 1),
 oP 2 92 (.ldL 91 156 (.c (.int .i64))),
 mV 3 93 6,
 mV 4 94 5,
 oP 5 95 (.faddr 8 1),
 oP 6 96 (.ldL 95 156 (.c (.int .i64))),
 oP 7 97 (.iaddr (.t 94) (.t 96) 1),
 oP 8 98 (.ldG 97 (.c (.int .i64))),
 oP 9 99 (.bin .sub .i64 (.t 93) (.t 98)),
 mV 10 6 99,
 oP 11 100 (.iaddr (.t 90) (.t 92) 1),
 ⟨12,none,.stG 100 (kI (-1)) 1,none⟩]) .skip)
def c59:DCode:=(.seq (.region [oP 0 101 (.faddr 8 0),
 oP 1 102 (.ldL 101 156 (.c (.int .i64))),
 oP 2 103 (.cmp .neq .i64 (.t 102) (kI 4))]) (.cond (.t 103) (.exit 1) .skip))
def c60:DCode:=(.seq (.seq (.region [oP 0 82 (.faddr 8 0),
 oP 1 83 (.ldL 82 156 (.c (.int .i64))),
 oP 2 84 (.cmp .eql .i64 (.t 83) (kI 5)),
 mV 3 85 84,
 ⟨4,some 86,.faddr 8 0,some (85,false)⟩,
 ⟨5,some 87,.ldL 86 156 (.c (.int .i64)),some (85,false)⟩,
 ⟨6,some 88,.cmp .eql .i64 (.t 87) (kI 4),some (85,false)⟩,
 oP 7 89 (.pick (.t 85) (kB true) (.t 88))]) (.cut [1,2,5,6,7,8,89,155,156] c53)) (.cut [1,2,5,6,7,8,155,156] c59))
def c72:DCode:=(.cond (.t 104) .skip (.seq (.region [oP 0 4 (.move (kB false))]) .ret))
def c74:DCode:=(.cond (.t 51) (.seq (.seq (.region [mV 0 57 9,
 oP 1 58 (.not (.t 57))]) (.cond (.t 58) (.seq (.region [oP 0 4 (.move (kB false))]) .ret) .skip)) (.seq (.seq (.region [oP 0 59 (.faddr 8 0),
 oP 1 60 (.ldL 59 156 (.c (.int .i64))),
 oP 2 61 (.cmp .eql .i64 (.t 60) (kI 7)),
 mV 3 62 61,
 ⟨4,some 63,.faddr 8 0,some (62,false)⟩,
 ⟨5,some 64,.ldL 63 156 (.c (.int .i64)),some (62,false)⟩,
 ⟨6,some 65,.cmp .eql .i64 (.t 64) (kI 8),some (62,false)⟩,
 oP 7 66 (.pick (.t 62) (kB true) (.t 65)),
 mV 8 67 66,
 ⟨9,some 68,.faddr 8 4,some (67,true)⟩,
 ⟨10,some 69,.ldL 68 156 (.c (.int .i64)),some (67,true)⟩,
 ⟨11,some 70,.cmp .lss .i64 (.t 69) (kI 0),some (67,true)⟩,
 ⟨12,some 71,.move (.t 70),some (67,true)⟩,
 ⟨13,some 72,.faddr 8 4,some (71,false)⟩,
 ⟨14,some 73,.ldL 72 156 (.c (.int .i64)),some (71,false)⟩,
 ⟨15,some 74,.move (.t 5),some (71,false)⟩,
 ⟨16,some 75,.faddr 8 1,some (71,false)⟩,
 ⟨17,some 76,.ldL 75 156 (.c (.int .i64)),some (71,false)⟩,
 ⟨18,some 77,.iaddr (.t 74) (.t 76) 1,some (71,false)⟩,
 ⟨19,some 78,.ldG 77 (.c (.int .i64)),some (71,false)⟩,
 ⟨20,some 79,.cmp .geq .i64 (.t 73) (.t 78),some (71,false)⟩,
 ⟨21,some 80,.pick (.t 71) (kB true) (.t 79),some (67,true)⟩,
 oP 22 81 (.pick (.t 67) (.t 80) (kB false))]) (.cut [1,2,5,6,7,8,81,155,156] c48)) c60)) (.seq (.seq (.region [oP 0 105 (.cmp .eql .i64 (.t 47) (kI 1)),
 mV 1 104 105]) (.cond (.t 104) .skip (.region [oP 0 106 (.cmp .eql .i64 (.t 47) (kI 2)),
 mV 1 104 106]))) (.cut [1,2,5,6,7,8,104,155,156] c72)))
def c76:DCode:=(.cond (.t 48) (.exit 1) (.seq (.seq (.region [oP 0 52 (.cmp .eql .i64 (.t 47) (kI 5)),
 mV 1 51 52]) (.cond (.t 51) .skip (.seq (.region [oP 0 53 (.cmp .eql .i64 (.t 47) (kI 6)),
 mV 1 51 53]) (.cond (.t 51) .skip (.seq (.region [oP 0 54 (.cmp .eql .i64 (.t 47) (kI 7)),
 mV 1 51 54]) (.cond (.t 51) .skip (.seq (.region [oP 0 55 (.cmp .eql .i64 (.t 47) (kI 8)),
 mV 1 51 55]) (.cond (.t 51) .skip (.region [oP 0 56 (.cmp .eql .i64 (.t 47) (kI 4)),
 mV 1 51 56]))))))))) (.cut [1,2,5,6,7,8,9,47,51,155,156] c74)))
def c101:DCode:=(.cond (.t 147) (.seq (.region [oP 0 4 (.move (kB false))]) .ret) .skip)
def c103:DCode:=(.region [mV 0 148 5,
 mV 1 149 7,
 mV 2 150 6,
 mV 3 151 10,
 oP 4 152 (.bin .add .i64 (.t 150) (.t 151)),
 mV 5 153 10,
 mV 6 6 152,
 oP 7 154 (.iaddr (.t 148) (.t 149) 1),
 ⟨8,none,.stG 154 (.t 153) 1,none⟩])
def c104:DCode:=(.seq (.seq (.region [mV 0 124 10,
 oP 1 125 (.cmp .lss .i64 (.t 124) (kI 1)),
 mV 2 126 125,
 ⟨3,some 127,.move (.t 10),some (126,false)⟩,
 ⟨4,some 128,.faddr 2 1,some (126,false)⟩,
 ⟨5,some 129,.ldL 128 155 (.c (.int .i64)),some (126,false)⟩,
 ⟨6,some 130,.cmp .gtr .i64 (.t 127) (.t 129),some (126,false)⟩,
 oP 7 131 (.pick (.t 126) (kB true) (.t 130)),
 mV 8 132 131,
 ⟨9,some 133,.move (.t 10),some (132,false)⟩,
 ⟨10,some 134,.bin .mul .i64 (kI 2) (.t 133),some (132,false)⟩,
 ⟨11,some 135,.faddr 2 0,some (132,false)⟩,
 ⟨12,some 136,.ldL 135 155 (.c (.int .i64)),some (132,false)⟩,
 ⟨13,some 137,.cmp .lss .i64 (.t 134) (.t 136),some (132,false)⟩,
 oP 14 138 (.pick (.t 132) (kB true) (.t 137)),
 mV 15 139 138,
 ⟨16,some 140,.move (.t 6),some (139,false)⟩,
 ⟨17,some 141,.move (.t 10),some (139,false)⟩,
 ⟨18,some 142,.bin .add .i64 (.t 140) (.t 141),some (139,false)⟩,
 ⟨19,some 143,.faddr 2 2,some (139,false)⟩,
 ⟨20,some 144,.ldL 143 155 (.c (.int .i64)),some (139,false)⟩,
 ⟨21,some 145,.bin .quo .i64 (.t 144) (kI 2),some (139,false)⟩,
 ⟨22,some 146,.cmp .gtr .i64 (.t 142) (.t 145),some (139,false)⟩,
 oP 23 147 (.pick (.t 139) (kB true) (.t 146))]) (.cut [1,2,5,6,7,10,147,155] c101)) c103)
def c106:DCode:=(.seq (.region [oP 0 107 (.faddr 8 2),
 oP 1 108 (.ldL 107 156 (.c (.int .i64))),
 mV 2 10 108]) (.seq (.seq (.region [oP 0 109 (.faddr 8 0),
 oP 1 110 (.ldL 109 156 (.c (.int .i64))),
 oP 2 111 (.cmp .eql .i64 (.t 110) (kI 2))]) (.cond (.t 111) (.seq (.region [oP 0 113 (.ldL 2 155 (.agg (iS 8))),
 oP 1 114 (.faddr 8 4),
 oP 2 115 (.ldL 114 156 (.c (.int .i64))),
 oP 3 116 (.faddr 8 2),
 oP 4 117 (.ldL 116 156 (.c (.int .i64))),
 oP 5 118 (.call 26 [.t 113,.t 115,.t 117] [.c (.int .i64),.c (.int .i64)]),
 mV 6 112 118,
 oP 7 119 (.ext 112 0),
 oP 8 120 (.ext 112 1),
 mV 9 11 119,
 mV 10 12 120]) (.seq (.seq (.region [mV 0 121 12,
 oP 1 122 (.cmp .neq .i64 (.t 121) (kI 0))]) (.cond (.t 122) (.seq (.region [oP 0 4 (.move (kB false))]) .ret) .skip)) (.region [mV 0 123 11,
 mV 1 10 123]))) .skip)) (.cut [1,2,5,6,7,10,155] c104)))
def c107:DCode:=(.seq (.seq (.region [oP 0 46 (.faddr 8 0),
 oP 1 47 (.ldL 46 156 (.c (.int .i64)))]) (.block 2 (.seq (.seq (.region [oP 0 49 (.cmp .eql .i64 (.t 47) (kI 9)),
 mV 1 48 49]) (.cond (.t 48) .skip (.region [oP 0 50 (.cmp .eql .i64 (.t 47) (kI 10)),
 mV 1 48 50]))) (.cut [1,2,5,6,7,8,9,47,48,155,156] c76)))) (.cut [1,2,5,6,7,8,155,156] c106))
def c112:DCode:=(.region [mV 0 20 7,
 oP 1 21 (.bin .add .i64 (.t 20) (kI 1)),
 mV 2 7 21])
def c114:DCode:=(.seq (.seq (.region [mV 0 16 7,
 mV 1 17 1,
 oP 2 18 (.len (.t 17)),
 oP 3 19 (.cmp .lss .i64 (.t 16) (.t 18))]) (.cond (.t 19) .skip (.exit 0))) (.seq (.block 1 (.seq (.region [mV 0 22 1,
 mV 1 23 7,
 oP 2 24 (.iaddr (.t 22) (.t 23) 6),
 oP 3 25 (.ldG 24 (.agg [.int .i64,.int .i64,.int .i64,.int .i64,.int .i64,.int .u8])),
 oP 4 8 (.boxz 156 [29,33,40,46,59,63,68,72,75,82,86,91,95,101,107,109,114,116] [.int .i64 0,.int .i64 0,.int .i64 0,.int .i64 0,.int .i64 0,.int .u8 0]),
 ⟨5,none,.stL 8 156 (.t 25) 6,none⟩]) (.seq (.region [mV 0 26 5,
 mV 1 27 7,
 oP 2 28 (.iaddr (.t 26) (.t 27) 1),
 ⟨3,none,.stG 28 (kI (-1)) 1,none⟩]) (.seq (.region [oP 0 29 (.faddr 8 1),
 oP 1 30 (.ldL 29 156 (.c (.int .i64))),
 oP 2 31 (.cmp .geq .i64 (.t 30) (kI 0)),
 mV 3 32 31,
 ⟨4,some 33,.faddr 8 1,some (32,true)⟩,
 ⟨5,some 34,.ldL 33 156 (.c (.int .i64)),some (32,true)⟩,
 ⟨6,some 35,.move (.t 7),some (32,true)⟩,
 ⟨7,some 36,.cmp .lss .i64 (.t 34) (.t 35),some (32,true)⟩,
 oP 8 37 (.pick (.t 32) (.t 36) (kB false)),
 mV 9 38 37,
 ⟨10,some 39,.move (.t 5),some (38,true)⟩,
 ⟨11,some 40,.faddr 8 1,some (38,true)⟩,
 ⟨12,some 41,.ldL 40 156 (.c (.int .i64)),some (38,true)⟩,
 ⟨13,some 42,.iaddr (.t 39) (.t 41) 1,some (38,true)⟩,
 ⟨14,some 43,.ldG 42 (.c (.int .i64)),some (38,true)⟩,
 ⟨15,some 44,.cmp .geq .i64 (.t 43) (kI 0),some (38,true)⟩,
 oP 16 45 (.pick (.t 38) (.t 44) (kB false)),
 mV 17 9 45]) (.cut [1,2,5,6,7,8,9,155,156] c107))))) (.cut [1,2,5,6,7,155] c112)))
def c115:DCode:=(.loop [1,2,5,6,7,155] c114)
def c120:DCode:=(.seq (.region [oP 0 4 (.move (kB true))]) .ret)
def d:DFn:={ ntmps:=157,res:=[.t 4],body:=(.seq (.region [oP 0 2 (.boxv 155 [128,135,143] (.t 0) 8),
 oP 1 4 (.move (kB false))]) (.seq (.region [mV 0 13 1,
 oP 1 14 (.len (.t 13)),
 oP 2 15 (.mkslice (.t 14) 1 8 [.int .i64 0]),
 mV 3 5 15]) (.seq (.region [oP 0 6 (.move (kI 0))]) (.seq (.seq (.region [oP 0 7 (.move (kI 0))]) (.block 0 c115)) c120)))) }
def k120:Kont:=execC M.j C (M.ag C) c120 ({ exits:=[],ret:=retK d }:Env) (retK d)
def e116:Env:={ exits:=(0,(k120 M C))::(({ exits:=[],ret:=retK d }:Env)).exits,ret:=(({ exits:=[],ret:=retK d }:Env)).ret }
def L115 (a b c d e f:Nat) (g h i j k l m n o p:Int) (G:GH):Option Res:=M.ag C [1,2,5,6,7,155] c114 (e116 M C) (k120 M C) (uS 1 (vS 6 a b c::(.ref 155 0::(uS 2 (vS 1 d e f::(vI g::(vI h::(uS 147 (.box [.int .i64 i,.int .i64 j,.int .i64 k,.int .i64 l,.int .i64 m,.int .i64 n,.int .i64 o,.int .i64 p]::(uS 1 [])))))))))) G
def k115:Kont:=fun tm G=>M.ag C [1,2,5,6,7,155] c114 (e116 M C) (k120 M C) (restr [1,2,5,6,7,155] 0 tm) G
def k112:Kont:=execC M.j C (M.ag C) (.cut [1,2,5,6,7,155] c112) (e116 M C) (k115 M C)
def e111:Env:={ exits:=(1,(k112 M C))::((e116 M C)).exits,ret:=((e116 M C)).ret }
def J107 (a b c d e f:Nat) (g h:Int) (i:Bool) (k l m n o p q r s t v w x y:Int) (G:GH):Option Res:=M.j (execC M.j C (M.ag C) c107 (e111 M C) (k112 M C)) (uS 1 (vS 6 a b c::(.ref 155 0::(uS 2 (vS 1 d e f::(vI g::(vI h::(.ref 156 0::(vB i::(uS 145 (.box [.int .i64 k,.int .i64 l,.int .i64 m,.int .i64 n,.int .i64 o,.int .i64 p,.int .i64 q,.int .i64 r]::(.box [.int .i64 s,.int .i64 t,.int .i64 v,.int .i64 w,.int .i64 x,.int .u8 y]::[])))))))))))) G
def k106:Kont:=execC M.j C (M.ag C) (.cut [1,2,5,6,7,8,155,156] c106) (e111 M C) (k112 M C)
def e78:Env:={ exits:=(2,(k106 M C))::((e111 M C)).exits,ret:=((e111 M C)).ret }
def J76 (a b c d e f:Nat) (g h:Int) (i:Bool) (k:Int) (l:Bool) (m n o p q r s t v w x y z A:Int) (G:GH):Option Res:=M.j (execC M.j C (M.ag C) c76 (e78 M C) (k106 M C)) (uS 1 (vS 6 a b c::(.ref 155 0::(uS 2 (vS 1 d e f::(vI g::(vI h::(.ref 156 0::(vB i::(uS 37 (vI k::(vB l::(uS 106 (.box [.int .i64 m,.int .i64 n,.int .i64 o,.int .i64 p,.int .i64 q,.int .i64 r,.int .i64 s,.int .i64 t]::(.box [.int .i64 v,.int .i64 w,.int .i64 x,.int .i64 y,.int .i64 z,.int .u8 A]::[]))))))))))))))) G
def J112 (a b c d e f:Nat) (g h i k l m n o p q:Int) (G:GH):Option Res:=M.j (execC M.j C (M.ag C) c112 (e116 M C) (k115 M C)) (uS 1 (vS 6 a b c::(.ref 155 0::(uS 2 (vS 1 d e f::(vI g::(vI h::(uS 147 (.box [.int .i64 i,.int .i64 k,.int .i64 l,.int .i64 m,.int .i64 n,.int .i64 o,.int .i64 p,.int .i64 q]::(uS 1 [])))))))))) G
def J74 (a b c d e f:Nat) (g h:Int) (i:Bool) (k:Int) (l:Bool) (m n o p q r s t v w x y z A:Int) (G:GH):Option Res:=M.j (execC M.j C (M.ag C) c74 (e78 M C) (k106 M C)) (uS 1 (vS 6 a b c::(.ref 155 0::(uS 2 (vS 1 d e f::(vI g::(vI h::(.ref 156 0::(vB i::(uS 37 (vI k::(uS 3 (vB l::(uS 103 (.box [.int .i64 m,.int .i64 n,.int .i64 o,.int .i64 p,.int .i64 q,.int .i64 r,.int .i64 s,.int .i64 t]::(.box [.int .i64 v,.int .i64 w,.int .i64 x,.int .i64 y,.int .i64 z,.int .u8 A]::[])))))))))))))))) G
def k60:Kont:=execC M.j C (M.ag C) c60 (e78 M C) (k106 M C)
def J48 (a b c d e f:Nat) (g h:Int) (i:Bool) (k l m n o p q r s t v w x y:Int) (G:GH):Option Res:=M.j (execC M.j C (M.ag C) c48 (e78 M C) (k60 M C)) (uS 1 (vS 6 a b c::(.ref 155 0::(uS 2 (vS 1 d e f::(vI g::(vI h::(.ref 156 0::(uS 72 (vB i::(uS 73 (.box [.int .i64 k,.int .i64 l,.int .i64 m,.int .i64 n,.int .i64 o,.int .i64 p,.int .i64 q,.int .i64 r]::(.box [.int .i64 s,.int .i64 t,.int .i64 v,.int .i64 w,.int .i64 x,.int .u8 y]::[]))))))))))))) G
def J72 (a b c d e f:Nat) (g h:Int) (i:Bool) (k l m n o p q r s t v w x y:Int) (G:GH):Option Res:=M.j (execC M.j C (M.ag C) c72 (e78 M C) (k106 M C)) (uS 1 (vS 6 a b c::(.ref 155 0::(uS 2 (vS 1 d e f::(vI g::(vI h::(.ref 156 0::(uS 95 (vB i::(uS 50 (.box [.int .i64 k,.int .i64 l,.int .i64 m,.int .i64 n,.int .i64 o,.int .i64 p,.int .i64 q,.int .i64 r]::(.box [.int .i64 s,.int .i64 t,.int .i64 v,.int .i64 w,.int .i64 x,.int .u8 y]::[]))))))))))))) G
def k59:Kont:=execC M.j C (M.ag C) (.cut [1,2,5,6,7,8,155,156] c59) (e78 M C) (k106 M C)
def J53 (a b c d e f:Nat) (g h:Int) (i:Bool) (k l m n o p q r s t v w x y:Int) (G:GH):Option Res:=M.j (execC M.j C (M.ag C) c53 (e78 M C) (k59 M C)) (uS 1 (vS 6 a b c::(.ref 155 0::(uS 2 (vS 1 d e f::(vI g::(vI h::(.ref 156 0::(uS 80 (vB i::(uS 65 (.box [.int .i64 k,.int .i64 l,.int .i64 m,.int .i64 n,.int .i64 o,.int .i64 p,.int .i64 q,.int .i64 r]::(.box [.int .i64 s,.int .i64 t,.int .i64 v,.int .i64 w,.int .i64 x,.int .u8 y]::[]))))))))))))) G
def J106 (a b c d e f:Nat) (g h i k l m n o p q r s t v w x:Int) (G:GH):Option Res:=M.j (execC M.j C (M.ag C) c106 (e111 M C) (k112 M C)) (uS 1 (vS 6 a b c::(.ref 155 0::(uS 2 (vS 1 d e f::(vI g::(vI h::(.ref 156 0::(uS 146 (.box [.int .i64 i,.int .i64 k,.int .i64 l,.int .i64 m,.int .i64 n,.int .i64 o,.int .i64 p,.int .i64 q]::(.box [.int .i64 r,.int .i64 s,.int .i64 t,.int .i64 v,.int .i64 w,.int .u8 x]::[]))))))))))) G
def J59 (a b c d e f:Nat) (g h i k l m n o p q r s t v w x:Int) (G:GH):Option Res:=M.j (execC M.j C (M.ag C) c59 (e78 M C) (k106 M C)) (uS 1 (vS 6 a b c::(.ref 155 0::(uS 2 (vS 1 d e f::(vI g::(vI h::(.ref 156 0::(uS 146 (.box [.int .i64 i,.int .i64 k,.int .i64 l,.int .i64 m,.int .i64 n,.int .i64 o,.int .i64 p,.int .i64 q]::(.box [.int .i64 r,.int .i64 s,.int .i64 t,.int .i64 v,.int .i64 w,.int .u8 x]::[]))))))))))) G
def J104 (a b c d e f:Nat) (g h i k l m n o p q r:Int) (G:GH):Option Res:=M.j (execC M.j C (M.ag C) c104 (e111 M C) (k112 M C)) (uS 1 (vS 6 a b c::(.ref 155 0::(uS 2 (vS 1 d e f::(vI g::(vI h::(uS 2 (vI i::(uS 144 (.box [.int .i64 k,.int .i64 l,.int .i64 m,.int .i64 n,.int .i64 o,.int .i64 p,.int .i64 q,.int .i64 r]::(uS 1 [])))))))))))) G
def k103:Kont:=execC M.j C (M.ag C) c103 (e111 M C) (k112 M C)
def J101 (a b c d e f:Nat) (g h i:Int) (k:Bool) (l m n o p q r s:Int) (G:GH):Option Res:=M.j (execC M.j C (M.ag C) c101 (e111 M C) (k103 M C)) (uS 1 (vS 6 a b c::(.ref 155 0::(uS 2 (vS 1 d e f::(vI g::(vI h::(uS 2 (vI i::(uS 136 (vB k::(uS 7 (.box [.int .i64 l,.int .i64 m,.int .i64 n,.int .i64 o,.int .i64 p,.int .i64 q,.int .i64 r,.int .i64 s]::(uS 1 [])))))))))))))) G
theorem L115_eq (b d f g h i:Nat) (j a k l m n o p q r:Int) (G:GH):L115 M C b d f g h i j a k l m n o p q r G=(bif decide (a<((f:Nat):Int)) then guardK (decide (0≤a∧a<((f:Nat):Int))) (((G.ld b ((d+Int.toNat a*6)+0)).bind (Cell.asI .i64)).bind fun t=>((G.ld b ((d+Int.toNat a*6)+1)).bind (Cell.asI .i64)).bind fun e=>((G.ld b ((d+Int.toNat a*6)+2)).bind (Cell.asI .i64)).bind fun v=>((G.ld b ((d+Int.toNat a*6)+3)).bind (Cell.asI .i64)).bind fun w=>((G.ld b ((d+Int.toNat a*6)+4)).bind (Cell.asI .i64)).bind fun x=>((G.ld b ((d+Int.toNat a*6)+5)).bind (Cell.asI .u8)).bind fun y=>guardK (decide (0≤a∧a<((i:Nat):Int))) ((G.sts g (h+Int.toNat a*1) [.int .i64 (-1)]).bind fun s=>bif decide (e≥0) then bif decide (e<a) then guardK (decide (0≤e∧e<((i:Nat):Int))) (((s.ld g (h+Int.toNat e*1)).bind (Cell.asI .i64)).bind fun z=>J107 M C b d f g h i j a (decide (z≥0)) k l m n o p q r t e v w x y s) else J107 M C b d f g h i j a false k l m n o p q r t e v w x y s else J107 M C b d f g h i j a false k l m n o p q r t e v w x y s)) else some ([.c (.bool true)],G)):=(M.hs _ _ _ _ _ _ _).trans (by kernel_rfl)
theorem J107_eq (b c d e f g:Nat) (h i:Int) (j:Bool) (k l m n o p q r a s t v w x:Int) (G:GH):J107 M C b c d e f g h i j k l m n o p q r a s t v w x G=(bif decide (a=9) then J76 M C b c d e f g h i j a (decide (a=9)) k l m n o p q r a s t v w x G else J76 M C b c d e f g h i j a (decide (a=10)) k l m n o p q r a s t v w x G):=(M.hj _ _ _).trans (by kernel_rfl)
theorem J76_eq (b c d e f g:Nat) (h i:Int) (r:Bool) (a:Int) (z:Bool) (j k l m n o p q s t v w x y:Int) (G:GH):J76 M C b c d e f g h i r a z j k l m n o p q s t v w x y G=(bif z then J112 M C b c d e f g h i j k l m n o p q G else bif decide (a=5) then J74 M C b c d e f g h i r a (decide (a=5)) j k l m n o p q s t v w x y G else bif decide (a=6) then J74 M C b c d e f g h i r a (decide (a=6)) j k l m n o p q s t v w x y G else bif decide (a=7) then J74 M C b c d e f g h i r a (decide (a=7)) j k l m n o p q s t v w x y G else bif decide (a=8) then J74 M C b c d e f g h i r a (decide (a=8)) j k l m n o p q s t v w x y G else J74 M C b c d e f g h i r a (decide (a=4)) j k l m n o p q s t v w x y G):=(M.hj _ _ _).trans (by kernel_rfl)
theorem J112_eq (a b c d e f:Nat) (g h i j k l m n o p:Int) (G:GH):J112 M C a b c d e f g h i j k l m n o p G=(L115 M C a b c d e f g (IntKind.i64.wrap (h+1)) i j k l m n o p G):=(M.hj _ _ _).trans (by kernel_rfl)
theorem J74_eq (h i j d e f:Nat) (k l:Int) (z:Bool) (y:Int) (A:Bool) (m n o p q r s t g a v w b x:Int) (G:GH):J74 M C h i j d e f k l z y A m n o p q r s t g a v w b x G=(bif A then bif (!z) then some ([.c (.bool false)],G) else bif decide (g=7) then bif decide (b<0) then J48 M C h i j d e f k l true m n o p q r s t g a v w b x G else guardK (decide (0≤a∧a<((f:Nat):Int))) (((G.ld d (e+Int.toNat a*1)).bind (Cell.asI .i64)).bind fun B=>J48 M C h i j d e f k l (decide (b≥B)) m n o p q r s t g a v w b x G) else bif decide (g=8) then bif decide (b<0) then J48 M C h i j d e f k l true m n o p q r s t g a v w b x G else guardK (decide (0≤a∧a<((f:Nat):Int))) (((G.ld d (e+Int.toNat a*1)).bind (Cell.asI .i64)).bind fun D=>J48 M C h i j d e f k l (decide (b≥D)) m n o p q r s t g a v w b x G) else J48 M C h i j d e f k l false m n o p q r s t g a v w b x G else bif decide (y=1) then J72 M C h i j d e f k l (decide (y=1)) m n o p q r s t g a v w b x G else J72 M C h i j d e f k l (decide (y=2)) m n o p q r s t g a v w b x G):=(M.hj _ _ _).trans (by kernel_rfl)
theorem J48_eq (b d e f g h:Nat) (i j:Int) (y:Bool) (k l m n o p q r a s t v w x:Int) (G:GH):J48 M C b d e f g h i j y k l m n o p q r a s t v w x G=(bif y then some ([.c (.bool false)],G) else bif decide (a=5) then J53 M C b d e f g h i j true k l m n o p q r a s t v w x G else J53 M C b d e f g h i j (decide (a=4)) k l m n o p q r a s t v w x G):=(M.hj _ _ _).trans (by kernel_rfl)
theorem J72_eq (a b d e f g:Nat) (h i:Int) (j:Bool) (k l m n o p q r s t v w x y:Int) (G:GH):J72 M C a b d e f g h i j k l m n o p q r s t v w x y G=(bif j then J106 M C a b d e f g h i k l m n o p q r s t v w x y G else some ([.c (.bool false)],G)):=(M.hj _ _ _).trans (by kernel_rfl)
theorem J53_eq (e f g b c d:Nat) (h i:Int) (x:Bool) (j k l m n o p q r a s t v w:Int) (G:GH):J53 M C e f g b c d h i x j k l m n o p q r a s t v w G=(bif x then guardK (decide (0≤a∧a<((d:Nat):Int))) (((G.ld b (c+Int.toNat a*1)).bind (Cell.asI .i64)).bind fun y=>guardK (decide (0≤a∧a<((d:Nat):Int))) ((G.sts b (c+Int.toNat a*1) [.int .i64 (-1)]).bind fun z=>J59 M C e f g b c d (IntKind.i64.wrap (h-y)) i j k l m n o p q r a s t v w z)) else J59 M C e f g b c d h i j k l m n o p q r a s t v w G):=(M.hj _ _ _).trans (by kernel_rfl)
theorem J106_eq (k l m n o p:Nat) (q r a b d e f g h i t w s x v y:Int) (G:GH):J106 M C k l m n o p q r a b d e f g h i t w s x v y G=(bif decide (t=2) then (C F11.id [.agg [.int .i64 a,.int .i64 b,.int .i64 d,.int .i64 e,.int .i64 f,.int .i64 g,.int .i64 h,.int .i64 i],.c (.int .i64 v),.c (.int .i64 s)] G).bind fun j=>(((j.1[0]?).bind V1.c?).bind (Cell.asI .i64)).bind fun z=>(((j.1[1]?).bind V1.c?).bind (Cell.asI .i64)).bind fun A=>bif (!decide (A=0)) then some ([.c (.bool false)],j.2) else J104 M C k l m n o p q r z a b d e f g h i j.2 else J104 M C k l m n o p q r s a b d e f g h i G):=(M.hj _ _ _).trans (by kernel_rfl)
theorem J59_eq (a b c d e f:Nat) (g h i j k l m n o p q r s t v w:Int) (G:GH):J59 M C a b c d e f g h i j k l m n o p q r s t v w G=(bif (!decide (q=4)) then J112 M C a b c d e f g h i j k l m n o p G else J106 M C a b c d e f g h i j k l m n o p q r s t v w G):=(M.hj _ _ _).trans (by kernel_rfl)
theorem J104_eq (f g h i j k:Nat) (b l a c d e m n o p q:Int) (G:GH):J104 M C f g h i j k b l a c d e m n o p q G=(bif decide (a<1) then J101 M C f g h i j k b l a true c d e m n o p q G else bif decide (a>d) then J101 M C f g h i j k b l a true c d e m n o p q G else bif decide (IntKind.i64.wrap (2*a)<c) then J101 M C f g h i j k b l a true c d e m n o p q G else J101 M C f g h i j k b l a (decide (IntKind.i64.wrap (b+a)>IntKind.i64.wrap (Int.tdiv e 2))) c d e m n o p q G):=(M.hj _ _ _).trans (by kernel_rfl)
theorem J101_eq (g h i b d e:Nat) (j a f:Int) (k:Bool) (l m n o p q r s:Int) (G:GH):J101 M C g h i b d e j a f k l m n o p q r s G=(bif k then some ([.c (.bool false)],G) else guardK (decide (0≤a∧a<((e:Nat):Int))) ((G.sts b (d+Int.toNat a*1) [.int .i64 f]).bind fun t=>J112 M C g h i b d e (IntKind.i64.wrap (j+f)) a l m n o p q r s t)):=(M.hj _ _ _).trans (by kernel_rfl)
def f (b c d e g h i j:Int) (k l a:Nat) (G:GH):Option Res:=guardK (decide (0≤((a:Nat):Int)∧((a:Nat):Int)≤(most:Int))) (let m:=G.alloc (.row (reps (Int.toNat ((a:Nat):Int)) [.int .i64 0]) false);L115 M C k l a G.next 0 (Int.toNat ((a:Nat):Int)) 0 0 b c d e g h i j m)
theorem eq (a b e g h i j k:Int) (l m n:Nat) (G:GH):runF M C d [.agg [.int .i64 a,.int .i64 b,.int .i64 e,.int .i64 g,.int .i64 h,.int .i64 i,.int .i64 j,.int .i64 k],.c (.sl 6 l m n)] G=f M C a b e g h i j k l m n G:=by kernel_rfl
end F16
namespace F87
def c6:DCode:=(.cond (.t 35) (.seq (.region [oP 0 36 (.build (zI 8) []),
 ⟨1,none,.stL 2 108 (.t 36) 8,none⟩,
 oP 2 3 (.move (kI 1))]) .ret) .skip)
def c32:DCode:=(.seq (.region [oP 0 37 (.faddr 1 4),
 oP 1 38 (.ldL 37 107 (.c (.int .i64))),
 oP 2 39 (.faddr 1 5),
 oP 3 40 (.ldL 39 107 (.c (.int .i64))),
 oP 4 41 (.build (zI 8) [(5,1,.t 38),(7,1,.t 40)]),
 oP 5 4 (.boxz 109 [48,52,58,62,68,72,74,81,83,85,91,92,94,96,101,102] (zI 8)),
 ⟨6,none,.stL 4 109 (.t 41) 8,none⟩]) (.seq (.region [oP 0 43 (.faddr 1 0),
 oP 1 44 (.ldL 43 107 (.c (.int .i64))),
 oP 2 45 (.call 36 [.t 44] [.c (.int .i64),.c (.bool)]),
 mV 3 42 45,
 oP 4 46 (.ext 42 0),
 oP 5 47 (.ext 42 1),
 oP 6 48 (.faddr 4 0),
 ⟨7,none,.stL 48 109 (.t 46) 1,none⟩]) (.seq (.region [oP 0 50 (.faddr 1 1),
 oP 1 51 (.ldL 50 107 (.c (.int .i64))),
 oP 2 52 (.faddr 4 0),
 oP 3 53 (.ldL 52 109 (.c (.int .i64))),
 oP 4 54 (.mx (.t 51) [.t 53]),
 oP 5 55 (.call 36 [.t 54] [.c (.int .i64),.c (.bool)]),
 mV 6 49 55,
 oP 7 56 (.ext 49 0),
 oP 8 57 (.ext 49 1),
 oP 9 58 (.faddr 4 1),
 ⟨10,none,.stL 58 109 (.t 56) 1,none⟩]) (.seq (.region [oP 0 60 (.faddr 1 3),
 oP 1 61 (.ldL 60 107 (.c (.int .i64))),
 oP 2 62 (.faddr 4 0),
 oP 3 63 (.ldL 62 109 (.c (.int .i64))),
 oP 4 64 (.mx (.t 61) [.t 63]),
 oP 5 65 (.call 36 [.t 64] [.c (.int .i64),.c (.bool)]),
 mV 6 59 65,
 oP 7 66 (.ext 59 0),
 oP 8 67 (.ext 59 1),
 oP 9 68 (.faddr 4 4),
 ⟨10,none,.stL 68 109 (.t 66) 1,none⟩]) (.seq (.region [oP 0 70 (.faddr 1 2),
 oP 1 71 (.ldL 70 107 (.c (.int .i64))),
 oP 2 72 (.faddr 4 1),
 oP 3 73 (.ldL 72 109 (.c (.int .i64))),
 oP 4 74 (.faddr 4 4),
 oP 5 75 (.ldL 74 109 (.c (.int .i64))),
 oP 6 76 (.mx (.t 73) [.t 75]),
 oP 7 77 (.bin .shl .i64 (.t 76) (.k (.c (.int .u64 1)))),
 oP 8 78 (.call 37 [.t 71,.t 77] [.c (.int .i64),.c (.bool)]),
 mV 9 69 78,
 oP 10 79 (.ext 69 0),
 oP 11 80 (.ext 69 1),
 oP 12 81 (.faddr 4 2),
 ⟨13,none,.stL 81 109 (.t 79) 1,none⟩]) (.seq (.region [oP 0 83 (.faddr 4 1),
 oP 1 84 (.ldL 83 109 (.c (.int .i64))),
 oP 2 85 (.faddr 4 0),
 oP 3 86 (.ldL 85 109 (.c (.int .i64))),
 oP 4 87 (.bin .quo .i64 (.t 84) (.t 86)),
 oP 5 88 (.call 38 [.t 87] [.c (.int .i64),.c (.bool)]),
 mV 6 82 88,
 oP 7 89 (.ext 82 0),
 oP 8 90 (.ext 82 1),
 oP 9 91 (.faddr 4 3),
 ⟨10,none,.stL 91 109 (.t 89) 1,none⟩]) (.seq (.region [oP 0 92 (.faddr 4 2),
 oP 1 93 (.ldL 92 109 (.c (.int .i64))),
 oP 2 94 (.faddr 4 3),
 oP 3 95 (.ldL 94 109 (.c (.int .i64))),
 oP 4 96 (.faddr 4 2),
 oP 5 97 (.ldL 96 109 (.c (.int .i64))),
 oP 6 98 (.bin .shr .i64 (.t 97) (.k (.c (.int .u64 1)))),
 oP 7 99 (.bin .mul .i64 (.t 95) (.t 98)),
 oP 8 100 (.bin .add .i64 (.t 93) (.t 99)),
 oP 9 101 (.faddr 4 6),
 ⟨10,none,.stL 101 109 (.t 100) 1,none⟩]) (.seq (.seq (.region [oP 0 102 (.faddr 4 6),
 oP 1 103 (.ldL 102 109 (.c (.int .i64))),
 oP 2 104 (.cmp .gtr .i64 (.t 103) (kI 65536))]) (.cond (.t 104) (.seq (.region [oP 0 105 (.build (zI 8) []),
 ⟨1,none,.stL 2 108 (.t 105) 8,none⟩,
 oP 2 3 (.move (kI 1))]) .ret) .skip)) (.seq (.region [oP 0 106 (.ldL 4 109 (.agg (iS 8))),
 ⟨1,none,.stL 2 108 (.t 106) 8,none⟩,
 oP 2 3 (.move (kI 0))]) .ret)))))))))
def d:DFn:={ ntmps:=110,res:=[.box 2 (some 8),.t 3],body:=(.seq (.region [oP 0 1 (.boxv 107 [5,7,9,11,17,22,27,32,37,39,43,50,60,70] (.t 0) 6),
 oP 1 2 (.boxz 108 [] (zI 8)),
 oP 2 3 (.move (kI 0))]) (.seq (.seq (.region [oP 0 5 (.faddr 1 0),
 oP 1 6 (.ldL 5 107 (.c (.int .i64))),
 oP 2 7 (.faddr 1 1),
 oP 3 8 (.ldL 7 107 (.c (.int .i64))),
 oP 4 9 (.faddr 1 2),
 oP 5 10 (.ldL 9 107 (.c (.int .i64))),
 oP 6 11 (.faddr 1 3),
 oP 7 12 (.ldL 11 107 (.c (.int .i64))),
 oP 8 13 (.bslice 4 1 (zI 4) [(0,1,.t 6),(1,1,.t 8),(2,1,.t 10),(3,1,.t 12)]),
 oP 9 14 (.call 35 [.t 13] [.c (.bool)]),
 oP 10 15 (.not (.t 14)),
 mV 11 16 15,
 ⟨12,some 17,.faddr 1 4,some (16,false)⟩,
 ⟨13,some 18,.ldL 17 107 (.c (.int .i64)),some (16,false)⟩,
 ⟨14,some 19,.cmp .lss .i64 (.t 18) (kI 0),some (16,false)⟩,
 oP 15 20 (.pick (.t 16) (kB true) (.t 19)),
 mV 16 21 20,
 ⟨17,some 22,.faddr 1 4,some (21,false)⟩,
 ⟨18,some 23,.ldL 22 107 (.c (.int .i64)),some (21,false)⟩,
 ⟨19,some 24,.cmp .gtr .i64 (.t 23) (kI 65536),some (21,false)⟩,
 oP 20 25 (.pick (.t 21) (kB true) (.t 24)),
 mV 21 26 25,
 ⟨22,some 27,.faddr 1 5,some (26,false)⟩,
 ⟨23,some 28,.ldL 27 107 (.c (.int .i64)),some (26,false)⟩,
 ⟨24,some 29,.cmp .lss .i64 (.t 28) (kI 0),some (26,false)⟩,
 oP 25 30 (.pick (.t 26) (kB true) (.t 29)),
 mV 26 31 30,
 ⟨27,some 32,.faddr 1 5,some (31,false)⟩,
 ⟨28,some 33,.ldL 32 107 (.c (.int .i64)),some (31,false)⟩,
 ⟨29,some 34,.cmp .gtr .i64 (.t 33) (kI 255),some (31,false)⟩,
 oP 30 35 (.pick (.t 31) (kB true) (.t 34))]) (.cut [1,2,35,107,108] c6)) c32)) }
def k32:Kont:=execC M.j C (M.ag C) c32 ({ exits:=[],ret:=retK d }:Env) (retK d)
def J6 (a:Bool) (b c e f g h i k l m n o p q:Int) (G:GH):Option Res:=M.j (execC M.j C (M.ag C) c6 ({ exits:=[],ret:=retK d }:Env) (k32 M C)) (uS 1 (.ref 107 0::(.ref 108 0::(uS 32 (vB a::(uS 71 (.box [.int .i64 b,.int .i64 c,.int .i64 e,.int .i64 f,.int .i64 g,.int .i64 h]::(.box [.int .i64 i,.int .i64 k,.int .i64 l,.int .i64 m,.int .i64 n,.int .i64 o,.int .i64 p,.int .i64 q]::(uS 1 []))))))))) G
theorem J6_eq (k:Bool) (l m n o p q s t v w x y z A:Int) (G:GH):J6 M C k l m n o p q s t v w x y z A G=(bif k then some ([.agg [.int .i64 0,.int .i64 0,.int .i64 0,.int .i64 0,.int .i64 0,.int .i64 0,.int .i64 0,.int .i64 0],.c (.int .i64 1)],G) else (C F86.id [.c (.int .i64 l)] G).bind fun e=>(((e.1[0]?).bind V1.c?).bind (Cell.asI .i64)).bind fun b=>(((e.1[1]?).bind V1.c?).bind Cell.asB).bind fun D=>(C F86.id [.c (.int .i64 (mx2 m b))] e.2).bind fun f=>(((f.1[0]?).bind V1.c?).bind (Cell.asI .i64)).bind fun g=>(((f.1[1]?).bind V1.c?).bind Cell.asB).bind fun E=>(C F86.id [.c (.int .i64 (mx2 o b))] f.2).bind fun h=>(((h.1[0]?).bind V1.c?).bind (Cell.asI .i64)).bind fun r=>(((h.1[1]?).bind V1.c?).bind Cell.asB).bind fun F=>(C F52.id [.c (.int .i64 n),.c (.int .i64 (IntKind.i64.wrap ((mx2 g r)*2 ^ (min (1:Int).toNat IntKind.i64.bits))))] h.2).bind fun i=>(((i.1[0]?).bind V1.c?).bind (Cell.asI .i64)).bind fun a=>(((i.1[1]?).bind V1.c?).bind Cell.asB).bind fun H=>(binD .quo .i64 g b).bind fun B=>(C F74.id [.c (.int .i64 B)] i.2).bind fun d=>(((d.1[0]?).bind V1.c?).bind (Cell.asI .i64)).bind fun j=>(((d.1[1]?).bind V1.c?).bind Cell.asB).bind fun I=>bif decide (IntKind.i64.wrap (a+(IntKind.i64.wrap (j*(Int.fdiv a (2 ^ (min (1:Int).toNat IntKind.i64.bits))))))>65536) then some ([.agg [.int .i64 0,.int .i64 0,.int .i64 0,.int .i64 0,.int .i64 0,.int .i64 0,.int .i64 0,.int .i64 0],.c (.int .i64 1)],d.2) else some ([.agg [.int .i64 b,.int .i64 g,.int .i64 a,.int .i64 j,.int .i64 r,.int .i64 p,.int .i64 (IntKind.i64.wrap (a+(IntKind.i64.wrap (j*(Int.fdiv a (2 ^ (min (1:Int).toNat IntKind.i64.bits))))))),.int .i64 q],.c (.int .i64 0)],d.2)):=(M.hj _ _ _).trans (by kernel_rfl)
def f (d e g h a b:Int) (G:GH):Option Res:=let j:=G.alloc (.row [.int .i64 d,.int .i64 e,.int .i64 g,.int .i64 h] false);(C F43.id [.c (.sl 1 G.next 0 4)] j).bind fun i=>(((i.1[0]?).bind V1.c?).bind Cell.asB).bind fun k=>bif (!k) then J6 M C true d e g h a b 0 0 0 0 0 0 0 0 i.2 else bif decide (a<0) then J6 M C true d e g h a b 0 0 0 0 0 0 0 0 i.2 else bif decide (a>65536) then J6 M C true d e g h a b 0 0 0 0 0 0 0 0 i.2 else bif decide (b<0) then J6 M C true d e g h a b 0 0 0 0 0 0 0 0 i.2 else J6 M C (decide (b>255)) d e g h a b 0 0 0 0 0 0 0 0 i.2
theorem eq (a b c e g h:Int) (G:GH):runF M C d [.agg [.int .i64 a,.int .i64 b,.int .i64 c,.int .i64 e,.int .i64 g,.int .i64 h]] G=f M C a b c e g h G:=by kernel_rfl
end F87
namespace F37
def d:DFn:={ ntmps:=6,res:=[.t 2],body:=(.seq (.region [oP 0 2 (.move (kI 0))]) (.seq (.region [mV 0 3 0,
 oP 1 4 (.bin .xor .u64 (.k (.c (.int .u64 18446744073709551615))) (.t 3)),
 oP 2 5 (.call 105 [.t 4] [.c (.int .i64)]),
 mV 3 2 5]) .ret)) }
def f (M:Mach) (C:Call) (b:Int) (G:GH):Option Res:=(C F46.id [.c (.int .u64 (IntKind.u64.wrap (((BitVec.ofInt IntKind.u64.bits 18446744073709551615) ^^^ (BitVec.ofInt IntKind.u64.bits b)).toNat:Int)))] G).bind fun a=>(((a.1[0]?).bind V1.c?).bind (Cell.asI .i64)).bind fun d=>some ([.c (.int .i64 d)],a.2)
theorem eq (a:Int) (G:GH):runF M C d [.c (.int .u64 a)] G=f M C a G:=by kernel_rfl
end F37

end Go.Proofs.D
