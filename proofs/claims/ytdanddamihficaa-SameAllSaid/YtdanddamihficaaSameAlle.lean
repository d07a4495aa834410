/- Texts of the proof (T3); no condition. -/
import Derived.Test.YtdanddamihficaaSameAlla
import Derived.KernelRfl
set_option linter.unusedSimpArgs false
set_option linter.unusedVariables false
set_option linter.unusedVariables false
set_option maxRecDepth 100000
namespace Go.Proofs.D
open Go
/- 60 hodman/hodmanref1.Product -/
def hodmanref1_Product.c6 : DCode := (.cond (.t 15) (.seq (.region [⟨0, some 6, .move (.k (.c (.int .i64 0))), none⟩,
    ⟨1, some 7, .move (.k (.c (.int .i64 2))), none⟩]) .ret) .skip)
def hodmanref1_Product.c14 : DCode := (.cond (.t 29) (.seq (.region [⟨0, some 6, .move (.k (.c (.int .i64 0))), none⟩,
    ⟨1, some 7, .move (.k (.c (.int .i64 4))), none⟩]) .ret) .skip)
def hodmanref1_Product.c18 : DCode := (.seq (.region [⟨0, some 30, .move (.t 8), none⟩,
    ⟨1, some 6, .move (.t 30), none⟩,
    ⟨2, some 7, .move (.k (.c (.int .i64 0))), none⟩]) .ret)
def hodmanref1_Product.c20 : DCode := (.seq (.region [⟨0, some 17, .move (.t 1), none⟩,
    ⟨1, some 18, .move (.t 2), none⟩,
    ⟨2, some 19, .call 72 [.t 17, .t 18] [.c (.int .i64), .c (.bool)], none⟩,
    ⟨3, some 16, .move (.t 19), none⟩,
    ⟨4, some 20, .ext 16 0, none⟩,
    ⟨5, some 21, .ext 16 1, none⟩,
    ⟨6, some 8, .move (.t 20), none⟩,
    ⟨7, some 9, .move (.t 21), none⟩]) (.seq (.seq (.region [⟨0, some 22, .move (.t 9), none⟩,
    ⟨1, some 23, .not (.t 22), none⟩,
    ⟨2, some 24, .move (.t 23), none⟩,
    ⟨3, some 25, .move (.t 8), some (24, false)⟩,
    ⟨4, some 26, .faddr 3 1, some (24, false)⟩,
    ⟨5, some 27, .ldL 26 31 (.c (.int .i64)), some (24, false)⟩,
    ⟨6, some 28, .cmp .gtr .i64 (.t 25) (.t 27), some (24, false)⟩,
    ⟨7, some 29, .pick (.t 24) (.k (.c (.bool true))) (.t 28), none⟩]) (.cut [8, 29] hodmanref1_Product.c14)) hodmanref1_Product.c18))
def hodmanref1_Product.d : DFn := { ntmps := 32, res := [.t 6, .t 7], body := (.seq (.region [⟨0, some 3, .boxv 31 [26] (.t 0) 8, none⟩,
    ⟨1, some 6, .move (.k (.c (.int .i64 0))), none⟩,
    ⟨2, some 7, .move (.k (.c (.int .i64 0))), none⟩]) (.seq (.seq (.region [⟨0, some 10, .move (.t 1), none⟩,
    ⟨1, some 11, .cmp .lss .i64 (.t 10) (.k (.c (.int .i64 0))), none⟩,
    ⟨2, some 12, .move (.t 11), none⟩,
    ⟨3, some 13, .move (.t 2), some (12, false)⟩,
    ⟨4, some 14, .cmp .lss .i64 (.t 13) (.k (.c (.int .i64 0))), some (12, false)⟩,
    ⟨5, some 15, .pick (.t 12) (.k (.c (.bool true))) (.t 14), none⟩]) (.cut [1, 2, 3, 15, 31] hodmanref1_Product.c6)) hodmanref1_Product.c20)) }
def hodmanref1_Product.k20 (M : Mach) (C : Call) : Kont := execC M.j C (M.ag C) hodmanref1_Product.c20 ({ exits := [], ret := retK hodmanref1_Product.d } : Env) (retK hodmanref1_Product.d)
def hodmanref1_Product.J6 (M : Mach) (C : Call) (u1 u2 : Int) (u3 : Bool) (u4 u5 u6 u7 u8 u9 u10 u11 : Int) (G : GH) : Option Res := M.j (execC M.j C (M.ag C) hodmanref1_Product.c6 ({ exits := [], ret := retK hodmanref1_Product.d } : Env) (hodmanref1_Product.k20 M C)) [.und, .v (.c (.int .i64 u1)), .v (.c (.int .i64 u2)), .ref 31 0, .und, .und, .und, .und, .und, .und, .und, .und, .und, .und, .und, .v (.c (.bool u3)), .und, .und, .und, .und, .und, .und, .und, .und, .und, .und, .und, .und, .und, .und, .und, .box [.int .i64 u4, .int .i64 u5, .int .i64 u6, .int .i64 u7, .int .i64 u8, .int .i64 u9, .int .i64 u10, .int .i64 u11]] G
def hodmanref1_Product.k18 (M : Mach) (C : Call) : Kont := execC M.j C (M.ag C) hodmanref1_Product.c18 ({ exits := [], ret := retK hodmanref1_Product.d } : Env) (retK hodmanref1_Product.d)
def hodmanref1_Product.J14 (M : Mach) (C : Call) (u1 : Int) (u2 : Bool) (G : GH) : Option Res := M.j (execC M.j C (M.ag C) hodmanref1_Product.c14 ({ exits := [], ret := retK hodmanref1_Product.d } : Env) (hodmanref1_Product.k18 M C)) [.und, .und, .und, .und, .und, .und, .und, .und, .v (.c (.int .i64 u1)), .und, .und, .und, .und, .und, .und, .und, .und, .und, .und, .und, .und, .und, .und, .und, .und, .und, .und, .und, .und, .v (.c (.bool u2)), .und, .und] G
theorem hodmanref1_Product.J6_eq (M : Mach) (C : Call) (u1 u2 : Int) (u3 : Bool) (u4 u5 u6 u7 u8 u9 u10 u11 : Int) (G : GH) : hodmanref1_Product.J6 M C u1 u2 u3 u4 u5 u6 u7 u8 u9 u10 u11 G = (bif u3 then some ([.c (.int .i64 0), .c (.int .i64 2)], G) else (C hodmanref1_Mul.id [.c (.int .i64 u1), .c (.int .i64 u2)] G).bind fun q1 => (((q1.1[0]?).bind V1.c?).bind (Cell.asI .i64)).bind fun q2 => (((q1.1[1]?).bind V1.c?).bind Cell.asB).bind fun q3 => bif (!q3) then hodmanref1_Product.J14 M C q2 true q1.2 else hodmanref1_Product.J14 M C q2 (decide (q2 > u5)) q1.2) := (M.hj _ _ _).trans (by kernel_rfl)
theorem hodmanref1_Product.J14_eq (M : Mach) (C : Call) (u1 : Int) (u2 : Bool) (G : GH) : hodmanref1_Product.J14 M C u1 u2 G = (bif u2 then some ([.c (.int .i64 0), .c (.int .i64 4)], G) else some ([.c (.int .i64 u1), .c (.int .i64 0)], G)) := (M.hj _ _ _).trans (by kernel_rfl)
def hodmanref1_Product.f (M : Mach) (C : Call) (u1 u2 u3 u4 u5 u6 u7 u8 u9 u10 : Int) (G : GH) : Option Res := bif decide (u9 < 0) then hodmanref1_Product.J6 M C u9 u10 true u1 u2 u3 u4 u5 u6 u7 u8 G else hodmanref1_Product.J6 M C u9 u10 (decide (u10 < 0)) u1 u2 u3 u4 u5 u6 u7 u8 G
theorem hodmanref1_Product.eq (M : Mach) (C : Call) (u1 u2 u3 u4 u5 u6 u7 u8 u9 u10 : Int) (G : GH) : runF M C hodmanref1_Product.d [.agg [.int .i64 u1, .int .i64 u2, .int .i64 u3, .int .i64 u4, .int .i64 u5, .int .i64 u6, .int .i64 u7, .int .i64 u8], .c (.int .i64 u9), .c (.int .i64 u10)] G = hodmanref1_Product.f M C u1 u2 u3 u4 u5 u6 u7 u8 u9 u10 G := by kernel_rfl

/- 41 slices.Equal[[]hodman/api.Ans,hodman/api.Ans] -/
def api_Ans.c26 : DCode := (.seq (.region [⟨0, some 14, .cmp .lss .i64 (.t 13) (.t 12), none⟩]) (.seq (.cond (.t 14) .skip (.exit 0)) (.seq (.block 1 (.seq (.region [⟨0, some 15, .move (.t 13), none⟩,
    ⟨1, some 5, .move (.t 15), none⟩]) (.seq (.region [⟨0, some 16, .move (.t 0), none⟩,
    ⟨1, some 17, .move (.t 5), none⟩,
    ⟨2, some 18, .iaddr (.t 16) (.t 17) 8, none⟩,
    ⟨3, some 19, .ldG 18 (.agg [.int .i64, .int .i64, .int .i64, .int .u8, .int .i64, .int .i64, .int .i64, .int .i64]), none⟩,
    ⟨4, some 20, .move (.t 1), none⟩,
    ⟨5, some 21, .move (.t 5), none⟩,
    ⟨6, some 22, .iaddr (.t 20) (.t 21) 8, none⟩,
    ⟨7, some 23, .ldG 22 (.agg [.int .i64, .int .i64, .int .i64, .int .u8, .int .i64, .int .i64, .int .i64, .int .i64]), none⟩,
    ⟨8, some 24, .aeq true [.int .i64, .int .i64, .int .i64, .int .u8, .int .i64, .int .i64, .int .i64, .int .i64] (.t 19) (.t 23), none⟩]) (.cond (.t 24) (.seq (.region [⟨0, some 4, .move (.k (.c (.bool false))), none⟩]) .ret) .skip)))) (.region [⟨0, some 25, .bin .add .i64 (.t 13) (.k (.c (.int .i64 1))), none⟩,
    ⟨1, some 13, .move (.t 25), none⟩]))))
def api_Ans.c32 : DCode := (.seq (.region [⟨0, some 4, .move (.k (.c (.bool true))), none⟩]) .ret)
def api_Ans.d : DFn := { ntmps := 26, res := [.t 4], body := (.seq (.region [⟨0, some 4, .move (.k (.c (.bool false))), none⟩]) (.seq (.seq (.region [⟨0, some 6, .move (.t 0), none⟩,
    ⟨1, some 7, .len (.t 6), none⟩,
    ⟨2, some 8, .move (.t 1), none⟩,
    ⟨3, some 9, .len (.t 8), none⟩,
    ⟨4, some 10, .cmp .neq .i64 (.t 7) (.t 9), none⟩]) (.cond (.t 10) (.seq (.region [⟨0, some 4, .move (.k (.c (.bool false))), none⟩]) .ret) .skip)) (.seq (.seq (.region [⟨0, some 11, .move (.t 0), none⟩,
    ⟨1, some 12, .len (.t 11), none⟩,
    ⟨2, some 13, .move (.k (.c (.int .i64 0))), none⟩]) (.block 0 (.loop [0, 1, 12, 13] api_Ans.c26))) api_Ans.c32))) }
def api_Ans.k32 (M : Mach) (C : Call) : Kont := execC M.j C (M.ag C) api_Ans.c32 ({ exits := [], ret := retK api_Ans.d } : Env) (retK api_Ans.d)
def api_Ans.e28 (M : Mach) (C : Call) : Env := { exits := (0, (api_Ans.k32 M C)) :: (({ exits := [], ret := retK api_Ans.d } : Env)).exits, ret := (({ exits := [], ret := retK api_Ans.d } : Env)).ret }
def api_Ans.L27 (M : Mach) (C : Call) (u1i u1o u1n u2i u2o u2n : Nat) (u3 u4 : Int) (G : GH) : Option Res := M.ag C [0, 1, 12, 13] api_Ans.c26 (api_Ans.e28 M C) (api_Ans.k32 M C) [.v (.c (.sl 8 u1i u1o u1n)), .v (.c (.sl 8 u2i u2o u2n)), .und, .und, .und, .und, .und, .und, .und, .und, .und, .und, .v (.c (.int .i64 u3)), .v (.c (.int .i64 u4)), .und, .und, .und, .und, .und, .und, .und, .und, .und, .und, .und, .und] G
theorem api_Ans.L27_eq (M : Mach) (C : Call) (u1i u1o u1n u2i u2o u2n : Nat) (u3 u4 : Int) (G : GH) : api_Ans.L27 M C u1i u1o u1n u2i u2o u2n u3 u4 G = (bif decide (u4 < u3) then guardK (decide (0 ≤ u4 ∧ u4 < ((u1n : Nat) : Int))) (((G.ld u1i ((u1o + Int.toNat u4 * 8) + 0)).bind (Cell.asI .i64)).bind fun q1 => ((G.ld u1i ((u1o + Int.toNat u4 * 8) + 1)).bind (Cell.asI .i64)).bind fun q2 => ((G.ld u1i ((u1o + Int.toNat u4 * 8) + 2)).bind (Cell.asI .i64)).bind fun q3 => ((G.ld u1i ((u1o + Int.toNat u4 * 8) + 3)).bind (Cell.asI .u8)).bind fun q4 => ((G.ld u1i ((u1o + Int.toNat u4 * 8) + 4)).bind (Cell.asI .i64)).bind fun q5 => ((G.ld u1i ((u1o + Int.toNat u4 * 8) + 5)).bind (Cell.asI .i64)).bind fun q6 => ((G.ld u1i ((u1o + Int.toNat u4 * 8) + 6)).bind (Cell.asI .i64)).bind fun q7 => ((G.ld u1i ((u1o + Int.toNat u4 * 8) + 7)).bind (Cell.asI .i64)).bind fun q8 => guardK (decide (0 ≤ u4 ∧ u4 < ((u2n : Nat) : Int))) (((G.ld u2i ((u2o + Int.toNat u4 * 8) + 0)).bind (Cell.asI .i64)).bind fun q9 => ((G.ld u2i ((u2o + Int.toNat u4 * 8) + 1)).bind (Cell.asI .i64)).bind fun q10 => ((G.ld u2i ((u2o + Int.toNat u4 * 8) + 2)).bind (Cell.asI .i64)).bind fun q11 => ((G.ld u2i ((u2o + Int.toNat u4 * 8) + 3)).bind (Cell.asI .u8)).bind fun q12 => ((G.ld u2i ((u2o + Int.toNat u4 * 8) + 4)).bind (Cell.asI .i64)).bind fun q13 => ((G.ld u2i ((u2o + Int.toNat u4 * 8) + 5)).bind (Cell.asI .i64)).bind fun q14 => ((G.ld u2i ((u2o + Int.toNat u4 * 8) + 6)).bind (Cell.asI .i64)).bind fun q15 => ((G.ld u2i ((u2o + Int.toNat u4 * 8) + 7)).bind (Cell.asI .i64)).bind fun q16 => bif Bool.xor true (decide (q1 = q9) && (decide (q2 = q10) && (decide (q3 = q11) && (decide (q4 = q12) && (decide (q5 = q13) && (decide (q6 = q14) && (decide (q7 = q15) && (decide (q8 = q16) && true)))))))) then some ([.c (.bool false)], G) else api_Ans.L27 M C u1i u1o u1n u2i u2o u2n u3 (IntKind.i64.wrap (u4 + 1)) G)) else some ([.c (.bool true)], G)) := (M.hs _ _ _ _ _ _ _).trans (by kernel_rfl)
def api_Ans.f (M : Mach) (C : Call) (u1i u1o u1n u2i u2o u2n : Nat) (G : GH) : Option Res := bif (!decide (((u1n : Nat) : Int) = ((u2n : Nat) : Int))) then some ([.c (.bool false)], G) else api_Ans.L27 M C u1i u1o u1n u2i u2o u2n ((u1n : Nat) : Int) 0 G
theorem api_Ans.eq (M : Mach) (C : Call) (u1i u1o u1n u2i u2o u2n : Nat) (G : GH) : runF M C api_Ans.d [.c (.sl 8 u1i u1o u1n), .c (.sl 8 u2i u2o u2n)] G = api_Ans.f M C u1i u1o u1n u2i u2o u2n G := by kernel_rfl

/- 14 (*hodman/hodmanplay.Picks).Raw -/
def hodmanplay_Picks_Raw.c10 : DCode := (.seq (.region [⟨0, some 30, .ldL 6 32 (.agg [.int .i64, .int .i64, .int .i64, .int .i64, .int .i64, .int .i64]), none⟩,
    ⟨1, none, .stL 4 31 (.t 30) 6, none⟩]) .ret)
def hodmanplay_Picks_Raw.d : DFn := { ntmps := 33, res := [.box 4 (some 6)], body := (.seq (.region [⟨0, some 4, .boxz 31 [] [.int .i64 0, .int .i64 0, .int .i64 0, .int .i64 0, .int .i64 0, .int .i64 0], none⟩]) (.seq (.region [⟨0, some 7, .move (.t 0), none⟩,
    ⟨1, some 8, .call 28 [.t 7, .k (.c (.int .i64 9))] [.c (.int .i64)], none⟩,
    ⟨2, some 9, .bin .add .i64 (.k (.c (.int .i64 1))) (.t 8), none⟩,
    ⟨3, some 5, .move (.t 9), none⟩]) (.seq (.region [⟨0, some 10, .move (.t 5), none⟩,
    ⟨1, some 11, .move (.t 5), none⟩,
    ⟨2, some 12, .move (.t 0), none⟩,
    ⟨3, some 13, .call 28 [.t 12, .k (.c (.int .i64 12))] [.c (.int .i64)], none⟩,
    ⟨4, some 14, .bin .add .i64 (.k (.c (.int .i64 1))) (.t 13), none⟩,
    ⟨5, some 15, .bin .mul .i64 (.t 11) (.t 14), none⟩,
    ⟨6, some 16, .move (.t 0), none⟩,
    ⟨7, some 17, .call 28 [.t 16, .k (.c (.int .i64 150))] [.c (.int .i64)], none⟩,
    ⟨8, some 18, .bin .add .i64 (.k (.c (.int .i64 1))) (.t 17), none⟩,
    ⟨9, some 19, .move (.t 0), none⟩,
    ⟨10, some 20, .call 28 [.t 19, .k (.c (.int .i64 30))] [.c (.int .i64)], none⟩,
    ⟨11, some 21, .bin .add .i64 (.k (.c (.int .i64 1))) (.t 20), none⟩,
    ⟨12, some 22, .move (.t 0), none⟩,
    ⟨13, some 23, .call 28 [.t 22, .k (.c (.int .i64 200))] [.c (.int .i64)], none⟩,
    ⟨14, some 24, .move (.t 0), none⟩,
    ⟨15, some 25, .call 28 [.t 24, .k (.c (.int .i64 20))] [.c (.int .i64)], none⟩,
    ⟨16, some 26, .bin .add .i64 (.k (.c (.int .i64 1))) (.t 25), none⟩,
    ⟨17, some 27, .build [.int .i64 0, .int .i64 0, .int .i64 0, .int .i64 0, .int .i64 0, .int .i64 0] [(0, 1, .t 10), (1, 1, .t 15), (2, 1, .t 18), (3, 1, .t 21), (5, 1, .t 23), (4, 1, .t 26)], none⟩,
    ⟨18, some 6, .boxz 32 [29] [.int .i64 0, .int .i64 0, .int .i64 0, .int .i64 0, .int .i64 0, .int .i64 0], none⟩,
    ⟨19, none, .stL 6 32 (.t 27) 6, none⟩]) (.seq (.seq (.region [⟨0, some 28, .move (.t 1), none⟩]) (.cond (.t 28) (.region [⟨0, some 29, .faddr 6 4, none⟩,
    ⟨1, none, .stL 29 32 (.k (.c (.int .i64 5000))) 1, none⟩]) .skip)) (.cut [4, 6, 31, 32] hodmanplay_Picks_Raw.c10))))) }
def hodmanplay_Picks_Raw.J10 (M : Mach) (C : Call) (u1 u2 u3 u4 u5 u6 u7 u8 u9 u10 u11 u12 : Int) (G : GH) : Option Res := M.j (execC M.j C (M.ag C) hodmanplay_Picks_Raw.c10 ({ exits := [], ret := retK hodmanplay_Picks_Raw.d } : Env) (retK hodmanplay_Picks_Raw.d)) [.und, .und, .und, .und, .ref 31 0, .und, .ref 32 0, .und, .und, .und, .und, .und, .und, .und, .und, .und, .und, .und, .und, .und, .und, .und, .und, .und, .und, .und, .und, .und, .und, .und, .und, .box [.int .i64 u1, .int .i64 u2, .int .i64 u3, .int .i64 u4, .int .i64 u5, .int .i64 u6], .box [.int .i64 u7, .int .i64 u8, .int .i64 u9, .int .i64 u10, .int .i64 u11, .int .i64 u12]] G
theorem hodmanplay_Picks_Raw.J10_eq (M : Mach) (C : Call) (u1 u2 u3 u4 u5 u6 u7 u8 u9 u10 u11 u12 : Int) (G : GH) : hodmanplay_Picks_Raw.J10 M C u1 u2 u3 u4 u5 u6 u7 u8 u9 u10 u11 u12 G = (some ([.agg [.int .i64 u7, .int .i64 u8, .int .i64 u9, .int .i64 u10, .int .i64 u11, .int .i64 u12]], G)) := (M.hj _ _ _).trans (by kernel_rfl)
def hodmanplay_Picks_Raw.f (M : Mach) (C : Call) (u1i u1o : Nat) (u2 : Bool) (G : GH) : Option Res := (C hodmanplay_Picks_Num.id [.c (.ptr u1i u1o), .c (.int .i64 9)] G).bind fun q1 => (((q1.1[0]?).bind V1.c?).bind (Cell.asI .i64)).bind fun q2 => (C hodmanplay_Picks_Num.id [.c (.ptr u1i u1o), .c (.int .i64 12)] q1.2).bind fun q3 => (((q3.1[0]?).bind V1.c?).bind (Cell.asI .i64)).bind fun q4 => (C hodmanplay_Picks_Num.id [.c (.ptr u1i u1o), .c (.int .i64 150)] q3.2).bind fun q5 => (((q5.1[0]?).bind V1.c?).bind (Cell.asI .i64)).bind fun q6 => (C hodmanplay_Picks_Num.id [.c (.ptr u1i u1o), .c (.int .i64 30)] q5.2).bind fun q7 => (((q7.1[0]?).bind V1.c?).bind (Cell.asI .i64)).bind fun q8 => (C hodmanplay_Picks_Num.id [.c (.ptr u1i u1o), .c (.int .i64 200)] q7.2).bind fun q9 => (((q9.1[0]?).bind V1.c?).bind (Cell.asI .i64)).bind fun q10 => (C hodmanplay_Picks_Num.id [.c (.ptr u1i u1o), .c (.int .i64 20)] q9.2).bind fun q11 => (((q11.1[0]?).bind V1.c?).bind (Cell.asI .i64)).bind fun q12 => bif u2 then hodmanplay_Picks_Raw.J10 M C 0 0 0 0 0 0 (IntKind.i64.wrap (1 + q2)) (IntKind.i64.wrap ((IntKind.i64.wrap (1 + q2)) * (IntKind.i64.wrap (1 + q4)))) (IntKind.i64.wrap (1 + q6)) (IntKind.i64.wrap (1 + q8)) 5000 q10 q11.2 else hodmanplay_Picks_Raw.J10 M C 0 0 0 0 0 0 (IntKind.i64.wrap (1 + q2)) (IntKind.i64.wrap ((IntKind.i64.wrap (1 + q2)) * (IntKind.i64.wrap (1 + q4)))) (IntKind.i64.wrap (1 + q6)) (IntKind.i64.wrap (1 + q8)) (IntKind.i64.wrap (1 + q12)) q10 q11.2
theorem hodmanplay_Picks_Raw.eq (M : Mach) (C : Call) (u1i u1o : Nat) (u2 : Bool) (G : GH) : runF M C hodmanplay_Picks_Raw.d [.c (.ptr u1i u1o), .c (.bool u2)] G = hodmanplay_Picks_Raw.f M C u1i u1o u2 G := by kernel_rfl

/- 46 hodman/class.Product -/
def class_Product.c6 : DCode := (.cond (.t 15) (.seq (.region [⟨0, some 6, .move (.k (.c (.int .i64 0))), none⟩,
    ⟨1, some 7, .move (.k (.c (.int .i64 2))), none⟩]) .ret) .skip)
def class_Product.c14 : DCode := (.cond (.t 29) (.seq (.region [⟨0, some 6, .move (.k (.c (.int .i64 0))), none⟩,
    ⟨1, some 7, .move (.k (.c (.int .i64 4))), none⟩]) .ret) .skip)
def class_Product.c18 : DCode := (.seq (.region [⟨0, some 30, .move (.t 8), none⟩,
    ⟨1, some 6, .move (.t 30), none⟩,
    ⟨2, some 7, .move (.k (.c (.int .i64 0))), none⟩]) .ret)
def class_Product.c20 : DCode := (.seq (.region [⟨0, some 17, .move (.t 1), none⟩,
    ⟨1, some 18, .move (.t 2), none⟩,
    ⟨2, some 19, .call 62 [.t 17, .t 18] [.c (.int .i64), .c (.bool)], none⟩,
    ⟨3, some 16, .move (.t 19), none⟩,
    ⟨4, some 20, .ext 16 0, none⟩,
    ⟨5, some 21, .ext 16 1, none⟩,
    ⟨6, some 8, .move (.t 20), none⟩,
    ⟨7, some 9, .move (.t 21), none⟩]) (.seq (.seq (.region [⟨0, some 22, .move (.t 9), none⟩,
    ⟨1, some 23, .not (.t 22), none⟩,
    ⟨2, some 24, .move (.t 23), none⟩,
    ⟨3, some 25, .move (.t 8), some (24, false)⟩,
    ⟨4, some 26, .faddr 3 1, some (24, false)⟩,
    ⟨5, some 27, .ldL 26 31 (.c (.int .i64)), some (24, false)⟩,
    ⟨6, some 28, .cmp .gtr .i64 (.t 25) (.t 27), some (24, false)⟩,
    ⟨7, some 29, .pick (.t 24) (.k (.c (.bool true))) (.t 28), none⟩]) (.cut [8, 29] class_Product.c14)) class_Product.c18))
def class_Product.d : DFn := { ntmps := 32, res := [.t 6, .t 7], body := (.seq (.region [⟨0, some 3, .boxv 31 [26] (.t 0) 8, none⟩,
    ⟨1, some 6, .move (.k (.c (.int .i64 0))), none⟩,
    ⟨2, some 7, .move (.k (.c (.int .i64 0))), none⟩]) (.seq (.seq (.region [⟨0, some 10, .move (.t 1), none⟩,
    ⟨1, some 11, .cmp .lss .i64 (.t 10) (.k (.c (.int .i64 0))), none⟩,
    ⟨2, some 12, .move (.t 11), none⟩,
    ⟨3, some 13, .move (.t 2), some (12, false)⟩,
    ⟨4, some 14, .cmp .lss .i64 (.t 13) (.k (.c (.int .i64 0))), some (12, false)⟩,
    ⟨5, some 15, .pick (.t 12) (.k (.c (.bool true))) (.t 14), none⟩]) (.cut [1, 2, 3, 15, 31] class_Product.c6)) class_Product.c20)) }
def class_Product.k20 (M : Mach) (C : Call) : Kont := execC M.j C (M.ag C) class_Product.c20 ({ exits := [], ret := retK class_Product.d } : Env) (retK class_Product.d)
def class_Product.J6 (M : Mach) (C : Call) (u1 u2 : Int) (u3 : Bool) (u4 u5 u6 u7 u8 u9 u10 u11 : Int) (G : GH) : Option Res := M.j (execC M.j C (M.ag C) class_Product.c6 ({ exits := [], ret := retK class_Product.d } : Env) (class_Product.k20 M C)) [.und, .v (.c (.int .i64 u1)), .v (.c (.int .i64 u2)), .ref 31 0, .und, .und, .und, .und, .und, .und, .und, .und, .und, .und, .und, .v (.c (.bool u3)), .und, .und, .und, .und, .und, .und, .und, .und, .und, .und, .und, .und, .und, .und, .und, .box [.int .i64 u4, .int .i64 u5, .int .i64 u6, .int .i64 u7, .int .i64 u8, .int .i64 u9, .int .i64 u10, .int .i64 u11]] G
def class_Product.k18 (M : Mach) (C : Call) : Kont := execC M.j C (M.ag C) class_Product.c18 ({ exits := [], ret := retK class_Product.d } : Env) (retK class_Product.d)
def class_Product.J14 (M : Mach) (C : Call) (u1 : Int) (u2 : Bool) (G : GH) : Option Res := M.j (execC M.j C (M.ag C) class_Product.c14 ({ exits := [], ret := retK class_Product.d } : Env) (class_Product.k18 M C)) [.und, .und, .und, .und, .und, .und, .und, .und, .v (.c (.int .i64 u1)), .und, .und, .und, .und, .und, .und, .und, .und, .und, .und, .und, .und, .und, .und, .und, .und, .und, .und, .und, .und, .v (.c (.bool u2)), .und, .und] G
theorem class_Product.J6_eq (M : Mach) (C : Call) (u1 u2 : Int) (u3 : Bool) (u4 u5 u6 u7 u8 u9 u10 u11 : Int) (G : GH) : class_Product.J6 M C u1 u2 u3 u4 u5 u6 u7 u8 u9 u10 u11 G = (bif u3 then some ([.c (.int .i64 0), .c (.int .i64 2)], G) else (C calc_Mul.id [.c (.int .i64 u1), .c (.int .i64 u2)] G).bind fun q1 => (((q1.1[0]?).bind V1.c?).bind (Cell.asI .i64)).bind fun q2 => (((q1.1[1]?).bind V1.c?).bind Cell.asB).bind fun q3 => bif (!q3) then class_Product.J14 M C q2 true q1.2 else class_Product.J14 M C q2 (decide (q2 > u5)) q1.2) := (M.hj _ _ _).trans (by kernel_rfl)
theorem class_Product.J14_eq (M : Mach) (C : Call) (u1 : Int) (u2 : Bool) (G : GH) : class_Product.J14 M C u1 u2 G = (bif u2 then some ([.c (.int .i64 0), .c (.int .i64 4)], G) else some ([.c (.int .i64 u1), .c (.int .i64 0)], G)) := (M.hj _ _ _).trans (by kernel_rfl)
def class_Product.f (M : Mach) (C : Call) (u1 u2 u3 u4 u5 u6 u7 u8 u9 u10 : Int) (G : GH) : Option Res := bif decide (u9 < 0) then class_Product.J6 M C u9 u10 true u1 u2 u3 u4 u5 u6 u7 u8 G else class_Product.J6 M C u9 u10 (decide (u10 < 0)) u1 u2 u3 u4 u5 u6 u7 u8 G
theorem class_Product.eq (M : Mach) (C : Call) (u1 u2 u3 u4 u5 u6 u7 u8 u9 u10 : Int) (G : GH) : runF M C class_Product.d [.agg [.int .i64 u1, .int .i64 u2, .int .i64 u3, .int .i64 u4, .int .i64 u5, .int .i64 u6, .int .i64 u7, .int .i64 u8], .c (.int .i64 u9), .c (.int .i64 u10)] G = class_Product.f M C u1 u2 u3 u4 u5 u6 u7 u8 u9 u10 G := by kernel_rfl

/- 28 (*hodman/hodmanplay.Picks).Num -/
def hodmanplay_Picks_Num.c6 : DCode := (.cond (.t 18) (.seq (.region [⟨0, some 4, .move (.k (.c (.int .i64 0))), none⟩]) .ret) .skip)
def hodmanplay_Picks_Num.c12 : DCode := (.seq (.region [⟨0, some 19, .move (.t 0), none⟩,
    ⟨1, some 20, .nilck (.t 19), none⟩,
    ⟨2, some 21, .faddr 20 1, none⟩,
    ⟨3, some 22, .ldG 21 (.c (.int .i64)), none⟩,
    ⟨4, some 23, .bin .add .i64 (.t 22) (.k (.c (.int .i64 1))), none⟩,
    ⟨5, some 24, .nilck (.t 19), none⟩,
    ⟨6, some 25, .faddr 24 1, none⟩,
    ⟨7, none, .stG 25 (.t 23) 1, none⟩]) (.seq (.region [⟨0, some 26, .move (.t 0), none⟩,
    ⟨1, some 27, .nilck (.t 26), none⟩,
    ⟨2, some 28, .faddr 27 0, none⟩,
    ⟨3, some 29, .ldG 28 (.c (.sl 1)), none⟩,
    ⟨4, some 30, .move (.t 0), none⟩,
    ⟨5, some 31, .nilck (.t 30), none⟩,
    ⟨6, some 32, .faddr 31 1, none⟩,
    ⟨7, some 33, .ldG 32 (.c (.int .i64)), none⟩,
    ⟨8, some 34, .bin .sub .i64 (.t 33) (.k (.c (.int .i64 1))), none⟩,
    ⟨9, some 35, .iaddr (.t 29) (.t 34) 1, none⟩,
    ⟨10, some 36, .ldG 35 (.c (.int .u8)), none⟩,
    ⟨11, some 37, .conv .i64 (.t 36), none⟩,
    ⟨12, some 38, .move (.t 1), none⟩,
    ⟨13, some 39, .bin .rem .i64 (.t 37) (.t 38), none⟩,
    ⟨14, some 4, .move (.t 39), none⟩]) .ret))
def hodmanplay_Picks_Num.d : DFn := { ntmps := 40, res := [.t 4], body := (.seq (.region [⟨0, some 4, .move (.k (.c (.int .i64 0))), none⟩]) (.seq (.seq (.region [⟨0, some 5, .move (.t 0), none⟩,
    ⟨1, some 6, .nilck (.t 5), none⟩,
    ⟨2, some 7, .faddr 6 1, none⟩,
    ⟨3, some 8, .ldG 7 (.c (.int .i64)), none⟩,
    ⟨4, some 9, .move (.t 0), none⟩,
    ⟨5, some 10, .nilck (.t 9), none⟩,
    ⟨6, some 11, .faddr 10 0, none⟩,
    ⟨7, some 12, .ldG 11 (.c (.sl 1)), none⟩,
    ⟨8, some 13, .len (.t 12), none⟩,
    ⟨9, some 14, .cmp .geq .i64 (.t 8) (.t 13), none⟩,
    ⟨10, some 15, .move (.t 14), none⟩,
    ⟨11, some 16, .move (.t 1), some (15, false)⟩,
    ⟨12, some 17, .cmp .lss .i64 (.t 16) (.k (.c (.int .i64 1))), some (15, false)⟩,
    ⟨13, some 18, .pick (.t 15) (.k (.c (.bool true))) (.t 17), none⟩]) (.cut [0, 1, 18] hodmanplay_Picks_Num.c6)) hodmanplay_Picks_Num.c12)) }
def hodmanplay_Picks_Num.k12 (M : Mach) (C : Call) : Kont := execC M.j C (M.ag C) hodmanplay_Picks_Num.c12 ({ exits := [], ret := retK hodmanplay_Picks_Num.d } : Env) (retK hodmanplay_Picks_Num.d)
def hodmanplay_Picks_Num.J6 (M : Mach) (C : Call) (u1i u1o : Nat) (u2 : Int) (u3 : Bool) (G : GH) : Option Res := M.j (execC M.j C (M.ag C) hodmanplay_Picks_Num.c6 ({ exits := [], ret := retK hodmanplay_Picks_Num.d } : Env) (hodmanplay_Picks_Num.k12 M C)) [.v (.c (.ptr u1i u1o)), .v (.c (.int .i64 u2)), .und, .und, .und, .und, .und, .und, .und, .und, .und, .und, .und, .und, .und, .und, .und, .und, .v (.c (.bool u3)), .und, .und, .und, .und, .und, .und, .und, .und, .und, .und, .und, .und, .und, .und, .und, .und, .und, .und, .und, .und, .und] G
theorem hodmanplay_Picks_Num.J6_eq (M : Mach) (C : Call) (u1i u1o : Nat) (u2 : Int) (u3 : Bool) (G : GH) : hodmanplay_Picks_Num.J6 M C u1i u1o u2 u3 G = (bif u3 then some ([.c (.int .i64 0)], G) else guardK (!Nat.beq u1i 0) (((G.ld u1i (u1o + 1)).bind (Cell.asI .i64)).bind fun q3 => guardK (!Nat.beq u1i 0) ((G.sts u1i (u1o + 1) [.int .i64 (IntKind.i64.wrap (q3 + 1))]).bind fun q4 => guardK (!Nat.beq u1i 0) (((q4.ld u1i (u1o + 0)).bind (Cell.asS 1)).bind fun q5 => guardK (!Nat.beq u1i 0) (((q4.ld u1i (u1o + 1)).bind (Cell.asI .i64)).bind fun q6 => guardK (decide (0 ≤ IntKind.i64.wrap (q6 - 1) ∧ IntKind.i64.wrap (q6 - 1) < ((q5.2.2 : Nat) : Int))) (((q4.ld q5.1 (q5.2.1 + Int.toNat (IntKind.i64.wrap (q6 - 1)) * 1)).bind (Cell.asI .u8)).bind fun q7 => (binD .rem .i64 (IntKind.i64.wrap q7) u2).bind fun q8 => some ([.c (.int .i64 q8)], q4))))))) := (M.hj _ _ _).trans (by kernel_rfl)
def hodmanplay_Picks_Num.f (M : Mach) (C : Call) (u1i u1o : Nat) (u2 : Int) (G : GH) : Option Res := guardK (!Nat.beq u1i 0) (((G.ld u1i (u1o + 1)).bind (Cell.asI .i64)).bind fun q1 => guardK (!Nat.beq u1i 0) (((G.ld u1i (u1o + 0)).bind (Cell.asS 1)).bind fun q2 => bif decide (q1 ≥ ((q2.2.2 : Nat) : Int)) then hodmanplay_Picks_Num.J6 M C u1i u1o u2 true G else hodmanplay_Picks_Num.J6 M C u1i u1o u2 (decide (u2 < 1)) G))
theorem hodmanplay_Picks_Num.eq (M : Mach) (C : Call) (u1i u1o : Nat) (u2 : Int) (G : GH) : runF M C hodmanplay_Picks_Num.d [.c (.ptr u1i u1o), .c (.int .i64 u2)] G = hodmanplay_Picks_Num.f M C u1i u1o u2 G := by kernel_rfl

/- 15 hodman/hodmanref17.New -/
def hodmanref17_New.d : DFn := { ntmps := 29, res := [.box 2 (some 14), .t 3], body := (.seq (.region [⟨0, some 1, .boxv 26 [] (.t 0) 6, none⟩,
    ⟨1, some 2, .boxz 27 [] [.int .i64 0, .int .i64 0, .int .i64 0, .int .i64 0, .int .i64 0, .int .i64 0, .int .i64 0, .int .i64 0, .sl 3 0 0 0, .int .i64 0, .int .i64 0, .int .i64 0, .sl 1 0 0 0, .sl 1 0 0 0], none⟩,
    ⟨2, some 3, .move (.k (.c (.int .i64 0))), none⟩]) (.seq (.region [⟨0, some 7, .ldL 1 26 (.agg [.int .i64, .int .i64, .int .i64, .int .i64, .int .i64, .int .i64]), none⟩,
    ⟨1, some 8, .call 27 [.t 7] [.agg [.int .i64, .int .i64, .int .i64, .int .i64, .int .i64, .int .i64, .int .i64, .int .i64], .c (.int .i64)], none⟩,
    ⟨2, some 6, .move (.t 8), none⟩,
    ⟨3, some 9, .ext 6 0, none⟩,
    ⟨4, some 10, .ext 6 1, none⟩,
    ⟨5, some 4, .boxz 28 [16, 18, 22] [.int .i64 0, .int .i64 0, .int .i64 0, .int .i64 0, .int .i64 0, .int .i64 0, .int .i64 0, .int .i64 0], none⟩,
    ⟨6, none, .stL 4 28 (.t 9) 8, none⟩,
    ⟨7, some 5, .move (.t 10), none⟩]) (.seq (.seq (.region [⟨0, some 11, .move (.t 5), none⟩,
    ⟨1, some 12, .cmp .neq .i64 (.t 11) (.k (.c (.int .i64 0))), none⟩]) (.cond (.t 12) (.seq (.region [⟨0, some 13, .build [.int .i64 0, .int .i64 0, .int .i64 0, .int .i64 0, .int .i64 0, .int .i64 0, .int .i64 0, .int .i64 0, .sl 3 0 0 0, .int .i64 0, .int .i64 0, .int .i64 0, .sl 1 0 0 0, .sl 1 0 0 0] [], none⟩,
    ⟨1, some 14, .move (.t 5), none⟩,
    ⟨2, none, .stL 2 27 (.t 13) 14, none⟩,
    ⟨3, some 3, .move (.t 14), none⟩]) .ret) .skip)) (.seq (.region [⟨0, some 15, .ldL 4 28 (.agg [.int .i64, .int .i64, .int .i64, .int .i64, .int .i64, .int .i64, .int .i64, .int .i64]), none⟩,
    ⟨1, some 16, .faddr 4 6, none⟩,
    ⟨2, some 17, .ldL 16 28 (.c (.int .i64)), none⟩,
    ⟨3, some 18, .faddr 4 4, none⟩,
    ⟨4, some 19, .ldL 18 28 (.c (.int .i64)), none⟩,
    ⟨5, some 20, .bin .quo .i64 (.t 17) (.t 19), none⟩,
    ⟨6, some 21, .mkslice (.t 20) 1 1 [.bool false], none⟩,
    ⟨7, some 22, .faddr 4 6, none⟩,
    ⟨8, some 23, .ldL 22 28 (.c (.int .i64)), none⟩,
    ⟨9, some 24, .mkslice (.t 23) 1 1 [.int .u8 0], none⟩,
    ⟨10, some 25, .build [.int .i64 0, .int .i64 0, .int .i64 0, .int .i64 0, .int .i64 0, .int .i64 0, .int .i64 0, .int .i64 0, .sl 3 0 0 0, .int .i64 0, .int .i64 0, .int .i64 0, .sl 1 0 0 0, .sl 1 0 0 0] [(0, 8, .t 15), (12, 1, .t 21), (13, 1, .t 24)], none⟩,
    ⟨11, none, .stL 2 27 (.t 25) 14, none⟩,
    ⟨12, some 3, .move (.k (.c (.int .i64 0))), none⟩]) .ret)))) }
def hodmanref17_New.f (M : Mach) (C : Call) (u1 u2 u3 u4 u5 u6 : Int) (G : GH) : Option Res := (C hodmanref1_Of.id [.agg [.int .i64 u1, .int .i64 u2, .int .i64 u3, .int .i64 u4, .int .i64 u5, .int .i64 u6]] G).bind fun q1 => ((q1.1[0]?).bind V1.a?).bind fun q2 => if q2.length = 8 then (((q2[0]?).bind (Cell.asI .i64)).bind fun q3 => ((q2[1]?).bind (Cell.asI .i64)).bind fun q4 => ((q2[2]?).bind (Cell.asI .i64)).bind fun q5 => ((q2[3]?).bind (Cell.asI .i64)).bind fun q6 => ((q2[4]?).bind (Cell.asI .i64)).bind fun q7 => ((q2[5]?).bind (Cell.asI .i64)).bind fun q8 => ((q2[6]?).bind (Cell.asI .i64)).bind fun q9 => ((q2[7]?).bind (Cell.asI .i64)).bind fun q10 => (((q1.1[1]?).bind V1.c?).bind (Cell.asI .i64)).bind fun q11 => bif (!decide (q11 = 0)) then some ([.agg [.int .i64 0, .int .i64 0, .int .i64 0, .int .i64 0, .int .i64 0, .int .i64 0, .int .i64 0, .int .i64 0, .sl 3 0 0 0, .int .i64 0, .int .i64 0, .int .i64 0, .sl 1 0 0 0, .sl 1 0 0 0], .c (.int .i64 q11)], q1.2) else (binD .quo .i64 q9 q7).bind fun q12 => guardK (decide (0 ≤ q12 ∧ q12 ≤ (most : Int))) (let q13 := q1.2.alloc (.row (reps (Int.toNat q12) [.bool false]) false); guardK (decide (0 ≤ q9 ∧ q9 ≤ (most : Int))) (let q14 := q13.alloc (.row (reps (Int.toNat q9) [.int .u8 0]) false); some ([.agg [.int .i64 q3, .int .i64 q4, .int .i64 q5, .int .i64 q6, .int .i64 q7, .int .i64 q8, .int .i64 q9, .int .i64 q10, .sl 3 0 0 0, .int .i64 0, .int .i64 0, .int .i64 0, .sl 1 q1.2.next 0 (Int.toNat q12), .sl 1 q13.next 0 (Int.toNat q9)], .c (.int .i64 0)], q14)))) else none
theorem hodmanref17_New.eq (M : Mach) (C : Call) (u1 u2 u3 u4 u5 u6 : Int) (G : GH) : runF M C hodmanref17_New.d [.agg [.int .i64 u1, .int .i64 u2, .int .i64 u3, .int .i64 u4, .int .i64 u5, .int .i64 u6]] G = hodmanref17_New.f M C u1 u2 u3 u4 u5 u6 G := by kernel_rfl

/- 51 hodman/hodmanref8.Zero -/
def hodmanref8_Zero.c19 : DCode := (.seq (.seq (.region [⟨0, some 19, .move (.t 9), none⟩,
    ⟨1, some 20, .move (.t 2), none⟩,
    ⟨2, some 21, .cmp .lss .i64 (.t 19) (.t 20), none⟩]) (.cond (.t 21) .skip (.exit 0))) (.seq (.block 1 (.region [⟨0, some 24, .move (.t 8), none⟩,
    ⟨1, some 25, .move (.t 1), none⟩,
    ⟨2, some 26, .move (.t 9), none⟩,
    ⟨3, some 27, .bin .add .i64 (.t 25) (.t 26), none⟩,
    ⟨4, some 28, .iaddr (.t 24) (.t 27) 1, none⟩,
    ⟨5, none, .stG 28 (.k (.c (.int .u8 0))) 1, none⟩])) (.region [⟨0, some 22, .move (.t 9), none⟩,
    ⟨1, some 23, .bin .add .i64 (.t 22) (.k (.c (.int .i64 1))), none⟩,
    ⟨2, some 9, .move (.t 23), none⟩])))
def hodmanref8_Zero.c25 : DCode := (.seq (.region [⟨0, some 29, .move (.t 8), none⟩,
    ⟨1, some 6, .move (.t 29), none⟩,
    ⟨2, some 7, .move (.k (.c (.bool true))), none⟩]) .ret)
def hodmanref8_Zero.d : DFn := { ntmps := 30, res := [.t 6, .t 7], body := (.seq (.region [⟨0, some 6, .move (.k (.c (.sl 1 0 0 0))), none⟩,
    ⟨1, some 7, .move (.k (.c (.bool false))), none⟩]) (.seq (.seq (.region [⟨0, some 10, .move (.t 0), none⟩,
    ⟨1, some 11, .move (.t 1), none⟩,
    ⟨2, some 12, .move (.t 2), none⟩,
    ⟨3, some 13, .call 68 [.t 10, .t 11, .t 12] [.c (.bool)], none⟩,
    ⟨4, some 14, .not (.t 13), none⟩]) (.cond (.t 14) (.seq (.region [⟨0, some 15, .move (.t 0), none⟩,
    ⟨1, some 6, .move (.t 15), none⟩,
    ⟨2, some 7, .move (.k (.c (.bool false))), none⟩]) .ret) .skip)) (.seq (.region [⟨0, some 16, .bslice 0 1 [] [], none⟩,
    ⟨1, some 17, .move (.t 0), none⟩,
    ⟨2, some 18, .app (.t 16) (.t 17) 1 1, none⟩,
    ⟨3, some 8, .move (.t 18), none⟩]) (.seq (.seq (.region [⟨0, some 9, .move (.k (.c (.int .i64 0))), none⟩]) (.block 0 (.loop [1, 2, 8, 9] hodmanref8_Zero.c19))) hodmanref8_Zero.c25)))) }
def hodmanref8_Zero.k25 (M : Mach) (C : Call) : Kont := execC M.j C (M.ag C) hodmanref8_Zero.c25 ({ exits := [], ret := retK hodmanref8_Zero.d } : Env) (retK hodmanref8_Zero.d)
def hodmanref8_Zero.e21 (M : Mach) (C : Call) : Env := { exits := (0, (hodmanref8_Zero.k25 M C)) :: (({ exits := [], ret := retK hodmanref8_Zero.d } : Env)).exits, ret := (({ exits := [], ret := retK hodmanref8_Zero.d } : Env)).ret }
def hodmanref8_Zero.L20 (M : Mach) (C : Call) (u1 u2 : Int) (u3i u3o u3n : Nat) (u4 : Int) (G : GH) : Option Res := M.ag C [1, 2, 8, 9] hodmanref8_Zero.c19 (hodmanref8_Zero.e21 M C) (hodmanref8_Zero.k25 M C) [.und, .v (.c (.int .i64 u1)), .v (.c (.int .i64 u2)), .und, .und, .und, .und, .und, .v (.c (.sl 1 u3i u3o u3n)), .v (.c (.int .i64 u4)), .und, .und, .und, .und, .und, .und, .und, .und, .und, .und, .und, .und, .und, .und, .und, .und, .und, .und, .und, .und] G
theorem hodmanref8_Zero.L20_eq (M : Mach) (C : Call) (u1 u2 : Int) (u3i u3o u3n : Nat) (u4 : Int) (G : GH) : hodmanref8_Zero.L20 M C u1 u2 u3i u3o u3n u4 G = (bif decide (u4 < u2) then guardK (decide (0 ≤ IntKind.i64.wrap (u1 + u4) ∧ IntKind.i64.wrap (u1 + u4) < ((u3n : Nat) : Int))) ((G.sts u3i (u3o + Int.toNat (IntKind.i64.wrap (u1 + u4)) * 1) [.int .u8 0]).bind fun q6 => hodmanref8_Zero.L20 M C u1 u2 u3i u3o u3n (IntKind.i64.wrap (u4 + 1)) q6) else some ([.c (.sl 1 u3i u3o u3n), .c (.bool true)], G)) := (M.hs _ _ _ _ _ _ _).trans (by kernel_rfl)
def hodmanref8_Zero.f (M : Mach) (C : Call) (u1i u1o u1n : Nat) (u2 u3 : Int) (G : GH) : Option Res := (C hodmanref8_there.id [.c (.sl 1 u1i u1o u1n), .c (.int .i64 u2), .c (.int .i64 u3)] G).bind fun q1 => (((q1.1[0]?).bind V1.c?).bind Cell.asB).bind fun q2 => bif (!q2) then some ([.c (.sl 1 u1i u1o u1n), .c (.bool false)], q1.2) else let q3 := q1.2.alloc (.row [] false); (if u1n = 0 then some [] else q3.lds u1i u1o (u1n * 1)).bind fun q4 => guardK (decide (0 + u1n ≤ most)) ((q3.app q1.2.next 0 0 1 u1n q4).bind fun q5 => hodmanref8_Zero.L20 M C u2 u3 q5.1 q5.2.1 (0 + u1n) 0 q5.2.2)
theorem hodmanref8_Zero.eq (M : Mach) (C : Call) (u1i u1o u1n : Nat) (u2 u3 : Int) (G : GH) : runF M C hodmanref8_Zero.d [.c (.sl 1 u1i u1o u1n), .c (.int .i64 u2), .c (.int .i64 u3)] G = hodmanref8_Zero.f M C u1i u1o u1n u2 u3 G := by kernel_rfl

/- 74 hodman/calc.Log -/
def calc_Log.c6 : DCode := (.cond (.t 12) (.seq (.region [⟨0, some 2, .move (.k (.c (.int .i64 0))), none⟩,
    ⟨1, some 3, .move (.k (.c (.bool false))), none⟩]) .ret) .skip)
def calc_Log.c17 : DCode := (.seq (.seq (.region [⟨0, some 13, .move (.t 0), none⟩,
    ⟨1, some 14, .cmp .gtr .i64 (.t 13) (.k (.c (.int .i64 1))), none⟩]) (.cond (.t 14) .skip (.exit 0))) (.block 1 (.seq (.region [⟨0, some 15, .move (.t 0), none⟩,
    ⟨1, some 16, .bin .shr .i64 (.t 15) (.k (.c (.int .u64 1))), none⟩,
    ⟨2, some 0, .move (.t 16), none⟩]) (.region [⟨0, some 17, .move (.t 2), none⟩,
    ⟨1, some 18, .bin .add .i64 (.t 17) (.k (.c (.int .i64 1))), none⟩,
    ⟨2, some 2, .move (.t 18), none⟩]))))
def calc_Log.c22 : DCode := (.seq (.region [⟨0, some 19, .move (.t 2), none⟩,
    ⟨1, some 2, .move (.t 19), none⟩,
    ⟨2, some 3, .move (.k (.c (.bool true))), none⟩]) .ret)
def calc_Log.c23 : DCode := (.seq (.block 0 (.loop [0, 2] calc_Log.c17)) calc_Log.c22)
def calc_Log.d : DFn := { ntmps := 20, res := [.t 2, .t 3], body := (.seq (.region [⟨0, some 2, .move (.k (.c (.int .i64 0))), none⟩,
    ⟨1, some 3, .move (.k (.c (.bool false))), none⟩]) (.seq (.seq (.region [⟨0, some 4, .move (.t 0), none⟩,
    ⟨1, some 5, .cmp .lss .i64 (.t 4) (.k (.c (.int .i64 1))), none⟩,
    ⟨2, some 6, .move (.t 5), none⟩,
    ⟨3, some 7, .move (.t 0), some (6, false)⟩,
    ⟨4, some 8, .move (.t 0), some (6, false)⟩,
    ⟨5, some 9, .bin .sub .i64 (.t 8) (.k (.c (.int .i64 1))), some (6, false)⟩,
    ⟨6, some 10, .bin .and .i64 (.t 7) (.t 9), some (6, false)⟩,
    ⟨7, some 11, .cmp .neq .i64 (.t 10) (.k (.c (.int .i64 0))), some (6, false)⟩,
    ⟨8, some 12, .pick (.t 6) (.k (.c (.bool true))) (.t 11), none⟩]) (.cut [0, 2, 12] calc_Log.c6)) calc_Log.c23)) }
def calc_Log.k23 (M : Mach) (C : Call) : Kont := execC M.j C (M.ag C) calc_Log.c23 ({ exits := [], ret := retK calc_Log.d } : Env) (retK calc_Log.d)
def calc_Log.J6 (M : Mach) (C : Call) (u1 u2 : Int) (u3 : Bool) (G : GH) : Option Res := M.j (execC M.j C (M.ag C) calc_Log.c6 ({ exits := [], ret := retK calc_Log.d } : Env) (calc_Log.k23 M C)) [.v (.c (.int .i64 u1)), .und, .v (.c (.int .i64 u2)), .und, .und, .und, .und, .und, .und, .und, .und, .und, .v (.c (.bool u3)), .und, .und, .und, .und, .und, .und, .und] G
def calc_Log.k22 (M : Mach) (C : Call) : Kont := execC M.j C (M.ag C) calc_Log.c22 ({ exits := [], ret := retK calc_Log.d } : Env) (retK calc_Log.d)
def calc_Log.e19 (M : Mach) (C : Call) : Env := { exits := (0, (calc_Log.k22 M C)) :: (({ exits := [], ret := retK calc_Log.d } : Env)).exits, ret := (({ exits := [], ret := retK calc_Log.d } : Env)).ret }
def calc_Log.L18 (M : Mach) (C : Call) (u1 u2 : Int) (G : GH) : Option Res := M.ag C [0, 2] calc_Log.c17 (calc_Log.e19 M C) (calc_Log.k22 M C) [.v (.c (.int .i64 u1)), .und, .v (.c (.int .i64 u2)), .und, .und, .und, .und, .und, .und, .und, .und, .und, .und, .und, .und, .und, .und, .und, .und, .und] G
theorem calc_Log.J6_eq (M : Mach) (C : Call) (u1 u2 : Int) (u3 : Bool) (G : GH) : calc_Log.J6 M C u1 u2 u3 G = (bif u3 then some ([.c (.int .i64 0), .c (.bool false)], G) else calc_Log.L18 M C u1 u2 G) := (M.hj _ _ _).trans (by kernel_rfl)
theorem calc_Log.L18_eq (M : Mach) (C : Call) (u1 u2 : Int) (G : GH) : calc_Log.L18 M C u1 u2 G = (bif decide (u1 > 1) then calc_Log.L18 M C (Int.fdiv u1 (2 ^ (min (1 : Int).toNat IntKind.i64.bits))) (IntKind.i64.wrap (u2 + 1)) G else some ([.c (.int .i64 u2), .c (.bool true)], G)) := (M.hs _ _ _ _ _ _ _).trans (by kernel_rfl)
def calc_Log.f (M : Mach) (C : Call) (u1 : Int) (G : GH) : Option Res := bif decide (u1 < 1) then calc_Log.J6 M C u1 0 true G else calc_Log.J6 M C u1 0 (!decide (IntKind.i64.wrap (((BitVec.ofInt IntKind.i64.bits u1) &&& (BitVec.ofInt IntKind.i64.bits (IntKind.i64.wrap (u1 - 1)))).toNat : Int) = 0)) G
theorem calc_Log.eq (M : Mach) (C : Call) (u1 : Int) (G : GH) : runF M C calc_Log.d [.c (.int .i64 u1)] G = calc_Log.f M C u1 G := by kernel_rfl

/- 34 hodman/hodmanref8.Count -/
def hodmanref8_Count.c14 : DCode := (.region [⟨0, some 9, .move (.t 4), none⟩,
    ⟨1, some 10, .bin .add .i64 (.t 9) (.k (.c (.int .i64 1))), none⟩,
    ⟨2, some 4, .move (.t 10), none⟩])
def hodmanref8_Count.c16 : DCode := (.seq (.seq (.region [⟨0, some 5, .move (.t 4), none⟩,
    ⟨1, some 6, .move (.t 0), none⟩,
    ⟨2, some 7, .len (.t 6), none⟩,
    ⟨3, some 8, .cmp .lss .i64 (.t 5) (.t 7), none⟩]) (.cond (.t 8) .skip (.exit 0))) (.seq (.block 1 (.seq (.region [⟨0, some 11, .move (.t 0), none⟩,
    ⟨1, some 12, .move (.t 4), none⟩,
    ⟨2, some 13, .iaddr (.t 11) (.t 12) 1, none⟩,
    ⟨3, some 14, .ldG 13 (.c (.bool)), none⟩]) (.cond (.t 14) (.region [⟨0, some 15, .move (.t 3), none⟩,
    ⟨1, some 16, .bin .add .i64 (.t 15) (.k (.c (.int .i64 1))), none⟩,
    ⟨2, some 3, .move (.t 16), none⟩]) .skip))) (.cut [0, 3, 4] hodmanref8_Count.c14)))
def hodmanref8_Count.c17 : DCode := (.loop [0, 3, 4] hodmanref8_Count.c16)
def hodmanref8_Count.c22 : DCode := (.seq (.region [⟨0, some 17, .move (.t 3), none⟩,
    ⟨1, some 2, .move (.t 17), none⟩]) .ret)
def hodmanref8_Count.d : DFn := { ntmps := 18, res := [.t 2], body := (.seq (.region [⟨0, some 2, .move (.k (.c (.int .i64 0))), none⟩]) (.seq (.region [⟨0, some 3, .move (.k (.c (.int .i64 0))), none⟩]) (.seq (.seq (.region [⟨0, some 4, .move (.k (.c (.int .i64 0))), none⟩]) (.block 0 hodmanref8_Count.c17)) hodmanref8_Count.c22))) }
def hodmanref8_Count.k22 (M : Mach) (C : Call) : Kont := execC M.j C (M.ag C) hodmanref8_Count.c22 ({ exits := [], ret := retK hodmanref8_Count.d } : Env) (retK hodmanref8_Count.d)
def hodmanref8_Count.e18 (M : Mach) (C : Call) : Env := { exits := (0, (hodmanref8_Count.k22 M C)) :: (({ exits := [], ret := retK hodmanref8_Count.d } : Env)).exits, ret := (({ exits := [], ret := retK hodmanref8_Count.d } : Env)).ret }
def hodmanref8_Count.L17 (M : Mach) (C : Call) (u1i u1o u1n : Nat) (u2 u3 : Int) (G : GH) : Option Res := M.ag C [0, 3, 4] hodmanref8_Count.c16 (hodmanref8_Count.e18 M C) (hodmanref8_Count.k22 M C) [.v (.c (.sl 1 u1i u1o u1n)), .und, .und, .v (.c (.int .i64 u2)), .v (.c (.int .i64 u3)), .und, .und, .und, .und, .und, .und, .und, .und, .und, .und, .und, .und, .und] G
def hodmanref8_Count.k17 (M : Mach) (C : Call) : Kont := fun tm G => M.ag C [0, 3, 4] hodmanref8_Count.c16 (hodmanref8_Count.e18 M C) (hodmanref8_Count.k22 M C) (restr [0, 3, 4] 0 tm) G
def hodmanref8_Count.J14 (M : Mach) (C : Call) (u1i u1o u1n : Nat) (u2 u3 : Int) (G : GH) : Option Res := M.j (execC M.j C (M.ag C) hodmanref8_Count.c14 (hodmanref8_Count.e18 M C) (hodmanref8_Count.k17 M C)) [.v (.c (.sl 1 u1i u1o u1n)), .und, .und, .v (.c (.int .i64 u2)), .v (.c (.int .i64 u3)), .und, .und, .und, .und, .und, .und, .und, .und, .und, .und, .und, .und, .und] G
theorem hodmanref8_Count.L17_eq (M : Mach) (C : Call) (u1i u1o u1n : Nat) (u2 u3 : Int) (G : GH) : hodmanref8_Count.L17 M C u1i u1o u1n u2 u3 G = (bif decide (u3 < ((u1n : Nat) : Int)) then guardK (decide (0 ≤ u3 ∧ u3 < ((u1n : Nat) : Int))) (((G.ld u1i (u1o + Int.toNat u3 * 1)).bind Cell.asB).bind fun q1 => bif q1 then hodmanref8_Count.J14 M C u1i u1o u1n (IntKind.i64.wrap (u2 + 1)) u3 G else hodmanref8_Count.J14 M C u1i u1o u1n u2 u3 G) else some ([.c (.int .i64 u2)], G)) := (M.hs _ _ _ _ _ _ _).trans (by kernel_rfl)
theorem hodmanref8_Count.J14_eq (M : Mach) (C : Call) (u1i u1o u1n : Nat) (u2 u3 : Int) (G : GH) : hodmanref8_Count.J14 M C u1i u1o u1n u2 u3 G = (hodmanref8_Count.L17 M C u1i u1o u1n u2 (IntKind.i64.wrap (u3 + 1)) G) := (M.hj _ _ _).trans (by kernel_rfl)
def hodmanref8_Count.f (M : Mach) (C : Call) (u1i u1o u1n : Nat) (G : GH) : Option Res := hodmanref8_Count.L17 M C u1i u1o u1n 0 0 G
theorem hodmanref8_Count.eq (M : Mach) (C : Call) (u1i u1o u1n : Nat) (G : GH) : runF M C hodmanref8_Count.d [.c (.sl 1 u1i u1o u1n)] G = hodmanref8_Count.f M C u1i u1o u1n G := by kernel_rfl

/- 54 (*hodman/hodmanplay.Picks).Size -/
def hodmanplay_Picks_Size.d : DFn := { ntmps := 32, res := [.t 4], body := (.seq (.region [⟨0, some 3, .boxv 31 [12, 21] (.t 1) 8, none⟩,
    ⟨1, some 4, .move (.k (.c (.int .i64 0))), none⟩]) (.seq (.seq (.region [⟨0, some 6, .move (.t 0), none⟩,
    ⟨1, some 7, .call 28 [.t 6, .k (.c (.int .i64 12))] [.c (.int .i64)], none⟩]) (.block 0 (.seq (.region [⟨0, some 9, .cmp .eql .i64 (.t 7) (.k (.c (.int .i64 0))), none⟩,
    ⟨1, some 8, .move (.t 9), none⟩]) (.cond (.t 8) (.seq (.region [⟨0, some 4, .move (.k (.c (.int .i64 0))), none⟩]) .ret) (.seq (.region [⟨0, some 11, .cmp .eql .i64 (.t 7) (.k (.c (.int .i64 1))), none⟩,
    ⟨1, some 10, .move (.t 11), none⟩]) (.cond (.t 10) (.seq (.region [⟨0, some 12, .faddr 3 1, none⟩,
    ⟨1, some 13, .ldL 12 31 (.c (.int .i64)), none⟩,
    ⟨2, some 14, .move (.t 0), none⟩,
    ⟨3, some 15, .call 28 [.t 14, .k (.c (.int .i64 3))] [.c (.int .i64)], none⟩,
    ⟨4, some 16, .bin .add .i64 (.t 13) (.t 15), none⟩,
    ⟨5, some 4, .move (.t 16), none⟩]) .ret) (.seq (.region [⟨0, some 18, .cmp .eql .i64 (.t 7) (.k (.c (.int .i64 2))), none⟩,
    ⟨1, some 17, .move (.t 18), none⟩]) (.cond (.t 17) (.seq (.region [⟨0, some 4, .move (.k (.c (.int .i64 (-1)))), none⟩]) .ret) .skip)))))))) (.seq (.region [⟨0, some 19, .ldL 3 31 (.agg [.int .i64, .int .i64, .int .i64, .int .i64, .int .i64, .int .i64, .int .i64, .int .i64]), none⟩,
    ⟨1, some 20, .move (.t 0), none⟩,
    ⟨2, some 21, .faddr 3 3, none⟩,
    ⟨3, some 22, .ldL 21 31 (.c (.int .i64)), none⟩,
    ⟨4, some 23, .bin .add .i64 (.t 22) (.k (.c (.int .i64 1))), none⟩,
    ⟨5, some 24, .call 28 [.t 20, .t 23] [.c (.int .i64)], none⟩,
    ⟨6, some 25, .call 69 [.t 19, .t 24] [.c (.int .i64)], none⟩,
    ⟨7, some 5, .move (.t 25), none⟩]) (.seq (.region [⟨0, some 26, .move (.t 5), none⟩,
    ⟨1, some 27, .move (.t 0), none⟩,
    ⟨2, some 28, .call 28 [.t 27, .k (.c (.int .i64 3))] [.c (.int .i64)], none⟩,
    ⟨3, some 29, .bin .sub .i64 (.t 26) (.t 28), none⟩,
    ⟨4, some 30, .mx (.k (.c (.int .i64 1))) [.t 29], none⟩,
    ⟨5, some 4, .move (.t 30), none⟩]) .ret)))) }
def hodmanplay_Picks_Size.f (M : Mach) (C : Call) (u1i u1o : Nat) (u2 u3 u4 u5 u6 u7 u8 u9 : Int) (G : GH) : Option Res := (C hodmanplay_Picks_Num.id [.c (.ptr u1i u1o), .c (.int .i64 12)] G).bind fun q1 => (((q1.1[0]?).bind V1.c?).bind (Cell.asI .i64)).bind fun q2 => bif decide (q2 = 0) then some ([.c (.int .i64 0)], q1.2) else bif decide (q2 = 1) then (C hodmanplay_Picks_Num.id [.c (.ptr u1i u1o), .c (.int .i64 3)] q1.2).bind fun q3 => (((q3.1[0]?).bind V1.c?).bind (Cell.asI .i64)).bind fun q4 => some ([.c (.int .i64 (IntKind.i64.wrap (u3 + q4)))], q3.2) else bif decide (q2 = 2) then some ([.c (.int .i64 (-1))], q1.2) else (C hodmanplay_Picks_Num.id [.c (.ptr u1i u1o), .c (.int .i64 (IntKind.i64.wrap (u5 + 1)))] q1.2).bind fun q5 => (((q5.1[0]?).bind V1.c?).bind (Cell.asI .i64)).bind fun q6 => (C hodmanref1_Size.id [.agg [.int .i64 u2, .int .i64 u3, .int .i64 u4, .int .i64 u5, .int .i64 u6, .int .i64 u7, .int .i64 u8, .int .i64 u9], .c (.int .i64 q6)] q5.2).bind fun q7 => (((q7.1[0]?).bind V1.c?).bind (Cell.asI .i64)).bind fun q8 => (C hodmanplay_Picks_Num.id [.c (.ptr u1i u1o), .c (.int .i64 3)] q7.2).bind fun q9 => (((q9.1[0]?).bind V1.c?).bind (Cell.asI .i64)).bind fun q10 => some ([.c (.int .i64 (mx2 1 (IntKind.i64.wrap (q8 - q10))))], q9.2)
theorem hodmanplay_Picks_Size.eq (M : Mach) (C : Call) (u1i u1o : Nat) (u2 u3 u4 u5 u6 u7 u8 u9 : Int) (G : GH) : runF M C hodmanplay_Picks_Size.d [.c (.ptr u1i u1o), .agg [.int .i64 u2, .int .i64 u3, .int .i64 u4, .int .i64 u5, .int .i64 u6, .int .i64 u7, .int .i64 u8, .int .i64 u9]] G = hodmanplay_Picks_Size.f M C u1i u1o u2 u3 u4 u5 u6 u7 u8 u9 G := by kernel_rfl

/- 42 hodman/hodmanref1.Up -/
def hodmanref1_Up.c6 : DCode := (.cond (.t 10) (.seq (.region [⟨0, some 2, .move (.k (.c (.int .i64 0))), none⟩,
    ⟨1, some 3, .move (.k (.c (.bool false))), none⟩]) .ret) .skip)
def hodmanref1_Up.c16 : DCode := (.seq (.seq (.region [⟨0, some 11, .move (.t 4), none⟩,
    ⟨1, some 12, .move (.t 0), none⟩,
    ⟨2, some 13, .cmp .lss .i64 (.t 11) (.t 12), none⟩]) (.cond (.t 13) .skip (.exit 0))) (.block 1 (.region [⟨0, some 14, .move (.t 4), none⟩,
    ⟨1, some 15, .bin .mul .i64 (.t 14) (.k (.c (.int .i64 2))), none⟩,
    ⟨2, some 4, .move (.t 15), none⟩])))
def hodmanref1_Up.c21 : DCode := (.seq (.region [⟨0, some 16, .move (.t 4), none⟩,
    ⟨1, some 2, .move (.t 16), none⟩,
    ⟨2, some 3, .move (.k (.c (.bool true))), none⟩]) .ret)
def hodmanref1_Up.c23 : DCode := (.seq (.region [⟨0, some 4, .move (.k (.c (.int .i64 1))), none⟩]) (.seq (.block 0 (.loop [0, 4] hodmanref1_Up.c16)) hodmanref1_Up.c21))
def hodmanref1_Up.d : DFn := { ntmps := 17, res := [.t 2, .t 3], body := (.seq (.region [⟨0, some 2, .move (.k (.c (.int .i64 0))), none⟩,
    ⟨1, some 3, .move (.k (.c (.bool false))), none⟩]) (.seq (.seq (.region [⟨0, some 5, .move (.t 0), none⟩,
    ⟨1, some 6, .cmp .lss .i64 (.t 5) (.k (.c (.int .i64 1))), none⟩,
    ⟨2, some 7, .move (.t 6), none⟩,
    ⟨3, some 8, .move (.t 0), some (7, false)⟩,
    ⟨4, some 9, .cmp .gtr .i64 (.t 8) (.k (.c (.int .i64 4611686018427387904))), some (7, false)⟩,
    ⟨5, some 10, .pick (.t 7) (.k (.c (.bool true))) (.t 9), none⟩]) (.cut [0, 10] hodmanref1_Up.c6)) hodmanref1_Up.c23)) }
def hodmanref1_Up.k23 (M : Mach) (C : Call) : Kont := execC M.j C (M.ag C) hodmanref1_Up.c23 ({ exits := [], ret := retK hodmanref1_Up.d } : Env) (retK hodmanref1_Up.d)
def hodmanref1_Up.J6 (M : Mach) (C : Call) (u1 : Int) (u2 : Bool) (G : GH) : Option Res := M.j (execC M.j C (M.ag C) hodmanref1_Up.c6 ({ exits := [], ret := retK hodmanref1_Up.d } : Env) (hodmanref1_Up.k23 M C)) [.v (.c (.int .i64 u1)), .und, .und, .und, .und, .und, .und, .und, .und, .und, .v (.c (.bool u2)), .und, .und, .und, .und, .und, .und] G
def hodmanref1_Up.k21 (M : Mach) (C : Call) : Kont := execC M.j C (M.ag C) hodmanref1_Up.c21 ({ exits := [], ret := retK hodmanref1_Up.d } : Env) (retK hodmanref1_Up.d)
def hodmanref1_Up.e18 (M : Mach) (C : Call) : Env := { exits := (0, (hodmanref1_Up.k21 M C)) :: (({ exits := [], ret := retK hodmanref1_Up.d } : Env)).exits, ret := (({ exits := [], ret := retK hodmanref1_Up.d } : Env)).ret }
def hodmanref1_Up.L17 (M : Mach) (C : Call) (u1 u2 : Int) (G : GH) : Option Res := M.ag C [0, 4] hodmanref1_Up.c16 (hodmanref1_Up.e18 M C) (hodmanref1_Up.k21 M C) [.v (.c (.int .i64 u1)), .und, .und, .und, .v (.c (.int .i64 u2)), .und, .und, .und, .und, .und, .und, .und, .und, .und, .und, .und, .und] G
theorem hodmanref1_Up.J6_eq (M : Mach) (C : Call) (u1 : Int) (u2 : Bool) (G : GH) : hodmanref1_Up.J6 M C u1 u2 G = (bif u2 then some ([.c (.int .i64 0), .c (.bool false)], G) else hodmanref1_Up.L17 M C u1 1 G) := (M.hj _ _ _).trans (by kernel_rfl)
theorem hodmanref1_Up.L17_eq (M : Mach) (C : Call) (u1 u2 : Int) (G : GH) : hodmanref1_Up.L17 M C u1 u2 G = (bif decide (u2 < u1) then hodmanref1_Up.L17 M C u1 (IntKind.i64.wrap (u2 * 2)) G else some ([.c (.int .i64 u2), .c (.bool true)], G)) := (M.hs _ _ _ _ _ _ _).trans (by kernel_rfl)
def hodmanref1_Up.f (M : Mach) (C : Call) (u1 : Int) (G : GH) : Option Res := bif decide (u1 < 1) then hodmanref1_Up.J6 M C u1 true G else hodmanref1_Up.J6 M C u1 (decide (u1 > 4611686018427387904)) G
theorem hodmanref1_Up.eq (M : Mach) (C : Call) (u1 : Int) (G : GH) : runF M C hodmanref1_Up.d [.c (.int .i64 u1)] G = hodmanref1_Up.f M C u1 G := by kernel_rfl

/- 55 (*hodman/hodmanplay.Picks).Block -/
def hodmanplay_Picks_Block.c6 : DCode := (.cond (.t 12) (.seq (.region [⟨0, some 13, .move (.t 0), none⟩,
    ⟨1, some 14, .call 28 [.t 13, .k (.c (.int .i64 200))] [.c (.int .i64)], none⟩,
    ⟨2, some 15, .bin .sub .i64 (.t 14) (.k (.c (.int .i64 3))), none⟩,
    ⟨3, some 4, .move (.t 15), none⟩]) .ret) .skip)
def hodmanplay_Picks_Block.c10 : DCode := (.seq (.region [⟨0, some 16, .move (.t 1), none⟩,
    ⟨1, some 17, .move (.t 0), none⟩,
    ⟨2, some 18, .move (.t 1), none⟩,
    ⟨3, some 19, .len (.t 18), none⟩,
    ⟨4, some 20, .call 28 [.t 17, .t 19] [.c (.int .i64)], none⟩,
    ⟨5, some 21, .iaddr (.t 16) (.t 20) 3, none⟩,
    ⟨6, some 22, .faddr 21 0, none⟩,
    ⟨7, some 23, .ldG 22 (.c (.int .i64)), none⟩,
    ⟨8, some 4, .move (.t 23), none⟩]) .ret)
def hodmanplay_Picks_Block.d : DFn := { ntmps := 24, res := [.t 4], body := (.seq (.region [⟨0, some 4, .move (.k (.c (.int .i64 0))), none⟩]) (.seq (.seq (.region [⟨0, some 5, .move (.t 1), none⟩,
    ⟨1, some 6, .len (.t 5), none⟩,
    ⟨2, some 7, .cmp .eql .i64 (.t 6) (.k (.c (.int .i64 0))), none⟩,
    ⟨3, some 8, .move (.t 7), none⟩,
    ⟨4, some 9, .move (.t 0), some (8, false)⟩,
    ⟨5, some 10, .call 28 [.t 9, .k (.c (.int .i64 12))] [.c (.int .i64)], some (8, false)⟩,
    ⟨6, some 11, .cmp .eql .i64 (.t 10) (.k (.c (.int .i64 0))), some (8, false)⟩,
    ⟨7, some 12, .pick (.t 8) (.k (.c (.bool true))) (.t 11), none⟩]) (.cut [0, 1, 12] hodmanplay_Picks_Block.c6)) hodmanplay_Picks_Block.c10)) }
def hodmanplay_Picks_Block.k10 (M : Mach) (C : Call) : Kont := execC M.j C (M.ag C) hodmanplay_Picks_Block.c10 ({ exits := [], ret := retK hodmanplay_Picks_Block.d } : Env) (retK hodmanplay_Picks_Block.d)
def hodmanplay_Picks_Block.J6 (M : Mach) (C : Call) (u1i u1o u2i u2o u2n : Nat) (u3 : Bool) (G : GH) : Option Res := M.j (execC M.j C (M.ag C) hodmanplay_Picks_Block.c6 ({ exits := [], ret := retK hodmanplay_Picks_Block.d } : Env) (hodmanplay_Picks_Block.k10 M C)) [.v (.c (.ptr u1i u1o)), .v (.c (.sl 3 u2i u2o u2n)), .und, .und, .und, .und, .und, .und, .und, .und, .und, .und, .v (.c (.bool u3)), .und, .und, .und, .und, .und, .und, .und, .und, .und, .und, .und] G
theorem hodmanplay_Picks_Block.J6_eq (M : Mach) (C : Call) (u1i u1o u2i u2o u2n : Nat) (u3 : Bool) (G : GH) : hodmanplay_Picks_Block.J6 M C u1i u1o u2i u2o u2n u3 G = (bif u3 then (C hodmanplay_Picks_Num.id [.c (.ptr u1i u1o), .c (.int .i64 200)] G).bind fun q3 => (((q3.1[0]?).bind V1.c?).bind (Cell.asI .i64)).bind fun q4 => some ([.c (.int .i64 (IntKind.i64.wrap (q4 - 3)))], q3.2) else (C hodmanplay_Picks_Num.id [.c (.ptr u1i u1o), .c (.int .i64 ((u2n : Nat) : Int))] G).bind fun q5 => (((q5.1[0]?).bind V1.c?).bind (Cell.asI .i64)).bind fun q6 => guardK (decide (0 ≤ q6 ∧ q6 < ((u2n : Nat) : Int))) (((q5.2.ld u2i ((u2o + Int.toNat q6 * 3) + 0)).bind (Cell.asI .i64)).bind fun q7 => some ([.c (.int .i64 q7)], q5.2))) := (M.hj _ _ _).trans (by kernel_rfl)
def hodmanplay_Picks_Block.f (M : Mach) (C : Call) (u1i u1o u2i u2o u2n : Nat) (G : GH) : Option Res := bif decide (((u2n : Nat) : Int) = 0) then hodmanplay_Picks_Block.J6 M C u1i u1o u2i u2o u2n true G else (C hodmanplay_Picks_Num.id [.c (.ptr u1i u1o), .c (.int .i64 12)] G).bind fun q1 => (((q1.1[0]?).bind V1.c?).bind (Cell.asI .i64)).bind fun q2 => hodmanplay_Picks_Block.J6 M C u1i u1o u2i u2o u2n (decide (q2 = 0)) q1.2
theorem hodmanplay_Picks_Block.eq (M : Mach) (C : Call) (u1i u1o u2i u2o u2n : Nat) (G : GH) : runF M C hodmanplay_Picks_Block.d [.c (.ptr u1i u1o), .c (.sl 3 u2i u2o u2n)] G = hodmanplay_Picks_Block.f M C u1i u1o u2i u2o u2n G := by kernel_rfl

/- 61 hodman/hodmanref1.Add -/
def hodmanref1_Add.c6 : DCode := (.cond (.t 23) (.seq (.region [⟨0, some 4, .move (.k (.c (.int .i64 0))), none⟩,
    ⟨1, some 5, .move (.k (.c (.bool false))), none⟩]) .ret) .skip)
def hodmanref1_Add.c10 : DCode := (.seq (.region [⟨0, some 24, .move (.t 0), none⟩,
    ⟨1, some 25, .move (.t 1), none⟩,
    ⟨2, some 26, .bin .add .i64 (.t 24) (.t 25), none⟩,
    ⟨3, some 4, .move (.t 26), none⟩,
    ⟨4, some 5, .move (.k (.c (.bool true))), none⟩]) .ret)
def hodmanref1_Add.d : DFn := { ntmps := 27, res := [.t 4, .t 5], body := (.seq (.region [⟨0, some 4, .move (.k (.c (.int .i64 0))), none⟩,
    ⟨1, some 5, .move (.k (.c (.bool false))), none⟩]) (.seq (.seq (.region [⟨0, some 6, .move (.t 1), none⟩,
    ⟨1, some 7, .cmp .gtr .i64 (.t 6) (.k (.c (.int .i64 0))), none⟩,
    ⟨2, some 8, .move (.t 7), none⟩,
    ⟨3, some 9, .move (.t 0), some (8, true)⟩,
    ⟨4, some 10, .move (.t 1), some (8, true)⟩,
    ⟨5, some 11, .bin .sub .i64 (.k (.c (.int .i64 9223372036854775807))) (.t 10), some (8, true)⟩,
    ⟨6, some 12, .cmp .gtr .i64 (.t 9) (.t 11), some (8, true)⟩,
    ⟨7, some 13, .pick (.t 8) (.t 12) (.k (.c (.bool false))), none⟩,
    ⟨8, some 14, .move (.t 13), none⟩,
    ⟨9, some 15, .move (.t 1), some (14, false)⟩,
    ⟨10, some 16, .cmp .lss .i64 (.t 15) (.k (.c (.int .i64 0))), some (14, false)⟩,
    ⟨11, some 17, .move (.t 16), some (14, false)⟩,
    ⟨12, some 18, .move (.t 0), some (17, true)⟩,
    ⟨13, some 19, .move (.t 1), some (17, true)⟩,
    ⟨14, some 20, .bin .sub .i64 (.k (.c (.int .i64 (-9223372036854775808)))) (.t 19), some (17, true)⟩,
    ⟨15, some 21, .cmp .lss .i64 (.t 18) (.t 20), some (17, true)⟩,
    ⟨16, some 22, .pick (.t 17) (.t 21) (.k (.c (.bool false))), some (14, false)⟩,
    ⟨17, some 23, .pick (.t 14) (.k (.c (.bool true))) (.t 22), none⟩]) (.cut [0, 1, 23] hodmanref1_Add.c6)) hodmanref1_Add.c10)) }
def hodmanref1_Add.k10 (M : Mach) (C : Call) : Kont := execC M.j C (M.ag C) hodmanref1_Add.c10 ({ exits := [], ret := retK hodmanref1_Add.d } : Env) (retK hodmanref1_Add.d)
def hodmanref1_Add.J6 (M : Mach) (C : Call) (u1 u2 : Int) (u3 : Bool) (G : GH) : Option Res := M.j (execC M.j C (M.ag C) hodmanref1_Add.c6 ({ exits := [], ret := retK hodmanref1_Add.d } : Env) (hodmanref1_Add.k10 M C)) [.v (.c (.int .i64 u1)), .v (.c (.int .i64 u2)), .und, .und, .und, .und, .und, .und, .und, .und, .und, .und, .und, .und, .und, .und, .und, .und, .und, .und, .und, .und, .und, .v (.c (.bool u3)), .und, .und, .und] G
theorem hodmanref1_Add.J6_eq (M : Mach) (C : Call) (u1 u2 : Int) (u3 : Bool) (G : GH) : hodmanref1_Add.J6 M C u1 u2 u3 G = (bif u3 then some ([.c (.int .i64 0), .c (.bool false)], G) else some ([.c (.int .i64 (IntKind.i64.wrap (u1 + u2))), .c (.bool true)], G)) := (M.hj _ _ _).trans (by kernel_rfl)
def hodmanref1_Add.f (M : Mach) (C : Call) (u1 u2 : Int) (G : GH) : Option Res := bif decide (u2 > 0) then bif decide (u1 > IntKind.i64.wrap (9223372036854775807 - u2)) then hodmanref1_Add.J6 M C u1 u2 true G else bif decide (u2 < 0) then hodmanref1_Add.J6 M C u1 u2 (decide (u1 < IntKind.i64.wrap ((-9223372036854775808) - u2))) G else hodmanref1_Add.J6 M C u1 u2 false G else bif decide (u2 < 0) then hodmanref1_Add.J6 M C u1 u2 (decide (u1 < IntKind.i64.wrap ((-9223372036854775808) - u2))) G else hodmanref1_Add.J6 M C u1 u2 false G
theorem hodmanref1_Add.eq (M : Mach) (C : Call) (u1 u2 : Int) (G : GH) : runF M C hodmanref1_Add.d [.c (.int .i64 u1), .c (.int .i64 u2)] G = hodmanref1_Add.f M C u1 u2 G := by kernel_rfl

/- 75 hodman/calc.Up -/
def calc_Up.c6 : DCode := (.cond (.t 10) (.seq (.region [⟨0, some 2, .move (.k (.c (.int .i64 0))), none⟩,
    ⟨1, some 3, .move (.k (.c (.bool false))), none⟩]) .ret) .skip)
def calc_Up.c16 : DCode := (.seq (.seq (.region [⟨0, some 11, .move (.t 4), none⟩,
    ⟨1, some 12, .move (.t 0), none⟩,
    ⟨2, some 13, .cmp .lss .i64 (.t 11) (.t 12), none⟩]) (.cond (.t 13) .skip (.exit 0))) (.block 1 (.region [⟨0, some 14, .move (.t 4), none⟩,
    ⟨1, some 15, .bin .shl .i64 (.t 14) (.k (.c (.int .u64 1))), none⟩,
    ⟨2, some 4, .move (.t 15), none⟩])))
def calc_Up.c21 : DCode := (.seq (.region [⟨0, some 16, .move (.t 4), none⟩,
    ⟨1, some 2, .move (.t 16), none⟩,
    ⟨2, some 3, .move (.k (.c (.bool true))), none⟩]) .ret)
def calc_Up.c23 : DCode := (.seq (.region [⟨0, some 4, .move (.k (.c (.int .i64 1))), none⟩]) (.seq (.block 0 (.loop [0, 4] calc_Up.c16)) calc_Up.c21))
def calc_Up.d : DFn := { ntmps := 17, res := [.t 2, .t 3], body := (.seq (.region [⟨0, some 2, .move (.k (.c (.int .i64 0))), none⟩,
    ⟨1, some 3, .move (.k (.c (.bool false))), none⟩]) (.seq (.seq (.region [⟨0, some 5, .move (.t 0), none⟩,
    ⟨1, some 6, .cmp .lss .i64 (.t 5) (.k (.c (.int .i64 1))), none⟩,
    ⟨2, some 7, .move (.t 6), none⟩,
    ⟨3, some 8, .move (.t 0), some (7, false)⟩,
    ⟨4, some 9, .cmp .gtr .i64 (.t 8) (.k (.c (.int .i64 4611686018427387904))), some (7, false)⟩,
    ⟨5, some 10, .pick (.t 7) (.k (.c (.bool true))) (.t 9), none⟩]) (.cut [0, 10] calc_Up.c6)) calc_Up.c23)) }
def calc_Up.k23 (M : Mach) (C : Call) : Kont := execC M.j C (M.ag C) calc_Up.c23 ({ exits := [], ret := retK calc_Up.d } : Env) (retK calc_Up.d)
def calc_Up.J6 (M : Mach) (C : Call) (u1 : Int) (u2 : Bool) (G : GH) : Option Res := M.j (execC M.j C (M.ag C) calc_Up.c6 ({ exits := [], ret := retK calc_Up.d } : Env) (calc_Up.k23 M C)) [.v (.c (.int .i64 u1)), .und, .und, .und, .und, .und, .und, .und, .und, .und, .v (.c (.bool u2)), .und, .und, .und, .und, .und, .und] G
def calc_Up.k21 (M : Mach) (C : Call) : Kont := execC M.j C (M.ag C) calc_Up.c21 ({ exits := [], ret := retK calc_Up.d } : Env) (retK calc_Up.d)
def calc_Up.e18 (M : Mach) (C : Call) : Env := { exits := (0, (calc_Up.k21 M C)) :: (({ exits := [], ret := retK calc_Up.d } : Env)).exits, ret := (({ exits := [], ret := retK calc_Up.d } : Env)).ret }
def calc_Up.L17 (M : Mach) (C : Call) (u1 u2 : Int) (G : GH) : Option Res := M.ag C [0, 4] calc_Up.c16 (calc_Up.e18 M C) (calc_Up.k21 M C) [.v (.c (.int .i64 u1)), .und, .und, .und, .v (.c (.int .i64 u2)), .und, .und, .und, .und, .und, .und, .und, .und, .und, .und, .und, .und] G
theorem calc_Up.J6_eq (M : Mach) (C : Call) (u1 : Int) (u2 : Bool) (G : GH) : calc_Up.J6 M C u1 u2 G = (bif u2 then some ([.c (.int .i64 0), .c (.bool false)], G) else calc_Up.L17 M C u1 1 G) := (M.hj _ _ _).trans (by kernel_rfl)
theorem calc_Up.L17_eq (M : Mach) (C : Call) (u1 u2 : Int) (G : GH) : calc_Up.L17 M C u1 u2 G = (bif decide (u2 < u1) then calc_Up.L17 M C u1 (IntKind.i64.wrap (u2 * 2 ^ (min (1 : Int).toNat IntKind.i64.bits))) G else some ([.c (.int .i64 u2), .c (.bool true)], G)) := (M.hs _ _ _ _ _ _ _).trans (by kernel_rfl)
def calc_Up.f (M : Mach) (C : Call) (u1 : Int) (G : GH) : Option Res := bif decide (u1 < 1) then calc_Up.J6 M C u1 true G else calc_Up.J6 M C u1 (decide (u1 > 4611686018427387904)) G
theorem calc_Up.eq (M : Mach) (C : Call) (u1 : Int) (G : GH) : runF M C calc_Up.d [.c (.int .i64 u1)] G = calc_Up.f M C u1 G := by kernel_rfl

/- 43 hodman/hodmanref1.Round -/
def hodmanref1_Round.c6 : DCode := (.cond (.t 11) (.seq (.region [⟨0, some 4, .move (.k (.c (.int .i64 0))), none⟩,
    ⟨1, some 5, .move (.k (.c (.bool false))), none⟩]) .ret) .skip)
def hodmanref1_Round.c18 : DCode := (.seq (.seq (.region [⟨0, some 12, .move (.t 0), none⟩,
    ⟨1, some 13, .move (.t 1), none⟩,
    ⟨2, some 14, .bin .rem .i64 (.t 12) (.t 13), none⟩,
    ⟨3, some 15, .cmp .eql .i64 (.t 14) (.k (.c (.int .i64 0))), none⟩]) (.cond (.t 15) (.seq (.region [⟨0, some 16, .move (.t 0), none⟩,
    ⟨1, some 4, .move (.t 16), none⟩,
    ⟨2, some 5, .move (.k (.c (.bool true))), none⟩]) .ret) .skip)) (.seq (.region [⟨0, some 17, .move (.t 0), none⟩,
    ⟨1, some 18, .move (.t 0), none⟩,
    ⟨2, some 19, .move (.t 1), none⟩,
    ⟨3, some 20, .bin .rem .i64 (.t 18) (.t 19), none⟩,
    ⟨4, some 21, .bin .sub .i64 (.t 17) (.t 20), none⟩,
    ⟨5, some 22, .move (.t 1), none⟩,
    ⟨6, some 23, .call 61 [.t 21, .t 22] [.c (.int .i64), .c (.bool)], none⟩,
    ⟨7, some 24, .ext 23 0, none⟩,
    ⟨8, some 25, .ext 23 1, none⟩,
    ⟨9, some 4, .move (.t 24), none⟩,
    ⟨10, some 5, .move (.t 25), none⟩]) .ret))
def hodmanref1_Round.d : DFn := { ntmps := 26, res := [.t 4, .t 5], body := (.seq (.region [⟨0, some 4, .move (.k (.c (.int .i64 0))), none⟩,
    ⟨1, some 5, .move (.k (.c (.bool false))), none⟩]) (.seq (.seq (.region [⟨0, some 6, .move (.t 0), none⟩,
    ⟨1, some 7, .cmp .lss .i64 (.t 6) (.k (.c (.int .i64 0))), none⟩,
    ⟨2, some 8, .move (.t 7), none⟩,
    ⟨3, some 9, .move (.t 1), some (8, false)⟩,
    ⟨4, some 10, .cmp .lss .i64 (.t 9) (.k (.c (.int .i64 1))), some (8, false)⟩,
    ⟨5, some 11, .pick (.t 8) (.k (.c (.bool true))) (.t 10), none⟩]) (.cut [0, 1, 11] hodmanref1_Round.c6)) hodmanref1_Round.c18)) }
def hodmanref1_Round.k18 (M : Mach) (C : Call) : Kont := execC M.j C (M.ag C) hodmanref1_Round.c18 ({ exits := [], ret := retK hodmanref1_Round.d } : Env) (retK hodmanref1_Round.d)
def hodmanref1_Round.J6 (M : Mach) (C : Call) (u1 u2 : Int) (u3 : Bool) (G : GH) : Option Res := M.j (execC M.j C (M.ag C) hodmanref1_Round.c6 ({ exits := [], ret := retK hodmanref1_Round.d } : Env) (hodmanref1_Round.k18 M C)) [.v (.c (.int .i64 u1)), .v (.c (.int .i64 u2)), .und, .und, .und, .und, .und, .und, .und, .und, .und, .v (.c (.bool u3)), .und, .und, .und, .und, .und, .und, .und, .und, .und, .und, .und, .und, .und, .und] G
theorem hodmanref1_Round.J6_eq (M : Mach) (C : Call) (u1 u2 : Int) (u3 : Bool) (G : GH) : hodmanref1_Round.J6 M C u1 u2 u3 G = (bif u3 then some ([.c (.int .i64 0), .c (.bool false)], G) else (binD .rem .i64 u1 u2).bind fun q1 => bif decide (q1 = 0) then some ([.c (.int .i64 u1), .c (.bool true)], G) else (binD .rem .i64 u1 u2).bind fun q2 => (C hodmanref1_Add.id [.c (.int .i64 (IntKind.i64.wrap (u1 - q2))), .c (.int .i64 u2)] G).bind fun q3 => (((q3.1[0]?).bind V1.c?).bind (Cell.asI .i64)).bind fun q4 => (((q3.1[1]?).bind V1.c?).bind Cell.asB).bind fun q5 => some ([.c (.int .i64 q4), .c (.bool q5)], q3.2)) := (M.hj _ _ _).trans (by kernel_rfl)
def hodmanref1_Round.f (M : Mach) (C : Call) (u1 u2 : Int) (G : GH) : Option Res := bif decide (u1 < 0) then hodmanref1_Round.J6 M C u1 u2 true G else hodmanref1_Round.J6 M C u1 u2 (decide (u2 < 1)) G
theorem hodmanref1_Round.eq (M : Mach) (C : Call) (u1 u2 : Int) (G : GH) : runF M C hodmanref1_Round.d [.c (.int .i64 u1), .c (.int .i64 u2)] G = hodmanref1_Round.f M C u1 u2 G := by kernel_rfl

/- 76 slices.Index[[]int,int] -/
def slices_Index_int_int.c19 : DCode := (.seq (.region [⟨0, some 9, .cmp .lss .i64 (.t 8) (.t 7), none⟩]) (.seq (.cond (.t 9) .skip (.exit 0)) (.seq (.block 1 (.seq (.region [⟨0, some 10, .move (.t 8), none⟩,
    ⟨1, some 5, .move (.t 10), none⟩]) (.seq (.region [⟨0, some 11, .move (.t 1), none⟩,
    ⟨1, some 12, .move (.t 0), none⟩,
    ⟨2, some 13, .move (.t 5), none⟩,
    ⟨3, some 14, .iaddr (.t 12) (.t 13) 1, none⟩,
    ⟨4, some 15, .ldG 14 (.c (.int .i64)), none⟩,
    ⟨5, some 16, .cmp .eql .i64 (.t 11) (.t 15), none⟩]) (.cond (.t 16) (.seq (.region [⟨0, some 17, .move (.t 5), none⟩,
    ⟨1, some 4, .move (.t 17), none⟩]) .ret) .skip)))) (.region [⟨0, some 18, .bin .add .i64 (.t 8) (.k (.c (.int .i64 1))), none⟩,
    ⟨1, some 8, .move (.t 18), none⟩]))))
def slices_Index_int_int.c25 : DCode := (.seq (.region [⟨0, some 4, .move (.k (.c (.int .i64 (-1)))), none⟩]) .ret)
def slices_Index_int_int.d : DFn := { ntmps := 19, res := [.t 4], body := (.seq (.region [⟨0, some 4, .move (.k (.c (.int .i64 0))), none⟩]) (.seq (.seq (.region [⟨0, some 6, .move (.t 0), none⟩,
    ⟨1, some 7, .len (.t 6), none⟩,
    ⟨2, some 8, .move (.k (.c (.int .i64 0))), none⟩]) (.block 0 (.loop [0, 1, 7, 8] slices_Index_int_int.c19))) slices_Index_int_int.c25)) }
def slices_Index_int_int.k25 (M : Mach) (C : Call) : Kont := execC M.j C (M.ag C) slices_Index_int_int.c25 ({ exits := [], ret := retK slices_Index_int_int.d } : Env) (retK slices_Index_int_int.d)
def slices_Index_int_int.e21 (M : Mach) (C : Call) : Env := { exits := (0, (slices_Index_int_int.k25 M C)) :: (({ exits := [], ret := retK slices_Index_int_int.d } : Env)).exits, ret := (({ exits := [], ret := retK slices_Index_int_int.d } : Env)).ret }
def slices_Index_int_int.L20 (M : Mach) (C : Call) (u1i u1o u1n : Nat) (u2 u3 u4 : Int) (G : GH) : Option Res := M.ag C [0, 1, 7, 8] slices_Index_int_int.c19 (slices_Index_int_int.e21 M C) (slices_Index_int_int.k25 M C) [.v (.c (.sl 1 u1i u1o u1n)), .v (.c (.int .i64 u2)), .und, .und, .und, .und, .und, .v (.c (.int .i64 u3)), .v (.c (.int .i64 u4)), .und, .und, .und, .und, .und, .und, .und, .und, .und, .und] G
theorem slices_Index_int_int.L20_eq (M : Mach) (C : Call) (u1i u1o u1n : Nat) (u2 u3 u4 : Int) (G : GH) : slices_Index_int_int.L20 M C u1i u1o u1n u2 u3 u4 G = (bif decide (u4 < u3) then guardK (decide (0 ≤ u4 ∧ u4 < ((u1n : Nat) : Int))) (((G.ld u1i (u1o + Int.toNat u4 * 1)).bind (Cell.asI .i64)).bind fun q1 => bif decide (u2 = q1) then some ([.c (.int .i64 u4)], G) else slices_Index_int_int.L20 M C u1i u1o u1n u2 u3 (IntKind.i64.wrap (u4 + 1)) G) else some ([.c (.int .i64 (-1))], G)) := (M.hs _ _ _ _ _ _ _).trans (by kernel_rfl)
def slices_Index_int_int.f (M : Mach) (C : Call) (u1i u1o u1n : Nat) (u2 : Int) (G : GH) : Option Res := slices_Index_int_int.L20 M C u1i u1o u1n u2 ((u1n : Nat) : Int) 0 G
theorem slices_Index_int_int.eq (M : Mach) (C : Call) (u1i u1o u1n : Nat) (u2 : Int) (G : GH) : runF M C slices_Index_int_int.d [.c (.sl 1 u1i u1o u1n), .c (.int .i64 u2)] G = slices_Index_int_int.f M C u1i u1o u1n u2 G := by kernel_rfl

/- 35 hodman/hodmanref17.Find -/
def hodmanref17_Find.c17 : DCode := (.seq (.seq (.region [⟨0, some 6, .move (.t 5), none⟩,
    ⟨1, some 7, .move (.t 0), none⟩,
    ⟨2, some 8, .len (.t 7), none⟩,
    ⟨3, some 9, .cmp .lss .i64 (.t 6) (.t 8), none⟩]) (.cond (.t 9) .skip (.exit 0))) (.seq (.block 1 (.seq (.region [⟨0, some 12, .move (.t 0), none⟩,
    ⟨1, some 13, .move (.t 5), none⟩,
    ⟨2, some 14, .iaddr (.t 12) (.t 13) 3, none⟩,
    ⟨3, some 15, .faddr 14 0, none⟩,
    ⟨4, some 16, .ldG 15 (.c (.int .i64)), none⟩,
    ⟨5, some 17, .move (.t 1), none⟩,
    ⟨6, some 18, .cmp .eql .i64 (.t 16) (.t 17), none⟩]) (.cond (.t 18) (.seq (.region [⟨0, some 19, .move (.t 5), none⟩,
    ⟨1, some 4, .move (.t 19), none⟩]) .ret) .skip))) (.region [⟨0, some 10, .move (.t 5), none⟩,
    ⟨1, some 11, .bin .add .i64 (.t 10) (.k (.c (.int .i64 1))), none⟩,
    ⟨2, some 5, .move (.t 11), none⟩])))
def hodmanref17_Find.c23 : DCode := (.seq (.region [⟨0, some 4, .move (.k (.c (.int .i64 (-1)))), none⟩]) .ret)
def hodmanref17_Find.d : DFn := { ntmps := 20, res := [.t 4], body := (.seq (.region [⟨0, some 4, .move (.k (.c (.int .i64 0))), none⟩]) (.seq (.seq (.region [⟨0, some 5, .move (.k (.c (.int .i64 0))), none⟩]) (.block 0 (.loop [0, 1, 5] hodmanref17_Find.c17))) hodmanref17_Find.c23)) }
def hodmanref17_Find.k23 (M : Mach) (C : Call) : Kont := execC M.j C (M.ag C) hodmanref17_Find.c23 ({ exits := [], ret := retK hodmanref17_Find.d } : Env) (retK hodmanref17_Find.d)
def hodmanref17_Find.e19 (M : Mach) (C : Call) : Env := { exits := (0, (hodmanref17_Find.k23 M C)) :: (({ exits := [], ret := retK hodmanref17_Find.d } : Env)).exits, ret := (({ exits := [], ret := retK hodmanref17_Find.d } : Env)).ret }
def hodmanref17_Find.L18 (M : Mach) (C : Call) (u1i u1o u1n : Nat) (u2 u3 : Int) (G : GH) : Option Res := M.ag C [0, 1, 5] hodmanref17_Find.c17 (hodmanref17_Find.e19 M C) (hodmanref17_Find.k23 M C) [.v (.c (.sl 3 u1i u1o u1n)), .v (.c (.int .i64 u2)), .und, .und, .und, .v (.c (.int .i64 u3)), .und, .und, .und, .und, .und, .und, .und, .und, .und, .und, .und, .und, .und, .und] G
theorem hodmanref17_Find.L18_eq (M : Mach) (C : Call) (u1i u1o u1n : Nat) (u2 u3 : Int) (G : GH) : hodmanref17_Find.L18 M C u1i u1o u1n u2 u3 G = (bif decide (u3 < ((u1n : Nat) : Int)) then guardK (decide (0 ≤ u3 ∧ u3 < ((u1n : Nat) : Int))) (((G.ld u1i ((u1o + Int.toNat u3 * 3) + 0)).bind (Cell.asI .i64)).bind fun q1 => bif decide (q1 = u2) then some ([.c (.int .i64 u3)], G) else hodmanref17_Find.L18 M C u1i u1o u1n u2 (IntKind.i64.wrap (u3 + 1)) G) else some ([.c (.int .i64 (-1))], G)) := (M.hs _ _ _ _ _ _ _).trans (by kernel_rfl)
def hodmanref17_Find.f (M : Mach) (C : Call) (u1i u1o u1n : Nat) (u2 : Int) (G : GH) : Option Res := hodmanref17_Find.L18 M C u1i u1o u1n u2 0 G
theorem hodmanref17_Find.eq (M : Mach) (C : Call) (u1i u1o u1n : Nat) (u2 : Int) (G : GH) : runF M C hodmanref17_Find.d [.c (.sl 3 u1i u1o u1n), .c (.int .i64 u2)] G = hodmanref17_Find.f M C u1i u1o u1n u2 G := by kernel_rfl

/- 58 (*hodman/same.reader).knows -/
def same_reader_knows.d : DFn := { ntmps := 36, res := [.t 6], body := (.seq (.region [⟨0, some 6, .move (.k (.c (.bool false))), none⟩]) (.seq (.region [⟨0, some 10, .move (.t 0), none⟩,
    ⟨1, some 11, .nilck (.t 10), none⟩,
    ⟨2, some 12, .faddr 11 8, none⟩,
    ⟨3, some 13, .ldG 12 (.c (.map)), none⟩,
    ⟨4, some 14, .move (.t 1), none⟩,
    ⟨5, some 15, .build [.int .i64 0, .int .i64 0] [(0, 1, .t 14)], none⟩,
    ⟨6, some 16, .lkup (.agg [.int .i64, .int .i64]) (.t 13) (.t 15) (.c (.ptr 0 0)) (.c (.ptr)) true, none⟩,
    ⟨7, some 9, .move (.t 16), none⟩,
    ⟨8, some 17, .ext 9 0, none⟩,
    ⟨9, some 18, .ext 9 1, none⟩,
    ⟨10, some 7, .move (.t 17), none⟩,
    ⟨11, some 8, .move (.t 18), none⟩]) (.seq (.region [⟨0, some 19, .move (.t 8), none⟩,
    ⟨1, some 20, .move (.t 19), none⟩,
    ⟨2, some 21, .move (.t 2), some (20, true)⟩,
    ⟨3, some 22, .move (.t 7), some (20, true)⟩,
    ⟨4, some 23, .nilck (.t 22), some (20, true)⟩,
    ⟨5, some 24, .faddr 23 1, some (20, true)⟩,
    ⟨6, some 25, .ldG 24 (.c (.int .i64)), some (20, true)⟩,
    ⟨7, some 26, .cmp .lss .i64 (.t 21) (.t 25), some (20, true)⟩,
    ⟨8, some 27, .move (.t 26), some (20, true)⟩,
    ⟨9, some 28, .move (.t 7), some (27, false)⟩,
    ⟨10, some 29, .nilck (.t 28), some (27, false)⟩,
    ⟨11, some 30, .faddr 29 2, some (27, false)⟩,
    ⟨12, some 31, .ldG 30 (.c (.sl 1)), some (27, false)⟩,
    ⟨13, some 32, .move (.t 2), some (27, false)⟩,
    ⟨14, some 33, .call 71 [.t 31, .t 32] [.c (.bool)], some (27, false)⟩,
    ⟨15, some 34, .pick (.t 27) (.k (.c (.bool true))) (.t 33), some (20, true)⟩,
    ⟨16, some 35, .pick (.t 20) (.t 34) (.k (.c (.bool false))), none⟩,
    ⟨17, some 6, .move (.t 35), none⟩]) .ret))) }
def same_reader_knows.f (M : Mach) (C : Call) (u1i u1o : Nat) (u2 u3 : Int) (G : GH) : Option Res := guardK (!Nat.beq u1i 0) (((G.ld u1i (u1o + 8)).bind Cell.asM).bind fun q1 => (G.ents0 (.agg [.int .i64, .int .i64]) q1).bind fun q2 => ((((some ((mapGet q2 (.agg [.int .i64 u2, .int .i64 0])).getD (.c (.ptr 0 0))))).bind V1.c?).bind Cell.asP).bind fun q3 => bif (mapGet q2 (.agg [.int .i64 u2, .int .i64 0])).isSome then guardK (!Nat.beq q3.1 0) (((G.ld q3.1 (q3.2 + 1)).bind (Cell.asI .i64)).bind fun q4 => bif decide (u3 < q4) then some ([.c (.bool true)], G) else guardK (!Nat.beq q3.1 0) (((G.ld q3.1 (q3.2 + 2)).bind (Cell.asS 1)).bind fun q5 => (C slices_Contains_int_int.id [.c (.sl 1 q5.1 q5.2.1 q5.2.2), .c (.int .i64 u3)] G).bind fun q6 => (((q6.1[0]?).bind V1.c?).bind Cell.asB).bind fun q7 => some ([.c (.bool q7)], q6.2))) else some ([.c (.bool false)], G))
theorem same_reader_knows.eq (M : Mach) (C : Call) (u1i u1o : Nat) (u2 u3 : Int) (G : GH) : runF M C same_reader_knows.d [.c (.ptr u1i u1o), .c (.int .i64 u2), .c (.int .i64 u3)] G = same_reader_knows.f M C u1i u1o u2 u3 G := by kernel_rfl

/- 49 hodman/hodmanref1.Many -/
def hodmanref1_Many.d : DFn := { ntmps := 29, res := [.t 8, .t 9], body := (.seq (.region [⟨0, some 4, .boxv 28 [] (.t 0) 8, none⟩,
    ⟨1, some 8, .move (.k (.c (.int .i64 0))), none⟩,
    ⟨2, some 9, .move (.k (.c (.int .i64 0))), none⟩]) (.seq (.region [⟨0, some 13, .ldL 4 28 (.agg [.int .i64, .int .i64, .int .i64, .int .i64, .int .i64, .int .i64, .int .i64, .int .i64]), none⟩,
    ⟨1, some 14, .move (.t 2), none⟩,
    ⟨2, some 15, .move (.t 3), none⟩,
    ⟨3, some 16, .call 60 [.t 13, .t 14, .t 15] [.c (.int .i64), .c (.int .i64)], none⟩,
    ⟨4, some 12, .move (.t 16), none⟩,
    ⟨5, some 17, .ext 12 0, none⟩,
    ⟨6, some 18, .ext 12 1, none⟩,
    ⟨7, some 10, .move (.t 17), none⟩,
    ⟨8, some 11, .move (.t 18), none⟩]) (.seq (.seq (.region [⟨0, some 19, .move (.t 11), none⟩,
    ⟨1, some 20, .cmp .neq .i64 (.t 19) (.k (.c (.int .i64 0))), none⟩]) (.cond (.t 20) (.seq (.region [⟨0, some 21, .move (.t 11), none⟩,
    ⟨1, some 8, .move (.k (.c (.int .i64 0))), none⟩,
    ⟨2, some 9, .move (.t 21), none⟩]) .ret) .skip)) (.seq (.region [⟨0, some 22, .ldL 4 28 (.agg [.int .i64, .int .i64, .int .i64, .int .i64, .int .i64, .int .i64, .int .i64, .int .i64]), none⟩,
    ⟨1, some 23, .move (.t 1), none⟩,
    ⟨2, some 24, .move (.t 10), none⟩,
    ⟨3, some 25, .call 48 [.t 22, .t 23, .t 24, .k (.c (.int .i64 1))] [.c (.int .i64), .c (.int .i64)], none⟩,
    ⟨4, some 26, .ext 25 0, none⟩,
    ⟨5, some 27, .ext 25 1, none⟩,
    ⟨6, some 8, .move (.t 26), none⟩,
    ⟨7, some 9, .move (.t 27), none⟩]) .ret)))) }
def hodmanref1_Many.f (M : Mach) (C : Call) (u1 u2 u3 u4 u5 u6 u7 u8 u9 u10 u11 : Int) (G : GH) : Option Res := (C hodmanref1_Product.id [.agg [.int .i64 u1, .int .i64 u2, .int .i64 u3, .int .i64 u4, .int .i64 u5, .int .i64 u6, .int .i64 u7, .int .i64 u8], .c (.int .i64 u10), .c (.int .i64 u11)] G).bind fun q1 => (((q1.1[0]?).bind V1.c?).bind (Cell.asI .i64)).bind fun q2 => (((q1.1[1]?).bind V1.c?).bind (Cell.asI .i64)).bind fun q3 => bif (!decide (q3 = 0)) then some ([.c (.int .i64 0), .c (.int .i64 q3)], q1.2) else (C hodmanref1_New.id [.agg [.int .i64 u1, .int .i64 u2, .int .i64 u3, .int .i64 u4, .int .i64 u5, .int .i64 u6, .int .i64 u7, .int .i64 u8], .c (.int .i64 u9), .c (.int .i64 q2), .c (.int .i64 1)] q1.2).bind fun q4 => (((q4.1[0]?).bind V1.c?).bind (Cell.asI .i64)).bind fun q5 => (((q4.1[1]?).bind V1.c?).bind (Cell.asI .i64)).bind fun q6 => some ([.c (.int .i64 q5), .c (.int .i64 q6)], q4.2)
theorem hodmanref1_Many.eq (M : Mach) (C : Call) (u1 u2 u3 u4 u5 u6 u7 u8 u9 u10 u11 : Int) (G : GH) : runF M C hodmanref1_Many.d [.agg [.int .i64 u1, .int .i64 u2, .int .i64 u3, .int .i64 u4, .int .i64 u5, .int .i64 u6, .int .i64 u7, .int .i64 u8], .c (.int .i64 u9), .c (.int .i64 u10), .c (.int .i64 u11)] G = hodmanref1_Many.f M C u1 u2 u3 u4 u5 u6 u7 u8 u9 u10 u11 G := by kernel_rfl

/- 48 hodman/hodmanref1.New -/
def hodmanref1_New.d : DFn := { ntmps := 30, res := [.t 8, .t 9], body := (.seq (.region [⟨0, some 4, .boxv 29 [23] (.t 0) 8, none⟩,
    ⟨1, some 8, .move (.k (.c (.int .i64 0))), none⟩,
    ⟨2, some 9, .move (.k (.c (.int .i64 0))), none⟩]) (.seq (.region [⟨0, some 13, .ldL 4 29 (.agg [.int .i64, .int .i64, .int .i64, .int .i64, .int .i64, .int .i64, .int .i64, .int .i64]), none⟩,
    ⟨1, some 14, .move (.t 2), none⟩,
    ⟨2, some 15, .move (.t 3), none⟩,
    ⟨3, some 16, .call 59 [.t 13, .t 14, .t 15] [.c (.int .i64), .c (.int .i64)], none⟩,
    ⟨4, some 12, .move (.t 16), none⟩,
    ⟨5, some 17, .ext 12 0, none⟩,
    ⟨6, some 18, .ext 12 1, none⟩,
    ⟨7, some 10, .move (.t 17), none⟩,
    ⟨8, some 11, .move (.t 18), none⟩]) (.seq (.seq (.region [⟨0, some 19, .move (.t 11), none⟩,
    ⟨1, some 20, .cmp .neq .i64 (.t 19) (.k (.c (.int .i64 0))), none⟩]) (.cond (.t 20) (.seq (.region [⟨0, some 21, .move (.t 11), none⟩,
    ⟨1, some 8, .move (.k (.c (.int .i64 0))), none⟩,
    ⟨2, some 9, .move (.t 21), none⟩]) .ret) .skip)) (.seq (.seq (.region [⟨0, some 22, .move (.t 1), none⟩,
    ⟨1, some 23, .faddr 4 2, none⟩,
    ⟨2, some 24, .ldL 23 29 (.c (.int .i64)), none⟩,
    ⟨3, some 25, .move (.t 10), none⟩,
    ⟨4, some 26, .bin .sub .i64 (.t 24) (.t 25), none⟩,
    ⟨5, some 27, .cmp .gtr .i64 (.t 22) (.t 26), none⟩]) (.cond (.t 27) (.seq (.region [⟨0, some 8, .move (.k (.c (.int .i64 0))), none⟩,
    ⟨1, some 9, .move (.k (.c (.int .i64 5))), none⟩]) .ret) .skip)) (.seq (.region [⟨0, some 28, .move (.t 10), none⟩,
    ⟨1, some 8, .move (.t 28), none⟩,
    ⟨2, some 9, .move (.k (.c (.int .i64 0))), none⟩]) .ret))))) }
def hodmanref1_New.f (M : Mach) (C : Call) (u1 u2 u3 u4 u5 u6 u7 u8 u9 u10 u11 : Int) (G : GH) : Option Res := (C hodmanref1_Charge.id [.agg [.int .i64 u1, .int .i64 u2, .int .i64 u3, .int .i64 u4, .int .i64 u5, .int .i64 u6, .int .i64 u7, .int .i64 u8], .c (.int .i64 u10), .c (.int .i64 u11)] G).bind fun q1 => (((q1.1[0]?).bind V1.c?).bind (Cell.asI .i64)).bind fun q2 => (((q1.1[1]?).bind V1.c?).bind (Cell.asI .i64)).bind fun q3 => bif (!decide (q3 = 0)) then some ([.c (.int .i64 0), .c (.int .i64 q3)], q1.2) else bif decide (u9 > IntKind.i64.wrap (u3 - q2)) then some ([.c (.int .i64 0), .c (.int .i64 5)], q1.2) else some ([.c (.int .i64 q2), .c (.int .i64 0)], q1.2)
theorem hodmanref1_New.eq (M : Mach) (C : Call) (u1 u2 u3 u4 u5 u6 u7 u8 u9 u10 u11 : Int) (G : GH) : runF M C hodmanref1_New.d [.agg [.int .i64 u1, .int .i64 u2, .int .i64 u3, .int .i64 u4, .int .i64 u5, .int .i64 u6, .int .i64 u7, .int .i64 u8], .c (.int .i64 u9), .c (.int .i64 u10), .c (.int .i64 u11)] G = hodmanref1_New.f M C u1 u2 u3 u4 u5 u6 u7 u8 u9 u10 u11 G := by kernel_rfl

/- 69 hodman/hodmanref1.Size -/
def hodmanref1_Size.c12 : DCode := (.seq (.seq (.region [⟨0, some 9, .move (.t 6), none⟩,
    ⟨1, some 10, .move (.t 1), none⟩,
    ⟨2, some 11, .cmp .lss .i64 (.t 9) (.t 10), none⟩]) (.cond (.t 11) .skip (.exit 0))) (.seq (.block 1 (.region [⟨0, some 14, .move (.t 5), none⟩,
    ⟨1, some 15, .bin .mul .i64 (.t 14) (.k (.c (.int .i64 2))), none⟩,
    ⟨2, some 5, .move (.t 15), none⟩])) (.region [⟨0, some 12, .move (.t 6), none⟩,
    ⟨1, some 13, .bin .add .i64 (.t 12) (.k (.c (.int .i64 1))), none⟩,
    ⟨2, some 6, .move (.t 13), none⟩])))
def hodmanref1_Size.c18 : DCode := (.seq (.region [⟨0, some 16, .move (.t 5), none⟩,
    ⟨1, some 4, .move (.t 16), none⟩]) .ret)
def hodmanref1_Size.d : DFn := { ntmps := 18, res := [.t 4], body := (.seq (.region [⟨0, some 2, .boxv 17 [7] (.t 0) 8, none⟩,
    ⟨1, some 4, .move (.k (.c (.int .i64 0))), none⟩]) (.seq (.region [⟨0, some 7, .faddr 2 0, none⟩,
    ⟨1, some 8, .ldL 7 17 (.c (.int .i64)), none⟩,
    ⟨2, some 5, .move (.t 8), none⟩]) (.seq (.seq (.region [⟨0, some 6, .move (.k (.c (.int .i64 0))), none⟩]) (.block 0 (.loop [1, 5, 6] hodmanref1_Size.c12))) hodmanref1_Size.c18))) }
def hodmanref1_Size.k18 (M : Mach) (C : Call) : Kont := execC M.j C (M.ag C) hodmanref1_Size.c18 ({ exits := [], ret := retK hodmanref1_Size.d } : Env) (retK hodmanref1_Size.d)
def hodmanref1_Size.e14 (M : Mach) (C : Call) : Env := { exits := (0, (hodmanref1_Size.k18 M C)) :: (({ exits := [], ret := retK hodmanref1_Size.d } : Env)).exits, ret := (({ exits := [], ret := retK hodmanref1_Size.d } : Env)).ret }
def hodmanref1_Size.L13 (M : Mach) (C : Call) (u1 u2 u3 : Int) (G : GH) : Option Res := M.ag C [1, 5, 6] hodmanref1_Size.c12 (hodmanref1_Size.e14 M C) (hodmanref1_Size.k18 M C) [.und, .v (.c (.int .i64 u1)), .und, .und, .und, .v (.c (.int .i64 u2)), .v (.c (.int .i64 u3)), .und, .und, .und, .und, .und, .und, .und, .und, .und, .und, .und] G
theorem hodmanref1_Size.L13_eq (M : Mach) (C : Call) (u1 u2 u3 : Int) (G : GH) : hodmanref1_Size.L13 M C u1 u2 u3 G = (bif decide (u3 < u1) then hodmanref1_Size.L13 M C u1 (IntKind.i64.wrap (u2 * 2)) (IntKind.i64.wrap (u3 + 1)) G else some ([.c (.int .i64 u2)], G)) := (M.hs _ _ _ _ _ _ _).trans (by kernel_rfl)
def hodmanref1_Size.f (M : Mach) (C : Call) (u1 u2 u3 u4 u5 u6 u7 u8 u9 : Int) (G : GH) : Option Res := hodmanref1_Size.L13 M C u9 u1 0 G
theorem hodmanref1_Size.eq (M : Mach) (C : Call) (u1 u2 u3 u4 u5 u6 u7 u8 u9 : Int) (G : GH) : runF M C hodmanref1_Size.d [.agg [.int .i64 u1, .int .i64 u2, .int .i64 u3, .int .i64 u4, .int .i64 u5, .int .i64 u6, .int .i64 u7, .int .i64 u8], .c (.int .i64 u9)] G = hodmanref1_Size.f M C u1 u2 u3 u4 u5 u6 u7 u8 u9 G := by kernel_rfl

/- 36 hodman/hodmanref17.wrong -/
def hodmanref17_wrong.d : DFn := { ntmps := 12, res := [.box 4 (some 14), .box 5 (some 8)], body := (.seq (.region [⟨0, some 2, .boxv 9 [] (.t 0) 14, none⟩,
    ⟨1, some 4, .boxz 10 [] [.int .i64 0, .int .i64 0, .int .i64 0, .int .i64 0, .int .i64 0, .int .i64 0, .int .i64 0, .int .i64 0, .sl 3 0 0 0, .int .i64 0, .int .i64 0, .int .i64 0, .sl 1 0 0 0, .sl 1 0 0 0], none⟩,
    ⟨2, some 5, .boxz 11 [] [.int .i64 0, .int .i64 0, .int .i64 0, .int .u8 0, .int .i64 0, .int .i64 0, .int .i64 0, .int .i64 0], none⟩]) (.seq (.region [⟨0, some 6, .ldL 2 9 (.agg [.int .i64, .int .i64, .int .i64, .int .i64, .int .i64, .int .i64, .int .i64, .int .i64, .sl 3, .int .i64, .int .i64, .int .i64, .sl 1, .sl 1]), none⟩,
    ⟨1, some 7, .move (.t 1), none⟩,
    ⟨2, some 8, .build [.int .i64 0, .int .i64 0, .int .i64 0, .int .u8 0, .int .i64 0, .int .i64 0, .int .i64 0, .int .i64 0] [(0, 1, .t 7)], none⟩,
    ⟨3, none, .stL 4 10 (.t 6) 14, none⟩,
    ⟨4, none, .stL 5 11 (.t 8) 8, none⟩]) .ret)) }
def hodmanref17_wrong.f (M : Mach) (C : Call) (u1 u2 u3 u4 u5 u6 u7 u8 : Int) (u9i u9o u9n : Nat) (u10 u11 u12 : Int) (u13i u13o u13n u14i u14o u14n : Nat) (u15 : Int) (G : GH) : Option Res := some ([.agg [.int .i64 u1, .int .i64 u2, .int .i64 u3, .int .i64 u4, .int .i64 u5, .int .i64 u6, .int .i64 u7, .int .i64 u8, .sl 3 u9i u9o u9n, .int .i64 u10, .int .i64 u11, .int .i64 u12, .sl 1 u13i u13o u13n, .sl 1 u14i u14o u14n], .agg [.int .i64 u15, .int .i64 0, .int .i64 0, .int .u8 0, .int .i64 0, .int .i64 0, .int .i64 0, .int .i64 0]], G)
theorem hodmanref17_wrong.eq (M : Mach) (C : Call) (u1 u2 u3 u4 u5 u6 u7 u8 : Int) (u9i u9o u9n : Nat) (u10 u11 u12 : Int) (u13i u13o u13n u14i u14o u14n : Nat) (u15 : Int) (G : GH) : runF M C hodmanref17_wrong.d [.agg [.int .i64 u1, .int .i64 u2, .int .i64 u3, .int .i64 u4, .int .i64 u5, .int .i64 u6, .int .i64 u7, .int .i64 u8, .sl 3 u9i u9o u9n, .int .i64 u10, .int .i64 u11, .int .i64 u12, .sl 1 u13i u13o u13n, .sl 1 u14i u14o u14n], .c (.int .i64 u15)] G = hodmanref17_wrong.f M C u1 u2 u3 u4 u5 u6 u7 u8 u9i u9o u9n u10 u11 u12 u13i u13o u13n u14i u14o u14n u15 G := by kernel_rfl

/- 68 hodman/hodmanref8.there -/
def hodmanref8_there.d : DFn := { ntmps := 27, res := [.t 6], body := (.seq (.region [⟨0, some 6, .move (.k (.c (.bool false))), none⟩]) (.seq (.region [⟨0, some 7, .move (.t 1), none⟩,
    ⟨1, some 8, .cmp .geq .i64 (.t 7) (.k (.c (.int .i64 0))), none⟩,
    ⟨2, some 9, .move (.t 8), none⟩,
    ⟨3, some 10, .move (.t 2), some (9, true)⟩,
    ⟨4, some 11, .cmp .geq .i64 (.t 10) (.k (.c (.int .i64 0))), some (9, true)⟩,
    ⟨5, some 12, .pick (.t 9) (.t 11) (.k (.c (.bool false))), none⟩,
    ⟨6, some 13, .move (.t 12), none⟩,
    ⟨7, some 14, .move (.t 1), some (13, true)⟩,
    ⟨8, some 15, .move (.t 0), some (13, true)⟩,
    ⟨9, some 16, .len (.t 15), some (13, true)⟩,
    ⟨10, some 17, .cmp .leq .i64 (.t 14) (.t 16), some (13, true)⟩,
    ⟨11, some 18, .pick (.t 13) (.t 17) (.k (.c (.bool false))), none⟩,
    ⟨12, some 19, .move (.t 18), none⟩,
    ⟨13, some 20, .move (.t 2), some (19, true)⟩,
    ⟨14, some 21, .move (.t 0), some (19, true)⟩,
    ⟨15, some 22, .len (.t 21), some (19, true)⟩,
    ⟨16, some 23, .move (.t 1), some (19, true)⟩,
    ⟨17, some 24, .bin .sub .i64 (.t 22) (.t 23), some (19, true)⟩,
    ⟨18, some 25, .cmp .leq .i64 (.t 20) (.t 24), some (19, true)⟩,
    ⟨19, some 26, .pick (.t 19) (.t 25) (.k (.c (.bool false))), none⟩,
    ⟨20, some 6, .move (.t 26), none⟩]) .ret)) }
def hodmanref8_there.f (M : Mach) (C : Call) (u1i u1o u1n : Nat) (u2 u3 : Int) (G : GH) : Option Res := bif decide (u2 ≥ 0) then bif decide (u3 ≥ 0) then bif decide (u2 ≤ ((u1n : Nat) : Int)) then some ([.c (.bool (decide (u3 ≤ IntKind.i64.wrap (((u1n : Nat) : Int) - u2))))], G) else some ([.c (.bool false)], G) else some ([.c (.bool false)], G) else some ([.c (.bool false)], G)
theorem hodmanref8_there.eq (M : Mach) (C : Call) (u1i u1o u1n : Nat) (u2 u3 : Int) (G : GH) : runF M C hodmanref8_there.d [.c (.sl 1 u1i u1o u1n), .c (.int .i64 u2), .c (.int .i64 u3)] G = hodmanref8_there.f M C u1i u1o u1n u2 u3 G := by kernel_rfl

/- 53 hodman/hodmanref1.Anew -/
def hodmanref1_Anew.d : DFn := { ntmps := 19, res := [.t 8, .t 9], body := (.seq (.region [⟨0, some 4, .boxv 18 [] (.t 0) 8, none⟩,
    ⟨1, some 8, .move (.k (.c (.int .i64 0))), none⟩,
    ⟨2, some 9, .move (.k (.c (.int .i64 0))), none⟩]) (.seq (.region [⟨0, some 10, .ldL 4 18 (.agg [.int .i64, .int .i64, .int .i64, .int .i64, .int .i64, .int .i64, .int .i64, .int .i64]), none⟩,
    ⟨1, some 11, .move (.t 1), none⟩,
    ⟨2, some 12, .move (.t 2), none⟩,
    ⟨3, some 13, .bin .sub .i64 (.t 11) (.t 12), none⟩,
    ⟨4, some 14, .move (.t 3), none⟩,
    ⟨5, some 15, .call 48 [.t 10, .t 13, .t 14, .k (.c (.int .i64 1))] [.c (.int .i64), .c (.int .i64)], none⟩,
    ⟨6, some 16, .ext 15 0, none⟩,
    ⟨7, some 17, .ext 15 1, none⟩,
    ⟨8, some 8, .move (.t 16), none⟩,
    ⟨9, some 9, .move (.t 17), none⟩]) .ret)) }
def hodmanref1_Anew.f (M : Mach) (C : Call) (u1 u2 u3 u4 u5 u6 u7 u8 u9 u10 u11 : Int) (G : GH) : Option Res := (C hodmanref1_New.id [.agg [.int .i64 u1, .int .i64 u2, .int .i64 u3, .int .i64 u4, .int .i64 u5, .int .i64 u6, .int .i64 u7, .int .i64 u8], .c (.int .i64 (IntKind.i64.wrap (u9 - u10))), .c (.int .i64 u11), .c (.int .i64 1)] G).bind fun q1 => (((q1.1[0]?).bind V1.c?).bind (Cell.asI .i64)).bind fun q2 => (((q1.1[1]?).bind V1.c?).bind (Cell.asI .i64)).bind fun q3 => some ([.c (.int .i64 q2), .c (.int .i64 q3)], q1.2)
theorem hodmanref1_Anew.eq (M : Mach) (C : Call) (u1 u2 u3 u4 u5 u6 u7 u8 u9 u10 u11 : Int) (G : GH) : runF M C hodmanref1_Anew.d [.agg [.int .i64 u1, .int .i64 u2, .int .i64 u3, .int .i64 u4, .int .i64 u5, .int .i64 u6, .int .i64 u7, .int .i64 u8], .c (.int .i64 u9), .c (.int .i64 u10), .c (.int .i64 u11)] G = hodmanref1_Anew.f M C u1 u2 u3 u4 u5 u6 u7 u8 u9 u10 u11 G := by kernel_rfl

/- 52 hodman/hodmanref8.Over -/
def hodmanref8_Over.d : DFn := { ntmps := 25, res := [.t 4], body := (.seq (.region [⟨0, some 2, .boxv 23 [5, 16, 18] (.t 0) 2, none⟩,
    ⟨1, some 3, .boxv 24 [7, 9, 14] (.t 1) 2, none⟩,
    ⟨2, some 4, .move (.k (.c (.bool false))), none⟩]) (.seq (.region [⟨0, some 5, .faddr 2 0, none⟩,
    ⟨1, some 6, .ldL 5 23 (.c (.int .i64)), none⟩,
    ⟨2, some 7, .faddr 3 0, none⟩,
    ⟨3, some 8, .ldL 7 24 (.c (.int .i64)), none⟩,
    ⟨4, some 9, .faddr 3 1, none⟩,
    ⟨5, some 10, .ldL 9 24 (.c (.int .i64)), none⟩,
    ⟨6, some 11, .bin .add .i64 (.t 8) (.t 10), none⟩,
    ⟨7, some 12, .cmp .lss .i64 (.t 6) (.t 11), none⟩,
    ⟨8, some 13, .move (.t 12), none⟩,
    ⟨9, some 14, .faddr 3 0, some (13, true)⟩,
    ⟨10, some 15, .ldL 14 24 (.c (.int .i64)), some (13, true)⟩,
    ⟨11, some 16, .faddr 2 0, some (13, true)⟩,
    ⟨12, some 17, .ldL 16 23 (.c (.int .i64)), some (13, true)⟩,
    ⟨13, some 18, .faddr 2 1, some (13, true)⟩,
    ⟨14, some 19, .ldL 18 23 (.c (.int .i64)), some (13, true)⟩,
    ⟨15, some 20, .bin .add .i64 (.t 17) (.t 19), some (13, true)⟩,
    ⟨16, some 21, .cmp .lss .i64 (.t 15) (.t 20), some (13, true)⟩,
    ⟨17, some 22, .pick (.t 13) (.t 21) (.k (.c (.bool false))), none⟩,
    ⟨18, some 4, .move (.t 22), none⟩]) .ret)) }
def hodmanref8_Over.f (M : Mach) (C : Call) (u1 u2 u3 u4 : Int) (G : GH) : Option Res := bif decide (u1 < IntKind.i64.wrap (u3 + u4)) then some ([.c (.bool (decide (u3 < IntKind.i64.wrap (u1 + u2))))], G) else some ([.c (.bool false)], G)
theorem hodmanref8_Over.eq (M : Mach) (C : Call) (u1 u2 u3 u4 : Int) (G : GH) : runF M C hodmanref8_Over.d [.agg [.int .i64 u1, .int .i64 u2], .agg [.int .i64 u3, .int .i64 u4]] G = hodmanref8_Over.f M C u1 u2 u3 u4 G := by kernel_rfl

/- 73 hodman/hodmanref8.Byte -/
def hodmanref8_Byte.d : DFn := { ntmps := 20, res := [.t 6], body := (.seq (.region [⟨0, some 6, .move (.k (.c (.int .u8 0))), none⟩]) (.seq (.region [⟨0, some 7, .move (.t 0), none⟩,
    ⟨1, some 8, .bin .rem .i64 (.t 7) (.k (.c (.int .i64 256))), none⟩,
    ⟨2, some 9, .move (.t 1), none⟩,
    ⟨3, some 10, .bin .rem .i64 (.t 9) (.k (.c (.int .i64 256))), none⟩,
    ⟨4, some 11, .bin .mul .i64 (.k (.c (.int .i64 31))) (.t 10), none⟩,
    ⟨5, some 12, .bin .add .i64 (.t 8) (.t 11), none⟩,
    ⟨6, some 13, .move (.t 2), none⟩,
    ⟨7, some 14, .bin .rem .i64 (.t 13) (.k (.c (.int .i64 256))), none⟩,
    ⟨8, some 15, .bin .mul .i64 (.k (.c (.int .i64 7))) (.t 14), none⟩,
    ⟨9, some 16, .bin .add .i64 (.t 12) (.t 15), none⟩,
    ⟨10, some 17, .bin .add .i64 (.t 16) (.k (.c (.int .i64 1))), none⟩,
    ⟨11, some 18, .bin .rem .i64 (.t 17) (.k (.c (.int .i64 256))), none⟩,
    ⟨12, some 19, .conv .u8 (.t 18), none⟩,
    ⟨13, some 6, .move (.t 19), none⟩]) .ret)) }
def hodmanref8_Byte.f (M : Mach) (C : Call) (u1 u2 u3 : Int) (G : GH) : Option Res := some ([.c (.int .u8 (IntKind.u8.wrap (Int.tmod (IntKind.i64.wrap ((IntKind.i64.wrap ((IntKind.i64.wrap ((Int.tmod u1 256) + (IntKind.i64.wrap (31 * (Int.tmod u2 256))))) + (IntKind.i64.wrap (7 * (Int.tmod u3 256))))) + 1)) 256)))], G)
theorem hodmanref8_Byte.eq (M : Mach) (C : Call) (u1 u2 u3 : Int) (G : GH) : runF M C hodmanref8_Byte.d [.c (.int .i64 u1), .c (.int .i64 u2), .c (.int .i64 u3)] G = hodmanref8_Byte.f M C u1 u2 u3 G := by kernel_rfl

/- 29 (*hodman/hodmanplay.Picks).Over -/
def hodmanplay_Picks_Over.d : DFn := { ntmps := 13, res := [.t 2], body := (.seq (.region [⟨0, some 2, .move (.k (.c (.bool false))), none⟩]) (.seq (.region [⟨0, some 3, .move (.t 0), none⟩,
    ⟨1, some 4, .nilck (.t 3), none⟩,
    ⟨2, some 5, .faddr 4 1, none⟩,
    ⟨3, some 6, .ldG 5 (.c (.int .i64)), none⟩,
    ⟨4, some 7, .move (.t 0), none⟩,
    ⟨5, some 8, .nilck (.t 7), none⟩,
    ⟨6, some 9, .faddr 8 0, none⟩,
    ⟨7, some 10, .ldG 9 (.c (.sl 1)), none⟩,
    ⟨8, some 11, .len (.t 10), none⟩,
    ⟨9, some 12, .cmp .geq .i64 (.t 6) (.t 11), none⟩,
    ⟨10, some 2, .move (.t 12), none⟩]) .ret)) }
def hodmanplay_Picks_Over.f (M : Mach) (C : Call) (u1i u1o : Nat) (G : GH) : Option Res := guardK (!Nat.beq u1i 0) (((G.ld u1i (u1o + 1)).bind (Cell.asI .i64)).bind fun q1 => guardK (!Nat.beq u1i 0) (((G.ld u1i (u1o + 0)).bind (Cell.asS 1)).bind fun q2 => some ([.c (.bool (decide (q1 ≥ ((q2.2.2 : Nat) : Int))))], G)))
theorem hodmanplay_Picks_Over.eq (M : Mach) (C : Call) (u1i u1o : Nat) (G : GH) : runF M C hodmanplay_Picks_Over.d [.c (.ptr u1i u1o)] G = hodmanplay_Picks_Over.f M C u1i u1o G := by kernel_rfl

/- 71 slices.Contains[[]int,int] -/
def slices_Contains_int_int.d : DFn := { ntmps := 9, res := [.t 4], body := (.seq (.region [⟨0, some 4, .move (.k (.c (.bool false))), none⟩]) (.seq (.region [⟨0, some 5, .move (.t 0), none⟩,
    ⟨1, some 6, .move (.t 1), none⟩,
    ⟨2, some 7, .call 76 [.t 5, .t 6] [.c (.int .i64)], none⟩,
    ⟨3, some 8, .cmp .geq .i64 (.t 7) (.k (.c (.int .i64 0))), none⟩,
    ⟨4, some 4, .move (.t 8), none⟩]) .ret)) }
def slices_Contains_int_int.f (M : Mach) (C : Call) (u1i u1o u1n : Nat) (u2 : Int) (G : GH) : Option Res := (C slices_Index_int_int.id [.c (.sl 1 u1i u1o u1n), .c (.int .i64 u2)] G).bind fun q1 => (((q1.1[0]?).bind V1.c?).bind (Cell.asI .i64)).bind fun q2 => some ([.c (.bool (decide (q2 ≥ 0)))], q1.2)
theorem slices_Contains_int_int.eq (M : Mach) (C : Call) (u1i u1o u1n : Nat) (u2 : Int) (G : GH) : runF M C slices_Contains_int_int.d [.c (.sl 1 u1i u1o u1n), .c (.int .i64 u2)] G = slices_Contains_int_int.f M C u1i u1o u1n u2 G := by kernel_rfl

/- 26 hodman/same.Same -/
def same_Same.d : DFn := { ntmps := 8, res := [.t 4], body := (.seq (.region [⟨0, some 4, .move (.k (.c (.bool false))), none⟩]) (.seq (.region [⟨0, some 5, .move (.t 0), none⟩,
    ⟨1, some 6, .move (.t 1), none⟩,
    ⟨2, some 7, .call 41 [.t 5, .t 6] [.c (.bool)], none⟩,
    ⟨3, some 4, .move (.t 7), none⟩]) .ret)) }
def same_Same.f (M : Mach) (C : Call) (u1i u1o u1n u2i u2o u2n : Nat) (G : GH) : Option Res := (C api_Ans.id [.c (.sl 8 u1i u1o u1n), .c (.sl 8 u2i u2o u2n)] G).bind fun q1 => (((q1.1[0]?).bind V1.c?).bind Cell.asB).bind fun q2 => some ([.c (.bool q2)], q1.2)
theorem same_Same.eq (M : Mach) (C : Call) (u1i u1o u1n u2i u2o u2n : Nat) (G : GH) : runF M C same_Same.d [.c (.sl 8 u1i u1o u1n), .c (.sl 8 u2i u2o u2n)] G = same_Same.f M C u1i u1o u1n u2i u2o u2n G := by kernel_rfl

/- 13 hodman/hodmanplay.Made -/
def hodmanplay_Made.d : DFn := { ntmps := 6, res := [.t 2], body := (.seq (.region [⟨0, some 2, .move (.k (.c (.ptr 0 0))), none⟩]) (.seq (.region [⟨0, some 3, .move (.t 0), none⟩,
    ⟨1, some 4, .build [.sl 1 0 0 0, .int .i64 0] [(0, 1, .t 3)], none⟩,
    ⟨2, some 5, .newv (.t 4) 2, none⟩,
    ⟨3, some 2, .move (.t 5), none⟩]) .ret)) }
def hodmanplay_Made.f (M : Mach) (C : Call) (u1i u1o u1n : Nat) (G : GH) : Option Res := let q1 := G.alloc (.row [.sl 1 u1i u1o u1n, .int .i64 0] false); some ([.c (.ptr G.next 0)], q1)
theorem hodmanplay_Made.eq (M : Mach) (C : Call) (u1i u1o u1n : Nat) (G : GH) : runF M C hodmanplay_Made.d [.c (.sl 1 u1i u1o u1n)] G = hodmanplay_Made.f M C u1i u1o u1n G := by kernel_rfl
end Go.Proofs.D
