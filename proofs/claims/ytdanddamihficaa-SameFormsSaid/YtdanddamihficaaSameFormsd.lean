/- Texts of the proof (T2); no condition. -/
import Derived.Test.YtdanddamihficaaSameFormsa
import Derived.KernelRfl
set_option linter.unusedSimpArgs false
set_option linter.unusedVariables false
set_option linter.unusedVariables false
set_option maxRecDepth 100000
namespace Go.Proofs.D
open Go
/- 22 hodman/hodmanref17.All -/
def hodmanref17_All.c14 : DCode := (.seq (.seq (.region [⟨0, some 10, .move (.t 7), none⟩,
    ⟨1, some 11, .move (.t 1), none⟩,
    ⟨2, some 12, .len (.t 11), none⟩,
    ⟨3, some 13, .cmp .lss .i64 (.t 10) (.t 12), none⟩]) (.cond (.t 13) .skip (.exit 0))) (.seq (.block 1 (.seq (.region [⟨0, some 17, .ldL 2 32 (.agg [.int .i64, .int .i64, .int .i64, .int .i64, .int .i64, .int .i64, .int .i64, .int .i64, .sl 3, .int .i64, .int .i64, .int .i64, .sl 1, .sl 1]), none⟩,
    ⟨1, some 18, .move (.t 1), none⟩,
    ⟨2, some 19, .move (.t 7), none⟩,
    ⟨3, some 20, .iaddr (.t 18) (.t 19) 6, none⟩,
    ⟨4, some 21, .ldG 20 (.agg [.int .i64, .int .i64, .int .i64, .int .i64, .int .i64, .int .u8]), none⟩,
    ⟨5, some 22, .call 18 [.t 17, .t 21] [.agg [.int .i64, .int .i64, .int .i64, .int .i64, .int .i64, .int .i64, .int .i64, .int .i64, .sl 3, .int .i64, .int .i64, .int .i64, .sl 1, .sl 1], .agg [.int .i64, .int .i64, .int .i64, .int .u8, .int .i64, .int .i64, .int .i64, .int .i64]], none⟩,
    ⟨6, some 16, .move (.t 22), none⟩,
    ⟨7, some 23, .ext 16 0, none⟩,
    ⟨8, some 24, .ext 16 1, none⟩,
    ⟨9, some 8, .boxz 34 [] [.int .i64 0, .int .i64 0, .int .i64 0, .int .i64 0, .int .i64 0, .int .i64 0, .int .i64 0, .int .i64 0, .sl 3 0 0 0, .int .i64 0, .int .i64 0, .int .i64 0, .sl 1 0 0 0, .sl 1 0 0 0], none⟩,
    ⟨10, some 9, .boxz 35 [] [.int .i64 0, .int .i64 0, .int .i64 0, .int .u8 0, .int .i64 0, .int .i64 0, .int .i64 0, .int .i64 0], none⟩,
    ⟨11, none, .stL 8 34 (.t 23) 14, none⟩,
    ⟨12, none, .stL 9 35 (.t 24) 8, none⟩]) (.region [⟨0, some 25, .ldL 8 34 (.agg [.int .i64, .int .i64, .int .i64, .int .i64, .int .i64, .int .i64, .int .i64, .int .i64, .sl 3, .int .i64, .int .i64, .int .i64, .sl 1, .sl 1]), none⟩,
    ⟨1, some 26, .move (.t 6), none⟩,
    ⟨2, some 27, .ldL 9 35 (.agg [.int .i64, .int .i64, .int .i64, .int .u8, .int .i64, .int .i64, .int .i64, .int .i64]), none⟩,
    ⟨3, some 28, .bslice 1 8 [.int .i64 0, .int .i64 0, .int .i64 0, .int .u8 0, .int .i64 0, .int .i64 0, .int .i64 0, .int .i64 0] [(0, 8, .t 27)], none⟩,
    ⟨4, some 29, .app (.t 26) (.t 28) 8 64, none⟩,
    ⟨5, none, .stL 2 32 (.t 25) 14, none⟩,
    ⟨6, some 6, .move (.t 29), none⟩]))) (.region [⟨0, some 14, .move (.t 7), none⟩,
    ⟨1, some 15, .bin .add .i64 (.t 14) (.k (.c (.int .i64 1))), none⟩,
    ⟨2, some 7, .move (.t 15), none⟩])))
def hodmanref17_All.c20 : DCode := (.seq (.region [⟨0, some 30, .ldL 2 32 (.agg [.int .i64, .int .i64, .int .i64, .int .i64, .int .i64, .int .i64, .int .i64, .int .i64, .sl 3, .int .i64, .int .i64, .int .i64, .sl 1, .sl 1]), none⟩,
    ⟨1, some 31, .move (.t 6), none⟩,
    ⟨2, none, .stL 4 33 (.t 30) 14, none⟩,
    ⟨3, some 5, .move (.t 31), none⟩]) .ret)
def hodmanref17_All.d : DFn := { ntmps := 36, res := [.box 4 (some 14), .t 5], body := (.seq (.region [⟨0, some 2, .boxv 32 [] (.t 0) 14, none⟩,
    ⟨1, some 4, .boxz 33 [] [.int .i64 0, .int .i64 0, .int .i64 0, .int .i64 0, .int .i64 0, .int .i64 0, .int .i64 0, .int .i64 0, .sl 3 0 0 0, .int .i64 0, .int .i64 0, .int .i64 0, .sl 1 0 0 0, .sl 1 0 0 0], none⟩,
    ⟨2, some 5, .move (.k (.c (.sl 8 0 0 0))), none⟩]) (.seq (.region [⟨0, some 6, .move (.k (.c (.sl 8 0 0 0))), none⟩]) (.seq (.seq (.region [⟨0, some 7, .move (.k (.c (.int .i64 0))), none⟩]) (.block 0 (.loop [1, 2, 4, 6, 7, 32, 33] hodmanref17_All.c14))) hodmanref17_All.c20))) }
def hodmanref17_All.k20 (M : Mach) (C : Call) : Kont := execC M.j C (M.ag C) hodmanref17_All.c20 ({ exits := [], ret := retK hodmanref17_All.d } : Env) (retK hodmanref17_All.d)
def hodmanref17_All.e16 (M : Mach) (C : Call) : Env := { exits := (0, (hodmanref17_All.k20 M C)) :: (({ exits := [], ret := retK hodmanref17_All.d } : Env)).exits, ret := (({ exits := [], ret := retK hodmanref17_All.d } : Env)).ret }
def hodmanref17_All.L15 (M : Mach) (C : Call) (ops1i : Nat) (ops1o : Nat) (ops1n : Nat) (out6i : Nat) (out6o : Nat) (out6n : Nat) (i7 : Int) (m32_0 : Int) (m32_1 : Int) (m32_2 : Int) (m32_3 : Int) (m32_4 : Int) (m32_5 : Int) (m32_6 : Int) (m32_7 : Int) (m32_8i : Nat) (m32_8o : Nat) (m32_8n : Nat) (m32_9 : Int) (m32_10 : Int) (m32_11 : Int) (m32_12i : Nat) (m32_12o : Nat) (m32_12n : Nat) (m32_13i : Nat) (m32_13o : Nat) (m32_13n : Nat) (x33_0 : Int) (x33_1 : Int) (x33_2 : Int) (x33_3 : Int) (x33_4 : Int) (x33_5 : Int) (x33_6 : Int) (x33_7 : Int) (x33_8i : Nat) (x33_8o : Nat) (x33_8n : Nat) (x33_9 : Int) (x33_10 : Int) (x33_11 : Int) (x33_12i : Nat) (x33_12o : Nat) (x33_12n : Nat) (x33_13i : Nat) (x33_13o : Nat) (x33_13n : Nat) (G : GH) : Option Res := M.ag C [1, 2, 4, 6, 7, 32, 33] hodmanref17_All.c14 (hodmanref17_All.e16 M C) (hodmanref17_All.k20 M C) [.und, .v (.c (.sl 6 ops1i ops1o ops1n)), .ref 32 0, .und, .ref 33 0, .und, .v (.c (.sl 8 out6i out6o out6n)), .v (.c (.int .i64 i7)), .und, .und, .und, .und, .und, .und, .und, .und, .und, .und, .und, .und, .und, .und, .und, .und, .und, .und, .und, .und, .und, .und, .und, .und, .box [.int .i64 m32_0, .int .i64 m32_1, .int .i64 m32_2, .int .i64 m32_3, .int .i64 m32_4, .int .i64 m32_5, .int .i64 m32_6, .int .i64 m32_7, .sl 3 m32_8i m32_8o m32_8n, .int .i64 m32_9, .int .i64 m32_10, .int .i64 m32_11, .sl 1 m32_12i m32_12o m32_12n, .sl 1 m32_13i m32_13o m32_13n], .box [.int .i64 x33_0, .int .i64 x33_1, .int .i64 x33_2, .int .i64 x33_3, .int .i64 x33_4, .int .i64 x33_5, .int .i64 x33_6, .int .i64 x33_7, .sl 3 x33_8i x33_8o x33_8n, .int .i64 x33_9, .int .i64 x33_10, .int .i64 x33_11, .sl 1 x33_12i x33_12o x33_12n, .sl 1 x33_13i x33_13o x33_13n], .und, .und] G
theorem hodmanref17_All.L15_eq (M : Mach) (C : Call) (ops1i : Nat) (ops1o : Nat) (ops1n : Nat) (out6i : Nat) (out6o : Nat) (out6n : Nat) (i7 : Int) (m32_0 : Int) (m32_1 : Int) (m32_2 : Int) (m32_3 : Int) (m32_4 : Int) (m32_5 : Int) (m32_6 : Int) (m32_7 : Int) (m32_8i : Nat) (m32_8o : Nat) (m32_8n : Nat) (m32_9 : Int) (m32_10 : Int) (m32_11 : Int) (m32_12i : Nat) (m32_12o : Nat) (m32_12n : Nat) (m32_13i : Nat) (m32_13o : Nat) (m32_13n : Nat) (x33_0 : Int) (x33_1 : Int) (x33_2 : Int) (x33_3 : Int) (x33_4 : Int) (x33_5 : Int) (x33_6 : Int) (x33_7 : Int) (x33_8i : Nat) (x33_8o : Nat) (x33_8n : Nat) (x33_9 : Int) (x33_10 : Int) (x33_11 : Int) (x33_12i : Nat) (x33_12o : Nat) (x33_12n : Nat) (x33_13i : Nat) (x33_13o : Nat) (x33_13n : Nat) (G : GH) : hodmanref17_All.L15 M C ops1i ops1o ops1n out6i out6o out6n i7 m32_0 m32_1 m32_2 m32_3 m32_4 m32_5 m32_6 m32_7 m32_8i m32_8o m32_8n m32_9 m32_10 m32_11 m32_12i m32_12o m32_12n m32_13i m32_13o m32_13n x33_0 x33_1 x33_2 x33_3 x33_4 x33_5 x33_6 x33_7 x33_8i x33_8o x33_8n x33_9 x33_10 x33_11 x33_12i x33_12o x33_12n x33_13i x33_13o x33_13n G = (bif decide (i7 < ((ops1n : Nat) : Int)) then guardK (decide (0 ≤ i7 ∧ i7 < ((ops1n : Nat) : Int))) (((G.ld ops1i ((ops1o + Int.toNat i7 * 6) + 0)).bind (Cell.asI .i64)).bind fun qx_1 => ((G.ld ops1i ((ops1o + Int.toNat i7 * 6) + 1)).bind (Cell.asI .i64)).bind fun qx_2 => ((G.ld ops1i ((ops1o + Int.toNat i7 * 6) + 2)).bind (Cell.asI .i64)).bind fun qx_3 => ((G.ld ops1i ((ops1o + Int.toNat i7 * 6) + 3)).bind (Cell.asI .i64)).bind fun qx_4 => ((G.ld ops1i ((ops1o + Int.toNat i7 * 6) + 4)).bind (Cell.asI .i64)).bind fun qx_5 => ((G.ld ops1i ((ops1o + Int.toNat i7 * 6) + 5)).bind (Cell.asI .u8)).bind fun qx_6 => (C hodmanref17_Do.id [.agg [.int .i64 m32_0, .int .i64 m32_1, .int .i64 m32_2, .int .i64 m32_3, .int .i64 m32_4, .int .i64 m32_5, .int .i64 m32_6, .int .i64 m32_7, .sl 3 m32_8i m32_8o m32_8n, .int .i64 m32_9, .int .i64 m32_10, .int .i64 m32_11, .sl 1 m32_12i m32_12o m32_12n, .sl 1 m32_13i m32_13o m32_13n], .agg [.int .i64 qx_1, .int .i64 qx_2, .int .i64 qx_3, .int .i64 qx_4, .int .i64 qx_5, .int .u8 qx_6]] G).bind fun qr_7 => ((qr_7.1[0]?).bind V1.a?).bind fun qcs_8 => if qcs_8.length = 14 then (((qcs_8[0]?).bind (Cell.asI .i64)).bind fun qx_9 => ((qcs_8[1]?).bind (Cell.asI .i64)).bind fun qx_10 => ((qcs_8[2]?).bind (Cell.asI .i64)).bind fun qx_11 => ((qcs_8[3]?).bind (Cell.asI .i64)).bind fun qx_12 => ((qcs_8[4]?).bind (Cell.asI .i64)).bind fun qx_13 => ((qcs_8[5]?).bind (Cell.asI .i64)).bind fun qx_14 => ((qcs_8[6]?).bind (Cell.asI .i64)).bind fun qx_15 => ((qcs_8[7]?).bind (Cell.asI .i64)).bind fun qx_16 => ((qcs_8[8]?).bind (Cell.asS 3)).bind fun qs_17 => ((qcs_8[9]?).bind (Cell.asI .i64)).bind fun qx_18 => ((qcs_8[10]?).bind (Cell.asI .i64)).bind fun qx_19 => ((qcs_8[11]?).bind (Cell.asI .i64)).bind fun qx_20 => ((qcs_8[12]?).bind (Cell.asS 1)).bind fun qs_21 => ((qcs_8[13]?).bind (Cell.asS 1)).bind fun qs_22 => ((qr_7.1[1]?).bind V1.a?).bind fun qcs_23 => if qcs_23.length = 8 then (((qcs_23[0]?).bind (Cell.asI .i64)).bind fun qx_24 => ((qcs_23[1]?).bind (Cell.asI .i64)).bind fun qx_25 => ((qcs_23[2]?).bind (Cell.asI .i64)).bind fun qx_26 => ((qcs_23[3]?).bind (Cell.asI .u8)).bind fun qx_27 => ((qcs_23[4]?).bind (Cell.asI .i64)).bind fun qx_28 => ((qcs_23[5]?).bind (Cell.asI .i64)).bind fun qx_29 => ((qcs_23[6]?).bind (Cell.asI .i64)).bind fun qx_30 => ((qcs_23[7]?).bind (Cell.asI .i64)).bind fun qx_31 => let qG_32 := qr_7.2.alloc (.row [.int .i64 qx_24, .int .i64 qx_25, .int .i64 qx_26, .int .u8 qx_27, .int .i64 qx_28, .int .i64 qx_29, .int .i64 qx_30, .int .i64 qx_31] false); (if 1 = 0 then some [] else qG_32.lds qr_7.2.next 0 (1 * 8)).bind fun qnew_33 => guardK (decide (out6n + 1 ≤ most)) ((qG_32.app out6i out6o out6n 8 1 qnew_33).bind fun qp_34 => hodmanref17_All.L15 M C ops1i ops1o ops1n qp_34.1 qp_34.2.1 (out6n + 1) (IntKind.i64.wrap (i7 + 1)) qx_9 qx_10 qx_11 qx_12 qx_13 qx_14 qx_15 qx_16 qs_17.1 qs_17.2.1 qs_17.2.2 qx_18 qx_19 qx_20 qs_21.1 qs_21.2.1 qs_21.2.2 qs_22.1 qs_22.2.1 qs_22.2.2 x33_0 x33_1 x33_2 x33_3 x33_4 x33_5 x33_6 x33_7 x33_8i x33_8o x33_8n x33_9 x33_10 x33_11 x33_12i x33_12o x33_12n x33_13i x33_13o x33_13n qp_34.2.2)) else none) else none) else some ([.agg [.int .i64 m32_0, .int .i64 m32_1, .int .i64 m32_2, .int .i64 m32_3, .int .i64 m32_4, .int .i64 m32_5, .int .i64 m32_6, .int .i64 m32_7, .sl 3 m32_8i m32_8o m32_8n, .int .i64 m32_9, .int .i64 m32_10, .int .i64 m32_11, .sl 1 m32_12i m32_12o m32_12n, .sl 1 m32_13i m32_13o m32_13n], .c (.sl 8 out6i out6o out6n)], G)) := (M.hs _ _ _ _ _ _ _).trans (by kernel_rfl)
def hodmanref17_All.f (M : Mach) (C : Call) (m0_0 : Int) (m0_1 : Int) (m0_2 : Int) (m0_3 : Int) (m0_4 : Int) (m0_5 : Int) (m0_6 : Int) (m0_7 : Int) (m0_8i : Nat) (m0_8o : Nat) (m0_8n : Nat) (m0_9 : Int) (m0_10 : Int) (m0_11 : Int) (m0_12i : Nat) (m0_12o : Nat) (m0_12n : Nat) (m0_13i : Nat) (m0_13o : Nat) (m0_13n : Nat) (ops1i : Nat) (ops1o : Nat) (ops1n : Nat) (G : GH) : Option Res := hodmanref17_All.L15 M C ops1i ops1o ops1n 0 0 0 0 m0_0 m0_1 m0_2 m0_3 m0_4 m0_5 m0_6 m0_7 m0_8i m0_8o m0_8n m0_9 m0_10 m0_11 m0_12i m0_12o m0_12n m0_13i m0_13o m0_13n 0 0 0 0 0 0 0 0 0 0 0 0 0 0 0 0 0 0 0 0 G
theorem hodmanref17_All.eq (M : Mach) (C : Call) (m0_0 : Int) (m0_1 : Int) (m0_2 : Int) (m0_3 : Int) (m0_4 : Int) (m0_5 : Int) (m0_6 : Int) (m0_7 : Int) (m0_8i : Nat) (m0_8o : Nat) (m0_8n : Nat) (m0_9 : Int) (m0_10 : Int) (m0_11 : Int) (m0_12i : Nat) (m0_12o : Nat) (m0_12n : Nat) (m0_13i : Nat) (m0_13o : Nat) (m0_13n : Nat) (ops1i : Nat) (ops1o : Nat) (ops1n : Nat) (G : GH) : runF M C hodmanref17_All.d [.agg [.int .i64 m0_0, .int .i64 m0_1, .int .i64 m0_2, .int .i64 m0_3, .int .i64 m0_4, .int .i64 m0_5, .int .i64 m0_6, .int .i64 m0_7, .sl 3 m0_8i m0_8o m0_8n, .int .i64 m0_9, .int .i64 m0_10, .int .i64 m0_11, .sl 1 m0_12i m0_12o m0_12n, .sl 1 m0_13i m0_13o m0_13n], .c (.sl 6 ops1i ops1o ops1n)] G = hodmanref17_All.f M C m0_0 m0_1 m0_2 m0_3 m0_4 m0_5 m0_6 m0_7 m0_8i m0_8o m0_8n m0_9 m0_10 m0_11 m0_12i m0_12o m0_12n m0_13i m0_13o m0_13n ops1i ops1o ops1n G := by kernel_rfl

/- 63 hodman/hodmanref17.Lowest -/
def hodmanref17_Lowest.c12 : DCode := (.cond (.t 26) .skip (.exit 2))
def hodmanref17_Lowest.c17 : DCode := (.seq (.block 3 (.region [⟨0, some 29, .move (.t 8), none⟩,
    ⟨1, some 30, .move (.t 2), none⟩,
    ⟨2, some 31, .build [.int .i64 0, .int .i64 0] [(0, 1, .t 29), (1, 1, .t 30)], none⟩,
    ⟨3, some 32, .move (.t 1), none⟩,
    ⟨4, some 33, .move (.t 10), none⟩,
    ⟨5, some 34, .iaddr (.t 32) (.t 33) 3, none⟩,
    ⟨6, some 35, .faddr 34 0, none⟩,
    ⟨7, some 36, .ldG 35 (.c (.int .i64)), none⟩,
    ⟨8, some 37, .move (.t 1), none⟩,
    ⟨9, some 38, .move (.t 10), none⟩,
    ⟨10, some 39, .iaddr (.t 37) (.t 38) 3, none⟩,
    ⟨11, some 40, .faddr 39 1, none⟩,
    ⟨12, some 41, .ldG 40 (.c (.int .i64)), none⟩,
    ⟨13, some 42, .build [.int .i64 0, .int .i64 0] [(0, 1, .t 36), (1, 1, .t 41)], none⟩,
    ⟨14, some 43, .call 52 [.t 31, .t 42] [.c (.bool)], none⟩,
    ⟨15, some 44, .not (.t 43), none⟩,
    ⟨16, some 9, .move (.t 44), none⟩])) (.region [⟨0, some 27, .move (.t 10), none⟩,
    ⟨1, some 28, .bin .add .i64 (.t 27) (.k (.c (.int .i64 1))), none⟩,
    ⟨2, some 10, .move (.t 28), none⟩]))
def hodmanref17_Lowest.c18 : DCode := (.seq (.seq (.region [⟨0, some 20, .move (.t 10), none⟩,
    ⟨1, some 21, .move (.t 1), none⟩,
    ⟨2, some 22, .len (.t 21), none⟩,
    ⟨3, some 23, .cmp .lss .i64 (.t 20) (.t 22), none⟩,
    ⟨4, some 24, .move (.t 23), none⟩,
    ⟨5, some 25, .move (.t 9), some (24, true)⟩,
    ⟨6, some 26, .pick (.t 24) (.t 25) (.k (.c (.bool false))), none⟩]) (.cut [1, 2, 3, 8, 9, 10, 26, 47] hodmanref17_Lowest.c12)) hodmanref17_Lowest.c17)
def hodmanref17_Lowest.c19 : DCode := (.loop [1, 2, 3, 8, 9, 10, 47] hodmanref17_Lowest.c18)
def hodmanref17_Lowest.c28 : DCode := (.seq (.region [⟨0, some 45, .move (.t 9), none⟩]) (.cond (.t 45) (.seq (.region [⟨0, some 46, .move (.t 8), none⟩,
    ⟨1, some 6, .move (.t 46), none⟩,
    ⟨2, some 7, .move (.k (.c (.bool true))), none⟩]) .ret) .skip))
def hodmanref17_Lowest.c32 : DCode := (.region [⟨0, some 17, .move (.t 8), none⟩,
    ⟨1, some 18, .move (.t 2), none⟩,
    ⟨2, some 19, .bin .add .i64 (.t 17) (.t 18), none⟩,
    ⟨3, some 8, .move (.t 19), none⟩])
def hodmanref17_Lowest.c34 : DCode := (.seq (.seq (.region [⟨0, some 11, .move (.t 8), none⟩,
    ⟨1, some 12, .move (.t 2), none⟩,
    ⟨2, some 13, .bin .add .i64 (.t 11) (.t 12), none⟩,
    ⟨3, some 14, .faddr 3 6, none⟩,
    ⟨4, some 15, .ldL 14 47 (.c (.int .i64)), none⟩,
    ⟨5, some 16, .cmp .leq .i64 (.t 13) (.t 15), none⟩]) (.cond (.t 16) .skip (.exit 0))) (.seq (.block 1 (.seq (.region [⟨0, some 9, .move (.k (.c (.bool true))), none⟩]) (.seq (.seq (.region [⟨0, some 10, .move (.k (.c (.int .i64 0))), none⟩]) (.block 2 hodmanref17_Lowest.c19)) hodmanref17_Lowest.c28))) hodmanref17_Lowest.c32))
def hodmanref17_Lowest.c35 : DCode := (.loop [1, 2, 3, 8, 47] hodmanref17_Lowest.c34)
def hodmanref17_Lowest.c40 : DCode := (.seq (.region [⟨0, some 6, .move (.k (.c (.int .i64 0))), none⟩,
    ⟨1, some 7, .move (.k (.c (.bool false))), none⟩]) .ret)
def hodmanref17_Lowest.d : DFn := { ntmps := 48, res := [.t 6, .t 7], body := (.seq (.region [⟨0, some 3, .boxv 47 [14] (.t 0) 8, none⟩,
    ⟨1, some 6, .move (.k (.c (.int .i64 0))), none⟩,
    ⟨2, some 7, .move (.k (.c (.bool false))), none⟩]) (.seq (.seq (.region [⟨0, some 8, .move (.k (.c (.int .i64 0))), none⟩]) (.block 0 hodmanref17_Lowest.c35)) hodmanref17_Lowest.c40)) }
def hodmanref17_Lowest.k40 (M : Mach) (C : Call) : Kont := execC M.j C (M.ag C) hodmanref17_Lowest.c40 ({ exits := [], ret := retK hodmanref17_Lowest.d } : Env) (retK hodmanref17_Lowest.d)
def hodmanref17_Lowest.e36 (M : Mach) (C : Call) : Env := { exits := (0, (hodmanref17_Lowest.k40 M C)) :: (({ exits := [], ret := retK hodmanref17_Lowest.d } : Env)).exits, ret := (({ exits := [], ret := retK hodmanref17_Lowest.d } : Env)).ret }
def hodmanref17_Lowest.L35 (M : Mach) (C : Call) (l1i : Nat) (l1o : Nat) (l1n : Nat) (charge2 : Int) (at8 : Int) (c47_0 : Int) (c47_1 : Int) (c47_2 : Int) (c47_3 : Int) (c47_4 : Int) (c47_5 : Int) (c47_6 : Int) (c47_7 : Int) (G : GH) : Option Res := M.ag C [1, 2, 3, 8, 47] hodmanref17_Lowest.c34 (hodmanref17_Lowest.e36 M C) (hodmanref17_Lowest.k40 M C) [.und, .v (.c (.sl 3 l1i l1o l1n)), .v (.c (.int .i64 charge2)), .ref 47 0, .und, .und, .und, .und, .v (.c (.int .i64 at8)), .und, .und, .und, .und, .und, .und, .und, .und, .und, .und, .und, .und, .und, .und, .und, .und, .und, .und, .und, .und, .und, .und, .und, .und, .und, .und, .und, .und, .und, .und, .und, .und, .und, .und, .und, .und, .und, .und, .box [.int .i64 c47_0, .int .i64 c47_1, .int .i64 c47_2, .int .i64 c47_3, .int .i64 c47_4, .int .i64 c47_5, .int .i64 c47_6, .int .i64 c47_7]] G
def hodmanref17_Lowest.k35 (M : Mach) (C : Call) : Kont := fun tm G => M.ag C [1, 2, 3, 8, 47] hodmanref17_Lowest.c34 (hodmanref17_Lowest.e36 M C) (hodmanref17_Lowest.k40 M C) (restr [1, 2, 3, 8, 47] 0 tm) G
def hodmanref17_Lowest.k32 (M : Mach) (C : Call) : Kont := execC M.j C (M.ag C) hodmanref17_Lowest.c32 (hodmanref17_Lowest.e36 M C) (hodmanref17_Lowest.k35 M C)
def hodmanref17_Lowest.e31 (M : Mach) (C : Call) : Env := { exits := (1, (hodmanref17_Lowest.k32 M C)) :: ((hodmanref17_Lowest.e36 M C)).exits, ret := ((hodmanref17_Lowest.e36 M C)).ret }
def hodmanref17_Lowest.k28 (M : Mach) (C : Call) : Kont := execC M.j C (M.ag C) hodmanref17_Lowest.c28 (hodmanref17_Lowest.e31 M C) (hodmanref17_Lowest.k32 M C)
def hodmanref17_Lowest.e20 (M : Mach) (C : Call) : Env := { exits := (2, (hodmanref17_Lowest.k28 M C)) :: ((hodmanref17_Lowest.e31 M C)).exits, ret := ((hodmanref17_Lowest.e31 M C)).ret }
def hodmanref17_Lowest.L19 (M : Mach) (C : Call) (l1i : Nat) (l1o : Nat) (l1n : Nat) (charge2 : Int) (at8 : Int) (free9 : Bool) (i10 : Int) (c47_0 : Int) (c47_1 : Int) (c47_2 : Int) (c47_3 : Int) (c47_4 : Int) (c47_5 : Int) (c47_6 : Int) (c47_7 : Int) (G : GH) : Option Res := M.ag C [1, 2, 3, 8, 9, 10, 47] hodmanref17_Lowest.c18 (hodmanref17_Lowest.e20 M C) (hodmanref17_Lowest.k28 M C) [.und, .v (.c (.sl 3 l1i l1o l1n)), .v (.c (.int .i64 charge2)), .ref 47 0, .und, .und, .und, .und, .v (.c (.int .i64 at8)), .v (.c (.bool free9)), .v (.c (.int .i64 i10)), .und, .und, .und, .und, .und, .und, .und, .und, .und, .und, .und, .und, .und, .und, .und, .und, .und, .und, .und, .und, .und, .und, .und, .und, .und, .und, .und, .und, .und, .und, .und, .und, .und, .und, .und, .und, .box [.int .i64 c47_0, .int .i64 c47_1, .int .i64 c47_2, .int .i64 c47_3, .int .i64 c47_4, .int .i64 c47_5, .int .i64 c47_6, .int .i64 c47_7]] G
def hodmanref17_Lowest.k19 (M : Mach) (C : Call) : Kont := fun tm G => M.ag C [1, 2, 3, 8, 9, 10, 47] hodmanref17_Lowest.c18 (hodmanref17_Lowest.e20 M C) (hodmanref17_Lowest.k28 M C) (restr [1, 2, 3, 8, 9, 10, 47] 0 tm) G
def hodmanref17_Lowest.k17 (M : Mach) (C : Call) : Kont := execC M.j C (M.ag C) hodmanref17_Lowest.c17 (hodmanref17_Lowest.e20 M C) (hodmanref17_Lowest.k19 M C)
def hodmanref17_Lowest.J12 (M : Mach) (C : Call) (l1i : Nat) (l1o : Nat) (l1n : Nat) (charge2 : Int) (at8 : Int) (free9 : Bool) (i10 : Int) (t26 : Bool) (c47_0 : Int) (c47_1 : Int) (c47_2 : Int) (c47_3 : Int) (c47_4 : Int) (c47_5 : Int) (c47_6 : Int) (c47_7 : Int) (G : GH) : Option Res := M.j (execC M.j C (M.ag C) hodmanref17_Lowest.c12 (hodmanref17_Lowest.e20 M C) (hodmanref17_Lowest.k17 M C)) [.und, .v (.c (.sl 3 l1i l1o l1n)), .v (.c (.int .i64 charge2)), .ref 47 0, .und, .und, .und, .und, .v (.c (.int .i64 at8)), .v (.c (.bool free9)), .v (.c (.int .i64 i10)), .und, .und, .und, .und, .und, .und, .und, .und, .und, .und, .und, .und, .und, .und, .und, .v (.c (.bool t26)), .und, .und, .und, .und, .und, .und, .und, .und, .und, .und, .und, .und, .und, .und, .und, .und, .und, .und, .und, .und, .box [.int .i64 c47_0, .int .i64 c47_1, .int .i64 c47_2, .int .i64 c47_3, .int .i64 c47_4, .int .i64 c47_5, .int .i64 c47_6, .int .i64 c47_7]] G
theorem hodmanref17_Lowest.L35_eq (M : Mach) (C : Call) (l1i : Nat) (l1o : Nat) (l1n : Nat) (charge2 : Int) (at8 : Int) (c47_0 : Int) (c47_1 : Int) (c47_2 : Int) (c47_3 : Int) (c47_4 : Int) (c47_5 : Int) (c47_6 : Int) (c47_7 : Int) (G : GH) : hodmanref17_Lowest.L35 M C l1i l1o l1n charge2 at8 c47_0 c47_1 c47_2 c47_3 c47_4 c47_5 c47_6 c47_7 G = (bif decide (IntKind.i64.wrap (at8 + charge2) ≤ c47_6) then hodmanref17_Lowest.L19 M C l1i l1o l1n charge2 at8 true 0 c47_0 c47_1 c47_2 c47_3 c47_4 c47_5 c47_6 c47_7 G else some ([.c (.int .i64 0), .c (.bool false)], G)) := (M.hs _ _ _ _ _ _ _).trans (by kernel_rfl)
theorem hodmanref17_Lowest.L19_eq (M : Mach) (C : Call) (l1i : Nat) (l1o : Nat) (l1n : Nat) (charge2 : Int) (at8 : Int) (free9 : Bool) (i10 : Int) (c47_0 : Int) (c47_1 : Int) (c47_2 : Int) (c47_3 : Int) (c47_4 : Int) (c47_5 : Int) (c47_6 : Int) (c47_7 : Int) (G : GH) : hodmanref17_Lowest.L19 M C l1i l1o l1n charge2 at8 free9 i10 c47_0 c47_1 c47_2 c47_3 c47_4 c47_5 c47_6 c47_7 G = (bif decide (i10 < ((l1n : Nat) : Int)) then hodmanref17_Lowest.J12 M C l1i l1o l1n charge2 at8 free9 i10 free9 c47_0 c47_1 c47_2 c47_3 c47_4 c47_5 c47_6 c47_7 G else hodmanref17_Lowest.J12 M C l1i l1o l1n charge2 at8 free9 i10 false c47_0 c47_1 c47_2 c47_3 c47_4 c47_5 c47_6 c47_7 G) := (M.hs _ _ _ _ _ _ _).trans (by kernel_rfl)
theorem hodmanref17_Lowest.J12_eq (M : Mach) (C : Call) (l1i : Nat) (l1o : Nat) (l1n : Nat) (charge2 : Int) (at8 : Int) (free9 : Bool) (i10 : Int) (t26 : Bool) (c47_0 : Int) (c47_1 : Int) (c47_2 : Int) (c47_3 : Int) (c47_4 : Int) (c47_5 : Int) (c47_6 : Int) (c47_7 : Int) (G : GH) : hodmanref17_Lowest.J12 M C l1i l1o l1n charge2 at8 free9 i10 t26 c47_0 c47_1 c47_2 c47_3 c47_4 c47_5 c47_6 c47_7 G = (bif t26 then guardK (decide (0 ≤ i10 ∧ i10 < ((l1n : Nat) : Int))) (((G.ld l1i ((l1o + Int.toNat i10 * 3) + 0)).bind (Cell.asI .i64)).bind fun qx_1 => guardK (decide (0 ≤ i10 ∧ i10 < ((l1n : Nat) : Int))) (((G.ld l1i ((l1o + Int.toNat i10 * 3) + 1)).bind (Cell.asI .i64)).bind fun qx_2 => (C hodmanref8_Over.id [.agg [.int .i64 at8, .int .i64 charge2], .agg [.int .i64 qx_1, .int .i64 qx_2]] G).bind fun qr_3 => (((qr_3.1[0]?).bind V1.c?).bind Cell.asB).bind fun qb_4 => hodmanref17_Lowest.L19 M C l1i l1o l1n charge2 at8 (!qb_4) (IntKind.i64.wrap (i10 + 1)) c47_0 c47_1 c47_2 c47_3 c47_4 c47_5 c47_6 c47_7 qr_3.2)) else bif free9 then some ([.c (.int .i64 at8), .c (.bool true)], G) else hodmanref17_Lowest.L35 M C l1i l1o l1n charge2 (IntKind.i64.wrap (at8 + charge2)) c47_0 c47_1 c47_2 c47_3 c47_4 c47_5 c47_6 c47_7 G) := (M.hj _ _ _).trans (by kernel_rfl)
def hodmanref17_Lowest.f (M : Mach) (C : Call) (c0_0 : Int) (c0_1 : Int) (c0_2 : Int) (c0_3 : Int) (c0_4 : Int) (c0_5 : Int) (c0_6 : Int) (c0_7 : Int) (l1i : Nat) (l1o : Nat) (l1n : Nat) (charge2 : Int) (G : GH) : Option Res := hodmanref17_Lowest.L35 M C l1i l1o l1n charge2 0 c0_0 c0_1 c0_2 c0_3 c0_4 c0_5 c0_6 c0_7 G
theorem hodmanref17_Lowest.eq (M : Mach) (C : Call) (c0_0 : Int) (c0_1 : Int) (c0_2 : Int) (c0_3 : Int) (c0_4 : Int) (c0_5 : Int) (c0_6 : Int) (c0_7 : Int) (l1i : Nat) (l1o : Nat) (l1n : Nat) (charge2 : Int) (G : GH) : runF M C hodmanref17_Lowest.d [.agg [.int .i64 c0_0, .int .i64 c0_1, .int .i64 c0_2, .int .i64 c0_3, .int .i64 c0_4, .int .i64 c0_5, .int .i64 c0_6, .int .i64 c0_7], .c (.sl 3 l1i l1o l1n), .c (.int .i64 charge2)] G = hodmanref17_Lowest.f M C c0_0 c0_1 c0_2 c0_3 c0_4 c0_5 c0_6 c0_7 l1i l1o l1n charge2 G := by kernel_rfl

/- 32 hodman/hodmanref8.Trim -/
def hodmanref8_Trim.c13 : DCode := (.cond (.t 47) (.region [⟨0, some 48, .move (.t 7), none⟩,
    ⟨1, some 49, .bin .add .i64 (.t 48) (.k (.c (.int .i64 1))), none⟩,
    ⟨2, some 7, .move (.t 49), none⟩]) .skip)
def hodmanref8_Trim.c14 : DCode := (.seq (.region [⟨0, some 37, .move (.t 0), none⟩,
    ⟨1, some 38, .move (.t 8), none⟩,
    ⟨2, some 39, .iaddr (.t 37) (.t 38) 1, none⟩,
    ⟨3, some 40, .ldG 39 (.c (.bool)), none⟩,
    ⟨4, some 41, .move (.t 40), none⟩,
    ⟨5, some 42, .move (.t 6), some (41, true)⟩,
    ⟨6, some 43, .move (.t 8), some (41, true)⟩,
    ⟨7, some 44, .iaddr (.t 42) (.t 43) 1, some (41, true)⟩,
    ⟨8, some 45, .ldG 44 (.c (.bool)), some (41, true)⟩,
    ⟨9, some 46, .not (.t 45), some (41, true)⟩,
    ⟨10, some 47, .pick (.t 41) (.t 46) (.k (.c (.bool false))), none⟩]) (.cut [0, 1, 6, 7, 8, 47] hodmanref8_Trim.c13))
def hodmanref8_Trim.c17 : DCode := (.region [⟨0, some 16, .move (.t 8), none⟩,
    ⟨1, some 17, .bin .add .i64 (.t 16) (.k (.c (.int .i64 1))), none⟩,
    ⟨2, some 8, .move (.t 17), none⟩])
def hodmanref8_Trim.c19 : DCode := (.seq (.seq (.region [⟨0, some 12, .move (.t 8), none⟩,
    ⟨1, some 13, .move (.t 0), none⟩,
    ⟨2, some 14, .len (.t 13), none⟩,
    ⟨3, some 15, .cmp .lss .i64 (.t 12) (.t 14), none⟩]) (.cond (.t 15) .skip (.exit 0))) (.seq (.block 1 (.seq (.region [⟨0, some 18, .move (.t 6), none⟩,
    ⟨1, some 19, .move (.t 8), none⟩,
    ⟨2, some 20, .move (.t 0), none⟩,
    ⟨3, some 21, .move (.t 8), none⟩,
    ⟨4, some 22, .iaddr (.t 20) (.t 21) 1, none⟩,
    ⟨5, some 23, .ldG 22 (.c (.bool)), none⟩,
    ⟨6, some 24, .move (.t 23), none⟩,
    ⟨7, some 25, .move (.t 8), some (24, true)⟩,
    ⟨8, some 26, .move (.t 1), some (24, true)⟩,
    ⟨9, some 27, .len (.t 26), some (24, true)⟩,
    ⟨10, some 28, .cmp .lss .i64 (.t 25) (.t 27), some (24, true)⟩,
    ⟨11, some 29, .pick (.t 24) (.t 28) (.k (.c (.bool false))), none⟩,
    ⟨12, some 30, .move (.t 29), none⟩,
    ⟨13, some 31, .move (.t 1), some (30, true)⟩,
    ⟨14, some 32, .move (.t 8), some (30, true)⟩,
    ⟨15, some 33, .iaddr (.t 31) (.t 32) 1, some (30, true)⟩,
    ⟨16, some 34, .ldG 33 (.c (.bool)), some (30, true)⟩,
    ⟨17, some 35, .pick (.t 30) (.t 34) (.k (.c (.bool false))), none⟩,
    ⟨18, some 36, .iaddr (.t 18) (.t 19) 1, none⟩,
    ⟨19, none, .stG 36 (.t 35) 1, none⟩]) (.cut [0, 1, 6, 7, 8] hodmanref8_Trim.c14))) (.cut [0, 1, 6, 7, 8] hodmanref8_Trim.c17)))
def hodmanref8_Trim.c20 : DCode := (.loop [0, 1, 6, 7, 8] hodmanref8_Trim.c19)
def hodmanref8_Trim.c25 : DCode := (.seq (.region [⟨0, some 50, .move (.t 6), none⟩,
    ⟨1, some 51, .move (.t 7), none⟩,
    ⟨2, some 4, .move (.t 50), none⟩,
    ⟨3, some 5, .move (.t 51), none⟩]) .ret)
def hodmanref8_Trim.d : DFn := { ntmps := 52, res := [.t 4, .t 5], body := (.seq (.region [⟨0, some 4, .move (.k (.c (.sl 1 0 0 0))), none⟩,
    ⟨1, some 5, .move (.k (.c (.int .i64 0))), none⟩]) (.seq (.region [⟨0, some 9, .move (.t 0), none⟩,
    ⟨1, some 10, .len (.t 9), none⟩,
    ⟨2, some 11, .mkslice (.t 10) 1 1 [.bool false], none⟩,
    ⟨3, some 6, .move (.t 11), none⟩]) (.seq (.region [⟨0, some 7, .move (.k (.c (.int .i64 0))), none⟩]) (.seq (.seq (.region [⟨0, some 8, .move (.k (.c (.int .i64 0))), none⟩]) (.block 0 hodmanref8_Trim.c20)) hodmanref8_Trim.c25)))) }
def hodmanref8_Trim.k25 (M : Mach) (C : Call) : Kont := execC M.j C (M.ag C) hodmanref8_Trim.c25 ({ exits := [], ret := retK hodmanref8_Trim.d } : Env) (retK hodmanref8_Trim.d)
def hodmanref8_Trim.e21 (M : Mach) (C : Call) : Env := { exits := (0, (hodmanref8_Trim.k25 M C)) :: (({ exits := [], ret := retK hodmanref8_Trim.d } : Env)).exits, ret := (({ exits := [], ret := retK hodmanref8_Trim.d } : Env)).ret }
def hodmanref8_Trim.L20 (M : Mach) (C : Call) (on0i : Nat) (on0o : Nat) (on0n : Nat) (met1i : Nat) (met1o : Nat) (met1n : Nat) (out6i : Nat) (out6o : Nat) (out6n : Nat) (gone7 : Int) (i8 : Int) (G : GH) : Option Res := M.ag C [0, 1, 6, 7, 8] hodmanref8_Trim.c19 (hodmanref8_Trim.e21 M C) (hodmanref8_Trim.k25 M C) [.v (.c (.sl 1 on0i on0o on0n)), .v (.c (.sl 1 met1i met1o met1n)), .und, .und, .und, .und, .v (.c (.sl 1 out6i out6o out6n)), .v (.c (.int .i64 gone7)), .v (.c (.int .i64 i8)), .und, .und, .und, .und, .und, .und, .und, .und, .und, .und, .und, .und, .und, .und, .und, .und, .und, .und, .und, .und, .und, .und, .und, .und, .und, .und, .und, .und, .und, .und, .und, .und, .und, .und, .und, .und, .und, .und, .und, .und, .und, .und, .und] G
def hodmanref8_Trim.k20 (M : Mach) (C : Call) : Kont := fun tm G => M.ag C [0, 1, 6, 7, 8] hodmanref8_Trim.c19 (hodmanref8_Trim.e21 M C) (hodmanref8_Trim.k25 M C) (restr [0, 1, 6, 7, 8] 0 tm) G
def hodmanref8_Trim.k17 (M : Mach) (C : Call) : Kont := execC M.j C (M.ag C) (.cut [0, 1, 6, 7, 8] hodmanref8_Trim.c17) (hodmanref8_Trim.e21 M C) (hodmanref8_Trim.k20 M C)
def hodmanref8_Trim.e16 (M : Mach) (C : Call) : Env := { exits := (1, (hodmanref8_Trim.k17 M C)) :: ((hodmanref8_Trim.e21 M C)).exits, ret := ((hodmanref8_Trim.e21 M C)).ret }
def hodmanref8_Trim.J14 (M : Mach) (C : Call) (on0i : Nat) (on0o : Nat) (on0n : Nat) (met1i : Nat) (met1o : Nat) (met1n : Nat) (out6i : Nat) (out6o : Nat) (out6n : Nat) (gone7 : Int) (i8 : Int) (G : GH) : Option Res := M.j (execC M.j C (M.ag C) hodmanref8_Trim.c14 (hodmanref8_Trim.e16 M C) (hodmanref8_Trim.k17 M C)) [.v (.c (.sl 1 on0i on0o on0n)), .v (.c (.sl 1 met1i met1o met1n)), .und, .und, .und, .und, .v (.c (.sl 1 out6i out6o out6n)), .v (.c (.int .i64 gone7)), .v (.c (.int .i64 i8)), .und, .und, .und, .und, .und, .und, .und, .und, .und, .und, .und, .und, .und, .und, .und, .und, .und, .und, .und, .und, .und, .und, .und, .und, .und, .und, .und, .und, .und, .und, .und, .und, .und, .und, .und, .und, .und, .und, .und, .und, .und, .und, .und] G
def hodmanref8_Trim.J13 (M : Mach) (C : Call) (on0i : Nat) (on0o : Nat) (on0n : Nat) (met1i : Nat) (met1o : Nat) (met1n : Nat) (out6i : Nat) (out6o : Nat) (out6n : Nat) (gone7 : Int) (i8 : Int) (t47 : Bool) (G : GH) : Option Res := M.j (execC M.j C (M.ag C) hodmanref8_Trim.c13 (hodmanref8_Trim.e16 M C) (hodmanref8_Trim.k17 M C)) [.v (.c (.sl 1 on0i on0o on0n)), .v (.c (.sl 1 met1i met1o met1n)), .und, .und, .und, .und, .v (.c (.sl 1 out6i out6o out6n)), .v (.c (.int .i64 gone7)), .v (.c (.int .i64 i8)), .und, .und, .und, .und, .und, .und, .und, .und, .und, .und, .und, .und, .und, .und, .und, .und, .und, .und, .und, .und, .und, .und, .und, .und, .und, .und, .und, .und, .und, .und, .und, .und, .und, .und, .und, .und, .und, .und, .v (.c (.bool t47)), .und, .und, .und, .und] G
def hodmanref8_Trim.J17 (M : Mach) (C : Call) (on0i : Nat) (on0o : Nat) (on0n : Nat) (met1i : Nat) (met1o : Nat) (met1n : Nat) (out6i : Nat) (out6o : Nat) (out6n : Nat) (gone7 : Int) (i8 : Int) (G : GH) : Option Res := M.j (execC M.j C (M.ag C) hodmanref8_Trim.c17 (hodmanref8_Trim.e21 M C) (hodmanref8_Trim.k20 M C)) [.v (.c (.sl 1 on0i on0o on0n)), .v (.c (.sl 1 met1i met1o met1n)), .und, .und, .und, .und, .v (.c (.sl 1 out6i out6o out6n)), .v (.c (.int .i64 gone7)), .v (.c (.int .i64 i8)), .und, .und, .und, .und, .und, .und, .und, .und, .und, .und, .und, .und, .und, .und, .und, .und, .und, .und, .und, .und, .und, .und, .und, .und, .und, .und, .und, .und, .und, .und, .und, .und, .und, .und, .und, .und, .und, .und, .und, .und, .und, .und, .und] G
theorem hodmanref8_Trim.L20_eq (M : Mach) (C : Call) (on0i : Nat) (on0o : Nat) (on0n : Nat) (met1i : Nat) (met1o : Nat) (met1n : Nat) (out6i : Nat) (out6o : Nat) (out6n : Nat) (gone7 : Int) (i8 : Int) (G : GH) : hodmanref8_Trim.L20 M C on0i on0o on0n met1i met1o met1n out6i out6o out6n gone7 i8 G = (bif decide (i8 < ((on0n : Nat) : Int)) then guardK (decide (0 ≤ i8 ∧ i8 < ((on0n : Nat) : Int))) (((G.ld on0i (on0o + Int.toNat i8 * 1)).bind Cell.asB).bind fun qb_2 => bif qb_2 then bif decide (i8 < ((met1n : Nat) : Int)) then guardK (decide (0 ≤ i8 ∧ i8 < ((met1n : Nat) : Int))) (((G.ld met1i (met1o + Int.toNat i8 * 1)).bind Cell.asB).bind fun qb_3 => guardK (decide (0 ≤ i8 ∧ i8 < ((out6n : Nat) : Int))) ((G.sts out6i (out6o + Int.toNat i8 * 1) [.bool qb_3]).bind fun qG_4 => hodmanref8_Trim.J14 M C on0i on0o on0n met1i met1o met1n out6i out6o out6n gone7 i8 qG_4)) else guardK (decide (0 ≤ i8 ∧ i8 < ((out6n : Nat) : Int))) ((G.sts out6i (out6o + Int.toNat i8 * 1) [.bool false]).bind fun qG_5 => hodmanref8_Trim.J14 M C on0i on0o on0n met1i met1o met1n out6i out6o out6n gone7 i8 qG_5) else guardK (decide (0 ≤ i8 ∧ i8 < ((out6n : Nat) : Int))) ((G.sts out6i (out6o + Int.toNat i8 * 1) [.bool false]).bind fun qG_6 => hodmanref8_Trim.J14 M C on0i on0o on0n met1i met1o met1n out6i out6o out6n gone7 i8 qG_6)) else some ([.c (.sl 1 out6i out6o out6n), .c (.int .i64 gone7)], G)) := (M.hs _ _ _ _ _ _ _).trans (by kernel_rfl)
theorem hodmanref8_Trim.J14_eq (M : Mach) (C : Call) (on0i : Nat) (on0o : Nat) (on0n : Nat) (met1i : Nat) (met1o : Nat) (met1n : Nat) (out6i : Nat) (out6o : Nat) (out6n : Nat) (gone7 : Int) (i8 : Int) (G : GH) : hodmanref8_Trim.J14 M C on0i on0o on0n met1i met1o met1n out6i out6o out6n gone7 i8 G = (guardK (decide (0 ≤ i8 ∧ i8 < ((on0n : Nat) : Int))) (((G.ld on0i (on0o + Int.toNat i8 * 1)).bind Cell.asB).bind fun qb_7 => bif qb_7 then guardK (decide (0 ≤ i8 ∧ i8 < ((out6n : Nat) : Int))) (((G.ld out6i (out6o + Int.toNat i8 * 1)).bind Cell.asB).bind fun qb_8 => hodmanref8_Trim.J13 M C on0i on0o on0n met1i met1o met1n out6i out6o out6n gone7 i8 (!qb_8) G) else hodmanref8_Trim.J13 M C on0i on0o on0n met1i met1o met1n out6i out6o out6n gone7 i8 false G)) := (M.hj _ _ _).trans (by kernel_rfl)
theorem hodmanref8_Trim.J13_eq (M : Mach) (C : Call) (on0i : Nat) (on0o : Nat) (on0n : Nat) (met1i : Nat) (met1o : Nat) (met1n : Nat) (out6i : Nat) (out6o : Nat) (out6n : Nat) (gone7 : Int) (i8 : Int) (t47 : Bool) (G : GH) : hodmanref8_Trim.J13 M C on0i on0o on0n met1i met1o met1n out6i out6o out6n gone7 i8 t47 G = (bif t47 then hodmanref8_Trim.J17 M C on0i on0o on0n met1i met1o met1n out6i out6o out6n (IntKind.i64.wrap (gone7 + 1)) i8 G else hodmanref8_Trim.J17 M C on0i on0o on0n met1i met1o met1n out6i out6o out6n gone7 i8 G) := (M.hj _ _ _).trans (by kernel_rfl)
theorem hodmanref8_Trim.J17_eq (M : Mach) (C : Call) (on0i : Nat) (on0o : Nat) (on0n : Nat) (met1i : Nat) (met1o : Nat) (met1n : Nat) (out6i : Nat) (out6o : Nat) (out6n : Nat) (gone7 : Int) (i8 : Int) (G : GH) : hodmanref8_Trim.J17 M C on0i on0o on0n met1i met1o met1n out6i out6o out6n gone7 i8 G = (hodmanref8_Trim.L20 M C on0i on0o on0n met1i met1o met1n out6i out6o out6n gone7 (IntKind.i64.wrap (i8 + 1)) G) := (M.hj _ _ _).trans (by kernel_rfl)
def hodmanref8_Trim.f (M : Mach) (C : Call) (on0i : Nat) (on0o : Nat) (on0n : Nat) (met1i : Nat) (met1o : Nat) (met1n : Nat) (G : GH) : Option Res := guardK (decide (0 ≤ ((on0n : Nat) : Int) ∧ ((on0n : Nat) : Int) ≤ (most : Int))) (let qG_1 := G.alloc (.row (reps (Int.toNat ((on0n : Nat) : Int)) [.bool false]) false); hodmanref8_Trim.L20 M C on0i on0o on0n met1i met1o met1n G.next 0 (Int.toNat ((on0n : Nat) : Int)) 0 0 qG_1)
theorem hodmanref8_Trim.eq (M : Mach) (C : Call) (on0i : Nat) (on0o : Nat) (on0n : Nat) (met1i : Nat) (met1o : Nat) (met1n : Nat) (G : GH) : runF M C hodmanref8_Trim.d [.c (.sl 1 on0i on0o on0n), .c (.sl 1 met1i met1o met1n)] G = hodmanref8_Trim.f M C on0i on0o on0n met1i met1o met1n G := by kernel_rfl

/- 67 hodman/hodmanref17.put -/
def hodmanref17_put.c12 : DCode := (.cond (.t 25) (.region [⟨0, some 26, .move (.t 5), none⟩,
    ⟨1, some 27, .ldL 3 44 (.agg [.int .i64, .int .i64, .int .i64]), none⟩,
    ⟨2, some 28, .bslice 1 3 [.int .i64 0, .int .i64 0, .int .i64 0] [(0, 3, .t 27)], none⟩,
    ⟨3, some 29, .app (.t 26) (.t 28) 3 24, none⟩,
    ⟨4, some 5, .move (.t 29), none⟩,
    ⟨5, some 6, .move (.k (.c (.bool true))), none⟩]) .skip)
def hodmanref17_put.c14 : DCode := (.region [⟨0, some 30, .move (.t 5), none⟩,
    ⟨1, some 31, .move (.t 0), none⟩,
    ⟨2, some 32, .move (.t 7), none⟩,
    ⟨3, some 33, .iaddr (.t 31) (.t 32) 3, none⟩,
    ⟨4, some 34, .ldG 33 (.agg [.int .i64, .int .i64, .int .i64]), none⟩,
    ⟨5, some 35, .bslice 1 3 [.int .i64 0, .int .i64 0, .int .i64 0] [(0, 3, .t 34)], none⟩,
    ⟨6, some 36, .app (.t 30) (.t 35) 3 24, none⟩,
    ⟨7, some 5, .move (.t 36), none⟩])
def hodmanref17_put.c17 : DCode := (.region [⟨0, some 12, .move (.t 7), none⟩,
    ⟨1, some 13, .bin .add .i64 (.t 12) (.k (.c (.int .i64 1))), none⟩,
    ⟨2, some 7, .move (.t 13), none⟩])
def hodmanref17_put.c19 : DCode := (.seq (.seq (.region [⟨0, some 8, .move (.t 7), none⟩,
    ⟨1, some 9, .move (.t 0), none⟩,
    ⟨2, some 10, .len (.t 9), none⟩,
    ⟨3, some 11, .cmp .lss .i64 (.t 8) (.t 10), none⟩]) (.cond (.t 11) .skip (.exit 0))) (.seq (.block 1 (.seq (.seq (.region [⟨0, some 14, .move (.t 6), none⟩,
    ⟨1, some 15, .not (.t 14), none⟩,
    ⟨2, some 16, .move (.t 15), none⟩,
    ⟨3, some 17, .move (.t 0), some (16, true)⟩,
    ⟨4, some 18, .move (.t 7), some (16, true)⟩,
    ⟨5, some 19, .iaddr (.t 17) (.t 18) 3, some (16, true)⟩,
    ⟨6, some 20, .faddr 19 0, some (16, true)⟩,
    ⟨7, some 21, .ldG 20 (.c (.int .i64)), some (16, true)⟩,
    ⟨8, some 22, .faddr 3 0, some (16, true)⟩,
    ⟨9, some 23, .ldL 22 44 (.c (.int .i64)), some (16, true)⟩,
    ⟨10, some 24, .cmp .gtr .i64 (.t 21) (.t 23), some (16, true)⟩,
    ⟨11, some 25, .pick (.t 16) (.t 24) (.k (.c (.bool false))), none⟩]) (.cut [0, 3, 5, 6, 7, 25, 44] hodmanref17_put.c12)) (.cut [0, 3, 5, 6, 7, 44] hodmanref17_put.c14))) hodmanref17_put.c17))
def hodmanref17_put.c20 : DCode := (.loop [0, 3, 5, 6, 7, 44] hodmanref17_put.c19)
def hodmanref17_put.c30 : DCode := (.seq (.region [⟨0, some 43, .move (.t 5), none⟩,
    ⟨1, some 4, .move (.t 43), none⟩]) .ret)
def hodmanref17_put.c31 : DCode := (.seq (.seq (.region [⟨0, some 37, .move (.t 6), none⟩,
    ⟨1, some 38, .not (.t 37), none⟩]) (.cond (.t 38) (.region [⟨0, some 39, .move (.t 5), none⟩,
    ⟨1, some 40, .ldL 3 44 (.agg [.int .i64, .int .i64, .int .i64]), none⟩,
    ⟨2, some 41, .bslice 1 3 [.int .i64 0, .int .i64 0, .int .i64 0] [(0, 3, .t 40)], none⟩,
    ⟨3, some 42, .app (.t 39) (.t 41) 3 24, none⟩,
    ⟨4, some 5, .move (.t 42), none⟩]) .skip)) (.cut [5] hodmanref17_put.c30))
def hodmanref17_put.d : DFn := { ntmps := 45, res := [.t 4], body := (.seq (.region [⟨0, some 3, .boxv 44 [22] (.t 1) 3, none⟩,
    ⟨1, some 4, .move (.k (.c (.sl 3 0 0 0))), none⟩]) (.seq (.region [⟨0, some 5, .move (.k (.c (.sl 3 0 0 0))), none⟩]) (.seq (.region [⟨0, some 6, .move (.k (.c (.bool false))), none⟩]) (.seq (.seq (.region [⟨0, some 7, .move (.k (.c (.int .i64 0))), none⟩]) (.block 0 hodmanref17_put.c20)) hodmanref17_put.c31)))) }
def hodmanref17_put.k31 (M : Mach) (C : Call) : Kont := execC M.j C (M.ag C) hodmanref17_put.c31 ({ exits := [], ret := retK hodmanref17_put.d } : Env) (retK hodmanref17_put.d)
def hodmanref17_put.e21 (M : Mach) (C : Call) : Env := { exits := (0, (hodmanref17_put.k31 M C)) :: (({ exits := [], ret := retK hodmanref17_put.d } : Env)).exits, ret := (({ exits := [], ret := retK hodmanref17_put.d } : Env)).ret }
def hodmanref17_put.L20 (M : Mach) (C : Call) (l0i : Nat) (l0o : Nat) (l0n : Nat) (out5i : Nat) (out5o : Nat) (out5n : Nat) (done6 : Bool) (i7 : Int) (b44_0 : Int) (b44_1 : Int) (b44_2 : Int) (G : GH) : Option Res := M.ag C [0, 3, 5, 6, 7, 44] hodmanref17_put.c19 (hodmanref17_put.e21 M C) (hodmanref17_put.k31 M C) [.v (.c (.sl 3 l0i l0o l0n)), .und, .und, .ref 44 0, .und, .v (.c (.sl 3 out5i out5o out5n)), .v (.c (.bool done6)), .v (.c (.int .i64 i7)), .und, .und, .und, .und, .und, .und, .und, .und, .und, .und, .und, .und, .und, .und, .und, .und, .und, .und, .und, .und, .und, .und, .und, .und, .und, .und, .und, .und, .und, .und, .und, .und, .und, .und, .und, .und, .box [.int .i64 b44_0, .int .i64 b44_1, .int .i64 b44_2]] G
def hodmanref17_put.k20 (M : Mach) (C : Call) : Kont := fun tm G => M.ag C [0, 3, 5, 6, 7, 44] hodmanref17_put.c19 (hodmanref17_put.e21 M C) (hodmanref17_put.k31 M C) (restr [0, 3, 5, 6, 7, 44] 0 tm) G
def hodmanref17_put.k17 (M : Mach) (C : Call) : Kont := execC M.j C (M.ag C) hodmanref17_put.c17 (hodmanref17_put.e21 M C) (hodmanref17_put.k20 M C)
def hodmanref17_put.e16 (M : Mach) (C : Call) : Env := { exits := (1, (hodmanref17_put.k17 M C)) :: ((hodmanref17_put.e21 M C)).exits, ret := ((hodmanref17_put.e21 M C)).ret }
def hodmanref17_put.k14 (M : Mach) (C : Call) : Kont := execC M.j C (M.ag C) (.cut [0, 3, 5, 6, 7, 44] hodmanref17_put.c14) (hodmanref17_put.e16 M C) (hodmanref17_put.k17 M C)
def hodmanref17_put.J12 (M : Mach) (C : Call) (l0i : Nat) (l0o : Nat) (l0n : Nat) (out5i : Nat) (out5o : Nat) (out5n : Nat) (done6 : Bool) (i7 : Int) (t25 : Bool) (b44_0 : Int) (b44_1 : Int) (b44_2 : Int) (G : GH) : Option Res := M.j (execC M.j C (M.ag C) hodmanref17_put.c12 (hodmanref17_put.e16 M C) (hodmanref17_put.k14 M C)) [.v (.c (.sl 3 l0i l0o l0n)), .und, .und, .ref 44 0, .und, .v (.c (.sl 3 out5i out5o out5n)), .v (.c (.bool done6)), .v (.c (.int .i64 i7)), .und, .und, .und, .und, .und, .und, .und, .und, .und, .und, .und, .und, .und, .und, .und, .und, .und, .v (.c (.bool t25)), .und, .und, .und, .und, .und, .und, .und, .und, .und, .und, .und, .und, .und, .und, .und, .und, .und, .und, .box [.int .i64 b44_0, .int .i64 b44_1, .int .i64 b44_2]] G
def hodmanref17_put.J30 (M : Mach) (C : Call) (out5i : Nat) (out5o : Nat) (out5n : Nat) (G : GH) : Option Res := M.j (execC M.j C (M.ag C) hodmanref17_put.c30 ({ exits := [], ret := retK hodmanref17_put.d } : Env) (retK hodmanref17_put.d)) [.und, .und, .und, .und, .und, .v (.c (.sl 3 out5i out5o out5n)), .und, .und, .und, .und, .und, .und, .und, .und, .und, .und, .und, .und, .und, .und, .und, .und, .und, .und, .und, .und, .und, .und, .und, .und, .und, .und, .und, .und, .und, .und, .und, .und, .und, .und, .und, .und, .und, .und, .und] G
def hodmanref17_put.J14 (M : Mach) (C : Call) (l0i : Nat) (l0o : Nat) (l0n : Nat) (out5i : Nat) (out5o : Nat) (out5n : Nat) (done6 : Bool) (i7 : Int) (b44_0 : Int) (b44_1 : Int) (b44_2 : Int) (G : GH) : Option Res := M.j (execC M.j C (M.ag C) hodmanref17_put.c14 (hodmanref17_put.e16 M C) (hodmanref17_put.k17 M C)) [.v (.c (.sl 3 l0i l0o l0n)), .und, .und, .ref 44 0, .und, .v (.c (.sl 3 out5i out5o out5n)), .v (.c (.bool done6)), .v (.c (.int .i64 i7)), .und, .und, .und, .und, .und, .und, .und, .und, .und, .und, .und, .und, .und, .und, .und, .und, .und, .und, .und, .und, .und, .und, .und, .und, .und, .und, .und, .und, .und, .und, .und, .und, .und, .und, .und, .und, .box [.int .i64 b44_0, .int .i64 b44_1, .int .i64 b44_2]] G
theorem hodmanref17_put.L20_eq (M : Mach) (C : Call) (l0i : Nat) (l0o : Nat) (l0n : Nat) (out5i : Nat) (out5o : Nat) (out5n : Nat) (done6 : Bool) (i7 : Int) (b44_0 : Int) (b44_1 : Int) (b44_2 : Int) (G : GH) : hodmanref17_put.L20 M C l0i l0o l0n out5i out5o out5n done6 i7 b44_0 b44_1 b44_2 G = (bif decide (i7 < ((l0n : Nat) : Int)) then bif (!done6) then guardK (decide (0 ≤ i7 ∧ i7 < ((l0n : Nat) : Int))) (((G.ld l0i ((l0o + Int.toNat i7 * 3) + 0)).bind (Cell.asI .i64)).bind fun qx_1 => hodmanref17_put.J12 M C l0i l0o l0n out5i out5o out5n done6 i7 (decide (qx_1 > b44_0)) b44_0 b44_1 b44_2 G) else hodmanref17_put.J12 M C l0i l0o l0n out5i out5o out5n done6 i7 false b44_0 b44_1 b44_2 G else bif (!done6) then let qG_2 := G.alloc (.row [.int .i64 b44_0, .int .i64 b44_1, .int .i64 b44_2] false); (if 1 = 0 then some [] else qG_2.lds G.next 0 (1 * 3)).bind fun qnew_3 => guardK (decide (out5n + 1 ≤ most)) ((qG_2.app out5i out5o out5n 3 1 qnew_3).bind fun qp_4 => hodmanref17_put.J30 M C qp_4.1 qp_4.2.1 (out5n + 1) qp_4.2.2) else hodmanref17_put.J30 M C out5i out5o out5n G) := (M.hs _ _ _ _ _ _ _).trans (by kernel_rfl)
theorem hodmanref17_put.J12_eq (M : Mach) (C : Call) (l0i : Nat) (l0o : Nat) (l0n : Nat) (out5i : Nat) (out5o : Nat) (out5n : Nat) (done6 : Bool) (i7 : Int) (t25 : Bool) (b44_0 : Int) (b44_1 : Int) (b44_2 : Int) (G : GH) : hodmanref17_put.J12 M C l0i l0o l0n out5i out5o out5n done6 i7 t25 b44_0 b44_1 b44_2 G = (bif t25 then let qG_5 := G.alloc (.row [.int .i64 b44_0, .int .i64 b44_1, .int .i64 b44_2] false); (if 1 = 0 then some [] else qG_5.lds G.next 0 (1 * 3)).bind fun qnew_6 => guardK (decide (out5n + 1 ≤ most)) ((qG_5.app out5i out5o out5n 3 1 qnew_6).bind fun qp_7 => hodmanref17_put.J14 M C l0i l0o l0n qp_7.1 qp_7.2.1 (out5n + 1) true i7 b44_0 b44_1 b44_2 qp_7.2.2) else hodmanref17_put.J14 M C l0i l0o l0n out5i out5o out5n done6 i7 b44_0 b44_1 b44_2 G) := (M.hj _ _ _).trans (by kernel_rfl)
theorem hodmanref17_put.J30_eq (M : Mach) (C : Call) (out5i : Nat) (out5o : Nat) (out5n : Nat) (G : GH) : hodmanref17_put.J30 M C out5i out5o out5n G = (some ([.c (.sl 3 out5i out5o out5n)], G)) := (M.hj _ _ _).trans (by kernel_rfl)
theorem hodmanref17_put.J14_eq (M : Mach) (C : Call) (l0i : Nat) (l0o : Nat) (l0n : Nat) (out5i : Nat) (out5o : Nat) (out5n : Nat) (done6 : Bool) (i7 : Int) (b44_0 : Int) (b44_1 : Int) (b44_2 : Int) (G : GH) : hodmanref17_put.J14 M C l0i l0o l0n out5i out5o out5n done6 i7 b44_0 b44_1 b44_2 G = (guardK (decide (0 ≤ i7 ∧ i7 < ((l0n : Nat) : Int))) (((G.ld l0i ((l0o + Int.toNat i7 * 3) + 0)).bind (Cell.asI .i64)).bind fun qx_8 => ((G.ld l0i ((l0o + Int.toNat i7 * 3) + 1)).bind (Cell.asI .i64)).bind fun qx_9 => ((G.ld l0i ((l0o + Int.toNat i7 * 3) + 2)).bind (Cell.asI .i64)).bind fun qx_10 => let qG_11 := G.alloc (.row [.int .i64 qx_8, .int .i64 qx_9, .int .i64 qx_10] false); (if 1 = 0 then some [] else qG_11.lds G.next 0 (1 * 3)).bind fun qnew_12 => guardK (decide (out5n + 1 ≤ most)) ((qG_11.app out5i out5o out5n 3 1 qnew_12).bind fun qp_13 => hodmanref17_put.L20 M C l0i l0o l0n qp_13.1 qp_13.2.1 (out5n + 1) done6 (IntKind.i64.wrap (i7 + 1)) b44_0 b44_1 b44_2 qp_13.2.2))) := (M.hj _ _ _).trans (by kernel_rfl)
def hodmanref17_put.f (M : Mach) (C : Call) (l0i : Nat) (l0o : Nat) (l0n : Nat) (b1_0 : Int) (b1_1 : Int) (b1_2 : Int) (G : GH) : Option Res := hodmanref17_put.L20 M C l0i l0o l0n 0 0 0 false 0 b1_0 b1_1 b1_2 G
theorem hodmanref17_put.eq (M : Mach) (C : Call) (l0i : Nat) (l0o : Nat) (l0n : Nat) (b1_0 : Int) (b1_1 : Int) (b1_2 : Int) (G : GH) : runF M C hodmanref17_put.d [.c (.sl 3 l0i l0o l0n), .agg [.int .i64 b1_0, .int .i64 b1_1, .int .i64 b1_2]] G = hodmanref17_put.f M C l0i l0o l0n b1_0 b1_1 b1_2 G := by kernel_rfl

/- 66 hodman/hodmanref8.Fill -/
def hodmanref8_Fill.c7 : DCode := (.cond (.t 19) (.seq (.region [⟨0, some 20, .move (.t 9), none⟩,
    ⟨1, some 8, .move (.t 20), none⟩]) .ret) .skip)
def hodmanref8_Fill.c18 : DCode := (.cond (.t 35) (.region [⟨0, some 36, .move (.t 9), none⟩,
    ⟨1, some 37, .move (.t 10), none⟩,
    ⟨2, some 38, .move (.t 1), none⟩,
    ⟨3, some 39, .move (.t 2), none⟩,
    ⟨4, some 40, .move (.t 10), none⟩,
    ⟨5, some 41, .move (.t 3), none⟩,
    ⟨6, some 42, .bin .rem .i64 (.t 40) (.t 41), none⟩,
    ⟨7, some 43, .call 73 [.t 38, .t 39, .t 42] [.c (.int .u8)], none⟩,
    ⟨8, some 44, .iaddr (.t 36) (.t 37) 1, none⟩,
    ⟨9, none, .stG 44 (.t 43) 1, none⟩]) .skip)
def hodmanref8_Fill.c21 : DCode := (.region [⟨0, some 25, .move (.t 10), none⟩,
    ⟨1, some 26, .bin .add .i64 (.t 25) (.k (.c (.int .i64 1))), none⟩,
    ⟨2, some 10, .move (.t 26), none⟩])
def hodmanref8_Fill.c23 : DCode := (.seq (.seq (.region [⟨0, some 21, .move (.t 10), none⟩,
    ⟨1, some 22, .move (.t 9), none⟩,
    ⟨2, some 23, .len (.t 22), none⟩,
    ⟨3, some 24, .cmp .lss .i64 (.t 21) (.t 23), none⟩]) (.cond (.t 24) .skip (.exit 0))) (.seq (.block 1 (.seq (.region [⟨0, some 27, .move (.t 3), none⟩,
    ⟨1, some 28, .cmp .gtr .i64 (.t 27) (.k (.c (.int .i64 0))), none⟩,
    ⟨2, some 29, .move (.t 28), none⟩,
    ⟨3, some 30, .move (.t 10), some (29, true)⟩,
    ⟨4, some 31, .move (.t 3), some (29, true)⟩,
    ⟨5, some 32, .bin .quo .i64 (.t 30) (.t 31), some (29, true)⟩,
    ⟨6, some 33, .move (.t 2), some (29, true)⟩,
    ⟨7, some 34, .cmp .eql .i64 (.t 32) (.t 33), some (29, true)⟩,
    ⟨8, some 35, .pick (.t 29) (.t 34) (.k (.c (.bool false))), none⟩]) (.cut [1, 2, 3, 9, 10, 35] hodmanref8_Fill.c18))) (.cut [1, 2, 3, 9, 10] hodmanref8_Fill.c21)))
def hodmanref8_Fill.c24 : DCode := (.loop [1, 2, 3, 9, 10] hodmanref8_Fill.c23)
def hodmanref8_Fill.c29 : DCode := (.seq (.region [⟨0, some 45, .move (.t 9), none⟩,
    ⟨1, some 8, .move (.t 45), none⟩]) .ret)
def hodmanref8_Fill.c30 : DCode := (.seq (.seq (.region [⟨0, some 10, .move (.k (.c (.int .i64 0))), none⟩]) (.block 0 hodmanref8_Fill.c24)) hodmanref8_Fill.c29)
def hodmanref8_Fill.d : DFn := { ntmps := 46, res := [.t 8], body := (.seq (.region [⟨0, some 8, .move (.k (.c (.sl 1 0 0 0))), none⟩]) (.seq (.region [⟨0, some 11, .bslice 0 1 [] [], none⟩,
    ⟨1, some 12, .move (.t 0), none⟩,
    ⟨2, some 13, .app (.t 11) (.t 12) 1 1, none⟩,
    ⟨3, some 9, .move (.t 13), none⟩]) (.seq (.seq (.region [⟨0, some 14, .move (.t 2), none⟩,
    ⟨1, some 15, .cmp .lss .i64 (.t 14) (.k (.c (.int .i64 0))), none⟩,
    ⟨2, some 16, .move (.t 15), none⟩,
    ⟨3, some 17, .move (.t 3), some (16, false)⟩,
    ⟨4, some 18, .cmp .lss .i64 (.t 17) (.k (.c (.int .i64 0))), some (16, false)⟩,
    ⟨5, some 19, .pick (.t 16) (.k (.c (.bool true))) (.t 18), none⟩]) (.cut [1, 2, 3, 9, 19] hodmanref8_Fill.c7)) hodmanref8_Fill.c30))) }
def hodmanref8_Fill.k30 (M : Mach) (C : Call) : Kont := execC M.j C (M.ag C) hodmanref8_Fill.c30 ({ exits := [], ret := retK hodmanref8_Fill.d } : Env) (retK hodmanref8_Fill.d)
def hodmanref8_Fill.J7 (M : Mach) (C : Call) (seed1 : Int) (page2 : Int) (size3 : Int) (out9i : Nat) (out9o : Nat) (out9n : Nat) (t19 : Bool) (G : GH) : Option Res := M.j (execC M.j C (M.ag C) hodmanref8_Fill.c7 ({ exits := [], ret := retK hodmanref8_Fill.d } : Env) (hodmanref8_Fill.k30 M C)) [.und, .v (.c (.int .i64 seed1)), .v (.c (.int .i64 page2)), .v (.c (.int .i64 size3)), .und, .und, .und, .und, .und, .v (.c (.sl 1 out9i out9o out9n)), .und, .und, .und, .und, .und, .und, .und, .und, .und, .v (.c (.bool t19)), .und, .und, .und, .und, .und, .und, .und, .und, .und, .und, .und, .und, .und, .und, .und, .und, .und, .und, .und, .und, .und, .und, .und, .und, .und, .und] G
def hodmanref8_Fill.k29 (M : Mach) (C : Call) : Kont := execC M.j C (M.ag C) hodmanref8_Fill.c29 ({ exits := [], ret := retK hodmanref8_Fill.d } : Env) (retK hodmanref8_Fill.d)
def hodmanref8_Fill.e25 (M : Mach) (C : Call) : Env := { exits := (0, (hodmanref8_Fill.k29 M C)) :: (({ exits := [], ret := retK hodmanref8_Fill.d } : Env)).exits, ret := (({ exits := [], ret := retK hodmanref8_Fill.d } : Env)).ret }
def hodmanref8_Fill.L24 (M : Mach) (C : Call) (seed1 : Int) (page2 : Int) (size3 : Int) (out9i : Nat) (out9o : Nat) (out9n : Nat) (i10 : Int) (G : GH) : Option Res := M.ag C [1, 2, 3, 9, 10] hodmanref8_Fill.c23 (hodmanref8_Fill.e25 M C) (hodmanref8_Fill.k29 M C) [.und, .v (.c (.int .i64 seed1)), .v (.c (.int .i64 page2)), .v (.c (.int .i64 size3)), .und, .und, .und, .und, .und, .v (.c (.sl 1 out9i out9o out9n)), .v (.c (.int .i64 i10)), .und, .und, .und, .und, .und, .und, .und, .und, .und, .und, .und, .und, .und, .und, .und, .und, .und, .und, .und, .und, .und, .und, .und, .und, .und, .und, .und, .und, .und, .und, .und, .und, .und, .und, .und] G
def hodmanref8_Fill.k24 (M : Mach) (C : Call) : Kont := fun tm G => M.ag C [1, 2, 3, 9, 10] hodmanref8_Fill.c23 (hodmanref8_Fill.e25 M C) (hodmanref8_Fill.k29 M C) (restr [1, 2, 3, 9, 10] 0 tm) G
def hodmanref8_Fill.k21 (M : Mach) (C : Call) : Kont := execC M.j C (M.ag C) (.cut [1, 2, 3, 9, 10] hodmanref8_Fill.c21) (hodmanref8_Fill.e25 M C) (hodmanref8_Fill.k24 M C)
def hodmanref8_Fill.e20 (M : Mach) (C : Call) : Env := { exits := (1, (hodmanref8_Fill.k21 M C)) :: ((hodmanref8_Fill.e25 M C)).exits, ret := ((hodmanref8_Fill.e25 M C)).ret }
def hodmanref8_Fill.J18 (M : Mach) (C : Call) (seed1 : Int) (page2 : Int) (size3 : Int) (out9i : Nat) (out9o : Nat) (out9n : Nat) (i10 : Int) (t35 : Bool) (G : GH) : Option Res := M.j (execC M.j C (M.ag C) hodmanref8_Fill.c18 (hodmanref8_Fill.e20 M C) (hodmanref8_Fill.k21 M C)) [.und, .v (.c (.int .i64 seed1)), .v (.c (.int .i64 page2)), .v (.c (.int .i64 size3)), .und, .und, .und, .und, .und, .v (.c (.sl 1 out9i out9o out9n)), .v (.c (.int .i64 i10)), .und, .und, .und, .und, .und, .und, .und, .und, .und, .und, .und, .und, .und, .und, .und, .und, .und, .und, .und, .und, .und, .und, .und, .und, .v (.c (.bool t35)), .und, .und, .und, .und, .und, .und, .und, .und, .und, .und] G
def hodmanref8_Fill.J21 (M : Mach) (C : Call) (seed1 : Int) (page2 : Int) (size3 : Int) (out9i : Nat) (out9o : Nat) (out9n : Nat) (i10 : Int) (G : GH) : Option Res := M.j (execC M.j C (M.ag C) hodmanref8_Fill.c21 (hodmanref8_Fill.e25 M C) (hodmanref8_Fill.k24 M C)) [.und, .v (.c (.int .i64 seed1)), .v (.c (.int .i64 page2)), .v (.c (.int .i64 size3)), .und, .und, .und, .und, .und, .v (.c (.sl 1 out9i out9o out9n)), .v (.c (.int .i64 i10)), .und, .und, .und, .und, .und, .und, .und, .und, .und, .und, .und, .und, .und, .und, .und, .und, .und, .und, .und, .und, .und, .und, .und, .und, .und, .und, .und, .und, .und, .und, .und, .und, .und, .und, .und] G
theorem hodmanref8_Fill.J7_eq (M : Mach) (C : Call) (seed1 : Int) (page2 : Int) (size3 : Int) (out9i : Nat) (out9o : Nat) (out9n : Nat) (t19 : Bool) (G : GH) : hodmanref8_Fill.J7 M C seed1 page2 size3 out9i out9o out9n t19 G = (bif t19 then some ([.c (.sl 1 out9i out9o out9n)], G) else hodmanref8_Fill.L24 M C seed1 page2 size3 out9i out9o out9n 0 G) := (M.hj _ _ _).trans (by kernel_rfl)
theorem hodmanref8_Fill.L24_eq (M : Mach) (C : Call) (seed1 : Int) (page2 : Int) (size3 : Int) (out9i : Nat) (out9o : Nat) (out9n : Nat) (i10 : Int) (G : GH) : hodmanref8_Fill.L24 M C seed1 page2 size3 out9i out9o out9n i10 G = (bif decide (i10 < ((out9n : Nat) : Int)) then bif decide (size3 > 0) then (binD .quo .i64 i10 size3).bind fun qx_4 => hodmanref8_Fill.J18 M C seed1 page2 size3 out9i out9o out9n i10 (decide (qx_4 = page2)) G else hodmanref8_Fill.J18 M C seed1 page2 size3 out9i out9o out9n i10 false G else some ([.c (.sl 1 out9i out9o out9n)], G)) := (M.hs _ _ _ _ _ _ _).trans (by kernel_rfl)
theorem hodmanref8_Fill.J18_eq (M : Mach) (C : Call) (seed1 : Int) (page2 : Int) (size3 : Int) (out9i : Nat) (out9o : Nat) (out9n : Nat) (i10 : Int) (t35 : Bool) (G : GH) : hodmanref8_Fill.J18 M C seed1 page2 size3 out9i out9o out9n i10 t35 G = (bif t35 then (binD .rem .i64 i10 size3).bind fun qx_5 => (C hodmanref8_Byte.id [.c (.int .i64 seed1), .c (.int .i64 page2), .c (.int .i64 qx_5)] G).bind fun qr_6 => (((qr_6.1[0]?).bind V1.c?).bind (Cell.asI .u8)).bind fun qx_7 => guardK (decide (0 ≤ i10 ∧ i10 < ((out9n : Nat) : Int))) ((qr_6.2.sts out9i (out9o + Int.toNat i10 * 1) [.int .u8 qx_7]).bind fun qG_8 => hodmanref8_Fill.J21 M C seed1 page2 size3 out9i out9o out9n i10 qG_8) else hodmanref8_Fill.J21 M C seed1 page2 size3 out9i out9o out9n i10 G) := (M.hj _ _ _).trans (by kernel_rfl)
theorem hodmanref8_Fill.J21_eq (M : Mach) (C : Call) (seed1 : Int) (page2 : Int) (size3 : Int) (out9i : Nat) (out9o : Nat) (out9n : Nat) (i10 : Int) (G : GH) : hodmanref8_Fill.J21 M C seed1 page2 size3 out9i out9o out9n i10 G = (hodmanref8_Fill.L24 M C seed1 page2 size3 out9i out9o out9n (IntKind.i64.wrap (i10 + 1)) G) := (M.hj _ _ _).trans (by kernel_rfl)
def hodmanref8_Fill.f (M : Mach) (C : Call) (mem0i : Nat) (mem0o : Nat) (mem0n : Nat) (seed1 : Int) (page2 : Int) (size3 : Int) (G : GH) : Option Res := let qG_1 := G.alloc (.row [] false); (if mem0n = 0 then some [] else qG_1.lds mem0i mem0o (mem0n * 1)).bind fun qnew_2 => guardK (decide (0 + mem0n ≤ most)) ((qG_1.app G.next 0 0 1 mem0n qnew_2).bind fun qp_3 => bif decide (page2 < 0) then hodmanref8_Fill.J7 M C seed1 page2 size3 qp_3.1 qp_3.2.1 (0 + mem0n) true qp_3.2.2 else hodmanref8_Fill.J7 M C seed1 page2 size3 qp_3.1 qp_3.2.1 (0 + mem0n) (decide (size3 < 0)) qp_3.2.2)
theorem hodmanref8_Fill.eq (M : Mach) (C : Call) (mem0i : Nat) (mem0o : Nat) (mem0n : Nat) (seed1 : Int) (page2 : Int) (size3 : Int) (G : GH) : runF M C hodmanref8_Fill.d [.c (.sl 1 mem0i mem0o mem0n), .c (.int .i64 seed1), .c (.int .i64 page2), .c (.int .i64 size3)] G = hodmanref8_Fill.f M C mem0i mem0o mem0n seed1 page2 size3 G := by kernel_rfl

/- 70 hodman/class.Charge -/
def class_Charge.c7 : DCode := (.cond (.t 24) (.seq (.region [⟨0, some 6, .move (.k (.c (.int .i64 0))), none⟩,
    ⟨1, some 7, .move (.k (.c (.int .i64 3))), none⟩]) .ret) .skip)
def class_Charge.c15 : DCode := (.cond (.t 32) (.seq (.region [⟨0, some 6, .move (.k (.c (.int .i64 0))), none⟩,
    ⟨1, some 7, .move (.k (.c (.int .i64 4))), none⟩]) .ret) .skip)
def class_Charge.c21 : DCode := (.seq (.region [⟨0, some 34, .move (.t 1), none⟩,
    ⟨1, some 35, .move (.t 2), none⟩,
    ⟨2, some 36, .faddr 3 0, none⟩,
    ⟨3, some 37, .ldL 36 43 (.c (.int .i64)), none⟩,
    ⟨4, some 38, .mx (.t 34) [.t 35, .t 37], none⟩,
    ⟨5, some 39, .call 75 [.t 38] [.c (.int .i64), .c (.bool)], none⟩,
    ⟨6, some 33, .move (.t 39), none⟩,
    ⟨7, some 40, .ext 33 0, none⟩,
    ⟨8, some 41, .ext 33 1, none⟩,
    ⟨9, some 10, .move (.t 40), none⟩,
    ⟨10, some 11, .move (.t 41), none⟩]) (.seq (.region [⟨0, some 42, .move (.t 10), none⟩,
    ⟨1, some 6, .move (.t 42), none⟩,
    ⟨2, some 7, .move (.k (.c (.int .i64 0))), none⟩]) .ret))
def class_Charge.c22 : DCode := (.seq (.seq (.region [⟨0, some 25, .move (.t 1), none⟩,
    ⟨1, some 26, .cmp .lss .i64 (.t 25) (.k (.c (.int .i64 0))), none⟩,
    ⟨2, some 27, .move (.t 26), none⟩,
    ⟨3, some 28, .move (.t 1), some (27, false)⟩,
    ⟨4, some 29, .faddr 3 1, some (27, false)⟩,
    ⟨5, some 30, .ldL 29 43 (.c (.int .i64)), some (27, false)⟩,
    ⟨6, some 31, .cmp .gtr .i64 (.t 28) (.t 30), some (27, false)⟩,
    ⟨7, some 32, .pick (.t 27) (.k (.c (.bool true))) (.t 31), none⟩]) (.cut [1, 2, 3, 32, 43] class_Charge.c15)) class_Charge.c21)
def class_Charge.d : DFn := { ntmps := 44, res := [.t 6, .t 7], body := (.seq (.region [⟨0, some 3, .boxv 43 [21, 29, 36] (.t 0) 8, none⟩,
    ⟨1, some 6, .move (.k (.c (.int .i64 0))), none⟩,
    ⟨2, some 7, .move (.k (.c (.int .i64 0))), none⟩]) (.seq (.seq (.region [⟨0, some 13, .move (.t 2), none⟩,
    ⟨1, some 14, .call 74 [.t 13] [.c (.int .i64), .c (.bool)], none⟩,
    ⟨2, some 12, .move (.t 14), none⟩,
    ⟨3, some 15, .ext 12 0, none⟩,
    ⟨4, some 16, .ext 12 1, none⟩,
    ⟨5, some 8, .move (.t 15), none⟩,
    ⟨6, some 9, .move (.t 16), none⟩]) (.seq (.region [⟨0, some 17, .move (.t 9), none⟩,
    ⟨1, some 18, .not (.t 17), none⟩,
    ⟨2, some 19, .move (.t 18), none⟩,
    ⟨3, some 20, .move (.t 2), some (19, false)⟩,
    ⟨4, some 21, .faddr 3 1, some (19, false)⟩,
    ⟨5, some 22, .ldL 21 43 (.c (.int .i64)), some (19, false)⟩,
    ⟨6, some 23, .cmp .gtr .i64 (.t 20) (.t 22), some (19, false)⟩,
    ⟨7, some 24, .pick (.t 19) (.k (.c (.bool true))) (.t 23), none⟩]) (.cut [1, 2, 3, 24, 43] class_Charge.c7))) class_Charge.c22)) }
def class_Charge.k22 (M : Mach) (C : Call) : Kont := execC M.j C (M.ag C) class_Charge.c22 ({ exits := [], ret := retK class_Charge.d } : Env) (retK class_Charge.d)
def class_Charge.J7 (M : Mach) (C : Call) (s1 : Int) (a2 : Int) (t24 : Bool) (c43_0 : Int) (c43_1 : Int) (c43_2 : Int) (c43_3 : Int) (c43_4 : Int) (c43_5 : Int) (c43_6 : Int) (c43_7 : Int) (G : GH) : Option Res := M.j (execC M.j C (M.ag C) class_Charge.c7 ({ exits := [], ret := retK class_Charge.d } : Env) (class_Charge.k22 M C)) [.und, .v (.c (.int .i64 s1)), .v (.c (.int .i64 a2)), .ref 43 0, .und, .und, .und, .und, .und, .und, .und, .und, .und, .und, .und, .und, .und, .und, .und, .und, .und, .und, .und, .und, .v (.c (.bool t24)), .und, .und, .und, .und, .und, .und, .und, .und, .und, .und, .und, .und, .und, .und, .und, .und, .und, .und, .box [.int .i64 c43_0, .int .i64 c43_1, .int .i64 c43_2, .int .i64 c43_3, .int .i64 c43_4, .int .i64 c43_5, .int .i64 c43_6, .int .i64 c43_7]] G
def class_Charge.k21 (M : Mach) (C : Call) : Kont := execC M.j C (M.ag C) class_Charge.c21 ({ exits := [], ret := retK class_Charge.d } : Env) (retK class_Charge.d)
def class_Charge.J15 (M : Mach) (C : Call) (s1 : Int) (a2 : Int) (t32 : Bool) (c43_0 : Int) (c43_1 : Int) (c43_2 : Int) (c43_3 : Int) (c43_4 : Int) (c43_5 : Int) (c43_6 : Int) (c43_7 : Int) (G : GH) : Option Res := M.j (execC M.j C (M.ag C) class_Charge.c15 ({ exits := [], ret := retK class_Charge.d } : Env) (class_Charge.k21 M C)) [.und, .v (.c (.int .i64 s1)), .v (.c (.int .i64 a2)), .ref 43 0, .und, .und, .und, .und, .und, .und, .und, .und, .und, .und, .und, .und, .und, .und, .und, .und, .und, .und, .und, .und, .und, .und, .und, .und, .und, .und, .und, .und, .v (.c (.bool t32)), .und, .und, .und, .und, .und, .und, .und, .und, .und, .und, .box [.int .i64 c43_0, .int .i64 c43_1, .int .i64 c43_2, .int .i64 c43_3, .int .i64 c43_4, .int .i64 c43_5, .int .i64 c43_6, .int .i64 c43_7]] G
theorem class_Charge.J7_eq (M : Mach) (C : Call) (s1 : Int) (a2 : Int) (t24 : Bool) (c43_0 : Int) (c43_1 : Int) (c43_2 : Int) (c43_3 : Int) (c43_4 : Int) (c43_5 : Int) (c43_6 : Int) (c43_7 : Int) (G : GH) : class_Charge.J7 M C s1 a2 t24 c43_0 c43_1 c43_2 c43_3 c43_4 c43_5 c43_6 c43_7 G = (bif t24 then some ([.c (.int .i64 0), .c (.int .i64 3)], G) else bif decide (s1 < 0) then class_Charge.J15 M C s1 a2 true c43_0 c43_1 c43_2 c43_3 c43_4 c43_5 c43_6 c43_7 G else class_Charge.J15 M C s1 a2 (decide (s1 > c43_1)) c43_0 c43_1 c43_2 c43_3 c43_4 c43_5 c43_6 c43_7 G) := (M.hj _ _ _).trans (by kernel_rfl)
theorem class_Charge.J15_eq (M : Mach) (C : Call) (s1 : Int) (a2 : Int) (t32 : Bool) (c43_0 : Int) (c43_1 : Int) (c43_2 : Int) (c43_3 : Int) (c43_4 : Int) (c43_5 : Int) (c43_6 : Int) (c43_7 : Int) (G : GH) : class_Charge.J15 M C s1 a2 t32 c43_0 c43_1 c43_2 c43_3 c43_4 c43_5 c43_6 c43_7 G = (bif t32 then some ([.c (.int .i64 0), .c (.int .i64 4)], G) else (C calc_Up.id [.c (.int .i64 (mx2 (mx2 s1 a2) c43_0))] G).bind fun qr_4 => (((qr_4.1[0]?).bind V1.c?).bind (Cell.asI .i64)).bind fun qx_5 => (((qr_4.1[1]?).bind V1.c?).bind Cell.asB).bind fun qb_6 => some ([.c (.int .i64 qx_5), .c (.int .i64 0)], qr_4.2)) := (M.hj _ _ _).trans (by kernel_rfl)
def class_Charge.f (M : Mach) (C : Call) (c0_0 : Int) (c0_1 : Int) (c0_2 : Int) (c0_3 : Int) (c0_4 : Int) (c0_5 : Int) (c0_6 : Int) (c0_7 : Int) (s1 : Int) (a2 : Int) (G : GH) : Option Res := (C calc_Log.id [.c (.int .i64 a2)] G).bind fun qr_1 => (((qr_1.1[0]?).bind V1.c?).bind (Cell.asI .i64)).bind fun qx_2 => (((qr_1.1[1]?).bind V1.c?).bind Cell.asB).bind fun qb_3 => bif (!qb_3) then class_Charge.J7 M C s1 a2 true c0_0 c0_1 c0_2 c0_3 c0_4 c0_5 c0_6 c0_7 qr_1.2 else class_Charge.J7 M C s1 a2 (decide (a2 > c0_1)) c0_0 c0_1 c0_2 c0_3 c0_4 c0_5 c0_6 c0_7 qr_1.2
theorem class_Charge.eq (M : Mach) (C : Call) (c0_0 : Int) (c0_1 : Int) (c0_2 : Int) (c0_3 : Int) (c0_4 : Int) (c0_5 : Int) (c0_6 : Int) (c0_7 : Int) (s1 : Int) (a2 : Int) (G : GH) : runF M C class_Charge.d [.agg [.int .i64 c0_0, .int .i64 c0_1, .int .i64 c0_2, .int .i64 c0_3, .int .i64 c0_4, .int .i64 c0_5, .int .i64 c0_6, .int .i64 c0_7], .c (.int .i64 s1), .c (.int .i64 a2)] G = class_Charge.f M C c0_0 c0_1 c0_2 c0_3 c0_4 c0_5 c0_6 c0_7 s1 a2 G := by kernel_rfl

/- 57 hodman/same.moved -/
def same_moved.c23 : DCode := (.region [⟨0, some 45, .bin .add .i64 (.t 28) (.k (.c (.int .i64 1))), none⟩,
    ⟨1, some 28, .move (.t 45), none⟩])
def same_moved.c26 : DCode := (.seq (.region [⟨0, some 29, .cmp .lss .i64 (.t 28) (.t 27), none⟩]) (.seq (.cond (.t 29) .skip (.exit 0)) (.seq (.block 1 (.seq (.region [⟨0, some 30, .iaddr (.t 26) (.t 28) 1, none⟩,
    ⟨1, some 31, .ldG 30 (.c (.int .i64)), none⟩,
    ⟨2, some 7, .move (.t 31), none⟩]) (.seq (.region [⟨0, some 32, .move (.t 7), none⟩,
    ⟨1, some 33, .move (.t 1), none⟩,
    ⟨2, some 34, .cmp .lss .i64 (.t 32) (.t 33), none⟩]) (.cond (.t 34) (.region [⟨0, some 35, .move (.t 5), none⟩,
    ⟨1, some 36, .move (.t 5), none⟩,
    ⟨2, some 37, .nilck (.t 36), none⟩,
    ⟨3, some 38, .faddr 37 2, none⟩,
    ⟨4, some 39, .ldG 38 (.c (.sl 1)), none⟩,
    ⟨5, some 40, .move (.t 7), none⟩,
    ⟨6, some 41, .bslice 1 1 [.int .i64 0] [(0, 1, .t 40)], none⟩,
    ⟨7, some 42, .app (.t 39) (.t 41) 1 8, none⟩,
    ⟨8, some 43, .nilck (.t 35), none⟩,
    ⟨9, some 44, .faddr 43 2, none⟩,
    ⟨10, none, .stG 44 (.t 42) 1, none⟩]) .skip)))) (.cut [1, 5, 26, 27, 28] same_moved.c23))))
def same_moved.c27 : DCode := (.loop [1, 5, 26, 27, 28] same_moved.c26)
def same_moved.c32 : DCode := (.seq (.region [⟨0, some 46, .move (.t 5), none⟩,
    ⟨1, some 4, .move (.t 46), none⟩]) .ret)
def same_moved.d : DFn := { ntmps := 47, res := [.t 4], body := (.seq (.region [⟨0, some 4, .move (.k (.c (.ptr 0 0))), none⟩]) (.seq (.region [⟨0, some 8, .move (.t 1), none⟩,
    ⟨1, some 9, .build [.int .i64 0, .int .i64 0, .sl 1 0 0 0] [(0, 1, .t 8)], none⟩,
    ⟨2, some 10, .newv (.t 9) 3, none⟩,
    ⟨3, some 5, .move (.t 10), none⟩]) (.seq (.seq (.region [⟨0, some 11, .move (.t 0), none⟩,
    ⟨1, some 12, .pnil false (.t 11), none⟩]) (.cond (.t 12) (.seq (.region [⟨0, some 13, .move (.t 5), none⟩,
    ⟨1, some 4, .move (.t 13), none⟩]) .ret) .skip)) (.seq (.region [⟨0, some 14, .move (.t 5), none⟩,
    ⟨1, some 15, .move (.t 0), none⟩,
    ⟨2, some 16, .nilck (.t 15), none⟩,
    ⟨3, some 17, .faddr 16 1, none⟩,
    ⟨4, some 18, .ldG 17 (.c (.int .i64)), none⟩,
    ⟨5, some 19, .move (.t 1), none⟩,
    ⟨6, some 20, .mn (.t 18) [.t 19], none⟩,
    ⟨7, some 21, .nilck (.t 14), none⟩,
    ⟨8, some 22, .faddr 21 1, none⟩,
    ⟨9, none, .stG 22 (.t 20) 1, none⟩]) (.seq (.seq (.region [⟨0, some 23, .move (.t 0), none⟩,
    ⟨1, some 24, .nilck (.t 23), none⟩,
    ⟨2, some 25, .faddr 24 2, none⟩,
    ⟨3, some 26, .ldG 25 (.c (.sl 1)), none⟩,
    ⟨4, some 27, .len (.t 26), none⟩,
    ⟨5, some 28, .move (.k (.c (.int .i64 0))), none⟩]) (.block 0 same_moved.c27)) same_moved.c32))))) }
def same_moved.k32 (M : Mach) (C : Call) : Kont := execC M.j C (M.ag C) same_moved.c32 ({ exits := [], ret := retK same_moved.d } : Env) (retK same_moved.d)
def same_moved.e28 (M : Mach) (C : Call) : Env := { exits := (0, (same_moved.k32 M C)) :: (({ exits := [], ret := retK same_moved.d } : Env)).exits, ret := (({ exits := [], ret := retK same_moved.d } : Env)).ret }
def same_moved.L27 (M : Mach) (C : Call) (charge1 : Int) (out5i : Nat) (out5o : Nat) (t26i : Nat) (t26o : Nat) (t26n : Nat) (t27 : Int) (t28 : Int) (G : GH) : Option Res := M.ag C [1, 5, 26, 27, 28] same_moved.c26 (same_moved.e28 M C) (same_moved.k32 M C) [.und, .v (.c (.int .i64 charge1)), .und, .und, .und, .v (.c (.ptr out5i out5o)), .und, .und, .und, .und, .und, .und, .und, .und, .und, .und, .und, .und, .und, .und, .und, .und, .und, .und, .und, .und, .v (.c (.sl 1 t26i t26o t26n)), .v (.c (.int .i64 t27)), .v (.c (.int .i64 t28)), .und, .und, .und, .und, .und, .und, .und, .und, .und, .und, .und, .und, .und, .und, .und, .und, .und, .und] G
def same_moved.k27 (M : Mach) (C : Call) : Kont := fun tm G => M.ag C [1, 5, 26, 27, 28] same_moved.c26 (same_moved.e28 M C) (same_moved.k32 M C) (restr [1, 5, 26, 27, 28] 0 tm) G
def same_moved.J23 (M : Mach) (C : Call) (charge1 : Int) (out5i : Nat) (out5o : Nat) (t26i : Nat) (t26o : Nat) (t26n : Nat) (t27 : Int) (t28 : Int) (G : GH) : Option Res := M.j (execC M.j C (M.ag C) same_moved.c23 (same_moved.e28 M C) (same_moved.k27 M C)) [.und, .v (.c (.int .i64 charge1)), .und, .und, .und, .v (.c (.ptr out5i out5o)), .und, .und, .und, .und, .und, .und, .und, .und, .und, .und, .und, .und, .und, .und, .und, .und, .und, .und, .und, .und, .v (.c (.sl 1 t26i t26o t26n)), .v (.c (.int .i64 t27)), .v (.c (.int .i64 t28)), .und, .und, .und, .und, .und, .und, .und, .und, .und, .und, .und, .und, .und, .und, .und, .und, .und, .und] G
theorem same_moved.L27_eq (M : Mach) (C : Call) (charge1 : Int) (out5i : Nat) (out5o : Nat) (t26i : Nat) (t26o : Nat) (t26n : Nat) (t27 : Int) (t28 : Int) (G : GH) : same_moved.L27 M C charge1 out5i out5o t26i t26o t26n t27 t28 G = (bif decide (t28 < t27) then guardK (decide (0 ≤ t28 ∧ t28 < ((t26n : Nat) : Int))) (((G.ld t26i (t26o + Int.toNat t28 * 1)).bind (Cell.asI .i64)).bind fun qx_5 => bif decide (qx_5 < charge1) then guardK (!Nat.beq out5i 0) (((G.ld out5i (out5o + 2)).bind (Cell.asS 1)).bind fun qs_6 => let qG_7 := G.alloc (.row [.int .i64 qx_5] false); (if 1 = 0 then some [] else qG_7.lds G.next 0 (1 * 1)).bind fun qnew_8 => guardK (decide (qs_6.2.2 + 1 ≤ most)) ((qG_7.app qs_6.1 qs_6.2.1 qs_6.2.2 1 1 qnew_8).bind fun qp_9 => guardK (!Nat.beq out5i 0) ((qp_9.2.2.sts out5i (out5o + 2) [.sl 1 qp_9.1 qp_9.2.1 (qs_6.2.2 + 1)]).bind fun qG_10 => same_moved.J23 M C charge1 out5i out5o t26i t26o t26n t27 t28 qG_10))) else same_moved.J23 M C charge1 out5i out5o t26i t26o t26n t27 t28 G) else some ([.c (.ptr out5i out5o)], G)) := (M.hs _ _ _ _ _ _ _).trans (by kernel_rfl)
theorem same_moved.J23_eq (M : Mach) (C : Call) (charge1 : Int) (out5i : Nat) (out5o : Nat) (t26i : Nat) (t26o : Nat) (t26n : Nat) (t27 : Int) (t28 : Int) (G : GH) : same_moved.J23 M C charge1 out5i out5o t26i t26o t26n t27 t28 G = (same_moved.L27 M C charge1 out5i out5o t26i t26o t26n t27 (IntKind.i64.wrap (t28 + 1)) G) := (M.hj _ _ _).trans (by kernel_rfl)
def same_moved.f (M : Mach) (C : Call) (b0i : Nat) (b0o : Nat) (charge1 : Int) (G : GH) : Option Res := let qG_1 := G.alloc (.row [.int .i64 charge1, .int .i64 0, .sl 1 0 0 0] false); bif Bool.xor false (Nat.beq b0i 0) then some ([.c (.ptr G.next 0)], qG_1) else guardK (!Nat.beq b0i 0) (((qG_1.ld b0i (b0o + 1)).bind (Cell.asI .i64)).bind fun qx_2 => guardK (!Nat.beq G.next 0) ((qG_1.sts G.next (0 + 1) [.int .i64 (mn2 qx_2 charge1)]).bind fun qG_3 => guardK (!Nat.beq b0i 0) (((qG_3.ld b0i (b0o + 2)).bind (Cell.asS 1)).bind fun qs_4 => same_moved.L27 M C charge1 G.next 0 qs_4.1 qs_4.2.1 qs_4.2.2 ((qs_4.2.2 : Nat) : Int) 0 qG_3)))
theorem same_moved.eq (M : Mach) (C : Call) (b0i : Nat) (b0o : Nat) (charge1 : Int) (G : GH) : runF M C same_moved.d [.c (.ptr b0i b0o), .c (.int .i64 charge1)] G = same_moved.f M C b0i b0o charge1 G := by kernel_rfl

/- 56 (*hodman/same.reader).charge -/
def same_reader_charge.c18 : DCode := (.seq (.region [⟨0, some 32, .move (.t 0), none⟩,
    ⟨1, some 33, .nilck (.t 32), none⟩,
    ⟨2, some 34, .faddr 33 0, none⟩,
    ⟨3, some 35, .ldG 34 (.agg [.int .i64, .int .i64, .int .i64, .int .i64, .int .i64, .int .i64, .int .i64, .int .i64]), none⟩,
    ⟨4, some 36, .move (.t 5), none⟩,
    ⟨5, some 37, .move (.t 6), none⟩,
    ⟨6, some 38, .call 70 [.t 35, .t 36, .t 37] [.c (.int .i64), .c (.int .i64)], none⟩,
    ⟨7, some 31, .move (.t 38), none⟩,
    ⟨8, some 39, .ext 31 0, none⟩,
    ⟨9, some 40, .ext 31 1, none⟩,
    ⟨10, some 7, .move (.t 39), none⟩,
    ⟨11, some 8, .move (.t 40), none⟩]) (.seq (.region [⟨0, some 41, .move (.t 7), none⟩,
    ⟨1, some 4, .move (.t 41), none⟩]) .ret))
def same_reader_charge.d : DFn := { ntmps := 43, res := [.t 4], body := (.seq (.region [⟨0, some 3, .boxv 42 [9, 11, 20, 22, 29] (.t 1) 6, none⟩,
    ⟨1, some 4, .move (.k (.c (.int .i64 0))), none⟩]) (.seq (.region [⟨0, some 9, .faddr 3 2, none⟩,
    ⟨1, some 10, .ldL 9 42 (.c (.int .i64)), none⟩,
    ⟨2, some 5, .move (.t 10), none⟩,
    ⟨3, some 6, .move (.k (.c (.int .i64 1))), none⟩]) (.seq (.seq (.region [⟨0, some 11, .faddr 3 0, none⟩,
    ⟨1, some 12, .ldL 11 42 (.c (.int .i64)), none⟩]) (.block 0 (.seq (.region [⟨0, some 14, .cmp .eql .i64 (.t 12) (.k (.c (.int .i64 2))), none⟩,
    ⟨1, some 13, .move (.t 14), none⟩]) (.cond (.t 13) (.region [⟨0, some 16, .move (.t 0), none⟩,
    ⟨1, some 17, .nilck (.t 16), none⟩,
    ⟨2, some 18, .faddr 17 0, none⟩,
    ⟨3, some 19, .ldG 18 (.agg [.int .i64, .int .i64, .int .i64, .int .i64, .int .i64, .int .i64, .int .i64, .int .i64]), none⟩,
    ⟨4, some 20, .faddr 3 4, none⟩,
    ⟨5, some 21, .ldL 20 42 (.c (.int .i64)), none⟩,
    ⟨6, some 22, .faddr 3 2, none⟩,
    ⟨7, some 23, .ldL 22 42 (.c (.int .i64)), none⟩,
    ⟨8, some 24, .call 46 [.t 19, .t 21, .t 23] [.c (.int .i64), .c (.int .i64)], none⟩,
    ⟨9, some 15, .move (.t 24), none⟩,
    ⟨10, some 25, .ext 15 0, none⟩,
    ⟨11, some 26, .ext 15 1, none⟩,
    ⟨12, some 5, .move (.t 25), none⟩]) (.seq (.region [⟨0, some 28, .cmp .eql .i64 (.t 12) (.k (.c (.int .i64 3))), none⟩,
    ⟨1, some 27, .move (.t 28), none⟩]) (.cond (.t 27) (.region [⟨0, some 29, .faddr 3 3, none⟩,
    ⟨1, some 30, .ldL 29 42 (.c (.int .i64)), none⟩,
    ⟨2, some 6, .move (.t 30), none⟩]) .skip)))))) (.cut [0, 5, 6] same_reader_charge.c18)))) }
def same_reader_charge.J18 (M : Mach) (C : Call) (r0i : Nat) (r0o : Nat) (s5 : Int) (a6 : Int) (G : GH) : Option Res := M.j (execC M.j C (M.ag C) same_reader_charge.c18 ({ exits := [], ret := retK same_reader_charge.d } : Env) (retK same_reader_charge.d)) [.v (.c (.ptr r0i r0o)), .und, .und, .und, .und, .v (.c (.int .i64 s5)), .v (.c (.int .i64 a6)), .und, .und, .und, .und, .und, .und, .und, .und, .und, .und, .und, .und, .und, .und, .und, .und, .und, .und, .und, .und, .und, .und, .und, .und, .und, .und, .und, .und, .und, .und, .und, .und, .und, .und, .und, .und] G
theorem same_reader_charge.J18_eq (M : Mach) (C : Call) (r0i : Nat) (r0o : Nat) (s5 : Int) (a6 : Int) (G : GH) : same_reader_charge.J18 M C r0i r0o s5 a6 G = (guardK (!Nat.beq r0i 0) (((G.ld r0i ((r0o + 0) + 0)).bind (Cell.asI .i64)).bind fun qx_12 => ((G.ld r0i ((r0o + 0) + 1)).bind (Cell.asI .i64)).bind fun qx_13 => ((G.ld r0i ((r0o + 0) + 2)).bind (Cell.asI .i64)).bind fun qx_14 => ((G.ld r0i ((r0o + 0) + 3)).bind (Cell.asI .i64)).bind fun qx_15 => ((G.ld r0i ((r0o + 0) + 4)).bind (Cell.asI .i64)).bind fun qx_16 => ((G.ld r0i ((r0o + 0) + 5)).bind (Cell.asI .i64)).bind fun qx_17 => ((G.ld r0i ((r0o + 0) + 6)).bind (Cell.asI .i64)).bind fun qx_18 => ((G.ld r0i ((r0o + 0) + 7)).bind (Cell.asI .i64)).bind fun qx_19 => (C class_Charge.id [.agg [.int .i64 qx_12, .int .i64 qx_13, .int .i64 qx_14, .int .i64 qx_15, .int .i64 qx_16, .int .i64 qx_17, .int .i64 qx_18, .int .i64 qx_19], .c (.int .i64 s5), .c (.int .i64 a6)] G).bind fun qr_20 => (((qr_20.1[0]?).bind V1.c?).bind (Cell.asI .i64)).bind fun qx_21 => (((qr_20.1[1]?).bind V1.c?).bind (Cell.asI .i64)).bind fun qx_22 => some ([.c (.int .i64 qx_21)], qr_20.2))) := (M.hj _ _ _).trans (by kernel_rfl)
def same_reader_charge.f (M : Mach) (C : Call) (r0i : Nat) (r0o : Nat) (o1_0 : Int) (o1_1 : Int) (o1_2 : Int) (o1_3 : Int) (o1_4 : Int) (o1_5 : Int) (G : GH) : Option Res := bif decide (o1_0 = 2) then guardK (!Nat.beq r0i 0) (((G.ld r0i ((r0o + 0) + 0)).bind (Cell.asI .i64)).bind fun qx_1 => ((G.ld r0i ((r0o + 0) + 1)).bind (Cell.asI .i64)).bind fun qx_2 => ((G.ld r0i ((r0o + 0) + 2)).bind (Cell.asI .i64)).bind fun qx_3 => ((G.ld r0i ((r0o + 0) + 3)).bind (Cell.asI .i64)).bind fun qx_4 => ((G.ld r0i ((r0o + 0) + 4)).bind (Cell.asI .i64)).bind fun qx_5 => ((G.ld r0i ((r0o + 0) + 5)).bind (Cell.asI .i64)).bind fun qx_6 => ((G.ld r0i ((r0o + 0) + 6)).bind (Cell.asI .i64)).bind fun qx_7 => ((G.ld r0i ((r0o + 0) + 7)).bind (Cell.asI .i64)).bind fun qx_8 => (C class_Product.id [.agg [.int .i64 qx_1, .int .i64 qx_2, .int .i64 qx_3, .int .i64 qx_4, .int .i64 qx_5, .int .i64 qx_6, .int .i64 qx_7, .int .i64 qx_8], .c (.int .i64 o1_4), .c (.int .i64 o1_2)] G).bind fun qr_9 => (((qr_9.1[0]?).bind V1.c?).bind (Cell.asI .i64)).bind fun qx_10 => (((qr_9.1[1]?).bind V1.c?).bind (Cell.asI .i64)).bind fun qx_11 => same_reader_charge.J18 M C r0i r0o qx_10 1 qr_9.2) else bif decide (o1_0 = 3) then same_reader_charge.J18 M C r0i r0o o1_2 o1_3 G else same_reader_charge.J18 M C r0i r0o o1_2 1 G
theorem same_reader_charge.eq (M : Mach) (C : Call) (r0i : Nat) (r0o : Nat) (o1_0 : Int) (o1_1 : Int) (o1_2 : Int) (o1_3 : Int) (o1_4 : Int) (o1_5 : Int) (G : GH) : runF M C same_reader_charge.d [.c (.ptr r0i r0o), .agg [.int .i64 o1_0, .int .i64 o1_1, .int .i64 o1_2, .int .i64 o1_3, .int .i64 o1_4, .int .u8 o1_5]] G = same_reader_charge.f M C r0i r0o o1_0 o1_1 o1_2 o1_3 o1_4 o1_5 G := by kernel_rfl

/- 64 hodman/hodmanref8.Pages -/
def hodmanref8_Pages.c6 : DCode := (.cond (.t 19) (.seq (.region [⟨0, some 6, .move (.k (.c (.int .i64 0))), none⟩,
    ⟨1, some 7, .move (.k (.c (.int .i64 0))), none⟩]) .ret) .skip)
def hodmanref8_Pages.c23 : DCode := (.seq (.region [⟨0, some 37, .move (.t 1), none⟩,
    ⟨1, some 38, .move (.t 0), none⟩,
    ⟨2, some 39, .bin .quo .i64 (.t 37) (.t 38), none⟩,
    ⟨3, some 40, .move (.t 8), none⟩,
    ⟨4, some 41, .move (.t 0), none⟩,
    ⟨5, some 42, .bin .quo .i64 (.t 40) (.t 41), none⟩,
    ⟨6, some 43, .bin .add .i64 (.t 42) (.k (.c (.int .i64 1))), none⟩,
    ⟨7, some 6, .move (.t 39), none⟩,
    ⟨8, some 7, .move (.t 43), none⟩]) .ret)
def hodmanref8_Pages.c26 : DCode := (.seq (.seq (.region [⟨0, some 20, .move (.t 2), none⟩,
    ⟨1, some 21, .cmp .eql .i64 (.t 20) (.k (.c (.int .i64 0))), none⟩]) (.cond (.t 21) (.seq (.region [⟨0, some 22, .move (.t 1), none⟩,
    ⟨1, some 23, .move (.t 0), none⟩,
    ⟨2, some 24, .bin .quo .i64 (.t 22) (.t 23), none⟩,
    ⟨3, some 25, .move (.t 1), none⟩,
    ⟨4, some 26, .move (.t 0), none⟩,
    ⟨5, some 27, .bin .quo .i64 (.t 25) (.t 26), none⟩,
    ⟨6, some 6, .move (.t 24), none⟩,
    ⟨7, some 7, .move (.t 27), none⟩]) .ret) .skip)) (.seq (.region [⟨0, some 29, .move (.t 1), none⟩,
    ⟨1, some 30, .move (.t 2), none⟩,
    ⟨2, some 31, .bin .sub .i64 (.t 30) (.k (.c (.int .i64 1))), none⟩,
    ⟨3, some 32, .call 61 [.t 29, .t 31] [.c (.int .i64), .c (.bool)], none⟩,
    ⟨4, some 28, .move (.t 32), none⟩,
    ⟨5, some 33, .ext 28 0, none⟩,
    ⟨6, some 34, .ext 28 1, none⟩,
    ⟨7, some 8, .move (.t 33), none⟩,
    ⟨8, some 9, .move (.t 34), none⟩]) (.seq (.seq (.region [⟨0, some 35, .move (.t 9), none⟩,
    ⟨1, some 36, .not (.t 35), none⟩]) (.cond (.t 36) (.region [⟨0, some 8, .move (.k (.c (.int .i64 9223372036854775807))), none⟩]) .skip)) (.cut [0, 1, 8] hodmanref8_Pages.c23))))
def hodmanref8_Pages.d : DFn := { ntmps := 44, res := [.t 6, .t 7], body := (.seq (.region [⟨0, some 6, .move (.k (.c (.int .i64 0))), none⟩,
    ⟨1, some 7, .move (.k (.c (.int .i64 0))), none⟩]) (.seq (.seq (.region [⟨0, some 10, .move (.t 0), none⟩,
    ⟨1, some 11, .cmp .lss .i64 (.t 10) (.k (.c (.int .i64 1))), none⟩,
    ⟨2, some 12, .move (.t 11), none⟩,
    ⟨3, some 13, .move (.t 1), some (12, false)⟩,
    ⟨4, some 14, .cmp .lss .i64 (.t 13) (.k (.c (.int .i64 0))), some (12, false)⟩,
    ⟨5, some 15, .pick (.t 12) (.k (.c (.bool true))) (.t 14), none⟩,
    ⟨6, some 16, .move (.t 15), none⟩,
    ⟨7, some 17, .move (.t 2), some (16, false)⟩,
    ⟨8, some 18, .cmp .lss .i64 (.t 17) (.k (.c (.int .i64 0))), some (16, false)⟩,
    ⟨9, some 19, .pick (.t 16) (.k (.c (.bool true))) (.t 18), none⟩]) (.cut [0, 1, 2, 19] hodmanref8_Pages.c6)) hodmanref8_Pages.c26)) }
def hodmanref8_Pages.k26 (M : Mach) (C : Call) : Kont := execC M.j C (M.ag C) hodmanref8_Pages.c26 ({ exits := [], ret := retK hodmanref8_Pages.d } : Env) (retK hodmanref8_Pages.d)
def hodmanref8_Pages.J6 (M : Mach) (C : Call) (page0 : Int) (at1 : Int) (n2 : Int) (t19 : Bool) (G : GH) : Option Res := M.j (execC M.j C (M.ag C) hodmanref8_Pages.c6 ({ exits := [], ret := retK hodmanref8_Pages.d } : Env) (hodmanref8_Pages.k26 M C)) [.v (.c (.int .i64 page0)), .v (.c (.int .i64 at1)), .v (.c (.int .i64 n2)), .und, .und, .und, .und, .und, .und, .und, .und, .und, .und, .und, .und, .und, .und, .und, .und, .v (.c (.bool t19)), .und, .und, .und, .und, .und, .und, .und, .und, .und, .und, .und, .und, .und, .und, .und, .und, .und, .und, .und, .und, .und, .und, .und, .und] G
def hodmanref8_Pages.J23 (M : Mach) (C : Call) (page0 : Int) (at1 : Int) (last8 : Int) (G : GH) : Option Res := M.j (execC M.j C (M.ag C) hodmanref8_Pages.c23 ({ exits := [], ret := retK hodmanref8_Pages.d } : Env) (retK hodmanref8_Pages.d)) [.v (.c (.int .i64 page0)), .v (.c (.int .i64 at1)), .und, .und, .und, .und, .und, .und, .v (.c (.int .i64 last8)), .und, .und, .und, .und, .und, .und, .und, .und, .und, .und, .und, .und, .und, .und, .und, .und, .und, .und, .und, .und, .und, .und, .und, .und, .und, .und, .und, .und, .und, .und, .und, .und, .und, .und, .und] G
theorem hodmanref8_Pages.J6_eq (M : Mach) (C : Call) (page0 : Int) (at1 : Int) (n2 : Int) (t19 : Bool) (G : GH) : hodmanref8_Pages.J6 M C page0 at1 n2 t19 G = (bif t19 then some ([.c (.int .i64 0), .c (.int .i64 0)], G) else bif decide (n2 = 0) then (binD .quo .i64 at1 page0).bind fun qx_1 => (binD .quo .i64 at1 page0).bind fun qx_2 => some ([.c (.int .i64 qx_1), .c (.int .i64 qx_2)], G) else (C hodmanref1_Add.id [.c (.int .i64 at1), .c (.int .i64 (IntKind.i64.wrap (n2 - 1)))] G).bind fun qr_3 => (((qr_3.1[0]?).bind V1.c?).bind (Cell.asI .i64)).bind fun qx_4 => (((qr_3.1[1]?).bind V1.c?).bind Cell.asB).bind fun qb_5 => bif (!qb_5) then hodmanref8_Pages.J23 M C page0 at1 9223372036854775807 qr_3.2 else hodmanref8_Pages.J23 M C page0 at1 qx_4 qr_3.2) := (M.hj _ _ _).trans (by kernel_rfl)
theorem hodmanref8_Pages.J23_eq (M : Mach) (C : Call) (page0 : Int) (at1 : Int) (last8 : Int) (G : GH) : hodmanref8_Pages.J23 M C page0 at1 last8 G = ((binD .quo .i64 at1 page0).bind fun qx_6 => (binD .quo .i64 last8 page0).bind fun qx_7 => some ([.c (.int .i64 qx_6), .c (.int .i64 (IntKind.i64.wrap (qx_7 + 1)))], G)) := (M.hj _ _ _).trans (by kernel_rfl)
def hodmanref8_Pages.f (M : Mach) (C : Call) (page0 : Int) (at1 : Int) (n2 : Int) (G : GH) : Option Res := bif decide (page0 < 1) then hodmanref8_Pages.J6 M C page0 at1 n2 true G else bif decide (at1 < 0) then hodmanref8_Pages.J6 M C page0 at1 n2 true G else hodmanref8_Pages.J6 M C page0 at1 n2 (decide (n2 < 0)) G
theorem hodmanref8_Pages.eq (M : Mach) (C : Call) (page0 : Int) (at1 : Int) (n2 : Int) (G : GH) : runF M C hodmanref8_Pages.d [.c (.int .i64 page0), .c (.int .i64 at1), .c (.int .i64 n2)] G = hodmanref8_Pages.f M C page0 at1 n2 G := by kernel_rfl

/- 62 hodman/calc.Mul -/
def calc_Mul.c10 : DCode := (.cond (.t 14) (.seq (.region [⟨0, some 4, .move (.k (.c (.int .i64 0))), none⟩,
    ⟨1, some 5, .move (.k (.c (.bool false))), none⟩]) .ret) .skip)
def calc_Mul.c12 : DCode := (.cond (.t 7) (.seq (.region [⟨0, some 4, .move (.k (.c (.int .i64 0))), none⟩,
    ⟨1, some 5, .move (.k (.c (.bool true))), none⟩]) .ret) (.seq (.region [⟨0, some 15, .move (.t 0), none⟩,
    ⟨1, some 16, .cmp .eql .i64 (.t 15) (.k (.c (.int .i64 (-1)))), none⟩,
    ⟨2, some 17, .move (.t 16), none⟩,
    ⟨3, some 18, .move (.t 1), some (17, true)⟩,
    ⟨4, some 19, .cmp .eql .i64 (.t 18) (.k (.c (.int .i64 (-9223372036854775808)))), some (17, true)⟩,
    ⟨5, some 20, .pick (.t 17) (.t 19) (.k (.c (.bool false))), none⟩,
    ⟨6, some 21, .move (.t 20), none⟩,
    ⟨7, some 22, .move (.t 1), some (21, false)⟩,
    ⟨8, some 23, .cmp .eql .i64 (.t 22) (.k (.c (.int .i64 (-1)))), some (21, false)⟩,
    ⟨9, some 24, .move (.t 23), some (21, false)⟩,
    ⟨10, some 25, .move (.t 0), some (24, true)⟩,
    ⟨11, some 26, .cmp .eql .i64 (.t 25) (.k (.c (.int .i64 (-9223372036854775808)))), some (24, true)⟩,
    ⟨12, some 27, .pick (.t 24) (.t 26) (.k (.c (.bool false))), some (21, false)⟩,
    ⟨13, some 28, .pick (.t 21) (.k (.c (.bool true))) (.t 27), none⟩,
    ⟨14, some 14, .move (.t 28), none⟩]) (.cut [0, 1, 14] calc_Mul.c10)))
def calc_Mul.c27 : DCode := (.seq (.region [⟨0, some 29, .move (.t 0), none⟩,
    ⟨1, some 30, .conv .u64 (.t 29), none⟩,
    ⟨2, some 31, .move (.t 1), none⟩,
    ⟨3, some 32, .conv .u64 (.t 31), none⟩,
    ⟨4, some 33, .bin .mul .u64 (.t 30) (.t 32), none⟩,
    ⟨5, some 34, .conv .i64 (.t 33), none⟩,
    ⟨6, some 6, .move (.t 34), none⟩]) (.seq (.seq (.region [⟨0, some 35, .move (.t 6), none⟩,
    ⟨1, some 36, .move (.t 1), none⟩,
    ⟨2, some 37, .bin .quo .i64 (.t 35) (.t 36), none⟩,
    ⟨3, some 38, .move (.t 0), none⟩,
    ⟨4, some 39, .cmp .neq .i64 (.t 37) (.t 38), none⟩]) (.cond (.t 39) (.seq (.region [⟨0, some 4, .move (.k (.c (.int .i64 0))), none⟩,
    ⟨1, some 5, .move (.k (.c (.bool false))), none⟩]) .ret) .skip)) (.seq (.region [⟨0, some 40, .move (.t 6), none⟩,
    ⟨1, some 4, .move (.t 40), none⟩,
    ⟨2, some 5, .move (.k (.c (.bool true))), none⟩]) .ret)))
def calc_Mul.d : DFn := { ntmps := 41, res := [.t 4, .t 5], body := (.seq (.region [⟨0, some 4, .move (.k (.c (.int .i64 0))), none⟩,
    ⟨1, some 5, .move (.k (.c (.bool false))), none⟩]) (.seq (.block 0 (.seq (.region [⟨0, some 8, .move (.t 0), none⟩,
    ⟨1, some 9, .cmp .eql .i64 (.t 8) (.k (.c (.int .i64 0))), none⟩,
    ⟨2, some 10, .move (.t 9), none⟩,
    ⟨3, some 11, .move (.t 1), some (10, false)⟩,
    ⟨4, some 12, .cmp .eql .i64 (.t 11) (.k (.c (.int .i64 0))), some (10, false)⟩,
    ⟨5, some 13, .pick (.t 10) (.k (.c (.bool true))) (.t 12), none⟩,
    ⟨6, some 7, .move (.t 13), none⟩]) (.cut [0, 1, 7] calc_Mul.c12))) calc_Mul.c27)) }
def calc_Mul.k27 (M : Mach) (C : Call) : Kont := execC M.j C (M.ag C) calc_Mul.c27 ({ exits := [], ret := retK calc_Mul.d } : Env) (retK calc_Mul.d)
def calc_Mul.e14 (M : Mach) (C : Call) : Env := { exits := (0, (calc_Mul.k27 M C)) :: (({ exits := [], ret := retK calc_Mul.d } : Env)).exits, ret := (({ exits := [], ret := retK calc_Mul.d } : Env)).ret }
def calc_Mul.J12 (M : Mach) (C : Call) (a0 : Int) (b1 : Int) (t7 : Bool) (G : GH) : Option Res := M.j (execC M.j C (M.ag C) calc_Mul.c12 (calc_Mul.e14 M C) (calc_Mul.k27 M C)) [.v (.c (.int .i64 a0)), .v (.c (.int .i64 b1)), .und, .und, .und, .und, .und, .v (.c (.bool t7)), .und, .und, .und, .und, .und, .und, .und, .und, .und, .und, .und, .und, .und, .und, .und, .und, .und, .und, .und, .und, .und, .und, .und, .und, .und, .und, .und, .und, .und, .und, .und, .und, .und] G
def calc_Mul.J10 (M : Mach) (C : Call) (a0 : Int) (b1 : Int) (t14 : Bool) (G : GH) : Option Res := M.j (execC M.j C (M.ag C) calc_Mul.c10 (calc_Mul.e14 M C) (calc_Mul.k27 M C)) [.v (.c (.int .i64 a0)), .v (.c (.int .i64 b1)), .und, .und, .und, .und, .und, .und, .und, .und, .und, .und, .und, .und, .v (.c (.bool t14)), .und, .und, .und, .und, .und, .und, .und, .und, .und, .und, .und, .und, .und, .und, .und, .und, .und, .und, .und, .und, .und, .und, .und, .und, .und, .und] G
theorem calc_Mul.J12_eq (M : Mach) (C : Call) (a0 : Int) (b1 : Int) (t7 : Bool) (G : GH) : calc_Mul.J12 M C a0 b1 t7 G = (bif t7 then some ([.c (.int .i64 0), .c (.bool true)], G) else bif decide (a0 = (-1)) then bif decide (b1 = (-9223372036854775808)) then calc_Mul.J10 M C a0 b1 true G else bif decide (b1 = (-1)) then calc_Mul.J10 M C a0 b1 (decide (a0 = (-9223372036854775808))) G else calc_Mul.J10 M C a0 b1 false G else bif decide (b1 = (-1)) then calc_Mul.J10 M C a0 b1 (decide (a0 = (-9223372036854775808))) G else calc_Mul.J10 M C a0 b1 false G) := (M.hj _ _ _).trans (by kernel_rfl)
theorem calc_Mul.J10_eq (M : Mach) (C : Call) (a0 : Int) (b1 : Int) (t14 : Bool) (G : GH) : calc_Mul.J10 M C a0 b1 t14 G = (bif t14 then some ([.c (.int .i64 0), .c (.bool false)], G) else (binD .quo .i64 (IntKind.i64.wrap (IntKind.u64.wrap ((IntKind.u64.wrap a0) * (IntKind.u64.wrap b1)))) b1).bind fun qx_1 => bif (!decide (qx_1 = a0)) then some ([.c (.int .i64 0), .c (.bool false)], G) else some ([.c (.int .i64 (IntKind.i64.wrap (IntKind.u64.wrap ((IntKind.u64.wrap a0) * (IntKind.u64.wrap b1))))), .c (.bool true)], G)) := (M.hj _ _ _).trans (by kernel_rfl)
def calc_Mul.f (M : Mach) (C : Call) (a0 : Int) (b1 : Int) (G : GH) : Option Res := bif decide (a0 = 0) then calc_Mul.J12 M C a0 b1 true G else calc_Mul.J12 M C a0 b1 (decide (b1 = 0)) G
theorem calc_Mul.eq (M : Mach) (C : Call) (a0 : Int) (b1 : Int) (G : GH) : runF M C calc_Mul.d [.c (.int .i64 a0), .c (.int .i64 b1)] G = calc_Mul.f M C a0 b1 G := by kernel_rfl

/- 60 hodman/hodmanref1.Product -/
def hodmanref1_Product.c6 : DCode := (.cond (.t 15) (.seq (.region [⟨0, some 6, .move (.k (.c (.int .i64 0))), none⟩,
    ⟨1, some 7, .move (.k (.c (.int .i64 2))), none⟩]) .ret) .skip)
def hodmanref1_Product.c14 : DCode := (.cond (.t 29) (.seq (.region [⟨0, some 6, .move (.k (.c (.int .i64 0))), none⟩,
    ⟨1, some 7, .move (.k (.c (.int .i64 4))), none⟩]) .ret) .skip)
def hodmanref1_Product.c18 : DCode := (.seq (.region [⟨0, some 30, .move (.t 8), none⟩,
    ⟨1, some 6, .move (.t 30), none⟩,
    ⟨2, some 7, .move (.k (.c (.int .i64 0))), none⟩]) .ret)
def hodmanref1_Product.c20 : DCode := (.seq (.region [⟨0, some 17, .move (.t 1), none⟩,
    ⟨1, some 18, .move (.t 2), none⟩,
    ⟨2, some 19, .call 72 [.t 17, .t 18] [.c (.int .i64), .c (.bool)], none⟩,
    ⟨3, some 16, .move (.t 19), none⟩,
    ⟨4, some 20, .ext 16 0, none⟩,
    ⟨5, some 21, .ext 16 1, none⟩,
    ⟨6, some 8, .move (.t 20), none⟩,
    ⟨7, some 9, .move (.t 21), none⟩]) (.seq (.seq (.region [⟨0, some 22, .move (.t 9), none⟩,
    ⟨1, some 23, .not (.t 22), none⟩,
    ⟨2, some 24, .move (.t 23), none⟩,
    ⟨3, some 25, .move (.t 8), some (24, false)⟩,
    ⟨4, some 26, .faddr 3 1, some (24, false)⟩,
    ⟨5, some 27, .ldL 26 31 (.c (.int .i64)), some (24, false)⟩,
    ⟨6, some 28, .cmp .gtr .i64 (.t 25) (.t 27), some (24, false)⟩,
    ⟨7, some 29, .pick (.t 24) (.k (.c (.bool true))) (.t 28), none⟩]) (.cut [8, 29] hodmanref1_Product.c14)) hodmanref1_Product.c18))
def hodmanref1_Product.d : DFn := { ntmps := 32, res := [.t 6, .t 7], body := (.seq (.region [⟨0, some 3, .boxv 31 [26] (.t 0) 8, none⟩,
    ⟨1, some 6, .move (.k (.c (.int .i64 0))), none⟩,
    ⟨2, some 7, .move (.k (.c (.int .i64 0))), none⟩]) (.seq (.seq (.region [⟨0, some 10, .move (.t 1), none⟩,
    ⟨1, some 11, .cmp .lss .i64 (.t 10) (.k (.c (.int .i64 0))), none⟩,
    ⟨2, some 12, .move (.t 11), none⟩,
    ⟨3, some 13, .move (.t 2), some (12, false)⟩,
    ⟨4, some 14, .cmp .lss .i64 (.t 13) (.k (.c (.int .i64 0))), some (12, false)⟩,
    ⟨5, some 15, .pick (.t 12) (.k (.c (.bool true))) (.t 14), none⟩]) (.cut [1, 2, 3, 15, 31] hodmanref1_Product.c6)) hodmanref1_Product.c20)) }
def hodmanref1_Product.k20 (M : Mach) (C : Call) : Kont := execC M.j C (M.ag C) hodmanref1_Product.c20 ({ exits := [], ret := retK hodmanref1_Product.d } : Env) (retK hodmanref1_Product.d)
def hodmanref1_Product.J6 (M : Mach) (C : Call) (n1 : Int) (s2 : Int) (t15 : Bool) (c31_0 : Int) (c31_1 : Int) (c31_2 : Int) (c31_3 : Int) (c31_4 : Int) (c31_5 : Int) (c31_6 : Int) (c31_7 : Int) (G : GH) : Option Res := M.j (execC M.j C (M.ag C) hodmanref1_Product.c6 ({ exits := [], ret := retK hodmanref1_Product.d } : Env) (hodmanref1_Product.k20 M C)) [.und, .v (.c (.int .i64 n1)), .v (.c (.int .i64 s2)), .ref 31 0, .und, .und, .und, .und, .und, .und, .und, .und, .und, .und, .und, .v (.c (.bool t15)), .und, .und, .und, .und, .und, .und, .und, .und, .und, .und, .und, .und, .und, .und, .und, .box [.int .i64 c31_0, .int .i64 c31_1, .int .i64 c31_2, .int .i64 c31_3, .int .i64 c31_4, .int .i64 c31_5, .int .i64 c31_6, .int .i64 c31_7]] G
def hodmanref1_Product.k18 (M : Mach) (C : Call) : Kont := execC M.j C (M.ag C) hodmanref1_Product.c18 ({ exits := [], ret := retK hodmanref1_Product.d } : Env) (retK hodmanref1_Product.d)
def hodmanref1_Product.J14 (M : Mach) (C : Call) (v8 : Int) (t29 : Bool) (G : GH) : Option Res := M.j (execC M.j C (M.ag C) hodmanref1_Product.c14 ({ exits := [], ret := retK hodmanref1_Product.d } : Env) (hodmanref1_Product.k18 M C)) [.und, .und, .und, .und, .und, .und, .und, .und, .v (.c (.int .i64 v8)), .und, .und, .und, .und, .und, .und, .und, .und, .und, .und, .und, .und, .und, .und, .und, .und, .und, .und, .und, .und, .v (.c (.bool t29)), .und, .und] G
theorem hodmanref1_Product.J6_eq (M : Mach) (C : Call) (n1 : Int) (s2 : Int) (t15 : Bool) (c31_0 : Int) (c31_1 : Int) (c31_2 : Int) (c31_3 : Int) (c31_4 : Int) (c31_5 : Int) (c31_6 : Int) (c31_7 : Int) (G : GH) : hodmanref1_Product.J6 M C n1 s2 t15 c31_0 c31_1 c31_2 c31_3 c31_4 c31_5 c31_6 c31_7 G = (bif t15 then some ([.c (.int .i64 0), .c (.int .i64 2)], G) else (C hodmanref1_Mul.id [.c (.int .i64 n1), .c (.int .i64 s2)] G).bind fun qr_1 => (((qr_1.1[0]?).bind V1.c?).bind (Cell.asI .i64)).bind fun qx_2 => (((qr_1.1[1]?).bind V1.c?).bind Cell.asB).bind fun qb_3 => bif (!qb_3) then hodmanref1_Product.J14 M C qx_2 true qr_1.2 else hodmanref1_Product.J14 M C qx_2 (decide (qx_2 > c31_1)) qr_1.2) := (M.hj _ _ _).trans (by kernel_rfl)
theorem hodmanref1_Product.J14_eq (M : Mach) (C : Call) (v8 : Int) (t29 : Bool) (G : GH) : hodmanref1_Product.J14 M C v8 t29 G = (bif t29 then some ([.c (.int .i64 0), .c (.int .i64 4)], G) else some ([.c (.int .i64 v8), .c (.int .i64 0)], G)) := (M.hj _ _ _).trans (by kernel_rfl)
def hodmanref1_Product.f (M : Mach) (C : Call) (c0_0 : Int) (c0_1 : Int) (c0_2 : Int) (c0_3 : Int) (c0_4 : Int) (c0_5 : Int) (c0_6 : Int) (c0_7 : Int) (n1 : Int) (s2 : Int) (G : GH) : Option Res := bif decide (n1 < 0) then hodmanref1_Product.J6 M C n1 s2 true c0_0 c0_1 c0_2 c0_3 c0_4 c0_5 c0_6 c0_7 G else hodmanref1_Product.J6 M C n1 s2 (decide (s2 < 0)) c0_0 c0_1 c0_2 c0_3 c0_4 c0_5 c0_6 c0_7 G
theorem hodmanref1_Product.eq (M : Mach) (C : Call) (c0_0 : Int) (c0_1 : Int) (c0_2 : Int) (c0_3 : Int) (c0_4 : Int) (c0_5 : Int) (c0_6 : Int) (c0_7 : Int) (n1 : Int) (s2 : Int) (G : GH) : runF M C hodmanref1_Product.d [.agg [.int .i64 c0_0, .int .i64 c0_1, .int .i64 c0_2, .int .i64 c0_3, .int .i64 c0_4, .int .i64 c0_5, .int .i64 c0_6, .int .i64 c0_7], .c (.int .i64 n1), .c (.int .i64 s2)] G = hodmanref1_Product.f M C c0_0 c0_1 c0_2 c0_3 c0_4 c0_5 c0_6 c0_7 n1 s2 G := by kernel_rfl

/- 41 slices.Equal[[]hodman/api.Ans,hodman/api.Ans] -/
def api_Ans.c26 : DCode := (.seq (.region [⟨0, some 14, .cmp .lss .i64 (.t 13) (.t 12), none⟩]) (.seq (.cond (.t 14) .skip (.exit 0)) (.seq (.block 1 (.seq (.region [⟨0, some 15, .move (.t 13), none⟩,
    ⟨1, some 5, .move (.t 15), none⟩]) (.seq (.region [⟨0, some 16, .move (.t 0), none⟩,
    ⟨1, some 17, .move (.t 5), none⟩,
    ⟨2, some 18, .iaddr (.t 16) (.t 17) 8, none⟩,
    ⟨3, some 19, .ldG 18 (.agg [.int .i64, .int .i64, .int .i64, .int .u8, .int .i64, .int .i64, .int .i64, .int .i64]), none⟩,
    ⟨4, some 20, .move (.t 1), none⟩,
    ⟨5, some 21, .move (.t 5), none⟩,
    ⟨6, some 22, .iaddr (.t 20) (.t 21) 8, none⟩,
    ⟨7, some 23, .ldG 22 (.agg [.int .i64, .int .i64, .int .i64, .int .u8, .int .i64, .int .i64, .int .i64, .int .i64]), none⟩,
    ⟨8, some 24, .aeq true [.int .i64, .int .i64, .int .i64, .int .u8, .int .i64, .int .i64, .int .i64, .int .i64] (.t 19) (.t 23), none⟩]) (.cond (.t 24) (.seq (.region [⟨0, some 4, .move (.k (.c (.bool false))), none⟩]) .ret) .skip)))) (.region [⟨0, some 25, .bin .add .i64 (.t 13) (.k (.c (.int .i64 1))), none⟩,
    ⟨1, some 13, .move (.t 25), none⟩]))))
def api_Ans.c32 : DCode := (.seq (.region [⟨0, some 4, .move (.k (.c (.bool true))), none⟩]) .ret)
def api_Ans.d : DFn := { ntmps := 26, res := [.t 4], body := (.seq (.region [⟨0, some 4, .move (.k (.c (.bool false))), none⟩]) (.seq (.seq (.region [⟨0, some 6, .move (.t 0), none⟩,
    ⟨1, some 7, .len (.t 6), none⟩,
    ⟨2, some 8, .move (.t 1), none⟩,
    ⟨3, some 9, .len (.t 8), none⟩,
    ⟨4, some 10, .cmp .neq .i64 (.t 7) (.t 9), none⟩]) (.cond (.t 10) (.seq (.region [⟨0, some 4, .move (.k (.c (.bool false))), none⟩]) .ret) .skip)) (.seq (.seq (.region [⟨0, some 11, .move (.t 0), none⟩,
    ⟨1, some 12, .len (.t 11), none⟩,
    ⟨2, some 13, .move (.k (.c (.int .i64 0))), none⟩]) (.block 0 (.loop [0, 1, 12, 13] api_Ans.c26))) api_Ans.c32))) }
def api_Ans.k32 (M : Mach) (C : Call) : Kont := execC M.j C (M.ag C) api_Ans.c32 ({ exits := [], ret := retK api_Ans.d } : Env) (retK api_Ans.d)
def api_Ans.e28 (M : Mach) (C : Call) : Env := { exits := (0, (api_Ans.k32 M C)) :: (({ exits := [], ret := retK api_Ans.d } : Env)).exits, ret := (({ exits := [], ret := retK api_Ans.d } : Env)).ret }
def api_Ans.L27 (M : Mach) (C : Call) (s10i : Nat) (s10o : Nat) (s10n : Nat) (s21i : Nat) (s21o : Nat) (s21n : Nat) (t12 : Int) (t13 : Int) (G : GH) : Option Res := M.ag C [0, 1, 12, 13] api_Ans.c26 (api_Ans.e28 M C) (api_Ans.k32 M C) [.v (.c (.sl 8 s10i s10o s10n)), .v (.c (.sl 8 s21i s21o s21n)), .und, .und, .und, .und, .und, .und, .und, .und, .und, .und, .v (.c (.int .i64 t12)), .v (.c (.int .i64 t13)), .und, .und, .und, .und, .und, .und, .und, .und, .und, .und, .und, .und] G
theorem api_Ans.L27_eq (M : Mach) (C : Call) (s10i : Nat) (s10o : Nat) (s10n : Nat) (s21i : Nat) (s21o : Nat) (s21n : Nat) (t12 : Int) (t13 : Int) (G : GH) : api_Ans.L27 M C s10i s10o s10n s21i s21o s21n t12 t13 G = (bif decide (t13 < t12) then guardK (decide (0 ≤ t13 ∧ t13 < ((s10n : Nat) : Int))) (((G.ld s10i ((s10o + Int.toNat t13 * 8) + 0)).bind (Cell.asI .i64)).bind fun qx_1 => ((G.ld s10i ((s10o + Int.toNat t13 * 8) + 1)).bind (Cell.asI .i64)).bind fun qx_2 => ((G.ld s10i ((s10o + Int.toNat t13 * 8) + 2)).bind (Cell.asI .i64)).bind fun qx_3 => ((G.ld s10i ((s10o + Int.toNat t13 * 8) + 3)).bind (Cell.asI .u8)).bind fun qx_4 => ((G.ld s10i ((s10o + Int.toNat t13 * 8) + 4)).bind (Cell.asI .i64)).bind fun qx_5 => ((G.ld s10i ((s10o + Int.toNat t13 * 8) + 5)).bind (Cell.asI .i64)).bind fun qx_6 => ((G.ld s10i ((s10o + Int.toNat t13 * 8) + 6)).bind (Cell.asI .i64)).bind fun qx_7 => ((G.ld s10i ((s10o + Int.toNat t13 * 8) + 7)).bind (Cell.asI .i64)).bind fun qx_8 => guardK (decide (0 ≤ t13 ∧ t13 < ((s21n : Nat) : Int))) (((G.ld s21i ((s21o + Int.toNat t13 * 8) + 0)).bind (Cell.asI .i64)).bind fun qx_9 => ((G.ld s21i ((s21o + Int.toNat t13 * 8) + 1)).bind (Cell.asI .i64)).bind fun qx_10 => ((G.ld s21i ((s21o + Int.toNat t13 * 8) + 2)).bind (Cell.asI .i64)).bind fun qx_11 => ((G.ld s21i ((s21o + Int.toNat t13 * 8) + 3)).bind (Cell.asI .u8)).bind fun qx_12 => ((G.ld s21i ((s21o + Int.toNat t13 * 8) + 4)).bind (Cell.asI .i64)).bind fun qx_13 => ((G.ld s21i ((s21o + Int.toNat t13 * 8) + 5)).bind (Cell.asI .i64)).bind fun qx_14 => ((G.ld s21i ((s21o + Int.toNat t13 * 8) + 6)).bind (Cell.asI .i64)).bind fun qx_15 => ((G.ld s21i ((s21o + Int.toNat t13 * 8) + 7)).bind (Cell.asI .i64)).bind fun qx_16 => bif Bool.xor true (decide (qx_1 = qx_9) && (decide (qx_2 = qx_10) && (decide (qx_3 = qx_11) && (decide (qx_4 = qx_12) && (decide (qx_5 = qx_13) && (decide (qx_6 = qx_14) && (decide (qx_7 = qx_15) && (decide (qx_8 = qx_16) && true)))))))) then some ([.c (.bool false)], G) else api_Ans.L27 M C s10i s10o s10n s21i s21o s21n t12 (IntKind.i64.wrap (t13 + 1)) G)) else some ([.c (.bool true)], G)) := (M.hs _ _ _ _ _ _ _).trans (by kernel_rfl)
def api_Ans.f (M : Mach) (C : Call) (s10i : Nat) (s10o : Nat) (s10n : Nat) (s21i : Nat) (s21o : Nat) (s21n : Nat) (G : GH) : Option Res := bif (!decide (((s10n : Nat) : Int) = ((s21n : Nat) : Int))) then some ([.c (.bool false)], G) else api_Ans.L27 M C s10i s10o s10n s21i s21o s21n ((s10n : Nat) : Int) 0 G
theorem api_Ans.eq (M : Mach) (C : Call) (s10i : Nat) (s10o : Nat) (s10n : Nat) (s21i : Nat) (s21o : Nat) (s21n : Nat) (G : GH) : runF M C api_Ans.d [.c (.sl 8 s10i s10o s10n), .c (.sl 8 s21i s21o s21n)] G = api_Ans.f M C s10i s10o s10n s21i s21o s21n G := by kernel_rfl

/- 46 hodman/class.Product -/
def class_Product.c6 : DCode := (.cond (.t 15) (.seq (.region [⟨0, some 6, .move (.k (.c (.int .i64 0))), none⟩,
    ⟨1, some 7, .move (.k (.c (.int .i64 2))), none⟩]) .ret) .skip)
def class_Product.c14 : DCode := (.cond (.t 29) (.seq (.region [⟨0, some 6, .move (.k (.c (.int .i64 0))), none⟩,
    ⟨1, some 7, .move (.k (.c (.int .i64 4))), none⟩]) .ret) .skip)
def class_Product.c18 : DCode := (.seq (.region [⟨0, some 30, .move (.t 8), none⟩,
    ⟨1, some 6, .move (.t 30), none⟩,
    ⟨2, some 7, .move (.k (.c (.int .i64 0))), none⟩]) .ret)
def class_Product.c20 : DCode := (.seq (.region [⟨0, some 17, .move (.t 1), none⟩,
    ⟨1, some 18, .move (.t 2), none⟩,
    ⟨2, some 19, .call 62 [.t 17, .t 18] [.c (.int .i64), .c (.bool)], none⟩,
    ⟨3, some 16, .move (.t 19), none⟩,
    ⟨4, some 20, .ext 16 0, none⟩,
    ⟨5, some 21, .ext 16 1, none⟩,
    ⟨6, some 8, .move (.t 20), none⟩,
    ⟨7, some 9, .move (.t 21), none⟩]) (.seq (.seq (.region [⟨0, some 22, .move (.t 9), none⟩,
    ⟨1, some 23, .not (.t 22), none⟩,
    ⟨2, some 24, .move (.t 23), none⟩,
    ⟨3, some 25, .move (.t 8), some (24, false)⟩,
    ⟨4, some 26, .faddr 3 1, some (24, false)⟩,
    ⟨5, some 27, .ldL 26 31 (.c (.int .i64)), some (24, false)⟩,
    ⟨6, some 28, .cmp .gtr .i64 (.t 25) (.t 27), some (24, false)⟩,
    ⟨7, some 29, .pick (.t 24) (.k (.c (.bool true))) (.t 28), none⟩]) (.cut [8, 29] class_Product.c14)) class_Product.c18))
def class_Product.d : DFn := { ntmps := 32, res := [.t 6, .t 7], body := (.seq (.region [⟨0, some 3, .boxv 31 [26] (.t 0) 8, none⟩,
    ⟨1, some 6, .move (.k (.c (.int .i64 0))), none⟩,
    ⟨2, some 7, .move (.k (.c (.int .i64 0))), none⟩]) (.seq (.seq (.region [⟨0, some 10, .move (.t 1), none⟩,
    ⟨1, some 11, .cmp .lss .i64 (.t 10) (.k (.c (.int .i64 0))), none⟩,
    ⟨2, some 12, .move (.t 11), none⟩,
    ⟨3, some 13, .move (.t 2), some (12, false)⟩,
    ⟨4, some 14, .cmp .lss .i64 (.t 13) (.k (.c (.int .i64 0))), some (12, false)⟩,
    ⟨5, some 15, .pick (.t 12) (.k (.c (.bool true))) (.t 14), none⟩]) (.cut [1, 2, 3, 15, 31] class_Product.c6)) class_Product.c20)) }
def class_Product.k20 (M : Mach) (C : Call) : Kont := execC M.j C (M.ag C) class_Product.c20 ({ exits := [], ret := retK class_Product.d } : Env) (retK class_Product.d)
def class_Product.J6 (M : Mach) (C : Call) (n1 : Int) (s2 : Int) (t15 : Bool) (c31_0 : Int) (c31_1 : Int) (c31_2 : Int) (c31_3 : Int) (c31_4 : Int) (c31_5 : Int) (c31_6 : Int) (c31_7 : Int) (G : GH) : Option Res := M.j (execC M.j C (M.ag C) class_Product.c6 ({ exits := [], ret := retK class_Product.d } : Env) (class_Product.k20 M C)) [.und, .v (.c (.int .i64 n1)), .v (.c (.int .i64 s2)), .ref 31 0, .und, .und, .und, .und, .und, .und, .und, .und, .und, .und, .und, .v (.c (.bool t15)), .und, .und, .und, .und, .und, .und, .und, .und, .und, .und, .und, .und, .und, .und, .und, .box [.int .i64 c31_0, .int .i64 c31_1, .int .i64 c31_2, .int .i64 c31_3, .int .i64 c31_4, .int .i64 c31_5, .int .i64 c31_6, .int .i64 c31_7]] G
def class_Product.k18 (M : Mach) (C : Call) : Kont := execC M.j C (M.ag C) class_Product.c18 ({ exits := [], ret := retK class_Product.d } : Env) (retK class_Product.d)
def class_Product.J14 (M : Mach) (C : Call) (p8 : Int) (t29 : Bool) (G : GH) : Option Res := M.j (execC M.j C (M.ag C) class_Product.c14 ({ exits := [], ret := retK class_Product.d } : Env) (class_Product.k18 M C)) [.und, .und, .und, .und, .und, .und, .und, .und, .v (.c (.int .i64 p8)), .und, .und, .und, .und, .und, .und, .und, .und, .und, .und, .und, .und, .und, .und, .und, .und, .und, .und, .und, .und, .v (.c (.bool t29)), .und, .und] G
theorem class_Product.J6_eq (M : Mach) (C : Call) (n1 : Int) (s2 : Int) (t15 : Bool) (c31_0 : Int) (c31_1 : Int) (c31_2 : Int) (c31_3 : Int) (c31_4 : Int) (c31_5 : Int) (c31_6 : Int) (c31_7 : Int) (G : GH) : class_Product.J6 M C n1 s2 t15 c31_0 c31_1 c31_2 c31_3 c31_4 c31_5 c31_6 c31_7 G = (bif t15 then some ([.c (.int .i64 0), .c (.int .i64 2)], G) else (C calc_Mul.id [.c (.int .i64 n1), .c (.int .i64 s2)] G).bind fun qr_1 => (((qr_1.1[0]?).bind V1.c?).bind (Cell.asI .i64)).bind fun qx_2 => (((qr_1.1[1]?).bind V1.c?).bind Cell.asB).bind fun qb_3 => bif (!qb_3) then class_Product.J14 M C qx_2 true qr_1.2 else class_Product.J14 M C qx_2 (decide (qx_2 > c31_1)) qr_1.2) := (M.hj _ _ _).trans (by kernel_rfl)
theorem class_Product.J14_eq (M : Mach) (C : Call) (p8 : Int) (t29 : Bool) (G : GH) : class_Product.J14 M C p8 t29 G = (bif t29 then some ([.c (.int .i64 0), .c (.int .i64 4)], G) else some ([.c (.int .i64 p8), .c (.int .i64 0)], G)) := (M.hj _ _ _).trans (by kernel_rfl)
def class_Product.f (M : Mach) (C : Call) (c0_0 : Int) (c0_1 : Int) (c0_2 : Int) (c0_3 : Int) (c0_4 : Int) (c0_5 : Int) (c0_6 : Int) (c0_7 : Int) (n1 : Int) (s2 : Int) (G : GH) : Option Res := bif decide (n1 < 0) then class_Product.J6 M C n1 s2 true c0_0 c0_1 c0_2 c0_3 c0_4 c0_5 c0_6 c0_7 G else class_Product.J6 M C n1 s2 (decide (s2 < 0)) c0_0 c0_1 c0_2 c0_3 c0_4 c0_5 c0_6 c0_7 G
theorem class_Product.eq (M : Mach) (C : Call) (c0_0 : Int) (c0_1 : Int) (c0_2 : Int) (c0_3 : Int) (c0_4 : Int) (c0_5 : Int) (c0_6 : Int) (c0_7 : Int) (n1 : Int) (s2 : Int) (G : GH) : runF M C class_Product.d [.agg [.int .i64 c0_0, .int .i64 c0_1, .int .i64 c0_2, .int .i64 c0_3, .int .i64 c0_4, .int .i64 c0_5, .int .i64 c0_6, .int .i64 c0_7], .c (.int .i64 n1), .c (.int .i64 s2)] G = class_Product.f M C c0_0 c0_1 c0_2 c0_3 c0_4 c0_5 c0_6 c0_7 n1 s2 G := by kernel_rfl

/- 15 hodman/hodmanref17.New -/
def hodmanref17_New.d : DFn := { ntmps := 29, res := [.box 2 (some 14), .t 3], body := (.seq (.region [⟨0, some 1, .boxv 26 [] (.t 0) 6, none⟩,
    ⟨1, some 2, .boxz 27 [] [.int .i64 0, .int .i64 0, .int .i64 0, .int .i64 0, .int .i64 0, .int .i64 0, .int .i64 0, .int .i64 0, .sl 3 0 0 0, .int .i64 0, .int .i64 0, .int .i64 0, .sl 1 0 0 0, .sl 1 0 0 0], none⟩,
    ⟨2, some 3, .move (.k (.c (.int .i64 0))), none⟩]) (.seq (.region [⟨0, some 7, .ldL 1 26 (.agg [.int .i64, .int .i64, .int .i64, .int .i64, .int .i64, .int .i64]), none⟩,
    ⟨1, some 8, .call 27 [.t 7] [.agg [.int .i64, .int .i64, .int .i64, .int .i64, .int .i64, .int .i64, .int .i64, .int .i64], .c (.int .i64)], none⟩,
    ⟨2, some 6, .move (.t 8), none⟩,
    ⟨3, some 9, .ext 6 0, none⟩,
    ⟨4, some 10, .ext 6 1, none⟩,
    ⟨5, some 4, .boxz 28 [16, 18, 22] [.int .i64 0, .int .i64 0, .int .i64 0, .int .i64 0, .int .i64 0, .int .i64 0, .int .i64 0, .int .i64 0], none⟩,
    ⟨6, none, .stL 4 28 (.t 9) 8, none⟩,
    ⟨7, some 5, .move (.t 10), none⟩]) (.seq (.seq (.region [⟨0, some 11, .move (.t 5), none⟩,
    ⟨1, some 12, .cmp .neq .i64 (.t 11) (.k (.c (.int .i64 0))), none⟩]) (.cond (.t 12) (.seq (.region [⟨0, some 13, .build [.int .i64 0, .int .i64 0, .int .i64 0, .int .i64 0, .int .i64 0, .int .i64 0, .int .i64 0, .int .i64 0, .sl 3 0 0 0, .int .i64 0, .int .i64 0, .int .i64 0, .sl 1 0 0 0, .sl 1 0 0 0] [], none⟩,
    ⟨1, some 14, .move (.t 5), none⟩,
    ⟨2, none, .stL 2 27 (.t 13) 14, none⟩,
    ⟨3, some 3, .move (.t 14), none⟩]) .ret) .skip)) (.seq (.region [⟨0, some 15, .ldL 4 28 (.agg [.int .i64, .int .i64, .int .i64, .int .i64, .int .i64, .int .i64, .int .i64, .int .i64]), none⟩,
    ⟨1, some 16, .faddr 4 6, none⟩,
    ⟨2, some 17, .ldL 16 28 (.c (.int .i64)), none⟩,
    ⟨3, some 18, .faddr 4 4, none⟩,
    ⟨4, some 19, .ldL 18 28 (.c (.int .i64)), none⟩,
    ⟨5, some 20, .bin .quo .i64 (.t 17) (.t 19), none⟩,
    ⟨6, some 21, .mkslice (.t 20) 1 1 [.bool false], none⟩,
    ⟨7, some 22, .faddr 4 6, none⟩,
    ⟨8, some 23, .ldL 22 28 (.c (.int .i64)), none⟩,
    ⟨9, some 24, .mkslice (.t 23) 1 1 [.int .u8 0], none⟩,
    ⟨10, some 25, .build [.int .i64 0, .int .i64 0, .int .i64 0, .int .i64 0, .int .i64 0, .int .i64 0, .int .i64 0, .int .i64 0, .sl 3 0 0 0, .int .i64 0, .int .i64 0, .int .i64 0, .sl 1 0 0 0, .sl 1 0 0 0] [(0, 8, .t 15), (12, 1, .t 21), (13, 1, .t 24)], none⟩,
    ⟨11, none, .stL 2 27 (.t 25) 14, none⟩,
    ⟨12, some 3, .move (.k (.c (.int .i64 0))), none⟩]) .ret)))) }
def hodmanref17_New.f (M : Mach) (C : Call) (r0_0 : Int) (r0_1 : Int) (r0_2 : Int) (r0_3 : Int) (r0_4 : Int) (r0_5 : Int) (G : GH) : Option Res := (C hodmanref1_Of.id [.agg [.int .i64 r0_0, .int .i64 r0_1, .int .i64 r0_2, .int .i64 r0_3, .int .i64 r0_4, .int .i64 r0_5]] G).bind fun qr_1 => ((qr_1.1[0]?).bind V1.a?).bind fun qcs_2 => if qcs_2.length = 8 then (((qcs_2[0]?).bind (Cell.asI .i64)).bind fun qx_3 => ((qcs_2[1]?).bind (Cell.asI .i64)).bind fun qx_4 => ((qcs_2[2]?).bind (Cell.asI .i64)).bind fun qx_5 => ((qcs_2[3]?).bind (Cell.asI .i64)).bind fun qx_6 => ((qcs_2[4]?).bind (Cell.asI .i64)).bind fun qx_7 => ((qcs_2[5]?).bind (Cell.asI .i64)).bind fun qx_8 => ((qcs_2[6]?).bind (Cell.asI .i64)).bind fun qx_9 => ((qcs_2[7]?).bind (Cell.asI .i64)).bind fun qx_10 => (((qr_1.1[1]?).bind V1.c?).bind (Cell.asI .i64)).bind fun qx_11 => bif (!decide (qx_11 = 0)) then some ([.agg [.int .i64 0, .int .i64 0, .int .i64 0, .int .i64 0, .int .i64 0, .int .i64 0, .int .i64 0, .int .i64 0, .sl 3 0 0 0, .int .i64 0, .int .i64 0, .int .i64 0, .sl 1 0 0 0, .sl 1 0 0 0], .c (.int .i64 qx_11)], qr_1.2) else (binD .quo .i64 qx_9 qx_7).bind fun qx_12 => guardK (decide (0 ≤ qx_12 ∧ qx_12 ≤ (most : Int))) (let qG_13 := qr_1.2.alloc (.row (reps (Int.toNat qx_12) [.bool false]) false); guardK (decide (0 ≤ qx_9 ∧ qx_9 ≤ (most : Int))) (let qG_14 := qG_13.alloc (.row (reps (Int.toNat qx_9) [.int .u8 0]) false); some ([.agg [.int .i64 qx_3, .int .i64 qx_4, .int .i64 qx_5, .int .i64 qx_6, .int .i64 qx_7, .int .i64 qx_8, .int .i64 qx_9, .int .i64 qx_10, .sl 3 0 0 0, .int .i64 0, .int .i64 0, .int .i64 0, .sl 1 qr_1.2.next 0 (Int.toNat qx_12), .sl 1 qG_13.next 0 (Int.toNat qx_9)], .c (.int .i64 0)], qG_14)))) else none
theorem hodmanref17_New.eq (M : Mach) (C : Call) (r0_0 : Int) (r0_1 : Int) (r0_2 : Int) (r0_3 : Int) (r0_4 : Int) (r0_5 : Int) (G : GH) : runF M C hodmanref17_New.d [.agg [.int .i64 r0_0, .int .i64 r0_1, .int .i64 r0_2, .int .i64 r0_3, .int .i64 r0_4, .int .i64 r0_5]] G = hodmanref17_New.f M C r0_0 r0_1 r0_2 r0_3 r0_4 r0_5 G := by kernel_rfl

/- 51 hodman/hodmanref8.Zero -/
def hodmanref8_Zero.c19 : DCode := (.seq (.seq (.region [⟨0, some 19, .move (.t 9), none⟩,
    ⟨1, some 20, .move (.t 2), none⟩,
    ⟨2, some 21, .cmp .lss .i64 (.t 19) (.t 20), none⟩]) (.cond (.t 21) .skip (.exit 0))) (.seq (.block 1 (.region [⟨0, some 24, .move (.t 8), none⟩,
    ⟨1, some 25, .move (.t 1), none⟩,
    ⟨2, some 26, .move (.t 9), none⟩,
    ⟨3, some 27, .bin .add .i64 (.t 25) (.t 26), none⟩,
    ⟨4, some 28, .iaddr (.t 24) (.t 27) 1, none⟩,
    ⟨5, none, .stG 28 (.k (.c (.int .u8 0))) 1, none⟩])) (.region [⟨0, some 22, .move (.t 9), none⟩,
    ⟨1, some 23, .bin .add .i64 (.t 22) (.k (.c (.int .i64 1))), none⟩,
    ⟨2, some 9, .move (.t 23), none⟩])))
def hodmanref8_Zero.c25 : DCode := (.seq (.region [⟨0, some 29, .move (.t 8), none⟩,
    ⟨1, some 6, .move (.t 29), none⟩,
    ⟨2, some 7, .move (.k (.c (.bool true))), none⟩]) .ret)
def hodmanref8_Zero.d : DFn := { ntmps := 30, res := [.t 6, .t 7], body := (.seq (.region [⟨0, some 6, .move (.k (.c (.sl 1 0 0 0))), none⟩,
    ⟨1, some 7, .move (.k (.c (.bool false))), none⟩]) (.seq (.seq (.region [⟨0, some 10, .move (.t 0), none⟩,
    ⟨1, some 11, .move (.t 1), none⟩,
    ⟨2, some 12, .move (.t 2), none⟩,
    ⟨3, some 13, .call 68 [.t 10, .t 11, .t 12] [.c (.bool)], none⟩,
    ⟨4, some 14, .not (.t 13), none⟩]) (.cond (.t 14) (.seq (.region [⟨0, some 15, .move (.t 0), none⟩,
    ⟨1, some 6, .move (.t 15), none⟩,
    ⟨2, some 7, .move (.k (.c (.bool false))), none⟩]) .ret) .skip)) (.seq (.region [⟨0, some 16, .bslice 0 1 [] [], none⟩,
    ⟨1, some 17, .move (.t 0), none⟩,
    ⟨2, some 18, .app (.t 16) (.t 17) 1 1, none⟩,
    ⟨3, some 8, .move (.t 18), none⟩]) (.seq (.seq (.region [⟨0, some 9, .move (.k (.c (.int .i64 0))), none⟩]) (.block 0 (.loop [1, 2, 8, 9] hodmanref8_Zero.c19))) hodmanref8_Zero.c25)))) }
def hodmanref8_Zero.k25 (M : Mach) (C : Call) : Kont := execC M.j C (M.ag C) hodmanref8_Zero.c25 ({ exits := [], ret := retK hodmanref8_Zero.d } : Env) (retK hodmanref8_Zero.d)
def hodmanref8_Zero.e21 (M : Mach) (C : Call) : Env := { exits := (0, (hodmanref8_Zero.k25 M C)) :: (({ exits := [], ret := retK hodmanref8_Zero.d } : Env)).exits, ret := (({ exits := [], ret := retK hodmanref8_Zero.d } : Env)).ret }
def hodmanref8_Zero.L20 (M : Mach) (C : Call) (at1 : Int) (n2 : Int) (out8i : Nat) (out8o : Nat) (out8n : Nat) (i9 : Int) (G : GH) : Option Res := M.ag C [1, 2, 8, 9] hodmanref8_Zero.c19 (hodmanref8_Zero.e21 M C) (hodmanref8_Zero.k25 M C) [.und, .v (.c (.int .i64 at1)), .v (.c (.int .i64 n2)), .und, .und, .und, .und, .und, .v (.c (.sl 1 out8i out8o out8n)), .v (.c (.int .i64 i9)), .und, .und, .und, .und, .und, .und, .und, .und, .und, .und, .und, .und, .und, .und, .und, .und, .und, .und, .und, .und] G
theorem hodmanref8_Zero.L20_eq (M : Mach) (C : Call) (at1 : Int) (n2 : Int) (out8i : Nat) (out8o : Nat) (out8n : Nat) (i9 : Int) (G : GH) : hodmanref8_Zero.L20 M C at1 n2 out8i out8o out8n i9 G = (bif decide (i9 < n2) then guardK (decide (0 ≤ IntKind.i64.wrap (at1 + i9) ∧ IntKind.i64.wrap (at1 + i9) < ((out8n : Nat) : Int))) ((G.sts out8i (out8o + Int.toNat (IntKind.i64.wrap (at1 + i9)) * 1) [.int .u8 0]).bind fun qG_6 => hodmanref8_Zero.L20 M C at1 n2 out8i out8o out8n (IntKind.i64.wrap (i9 + 1)) qG_6) else some ([.c (.sl 1 out8i out8o out8n), .c (.bool true)], G)) := (M.hs _ _ _ _ _ _ _).trans (by kernel_rfl)
def hodmanref8_Zero.f (M : Mach) (C : Call) (mem0i : Nat) (mem0o : Nat) (mem0n : Nat) (at1 : Int) (n2 : Int) (G : GH) : Option Res := (C hodmanref8_there.id [.c (.sl 1 mem0i mem0o mem0n), .c (.int .i64 at1), .c (.int .i64 n2)] G).bind fun qr_1 => (((qr_1.1[0]?).bind V1.c?).bind Cell.asB).bind fun qb_2 => bif (!qb_2) then some ([.c (.sl 1 mem0i mem0o mem0n), .c (.bool false)], qr_1.2) else let qG_3 := qr_1.2.alloc (.row [] false); (if mem0n = 0 then some [] else qG_3.lds mem0i mem0o (mem0n * 1)).bind fun qnew_4 => guardK (decide (0 + mem0n ≤ most)) ((qG_3.app qr_1.2.next 0 0 1 mem0n qnew_4).bind fun qp_5 => hodmanref8_Zero.L20 M C at1 n2 qp_5.1 qp_5.2.1 (0 + mem0n) 0 qp_5.2.2)
theorem hodmanref8_Zero.eq (M : Mach) (C : Call) (mem0i : Nat) (mem0o : Nat) (mem0n : Nat) (at1 : Int) (n2 : Int) (G : GH) : runF M C hodmanref8_Zero.d [.c (.sl 1 mem0i mem0o mem0n), .c (.int .i64 at1), .c (.int .i64 n2)] G = hodmanref8_Zero.f M C mem0i mem0o mem0n at1 n2 G := by kernel_rfl

/- 34 hodman/hodmanref8.Count -/
def hodmanref8_Count.c14 : DCode := (.region [⟨0, some 9, .move (.t 4), none⟩,
    ⟨1, some 10, .bin .add .i64 (.t 9) (.k (.c (.int .i64 1))), none⟩,
    ⟨2, some 4, .move (.t 10), none⟩])
def hodmanref8_Count.c16 : DCode := (.seq (.seq (.region [⟨0, some 5, .move (.t 4), none⟩,
    ⟨1, some 6, .move (.t 0), none⟩,
    ⟨2, some 7, .len (.t 6), none⟩,
    ⟨3, some 8, .cmp .lss .i64 (.t 5) (.t 7), none⟩]) (.cond (.t 8) .skip (.exit 0))) (.seq (.block 1 (.seq (.region [⟨0, some 11, .move (.t 0), none⟩,
    ⟨1, some 12, .move (.t 4), none⟩,
    ⟨2, some 13, .iaddr (.t 11) (.t 12) 1, none⟩,
    ⟨3, some 14, .ldG 13 (.c (.bool)), none⟩]) (.cond (.t 14) (.region [⟨0, some 15, .move (.t 3), none⟩,
    ⟨1, some 16, .bin .add .i64 (.t 15) (.k (.c (.int .i64 1))), none⟩,
    ⟨2, some 3, .move (.t 16), none⟩]) .skip))) (.cut [0, 3, 4] hodmanref8_Count.c14)))
def hodmanref8_Count.c17 : DCode := (.loop [0, 3, 4] hodmanref8_Count.c16)
def hodmanref8_Count.c22 : DCode := (.seq (.region [⟨0, some 17, .move (.t 3), none⟩,
    ⟨1, some 2, .move (.t 17), none⟩]) .ret)
def hodmanref8_Count.d : DFn := { ntmps := 18, res := [.t 2], body := (.seq (.region [⟨0, some 2, .move (.k (.c (.int .i64 0))), none⟩]) (.seq (.region [⟨0, some 3, .move (.k (.c (.int .i64 0))), none⟩]) (.seq (.seq (.region [⟨0, some 4, .move (.k (.c (.int .i64 0))), none⟩]) (.block 0 hodmanref8_Count.c17)) hodmanref8_Count.c22))) }
def hodmanref8_Count.k22 (M : Mach) (C : Call) : Kont := execC M.j C (M.ag C) hodmanref8_Count.c22 ({ exits := [], ret := retK hodmanref8_Count.d } : Env) (retK hodmanref8_Count.d)
def hodmanref8_Count.e18 (M : Mach) (C : Call) : Env := { exits := (0, (hodmanref8_Count.k22 M C)) :: (({ exits := [], ret := retK hodmanref8_Count.d } : Env)).exits, ret := (({ exits := [], ret := retK hodmanref8_Count.d } : Env)).ret }
def hodmanref8_Count.L17 (M : Mach) (C : Call) (l0i : Nat) (l0o : Nat) (l0n : Nat) (n3 : Int) (i4 : Int) (G : GH) : Option Res := M.ag C [0, 3, 4] hodmanref8_Count.c16 (hodmanref8_Count.e18 M C) (hodmanref8_Count.k22 M C) [.v (.c (.sl 1 l0i l0o l0n)), .und, .und, .v (.c (.int .i64 n3)), .v (.c (.int .i64 i4)), .und, .und, .und, .und, .und, .und, .und, .und, .und, .und, .und, .und, .und] G
def hodmanref8_Count.k17 (M : Mach) (C : Call) : Kont := fun tm G => M.ag C [0, 3, 4] hodmanref8_Count.c16 (hodmanref8_Count.e18 M C) (hodmanref8_Count.k22 M C) (restr [0, 3, 4] 0 tm) G
def hodmanref8_Count.J14 (M : Mach) (C : Call) (l0i : Nat) (l0o : Nat) (l0n : Nat) (n3 : Int) (i4 : Int) (G : GH) : Option Res := M.j (execC M.j C (M.ag C) hodmanref8_Count.c14 (hodmanref8_Count.e18 M C) (hodmanref8_Count.k17 M C)) [.v (.c (.sl 1 l0i l0o l0n)), .und, .und, .v (.c (.int .i64 n3)), .v (.c (.int .i64 i4)), .und, .und, .und, .und, .und, .und, .und, .und, .und, .und, .und, .und, .und] G
theorem hodmanref8_Count.L17_eq (M : Mach) (C : Call) (l0i : Nat) (l0o : Nat) (l0n : Nat) (n3 : Int) (i4 : Int) (G : GH) : hodmanref8_Count.L17 M C l0i l0o l0n n3 i4 G = (bif decide (i4 < ((l0n : Nat) : Int)) then guardK (decide (0 ≤ i4 ∧ i4 < ((l0n : Nat) : Int))) (((G.ld l0i (l0o + Int.toNat i4 * 1)).bind Cell.asB).bind fun qb_1 => bif qb_1 then hodmanref8_Count.J14 M C l0i l0o l0n (IntKind.i64.wrap (n3 + 1)) i4 G else hodmanref8_Count.J14 M C l0i l0o l0n n3 i4 G) else some ([.c (.int .i64 n3)], G)) := (M.hs _ _ _ _ _ _ _).trans (by kernel_rfl)
theorem hodmanref8_Count.J14_eq (M : Mach) (C : Call) (l0i : Nat) (l0o : Nat) (l0n : Nat) (n3 : Int) (i4 : Int) (G : GH) : hodmanref8_Count.J14 M C l0i l0o l0n n3 i4 G = (hodmanref8_Count.L17 M C l0i l0o l0n n3 (IntKind.i64.wrap (i4 + 1)) G) := (M.hj _ _ _).trans (by kernel_rfl)
def hodmanref8_Count.f (M : Mach) (C : Call) (l0i : Nat) (l0o : Nat) (l0n : Nat) (G : GH) : Option Res := hodmanref8_Count.L17 M C l0i l0o l0n 0 0 G
theorem hodmanref8_Count.eq (M : Mach) (C : Call) (l0i : Nat) (l0o : Nat) (l0n : Nat) (G : GH) : runF M C hodmanref8_Count.d [.c (.sl 1 l0i l0o l0n)] G = hodmanref8_Count.f M C l0i l0o l0n G := by kernel_rfl

/- 74 hodman/calc.Log -/
def calc_Log.c6 : DCode := (.cond (.t 12) (.seq (.region [⟨0, some 2, .move (.k (.c (.int .i64 0))), none⟩,
    ⟨1, some 3, .move (.k (.c (.bool false))), none⟩]) .ret) .skip)
def calc_Log.c17 : DCode := (.seq (.seq (.region [⟨0, some 13, .move (.t 0), none⟩,
    ⟨1, some 14, .cmp .gtr .i64 (.t 13) (.k (.c (.int .i64 1))), none⟩]) (.cond (.t 14) .skip (.exit 0))) (.block 1 (.seq (.region [⟨0, some 15, .move (.t 0), none⟩,
    ⟨1, some 16, .bin .shr .i64 (.t 15) (.k (.c (.int .u64 1))), none⟩,
    ⟨2, some 0, .move (.t 16), none⟩]) (.region [⟨0, some 17, .move (.t 2), none⟩,
    ⟨1, some 18, .bin .add .i64 (.t 17) (.k (.c (.int .i64 1))), none⟩,
    ⟨2, some 2, .move (.t 18), none⟩]))))
def calc_Log.c22 : DCode := (.seq (.region [⟨0, some 19, .move (.t 2), none⟩,
    ⟨1, some 2, .move (.t 19), none⟩,
    ⟨2, some 3, .move (.k (.c (.bool true))), none⟩]) .ret)
def calc_Log.c23 : DCode := (.seq (.block 0 (.loop [0, 2] calc_Log.c17)) calc_Log.c22)
def calc_Log.d : DFn := { ntmps := 20, res := [.t 2, .t 3], body := (.seq (.region [⟨0, some 2, .move (.k (.c (.int .i64 0))), none⟩,
    ⟨1, some 3, .move (.k (.c (.bool false))), none⟩]) (.seq (.seq (.region [⟨0, some 4, .move (.t 0), none⟩,
    ⟨1, some 5, .cmp .lss .i64 (.t 4) (.k (.c (.int .i64 1))), none⟩,
    ⟨2, some 6, .move (.t 5), none⟩,
    ⟨3, some 7, .move (.t 0), some (6, false)⟩,
    ⟨4, some 8, .move (.t 0), some (6, false)⟩,
    ⟨5, some 9, .bin .sub .i64 (.t 8) (.k (.c (.int .i64 1))), some (6, false)⟩,
    ⟨6, some 10, .bin .and .i64 (.t 7) (.t 9), some (6, false)⟩,
    ⟨7, some 11, .cmp .neq .i64 (.t 10) (.k (.c (.int .i64 0))), some (6, false)⟩,
    ⟨8, some 12, .pick (.t 6) (.k (.c (.bool true))) (.t 11), none⟩]) (.cut [0, 2, 12] calc_Log.c6)) calc_Log.c23)) }
def calc_Log.k23 (M : Mach) (C : Call) : Kont := execC M.j C (M.ag C) calc_Log.c23 ({ exits := [], ret := retK calc_Log.d } : Env) (retK calc_Log.d)
def calc_Log.J6 (M : Mach) (C : Call) (v0 : Int) (n2 : Int) (t12 : Bool) (G : GH) : Option Res := M.j (execC M.j C (M.ag C) calc_Log.c6 ({ exits := [], ret := retK calc_Log.d } : Env) (calc_Log.k23 M C)) [.v (.c (.int .i64 v0)), .und, .v (.c (.int .i64 n2)), .und, .und, .und, .und, .und, .und, .und, .und, .und, .v (.c (.bool t12)), .und, .und, .und, .und, .und, .und, .und] G
def calc_Log.k22 (M : Mach) (C : Call) : Kont := execC M.j C (M.ag C) calc_Log.c22 ({ exits := [], ret := retK calc_Log.d } : Env) (retK calc_Log.d)
def calc_Log.e19 (M : Mach) (C : Call) : Env := { exits := (0, (calc_Log.k22 M C)) :: (({ exits := [], ret := retK calc_Log.d } : Env)).exits, ret := (({ exits := [], ret := retK calc_Log.d } : Env)).ret }
def calc_Log.L18 (M : Mach) (C : Call) (v0 : Int) (n2 : Int) (G : GH) : Option Res := M.ag C [0, 2] calc_Log.c17 (calc_Log.e19 M C) (calc_Log.k22 M C) [.v (.c (.int .i64 v0)), .und, .v (.c (.int .i64 n2)), .und, .und, .und, .und, .und, .und, .und, .und, .und, .und, .und, .und, .und, .und, .und, .und, .und] G
theorem calc_Log.J6_eq (M : Mach) (C : Call) (v0 : Int) (n2 : Int) (t12 : Bool) (G : GH) : calc_Log.J6 M C v0 n2 t12 G = (bif t12 then some ([.c (.int .i64 0), .c (.bool false)], G) else calc_Log.L18 M C v0 n2 G) := (M.hj _ _ _).trans (by kernel_rfl)
theorem calc_Log.L18_eq (M : Mach) (C : Call) (v0 : Int) (n2 : Int) (G : GH) : calc_Log.L18 M C v0 n2 G = (bif decide (v0 > 1) then calc_Log.L18 M C (Int.fdiv v0 (2 ^ (min (1 : Int).toNat IntKind.i64.bits))) (IntKind.i64.wrap (n2 + 1)) G else some ([.c (.int .i64 n2), .c (.bool true)], G)) := (M.hs _ _ _ _ _ _ _).trans (by kernel_rfl)
def calc_Log.f (M : Mach) (C : Call) (v0 : Int) (G : GH) : Option Res := bif decide (v0 < 1) then calc_Log.J6 M C v0 0 true G else calc_Log.J6 M C v0 0 (!decide (IntKind.i64.wrap (((BitVec.ofInt IntKind.i64.bits v0) &&& (BitVec.ofInt IntKind.i64.bits (IntKind.i64.wrap (v0 - 1)))).toNat : Int) = 0)) G
theorem calc_Log.eq (M : Mach) (C : Call) (v0 : Int) (G : GH) : runF M C calc_Log.d [.c (.int .i64 v0)] G = calc_Log.f M C v0 G := by kernel_rfl

/- 44 hodman/hodmanref1.Log -/
def hodmanref1_Log.c22 : DCode := (.region [⟨0, some 8, .move (.t 5), none⟩,
    ⟨1, some 9, .bin .add .i64 (.t 8) (.k (.c (.int .i64 1))), none⟩,
    ⟨2, some 5, .move (.t 9), none⟩])
def hodmanref1_Log.c24 : DCode := (.seq (.seq (.region [⟨0, some 6, .move (.t 5), none⟩,
    ⟨1, some 7, .cmp .lss .i64 (.t 6) (.k (.c (.int .i64 63))), none⟩]) (.cond (.t 7) .skip (.exit 0))) (.seq (.block 1 (.seq (.seq (.region [⟨0, some 10, .move (.t 4), none⟩,
    ⟨1, some 11, .move (.t 0), none⟩,
    ⟨2, some 12, .cmp .eql .i64 (.t 10) (.t 11), none⟩]) (.cond (.t 12) (.seq (.region [⟨0, some 13, .move (.t 5), none⟩,
    ⟨1, some 2, .move (.t 13), none⟩,
    ⟨2, some 3, .move (.k (.c (.bool true))), none⟩]) .ret) .skip)) (.seq (.region [⟨0, some 14, .move (.t 5), none⟩,
    ⟨1, some 15, .cmp .lss .i64 (.t 14) (.k (.c (.int .i64 62))), none⟩]) (.cond (.t 15) (.region [⟨0, some 16, .move (.t 4), none⟩,
    ⟨1, some 17, .bin .mul .i64 (.t 16) (.k (.c (.int .i64 2))), none⟩,
    ⟨2, some 4, .move (.t 17), none⟩]) .skip)))) (.cut [0, 4, 5] hodmanref1_Log.c22)))
def hodmanref1_Log.c25 : DCode := (.loop [0, 4, 5] hodmanref1_Log.c24)
def hodmanref1_Log.c30 : DCode := (.seq (.region [⟨0, some 2, .move (.k (.c (.int .i64 0))), none⟩,
    ⟨1, some 3, .move (.k (.c (.bool false))), none⟩]) .ret)
def hodmanref1_Log.d : DFn := { ntmps := 18, res := [.t 2, .t 3], body := (.seq (.region [⟨0, some 2, .move (.k (.c (.int .i64 0))), none⟩,
    ⟨1, some 3, .move (.k (.c (.bool false))), none⟩]) (.seq (.region [⟨0, some 4, .move (.k (.c (.int .i64 1))), none⟩]) (.seq (.seq (.region [⟨0, some 5, .move (.k (.c (.int .i64 0))), none⟩]) (.block 0 hodmanref1_Log.c25)) hodmanref1_Log.c30))) }
def hodmanref1_Log.k30 (M : Mach) (C : Call) : Kont := execC M.j C (M.ag C) hodmanref1_Log.c30 ({ exits := [], ret := retK hodmanref1_Log.d } : Env) (retK hodmanref1_Log.d)
def hodmanref1_Log.e26 (M : Mach) (C : Call) : Env := { exits := (0, (hodmanref1_Log.k30 M C)) :: (({ exits := [], ret := retK hodmanref1_Log.d } : Env)).exits, ret := (({ exits := [], ret := retK hodmanref1_Log.d } : Env)).ret }
def hodmanref1_Log.L25 (M : Mach) (C : Call) (v0 : Int) (p4 : Int) (n5 : Int) (G : GH) : Option Res := M.ag C [0, 4, 5] hodmanref1_Log.c24 (hodmanref1_Log.e26 M C) (hodmanref1_Log.k30 M C) [.v (.c (.int .i64 v0)), .und, .und, .und, .v (.c (.int .i64 p4)), .v (.c (.int .i64 n5)), .und, .und, .und, .und, .und, .und, .und, .und, .und, .und, .und, .und] G
def hodmanref1_Log.k25 (M : Mach) (C : Call) : Kont := fun tm G => M.ag C [0, 4, 5] hodmanref1_Log.c24 (hodmanref1_Log.e26 M C) (hodmanref1_Log.k30 M C) (restr [0, 4, 5] 0 tm) G
def hodmanref1_Log.J22 (M : Mach) (C : Call) (v0 : Int) (p4 : Int) (n5 : Int) (G : GH) : Option Res := M.j (execC M.j C (M.ag C) hodmanref1_Log.c22 (hodmanref1_Log.e26 M C) (hodmanref1_Log.k25 M C)) [.v (.c (.int .i64 v0)), .und, .und, .und, .v (.c (.int .i64 p4)), .v (.c (.int .i64 n5)), .und, .und, .und, .und, .und, .und, .und, .und, .und, .und, .und, .und] G
theorem hodmanref1_Log.L25_eq (M : Mach) (C : Call) (v0 : Int) (p4 : Int) (n5 : Int) (G : GH) : hodmanref1_Log.L25 M C v0 p4 n5 G = (bif decide (n5 < 63) then bif decide (p4 = v0) then some ([.c (.int .i64 n5), .c (.bool true)], G) else bif decide (n5 < 62) then hodmanref1_Log.J22 M C v0 (IntKind.i64.wrap (p4 * 2)) n5 G else hodmanref1_Log.J22 M C v0 p4 n5 G else some ([.c (.int .i64 0), .c (.bool false)], G)) := (M.hs _ _ _ _ _ _ _).trans (by kernel_rfl)
theorem hodmanref1_Log.J22_eq (M : Mach) (C : Call) (v0 : Int) (p4 : Int) (n5 : Int) (G : GH) : hodmanref1_Log.J22 M C v0 p4 n5 G = (hodmanref1_Log.L25 M C v0 p4 (IntKind.i64.wrap (n5 + 1)) G) := (M.hj _ _ _).trans (by kernel_rfl)
def hodmanref1_Log.f (M : Mach) (C : Call) (v0 : Int) (G : GH) : Option Res := hodmanref1_Log.L25 M C v0 1 0 G
theorem hodmanref1_Log.eq (M : Mach) (C : Call) (v0 : Int) (G : GH) : runF M C hodmanref1_Log.d [.c (.int .i64 v0)] G = hodmanref1_Log.f M C v0 G := by kernel_rfl

/- 42 hodman/hodmanref1.Up -/
def hodmanref1_Up.c6 : DCode := (.cond (.t 10) (.seq (.region [⟨0, some 2, .move (.k (.c (.int .i64 0))), none⟩,
    ⟨1, some 3, .move (.k (.c (.bool false))), none⟩]) .ret) .skip)
def hodmanref1_Up.c16 : DCode := (.seq (.seq (.region [⟨0, some 11, .move (.t 4), none⟩,
    ⟨1, some 12, .move (.t 0), none⟩,
    ⟨2, some 13, .cmp .lss .i64 (.t 11) (.t 12), none⟩]) (.cond (.t 13) .skip (.exit 0))) (.block 1 (.region [⟨0, some 14, .move (.t 4), none⟩,
    ⟨1, some 15, .bin .mul .i64 (.t 14) (.k (.c (.int .i64 2))), none⟩,
    ⟨2, some 4, .move (.t 15), none⟩])))
def hodmanref1_Up.c21 : DCode := (.seq (.region [⟨0, some 16, .move (.t 4), none⟩,
    ⟨1, some 2, .move (.t 16), none⟩,
    ⟨2, some 3, .move (.k (.c (.bool true))), none⟩]) .ret)
def hodmanref1_Up.c23 : DCode := (.seq (.region [⟨0, some 4, .move (.k (.c (.int .i64 1))), none⟩]) (.seq (.block 0 (.loop [0, 4] hodmanref1_Up.c16)) hodmanref1_Up.c21))
def hodmanref1_Up.d : DFn := { ntmps := 17, res := [.t 2, .t 3], body := (.seq (.region [⟨0, some 2, .move (.k (.c (.int .i64 0))), none⟩,
    ⟨1, some 3, .move (.k (.c (.bool false))), none⟩]) (.seq (.seq (.region [⟨0, some 5, .move (.t 0), none⟩,
    ⟨1, some 6, .cmp .lss .i64 (.t 5) (.k (.c (.int .i64 1))), none⟩,
    ⟨2, some 7, .move (.t 6), none⟩,
    ⟨3, some 8, .move (.t 0), some (7, false)⟩,
    ⟨4, some 9, .cmp .gtr .i64 (.t 8) (.k (.c (.int .i64 4611686018427387904))), some (7, false)⟩,
    ⟨5, some 10, .pick (.t 7) (.k (.c (.bool true))) (.t 9), none⟩]) (.cut [0, 10] hodmanref1_Up.c6)) hodmanref1_Up.c23)) }
def hodmanref1_Up.k23 (M : Mach) (C : Call) : Kont := execC M.j C (M.ag C) hodmanref1_Up.c23 ({ exits := [], ret := retK hodmanref1_Up.d } : Env) (retK hodmanref1_Up.d)
def hodmanref1_Up.J6 (M : Mach) (C : Call) (v0 : Int) (t10 : Bool) (G : GH) : Option Res := M.j (execC M.j C (M.ag C) hodmanref1_Up.c6 ({ exits := [], ret := retK hodmanref1_Up.d } : Env) (hodmanref1_Up.k23 M C)) [.v (.c (.int .i64 v0)), .und, .und, .und, .und, .und, .und, .und, .und, .und, .v (.c (.bool t10)), .und, .und, .und, .und, .und, .und] G
def hodmanref1_Up.k21 (M : Mach) (C : Call) : Kont := execC M.j C (M.ag C) hodmanref1_Up.c21 ({ exits := [], ret := retK hodmanref1_Up.d } : Env) (retK hodmanref1_Up.d)
def hodmanref1_Up.e18 (M : Mach) (C : Call) : Env := { exits := (0, (hodmanref1_Up.k21 M C)) :: (({ exits := [], ret := retK hodmanref1_Up.d } : Env)).exits, ret := (({ exits := [], ret := retK hodmanref1_Up.d } : Env)).ret }
def hodmanref1_Up.L17 (M : Mach) (C : Call) (v0 : Int) (p4 : Int) (G : GH) : Option Res := M.ag C [0, 4] hodmanref1_Up.c16 (hodmanref1_Up.e18 M C) (hodmanref1_Up.k21 M C) [.v (.c (.int .i64 v0)), .und, .und, .und, .v (.c (.int .i64 p4)), .und, .und, .und, .und, .und, .und, .und, .und, .und, .und, .und, .und] G
theorem hodmanref1_Up.J6_eq (M : Mach) (C : Call) (v0 : Int) (t10 : Bool) (G : GH) : hodmanref1_Up.J6 M C v0 t10 G = (bif t10 then some ([.c (.int .i64 0), .c (.bool false)], G) else hodmanref1_Up.L17 M C v0 1 G) := (M.hj _ _ _).trans (by kernel_rfl)
theorem hodmanref1_Up.L17_eq (M : Mach) (C : Call) (v0 : Int) (p4 : Int) (G : GH) : hodmanref1_Up.L17 M C v0 p4 G = (bif decide (p4 < v0) then hodmanref1_Up.L17 M C v0 (IntKind.i64.wrap (p4 * 2)) G else some ([.c (.int .i64 p4), .c (.bool true)], G)) := (M.hs _ _ _ _ _ _ _).trans (by kernel_rfl)
def hodmanref1_Up.f (M : Mach) (C : Call) (v0 : Int) (G : GH) : Option Res := bif decide (v0 < 1) then hodmanref1_Up.J6 M C v0 true G else hodmanref1_Up.J6 M C v0 (decide (v0 > 4611686018427387904)) G
theorem hodmanref1_Up.eq (M : Mach) (C : Call) (v0 : Int) (G : GH) : runF M C hodmanref1_Up.d [.c (.int .i64 v0)] G = hodmanref1_Up.f M C v0 G := by kernel_rfl

/- 61 hodman/hodmanref1.Add -/
def hodmanref1_Add.c6 : DCode := (.cond (.t 23) (.seq (.region [⟨0, some 4, .move (.k (.c (.int .i64 0))), none⟩,
    ⟨1, some 5, .move (.k (.c (.bool false))), none⟩]) .ret) .skip)
def hodmanref1_Add.c10 : DCode := (.seq (.region [⟨0, some 24, .move (.t 0), none⟩,
    ⟨1, some 25, .move (.t 1), none⟩,
    ⟨2, some 26, .bin .add .i64 (.t 24) (.t 25), none⟩,
    ⟨3, some 4, .move (.t 26), none⟩,
    ⟨4, some 5, .move (.k (.c (.bool true))), none⟩]) .ret)
def hodmanref1_Add.d : DFn := { ntmps := 27, res := [.t 4, .t 5], body := (.seq (.region [⟨0, some 4, .move (.k (.c (.int .i64 0))), none⟩,
    ⟨1, some 5, .move (.k (.c (.bool false))), none⟩]) (.seq (.seq (.region [⟨0, some 6, .move (.t 1), none⟩,
    ⟨1, some 7, .cmp .gtr .i64 (.t 6) (.k (.c (.int .i64 0))), none⟩,
    ⟨2, some 8, .move (.t 7), none⟩,
    ⟨3, some 9, .move (.t 0), some (8, true)⟩,
    ⟨4, some 10, .move (.t 1), some (8, true)⟩,
    ⟨5, some 11, .bin .sub .i64 (.k (.c (.int .i64 9223372036854775807))) (.t 10), some (8, true)⟩,
    ⟨6, some 12, .cmp .gtr .i64 (.t 9) (.t 11), some (8, true)⟩,
    ⟨7, some 13, .pick (.t 8) (.t 12) (.k (.c (.bool false))), none⟩,
    ⟨8, some 14, .move (.t 13), none⟩,
    ⟨9, some 15, .move (.t 1), some (14, false)⟩,
    ⟨10, some 16, .cmp .lss .i64 (.t 15) (.k (.c (.int .i64 0))), some (14, false)⟩,
    ⟨11, some 17, .move (.t 16), some (14, false)⟩,
    ⟨12, some 18, .move (.t 0), some (17, true)⟩,
    ⟨13, some 19, .move (.t 1), some (17, true)⟩,
    ⟨14, some 20, .bin .sub .i64 (.k (.c (.int .i64 (-9223372036854775808)))) (.t 19), some (17, true)⟩,
    ⟨15, some 21, .cmp .lss .i64 (.t 18) (.t 20), some (17, true)⟩,
    ⟨16, some 22, .pick (.t 17) (.t 21) (.k (.c (.bool false))), some (14, false)⟩,
    ⟨17, some 23, .pick (.t 14) (.k (.c (.bool true))) (.t 22), none⟩]) (.cut [0, 1, 23] hodmanref1_Add.c6)) hodmanref1_Add.c10)) }
def hodmanref1_Add.k10 (M : Mach) (C : Call) : Kont := execC M.j C (M.ag C) hodmanref1_Add.c10 ({ exits := [], ret := retK hodmanref1_Add.d } : Env) (retK hodmanref1_Add.d)
def hodmanref1_Add.J6 (M : Mach) (C : Call) (a0 : Int) (b1 : Int) (t23 : Bool) (G : GH) : Option Res := M.j (execC M.j C (M.ag C) hodmanref1_Add.c6 ({ exits := [], ret := retK hodmanref1_Add.d } : Env) (hodmanref1_Add.k10 M C)) [.v (.c (.int .i64 a0)), .v (.c (.int .i64 b1)), .und, .und, .und, .und, .und, .und, .und, .und, .und, .und, .und, .und, .und, .und, .und, .und, .und, .und, .und, .und, .und, .v (.c (.bool t23)), .und, .und, .und] G
theorem hodmanref1_Add.J6_eq (M : Mach) (C : Call) (a0 : Int) (b1 : Int) (t23 : Bool) (G : GH) : hodmanref1_Add.J6 M C a0 b1 t23 G = (bif t23 then some ([.c (.int .i64 0), .c (.bool false)], G) else some ([.c (.int .i64 (IntKind.i64.wrap (a0 + b1))), .c (.bool true)], G)) := (M.hj _ _ _).trans (by kernel_rfl)
def hodmanref1_Add.f (M : Mach) (C : Call) (a0 : Int) (b1 : Int) (G : GH) : Option Res := bif decide (b1 > 0) then bif decide (a0 > IntKind.i64.wrap (9223372036854775807 - b1)) then hodmanref1_Add.J6 M C a0 b1 true G else bif decide (b1 < 0) then hodmanref1_Add.J6 M C a0 b1 (decide (a0 < IntKind.i64.wrap ((-9223372036854775808) - b1))) G else hodmanref1_Add.J6 M C a0 b1 false G else bif decide (b1 < 0) then hodmanref1_Add.J6 M C a0 b1 (decide (a0 < IntKind.i64.wrap ((-9223372036854775808) - b1))) G else hodmanref1_Add.J6 M C a0 b1 false G
theorem hodmanref1_Add.eq (M : Mach) (C : Call) (a0 : Int) (b1 : Int) (G : GH) : runF M C hodmanref1_Add.d [.c (.int .i64 a0), .c (.int .i64 b1)] G = hodmanref1_Add.f M C a0 b1 G := by kernel_rfl

/- 43 hodman/hodmanref1.Round -/
def hodmanref1_Round.c6 : DCode := (.cond (.t 11) (.seq (.region [⟨0, some 4, .move (.k (.c (.int .i64 0))), none⟩,
    ⟨1, some 5, .move (.k (.c (.bool false))), none⟩]) .ret) .skip)
def hodmanref1_Round.c18 : DCode := (.seq (.seq (.region [⟨0, some 12, .move (.t 0), none⟩,
    ⟨1, some 13, .move (.t 1), none⟩,
    ⟨2, some 14, .bin .rem .i64 (.t 12) (.t 13), none⟩,
    ⟨3, some 15, .cmp .eql .i64 (.t 14) (.k (.c (.int .i64 0))), none⟩]) (.cond (.t 15) (.seq (.region [⟨0, some 16, .move (.t 0), none⟩,
    ⟨1, some 4, .move (.t 16), none⟩,
    ⟨2, some 5, .move (.k (.c (.bool true))), none⟩]) .ret) .skip)) (.seq (.region [⟨0, some 17, .move (.t 0), none⟩,
    ⟨1, some 18, .move (.t 0), none⟩,
    ⟨2, some 19, .move (.t 1), none⟩,
    ⟨3, some 20, .bin .rem .i64 (.t 18) (.t 19), none⟩,
    ⟨4, some 21, .bin .sub .i64 (.t 17) (.t 20), none⟩,
    ⟨5, some 22, .move (.t 1), none⟩,
    ⟨6, some 23, .call 61 [.t 21, .t 22] [.c (.int .i64), .c (.bool)], none⟩,
    ⟨7, some 24, .ext 23 0, none⟩,
    ⟨8, some 25, .ext 23 1, none⟩,
    ⟨9, some 4, .move (.t 24), none⟩,
    ⟨10, some 5, .move (.t 25), none⟩]) .ret))
def hodmanref1_Round.d : DFn := { ntmps := 26, res := [.t 4, .t 5], body := (.seq (.region [⟨0, some 4, .move (.k (.c (.int .i64 0))), none⟩,
    ⟨1, some 5, .move (.k (.c (.bool false))), none⟩]) (.seq (.seq (.region [⟨0, some 6, .move (.t 0), none⟩,
    ⟨1, some 7, .cmp .lss .i64 (.t 6) (.k (.c (.int .i64 0))), none⟩,
    ⟨2, some 8, .move (.t 7), none⟩,
    ⟨3, some 9, .move (.t 1), some (8, false)⟩,
    ⟨4, some 10, .cmp .lss .i64 (.t 9) (.k (.c (.int .i64 1))), some (8, false)⟩,
    ⟨5, some 11, .pick (.t 8) (.k (.c (.bool true))) (.t 10), none⟩]) (.cut [0, 1, 11] hodmanref1_Round.c6)) hodmanref1_Round.c18)) }
def hodmanref1_Round.k18 (M : Mach) (C : Call) : Kont := execC M.j C (M.ag C) hodmanref1_Round.c18 ({ exits := [], ret := retK hodmanref1_Round.d } : Env) (retK hodmanref1_Round.d)
def hodmanref1_Round.J6 (M : Mach) (C : Call) (v0 : Int) (to1 : Int) (t11 : Bool) (G : GH) : Option Res := M.j (execC M.j C (M.ag C) hodmanref1_Round.c6 ({ exits := [], ret := retK hodmanref1_Round.d } : Env) (hodmanref1_Round.k18 M C)) [.v (.c (.int .i64 v0)), .v (.c (.int .i64 to1)), .und, .und, .und, .und, .und, .und, .und, .und, .und, .v (.c (.bool t11)), .und, .und, .und, .und, .und, .und, .und, .und, .und, .und, .und, .und, .und, .und] G
theorem hodmanref1_Round.J6_eq (M : Mach) (C : Call) (v0 : Int) (to1 : Int) (t11 : Bool) (G : GH) : hodmanref1_Round.J6 M C v0 to1 t11 G = (bif t11 then some ([.c (.int .i64 0), .c (.bool false)], G) else (binD .rem .i64 v0 to1).bind fun qx_1 => bif decide (qx_1 = 0) then some ([.c (.int .i64 v0), .c (.bool true)], G) else (binD .rem .i64 v0 to1).bind fun qx_2 => (C hodmanref1_Add.id [.c (.int .i64 (IntKind.i64.wrap (v0 - qx_2))), .c (.int .i64 to1)] G).bind fun qr_3 => (((qr_3.1[0]?).bind V1.c?).bind (Cell.asI .i64)).bind fun qx_4 => (((qr_3.1[1]?).bind V1.c?).bind Cell.asB).bind fun qb_5 => some ([.c (.int .i64 qx_4), .c (.bool qb_5)], qr_3.2)) := (M.hj _ _ _).trans (by kernel_rfl)
def hodmanref1_Round.f (M : Mach) (C : Call) (v0 : Int) (to1 : Int) (G : GH) : Option Res := bif decide (v0 < 0) then hodmanref1_Round.J6 M C v0 to1 true G else hodmanref1_Round.J6 M C v0 to1 (decide (to1 < 1)) G
theorem hodmanref1_Round.eq (M : Mach) (C : Call) (v0 : Int) (to1 : Int) (G : GH) : runF M C hodmanref1_Round.d [.c (.int .i64 v0), .c (.int .i64 to1)] G = hodmanref1_Round.f M C v0 to1 G := by kernel_rfl

/- 75 hodman/calc.Up -/
def calc_Up.c6 : DCode := (.cond (.t 10) (.seq (.region [⟨0, some 2, .move (.k (.c (.int .i64 0))), none⟩,
    ⟨1, some 3, .move (.k (.c (.bool false))), none⟩]) .ret) .skip)
def calc_Up.c16 : DCode := (.seq (.seq (.region [⟨0, some 11, .move (.t 4), none⟩,
    ⟨1, some 12, .move (.t 0), none⟩,
    ⟨2, some 13, .cmp .lss .i64 (.t 11) (.t 12), none⟩]) (.cond (.t 13) .skip (.exit 0))) (.block 1 (.region [⟨0, some 14, .move (.t 4), none⟩,
    ⟨1, some 15, .bin .shl .i64 (.t 14) (.k (.c (.int .u64 1))), none⟩,
    ⟨2, some 4, .move (.t 15), none⟩])))
def calc_Up.c21 : DCode := (.seq (.region [⟨0, some 16, .move (.t 4), none⟩,
    ⟨1, some 2, .move (.t 16), none⟩,
    ⟨2, some 3, .move (.k (.c (.bool true))), none⟩]) .ret)
def calc_Up.c23 : DCode := (.seq (.region [⟨0, some 4, .move (.k (.c (.int .i64 1))), none⟩]) (.seq (.block 0 (.loop [0, 4] calc_Up.c16)) calc_Up.c21))
def calc_Up.d : DFn := { ntmps := 17, res := [.t 2, .t 3], body := (.seq (.region [⟨0, some 2, .move (.k (.c (.int .i64 0))), none⟩,
    ⟨1, some 3, .move (.k (.c (.bool false))), none⟩]) (.seq (.seq (.region [⟨0, some 5, .move (.t 0), none⟩,
    ⟨1, some 6, .cmp .lss .i64 (.t 5) (.k (.c (.int .i64 1))), none⟩,
    ⟨2, some 7, .move (.t 6), none⟩,
    ⟨3, some 8, .move (.t 0), some (7, false)⟩,
    ⟨4, some 9, .cmp .gtr .i64 (.t 8) (.k (.c (.int .i64 4611686018427387904))), some (7, false)⟩,
    ⟨5, some 10, .pick (.t 7) (.k (.c (.bool true))) (.t 9), none⟩]) (.cut [0, 10] calc_Up.c6)) calc_Up.c23)) }
def calc_Up.k23 (M : Mach) (C : Call) : Kont := execC M.j C (M.ag C) calc_Up.c23 ({ exits := [], ret := retK calc_Up.d } : Env) (retK calc_Up.d)
def calc_Up.J6 (M : Mach) (C : Call) (v0 : Int) (t10 : Bool) (G : GH) : Option Res := M.j (execC M.j C (M.ag C) calc_Up.c6 ({ exits := [], ret := retK calc_Up.d } : Env) (calc_Up.k23 M C)) [.v (.c (.int .i64 v0)), .und, .und, .und, .und, .und, .und, .und, .und, .und, .v (.c (.bool t10)), .und, .und, .und, .und, .und, .und] G
def calc_Up.k21 (M : Mach) (C : Call) : Kont := execC M.j C (M.ag C) calc_Up.c21 ({ exits := [], ret := retK calc_Up.d } : Env) (retK calc_Up.d)
def calc_Up.e18 (M : Mach) (C : Call) : Env := { exits := (0, (calc_Up.k21 M C)) :: (({ exits := [], ret := retK calc_Up.d } : Env)).exits, ret := (({ exits := [], ret := retK calc_Up.d } : Env)).ret }
def calc_Up.L17 (M : Mach) (C : Call) (v0 : Int) (p4 : Int) (G : GH) : Option Res := M.ag C [0, 4] calc_Up.c16 (calc_Up.e18 M C) (calc_Up.k21 M C) [.v (.c (.int .i64 v0)), .und, .und, .und, .v (.c (.int .i64 p4)), .und, .und, .und, .und, .und, .und, .und, .und, .und, .und, .und, .und] G
theorem calc_Up.J6_eq (M : Mach) (C : Call) (v0 : Int) (t10 : Bool) (G : GH) : calc_Up.J6 M C v0 t10 G = (bif t10 then some ([.c (.int .i64 0), .c (.bool false)], G) else calc_Up.L17 M C v0 1 G) := (M.hj _ _ _).trans (by kernel_rfl)
theorem calc_Up.L17_eq (M : Mach) (C : Call) (v0 : Int) (p4 : Int) (G : GH) : calc_Up.L17 M C v0 p4 G = (bif decide (p4 < v0) then calc_Up.L17 M C v0 (IntKind.i64.wrap (p4 * 2 ^ (min (1 : Int).toNat IntKind.i64.bits))) G else some ([.c (.int .i64 p4), .c (.bool true)], G)) := (M.hs _ _ _ _ _ _ _).trans (by kernel_rfl)
def calc_Up.f (M : Mach) (C : Call) (v0 : Int) (G : GH) : Option Res := bif decide (v0 < 1) then calc_Up.J6 M C v0 true G else calc_Up.J6 M C v0 (decide (v0 > 4611686018427387904)) G
theorem calc_Up.eq (M : Mach) (C : Call) (v0 : Int) (G : GH) : runF M C calc_Up.d [.c (.int .i64 v0)] G = calc_Up.f M C v0 G := by kernel_rfl

/- 53 hodman/hodmanref1.Anew -/
def hodmanref1_Anew.d : DFn := { ntmps := 19, res := [.t 8, .t 9], body := (.seq (.region [⟨0, some 4, .boxv 18 [] (.t 0) 8, none⟩,
    ⟨1, some 8, .move (.k (.c (.int .i64 0))), none⟩,
    ⟨2, some 9, .move (.k (.c (.int .i64 0))), none⟩]) (.seq (.region [⟨0, some 10, .ldL 4 18 (.agg [.int .i64, .int .i64, .int .i64, .int .i64, .int .i64, .int .i64, .int .i64, .int .i64]), none⟩,
    ⟨1, some 11, .move (.t 1), none⟩,
    ⟨2, some 12, .move (.t 2), none⟩,
    ⟨3, some 13, .bin .sub .i64 (.t 11) (.t 12), none⟩,
    ⟨4, some 14, .move (.t 3), none⟩,
    ⟨5, some 15, .call 48 [.t 10, .t 13, .t 14, .k (.c (.int .i64 1))] [.c (.int .i64), .c (.int .i64)], none⟩,
    ⟨6, some 16, .ext 15 0, none⟩,
    ⟨7, some 17, .ext 15 1, none⟩,
    ⟨8, some 8, .move (.t 16), none⟩,
    ⟨9, some 9, .move (.t 17), none⟩]) .ret)) }
def hodmanref1_Anew.f (M : Mach) (C : Call) (c0_0 : Int) (c0_1 : Int) (c0_2 : Int) (c0_3 : Int) (c0_4 : Int) (c0_5 : Int) (c0_6 : Int) (c0_7 : Int) (live1 : Int) (old2 : Int) (s3 : Int) (G : GH) : Option Res := (C hodmanref1_New.id [.agg [.int .i64 c0_0, .int .i64 c0_1, .int .i64 c0_2, .int .i64 c0_3, .int .i64 c0_4, .int .i64 c0_5, .int .i64 c0_6, .int .i64 c0_7], .c (.int .i64 (IntKind.i64.wrap (live1 - old2))), .c (.int .i64 s3), .c (.int .i64 1)] G).bind fun qr_1 => (((qr_1.1[0]?).bind V1.c?).bind (Cell.asI .i64)).bind fun qx_2 => (((qr_1.1[1]?).bind V1.c?).bind (Cell.asI .i64)).bind fun qx_3 => some ([.c (.int .i64 qx_2), .c (.int .i64 qx_3)], qr_1.2)
theorem hodmanref1_Anew.eq (M : Mach) (C : Call) (c0_0 : Int) (c0_1 : Int) (c0_2 : Int) (c0_3 : Int) (c0_4 : Int) (c0_5 : Int) (c0_6 : Int) (c0_7 : Int) (live1 : Int) (old2 : Int) (s3 : Int) (G : GH) : runF M C hodmanref1_Anew.d [.agg [.int .i64 c0_0, .int .i64 c0_1, .int .i64 c0_2, .int .i64 c0_3, .int .i64 c0_4, .int .i64 c0_5, .int .i64 c0_6, .int .i64 c0_7], .c (.int .i64 live1), .c (.int .i64 old2), .c (.int .i64 s3)] G = hodmanref1_Anew.f M C c0_0 c0_1 c0_2 c0_3 c0_4 c0_5 c0_6 c0_7 live1 old2 s3 G := by kernel_rfl
end Go.Proofs.D
