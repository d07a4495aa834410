-- Written by a program of this project (a patched copy of the print): the machine's side of a law. Lean checks it.
import Derived.Test.YtikonphhbfilfaaPCalcFormsx0
import Derived.Test.YtikonphhbfilfaaPCalcFormsx1
namespace Go.Proofs.Ytikonphhbfilfaa.PCalcForms
open Go.RowKit Go.Proofs.YtikonphhbfilfaaW.PrintWords Go.Proofs.YtikonphhbfilfaaW.PrintLast Go.Proofs.YtikonphhbfilfaaW.PrintMore
attribute [local go_sem] max2_int min2_int max_two min_two max_three min_three max_four min_four   -- for this text's walks alone
set_option linter.unusedVariables false
set_option linter.unusedSimpArgs false

/-! ### hodmanlaw1_begun: function 10 -/
def hodmanlaw1_begun.f (k : Nat)  : Option (Bool) := (calc_Add.f 2 3).bind fun bt103 => ((calc_Mul.f k 2 3).bind fun bt105 => ((calc_Up.f k 5).bind fun bt107 => ((calc_Log.f k 8).bind fun bt109 => ((calc_Round.f k 5 4).bind fun bt111 => ((calc_Add.f 4611686018427387904 4611686018427387904).bind fun bt113 => (if bt103.1 = 5 then (if bt103.2 = true then (if bt105.1 = 6 then (if bt105.2 = true then (if bt107.1 = 8 then (if bt107.2 = true then (if bt109.1 = 3 then (if bt109.2 = true then (if bt111.1 = 8 then (if bt111.2 = true then (some (!bt113.2)) else (some false)) else (some false)) else (some false)) else (some false)) else (some false)) else (some false)) else (some false)) else (some false)) else (some false)) else (some false)))))))
theorem hodmanlaw1_begun.mono : ∀ k, LeO (hodmanlaw1_begun.f k ) (hodmanlaw1_begun.f (k + 1) ) := by
  intro  k
  unfold hodmanlaw1_begun.f
  repeat' first
      | (with_reducible exact calc_Log.mono _ _)
      | (with_reducible exact calc_Mul.mono _ _ _)
      | (with_reducible exact calc_Round.mono _ _ _)
      | (with_reducible exact calc_Up.mono _ _)
      | (with_reducible exact LeO.refl _)
      | (with_reducible exact LeO.none _)
      | (with_reducible refine LeO.ite ?_ ?_)
      | (with_reducible refine LeO.bind ?_ (fun _ => ?_))
      | exact calc_Log.mono _ _
      | exact calc_Mul.mono _ _ _
      | exact calc_Round.mono _ _ _
      | exact calc_Up.mono _ _
      | exact LeO.none _
      | refine LeO.ite ?_ ?_
      | refine LeO.bind ?_ (fun _ => ?_)
set_option maxHeartbeats 8000000 in
set_option maxRecDepth 100000 in
theorem hodmanlaw1_begun.calls (k : Nat)  (r : Bool) (w : World) (h : hodmanlaw1_begun.f k  = some r) :
    Calls Try.prog 10 #[] w fun e w' => e = .returned (.bool r) ∧ Drawn0 w w' := by
  have H : ((calc_Add.f 2 3).bind fun bt103 => ((calc_Mul.f k 2 3).bind fun bt105 => ((calc_Up.f k 5).bind fun bt107 => ((calc_Log.f k 8).bind fun bt109 => ((calc_Round.f k 5 4).bind fun bt111 => ((calc_Add.f 4611686018427387904 4611686018427387904).bind fun bt113 => (if bt103.1 = 5 then (if bt103.2 = true then (if bt105.1 = 6 then (if bt105.2 = true then (if bt107.1 = 8 then (if bt107.2 = true then (if bt109.1 = 3 then (if bt109.2 = true then (if bt111.1 = 8 then (if bt111.2 = true then (some (!bt113.2)) else (some false)) else (some false)) else (some false)) else (some false)) else (some false)) else (some false)) else (some false)) else (some false)) else (some false)) else (some false)))))))) = some r := h
  clear h
  replace H := Option.bind_eq_some_iff.mp H
  obtain ⟨⟨t103, t104⟩, A10, H⟩ := H
  replace H : ((calc_Mul.f k 2 3).bind fun bt105 => ((calc_Up.f k 5).bind fun bt107 => ((calc_Log.f k 8).bind fun bt109 => ((calc_Round.f k 5 4).bind fun bt111 => ((calc_Add.f 4611686018427387904 4611686018427387904).bind fun bt113 => (if t103 = 5 then (if t104 = true then (if bt105.1 = 6 then (if bt105.2 = true then (if bt107.1 = 8 then (if bt107.2 = true then (if bt109.1 = 3 then (if bt109.2 = true then (if bt111.1 = 8 then (if bt111.2 = true then (some (!bt113.2)) else (some false)) else (some false)) else (some false)) else (some false)) else (some false)) else (some false)) else (some false)) else (some false)) else (some false)) else (some false))))))) = some r := H
  have A1 := Aside0.mk A10
  clear A10
  replace H := Option.bind_eq_some_iff.mp H
  obtain ⟨⟨t105, t106⟩, A20, H⟩ := H
  replace H : ((calc_Up.f k 5).bind fun bt107 => ((calc_Log.f k 8).bind fun bt109 => ((calc_Round.f k 5 4).bind fun bt111 => ((calc_Add.f 4611686018427387904 4611686018427387904).bind fun bt113 => (if t103 = 5 then (if t104 = true then (if t105 = 6 then (if t106 = true then (if bt107.1 = 8 then (if bt107.2 = true then (if bt109.1 = 3 then (if bt109.2 = true then (if bt111.1 = 8 then (if bt111.2 = true then (some (!bt113.2)) else (some false)) else (some false)) else (some false)) else (some false)) else (some false)) else (some false)) else (some false)) else (some false)) else (some false)) else (some false)))))) = some r := H
  have A2 := Aside0.mk A20
  clear A20
  replace H := Option.bind_eq_some_iff.mp H
  obtain ⟨⟨t107, t108⟩, A30, H⟩ := H
  replace H : ((calc_Log.f k 8).bind fun bt109 => ((calc_Round.f k 5 4).bind fun bt111 => ((calc_Add.f 4611686018427387904 4611686018427387904).bind fun bt113 => (if t103 = 5 then (if t104 = true then (if t105 = 6 then (if t106 = true then (if t107 = 8 then (if t108 = true then (if bt109.1 = 3 then (if bt109.2 = true then (if bt111.1 = 8 then (if bt111.2 = true then (some (!bt113.2)) else (some false)) else (some false)) else (some false)) else (some false)) else (some false)) else (some false)) else (some false)) else (some false)) else (some false)) else (some false))))) = some r := H
  have A3 := Aside0.mk A30
  clear A30
  replace H := Option.bind_eq_some_iff.mp H
  obtain ⟨⟨t109, t110⟩, A40, H⟩ := H
  replace H : ((calc_Round.f k 5 4).bind fun bt111 => ((calc_Add.f 4611686018427387904 4611686018427387904).bind fun bt113 => (if t103 = 5 then (if t104 = true then (if t105 = 6 then (if t106 = true then (if t107 = 8 then (if t108 = true then (if t109 = 3 then (if t110 = true then (if bt111.1 = 8 then (if bt111.2 = true then (some (!bt113.2)) else (some false)) else (some false)) else (some false)) else (some false)) else (some false)) else (some false)) else (some false)) else (some false)) else (some false)) else (some false)))) = some r := H
  have A4 := Aside0.mk A40
  clear A40
  replace H := Option.bind_eq_some_iff.mp H
  obtain ⟨⟨t111, t112⟩, A50, H⟩ := H
  replace H : ((calc_Add.f 4611686018427387904 4611686018427387904).bind fun bt113 => (if t103 = 5 then (if t104 = true then (if t105 = 6 then (if t106 = true then (if t107 = 8 then (if t108 = true then (if t109 = 3 then (if t110 = true then (if t111 = 8 then (if t112 = true then (some (!bt113.2)) else (some false)) else (some false)) else (some false)) else (some false)) else (some false)) else (some false)) else (some false)) else (some false)) else (some false)) else (some false))) = some r := H
  have A5 := Aside0.mk A50
  clear A50
  replace H := Option.bind_eq_some_iff.mp H
  obtain ⟨⟨t113, t114⟩, A60, H⟩ := H
  replace H : (if t103 = 5 then (if t104 = true then (if t105 = 6 then (if t106 = true then (if t107 = 8 then (if t108 = true then (if t109 = 3 then (if t110 = true then (if t111 = 8 then (if t112 = true then (some (!t114)) else (some false)) else (some false)) else (some false)) else (some false)) else (some false)) else (some false)) else (some false)) else (some false)) else (some false)) else (some false)) = some r := H
  have A6 := Aside0.mk A60
  clear A60
  by_cases c7 : t103 = 5
  · rw [if_pos c7] at H
    have c7b0 : (t103 == 5) = true := beq_iff_eq.mpr c7
    have c7b1 : (t103 != 5) = false := bne_eq_false_iff_eq.mpr c7
    clear c7
    by_cases c8 : t104 = true
    · subst c8
      have H1 : (if t105 = 6 then (if t106 = true then (if t107 = 8 then (if t108 = true then (if t109 = 3 then (if t110 = true then (if t111 = 8 then (if t112 = true then (some (!t114)) else (some false)) else (some false)) else (some false)) else (some false)) else (some false)) else (some false)) else (some false)) else (some false)) = some r := by rw [if_pos rfl] at H; exact H
      clear H
      have H := H1
      clear H1
      by_cases c9 : t105 = 6
      · rw [if_pos c9] at H
        have c9b0 : (t105 == 6) = true := beq_iff_eq.mpr c9
        have c9b1 : (t105 != 6) = false := bne_eq_false_iff_eq.mpr c9
        clear c9
        by_cases c10 : t106 = true
        · subst c10
          have H1 : (if t107 = 8 then (if t108 = true then (if t109 = 3 then (if t110 = true then (if t111 = 8 then (if t112 = true then (some (!t114)) else (some false)) else (some false)) else (some false)) else (some false)) else (some false)) else (some false)) = some r := by rw [if_pos rfl] at H; exact H
          clear H
          have H := H1
          clear H1
          by_cases c11 : t107 = 8
          · rw [if_pos c11] at H
            have c11b0 : (t107 == 8) = true := beq_iff_eq.mpr c11
            have c11b1 : (t107 != 8) = false := bne_eq_false_iff_eq.mpr c11
            clear c11
            by_cases c12 : t108 = true
            · subst c12
              have H1 : (if t109 = 3 then (if t110 = true then (if t111 = 8 then (if t112 = true then (some (!t114)) else (some false)) else (some false)) else (some false)) else (some false)) = some r := by rw [if_pos rfl] at H; exact H
              clear H
              have H := H1
              clear H1
              by_cases c13 : t109 = 3
              · rw [if_pos c13] at H
                have c13b0 : (t109 == 3) = true := beq_iff_eq.mpr c13
                have c13b1 : (t109 != 3) = false := bne_eq_false_iff_eq.mpr c13
                clear c13
                by_cases c14 : t110 = true
                · subst c14
                  have H1 : (if t111 = 8 then (if t112 = true then (some (!t114)) else (some false)) else (some false)) = some r := by rw [if_pos rfl] at H; exact H
                  clear H
                  have H := H1
                  clear H1
                  by_cases c15 : t111 = 8
                  · rw [if_pos c15] at H
                    have c15b0 : (t111 == 8) = true := beq_iff_eq.mpr c15
                    have c15b1 : (t111 != 8) = false := bne_eq_false_iff_eq.mpr c15
                    clear c15
                    by_cases c16 : t112 = true
                    · subst c16
                      have H1 : (some (!t114)) = some r := by rw [if_pos rfl] at H; exact H
                      clear H
                      have H := H1
                      clear H1
                      obtain rfl := Option.some.inj H
                      go_enter Try.func10, Try.ntmps10
                      go_wp2_with (first | ((with_reducible refine gate_callee (f := 11) rfl ?_); refine goesL_ (some 14) rfl rfl Try.func11 (by kernel_rfl) rfl #[.int .i64 2, .int .i64 3] rfl (by (try simp only [List.map_toArray, List.map_cons, List.map_nil]); first | done | rfl | (simp only [List.length_drop, List.length_take]; rfl)) ?_; (with_reducible refine (calc_Add.calls 2 3 t103 true _ A1.out).mono ?_); rintro e w' ⟨rfl, ⟨nd, rfl⟩⟩; refine ⟨_, rfl, ?_⟩) | ((with_reducible refine gate_callee (f := 13) rfl ?_); refine goesL_ (some 18) rfl rfl Try.func13 (by kernel_rfl) rfl #[.int .i64 2, .int .i64 3] rfl (by (try simp only [List.map_toArray, List.map_cons, List.map_nil]); first | done | rfl | (simp only [List.length_drop, List.length_take]; rfl)) ?_; (with_reducible refine (calc_Mul.calls k 2 3 t105 true _ A2.out).mono ?_); rintro e w' ⟨rfl, ⟨nd, rfl⟩⟩; refine ⟨_, rfl, ?_⟩) | ((with_reducible refine gate_callee (f := 17) rfl ?_); refine goesL_ (some 22) rfl rfl Try.func17 (by kernel_rfl) rfl #[.int .i64 5] rfl (by (try simp only [List.map_toArray, List.map_cons, List.map_nil]); first | done | rfl | (simp only [List.length_drop, List.length_take]; rfl)) ?_; (with_reducible refine (calc_Up.calls k 5 t107 true _ A3.out).mono ?_); rintro e w' ⟨rfl, ⟨nd, rfl⟩⟩; refine ⟨_, rfl, ?_⟩) | ((with_reducible refine gate_callee (f := 19) rfl ?_); refine goesL_ (some 26) rfl rfl Try.func19 (by kernel_rfl) rfl #[.int .i64 8] rfl (by (try simp only [List.map_toArray, List.map_cons, List.map_nil]); first | done | rfl | (simp only [List.length_drop, List.length_take]; rfl)) ?_; (with_reducible refine (calc_Log.calls k 8 t109 true _ A4.out).mono ?_); rintro e w' ⟨rfl, ⟨nd, rfl⟩⟩; refine ⟨_, rfl, ?_⟩) | ((with_reducible refine gate_callee (f := 15) rfl ?_); refine goesL_ (some 30) rfl rfl Try.func15 (by kernel_rfl) rfl #[.int .i64 5, .int .i64 4] rfl (by (try simp only [List.map_toArray, List.map_cons, List.map_nil]); first | done | rfl | (simp only [List.length_drop, List.length_take]; rfl)) ?_; (with_reducible refine (calc_Round.calls k 5 4 t111 true _ A5.out).mono ?_); rintro e w' ⟨rfl, ⟨nd, rfl⟩⟩; refine ⟨_, rfl, ?_⟩) | ((with_reducible refine gate_callee (f := 11) rfl ?_); refine goesL_ (some 34) rfl rfl Try.func11 (by kernel_rfl) rfl #[.int .i64 4611686018427387904, .int .i64 4611686018427387904] rfl (by (try simp only [List.map_toArray, List.map_cons, List.map_nil]); first | done | rfl | (simp only [List.length_drop, List.length_take]; rfl)) ?_; (with_reducible refine (calc_Add.calls 4611686018427387904 4611686018427387904 t113 t114 _ A6.out).mono ?_); rintro e w' ⟨rfl, ⟨nd, rfl⟩⟩; refine ⟨_, rfl, ?_⟩))
                      go_ret
                      exact ⟨by first | rfl | (simp; done) | (simp [*]; done), by repeat (first | exact Drawn0.refl _ | apply Drawn0.step)⟩
                    · replace c16 := Bool.eq_false_iff.mpr c16
                      subst c16
                      have H1 : (some false) = some r := by rw [if_neg (show ¬ (false = true) by decide)] at H; exact H
                      clear H
                      have H := H1
                      clear H1
                      obtain rfl := Option.some.inj H
                      go_enter Try.func10, Try.ntmps10
                      go_wp2_with (first | ((with_reducible refine gate_callee (f := 11) rfl ?_); refine goesL_ (some 14) rfl rfl Try.func11 (by kernel_rfl) rfl #[.int .i64 2, .int .i64 3] rfl (by (try simp only [List.map_toArray, List.map_cons, List.map_nil]); first | done | rfl | (simp only [List.length_drop, List.length_take]; rfl)) ?_; (with_reducible refine (calc_Add.calls 2 3 t103 true _ A1.out).mono ?_); rintro e w' ⟨rfl, ⟨nd, rfl⟩⟩; refine ⟨_, rfl, ?_⟩) | ((with_reducible refine gate_callee (f := 13) rfl ?_); refine goesL_ (some 18) rfl rfl Try.func13 (by kernel_rfl) rfl #[.int .i64 2, .int .i64 3] rfl (by (try simp only [List.map_toArray, List.map_cons, List.map_nil]); first | done | rfl | (simp only [List.length_drop, List.length_take]; rfl)) ?_; (with_reducible refine (calc_Mul.calls k 2 3 t105 true _ A2.out).mono ?_); rintro e w' ⟨rfl, ⟨nd, rfl⟩⟩; refine ⟨_, rfl, ?_⟩) | ((with_reducible refine gate_callee (f := 17) rfl ?_); refine goesL_ (some 22) rfl rfl Try.func17 (by kernel_rfl) rfl #[.int .i64 5] rfl (by (try simp only [List.map_toArray, List.map_cons, List.map_nil]); first | done | rfl | (simp only [List.length_drop, List.length_take]; rfl)) ?_; (with_reducible refine (calc_Up.calls k 5 t107 true _ A3.out).mono ?_); rintro e w' ⟨rfl, ⟨nd, rfl⟩⟩; refine ⟨_, rfl, ?_⟩) | ((with_reducible refine gate_callee (f := 19) rfl ?_); refine goesL_ (some 26) rfl rfl Try.func19 (by kernel_rfl) rfl #[.int .i64 8] rfl (by (try simp only [List.map_toArray, List.map_cons, List.map_nil]); first | done | rfl | (simp only [List.length_drop, List.length_take]; rfl)) ?_; (with_reducible refine (calc_Log.calls k 8 t109 true _ A4.out).mono ?_); rintro e w' ⟨rfl, ⟨nd, rfl⟩⟩; refine ⟨_, rfl, ?_⟩) | ((with_reducible refine gate_callee (f := 15) rfl ?_); refine goesL_ (some 30) rfl rfl Try.func15 (by kernel_rfl) rfl #[.int .i64 5, .int .i64 4] rfl (by (try simp only [List.map_toArray, List.map_cons, List.map_nil]); first | done | rfl | (simp only [List.length_drop, List.length_take]; rfl)) ?_; (with_reducible refine (calc_Round.calls k 5 4 t111 false _ A5.out).mono ?_); rintro e w' ⟨rfl, ⟨nd, rfl⟩⟩; refine ⟨_, rfl, ?_⟩) | ((with_reducible refine gate_callee (f := 11) rfl ?_); refine goesL_ (some 34) rfl rfl Try.func11 (by kernel_rfl) rfl #[.int .i64 4611686018427387904, .int .i64 4611686018427387904] rfl (by (try simp only [List.map_toArray, List.map_cons, List.map_nil]); first | done | rfl | (simp only [List.length_drop, List.length_take]; rfl)) ?_; (with_reducible refine (calc_Add.calls 4611686018427387904 4611686018427387904 t113 t114 _ A6.out).mono ?_); rintro e w' ⟨rfl, ⟨nd, rfl⟩⟩; refine ⟨_, rfl, ?_⟩))
                      go_ret
                      exact ⟨by first | rfl | (simp; done) | (simp [*]; done), by repeat (first | exact Drawn0.refl _ | apply Drawn0.step)⟩
                  · rw [if_neg c15] at H
                    have c15b0 : (t111 == 8) = false := beq_eq_false_iff_ne.mpr c15
                    have c15b1 : (t111 != 8) = true := bne_iff_ne.mpr c15
                    obtain rfl := Option.some.inj H
                    go_enter Try.func10, Try.ntmps10
                    go_wp2_with (first | ((with_reducible refine gate_callee (f := 11) rfl ?_); refine goesL_ (some 14) rfl rfl Try.func11 (by kernel_rfl) rfl #[.int .i64 2, .int .i64 3] rfl (by (try simp only [List.map_toArray, List.map_cons, List.map_nil]); first | done | rfl | (simp only [List.length_drop, List.length_take]; rfl)) ?_; (with_reducible refine (calc_Add.calls 2 3 t103 true _ A1.out).mono ?_); rintro e w' ⟨rfl, ⟨nd, rfl⟩⟩; refine ⟨_, rfl, ?_⟩) | ((with_reducible refine gate_callee (f := 13) rfl ?_); refine goesL_ (some 18) rfl rfl Try.func13 (by kernel_rfl) rfl #[.int .i64 2, .int .i64 3] rfl (by (try simp only [List.map_toArray, List.map_cons, List.map_nil]); first | done | rfl | (simp only [List.length_drop, List.length_take]; rfl)) ?_; (with_reducible refine (calc_Mul.calls k 2 3 t105 true _ A2.out).mono ?_); rintro e w' ⟨rfl, ⟨nd, rfl⟩⟩; refine ⟨_, rfl, ?_⟩) | ((with_reducible refine gate_callee (f := 17) rfl ?_); refine goesL_ (some 22) rfl rfl Try.func17 (by kernel_rfl) rfl #[.int .i64 5] rfl (by (try simp only [List.map_toArray, List.map_cons, List.map_nil]); first | done | rfl | (simp only [List.length_drop, List.length_take]; rfl)) ?_; (with_reducible refine (calc_Up.calls k 5 t107 true _ A3.out).mono ?_); rintro e w' ⟨rfl, ⟨nd, rfl⟩⟩; refine ⟨_, rfl, ?_⟩) | ((with_reducible refine gate_callee (f := 19) rfl ?_); refine goesL_ (some 26) rfl rfl Try.func19 (by kernel_rfl) rfl #[.int .i64 8] rfl (by (try simp only [List.map_toArray, List.map_cons, List.map_nil]); first | done | rfl | (simp only [List.length_drop, List.length_take]; rfl)) ?_; (with_reducible refine (calc_Log.calls k 8 t109 true _ A4.out).mono ?_); rintro e w' ⟨rfl, ⟨nd, rfl⟩⟩; refine ⟨_, rfl, ?_⟩) | ((with_reducible refine gate_callee (f := 15) rfl ?_); refine goesL_ (some 30) rfl rfl Try.func15 (by kernel_rfl) rfl #[.int .i64 5, .int .i64 4] rfl (by (try simp only [List.map_toArray, List.map_cons, List.map_nil]); first | done | rfl | (simp only [List.length_drop, List.length_take]; rfl)) ?_; (with_reducible refine (calc_Round.calls k 5 4 t111 t112 _ A5.out).mono ?_); rintro e w' ⟨rfl, ⟨nd, rfl⟩⟩; refine ⟨_, rfl, ?_⟩) | ((with_reducible refine gate_callee (f := 11) rfl ?_); refine goesL_ (some 34) rfl rfl Try.func11 (by kernel_rfl) rfl #[.int .i64 4611686018427387904, .int .i64 4611686018427387904] rfl (by (try simp only [List.map_toArray, List.map_cons, List.map_nil]); first | done | rfl | (simp only [List.length_drop, List.length_take]; rfl)) ?_; (with_reducible refine (calc_Add.calls 4611686018427387904 4611686018427387904 t113 t114 _ A6.out).mono ?_); rintro e w' ⟨rfl, ⟨nd, rfl⟩⟩; refine ⟨_, rfl, ?_⟩))
                    go_ret
                    exact ⟨by first | rfl | (simp; done) | (simp [*]; done), by repeat (first | exact Drawn0.refl _ | apply Drawn0.step)⟩
                · replace c14 := Bool.eq_false_iff.mpr c14
                  subst c14
                  have H1 : (some false) = some r := by rw [if_neg (show ¬ (false = true) by decide)] at H; exact H
                  clear H
                  have H := H1
                  clear H1
                  obtain rfl := Option.some.inj H
                  go_enter Try.func10, Try.ntmps10
                  go_wp2_with (first | ((with_reducible refine gate_callee (f := 11) rfl ?_); refine goesL_ (some 14) rfl rfl Try.func11 (by kernel_rfl) rfl #[.int .i64 2, .int .i64 3] rfl (by (try simp only [List.map_toArray, List.map_cons, List.map_nil]); first | done | rfl | (simp only [List.length_drop, List.length_take]; rfl)) ?_; (with_reducible refine (calc_Add.calls 2 3 t103 true _ A1.out).mono ?_); rintro e w' ⟨rfl, ⟨nd, rfl⟩⟩; refine ⟨_, rfl, ?_⟩) | ((with_reducible refine gate_callee (f := 13) rfl ?_); refine goesL_ (some 18) rfl rfl Try.func13 (by kernel_rfl) rfl #[.int .i64 2, .int .i64 3] rfl (by (try simp only [List.map_toArray, List.map_cons, List.map_nil]); first | done | rfl | (simp only [List.length_drop, List.length_take]; rfl)) ?_; (with_reducible refine (calc_Mul.calls k 2 3 t105 true _ A2.out).mono ?_); rintro e w' ⟨rfl, ⟨nd, rfl⟩⟩; refine ⟨_, rfl, ?_⟩) | ((with_reducible refine gate_callee (f := 17) rfl ?_); refine goesL_ (some 22) rfl rfl Try.func17 (by kernel_rfl) rfl #[.int .i64 5] rfl (by (try simp only [List.map_toArray, List.map_cons, List.map_nil]); first | done | rfl | (simp only [List.length_drop, List.length_take]; rfl)) ?_; (with_reducible refine (calc_Up.calls k 5 t107 true _ A3.out).mono ?_); rintro e w' ⟨rfl, ⟨nd, rfl⟩⟩; refine ⟨_, rfl, ?_⟩) | ((with_reducible refine gate_callee (f := 19) rfl ?_); refine goesL_ (some 26) rfl rfl Try.func19 (by kernel_rfl) rfl #[.int .i64 8] rfl (by (try simp only [List.map_toArray, List.map_cons, List.map_nil]); first | done | rfl | (simp only [List.length_drop, List.length_take]; rfl)) ?_; (with_reducible refine (calc_Log.calls k 8 t109 false _ A4.out).mono ?_); rintro e w' ⟨rfl, ⟨nd, rfl⟩⟩; refine ⟨_, rfl, ?_⟩) | ((with_reducible refine gate_callee (f := 15) rfl ?_); refine goesL_ (some 30) rfl rfl Try.func15 (by kernel_rfl) rfl #[.int .i64 5, .int .i64 4] rfl (by (try simp only [List.map_toArray, List.map_cons, List.map_nil]); first | done | rfl | (simp only [List.length_drop, List.length_take]; rfl)) ?_; (with_reducible refine (calc_Round.calls k 5 4 t111 t112 _ A5.out).mono ?_); rintro e w' ⟨rfl, ⟨nd, rfl⟩⟩; refine ⟨_, rfl, ?_⟩) | ((with_reducible refine gate_callee (f := 11) rfl ?_); refine goesL_ (some 34) rfl rfl Try.func11 (by kernel_rfl) rfl #[.int .i64 4611686018427387904, .int .i64 4611686018427387904] rfl (by (try simp only [List.map_toArray, List.map_cons, List.map_nil]); first | done | rfl | (simp only [List.length_drop, List.length_take]; rfl)) ?_; (with_reducible refine (calc_Add.calls 4611686018427387904 4611686018427387904 t113 t114 _ A6.out).mono ?_); rintro e w' ⟨rfl, ⟨nd, rfl⟩⟩; refine ⟨_, rfl, ?_⟩))
                  go_ret
                  exact ⟨by first | rfl | (simp; done) | (simp [*]; done), by repeat (first | exact Drawn0.refl _ | apply Drawn0.step)⟩
              · rw [if_neg c13] at H
                have c13b0 : (t109 == 3) = false := beq_eq_false_iff_ne.mpr c13
                have c13b1 : (t109 != 3) = true := bne_iff_ne.mpr c13
                obtain rfl := Option.some.inj H
                go_enter Try.func10, Try.ntmps10
                go_wp2_with (first | ((with_reducible refine gate_callee (f := 11) rfl ?_); refine goesL_ (some 14) rfl rfl Try.func11 (by kernel_rfl) rfl #[.int .i64 2, .int .i64 3] rfl (by (try simp only [List.map_toArray, List.map_cons, List.map_nil]); first | done | rfl | (simp only [List.length_drop, List.length_take]; rfl)) ?_; (with_reducible refine (calc_Add.calls 2 3 t103 true _ A1.out).mono ?_); rintro e w' ⟨rfl, ⟨nd, rfl⟩⟩; refine ⟨_, rfl, ?_⟩) | ((with_reducible refine gate_callee (f := 13) rfl ?_); refine goesL_ (some 18) rfl rfl Try.func13 (by kernel_rfl) rfl #[.int .i64 2, .int .i64 3] rfl (by (try simp only [List.map_toArray, List.map_cons, List.map_nil]); first | done | rfl | (simp only [List.length_drop, List.length_take]; rfl)) ?_; (with_reducible refine (calc_Mul.calls k 2 3 t105 true _ A2.out).mono ?_); rintro e w' ⟨rfl, ⟨nd, rfl⟩⟩; refine ⟨_, rfl, ?_⟩) | ((with_reducible refine gate_callee (f := 17) rfl ?_); refine goesL_ (some 22) rfl rfl Try.func17 (by kernel_rfl) rfl #[.int .i64 5] rfl (by (try simp only [List.map_toArray, List.map_cons, List.map_nil]); first | done | rfl | (simp only [List.length_drop, List.length_take]; rfl)) ?_; (with_reducible refine (calc_Up.calls k 5 t107 true _ A3.out).mono ?_); rintro e w' ⟨rfl, ⟨nd, rfl⟩⟩; refine ⟨_, rfl, ?_⟩) | ((with_reducible refine gate_callee (f := 19) rfl ?_); refine goesL_ (some 26) rfl rfl Try.func19 (by kernel_rfl) rfl #[.int .i64 8] rfl (by (try simp only [List.map_toArray, List.map_cons, List.map_nil]); first | done | rfl | (simp only [List.length_drop, List.length_take]; rfl)) ?_; (with_reducible refine (calc_Log.calls k 8 t109 t110 _ A4.out).mono ?_); rintro e w' ⟨rfl, ⟨nd, rfl⟩⟩; refine ⟨_, rfl, ?_⟩) | ((with_reducible refine gate_callee (f := 15) rfl ?_); refine goesL_ (some 30) rfl rfl Try.func15 (by kernel_rfl) rfl #[.int .i64 5, .int .i64 4] rfl (by (try simp only [List.map_toArray, List.map_cons, List.map_nil]); first | done | rfl | (simp only [List.length_drop, List.length_take]; rfl)) ?_; (with_reducible refine (calc_Round.calls k 5 4 t111 t112 _ A5.out).mono ?_); rintro e w' ⟨rfl, ⟨nd, rfl⟩⟩; refine ⟨_, rfl, ?_⟩) | ((with_reducible refine gate_callee (f := 11) rfl ?_); refine goesL_ (some 34) rfl rfl Try.func11 (by kernel_rfl) rfl #[.int .i64 4611686018427387904, .int .i64 4611686018427387904] rfl (by (try simp only [List.map_toArray, List.map_cons, List.map_nil]); first | done | rfl | (simp only [List.length_drop, List.length_take]; rfl)) ?_; (with_reducible refine (calc_Add.calls 4611686018427387904 4611686018427387904 t113 t114 _ A6.out).mono ?_); rintro e w' ⟨rfl, ⟨nd, rfl⟩⟩; refine ⟨_, rfl, ?_⟩))
                go_ret
                exact ⟨by first | rfl | (simp; done) | (simp [*]; done), by repeat (first | exact Drawn0.refl _ | apply Drawn0.step)⟩
            · replace c12 := Bool.eq_false_iff.mpr c12
              subst c12
              have H1 : (some false) = some r := by rw [if_neg (show ¬ (false = true) by decide)] at H; exact H
              clear H
              have H := H1
              clear H1
              obtain rfl := Option.some.inj H
              go_enter Try.func10, Try.ntmps10
              go_wp2_with (first | ((with_reducible refine gate_callee (f := 11) rfl ?_); refine goesL_ (some 14) rfl rfl Try.func11 (by kernel_rfl) rfl #[.int .i64 2, .int .i64 3] rfl (by (try simp only [List.map_toArray, List.map_cons, List.map_nil]); first | done | rfl | (simp only [List.length_drop, List.length_take]; rfl)) ?_; (with_reducible refine (calc_Add.calls 2 3 t103 true _ A1.out).mono ?_); rintro e w' ⟨rfl, ⟨nd, rfl⟩⟩; refine ⟨_, rfl, ?_⟩) | ((with_reducible refine gate_callee (f := 13) rfl ?_); refine goesL_ (some 18) rfl rfl Try.func13 (by kernel_rfl) rfl #[.int .i64 2, .int .i64 3] rfl (by (try simp only [List.map_toArray, List.map_cons, List.map_nil]); first | done | rfl | (simp only [List.length_drop, List.length_take]; rfl)) ?_; (with_reducible refine (calc_Mul.calls k 2 3 t105 true _ A2.out).mono ?_); rintro e w' ⟨rfl, ⟨nd, rfl⟩⟩; refine ⟨_, rfl, ?_⟩) | ((with_reducible refine gate_callee (f := 17) rfl ?_); refine goesL_ (some 22) rfl rfl Try.func17 (by kernel_rfl) rfl #[.int .i64 5] rfl (by (try simp only [List.map_toArray, List.map_cons, List.map_nil]); first | done | rfl | (simp only [List.length_drop, List.length_take]; rfl)) ?_; (with_reducible refine (calc_Up.calls k 5 t107 false _ A3.out).mono ?_); rintro e w' ⟨rfl, ⟨nd, rfl⟩⟩; refine ⟨_, rfl, ?_⟩) | ((with_reducible refine gate_callee (f := 19) rfl ?_); refine goesL_ (some 26) rfl rfl Try.func19 (by kernel_rfl) rfl #[.int .i64 8] rfl (by (try simp only [List.map_toArray, List.map_cons, List.map_nil]); first | done | rfl | (simp only [List.length_drop, List.length_take]; rfl)) ?_; (with_reducible refine (calc_Log.calls k 8 t109 t110 _ A4.out).mono ?_); rintro e w' ⟨rfl, ⟨nd, rfl⟩⟩; refine ⟨_, rfl, ?_⟩) | ((with_reducible refine gate_callee (f := 15) rfl ?_); refine goesL_ (some 30) rfl rfl Try.func15 (by kernel_rfl) rfl #[.int .i64 5, .int .i64 4] rfl (by (try simp only [List.map_toArray, List.map_cons, List.map_nil]); first | done | rfl | (simp only [List.length_drop, List.length_take]; rfl)) ?_; (with_reducible refine (calc_Round.calls k 5 4 t111 t112 _ A5.out).mono ?_); rintro e w' ⟨rfl, ⟨nd, rfl⟩⟩; refine ⟨_, rfl, ?_⟩) | ((with_reducible refine gate_callee (f := 11) rfl ?_); refine goesL_ (some 34) rfl rfl Try.func11 (by kernel_rfl) rfl #[.int .i64 4611686018427387904, .int .i64 4611686018427387904] rfl (by (try simp only [List.map_toArray, List.map_cons, List.map_nil]); first | done | rfl | (simp only [List.length_drop, List.length_take]; rfl)) ?_; (with_reducible refine (calc_Add.calls 4611686018427387904 4611686018427387904 t113 t114 _ A6.out).mono ?_); rintro e w' ⟨rfl, ⟨nd, rfl⟩⟩; refine ⟨_, rfl, ?_⟩))
              go_ret
              exact ⟨by first | rfl | (simp; done) | (simp [*]; done), by repeat (first | exact Drawn0.refl _ | apply Drawn0.step)⟩
          · rw [if_neg c11] at H
            have c11b0 : (t107 == 8) = false := beq_eq_false_iff_ne.mpr c11
            have c11b1 : (t107 != 8) = true := bne_iff_ne.mpr c11
            obtain rfl := Option.some.inj H
            go_enter Try.func10, Try.ntmps10
            go_wp2_with (first | ((with_reducible refine gate_callee (f := 11) rfl ?_); refine goesL_ (some 14) rfl rfl Try.func11 (by kernel_rfl) rfl #[.int .i64 2, .int .i64 3] rfl (by (try simp only [List.map_toArray, List.map_cons, List.map_nil]); first | done | rfl | (simp only [List.length_drop, List.length_take]; rfl)) ?_; (with_reducible refine (calc_Add.calls 2 3 t103 true _ A1.out).mono ?_); rintro e w' ⟨rfl, ⟨nd, rfl⟩⟩; refine ⟨_, rfl, ?_⟩) | ((with_reducible refine gate_callee (f := 13) rfl ?_); refine goesL_ (some 18) rfl rfl Try.func13 (by kernel_rfl) rfl #[.int .i64 2, .int .i64 3] rfl (by (try simp only [List.map_toArray, List.map_cons, List.map_nil]); first | done | rfl | (simp only [List.length_drop, List.length_take]; rfl)) ?_; (with_reducible refine (calc_Mul.calls k 2 3 t105 true _ A2.out).mono ?_); rintro e w' ⟨rfl, ⟨nd, rfl⟩⟩; refine ⟨_, rfl, ?_⟩) | ((with_reducible refine gate_callee (f := 17) rfl ?_); refine goesL_ (some 22) rfl rfl Try.func17 (by kernel_rfl) rfl #[.int .i64 5] rfl (by (try simp only [List.map_toArray, List.map_cons, List.map_nil]); first | done | rfl | (simp only [List.length_drop, List.length_take]; rfl)) ?_; (with_reducible refine (calc_Up.calls k 5 t107 t108 _ A3.out).mono ?_); rintro e w' ⟨rfl, ⟨nd, rfl⟩⟩; refine ⟨_, rfl, ?_⟩) | ((with_reducible refine gate_callee (f := 19) rfl ?_); refine goesL_ (some 26) rfl rfl Try.func19 (by kernel_rfl) rfl #[.int .i64 8] rfl (by (try simp only [List.map_toArray, List.map_cons, List.map_nil]); first | done | rfl | (simp only [List.length_drop, List.length_take]; rfl)) ?_; (with_reducible refine (calc_Log.calls k 8 t109 t110 _ A4.out).mono ?_); rintro e w' ⟨rfl, ⟨nd, rfl⟩⟩; refine ⟨_, rfl, ?_⟩) | ((with_reducible refine gate_callee (f := 15) rfl ?_); refine goesL_ (some 30) rfl rfl Try.func15 (by kernel_rfl) rfl #[.int .i64 5, .int .i64 4] rfl (by (try simp only [List.map_toArray, List.map_cons, List.map_nil]); first | done | rfl | (simp only [List.length_drop, List.length_take]; rfl)) ?_; (with_reducible refine (calc_Round.calls k 5 4 t111 t112 _ A5.out).mono ?_); rintro e w' ⟨rfl, ⟨nd, rfl⟩⟩; refine ⟨_, rfl, ?_⟩) | ((with_reducible refine gate_callee (f := 11) rfl ?_); refine goesL_ (some 34) rfl rfl Try.func11 (by kernel_rfl) rfl #[.int .i64 4611686018427387904, .int .i64 4611686018427387904] rfl (by (try simp only [List.map_toArray, List.map_cons, List.map_nil]); first | done | rfl | (simp only [List.length_drop, List.length_take]; rfl)) ?_; (with_reducible refine (calc_Add.calls 4611686018427387904 4611686018427387904 t113 t114 _ A6.out).mono ?_); rintro e w' ⟨rfl, ⟨nd, rfl⟩⟩; refine ⟨_, rfl, ?_⟩))
            go_ret
            exact ⟨by first | rfl | (simp; done) | (simp [*]; done), by repeat (first | exact Drawn0.refl _ | apply Drawn0.step)⟩
        · replace c10 := Bool.eq_false_iff.mpr c10
          subst c10
          have H1 : (some false) = some r := by rw [if_neg (show ¬ (false = true) by decide)] at H; exact H
          clear H
          have H := H1
          clear H1
          obtain rfl := Option.some.inj H
          go_enter Try.func10, Try.ntmps10
          go_wp2_with (first | ((with_reducible refine gate_callee (f := 11) rfl ?_); refine goesL_ (some 14) rfl rfl Try.func11 (by kernel_rfl) rfl #[.int .i64 2, .int .i64 3] rfl (by (try simp only [List.map_toArray, List.map_cons, List.map_nil]); first | done | rfl | (simp only [List.length_drop, List.length_take]; rfl)) ?_; (with_reducible refine (calc_Add.calls 2 3 t103 true _ A1.out).mono ?_); rintro e w' ⟨rfl, ⟨nd, rfl⟩⟩; refine ⟨_, rfl, ?_⟩) | ((with_reducible refine gate_callee (f := 13) rfl ?_); refine goesL_ (some 18) rfl rfl Try.func13 (by kernel_rfl) rfl #[.int .i64 2, .int .i64 3] rfl (by (try simp only [List.map_toArray, List.map_cons, List.map_nil]); first | done | rfl | (simp only [List.length_drop, List.length_take]; rfl)) ?_; (with_reducible refine (calc_Mul.calls k 2 3 t105 false _ A2.out).mono ?_); rintro e w' ⟨rfl, ⟨nd, rfl⟩⟩; refine ⟨_, rfl, ?_⟩) | ((with_reducible refine gate_callee (f := 17) rfl ?_); refine goesL_ (some 22) rfl rfl Try.func17 (by kernel_rfl) rfl #[.int .i64 5] rfl (by (try simp only [List.map_toArray, List.map_cons, List.map_nil]); first | done | rfl | (simp only [List.length_drop, List.length_take]; rfl)) ?_; (with_reducible refine (calc_Up.calls k 5 t107 t108 _ A3.out).mono ?_); rintro e w' ⟨rfl, ⟨nd, rfl⟩⟩; refine ⟨_, rfl, ?_⟩) | ((with_reducible refine gate_callee (f := 19) rfl ?_); refine goesL_ (some 26) rfl rfl Try.func19 (by kernel_rfl) rfl #[.int .i64 8] rfl (by (try simp only [List.map_toArray, List.map_cons, List.map_nil]); first | done | rfl | (simp only [List.length_drop, List.length_take]; rfl)) ?_; (with_reducible refine (calc_Log.calls k 8 t109 t110 _ A4.out).mono ?_); rintro e w' ⟨rfl, ⟨nd, rfl⟩⟩; refine ⟨_, rfl, ?_⟩) | ((with_reducible refine gate_callee (f := 15) rfl ?_); refine goesL_ (some 30) rfl rfl Try.func15 (by kernel_rfl) rfl #[.int .i64 5, .int .i64 4] rfl (by (try simp only [List.map_toArray, List.map_cons, List.map_nil]); first | done | rfl | (simp only [List.length_drop, List.length_take]; rfl)) ?_; (with_reducible refine (calc_Round.calls k 5 4 t111 t112 _ A5.out).mono ?_); rintro e w' ⟨rfl, ⟨nd, rfl⟩⟩; refine ⟨_, rfl, ?_⟩) | ((with_reducible refine gate_callee (f := 11) rfl ?_); refine goesL_ (some 34) rfl rfl Try.func11 (by kernel_rfl) rfl #[.int .i64 4611686018427387904, .int .i64 4611686018427387904] rfl (by (try simp only [List.map_toArray, List.map_cons, List.map_nil]); first | done | rfl | (simp only [List.length_drop, List.length_take]; rfl)) ?_; (with_reducible refine (calc_Add.calls 4611686018427387904 4611686018427387904 t113 t114 _ A6.out).mono ?_); rintro e w' ⟨rfl, ⟨nd, rfl⟩⟩; refine ⟨_, rfl, ?_⟩))
          go_ret
          exact ⟨by first | rfl | (simp; done) | (simp [*]; done), by repeat (first | exact Drawn0.refl _ | apply Drawn0.step)⟩
      · rw [if_neg c9] at H
        have c9b0 : (t105 == 6) = false := beq_eq_false_iff_ne.mpr c9
        have c9b1 : (t105 != 6) = true := bne_iff_ne.mpr c9
        obtain rfl := Option.some.inj H
        go_enter Try.func10, Try.ntmps10
        go_wp2_with (first | ((with_reducible refine gate_callee (f := 11) rfl ?_); refine goesL_ (some 14) rfl rfl Try.func11 (by kernel_rfl) rfl #[.int .i64 2, .int .i64 3] rfl (by (try simp only [List.map_toArray, List.map_cons, List.map_nil]); first | done | rfl | (simp only [List.length_drop, List.length_take]; rfl)) ?_; (with_reducible refine (calc_Add.calls 2 3 t103 true _ A1.out).mono ?_); rintro e w' ⟨rfl, ⟨nd, rfl⟩⟩; refine ⟨_, rfl, ?_⟩) | ((with_reducible refine gate_callee (f := 13) rfl ?_); refine goesL_ (some 18) rfl rfl Try.func13 (by kernel_rfl) rfl #[.int .i64 2, .int .i64 3] rfl (by (try simp only [List.map_toArray, List.map_cons, List.map_nil]); first | done | rfl | (simp only [List.length_drop, List.length_take]; rfl)) ?_; (with_reducible refine (calc_Mul.calls k 2 3 t105 t106 _ A2.out).mono ?_); rintro e w' ⟨rfl, ⟨nd, rfl⟩⟩; refine ⟨_, rfl, ?_⟩) | ((with_reducible refine gate_callee (f := 17) rfl ?_); refine goesL_ (some 22) rfl rfl Try.func17 (by kernel_rfl) rfl #[.int .i64 5] rfl (by (try simp only [List.map_toArray, List.map_cons, List.map_nil]); first | done | rfl | (simp only [List.length_drop, List.length_take]; rfl)) ?_; (with_reducible refine (calc_Up.calls k 5 t107 t108 _ A3.out).mono ?_); rintro e w' ⟨rfl, ⟨nd, rfl⟩⟩; refine ⟨_, rfl, ?_⟩) | ((with_reducible refine gate_callee (f := 19) rfl ?_); refine goesL_ (some 26) rfl rfl Try.func19 (by kernel_rfl) rfl #[.int .i64 8] rfl (by (try simp only [List.map_toArray, List.map_cons, List.map_nil]); first | done | rfl | (simp only [List.length_drop, List.length_take]; rfl)) ?_; (with_reducible refine (calc_Log.calls k 8 t109 t110 _ A4.out).mono ?_); rintro e w' ⟨rfl, ⟨nd, rfl⟩⟩; refine ⟨_, rfl, ?_⟩) | ((with_reducible refine gate_callee (f := 15) rfl ?_); refine goesL_ (some 30) rfl rfl Try.func15 (by kernel_rfl) rfl #[.int .i64 5, .int .i64 4] rfl (by (try simp only [List.map_toArray, List.map_cons, List.map_nil]); first | done | rfl | (simp only [List.length_drop, List.length_take]; rfl)) ?_; (with_reducible refine (calc_Round.calls k 5 4 t111 t112 _ A5.out).mono ?_); rintro e w' ⟨rfl, ⟨nd, rfl⟩⟩; refine ⟨_, rfl, ?_⟩) | ((with_reducible refine gate_callee (f := 11) rfl ?_); refine goesL_ (some 34) rfl rfl Try.func11 (by kernel_rfl) rfl #[.int .i64 4611686018427387904, .int .i64 4611686018427387904] rfl (by (try simp only [List.map_toArray, List.map_cons, List.map_nil]); first | done | rfl | (simp only [List.length_drop, List.length_take]; rfl)) ?_; (with_reducible refine (calc_Add.calls 4611686018427387904 4611686018427387904 t113 t114 _ A6.out).mono ?_); rintro e w' ⟨rfl, ⟨nd, rfl⟩⟩; refine ⟨_, rfl, ?_⟩))
        go_ret
        exact ⟨by first | rfl | (simp; done) | (simp [*]; done), by repeat (first | exact Drawn0.refl _ | apply Drawn0.step)⟩
    · replace c8 := Bool.eq_false_iff.mpr c8
      subst c8
      have H1 : (some false) = some r := by rw [if_neg (show ¬ (false = true) by decide)] at H; exact H
      clear H
      have H := H1
      clear H1
      obtain rfl := Option.some.inj H
      go_enter Try.func10, Try.ntmps10
      go_wp2_with (first | ((with_reducible refine gate_callee (f := 11) rfl ?_); refine goesL_ (some 14) rfl rfl Try.func11 (by kernel_rfl) rfl #[.int .i64 2, .int .i64 3] rfl (by (try simp only [List.map_toArray, List.map_cons, List.map_nil]); first | done | rfl | (simp only [List.length_drop, List.length_take]; rfl)) ?_; (with_reducible refine (calc_Add.calls 2 3 t103 false _ A1.out).mono ?_); rintro e w' ⟨rfl, ⟨nd, rfl⟩⟩; refine ⟨_, rfl, ?_⟩) | ((with_reducible refine gate_callee (f := 13) rfl ?_); refine goesL_ (some 18) rfl rfl Try.func13 (by kernel_rfl) rfl #[.int .i64 2, .int .i64 3] rfl (by (try simp only [List.map_toArray, List.map_cons, List.map_nil]); first | done | rfl | (simp only [List.length_drop, List.length_take]; rfl)) ?_; (with_reducible refine (calc_Mul.calls k 2 3 t105 t106 _ A2.out).mono ?_); rintro e w' ⟨rfl, ⟨nd, rfl⟩⟩; refine ⟨_, rfl, ?_⟩) | ((with_reducible refine gate_callee (f := 17) rfl ?_); refine goesL_ (some 22) rfl rfl Try.func17 (by kernel_rfl) rfl #[.int .i64 5] rfl (by (try simp only [List.map_toArray, List.map_cons, List.map_nil]); first | done | rfl | (simp only [List.length_drop, List.length_take]; rfl)) ?_; (with_reducible refine (calc_Up.calls k 5 t107 t108 _ A3.out).mono ?_); rintro e w' ⟨rfl, ⟨nd, rfl⟩⟩; refine ⟨_, rfl, ?_⟩) | ((with_reducible refine gate_callee (f := 19) rfl ?_); refine goesL_ (some 26) rfl rfl Try.func19 (by kernel_rfl) rfl #[.int .i64 8] rfl (by (try simp only [List.map_toArray, List.map_cons, List.map_nil]); first | done | rfl | (simp only [List.length_drop, List.length_take]; rfl)) ?_; (with_reducible refine (calc_Log.calls k 8 t109 t110 _ A4.out).mono ?_); rintro e w' ⟨rfl, ⟨nd, rfl⟩⟩; refine ⟨_, rfl, ?_⟩) | ((with_reducible refine gate_callee (f := 15) rfl ?_); refine goesL_ (some 30) rfl rfl Try.func15 (by kernel_rfl) rfl #[.int .i64 5, .int .i64 4] rfl (by (try simp only [List.map_toArray, List.map_cons, List.map_nil]); first | done | rfl | (simp only [List.length_drop, List.length_take]; rfl)) ?_; (with_reducible refine (calc_Round.calls k 5 4 t111 t112 _ A5.out).mono ?_); rintro e w' ⟨rfl, ⟨nd, rfl⟩⟩; refine ⟨_, rfl, ?_⟩) | ((with_reducible refine gate_callee (f := 11) rfl ?_); refine goesL_ (some 34) rfl rfl Try.func11 (by kernel_rfl) rfl #[.int .i64 4611686018427387904, .int .i64 4611686018427387904] rfl (by (try simp only [List.map_toArray, List.map_cons, List.map_nil]); first | done | rfl | (simp only [List.length_drop, List.length_take]; rfl)) ?_; (with_reducible refine (calc_Add.calls 4611686018427387904 4611686018427387904 t113 t114 _ A6.out).mono ?_); rintro e w' ⟨rfl, ⟨nd, rfl⟩⟩; refine ⟨_, rfl, ?_⟩))
      go_ret
      exact ⟨by first | rfl | (simp; done) | (simp [*]; done), by repeat (first | exact Drawn0.refl _ | apply Drawn0.step)⟩
  · rw [if_neg c7] at H
    have c7b0 : (t103 == 5) = false := beq_eq_false_iff_ne.mpr c7
    have c7b1 : (t103 != 5) = true := bne_iff_ne.mpr c7
    obtain rfl := Option.some.inj H
    go_enter Try.func10, Try.ntmps10
    go_wp2_with (first | ((with_reducible refine gate_callee (f := 11) rfl ?_); refine goesL_ (some 14) rfl rfl Try.func11 (by kernel_rfl) rfl #[.int .i64 2, .int .i64 3] rfl (by (try simp only [List.map_toArray, List.map_cons, List.map_nil]); first | done | rfl | (simp only [List.length_drop, List.length_take]; rfl)) ?_; (with_reducible refine (calc_Add.calls 2 3 t103 t104 _ A1.out).mono ?_); rintro e w' ⟨rfl, ⟨nd, rfl⟩⟩; refine ⟨_, rfl, ?_⟩) | ((with_reducible refine gate_callee (f := 13) rfl ?_); refine goesL_ (some 18) rfl rfl Try.func13 (by kernel_rfl) rfl #[.int .i64 2, .int .i64 3] rfl (by (try simp only [List.map_toArray, List.map_cons, List.map_nil]); first | done | rfl | (simp only [List.length_drop, List.length_take]; rfl)) ?_; (with_reducible refine (calc_Mul.calls k 2 3 t105 t106 _ A2.out).mono ?_); rintro e w' ⟨rfl, ⟨nd, rfl⟩⟩; refine ⟨_, rfl, ?_⟩) | ((with_reducible refine gate_callee (f := 17) rfl ?_); refine goesL_ (some 22) rfl rfl Try.func17 (by kernel_rfl) rfl #[.int .i64 5] rfl (by (try simp only [List.map_toArray, List.map_cons, List.map_nil]); first | done | rfl | (simp only [List.length_drop, List.length_take]; rfl)) ?_; (with_reducible refine (calc_Up.calls k 5 t107 t108 _ A3.out).mono ?_); rintro e w' ⟨rfl, ⟨nd, rfl⟩⟩; refine ⟨_, rfl, ?_⟩) | ((with_reducible refine gate_callee (f := 19) rfl ?_); refine goesL_ (some 26) rfl rfl Try.func19 (by kernel_rfl) rfl #[.int .i64 8] rfl (by (try simp only [List.map_toArray, List.map_cons, List.map_nil]); first | done | rfl | (simp only [List.length_drop, List.length_take]; rfl)) ?_; (with_reducible refine (calc_Log.calls k 8 t109 t110 _ A4.out).mono ?_); rintro e w' ⟨rfl, ⟨nd, rfl⟩⟩; refine ⟨_, rfl, ?_⟩) | ((with_reducible refine gate_callee (f := 15) rfl ?_); refine goesL_ (some 30) rfl rfl Try.func15 (by kernel_rfl) rfl #[.int .i64 5, .int .i64 4] rfl (by (try simp only [List.map_toArray, List.map_cons, List.map_nil]); first | done | rfl | (simp only [List.length_drop, List.length_take]; rfl)) ?_; (with_reducible refine (calc_Round.calls k 5 4 t111 t112 _ A5.out).mono ?_); rintro e w' ⟨rfl, ⟨nd, rfl⟩⟩; refine ⟨_, rfl, ?_⟩) | ((with_reducible refine gate_callee (f := 11) rfl ?_); refine goesL_ (some 34) rfl rfl Try.func11 (by kernel_rfl) rfl #[.int .i64 4611686018427387904, .int .i64 4611686018427387904] rfl (by (try simp only [List.map_toArray, List.map_cons, List.map_nil]); first | done | rfl | (simp only [List.length_drop, List.length_take]; rfl)) ?_; (with_reducible refine (calc_Add.calls 4611686018427387904 4611686018427387904 t113 t114 _ A6.out).mono ?_); rintro e w' ⟨rfl, ⟨nd, rfl⟩⟩; refine ⟨_, rfl, ?_⟩))
    go_ret
    exact ⟨by first | rfl | (simp; done) | (simp [*]; done), by repeat (first | exact Drawn0.refl _ | apply Drawn0.step)⟩

/-! ### hodmanlaw1_CalcForms: function 7 -/
def hodmanlaw1_CalcForms.f (k : Nat)  : Option (Bool) := (hodmanlaw1_begun.f k).bind fun t115 => (if t115 = true then ((calc_Add.f 9223372036854775807 0).bind fun bt116 => ((calc_Add.f 9223372036854775807 1).bind fun bt118 => ((calc_Add.f (-9223372036854775808) (-1)).bind fun bt120 => ((calc_Add.f 9223372036854775807 (-9223372036854775808)).bind fun bt122 => ((calc_Mul.f k (-9223372036854775808) 1).bind fun bt124 => ((calc_Mul.f k (-9223372036854775808) (-1)).bind fun bt126 => ((calc_Mul.f k (-1) (-9223372036854775808)).bind fun bt128 => ((calc_Mul.f k 9223372036854775807 (-1)).bind fun bt130 => ((calc_Mul.f k 4294967296 2147483648).bind fun bt132 => ((calc_Up.f k 4611686018427387904).bind fun bt134 => ((calc_Up.f k 4611686018427387905).bind fun bt136 => ((calc_Log.f k 1).bind fun bt138 => ((calc_Log.f k 0).bind fun bt140 => ((calc_Log.f k (-9223372036854775808)).bind fun bt142 => ((calc_Round.f k 0 7).bind fun bt144 => ((calc_Round.f k 9223372036854775807 2).bind fun bt146 => (if bt116.1 = 9223372036854775807 then (if bt116.2 = true then (if bt118.2 = true then (some false) else (if bt120.2 = true then (some false) else (if bt122.1 = (-1) then (if bt122.2 = true then (if bt124.1 = (-9223372036854775808) then (if bt124.2 = true then (if bt126.2 = true then (some false) else (if bt128.2 = true then (some false) else (if bt130.1 = (-9223372036854775807) then (if bt130.2 = true then (if bt132.2 = true then (some false) else (if bt134.1 = 4611686018427387904 then (if bt134.2 = true then (if bt136.2 = true then (some false) else (if bt138.1 = 0 then (if bt138.2 = true then (if bt140.2 = true then (some false) else (if bt142.2 = true then (some false) else (if bt144.1 = 0 then (if bt144.2 = true then (some (!bt146.2)) else (some false)) else (some false)))) else (some false)) else (some false))) else (some false)) else (some false))) else (some false)) else (some false)))) else (some false)) else (some false)) else (some false)) else (some false)))) else (some false)) else (some false)))))))))))))))))) else (some false))
theorem hodmanlaw1_CalcForms.mono : ∀ k, LeO (hodmanlaw1_CalcForms.f k ) (hodmanlaw1_CalcForms.f (k + 1) ) := by
  intro  k
  unfold hodmanlaw1_CalcForms.f
  repeat' first
      | (with_reducible exact calc_Log.mono _ _)
      | (with_reducible exact calc_Mul.mono _ _ _)
      | (with_reducible exact calc_Round.mono _ _ _)
      | (with_reducible exact calc_Up.mono _ _)
      | (with_reducible exact hodmanlaw1_begun.mono _)
      | (with_reducible exact LeO.refl _)
      | (with_reducible exact LeO.none _)
      | (with_reducible refine LeO.ite ?_ ?_)
      | (with_reducible refine LeO.bind ?_ (fun _ => ?_))
      | exact calc_Log.mono _ _
      | exact calc_Mul.mono _ _ _
      | exact calc_Round.mono _ _ _
      | exact calc_Up.mono _ _
      | exact hodmanlaw1_begun.mono _
      | exact LeO.none _
      | refine LeO.ite ?_ ?_
      | refine LeO.bind ?_ (fun _ => ?_)
set_option maxHeartbeats 8000000 in
set_option maxRecDepth 100000 in
theorem hodmanlaw1_CalcForms.calls (k : Nat)  (r : Bool) (w : World) (h : hodmanlaw1_CalcForms.f k  = some r) (hr_ : Aside0 (r = true)) :
    Calls Try.prog 7 #[] w fun e w' => e = .returned (.bool r) ∧ Drawn0 w w' := by
  have H : ((hodmanlaw1_begun.f k).bind fun t115 => (if t115 = true then ((calc_Add.f 9223372036854775807 0).bind fun bt116 => ((calc_Add.f 9223372036854775807 1).bind fun bt118 => ((calc_Add.f (-9223372036854775808) (-1)).bind fun bt120 => ((calc_Add.f 9223372036854775807 (-9223372036854775808)).bind fun bt122 => ((calc_Mul.f k (-9223372036854775808) 1).bind fun bt124 => ((calc_Mul.f k (-9223372036854775808) (-1)).bind fun bt126 => ((calc_Mul.f k (-1) (-9223372036854775808)).bind fun bt128 => ((calc_Mul.f k 9223372036854775807 (-1)).bind fun bt130 => ((calc_Mul.f k 4294967296 2147483648).bind fun bt132 => ((calc_Up.f k 4611686018427387904).bind fun bt134 => ((calc_Up.f k 4611686018427387905).bind fun bt136 => ((calc_Log.f k 1).bind fun bt138 => ((calc_Log.f k 0).bind fun bt140 => ((calc_Log.f k (-9223372036854775808)).bind fun bt142 => ((calc_Round.f k 0 7).bind fun bt144 => ((calc_Round.f k 9223372036854775807 2).bind fun bt146 => (if bt116.1 = 9223372036854775807 then (if bt116.2 = true then (if bt118.2 = true then (some false) else (if bt120.2 = true then (some false) else (if bt122.1 = (-1) then (if bt122.2 = true then (if bt124.1 = (-9223372036854775808) then (if bt124.2 = true then (if bt126.2 = true then (some false) else (if bt128.2 = true then (some false) else (if bt130.1 = (-9223372036854775807) then (if bt130.2 = true then (if bt132.2 = true then (some false) else (if bt134.1 = 4611686018427387904 then (if bt134.2 = true then (if bt136.2 = true then (some false) else (if bt138.1 = 0 then (if bt138.2 = true then (if bt140.2 = true then (some false) else (if bt142.2 = true then (some false) else (if bt144.1 = 0 then (if bt144.2 = true then (some (!bt146.2)) else (some false)) else (some false)))) else (some false)) else (some false))) else (some false)) else (some false))) else (some false)) else (some false)))) else (some false)) else (some false)) else (some false)) else (some false)))) else (some false)) else (some false)))))))))))))))))) else (some false))) = some r := h
  clear h
  replace H := Option.bind_eq_some_iff.mp H
  obtain ⟨t115, A10, H⟩ := H
  replace H : (if t115 = true then ((calc_Add.f 9223372036854775807 0).bind fun bt116 => ((calc_Add.f 9223372036854775807 1).bind fun bt118 => ((calc_Add.f (-9223372036854775808) (-1)).bind fun bt120 => ((calc_Add.f 9223372036854775807 (-9223372036854775808)).bind fun bt122 => ((calc_Mul.f k (-9223372036854775808) 1).bind fun bt124 => ((calc_Mul.f k (-9223372036854775808) (-1)).bind fun bt126 => ((calc_Mul.f k (-1) (-9223372036854775808)).bind fun bt128 => ((calc_Mul.f k 9223372036854775807 (-1)).bind fun bt130 => ((calc_Mul.f k 4294967296 2147483648).bind fun bt132 => ((calc_Up.f k 4611686018427387904).bind fun bt134 => ((calc_Up.f k 4611686018427387905).bind fun bt136 => ((calc_Log.f k 1).bind fun bt138 => ((calc_Log.f k 0).bind fun bt140 => ((calc_Log.f k (-9223372036854775808)).bind fun bt142 => ((calc_Round.f k 0 7).bind fun bt144 => ((calc_Round.f k 9223372036854775807 2).bind fun bt146 => (if bt116.1 = 9223372036854775807 then (if bt116.2 = true then (if bt118.2 = true then (some false) else (if bt120.2 = true then (some false) else (if bt122.1 = (-1) then (if bt122.2 = true then (if bt124.1 = (-9223372036854775808) then (if bt124.2 = true then (if bt126.2 = true then (some false) else (if bt128.2 = true then (some false) else (if bt130.1 = (-9223372036854775807) then (if bt130.2 = true then (if bt132.2 = true then (some false) else (if bt134.1 = 4611686018427387904 then (if bt134.2 = true then (if bt136.2 = true then (some false) else (if bt138.1 = 0 then (if bt138.2 = true then (if bt140.2 = true then (some false) else (if bt142.2 = true then (some false) else (if bt144.1 = 0 then (if bt144.2 = true then (some (!bt146.2)) else (some false)) else (some false)))) else (some false)) else (some false))) else (some false)) else (some false))) else (some false)) else (some false)))) else (some false)) else (some false)) else (some false)) else (some false)))) else (some false)) else (some false)))))))))))))))))) else (some false)) = some r := H
  have A1 := Aside0.mk A10
  clear A10
  by_cases c2 : t115 = true
  · subst c2
    have H1 : ((calc_Add.f 9223372036854775807 0).bind fun bt116 => ((calc_Add.f 9223372036854775807 1).bind fun bt118 => ((calc_Add.f (-9223372036854775808) (-1)).bind fun bt120 => ((calc_Add.f 9223372036854775807 (-9223372036854775808)).bind fun bt122 => ((calc_Mul.f k (-9223372036854775808) 1).bind fun bt124 => ((calc_Mul.f k (-9223372036854775808) (-1)).bind fun bt126 => ((calc_Mul.f k (-1) (-9223372036854775808)).bind fun bt128 => ((calc_Mul.f k 9223372036854775807 (-1)).bind fun bt130 => ((calc_Mul.f k 4294967296 2147483648).bind fun bt132 => ((calc_Up.f k 4611686018427387904).bind fun bt134 => ((calc_Up.f k 4611686018427387905).bind fun bt136 => ((calc_Log.f k 1).bind fun bt138 => ((calc_Log.f k 0).bind fun bt140 => ((calc_Log.f k (-9223372036854775808)).bind fun bt142 => ((calc_Round.f k 0 7).bind fun bt144 => ((calc_Round.f k 9223372036854775807 2).bind fun bt146 => (if bt116.1 = 9223372036854775807 then (if bt116.2 = true then (if bt118.2 = true then (some false) else (if bt120.2 = true then (some false) else (if bt122.1 = (-1) then (if bt122.2 = true then (if bt124.1 = (-9223372036854775808) then (if bt124.2 = true then (if bt126.2 = true then (some false) else (if bt128.2 = true then (some false) else (if bt130.1 = (-9223372036854775807) then (if bt130.2 = true then (if bt132.2 = true then (some false) else (if bt134.1 = 4611686018427387904 then (if bt134.2 = true then (if bt136.2 = true then (some false) else (if bt138.1 = 0 then (if bt138.2 = true then (if bt140.2 = true then (some false) else (if bt142.2 = true then (some false) else (if bt144.1 = 0 then (if bt144.2 = true then (some (!bt146.2)) else (some false)) else (some false)))) else (some false)) else (some false))) else (some false)) else (some false))) else (some false)) else (some false)))) else (some false)) else (some false)) else (some false)) else (some false)))) else (some false)) else (some false)))))))))))))))))) = some r := by rw [if_pos rfl] at H; exact H
    clear H
    have H := H1
    clear H1
    replace H := Option.bind_eq_some_iff.mp H
    obtain ⟨⟨t116, t117⟩, A30, H⟩ := H
    replace H : ((calc_Add.f 9223372036854775807 1).bind fun bt118 => ((calc_Add.f (-9223372036854775808) (-1)).bind fun bt120 => ((calc_Add.f 9223372036854775807 (-9223372036854775808)).bind fun bt122 => ((calc_Mul.f k (-9223372036854775808) 1).bind fun bt124 => ((calc_Mul.f k (-9223372036854775808) (-1)).bind fun bt126 => ((calc_Mul.f k (-1) (-9223372036854775808)).bind fun bt128 => ((calc_Mul.f k 9223372036854775807 (-1)).bind fun bt130 => ((calc_Mul.f k 4294967296 2147483648).bind fun bt132 => ((calc_Up.f k 4611686018427387904).bind fun bt134 => ((calc_Up.f k 4611686018427387905).bind fun bt136 => ((calc_Log.f k 1).bind fun bt138 => ((calc_Log.f k 0).bind fun bt140 => ((calc_Log.f k (-9223372036854775808)).bind fun bt142 => ((calc_Round.f k 0 7).bind fun bt144 => ((calc_Round.f k 9223372036854775807 2).bind fun bt146 => (if t116 = 9223372036854775807 then (if t117 = true then (if bt118.2 = true then (some false) else (if bt120.2 = true then (some false) else (if bt122.1 = (-1) then (if bt122.2 = true then (if bt124.1 = (-9223372036854775808) then (if bt124.2 = true then (if bt126.2 = true then (some false) else (if bt128.2 = true then (some false) else (if bt130.1 = (-9223372036854775807) then (if bt130.2 = true then (if bt132.2 = true then (some false) else (if bt134.1 = 4611686018427387904 then (if bt134.2 = true then (if bt136.2 = true then (some false) else (if bt138.1 = 0 then (if bt138.2 = true then (if bt140.2 = true then (some false) else (if bt142.2 = true then (some false) else (if bt144.1 = 0 then (if bt144.2 = true then (some (!bt146.2)) else (some false)) else (some false)))) else (some false)) else (some false))) else (some false)) else (some false))) else (some false)) else (some false)))) else (some false)) else (some false)) else (some false)) else (some false)))) else (some false)) else (some false))))))))))))))))) = some r := H
    have A3 := Aside0.mk A30
    clear A30
    replace H := Option.bind_eq_some_iff.mp H
    obtain ⟨⟨t118, t119⟩, A40, H⟩ := H
    replace H : ((calc_Add.f (-9223372036854775808) (-1)).bind fun bt120 => ((calc_Add.f 9223372036854775807 (-9223372036854775808)).bind fun bt122 => ((calc_Mul.f k (-9223372036854775808) 1).bind fun bt124 => ((calc_Mul.f k (-9223372036854775808) (-1)).bind fun bt126 => ((calc_Mul.f k (-1) (-9223372036854775808)).bind fun bt128 => ((calc_Mul.f k 9223372036854775807 (-1)).bind fun bt130 => ((calc_Mul.f k 4294967296 2147483648).bind fun bt132 => ((calc_Up.f k 4611686018427387904).bind fun bt134 => ((calc_Up.f k 4611686018427387905).bind fun bt136 => ((calc_Log.f k 1).bind fun bt138 => ((calc_Log.f k 0).bind fun bt140 => ((calc_Log.f k (-9223372036854775808)).bind fun bt142 => ((calc_Round.f k 0 7).bind fun bt144 => ((calc_Round.f k 9223372036854775807 2).bind fun bt146 => (if t116 = 9223372036854775807 then (if t117 = true then (if t119 = true then (some false) else (if bt120.2 = true then (some false) else (if bt122.1 = (-1) then (if bt122.2 = true then (if bt124.1 = (-9223372036854775808) then (if bt124.2 = true then (if bt126.2 = true then (some false) else (if bt128.2 = true then (some false) else (if bt130.1 = (-9223372036854775807) then (if bt130.2 = true then (if bt132.2 = true then (some false) else (if bt134.1 = 4611686018427387904 then (if bt134.2 = true then (if bt136.2 = true then (some false) else (if bt138.1 = 0 then (if bt138.2 = true then (if bt140.2 = true then (some false) else (if bt142.2 = true then (some false) else (if bt144.1 = 0 then (if bt144.2 = true then (some (!bt146.2)) else (some false)) else (some false)))) else (some false)) else (some false))) else (some false)) else (some false))) else (some false)) else (some false)))) else (some false)) else (some false)) else (some false)) else (some false)))) else (some false)) else (some false)))))))))))))))) = some r := H
    have A4 := Aside0.mk A40
    clear A40
    replace H := Option.bind_eq_some_iff.mp H
    obtain ⟨⟨t120, t121⟩, A50, H⟩ := H
    replace H : ((calc_Add.f 9223372036854775807 (-9223372036854775808)).bind fun bt122 => ((calc_Mul.f k (-9223372036854775808) 1).bind fun bt124 => ((calc_Mul.f k (-9223372036854775808) (-1)).bind fun bt126 => ((calc_Mul.f k (-1) (-9223372036854775808)).bind fun bt128 => ((calc_Mul.f k 9223372036854775807 (-1)).bind fun bt130 => ((calc_Mul.f k 4294967296 2147483648).bind fun bt132 => ((calc_Up.f k 4611686018427387904).bind fun bt134 => ((calc_Up.f k 4611686018427387905).bind fun bt136 => ((calc_Log.f k 1).bind fun bt138 => ((calc_Log.f k 0).bind fun bt140 => ((calc_Log.f k (-9223372036854775808)).bind fun bt142 => ((calc_Round.f k 0 7).bind fun bt144 => ((calc_Round.f k 9223372036854775807 2).bind fun bt146 => (if t116 = 9223372036854775807 then (if t117 = true then (if t119 = true then (some false) else (if t121 = true then (some false) else (if bt122.1 = (-1) then (if bt122.2 = true then (if bt124.1 = (-9223372036854775808) then (if bt124.2 = true then (if bt126.2 = true then (some false) else (if bt128.2 = true then (some false) else (if bt130.1 = (-9223372036854775807) then (if bt130.2 = true then (if bt132.2 = true then (some false) else (if bt134.1 = 4611686018427387904 then (if bt134.2 = true then (if bt136.2 = true then (some false) else (if bt138.1 = 0 then (if bt138.2 = true then (if bt140.2 = true then (some false) else (if bt142.2 = true then (some false) else (if bt144.1 = 0 then (if bt144.2 = true then (some (!bt146.2)) else (some false)) else (some false)))) else (some false)) else (some false))) else (some false)) else (some false))) else (some false)) else (some false)))) else (some false)) else (some false)) else (some false)) else (some false)))) else (some false)) else (some false))))))))))))))) = some r := H
    have A5 := Aside0.mk A50
    clear A50
    replace H := Option.bind_eq_some_iff.mp H
    obtain ⟨⟨t122, t123⟩, A60, H⟩ := H
    replace H : ((calc_Mul.f k (-9223372036854775808) 1).bind fun bt124 => ((calc_Mul.f k (-9223372036854775808) (-1)).bind fun bt126 => ((calc_Mul.f k (-1) (-9223372036854775808)).bind fun bt128 => ((calc_Mul.f k 9223372036854775807 (-1)).bind fun bt130 => ((calc_Mul.f k 4294967296 2147483648).bind fun bt132 => ((calc_Up.f k 4611686018427387904).bind fun bt134 => ((calc_Up.f k 4611686018427387905).bind fun bt136 => ((calc_Log.f k 1).bind fun bt138 => ((calc_Log.f k 0).bind fun bt140 => ((calc_Log.f k (-9223372036854775808)).bind fun bt142 => ((calc_Round.f k 0 7).bind fun bt144 => ((calc_Round.f k 9223372036854775807 2).bind fun bt146 => (if t116 = 9223372036854775807 then (if t117 = true then (if t119 = true then (some false) else (if t121 = true then (some false) else (if t122 = (-1) then (if t123 = true then (if bt124.1 = (-9223372036854775808) then (if bt124.2 = true then (if bt126.2 = true then (some false) else (if bt128.2 = true then (some false) else (if bt130.1 = (-9223372036854775807) then (if bt130.2 = true then (if bt132.2 = true then (some false) else (if bt134.1 = 4611686018427387904 then (if bt134.2 = true then (if bt136.2 = true then (some false) else (if bt138.1 = 0 then (if bt138.2 = true then (if bt140.2 = true then (some false) else (if bt142.2 = true then (some false) else (if bt144.1 = 0 then (if bt144.2 = true then (some (!bt146.2)) else (some false)) else (some false)))) else (some false)) else (some false))) else (some false)) else (some false))) else (some false)) else (some false)))) else (some false)) else (some false)) else (some false)) else (some false)))) else (some false)) else (some false)))))))))))))) = some r := H
    have A6 := Aside0.mk A60
    clear A60
    replace H := Option.bind_eq_some_iff.mp H
    obtain ⟨⟨t124, t125⟩, A70, H⟩ := H
    replace H : ((calc_Mul.f k (-9223372036854775808) (-1)).bind fun bt126 => ((calc_Mul.f k (-1) (-9223372036854775808)).bind fun bt128 => ((calc_Mul.f k 9223372036854775807 (-1)).bind fun bt130 => ((calc_Mul.f k 4294967296 2147483648).bind fun bt132 => ((calc_Up.f k 4611686018427387904).bind fun bt134 => ((calc_Up.f k 4611686018427387905).bind fun bt136 => ((calc_Log.f k 1).bind fun bt138 => ((calc_Log.f k 0).bind fun bt140 => ((calc_Log.f k (-9223372036854775808)).bind fun bt142 => ((calc_Round.f k 0 7).bind fun bt144 => ((calc_Round.f k 9223372036854775807 2).bind fun bt146 => (if t116 = 9223372036854775807 then (if t117 = true then (if t119 = true then (some false) else (if t121 = true then (some false) else (if t122 = (-1) then (if t123 = true then (if t124 = (-9223372036854775808) then (if t125 = true then (if bt126.2 = true then (some false) else (if bt128.2 = true then (some false) else (if bt130.1 = (-9223372036854775807) then (if bt130.2 = true then (if bt132.2 = true then (some false) else (if bt134.1 = 4611686018427387904 then (if bt134.2 = true then (if bt136.2 = true then (some false) else (if bt138.1 = 0 then (if bt138.2 = true then (if bt140.2 = true then (some false) else (if bt142.2 = true then (some false) else (if bt144.1 = 0 then (if bt144.2 = true then (some (!bt146.2)) else (some false)) else (some false)))) else (some false)) else (some false))) else (some false)) else (some false))) else (some false)) else (some false)))) else (some false)) else (some false)) else (some false)) else (some false)))) else (some false)) else (some false))))))))))))) = some r := H
    have A7 := Aside0.mk A70
    clear A70
    replace H := Option.bind_eq_some_iff.mp H
    obtain ⟨⟨t126, t127⟩, A80, H⟩ := H
    replace H : ((calc_Mul.f k (-1) (-9223372036854775808)).bind fun bt128 => ((calc_Mul.f k 9223372036854775807 (-1)).bind fun bt130 => ((calc_Mul.f k 4294967296 2147483648).bind fun bt132 => ((calc_Up.f k 4611686018427387904).bind fun bt134 => ((calc_Up.f k 4611686018427387905).bind fun bt136 => ((calc_Log.f k 1).bind fun bt138 => ((calc_Log.f k 0).bind fun bt140 => ((calc_Log.f k (-9223372036854775808)).bind fun bt142 => ((calc_Round.f k 0 7).bind fun bt144 => ((calc_Round.f k 9223372036854775807 2).bind fun bt146 => (if t116 = 9223372036854775807 then (if t117 = true then (if t119 = true then (some false) else (if t121 = true then (some false) else (if t122 = (-1) then (if t123 = true then (if t124 = (-9223372036854775808) then (if t125 = true then (if t127 = true then (some false) else (if bt128.2 = true then (some false) else (if bt130.1 = (-9223372036854775807) then (if bt130.2 = true then (if bt132.2 = true then (some false) else (if bt134.1 = 4611686018427387904 then (if bt134.2 = true then (if bt136.2 = true then (some false) else (if bt138.1 = 0 then (if bt138.2 = true then (if bt140.2 = true then (some false) else (if bt142.2 = true then (some false) else (if bt144.1 = 0 then (if bt144.2 = true then (some (!bt146.2)) else (some false)) else (some false)))) else (some false)) else (some false))) else (some false)) else (some false))) else (some false)) else (some false)))) else (some false)) else (some false)) else (some false)) else (some false)))) else (some false)) else (some false)))))))))))) = some r := H
    have A8 := Aside0.mk A80
    clear A80
    replace H := Option.bind_eq_some_iff.mp H
    obtain ⟨⟨t128, t129⟩, A90, H⟩ := H
    replace H : ((calc_Mul.f k 9223372036854775807 (-1)).bind fun bt130 => ((calc_Mul.f k 4294967296 2147483648).bind fun bt132 => ((calc_Up.f k 4611686018427387904).bind fun bt134 => ((calc_Up.f k 4611686018427387905).bind fun bt136 => ((calc_Log.f k 1).bind fun bt138 => ((calc_Log.f k 0).bind fun bt140 => ((calc_Log.f k (-9223372036854775808)).bind fun bt142 => ((calc_Round.f k 0 7).bind fun bt144 => ((calc_Round.f k 9223372036854775807 2).bind fun bt146 => (if t116 = 9223372036854775807 then (if t117 = true then (if t119 = true then (some false) else (if t121 = true then (some false) else (if t122 = (-1) then (if t123 = true then (if t124 = (-9223372036854775808) then (if t125 = true then (if t127 = true then (some false) else (if t129 = true then (some false) else (if bt130.1 = (-9223372036854775807) then (if bt130.2 = true then (if bt132.2 = true then (some false) else (if bt134.1 = 4611686018427387904 then (if bt134.2 = true then (if bt136.2 = true then (some false) else (if bt138.1 = 0 then (if bt138.2 = true then (if bt140.2 = true then (some false) else (if bt142.2 = true then (some false) else (if bt144.1 = 0 then (if bt144.2 = true then (some (!bt146.2)) else (some false)) else (some false)))) else (some false)) else (some false))) else (some false)) else (some false))) else (some false)) else (some false)))) else (some false)) else (some false)) else (some false)) else (some false)))) else (some false)) else (some false))))))))))) = some r := H
    have A9 := Aside0.mk A90
    clear A90
    replace H := Option.bind_eq_some_iff.mp H
    obtain ⟨⟨t130, t131⟩, A100, H⟩ := H
    replace H : ((calc_Mul.f k 4294967296 2147483648).bind fun bt132 => ((calc_Up.f k 4611686018427387904).bind fun bt134 => ((calc_Up.f k 4611686018427387905).bind fun bt136 => ((calc_Log.f k 1).bind fun bt138 => ((calc_Log.f k 0).bind fun bt140 => ((calc_Log.f k (-9223372036854775808)).bind fun bt142 => ((calc_Round.f k 0 7).bind fun bt144 => ((calc_Round.f k 9223372036854775807 2).bind fun bt146 => (if t116 = 9223372036854775807 then (if t117 = true then (if t119 = true then (some false) else (if t121 = true then (some false) else (if t122 = (-1) then (if t123 = true then (if t124 = (-9223372036854775808) then (if t125 = true then (if t127 = true then (some false) else (if t129 = true then (some false) else (if t130 = (-9223372036854775807) then (if t131 = true then (if bt132.2 = true then (some false) else (if bt134.1 = 4611686018427387904 then (if bt134.2 = true then (if bt136.2 = true then (some false) else (if bt138.1 = 0 then (if bt138.2 = true then (if bt140.2 = true then (some false) else (if bt142.2 = true then (some false) else (if bt144.1 = 0 then (if bt144.2 = true then (some (!bt146.2)) else (some false)) else (some false)))) else (some false)) else (some false))) else (some false)) else (some false))) else (some false)) else (some false)))) else (some false)) else (some false)) else (some false)) else (some false)))) else (some false)) else (some false)))))))))) = some r := H
    have A10 := Aside0.mk A100
    clear A100
    replace H := Option.bind_eq_some_iff.mp H
    obtain ⟨⟨t132, t133⟩, A110, H⟩ := H
    replace H : ((calc_Up.f k 4611686018427387904).bind fun bt134 => ((calc_Up.f k 4611686018427387905).bind fun bt136 => ((calc_Log.f k 1).bind fun bt138 => ((calc_Log.f k 0).bind fun bt140 => ((calc_Log.f k (-9223372036854775808)).bind fun bt142 => ((calc_Round.f k 0 7).bind fun bt144 => ((calc_Round.f k 9223372036854775807 2).bind fun bt146 => (if t116 = 9223372036854775807 then (if t117 = true then (if t119 = true then (some false) else (if t121 = true then (some false) else (if t122 = (-1) then (if t123 = true then (if t124 = (-9223372036854775808) then (if t125 = true then (if t127 = true then (some false) else (if t129 = true then (some false) else (if t130 = (-9223372036854775807) then (if t131 = true then (if t133 = true then (some false) else (if bt134.1 = 4611686018427387904 then (if bt134.2 = true then (if bt136.2 = true then (some false) else (if bt138.1 = 0 then (if bt138.2 = true then (if bt140.2 = true then (some false) else (if bt142.2 = true then (some false) else (if bt144.1 = 0 then (if bt144.2 = true then (some (!bt146.2)) else (some false)) else (some false)))) else (some false)) else (some false))) else (some false)) else (some false))) else (some false)) else (some false)))) else (some false)) else (some false)) else (some false)) else (some false)))) else (some false)) else (some false))))))))) = some r := H
    have A11 := Aside0.mk A110
    clear A110
    replace H := Option.bind_eq_some_iff.mp H
    obtain ⟨⟨t134, t135⟩, A120, H⟩ := H
    replace H : ((calc_Up.f k 4611686018427387905).bind fun bt136 => ((calc_Log.f k 1).bind fun bt138 => ((calc_Log.f k 0).bind fun bt140 => ((calc_Log.f k (-9223372036854775808)).bind fun bt142 => ((calc_Round.f k 0 7).bind fun bt144 => ((calc_Round.f k 9223372036854775807 2).bind fun bt146 => (if t116 = 9223372036854775807 then (if t117 = true then (if t119 = true then (some false) else (if t121 = true then (some false) else (if t122 = (-1) then (if t123 = true then (if t124 = (-9223372036854775808) then (if t125 = true then (if t127 = true then (some false) else (if t129 = true then (some false) else (if t130 = (-9223372036854775807) then (if t131 = true then (if t133 = true then (some false) else (if t134 = 4611686018427387904 then (if t135 = true then (if bt136.2 = true then (some false) else (if bt138.1 = 0 then (if bt138.2 = true then (if bt140.2 = true then (some false) else (if bt142.2 = true then (some false) else (if bt144.1 = 0 then (if bt144.2 = true then (some (!bt146.2)) else (some false)) else (some false)))) else (some false)) else (some false))) else (some false)) else (some false))) else (some false)) else (some false)))) else (some false)) else (some false)) else (some false)) else (some false)))) else (some false)) else (some false)))))))) = some r := H
    have A12 := Aside0.mk A120
    clear A120
    replace H := Option.bind_eq_some_iff.mp H
    obtain ⟨⟨t136, t137⟩, A130, H⟩ := H
    replace H : ((calc_Log.f k 1).bind fun bt138 => ((calc_Log.f k 0).bind fun bt140 => ((calc_Log.f k (-9223372036854775808)).bind fun bt142 => ((calc_Round.f k 0 7).bind fun bt144 => ((calc_Round.f k 9223372036854775807 2).bind fun bt146 => (if t116 = 9223372036854775807 then (if t117 = true then (if t119 = true then (some false) else (if t121 = true then (some false) else (if t122 = (-1) then (if t123 = true then (if t124 = (-9223372036854775808) then (if t125 = true then (if t127 = true then (some false) else (if t129 = true then (some false) else (if t130 = (-9223372036854775807) then (if t131 = true then (if t133 = true then (some false) else (if t134 = 4611686018427387904 then (if t135 = true then (if t137 = true then (some false) else (if bt138.1 = 0 then (if bt138.2 = true then (if bt140.2 = true then (some false) else (if bt142.2 = true then (some false) else (if bt144.1 = 0 then (if bt144.2 = true then (some (!bt146.2)) else (some false)) else (some false)))) else (some false)) else (some false))) else (some false)) else (some false))) else (some false)) else (some false)))) else (some false)) else (some false)) else (some false)) else (some false)))) else (some false)) else (some false))))))) = some r := H
    have A13 := Aside0.mk A130
    clear A130
    replace H := Option.bind_eq_some_iff.mp H
    obtain ⟨⟨t138, t139⟩, A140, H⟩ := H
    replace H : ((calc_Log.f k 0).bind fun bt140 => ((calc_Log.f k (-9223372036854775808)).bind fun bt142 => ((calc_Round.f k 0 7).bind fun bt144 => ((calc_Round.f k 9223372036854775807 2).bind fun bt146 => (if t116 = 9223372036854775807 then (if t117 = true then (if t119 = true then (some false) else (if t121 = true then (some false) else (if t122 = (-1) then (if t123 = true then (if t124 = (-9223372036854775808) then (if t125 = true then (if t127 = true then (some false) else (if t129 = true then (some false) else (if t130 = (-9223372036854775807) then (if t131 = true then (if t133 = true then (some false) else (if t134 = 4611686018427387904 then (if t135 = true then (if t137 = true then (some false) else (if t138 = 0 then (if t139 = true then (if bt140.2 = true then (some false) else (if bt142.2 = true then (some false) else (if bt144.1 = 0 then (if bt144.2 = true then (some (!bt146.2)) else (some false)) else (some false)))) else (some false)) else (some false))) else (some false)) else (some false))) else (some false)) else (some false)))) else (some false)) else (some false)) else (some false)) else (some false)))) else (some false)) else (some false)))))) = some r := H
    have A14 := Aside0.mk A140
    clear A140
    replace H := Option.bind_eq_some_iff.mp H
    obtain ⟨⟨t140, t141⟩, A150, H⟩ := H
    replace H : ((calc_Log.f k (-9223372036854775808)).bind fun bt142 => ((calc_Round.f k 0 7).bind fun bt144 => ((calc_Round.f k 9223372036854775807 2).bind fun bt146 => (if t116 = 9223372036854775807 then (if t117 = true then (if t119 = true then (some false) else (if t121 = true then (some false) else (if t122 = (-1) then (if t123 = true then (if t124 = (-9223372036854775808) then (if t125 = true then (if t127 = true then (some false) else (if t129 = true then (some false) else (if t130 = (-9223372036854775807) then (if t131 = true then (if t133 = true then (some false) else (if t134 = 4611686018427387904 then (if t135 = true then (if t137 = true then (some false) else (if t138 = 0 then (if t139 = true then (if t141 = true then (some false) else (if bt142.2 = true then (some false) else (if bt144.1 = 0 then (if bt144.2 = true then (some (!bt146.2)) else (some false)) else (some false)))) else (some false)) else (some false))) else (some false)) else (some false))) else (some false)) else (some false)))) else (some false)) else (some false)) else (some false)) else (some false)))) else (some false)) else (some false))))) = some r := H
    have A15 := Aside0.mk A150
    clear A150
    replace H := Option.bind_eq_some_iff.mp H
    obtain ⟨⟨t142, t143⟩, A160, H⟩ := H
    replace H : ((calc_Round.f k 0 7).bind fun bt144 => ((calc_Round.f k 9223372036854775807 2).bind fun bt146 => (if t116 = 9223372036854775807 then (if t117 = true then (if t119 = true then (some false) else (if t121 = true then (some false) else (if t122 = (-1) then (if t123 = true then (if t124 = (-9223372036854775808) then (if t125 = true then (if t127 = true then (some false) else (if t129 = true then (some false) else (if t130 = (-9223372036854775807) then (if t131 = true then (if t133 = true then (some false) else (if t134 = 4611686018427387904 then (if t135 = true then (if t137 = true then (some false) else (if t138 = 0 then (if t139 = true then (if t141 = true then (some false) else (if t143 = true then (some false) else (if bt144.1 = 0 then (if bt144.2 = true then (some (!bt146.2)) else (some false)) else (some false)))) else (some false)) else (some false))) else (some false)) else (some false))) else (some false)) else (some false)))) else (some false)) else (some false)) else (some false)) else (some false)))) else (some false)) else (some false)))) = some r := H
    have A16 := Aside0.mk A160
    clear A160
    replace H := Option.bind_eq_some_iff.mp H
    obtain ⟨⟨t144, t145⟩, A170, H⟩ := H
    replace H : ((calc_Round.f k 9223372036854775807 2).bind fun bt146 => (if t116 = 9223372036854775807 then (if t117 = true then (if t119 = true then (some false) else (if t121 = true then (some false) else (if t122 = (-1) then (if t123 = true then (if t124 = (-9223372036854775808) then (if t125 = true then (if t127 = true then (some false) else (if t129 = true then (some false) else (if t130 = (-9223372036854775807) then (if t131 = true then (if t133 = true then (some false) else (if t134 = 4611686018427387904 then (if t135 = true then (if t137 = true then (some false) else (if t138 = 0 then (if t139 = true then (if t141 = true then (some false) else (if t143 = true then (some false) else (if t144 = 0 then (if t145 = true then (some (!bt146.2)) else (some false)) else (some false)))) else (some false)) else (some false))) else (some false)) else (some false))) else (some false)) else (some false)))) else (some false)) else (some false)) else (some false)) else (some false)))) else (some false)) else (some false))) = some r := H
    have A17 := Aside0.mk A170
    clear A170
    replace H := Option.bind_eq_some_iff.mp H
    obtain ⟨⟨t146, t147⟩, A180, H⟩ := H
    replace H : (if t116 = 9223372036854775807 then (if t117 = true then (if t119 = true then (some false) else (if t121 = true then (some false) else (if t122 = (-1) then (if t123 = true then (if t124 = (-9223372036854775808) then (if t125 = true then (if t127 = true then (some false) else (if t129 = true then (some false) else (if t130 = (-9223372036854775807) then (if t131 = true then (if t133 = true then (some false) else (if t134 = 4611686018427387904 then (if t135 = true then (if t137 = true then (some false) else (if t138 = 0 then (if t139 = true then (if t141 = true then (some false) else (if t143 = true then (some false) else (if t144 = 0 then (if t145 = true then (some (!t147)) else (some false)) else (some false)))) else (some false)) else (some false))) else (some false)) else (some false))) else (some false)) else (some false)))) else (some false)) else (some false)) else (some false)) else (some false)))) else (some false)) else (some false)) = some r := H
    have A18 := Aside0.mk A180
    clear A180
    by_cases c19 : t116 = 9223372036854775807
    · rw [if_pos c19] at H
      have c19b0 : (t116 == 9223372036854775807) = true := beq_iff_eq.mpr c19
      have c19b1 : (t116 != 9223372036854775807) = false := bne_eq_false_iff_eq.mpr c19
      clear c19
      by_cases c20 : t117 = true
      · subst c20
        have H1 : (if t119 = true then (some false) else (if t121 = true then (some false) else (if t122 = (-1) then (if t123 = true then (if t124 = (-9223372036854775808) then (if t125 = true then (if t127 = true then (some false) else (if t129 = true then (some false) else (if t130 = (-9223372036854775807) then (if t131 = true then (if t133 = true then (some false) else (if t134 = 4611686018427387904 then (if t135 = true then (if t137 = true then (some false) else (if t138 = 0 then (if t139 = true then (if t141 = true then (some false) else (if t143 = true then (some false) else (if t144 = 0 then (if t145 = true then (some (!t147)) else (some false)) else (some false)))) else (some false)) else (some false))) else (some false)) else (some false))) else (some false)) else (some false)))) else (some false)) else (some false)) else (some false)) else (some false)))) = some r := by rw [if_pos rfl] at H; exact H
        clear H
        have H := H1
        clear H1
        by_cases c21 : t119 = true
        · subst c21
          have H1 : (some false) = some r := by rw [if_pos rfl] at H; exact H
          clear H
          have H := H1
          clear H1
          exact absurd ((Option.some.inj H).trans hr_.out) Bool.false_ne_true
        · replace c21 := Bool.eq_false_iff.mpr c21
          subst c21
          have H1 : (if t121 = true then (some false) else (if t122 = (-1) then (if t123 = true then (if t124 = (-9223372036854775808) then (if t125 = true then (if t127 = true then (some false) else (if t129 = true then (some false) else (if t130 = (-9223372036854775807) then (if t131 = true then (if t133 = true then (some false) else (if t134 = 4611686018427387904 then (if t135 = true then (if t137 = true then (some false) else (if t138 = 0 then (if t139 = true then (if t141 = true then (some false) else (if t143 = true then (some false) else (if t144 = 0 then (if t145 = true then (some (!t147)) else (some false)) else (some false)))) else (some false)) else (some false))) else (some false)) else (some false))) else (some false)) else (some false)))) else (some false)) else (some false)) else (some false)) else (some false))) = some r := by rw [if_neg (show ¬ (false = true) by decide)] at H; exact H
          clear H
          have H := H1
          clear H1
          by_cases c22 : t121 = true
          · subst c22
            have H1 : (some false) = some r := by rw [if_pos rfl] at H; exact H
            clear H
            have H := H1
            clear H1
            exact absurd ((Option.some.inj H).trans hr_.out) Bool.false_ne_true
          · replace c22 := Bool.eq_false_iff.mpr c22
            subst c22
            have H1 : (if t122 = (-1) then (if t123 = true then (if t124 = (-9223372036854775808) then (if t125 = true then (if t127 = true then (some false) else (if t129 = true then (some false) else (if t130 = (-9223372036854775807) then (if t131 = true then (if t133 = true then (some false) else (if t134 = 4611686018427387904 then (if t135 = true then (if t137 = true then (some false) else (if t138 = 0 then (if t139 = true then (if t141 = true then (some false) else (if t143 = true then (some false) else (if t144 = 0 then (if t145 = true then (some (!t147)) else (some false)) else (some false)))) else (some false)) else (some false))) else (some false)) else (some false))) else (some false)) else (some false)))) else (some false)) else (some false)) else (some false)) else (some false)) = some r := by rw [if_neg (show ¬ (false = true) by decide)] at H; exact H
            clear H
            have H := H1
            clear H1
            by_cases c23 : t122 = (-1)
            · rw [if_pos c23] at H
              have c23b0 : (t122 == (-1)) = true := beq_iff_eq.mpr c23
              have c23b1 : (t122 != (-1)) = false := bne_eq_false_iff_eq.mpr c23
              clear c23
              by_cases c24 : t123 = true
              · subst c24
                have H1 : (if t124 = (-9223372036854775808) then (if t125 = true then (if t127 = true then (some false) else (if t129 = true then (some false) else (if t130 = (-9223372036854775807) then (if t131 = true then (if t133 = true then (some false) else (if t134 = 4611686018427387904 then (if t135 = true then (if t137 = true then (some false) else (if t138 = 0 then (if t139 = true then (if t141 = true then (some false) else (if t143 = true then (some false) else (if t144 = 0 then (if t145 = true then (some (!t147)) else (some false)) else (some false)))) else (some false)) else (some false))) else (some false)) else (some false))) else (some false)) else (some false)))) else (some false)) else (some false)) = some r := by rw [if_pos rfl] at H; exact H
                clear H
                have H := H1
                clear H1
                by_cases c25 : t124 = (-9223372036854775808)
                · rw [if_pos c25] at H
                  have c25b0 : (t124 == (-9223372036854775808)) = true := beq_iff_eq.mpr c25
                  have c25b1 : (t124 != (-9223372036854775808)) = false := bne_eq_false_iff_eq.mpr c25
                  clear c25
                  by_cases c26 : t125 = true
                  · subst c26
                    have H1 : (if t127 = true then (some false) else (if t129 = true then (some false) else (if t130 = (-9223372036854775807) then (if t131 = true then (if t133 = true then (some false) else (if t134 = 4611686018427387904 then (if t135 = true then (if t137 = true then (some false) else (if t138 = 0 then (if t139 = true then (if t141 = true then (some false) else (if t143 = true then (some false) else (if t144 = 0 then (if t145 = true then (some (!t147)) else (some false)) else (some false)))) else (some false)) else (some false))) else (some false)) else (some false))) else (some false)) else (some false)))) = some r := by rw [if_pos rfl] at H; exact H
                    clear H
                    have H := H1
                    clear H1
                    by_cases c27 : t127 = true
                    · subst c27
                      have H1 : (some false) = some r := by rw [if_pos rfl] at H; exact H
                      clear H
                      have H := H1
                      clear H1
                      exact absurd ((Option.some.inj H).trans hr_.out) Bool.false_ne_true
                    · replace c27 := Bool.eq_false_iff.mpr c27
                      subst c27
                      have H1 : (if t129 = true then (some false) else (if t130 = (-9223372036854775807) then (if t131 = true then (if t133 = true then (some false) else (if t134 = 4611686018427387904 then (if t135 = true then (if t137 = true then (some false) else (if t138 = 0 then (if t139 = true then (if t141 = true then (some false) else (if t143 = true then (some false) else (if t144 = 0 then (if t145 = true then (some (!t147)) else (some false)) else (some false)))) else (some false)) else (some false))) else (some false)) else (some false))) else (some false)) else (some false))) = some r := by rw [if_neg (show ¬ (false = true) by decide)] at H; exact H
                      clear H
                      have H := H1
                      clear H1
                      by_cases c28 : t129 = true
                      · subst c28
                        have H1 : (some false) = some r := by rw [if_pos rfl] at H; exact H
                        clear H
                        have H := H1
                        clear H1
                        exact absurd ((Option.some.inj H).trans hr_.out) Bool.false_ne_true
                      · replace c28 := Bool.eq_false_iff.mpr c28
                        subst c28
                        have H1 : (if t130 = (-9223372036854775807) then (if t131 = true then (if t133 = true then (some false) else (if t134 = 4611686018427387904 then (if t135 = true then (if t137 = true then (some false) else (if t138 = 0 then (if t139 = true then (if t141 = true then (some false) else (if t143 = true then (some false) else (if t144 = 0 then (if t145 = true then (some (!t147)) else (some false)) else (some false)))) else (some false)) else (some false))) else (some false)) else (some false))) else (some false)) else (some false)) = some r := by rw [if_neg (show ¬ (false = true) by decide)] at H; exact H
                        clear H
                        have H := H1
                        clear H1
                        by_cases c29 : t130 = (-9223372036854775807)
                        · rw [if_pos c29] at H
                          have c29b0 : (t130 == (-9223372036854775807)) = true := beq_iff_eq.mpr c29
                          have c29b1 : (t130 != (-9223372036854775807)) = false := bne_eq_false_iff_eq.mpr c29
                          clear c29
                          by_cases c30 : t131 = true
                          · subst c30
                            have H1 : (if t133 = true then (some false) else (if t134 = 4611686018427387904 then (if t135 = true then (if t137 = true then (some false) else (if t138 = 0 then (if t139 = true then (if t141 = true then (some false) else (if t143 = true then (some false) else (if t144 = 0 then (if t145 = true then (some (!t147)) else (some false)) else (some false)))) else (some false)) else (some false))) else (some false)) else (some false))) = some r := by rw [if_pos rfl] at H; exact H
                            clear H
                            have H := H1
                            clear H1
                            by_cases c31 : t133 = true
                            · subst c31
                              have H1 : (some false) = some r := by rw [if_pos rfl] at H; exact H
                              clear H
                              have H := H1
                              clear H1
                              exact absurd ((Option.some.inj H).trans hr_.out) Bool.false_ne_true
                            · replace c31 := Bool.eq_false_iff.mpr c31
                              subst c31
                              have H1 : (if t134 = 4611686018427387904 then (if t135 = true then (if t137 = true then (some false) else (if t138 = 0 then (if t139 = true then (if t141 = true then (some false) else (if t143 = true then (some false) else (if t144 = 0 then (if t145 = true then (some (!t147)) else (some false)) else (some false)))) else (some false)) else (some false))) else (some false)) else (some false)) = some r := by rw [if_neg (show ¬ (false = true) by decide)] at H; exact H
                              clear H
                              have H := H1
                              clear H1
                              by_cases c32 : t134 = 4611686018427387904
                              · rw [if_pos c32] at H
                                have c32b0 : (t134 == 4611686018427387904) = true := beq_iff_eq.mpr c32
                                have c32b1 : (t134 != 4611686018427387904) = false := bne_eq_false_iff_eq.mpr c32
                                clear c32
                                by_cases c33 : t135 = true
                                · subst c33
                                  have H1 : (if t137 = true then (some false) else (if t138 = 0 then (if t139 = true then (if t141 = true then (some false) else (if t143 = true then (some false) else (if t144 = 0 then (if t145 = true then (some (!t147)) else (some false)) else (some false)))) else (some false)) else (some false))) = some r := by rw [if_pos rfl] at H; exact H
                                  clear H
                                  have H := H1
                                  clear H1
                                  by_cases c34 : t137 = true
                                  · subst c34
                                    have H1 : (some false) = some r := by rw [if_pos rfl] at H; exact H
                                    clear H
                                    have H := H1
                                    clear H1
                                    exact absurd ((Option.some.inj H).trans hr_.out) Bool.false_ne_true
                                  · replace c34 := Bool.eq_false_iff.mpr c34
                                    subst c34
                                    have H1 : (if t138 = 0 then (if t139 = true then (if t141 = true then (some false) else (if t143 = true then (some false) else (if t144 = 0 then (if t145 = true then (some (!t147)) else (some false)) else (some false)))) else (some false)) else (some false)) = some r := by rw [if_neg (show ¬ (false = true) by decide)] at H; exact H
                                    clear H
                                    have H := H1
                                    clear H1
                                    by_cases c35 : t138 = 0
                                    · rw [if_pos c35] at H
                                      have c35b0 : (t138 == 0) = true := beq_iff_eq.mpr c35
                                      have c35b1 : (t138 != 0) = false := bne_eq_false_iff_eq.mpr c35
                                      clear c35
                                      by_cases c36 : t139 = true
                                      · subst c36
                                        have H1 : (if t141 = true then (some false) else (if t143 = true then (some false) else (if t144 = 0 then (if t145 = true then (some (!t147)) else (some false)) else (some false)))) = some r := by rw [if_pos rfl] at H; exact H
                                        clear H
                                        have H := H1
                                        clear H1
                                        by_cases c37 : t141 = true
                                        · subst c37
                                          have H1 : (some false) = some r := by rw [if_pos rfl] at H; exact H
                                          clear H
                                          have H := H1
                                          clear H1
                                          exact absurd ((Option.some.inj H).trans hr_.out) Bool.false_ne_true
                                        · replace c37 := Bool.eq_false_iff.mpr c37
                                          subst c37
                                          have H1 : (if t143 = true then (some false) else (if t144 = 0 then (if t145 = true then (some (!t147)) else (some false)) else (some false))) = some r := by rw [if_neg (show ¬ (false = true) by decide)] at H; exact H
                                          clear H
                                          have H := H1
                                          clear H1
                                          by_cases c38 : t143 = true
                                          · subst c38
                                            have H1 : (some false) = some r := by rw [if_pos rfl] at H; exact H
                                            clear H
                                            have H := H1
                                            clear H1
                                            exact absurd ((Option.some.inj H).trans hr_.out) Bool.false_ne_true
                                          · replace c38 := Bool.eq_false_iff.mpr c38
                                            subst c38
                                            have H1 : (if t144 = 0 then (if t145 = true then (some (!t147)) else (some false)) else (some false)) = some r := by rw [if_neg (show ¬ (false = true) by decide)] at H; exact H
                                            clear H
                                            have H := H1
                                            clear H1
                                            by_cases c39 : t144 = 0
                                            · rw [if_pos c39] at H
                                              have c39b0 : (t144 == 0) = true := beq_iff_eq.mpr c39
                                              have c39b1 : (t144 != 0) = false := bne_eq_false_iff_eq.mpr c39
                                              clear c39
                                              by_cases c40 : t145 = true
                                              · subst c40
                                                have H1 : (some (!t147)) = some r := by rw [if_pos rfl] at H; exact H
                                                clear H
                                                have H := H1
                                                clear H1
                                                obtain rfl := Option.some.inj H
                                                go_enter Try.func7, Try.ntmps7
                                                go_wp2_with (first | ((with_reducible refine gate_callee (f := 10) rfl ?_); refine goesL_ (some 35) rfl rfl Try.func10 (by kernel_rfl) rfl #[] rfl (by (try simp only [List.map_toArray, List.map_cons, List.map_nil]); first | done | rfl | (simp only [List.length_drop, List.length_take]; rfl)) ?_; (with_reducible refine (hodmanlaw1_begun.calls k  true _ A1.out).mono ?_); rintro e w' ⟨rfl, ⟨nd, rfl⟩⟩; refine ⟨_, rfl, ?_⟩) | ((with_reducible refine gate_callee (f := 11) rfl ?_); refine goesL_ (some 39) rfl rfl Try.func11 (by kernel_rfl) rfl #[.int .i64 9223372036854775807, .int .i64 0] rfl (by (try simp only [List.map_toArray, List.map_cons, List.map_nil]); first | done | rfl | (simp only [List.length_drop, List.length_take]; rfl)) ?_; (with_reducible refine (calc_Add.calls 9223372036854775807 0 t116 true _ A3.out).mono ?_); rintro e w' ⟨rfl, ⟨nd, rfl⟩⟩; refine ⟨_, rfl, ?_⟩) | ((with_reducible refine gate_callee (f := 11) rfl ?_); refine goesL_ (some 44) rfl rfl Try.func11 (by kernel_rfl) rfl #[.int .i64 9223372036854775807, .int .i64 1] rfl (by (try simp only [List.map_toArray, List.map_cons, List.map_nil]); first | done | rfl | (simp only [List.length_drop, List.length_take]; rfl)) ?_; (with_reducible refine (calc_Add.calls 9223372036854775807 1 t118 false _ A4.out).mono ?_); rintro e w' ⟨rfl, ⟨nd, rfl⟩⟩; refine ⟨_, rfl, ?_⟩) | ((with_reducible refine gate_callee (f := 11) rfl ?_); refine goesL_ (some 49) rfl rfl Try.func11 (by kernel_rfl) rfl #[.int .i64 (-9223372036854775808), .int .i64 (-1)] rfl (by (try simp only [List.map_toArray, List.map_cons, List.map_nil]); first | done | rfl | (simp only [List.length_drop, List.length_take]; rfl)) ?_; (with_reducible refine (calc_Add.calls (-9223372036854775808) (-1) t120 false _ A5.out).mono ?_); rintro e w' ⟨rfl, ⟨nd, rfl⟩⟩; refine ⟨_, rfl, ?_⟩) | ((with_reducible refine gate_callee (f := 11) rfl ?_); refine goesL_ (some 55) rfl rfl Try.func11 (by kernel_rfl) rfl #[.int .i64 9223372036854775807, .int .i64 (-9223372036854775808)] rfl (by (try simp only [List.map_toArray, List.map_cons, List.map_nil]); first | done | rfl | (simp only [List.length_drop, List.length_take]; rfl)) ?_; (with_reducible refine (calc_Add.calls 9223372036854775807 (-9223372036854775808) t122 true _ A6.out).mono ?_); rintro e w' ⟨rfl, ⟨nd, rfl⟩⟩; refine ⟨_, rfl, ?_⟩) | ((with_reducible refine gate_callee (f := 13) rfl ?_); refine goesL_ (some 60) rfl rfl Try.func13 (by kernel_rfl) rfl #[.int .i64 (-9223372036854775808), .int .i64 1] rfl (by (try simp only [List.map_toArray, List.map_cons, List.map_nil]); first | done | rfl | (simp only [List.length_drop, List.length_take]; rfl)) ?_; (with_reducible refine (calc_Mul.calls k (-9223372036854775808) 1 t124 true _ A7.out).mono ?_); rintro e w' ⟨rfl, ⟨nd, rfl⟩⟩; refine ⟨_, rfl, ?_⟩) | ((with_reducible refine gate_callee (f := 13) rfl ?_); refine goesL_ (some 65) rfl rfl Try.func13 (by kernel_rfl) rfl #[.int .i64 (-9223372036854775808), .int .i64 (-1)] rfl (by (try simp only [List.map_toArray, List.map_cons, List.map_nil]); first | done | rfl | (simp only [List.length_drop, List.length_take]; rfl)) ?_; (with_reducible refine (calc_Mul.calls k (-9223372036854775808) (-1) t126 false _ A8.out).mono ?_); rintro e w' ⟨rfl, ⟨nd, rfl⟩⟩; refine ⟨_, rfl, ?_⟩) | ((with_reducible refine gate_callee (f := 13) rfl ?_); refine goesL_ (some 70) rfl rfl Try.func13 (by kernel_rfl) rfl #[.int .i64 (-1), .int .i64 (-9223372036854775808)] rfl (by (try simp only [List.map_toArray, List.map_cons, List.map_nil]); first | done | rfl | (simp only [List.length_drop, List.length_take]; rfl)) ?_; (with_reducible refine (calc_Mul.calls k (-1) (-9223372036854775808) t128 false _ A9.out).mono ?_); rintro e w' ⟨rfl, ⟨nd, rfl⟩⟩; refine ⟨_, rfl, ?_⟩) | ((with_reducible refine gate_callee (f := 13) rfl ?_); refine goesL_ (some 75) rfl rfl Try.func13 (by kernel_rfl) rfl #[.int .i64 9223372036854775807, .int .i64 (-1)] rfl (by (try simp only [List.map_toArray, List.map_cons, List.map_nil]); first | done | rfl | (simp only [List.length_drop, List.length_take]; rfl)) ?_; (with_reducible refine (calc_Mul.calls k 9223372036854775807 (-1) t130 true _ A10.out).mono ?_); rintro e w' ⟨rfl, ⟨nd, rfl⟩⟩; refine ⟨_, rfl, ?_⟩) | ((with_reducible refine gate_callee (f := 13) rfl ?_); refine goesL_ (some 79) rfl rfl Try.func13 (by kernel_rfl) rfl #[.int .i64 4294967296, .int .i64 2147483648] rfl (by (try simp only [List.map_toArray, List.map_cons, List.map_nil]); first | done | rfl | (simp only [List.length_drop, List.length_take]; rfl)) ?_; (with_reducible refine (calc_Mul.calls k 4294967296 2147483648 t132 false _ A11.out).mono ?_); rintro e w' ⟨rfl, ⟨nd, rfl⟩⟩; refine ⟨_, rfl, ?_⟩) | ((with_reducible refine gate_callee (f := 17) rfl ?_); refine goesL_ (some 83) rfl rfl Try.func17 (by kernel_rfl) rfl #[.int .i64 4611686018427387904] rfl (by (try simp only [List.map_toArray, List.map_cons, List.map_nil]); first | done | rfl | (simp only [List.length_drop, List.length_take]; rfl)) ?_; (with_reducible refine (calc_Up.calls k 4611686018427387904 t134 true _ A12.out).mono ?_); rintro e w' ⟨rfl, ⟨nd, rfl⟩⟩; refine ⟨_, rfl, ?_⟩) | ((with_reducible refine gate_callee (f := 17) rfl ?_); refine goesL_ (some 87) rfl rfl Try.func17 (by kernel_rfl) rfl #[.int .i64 4611686018427387905] rfl (by (try simp only [List.map_toArray, List.map_cons, List.map_nil]); first | done | rfl | (simp only [List.length_drop, List.length_take]; rfl)) ?_; (with_reducible refine (calc_Up.calls k 4611686018427387905 t136 false _ A13.out).mono ?_); rintro e w' ⟨rfl, ⟨nd, rfl⟩⟩; refine ⟨_, rfl, ?_⟩) | ((with_reducible refine gate_callee (f := 19) rfl ?_); refine goesL_ (some 91) rfl rfl Try.func19 (by kernel_rfl) rfl #[.int .i64 1] rfl (by (try simp only [List.map_toArray, List.map_cons, List.map_nil]); first | done | rfl | (simp only [List.length_drop, List.length_take]; rfl)) ?_; (with_reducible refine (calc_Log.calls k 1 t138 true _ A14.out).mono ?_); rintro e w' ⟨rfl, ⟨nd, rfl⟩⟩; refine ⟨_, rfl, ?_⟩) | ((with_reducible refine gate_callee (f := 19) rfl ?_); refine goesL_ (some 95) rfl rfl Try.func19 (by kernel_rfl) rfl #[.int .i64 0] rfl (by (try simp only [List.map_toArray, List.map_cons, List.map_nil]); first | done | rfl | (simp only [List.length_drop, List.length_take]; rfl)) ?_; (with_reducible refine (calc_Log.calls k 0 t140 false _ A15.out).mono ?_); rintro e w' ⟨rfl, ⟨nd, rfl⟩⟩; refine ⟨_, rfl, ?_⟩) | ((with_reducible refine gate_callee (f := 19) rfl ?_); refine goesL_ (some 100) rfl rfl Try.func19 (by kernel_rfl) rfl #[.int .i64 (-9223372036854775808)] rfl (by (try simp only [List.map_toArray, List.map_cons, List.map_nil]); first | done | rfl | (simp only [List.length_drop, List.length_take]; rfl)) ?_; (with_reducible refine (calc_Log.calls k (-9223372036854775808) t142 false _ A16.out).mono ?_); rintro e w' ⟨rfl, ⟨nd, rfl⟩⟩; refine ⟨_, rfl, ?_⟩) | ((with_reducible refine gate_callee (f := 15) rfl ?_); refine goesL_ (some 104) rfl rfl Try.func15 (by kernel_rfl) rfl #[.int .i64 0, .int .i64 7] rfl (by (try simp only [List.map_toArray, List.map_cons, List.map_nil]); first | done | rfl | (simp only [List.length_drop, List.length_take]; rfl)) ?_; (with_reducible refine (calc_Round.calls k 0 7 t144 true _ A17.out).mono ?_); rintro e w' ⟨rfl, ⟨nd, rfl⟩⟩; refine ⟨_, rfl, ?_⟩) | ((with_reducible refine gate_callee (f := 15) rfl ?_); refine goesL_ (some 109) rfl rfl Try.func15 (by kernel_rfl) rfl #[.int .i64 9223372036854775807, .int .i64 2] rfl (by (try simp only [List.map_toArray, List.map_cons, List.map_nil]); first | done | rfl | (simp only [List.length_drop, List.length_take]; rfl)) ?_; (with_reducible refine (calc_Round.calls k 9223372036854775807 2 t146 t147 _ A18.out).mono ?_); rintro e w' ⟨rfl, ⟨nd, rfl⟩⟩; refine ⟨_, rfl, ?_⟩))
                                                go_ret
                                                exact ⟨by first | rfl | (simp; done) | (simp [*]; done), by repeat (first | exact Drawn0.refl _ | apply Drawn0.step)⟩
                                              · replace c40 := Bool.eq_false_iff.mpr c40
                                                subst c40
                                                have H1 : (some false) = some r := by rw [if_neg (show ¬ (false = true) by decide)] at H; exact H
                                                clear H
                                                have H := H1
                                                clear H1
                                                exact absurd ((Option.some.inj H).trans hr_.out) Bool.false_ne_true
                                            · rw [if_neg c39] at H
                                              have c39b0 : (t144 == 0) = false := beq_eq_false_iff_ne.mpr c39
                                              have c39b1 : (t144 != 0) = true := bne_iff_ne.mpr c39
                                              exact absurd ((Option.some.inj H).trans hr_.out) Bool.false_ne_true
                                      · replace c36 := Bool.eq_false_iff.mpr c36
                                        subst c36
                                        have H1 : (some false) = some r := by rw [if_neg (show ¬ (false = true) by decide)] at H; exact H
                                        clear H
                                        have H := H1
                                        clear H1
                                        exact absurd ((Option.some.inj H).trans hr_.out) Bool.false_ne_true
                                    · rw [if_neg c35] at H
                                      have c35b0 : (t138 == 0) = false := beq_eq_false_iff_ne.mpr c35
                                      have c35b1 : (t138 != 0) = true := bne_iff_ne.mpr c35
                                      exact absurd ((Option.some.inj H).trans hr_.out) Bool.false_ne_true
                                · replace c33 := Bool.eq_false_iff.mpr c33
                                  subst c33
                                  have H1 : (some false) = some r := by rw [if_neg (show ¬ (false = true) by decide)] at H; exact H
                                  clear H
                                  have H := H1
                                  clear H1
                                  exact absurd ((Option.some.inj H).trans hr_.out) Bool.false_ne_true
                              · rw [if_neg c32] at H
                                have c32b0 : (t134 == 4611686018427387904) = false := beq_eq_false_iff_ne.mpr c32
                                have c32b1 : (t134 != 4611686018427387904) = true := bne_iff_ne.mpr c32
                                exact absurd ((Option.some.inj H).trans hr_.out) Bool.false_ne_true
                          · replace c30 := Bool.eq_false_iff.mpr c30
                            subst c30
                            have H1 : (some false) = some r := by rw [if_neg (show ¬ (false = true) by decide)] at H; exact H
                            clear H
                            have H := H1
                            clear H1
                            exact absurd ((Option.some.inj H).trans hr_.out) Bool.false_ne_true
                        · rw [if_neg c29] at H
                          have c29b0 : (t130 == (-9223372036854775807)) = false := beq_eq_false_iff_ne.mpr c29
                          have c29b1 : (t130 != (-9223372036854775807)) = true := bne_iff_ne.mpr c29
                          exact absurd ((Option.some.inj H).trans hr_.out) Bool.false_ne_true
                  · replace c26 := Bool.eq_false_iff.mpr c26
                    subst c26
                    have H1 : (some false) = some r := by rw [if_neg (show ¬ (false = true) by decide)] at H; exact H
                    clear H
                    have H := H1
                    clear H1
                    exact absurd ((Option.some.inj H).trans hr_.out) Bool.false_ne_true
                · rw [if_neg c25] at H
                  have c25b0 : (t124 == (-9223372036854775808)) = false := beq_eq_false_iff_ne.mpr c25
                  have c25b1 : (t124 != (-9223372036854775808)) = true := bne_iff_ne.mpr c25
                  exact absurd ((Option.some.inj H).trans hr_.out) Bool.false_ne_true
              · replace c24 := Bool.eq_false_iff.mpr c24
                subst c24
                have H1 : (some false) = some r := by rw [if_neg (show ¬ (false = true) by decide)] at H; exact H
                clear H
                have H := H1
                clear H1
                exact absurd ((Option.some.inj H).trans hr_.out) Bool.false_ne_true
            · rw [if_neg c23] at H
              have c23b0 : (t122 == (-1)) = false := beq_eq_false_iff_ne.mpr c23
              have c23b1 : (t122 != (-1)) = true := bne_iff_ne.mpr c23
              exact absurd ((Option.some.inj H).trans hr_.out) Bool.false_ne_true
      · replace c20 := Bool.eq_false_iff.mpr c20
        subst c20
        have H1 : (some false) = some r := by rw [if_neg (show ¬ (false = true) by decide)] at H; exact H
        clear H
        have H := H1
        clear H1
        exact absurd ((Option.some.inj H).trans hr_.out) Bool.false_ne_true
    · rw [if_neg c19] at H
      have c19b0 : (t116 == 9223372036854775807) = false := beq_eq_false_iff_ne.mpr c19
      have c19b1 : (t116 != 9223372036854775807) = true := bne_iff_ne.mpr c19
      exact absurd ((Option.some.inj H).trans hr_.out) Bool.false_ne_true
  · replace c2 := Bool.eq_false_iff.mpr c2
    subst c2
    have H1 : (some false) = some r := by rw [if_neg (show ¬ (false = true) by decide)] at H; exact H
    clear H
    have H := H1
    clear H1
    exact absurd ((Option.some.inj H).trans hr_.out) Bool.false_ne_true

/-- THE ONE PURE STATEMENT of hodmanlaw1_CalcForms: yours. -/
def hodmanlaw1_CalcForms.Pure : Prop := ∃ k, hodmanlaw1_CalcForms.f k  = some true
theorem hodmanlaw1_CalcForms.walk (P : hodmanlaw1_CalcForms.Pure)  (w : World)  :
    Calls Try.prog 7 #[] w fun e w' => e = .returned (.bool true) ∧ Below w.heap.size w w' := by
  obtain ⟨k, h⟩ := P  
  refine (hodmanlaw1_CalcForms.calls k  true w h ⟨rfl⟩).mono ?_
  rintro e w' ⟨rfl, hd⟩
  exact ⟨rfl, hd.below⟩

end Go.Proofs.Ytikonphhbfilfaa.PCalcForms
