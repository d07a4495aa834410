-- Written by a program of this project (a patched copy of the print): the machine's side of a law. Lean checks it.
import Derived.Test.YtikonphhbfilfaaPCalcPowersx0
import Derived.Test.YtikonphhbfilfaaPCalcPowersx1
namespace Go.Proofs.Ytikonphhbfilfaa.PCalcPowers
open Go.RowKit Go.Proofs.YtikonphhbfilfaaW.PrintWords Go.Proofs.YtikonphhbfilfaaW.PrintLast Go.Proofs.YtikonphhbfilfaaW.PrintMore
attribute [local go_sem] max2_int min2_int max_two min_two max_three min_three max_four min_four   -- for this text's walks alone
set_option linter.unusedVariables false
set_option linter.unusedSimpArgs false

/-! ### hodmanlaw1_begun: function 10 -/
def hodmanlaw1_begun.f (k : Nat)  : Option (Bool) := (calc_Add.f 2 3).bind fun bt103 => ((calc_Mul.f k 2 3).bind fun bt105 => ((calc_Up.f k 5).bind fun bt107 => ((calc_Log.f k 8).bind fun bt109 => ((calc_Round.f k 5 4).bind fun bt111 => ((calc_Add.f 4611686018427387904 4611686018427387904).bind fun bt113 => (if bt103.1 = 5 then (if bt103.2 = true then (if bt105.1 = 6 then (if bt105.2 = true then (if bt107.1 = 8 then (if bt107.2 = true then (if bt109.1 = 3 then (if bt109.2 = true then (if bt111.1 = 8 then (if bt111.2 = true then (some (!bt113.2)) else (some false)) else (some false)) else (some false)) else (some false)) else (some false)) else (some false)) else (some false)) else (some false)) else (some false)) else (some false)))))))
theorem hodmanlaw1_begun.mono : ∀ k, LeO (hodmanlaw1_begun.f k ) (hodmanlaw1_begun.f (k + 1) ) := by
  intro  k
  unfold hodmanlaw1_begun.f
  repeat' first
      | (with_reducible exact calc_Log.mono _ _)
      | (with_reducible exact calc_Mul.mono _ _ _)
      | (with_reducible exact calc_Round.mono _ _ _)
      | (with_reducible exact calc_Up.mono _ _)
      | (with_reducible exact LeO.refl _)
      | (with_reducible exact LeO.none _)
      | (with_reducible refine LeO.ite ?_ ?_)
      | (with_reducible refine LeO.bind ?_ (fun _ => ?_))
      | exact calc_Log.mono _ _
      | exact calc_Mul.mono _ _ _
      | exact calc_Round.mono _ _ _
      | exact calc_Up.mono _ _
      | exact LeO.none _
      | refine LeO.ite ?_ ?_
      | refine LeO.bind ?_ (fun _ => ?_)
set_option maxHeartbeats 8000000 in
set_option maxRecDepth 100000 in
theorem hodmanlaw1_begun.calls (k : Nat)  (r : Bool) (w : World) (h : hodmanlaw1_begun.f k  = some r) :
    Calls Try.prog 10 #[] w fun e w' => e = .returned (.bool r) ∧ Drawn0 w w' := by
  have H : ((calc_Add.f 2 3).bind fun bt103 => ((calc_Mul.f k 2 3).bind fun bt105 => ((calc_Up.f k 5).bind fun bt107 => ((calc_Log.f k 8).bind fun bt109 => ((calc_Round.f k 5 4).bind fun bt111 => ((calc_Add.f 4611686018427387904 4611686018427387904).bind fun bt113 => (if bt103.1 = 5 then (if bt103.2 = true then (if bt105.1 = 6 then (if bt105.2 = true then (if bt107.1 = 8 then (if bt107.2 = true then (if bt109.1 = 3 then (if bt109.2 = true then (if bt111.1 = 8 then (if bt111.2 = true then (some (!bt113.2)) else (some false)) else (some false)) else (some false)) else (some false)) else (some false)) else (some false)) else (some false)) else (some false)) else (some false)) else (some false)))))))) = some r := h
  clear h
  replace H := Option.bind_eq_some_iff.mp H
  obtain ⟨⟨t103, t104⟩, A10, H⟩ := H
  replace H : ((calc_Mul.f k 2 3).bind fun bt105 => ((calc_Up.f k 5).bind fun bt107 => ((calc_Log.f k 8).bind fun bt109 => ((calc_Round.f k 5 4).bind fun bt111 => ((calc_Add.f 4611686018427387904 4611686018427387904).bind fun bt113 => (if t103 = 5 then (if t104 = true then (if bt105.1 = 6 then (if bt105.2 = true then (if bt107.1 = 8 then (if bt107.2 = true then (if bt109.1 = 3 then (if bt109.2 = true then (if bt111.1 = 8 then (if bt111.2 = true then (some (!bt113.2)) else (some false)) else (some false)) else (some false)) else (some false)) else (some false)) else (some false)) else (some false)) else (some false)) else (some false)) else (some false))))))) = some r := H
  have A1 := Aside0.mk A10
  clear A10
  replace H := Option.bind_eq_some_iff.mp H
  obtain ⟨⟨t105, t106⟩, A20, H⟩ := H
  replace H : ((calc_Up.f k 5).bind fun bt107 => ((calc_Log.f k 8).bind fun bt109 => ((calc_Round.f k 5 4).bind fun bt111 => ((calc_Add.f 4611686018427387904 4611686018427387904).bind fun bt113 => (if t103 = 5 then (if t104 = true then (if t105 = 6 then (if t106 = true then (if bt107.1 = 8 then (if bt107.2 = true then (if bt109.1 = 3 then (if bt109.2 = true then (if bt111.1 = 8 then (if bt111.2 = true then (some (!bt113.2)) else (some false)) else (some false)) else (some false)) else (some false)) else (some false)) else (some false)) else (some false)) else (some false)) else (some false)) else (some false)))))) = some r := H
  have A2 := Aside0.mk A20
  clear A20
  replace H := Option.bind_eq_some_iff.mp H
  obtain ⟨⟨t107, t108⟩, A30, H⟩ := H
  replace H : ((calc_Log.f k 8).bind fun bt109 => ((calc_Round.f k 5 4).bind fun bt111 => ((calc_Add.f 4611686018427387904 4611686018427387904).bind fun bt113 => (if t103 = 5 then (if t104 = true then (if t105 = 6 then (if t106 = true then (if t107 = 8 then (if t108 = true then (if bt109.1 = 3 then (if bt109.2 = true then (if bt111.1 = 8 then (if bt111.2 = true then (some (!bt113.2)) else (some false)) else (some false)) else (some false)) else (some false)) else (some false)) else (some false)) else (some false)) else (some false)) else (some false)) else (some false))))) = some r := H
  have A3 := Aside0.mk A30
  clear A30
  replace H := Option.bind_eq_some_iff.mp H
  obtain ⟨⟨t109, t110⟩, A40, H⟩ := H
  replace H : ((calc_Round.f k 5 4).bind fun bt111 => ((calc_Add.f 4611686018427387904 4611686018427387904).bind fun bt113 => (if t103 = 5 then (if t104 = true then (if t105 = 6 then (if t106 = true then (if t107 = 8 then (if t108 = true then (if t109 = 3 then (if t110 = true then (if bt111.1 = 8 then (if bt111.2 = true then (some (!bt113.2)) else (some false)) else (some false)) else (some false)) else (some false)) else (some false)) else (some false)) else (some false)) else (some false)) else (some false)) else (some false)))) = some r := H
  have A4 := Aside0.mk A40
  clear A40
  replace H := Option.bind_eq_some_iff.mp H
  obtain ⟨⟨t111, t112⟩, A50, H⟩ := H
  replace H : ((calc_Add.f 4611686018427387904 4611686018427387904).bind fun bt113 => (if t103 = 5 then (if t104 = true then (if t105 = 6 then (if t106 = true then (if t107 = 8 then (if t108 = true then (if t109 = 3 then (if t110 = true then (if t111 = 8 then (if t112 = true then (some (!bt113.2)) else (some false)) else (some false)) else (some false)) else (some false)) else (some false)) else (some false)) else (some false)) else (some false)) else (some false)) else (some false))) = some r := H
  have A5 := Aside0.mk A50
  clear A50
  replace H := Option.bind_eq_some_iff.mp H
  obtain ⟨⟨t113, t114⟩, A60, H⟩ := H
  replace H : (if t103 = 5 then (if t104 = true then (if t105 = 6 then (if t106 = true then (if t107 = 8 then (if t108 = true then (if t109 = 3 then (if t110 = true then (if t111 = 8 then (if t112 = true then (some (!t114)) else (some false)) else (some false)) else (some false)) else (some false)) else (some false)) else (some false)) else (some false)) else (some false)) else (some false)) else (some false)) = some r := H
  have A6 := Aside0.mk A60
  clear A60
  by_cases c7 : t103 = 5
  · rw [if_pos c7] at H
    have c7b0 : (t103 == 5) = true := beq_iff_eq.mpr c7
    have c7b1 : (t103 != 5) = false := bne_eq_false_iff_eq.mpr c7
    clear c7
    by_cases c8 : t104 = true
    · subst c8
      have H1 : (if t105 = 6 then (if t106 = true then (if t107 = 8 then (if t108 = true then (if t109 = 3 then (if t110 = true then (if t111 = 8 then (if t112 = true then (some (!t114)) else (some false)) else (some false)) else (some false)) else (some false)) else (some false)) else (some false)) else (some false)) else (some false)) = some r := by rw [if_pos rfl] at H; exact H
      clear H
      have H := H1
      clear H1
      by_cases c9 : t105 = 6
      · rw [if_pos c9] at H
        have c9b0 : (t105 == 6) = true := beq_iff_eq.mpr c9
        have c9b1 : (t105 != 6) = false := bne_eq_false_iff_eq.mpr c9
        clear c9
        by_cases c10 : t106 = true
        · subst c10
          have H1 : (if t107 = 8 then (if t108 = true then (if t109 = 3 then (if t110 = true then (if t111 = 8 then (if t112 = true then (some (!t114)) else (some false)) else (some false)) else (some false)) else (some false)) else (some false)) else (some false)) = some r := by rw [if_pos rfl] at H; exact H
          clear H
          have H := H1
          clear H1
          by_cases c11 : t107 = 8
          · rw [if_pos c11] at H
            have c11b0 : (t107 == 8) = true := beq_iff_eq.mpr c11
            have c11b1 : (t107 != 8) = false := bne_eq_false_iff_eq.mpr c11
            clear c11
            by_cases c12 : t108 = true
            · subst c12
              have H1 : (if t109 = 3 then (if t110 = true then (if t111 = 8 then (if t112 = true then (some (!t114)) else (some false)) else (some false)) else (some false)) else (some false)) = some r := by rw [if_pos rfl] at H; exact H
              clear H
              have H := H1
              clear H1
              by_cases c13 : t109 = 3
              · rw [if_pos c13] at H
                have c13b0 : (t109 == 3) = true := beq_iff_eq.mpr c13
                have c13b1 : (t109 != 3) = false := bne_eq_false_iff_eq.mpr c13
                clear c13
                by_cases c14 : t110 = true
                · subst c14
                  have H1 : (if t111 = 8 then (if t112 = true then (some (!t114)) else (some false)) else (some false)) = some r := by rw [if_pos rfl] at H; exact H
                  clear H
                  have H := H1
                  clear H1
                  by_cases c15 : t111 = 8
                  · rw [if_pos c15] at H
                    have c15b0 : (t111 == 8) = true := beq_iff_eq.mpr c15
                    have c15b1 : (t111 != 8) = false := bne_eq_false_iff_eq.mpr c15
                    clear c15
                    by_cases c16 : t112 = true
                    · subst c16
                      have H1 : (some (!t114)) = some r := by rw [if_pos rfl] at H; exact H
                      clear H
                      have H := H1
                      clear H1
                      obtain rfl := Option.some.inj H
                      go_enter Try.func10, Try.ntmps10
                      go_wp2_with (first | ((with_reducible refine gate_callee (f := 11) rfl ?_); refine goesL_ (some 14) rfl rfl Try.func11 (by kernel_rfl) rfl #[.int .i64 2, .int .i64 3] rfl (by (try simp only [List.map_toArray, List.map_cons, List.map_nil]); first | done | rfl | (simp only [List.length_drop, List.length_take]; rfl)) ?_; (with_reducible refine (calc_Add.calls 2 3 t103 true _ A1.out).mono ?_); rintro e w' ⟨rfl, ⟨nd, rfl⟩⟩; refine ⟨_, rfl, ?_⟩) | ((with_reducible refine gate_callee (f := 13) rfl ?_); refine goesL_ (some 18) rfl rfl Try.func13 (by kernel_rfl) rfl #[.int .i64 2, .int .i64 3] rfl (by (try simp only [List.map_toArray, List.map_cons, List.map_nil]); first | done | rfl | (simp only [List.length_drop, List.length_take]; rfl)) ?_; (with_reducible refine (calc_Mul.calls k 2 3 t105 true _ A2.out).mono ?_); rintro e w' ⟨rfl, ⟨nd, rfl⟩⟩; refine ⟨_, rfl, ?_⟩) | ((with_reducible refine gate_callee (f := 17) rfl ?_); refine goesL_ (some 22) rfl rfl Try.func17 (by kernel_rfl) rfl #[.int .i64 5] rfl (by (try simp only [List.map_toArray, List.map_cons, List.map_nil]); first | done | rfl | (simp only [List.length_drop, List.length_take]; rfl)) ?_; (with_reducible refine (calc_Up.calls k 5 t107 true _ A3.out).mono ?_); rintro e w' ⟨rfl, ⟨nd, rfl⟩⟩; refine ⟨_, rfl, ?_⟩) | ((with_reducible refine gate_callee (f := 19) rfl ?_); refine goesL_ (some 26) rfl rfl Try.func19 (by kernel_rfl) rfl #[.int .i64 8] rfl (by (try simp only [List.map_toArray, List.map_cons, List.map_nil]); first | done | rfl | (simp only [List.length_drop, List.length_take]; rfl)) ?_; (with_reducible refine (calc_Log.calls k 8 t109 true _ A4.out).mono ?_); rintro e w' ⟨rfl, ⟨nd, rfl⟩⟩; refine ⟨_, rfl, ?_⟩) | ((with_reducible refine gate_callee (f := 15) rfl ?_); refine goesL_ (some 30) rfl rfl Try.func15 (by kernel_rfl) rfl #[.int .i64 5, .int .i64 4] rfl (by (try simp only [List.map_toArray, List.map_cons, List.map_nil]); first | done | rfl | (simp only [List.length_drop, List.length_take]; rfl)) ?_; (with_reducible refine (calc_Round.calls k 5 4 t111 true _ A5.out).mono ?_); rintro e w' ⟨rfl, ⟨nd, rfl⟩⟩; refine ⟨_, rfl, ?_⟩) | ((with_reducible refine gate_callee (f := 11) rfl ?_); refine goesL_ (some 34) rfl rfl Try.func11 (by kernel_rfl) rfl #[.int .i64 4611686018427387904, .int .i64 4611686018427387904] rfl (by (try simp only [List.map_toArray, List.map_cons, List.map_nil]); first | done | rfl | (simp only [List.length_drop, List.length_take]; rfl)) ?_; (with_reducible refine (calc_Add.calls 4611686018427387904 4611686018427387904 t113 t114 _ A6.out).mono ?_); rintro e w' ⟨rfl, ⟨nd, rfl⟩⟩; refine ⟨_, rfl, ?_⟩))
                      go_ret
                      exact ⟨by first | rfl | (simp; done) | (simp [*]; done), by repeat (first | exact Drawn0.refl _ | apply Drawn0.step)⟩
                    · replace c16 := Bool.eq_false_iff.mpr c16
                      subst c16
                      have H1 : (some false) = some r := by rw [if_neg (show ¬ (false = true) by decide)] at H; exact H
                      clear H
                      have H := H1
                      clear H1
                      obtain rfl := Option.some.inj H
                      go_enter Try.func10, Try.ntmps10
                      go_wp2_with (first | ((with_reducible refine gate_callee (f := 11) rfl ?_); refine goesL_ (some 14) rfl rfl Try.func11 (by kernel_rfl) rfl #[.int .i64 2, .int .i64 3] rfl (by (try simp only [List.map_toArray, List.map_cons, List.map_nil]); first | done | rfl | (simp only [List.length_drop, List.length_take]; rfl)) ?_; (with_reducible refine (calc_Add.calls 2 3 t103 true _ A1.out).mono ?_); rintro e w' ⟨rfl, ⟨nd, rfl⟩⟩; refine ⟨_, rfl, ?_⟩) | ((with_reducible refine gate_callee (f := 13) rfl ?_); refine goesL_ (some 18) rfl rfl Try.func13 (by kernel_rfl) rfl #[.int .i64 2, .int .i64 3] rfl (by (try simp only [List.map_toArray, List.map_cons, List.map_nil]); first | done | rfl | (simp only [List.length_drop, List.length_take]; rfl)) ?_; (with_reducible refine (calc_Mul.calls k 2 3 t105 true _ A2.out).mono ?_); rintro e w' ⟨rfl, ⟨nd, rfl⟩⟩; refine ⟨_, rfl, ?_⟩) | ((with_reducible refine gate_callee (f := 17) rfl ?_); refine goesL_ (some 22) rfl rfl Try.func17 (by kernel_rfl) rfl #[.int .i64 5] rfl (by (try simp only [List.map_toArray, List.map_cons, List.map_nil]); first | done | rfl | (simp only [List.length_drop, List.length_take]; rfl)) ?_; (with_reducible refine (calc_Up.calls k 5 t107 true _ A3.out).mono ?_); rintro e w' ⟨rfl, ⟨nd, rfl⟩⟩; refine ⟨_, rfl, ?_⟩) | ((with_reducible refine gate_callee (f := 19) rfl ?_); refine goesL_ (some 26) rfl rfl Try.func19 (by kernel_rfl) rfl #[.int .i64 8] rfl (by (try simp only [List.map_toArray, List.map_cons, List.map_nil]); first | done | rfl | (simp only [List.length_drop, List.length_take]; rfl)) ?_; (with_reducible refine (calc_Log.calls k 8 t109 true _ A4.out).mono ?_); rintro e w' ⟨rfl, ⟨nd, rfl⟩⟩; refine ⟨_, rfl, ?_⟩) | ((with_reducible refine gate_callee (f := 15) rfl ?_); refine goesL_ (some 30) rfl rfl Try.func15 (by kernel_rfl) rfl #[.int .i64 5, .int .i64 4] rfl (by (try simp only [List.map_toArray, List.map_cons, List.map_nil]); first | done | rfl | (simp only [List.length_drop, List.length_take]; rfl)) ?_; (with_reducible refine (calc_Round.calls k 5 4 t111 false _ A5.out).mono ?_); rintro e w' ⟨rfl, ⟨nd, rfl⟩⟩; refine ⟨_, rfl, ?_⟩) | ((with_reducible refine gate_callee (f := 11) rfl ?_); refine goesL_ (some 34) rfl rfl Try.func11 (by kernel_rfl) rfl #[.int .i64 4611686018427387904, .int .i64 4611686018427387904] rfl (by (try simp only [List.map_toArray, List.map_cons, List.map_nil]); first | done | rfl | (simp only [List.length_drop, List.length_take]; rfl)) ?_; (with_reducible refine (calc_Add.calls 4611686018427387904 4611686018427387904 t113 t114 _ A6.out).mono ?_); rintro e w' ⟨rfl, ⟨nd, rfl⟩⟩; refine ⟨_, rfl, ?_⟩))
                      go_ret
                      exact ⟨by first | rfl | (simp; done) | (simp [*]; done), by repeat (first | exact Drawn0.refl _ | apply Drawn0.step)⟩
                  · rw [if_neg c15] at H
                    have c15b0 : (t111 == 8) = false := beq_eq_false_iff_ne.mpr c15
                    have c15b1 : (t111 != 8) = true := bne_iff_ne.mpr c15
                    obtain rfl := Option.some.inj H
                    go_enter Try.func10, Try.ntmps10
                    go_wp2_with (first | ((with_reducible refine gate_callee (f := 11) rfl ?_); refine goesL_ (some 14) rfl rfl Try.func11 (by kernel_rfl) rfl #[.int .i64 2, .int .i64 3] rfl (by (try simp only [List.map_toArray, List.map_cons, List.map_nil]); first | done | rfl | (simp only [List.length_drop, List.length_take]; rfl)) ?_; (with_reducible refine (calc_Add.calls 2 3 t103 true _ A1.out).mono ?_); rintro e w' ⟨rfl, ⟨nd, rfl⟩⟩; refine ⟨_, rfl, ?_⟩) | ((with_reducible refine gate_callee (f := 13) rfl ?_); refine goesL_ (some 18) rfl rfl Try.func13 (by kernel_rfl) rfl #[.int .i64 2, .int .i64 3] rfl (by (try simp only [List.map_toArray, List.map_cons, List.map_nil]); first | done | rfl | (simp only [List.length_drop, List.length_take]; rfl)) ?_; (with_reducible refine (calc_Mul.calls k 2 3 t105 true _ A2.out).mono ?_); rintro e w' ⟨rfl, ⟨nd, rfl⟩⟩; refine ⟨_, rfl, ?_⟩) | ((with_reducible refine gate_callee (f := 17) rfl ?_); refine goesL_ (some 22) rfl rfl Try.func17 (by kernel_rfl) rfl #[.int .i64 5] rfl (by (try simp only [List.map_toArray, List.map_cons, List.map_nil]); first | done | rfl | (simp only [List.length_drop, List.length_take]; rfl)) ?_; (with_reducible refine (calc_Up.calls k 5 t107 true _ A3.out).mono ?_); rintro e w' ⟨rfl, ⟨nd, rfl⟩⟩; refine ⟨_, rfl, ?_⟩) | ((with_reducible refine gate_callee (f := 19) rfl ?_); refine goesL_ (some 26) rfl rfl Try.func19 (by kernel_rfl) rfl #[.int .i64 8] rfl (by (try simp only [List.map_toArray, List.map_cons, List.map_nil]); first | done | rfl | (simp only [List.length_drop, List.length_take]; rfl)) ?_; (with_reducible refine (calc_Log.calls k 8 t109 true _ A4.out).mono ?_); rintro e w' ⟨rfl, ⟨nd, rfl⟩⟩; refine ⟨_, rfl, ?_⟩) | ((with_reducible refine gate_callee (f := 15) rfl ?_); refine goesL_ (some 30) rfl rfl Try.func15 (by kernel_rfl) rfl #[.int .i64 5, .int .i64 4] rfl (by (try simp only [List.map_toArray, List.map_cons, List.map_nil]); first | done | rfl | (simp only [List.length_drop, List.length_take]; rfl)) ?_; (with_reducible refine (calc_Round.calls k 5 4 t111 t112 _ A5.out).mono ?_); rintro e w' ⟨rfl, ⟨nd, rfl⟩⟩; refine ⟨_, rfl, ?_⟩) | ((with_reducible refine gate_callee (f := 11) rfl ?_); refine goesL_ (some 34) rfl rfl Try.func11 (by kernel_rfl) rfl #[.int .i64 4611686018427387904, .int .i64 4611686018427387904] rfl (by (try simp only [List.map_toArray, List.map_cons, List.map_nil]); first | done | rfl | (simp only [List.length_drop, List.length_take]; rfl)) ?_; (with_reducible refine (calc_Add.calls 4611686018427387904 4611686018427387904 t113 t114 _ A6.out).mono ?_); rintro e w' ⟨rfl, ⟨nd, rfl⟩⟩; refine ⟨_, rfl, ?_⟩))
                    go_ret
                    exact ⟨by first | rfl | (simp; done) | (simp [*]; done), by repeat (first | exact Drawn0.refl _ | apply Drawn0.step)⟩
                · replace c14 := Bool.eq_false_iff.mpr c14
                  subst c14
                  have H1 : (some false) = some r := by rw [if_neg (show ¬ (false = true) by decide)] at H; exact H
                  clear H
                  have H := H1
                  clear H1
                  obtain rfl := Option.some.inj H
                  go_enter Try.func10, Try.ntmps10
                  go_wp2_with (first | ((with_reducible refine gate_callee (f := 11) rfl ?_); refine goesL_ (some 14) rfl rfl Try.func11 (by kernel_rfl) rfl #[.int .i64 2, .int .i64 3] rfl (by (try simp only [List.map_toArray, List.map_cons, List.map_nil]); first | done | rfl | (simp only [List.length_drop, List.length_take]; rfl)) ?_; (with_reducible refine (calc_Add.calls 2 3 t103 true _ A1.out).mono ?_); rintro e w' ⟨rfl, ⟨nd, rfl⟩⟩; refine ⟨_, rfl, ?_⟩) | ((with_reducible refine gate_callee (f := 13) rfl ?_); refine goesL_ (some 18) rfl rfl Try.func13 (by kernel_rfl) rfl #[.int .i64 2, .int .i64 3] rfl (by (try simp only [List.map_toArray, List.map_cons, List.map_nil]); first | done | rfl | (simp only [List.length_drop, List.length_take]; rfl)) ?_; (with_reducible refine (calc_Mul.calls k 2 3 t105 true _ A2.out).mono ?_); rintro e w' ⟨rfl, ⟨nd, rfl⟩⟩; refine ⟨_, rfl, ?_⟩) | ((with_reducible refine gate_callee (f := 17) rfl ?_); refine goesL_ (some 22) rfl rfl Try.func17 (by kernel_rfl) rfl #[.int .i64 5] rfl (by (try simp only [List.map_toArray, List.map_cons, List.map_nil]); first | done | rfl | (simp only [List.length_drop, List.length_take]; rfl)) ?_; (with_reducible refine (calc_Up.calls k 5 t107 true _ A3.out).mono ?_); rintro e w' ⟨rfl, ⟨nd, rfl⟩⟩; refine ⟨_, rfl, ?_⟩) | ((with_reducible refine gate_callee (f := 19) rfl ?_); refine goesL_ (some 26) rfl rfl Try.func19 (by kernel_rfl) rfl #[.int .i64 8] rfl (by (try simp only [List.map_toArray, List.map_cons, List.map_nil]); first | done | rfl | (simp only [List.length_drop, List.length_take]; rfl)) ?_; (with_reducible refine (calc_Log.calls k 8 t109 false _ A4.out).mono ?_); rintro e w' ⟨rfl, ⟨nd, rfl⟩⟩; refine ⟨_, rfl, ?_⟩) | ((with_reducible refine gate_callee (f := 15) rfl ?_); refine goesL_ (some 30) rfl rfl Try.func15 (by kernel_rfl) rfl #[.int .i64 5, .int .i64 4] rfl (by (try simp only [List.map_toArray, List.map_cons, List.map_nil]); first | done | rfl | (simp only [List.length_drop, List.length_take]; rfl)) ?_; (with_reducible refine (calc_Round.calls k 5 4 t111 t112 _ A5.out).mono ?_); rintro e w' ⟨rfl, ⟨nd, rfl⟩⟩; refine ⟨_, rfl, ?_⟩) | ((with_reducible refine gate_callee (f := 11) rfl ?_); refine goesL_ (some 34) rfl rfl Try.func11 (by kernel_rfl) rfl #[.int .i64 4611686018427387904, .int .i64 4611686018427387904] rfl (by (try simp only [List.map_toArray, List.map_cons, List.map_nil]); first | done | rfl | (simp only [List.length_drop, List.length_take]; rfl)) ?_; (with_reducible refine (calc_Add.calls 4611686018427387904 4611686018427387904 t113 t114 _ A6.out).mono ?_); rintro e w' ⟨rfl, ⟨nd, rfl⟩⟩; refine ⟨_, rfl, ?_⟩))
                  go_ret
                  exact ⟨by first | rfl | (simp; done) | (simp [*]; done), by repeat (first | exact Drawn0.refl _ | apply Drawn0.step)⟩
              · rw [if_neg c13] at H
                have c13b0 : (t109 == 3) = false := beq_eq_false_iff_ne.mpr c13
                have c13b1 : (t109 != 3) = true := bne_iff_ne.mpr c13
                obtain rfl := Option.some.inj H
                go_enter Try.func10, Try.ntmps10
                go_wp2_with (first | ((with_reducible refine gate_callee (f := 11) rfl ?_); refine goesL_ (some 14) rfl rfl Try.func11 (by kernel_rfl) rfl #[.int .i64 2, .int .i64 3] rfl (by (try simp only [List.map_toArray, List.map_cons, List.map_nil]); first | done | rfl | (simp only [List.length_drop, List.length_take]; rfl)) ?_; (with_reducible refine (calc_Add.calls 2 3 t103 true _ A1.out).mono ?_); rintro e w' ⟨rfl, ⟨nd, rfl⟩⟩; refine ⟨_, rfl, ?_⟩) | ((with_reducible refine gate_callee (f := 13) rfl ?_); refine goesL_ (some 18) rfl rfl Try.func13 (by kernel_rfl) rfl #[.int .i64 2, .int .i64 3] rfl (by (try simp only [List.map_toArray, List.map_cons, List.map_nil]); first | done | rfl | (simp only [List.length_drop, List.length_take]; rfl)) ?_; (with_reducible refine (calc_Mul.calls k 2 3 t105 true _ A2.out).mono ?_); rintro e w' ⟨rfl, ⟨nd, rfl⟩⟩; refine ⟨_, rfl, ?_⟩) | ((with_reducible refine gate_callee (f := 17) rfl ?_); refine goesL_ (some 22) rfl rfl Try.func17 (by kernel_rfl) rfl #[.int .i64 5] rfl (by (try simp only [List.map_toArray, List.map_cons, List.map_nil]); first | done | rfl | (simp only [List.length_drop, List.length_take]; rfl)) ?_; (with_reducible refine (calc_Up.calls k 5 t107 true _ A3.out).mono ?_); rintro e w' ⟨rfl, ⟨nd, rfl⟩⟩; refine ⟨_, rfl, ?_⟩) | ((with_reducible refine gate_callee (f := 19) rfl ?_); refine goesL_ (some 26) rfl rfl Try.func19 (by kernel_rfl) rfl #[.int .i64 8] rfl (by (try simp only [List.map_toArray, List.map_cons, List.map_nil]); first | done | rfl | (simp only [List.length_drop, List.length_take]; rfl)) ?_; (with_reducible refine (calc_Log.calls k 8 t109 t110 _ A4.out).mono ?_); rintro e w' ⟨rfl, ⟨nd, rfl⟩⟩; refine ⟨_, rfl, ?_⟩) | ((with_reducible refine gate_callee (f := 15) rfl ?_); refine goesL_ (some 30) rfl rfl Try.func15 (by kernel_rfl) rfl #[.int .i64 5, .int .i64 4] rfl (by (try simp only [List.map_toArray, List.map_cons, List.map_nil]); first | done | rfl | (simp only [List.length_drop, List.length_take]; rfl)) ?_; (with_reducible refine (calc_Round.calls k 5 4 t111 t112 _ A5.out).mono ?_); rintro e w' ⟨rfl, ⟨nd, rfl⟩⟩; refine ⟨_, rfl, ?_⟩) | ((with_reducible refine gate_callee (f := 11) rfl ?_); refine goesL_ (some 34) rfl rfl Try.func11 (by kernel_rfl) rfl #[.int .i64 4611686018427387904, .int .i64 4611686018427387904] rfl (by (try simp only [List.map_toArray, List.map_cons, List.map_nil]); first | done | rfl | (simp only [List.length_drop, List.length_take]; rfl)) ?_; (with_reducible refine (calc_Add.calls 4611686018427387904 4611686018427387904 t113 t114 _ A6.out).mono ?_); rintro e w' ⟨rfl, ⟨nd, rfl⟩⟩; refine ⟨_, rfl, ?_⟩))
                go_ret
                exact ⟨by first | rfl | (simp; done) | (simp [*]; done), by repeat (first | exact Drawn0.refl _ | apply Drawn0.step)⟩
            · replace c12 := Bool.eq_false_iff.mpr c12
              subst c12
              have H1 : (some false) = some r := by rw [if_neg (show ¬ (false = true) by decide)] at H; exact H
              clear H
              have H := H1
              clear H1
              obtain rfl := Option.some.inj H
              go_enter Try.func10, Try.ntmps10
              go_wp2_with (first | ((with_reducible refine gate_callee (f := 11) rfl ?_); refine goesL_ (some 14) rfl rfl Try.func11 (by kernel_rfl) rfl #[.int .i64 2, .int .i64 3] rfl (by (try simp only [List.map_toArray, List.map_cons, List.map_nil]); first | done | rfl | (simp only [List.length_drop, List.length_take]; rfl)) ?_; (with_reducible refine (calc_Add.calls 2 3 t103 true _ A1.out).mono ?_); rintro e w' ⟨rfl, ⟨nd, rfl⟩⟩; refine ⟨_, rfl, ?_⟩) | ((with_reducible refine gate_callee (f := 13) rfl ?_); refine goesL_ (some 18) rfl rfl Try.func13 (by kernel_rfl) rfl #[.int .i64 2, .int .i64 3] rfl (by (try simp only [List.map_toArray, List.map_cons, List.map_nil]); first | done | rfl | (simp only [List.length_drop, List.length_take]; rfl)) ?_; (with_reducible refine (calc_Mul.calls k 2 3 t105 true _ A2.out).mono ?_); rintro e w' ⟨rfl, ⟨nd, rfl⟩⟩; refine ⟨_, rfl, ?_⟩) | ((with_reducible refine gate_callee (f := 17) rfl ?_); refine goesL_ (some 22) rfl rfl Try.func17 (by kernel_rfl) rfl #[.int .i64 5] rfl (by (try simp only [List.map_toArray, List.map_cons, List.map_nil]); first | done | rfl | (simp only [List.length_drop, List.length_take]; rfl)) ?_; (with_reducible refine (calc_Up.calls k 5 t107 false _ A3.out).mono ?_); rintro e w' ⟨rfl, ⟨nd, rfl⟩⟩; refine ⟨_, rfl, ?_⟩) | ((with_reducible refine gate_callee (f := 19) rfl ?_); refine goesL_ (some 26) rfl rfl Try.func19 (by kernel_rfl) rfl #[.int .i64 8] rfl (by (try simp only [List.map_toArray, List.map_cons, List.map_nil]); first | done | rfl | (simp only [List.length_drop, List.length_take]; rfl)) ?_; (with_reducible refine (calc_Log.calls k 8 t109 t110 _ A4.out).mono ?_); rintro e w' ⟨rfl, ⟨nd, rfl⟩⟩; refine ⟨_, rfl, ?_⟩) | ((with_reducible refine gate_callee (f := 15) rfl ?_); refine goesL_ (some 30) rfl rfl Try.func15 (by kernel_rfl) rfl #[.int .i64 5, .int .i64 4] rfl (by (try simp only [List.map_toArray, List.map_cons, List.map_nil]); first | done | rfl | (simp only [List.length_drop, List.length_take]; rfl)) ?_; (with_reducible refine (calc_Round.calls k 5 4 t111 t112 _ A5.out).mono ?_); rintro e w' ⟨rfl, ⟨nd, rfl⟩⟩; refine ⟨_, rfl, ?_⟩) | ((with_reducible refine gate_callee (f := 11) rfl ?_); refine goesL_ (some 34) rfl rfl Try.func11 (by kernel_rfl) rfl #[.int .i64 4611686018427387904, .int .i64 4611686018427387904] rfl (by (try simp only [List.map_toArray, List.map_cons, List.map_nil]); first | done | rfl | (simp only [List.length_drop, List.length_take]; rfl)) ?_; (with_reducible refine (calc_Add.calls 4611686018427387904 4611686018427387904 t113 t114 _ A6.out).mono ?_); rintro e w' ⟨rfl, ⟨nd, rfl⟩⟩; refine ⟨_, rfl, ?_⟩))
              go_ret
              exact ⟨by first | rfl | (simp; done) | (simp [*]; done), by repeat (first | exact Drawn0.refl _ | apply Drawn0.step)⟩
          · rw [if_neg c11] at H
            have c11b0 : (t107 == 8) = false := beq_eq_false_iff_ne.mpr c11
            have c11b1 : (t107 != 8) = true := bne_iff_ne.mpr c11
            obtain rfl := Option.some.inj H
            go_enter Try.func10, Try.ntmps10
            go_wp2_with (first | ((with_reducible refine gate_callee (f := 11) rfl ?_); refine goesL_ (some 14) rfl rfl Try.func11 (by kernel_rfl) rfl #[.int .i64 2, .int .i64 3] rfl (by (try simp only [List.map_toArray, List.map_cons, List.map_nil]); first | done | rfl | (simp only [List.length_drop, List.length_take]; rfl)) ?_; (with_reducible refine (calc_Add.calls 2 3 t103 true _ A1.out).mono ?_); rintro e w' ⟨rfl, ⟨nd, rfl⟩⟩; refine ⟨_, rfl, ?_⟩) | ((with_reducible refine gate_callee (f := 13) rfl ?_); refine goesL_ (some 18) rfl rfl Try.func13 (by kernel_rfl) rfl #[.int .i64 2, .int .i64 3] rfl (by (try simp only [List.map_toArray, List.map_cons, List.map_nil]); first | done | rfl | (simp only [List.length_drop, List.length_take]; rfl)) ?_; (with_reducible refine (calc_Mul.calls k 2 3 t105 true _ A2.out).mono ?_); rintro e w' ⟨rfl, ⟨nd, rfl⟩⟩; refine ⟨_, rfl, ?_⟩) | ((with_reducible refine gate_callee (f := 17) rfl ?_); refine goesL_ (some 22) rfl rfl Try.func17 (by kernel_rfl) rfl #[.int .i64 5] rfl (by (try simp only [List.map_toArray, List.map_cons, List.map_nil]); first | done | rfl | (simp only [List.length_drop, List.length_take]; rfl)) ?_; (with_reducible refine (calc_Up.calls k 5 t107 t108 _ A3.out).mono ?_); rintro e w' ⟨rfl, ⟨nd, rfl⟩⟩; refine ⟨_, rfl, ?_⟩) | ((with_reducible refine gate_callee (f := 19) rfl ?_); refine goesL_ (some 26) rfl rfl Try.func19 (by kernel_rfl) rfl #[.int .i64 8] rfl (by (try simp only [List.map_toArray, List.map_cons, List.map_nil]); first | done | rfl | (simp only [List.length_drop, List.length_take]; rfl)) ?_; (with_reducible refine (calc_Log.calls k 8 t109 t110 _ A4.out).mono ?_); rintro e w' ⟨rfl, ⟨nd, rfl⟩⟩; refine ⟨_, rfl, ?_⟩) | ((with_reducible refine gate_callee (f := 15) rfl ?_); refine goesL_ (some 30) rfl rfl Try.func15 (by kernel_rfl) rfl #[.int .i64 5, .int .i64 4] rfl (by (try simp only [List.map_toArray, List.map_cons, List.map_nil]); first | done | rfl | (simp only [List.length_drop, List.length_take]; rfl)) ?_; (with_reducible refine (calc_Round.calls k 5 4 t111 t112 _ A5.out).mono ?_); rintro e w' ⟨rfl, ⟨nd, rfl⟩⟩; refine ⟨_, rfl, ?_⟩) | ((with_reducible refine gate_callee (f := 11) rfl ?_); refine goesL_ (some 34) rfl rfl Try.func11 (by kernel_rfl) rfl #[.int .i64 4611686018427387904, .int .i64 4611686018427387904] rfl (by (try simp only [List.map_toArray, List.map_cons, List.map_nil]); first | done | rfl | (simp only [List.length_drop, List.length_take]; rfl)) ?_; (with_reducible refine (calc_Add.calls 4611686018427387904 4611686018427387904 t113 t114 _ A6.out).mono ?_); rintro e w' ⟨rfl, ⟨nd, rfl⟩⟩; refine ⟨_, rfl, ?_⟩))
            go_ret
            exact ⟨by first | rfl | (simp; done) | (simp [*]; done), by repeat (first | exact Drawn0.refl _ | apply Drawn0.step)⟩
        · replace c10 := Bool.eq_false_iff.mpr c10
          subst c10
          have H1 : (some false) = some r := by rw [if_neg (show ¬ (false = true) by decide)] at H; exact H
          clear H
          have H := H1
          clear H1
          obtain rfl := Option.some.inj H
          go_enter Try.func10, Try.ntmps10
          go_wp2_with (first | ((with_reducible refine gate_callee (f := 11) rfl ?_); refine goesL_ (some 14) rfl rfl Try.func11 (by kernel_rfl) rfl #[.int .i64 2, .int .i64 3] rfl (by (try simp only [List.map_toArray, List.map_cons, List.map_nil]); first | done | rfl | (simp only [List.length_drop, List.length_take]; rfl)) ?_; (with_reducible refine (calc_Add.calls 2 3 t103 true _ A1.out).mono ?_); rintro e w' ⟨rfl, ⟨nd, rfl⟩⟩; refine ⟨_, rfl, ?_⟩) | ((with_reducible refine gate_callee (f := 13) rfl ?_); refine goesL_ (some 18) rfl rfl Try.func13 (by kernel_rfl) rfl #[.int .i64 2, .int .i64 3] rfl (by (try simp only [List.map_toArray, List.map_cons, List.map_nil]); first | done | rfl | (simp only [List.length_drop, List.length_take]; rfl)) ?_; (with_reducible refine (calc_Mul.calls k 2 3 t105 false _ A2.out).mono ?_); rintro e w' ⟨rfl, ⟨nd, rfl⟩⟩; refine ⟨_, rfl, ?_⟩) | ((with_reducible refine gate_callee (f := 17) rfl ?_); refine goesL_ (some 22) rfl rfl Try.func17 (by kernel_rfl) rfl #[.int .i64 5] rfl (by (try simp only [List.map_toArray, List.map_cons, List.map_nil]); first | done | rfl | (simp only [List.length_drop, List.length_take]; rfl)) ?_; (with_reducible refine (calc_Up.calls k 5 t107 t108 _ A3.out).mono ?_); rintro e w' ⟨rfl, ⟨nd, rfl⟩⟩; refine ⟨_, rfl, ?_⟩) | ((with_reducible refine gate_callee (f := 19) rfl ?_); refine goesL_ (some 26) rfl rfl Try.func19 (by kernel_rfl) rfl #[.int .i64 8] rfl (by (try simp only [List.map_toArray, List.map_cons, List.map_nil]); first | done | rfl | (simp only [List.length_drop, List.length_take]; rfl)) ?_; (with_reducible refine (calc_Log.calls k 8 t109 t110 _ A4.out).mono ?_); rintro e w' ⟨rfl, ⟨nd, rfl⟩⟩; refine ⟨_, rfl, ?_⟩) | ((with_reducible refine gate_callee (f := 15) rfl ?_); refine goesL_ (some 30) rfl rfl Try.func15 (by kernel_rfl) rfl #[.int .i64 5, .int .i64 4] rfl (by (try simp only [List.map_toArray, List.map_cons, List.map_nil]); first | done | rfl | (simp only [List.length_drop, List.length_take]; rfl)) ?_; (with_reducible refine (calc_Round.calls k 5 4 t111 t112 _ A5.out).mono ?_); rintro e w' ⟨rfl, ⟨nd, rfl⟩⟩; refine ⟨_, rfl, ?_⟩) | ((with_reducible refine gate_callee (f := 11) rfl ?_); refine goesL_ (some 34) rfl rfl Try.func11 (by kernel_rfl) rfl #[.int .i64 4611686018427387904, .int .i64 4611686018427387904] rfl (by (try simp only [List.map_toArray, List.map_cons, List.map_nil]); first | done | rfl | (simp only [List.length_drop, List.length_take]; rfl)) ?_; (with_reducible refine (calc_Add.calls 4611686018427387904 4611686018427387904 t113 t114 _ A6.out).mono ?_); rintro e w' ⟨rfl, ⟨nd, rfl⟩⟩; refine ⟨_, rfl, ?_⟩))
          go_ret
          exact ⟨by first | rfl | (simp; done) | (simp [*]; done), by repeat (first | exact Drawn0.refl _ | apply Drawn0.step)⟩
      · rw [if_neg c9] at H
        have c9b0 : (t105 == 6) = false := beq_eq_false_iff_ne.mpr c9
        have c9b1 : (t105 != 6) = true := bne_iff_ne.mpr c9
        obtain rfl := Option.some.inj H
        go_enter Try.func10, Try.ntmps10
        go_wp2_with (first | ((with_reducible refine gate_callee (f := 11) rfl ?_); refine goesL_ (some 14) rfl rfl Try.func11 (by kernel_rfl) rfl #[.int .i64 2, .int .i64 3] rfl (by (try simp only [List.map_toArray, List.map_cons, List.map_nil]); first | done | rfl | (simp only [List.length_drop, List.length_take]; rfl)) ?_; (with_reducible refine (calc_Add.calls 2 3 t103 true _ A1.out).mono ?_); rintro e w' ⟨rfl, ⟨nd, rfl⟩⟩; refine ⟨_, rfl, ?_⟩) | ((with_reducible refine gate_callee (f := 13) rfl ?_); refine goesL_ (some 18) rfl rfl Try.func13 (by kernel_rfl) rfl #[.int .i64 2, .int .i64 3] rfl (by (try simp only [List.map_toArray, List.map_cons, List.map_nil]); first | done | rfl | (simp only [List.length_drop, List.length_take]; rfl)) ?_; (with_reducible refine (calc_Mul.calls k 2 3 t105 t106 _ A2.out).mono ?_); rintro e w' ⟨rfl, ⟨nd, rfl⟩⟩; refine ⟨_, rfl, ?_⟩) | ((with_reducible refine gate_callee (f := 17) rfl ?_); refine goesL_ (some 22) rfl rfl Try.func17 (by kernel_rfl) rfl #[.int .i64 5] rfl (by (try simp only [List.map_toArray, List.map_cons, List.map_nil]); first | done | rfl | (simp only [List.length_drop, List.length_take]; rfl)) ?_; (with_reducible refine (calc_Up.calls k 5 t107 t108 _ A3.out).mono ?_); rintro e w' ⟨rfl, ⟨nd, rfl⟩⟩; refine ⟨_, rfl, ?_⟩) | ((with_reducible refine gate_callee (f := 19) rfl ?_); refine goesL_ (some 26) rfl rfl Try.func19 (by kernel_rfl) rfl #[.int .i64 8] rfl (by (try simp only [List.map_toArray, List.map_cons, List.map_nil]); first | done | rfl | (simp only [List.length_drop, List.length_take]; rfl)) ?_; (with_reducible refine (calc_Log.calls k 8 t109 t110 _ A4.out).mono ?_); rintro e w' ⟨rfl, ⟨nd, rfl⟩⟩; refine ⟨_, rfl, ?_⟩) | ((with_reducible refine gate_callee (f := 15) rfl ?_); refine goesL_ (some 30) rfl rfl Try.func15 (by kernel_rfl) rfl #[.int .i64 5, .int .i64 4] rfl (by (try simp only [List.map_toArray, List.map_cons, List.map_nil]); first | done | rfl | (simp only [List.length_drop, List.length_take]; rfl)) ?_; (with_reducible refine (calc_Round.calls k 5 4 t111 t112 _ A5.out).mono ?_); rintro e w' ⟨rfl, ⟨nd, rfl⟩⟩; refine ⟨_, rfl, ?_⟩) | ((with_reducible refine gate_callee (f := 11) rfl ?_); refine goesL_ (some 34) rfl rfl Try.func11 (by kernel_rfl) rfl #[.int .i64 4611686018427387904, .int .i64 4611686018427387904] rfl (by (try simp only [List.map_toArray, List.map_cons, List.map_nil]); first | done | rfl | (simp only [List.length_drop, List.length_take]; rfl)) ?_; (with_reducible refine (calc_Add.calls 4611686018427387904 4611686018427387904 t113 t114 _ A6.out).mono ?_); rintro e w' ⟨rfl, ⟨nd, rfl⟩⟩; refine ⟨_, rfl, ?_⟩))
        go_ret
        exact ⟨by first | rfl | (simp; done) | (simp [*]; done), by repeat (first | exact Drawn0.refl _ | apply Drawn0.step)⟩
    · replace c8 := Bool.eq_false_iff.mpr c8
      subst c8
      have H1 : (some false) = some r := by rw [if_neg (show ¬ (false = true) by decide)] at H; exact H
      clear H
      have H := H1
      clear H1
      obtain rfl := Option.some.inj H
      go_enter Try.func10, Try.ntmps10
      go_wp2_with (first | ((with_reducible refine gate_callee (f := 11) rfl ?_); refine goesL_ (some 14) rfl rfl Try.func11 (by kernel_rfl) rfl #[.int .i64 2, .int .i64 3] rfl (by (try simp only [List.map_toArray, List.map_cons, List.map_nil]); first | done | rfl | (simp only [List.length_drop, List.length_take]; rfl)) ?_; (with_reducible refine (calc_Add.calls 2 3 t103 false _ A1.out).mono ?_); rintro e w' ⟨rfl, ⟨nd, rfl⟩⟩; refine ⟨_, rfl, ?_⟩) | ((with_reducible refine gate_callee (f := 13) rfl ?_); refine goesL_ (some 18) rfl rfl Try.func13 (by kernel_rfl) rfl #[.int .i64 2, .int .i64 3] rfl (by (try simp only [List.map_toArray, List.map_cons, List.map_nil]); first | done | rfl | (simp only [List.length_drop, List.length_take]; rfl)) ?_; (with_reducible refine (calc_Mul.calls k 2 3 t105 t106 _ A2.out).mono ?_); rintro e w' ⟨rfl, ⟨nd, rfl⟩⟩; refine ⟨_, rfl, ?_⟩) | ((with_reducible refine gate_callee (f := 17) rfl ?_); refine goesL_ (some 22) rfl rfl Try.func17 (by kernel_rfl) rfl #[.int .i64 5] rfl (by (try simp only [List.map_toArray, List.map_cons, List.map_nil]); first | done | rfl | (simp only [List.length_drop, List.length_take]; rfl)) ?_; (with_reducible refine (calc_Up.calls k 5 t107 t108 _ A3.out).mono ?_); rintro e w' ⟨rfl, ⟨nd, rfl⟩⟩; refine ⟨_, rfl, ?_⟩) | ((with_reducible refine gate_callee (f := 19) rfl ?_); refine goesL_ (some 26) rfl rfl Try.func19 (by kernel_rfl) rfl #[.int .i64 8] rfl (by (try simp only [List.map_toArray, List.map_cons, List.map_nil]); first | done | rfl | (simp only [List.length_drop, List.length_take]; rfl)) ?_; (with_reducible refine (calc_Log.calls k 8 t109 t110 _ A4.out).mono ?_); rintro e w' ⟨rfl, ⟨nd, rfl⟩⟩; refine ⟨_, rfl, ?_⟩) | ((with_reducible refine gate_callee (f := 15) rfl ?_); refine goesL_ (some 30) rfl rfl Try.func15 (by kernel_rfl) rfl #[.int .i64 5, .int .i64 4] rfl (by (try simp only [List.map_toArray, List.map_cons, List.map_nil]); first | done | rfl | (simp only [List.length_drop, List.length_take]; rfl)) ?_; (with_reducible refine (calc_Round.calls k 5 4 t111 t112 _ A5.out).mono ?_); rintro e w' ⟨rfl, ⟨nd, rfl⟩⟩; refine ⟨_, rfl, ?_⟩) | ((with_reducible refine gate_callee (f := 11) rfl ?_); refine goesL_ (some 34) rfl rfl Try.func11 (by kernel_rfl) rfl #[.int .i64 4611686018427387904, .int .i64 4611686018427387904] rfl (by (try simp only [List.map_toArray, List.map_cons, List.map_nil]); first | done | rfl | (simp only [List.length_drop, List.length_take]; rfl)) ?_; (with_reducible refine (calc_Add.calls 4611686018427387904 4611686018427387904 t113 t114 _ A6.out).mono ?_); rintro e w' ⟨rfl, ⟨nd, rfl⟩⟩; refine ⟨_, rfl, ?_⟩))
      go_ret
      exact ⟨by first | rfl | (simp; done) | (simp [*]; done), by repeat (first | exact Drawn0.refl _ | apply Drawn0.step)⟩
  · rw [if_neg c7] at H
    have c7b0 : (t103 == 5) = false := beq_eq_false_iff_ne.mpr c7
    have c7b1 : (t103 != 5) = true := bne_iff_ne.mpr c7
    obtain rfl := Option.some.inj H
    go_enter Try.func10, Try.ntmps10
    go_wp2_with (first | ((with_reducible refine gate_callee (f := 11) rfl ?_); refine goesL_ (some 14) rfl rfl Try.func11 (by kernel_rfl) rfl #[.int .i64 2, .int .i64 3] rfl (by (try simp only [List.map_toArray, List.map_cons, List.map_nil]); first | done | rfl | (simp only [List.length_drop, List.length_take]; rfl)) ?_; (with_reducible refine (calc_Add.calls 2 3 t103 t104 _ A1.out).mono ?_); rintro e w' ⟨rfl, ⟨nd, rfl⟩⟩; refine ⟨_, rfl, ?_⟩) | ((with_reducible refine gate_callee (f := 13) rfl ?_); refine goesL_ (some 18) rfl rfl Try.func13 (by kernel_rfl) rfl #[.int .i64 2, .int .i64 3] rfl (by (try simp only [List.map_toArray, List.map_cons, List.map_nil]); first | done | rfl | (simp only [List.length_drop, List.length_take]; rfl)) ?_; (with_reducible refine (calc_Mul.calls k 2 3 t105 t106 _ A2.out).mono ?_); rintro e w' ⟨rfl, ⟨nd, rfl⟩⟩; refine ⟨_, rfl, ?_⟩) | ((with_reducible refine gate_callee (f := 17) rfl ?_); refine goesL_ (some 22) rfl rfl Try.func17 (by kernel_rfl) rfl #[.int .i64 5] rfl (by (try simp only [List.map_toArray, List.map_cons, List.map_nil]); first | done | rfl | (simp only [List.length_drop, List.length_take]; rfl)) ?_; (with_reducible refine (calc_Up.calls k 5 t107 t108 _ A3.out).mono ?_); rintro e w' ⟨rfl, ⟨nd, rfl⟩⟩; refine ⟨_, rfl, ?_⟩) | ((with_reducible refine gate_callee (f := 19) rfl ?_); refine goesL_ (some 26) rfl rfl Try.func19 (by kernel_rfl) rfl #[.int .i64 8] rfl (by (try simp only [List.map_toArray, List.map_cons, List.map_nil]); first | done | rfl | (simp only [List.length_drop, List.length_take]; rfl)) ?_; (with_reducible refine (calc_Log.calls k 8 t109 t110 _ A4.out).mono ?_); rintro e w' ⟨rfl, ⟨nd, rfl⟩⟩; refine ⟨_, rfl, ?_⟩) | ((with_reducible refine gate_callee (f := 15) rfl ?_); refine goesL_ (some 30) rfl rfl Try.func15 (by kernel_rfl) rfl #[.int .i64 5, .int .i64 4] rfl (by (try simp only [List.map_toArray, List.map_cons, List.map_nil]); first | done | rfl | (simp only [List.length_drop, List.length_take]; rfl)) ?_; (with_reducible refine (calc_Round.calls k 5 4 t111 t112 _ A5.out).mono ?_); rintro e w' ⟨rfl, ⟨nd, rfl⟩⟩; refine ⟨_, rfl, ?_⟩) | ((with_reducible refine gate_callee (f := 11) rfl ?_); refine goesL_ (some 34) rfl rfl Try.func11 (by kernel_rfl) rfl #[.int .i64 4611686018427387904, .int .i64 4611686018427387904] rfl (by (try simp only [List.map_toArray, List.map_cons, List.map_nil]); first | done | rfl | (simp only [List.length_drop, List.length_take]; rfl)) ?_; (with_reducible refine (calc_Add.calls 4611686018427387904 4611686018427387904 t113 t114 _ A6.out).mono ?_); rintro e w' ⟨rfl, ⟨nd, rfl⟩⟩; refine ⟨_, rfl, ?_⟩))
    go_ret
    exact ⟨by first | rfl | (simp; done) | (simp [*]; done), by repeat (first | exact Drawn0.refl _ | apply Drawn0.step)⟩

/-! ### hodmanlaw1_CalcPowers: function 9 -/
def hodmanlaw1_CalcPowers.f (k : Nat) (a0 : Int) (a1 : Int) : Option (Bool) := (hodmanlaw1_begun.f k).bind fun t115 => (if t115 = true then (if 0 ≤ (wrap64 (Int.tmod a0 61)) then ((calc_Up.f k (shl .i64 1 (wrap64 (Int.tmod a0 61)))).bind fun bt116 => ((calc_Up.f k (wrap64 ((shl .i64 1 (wrap64 (Int.tmod a0 61))) + 1))).bind fun bt118 => ((calc_Log.f k (shl .i64 1 (wrap64 (Int.tmod a0 61)))).bind fun bt120 => ((calc_Log.f k (wrap64 (2 * (shl .i64 1 (wrap64 (Int.tmod a0 61)))))).bind fun bt122 => ((calc_Up.f k (wrap64 ((shl .i64 1 (wrap64 (Int.tmod a0 61))) + (Go.bits .and .i64 a1 (wrap64 ((shl .i64 1 (wrap64 (Int.tmod a0 61))) - 1)))))).bind fun bt124 => ((calc_Log.f k (wrap64 (-(shl .i64 1 (wrap64 (Int.tmod a0 61)))))).bind fun bt126 => (if bt116.1 = (shl .i64 1 (wrap64 (Int.tmod a0 61))) then (if bt116.2 = true then (if bt118.1 = (wrap64 (2 * (shl .i64 1 (wrap64 (Int.tmod a0 61))))) then (if bt118.2 = true then (if bt120.1 = (wrap64 (Int.tmod a0 61)) then (if bt120.2 = true then (if bt122.1 = (wrap64 ((wrap64 (Int.tmod a0 61)) + 1)) then (if bt122.2 = true then (if bt124.2 = true then (if ((bt124.1 == (shl .i64 1 (wrap64 (Int.tmod a0 61)))) == ((Go.bits .and .i64 a1 (wrap64 ((shl .i64 1 (wrap64 (Int.tmod a0 61))) - 1))) == 0)) = true then (if bt124.1 = (shl .i64 1 (wrap64 (Int.tmod a0 61))) then (some (!bt126.2)) else (if bt124.1 = (wrap64 (2 * (shl .i64 1 (wrap64 (Int.tmod a0 61))))) then (some (!bt126.2)) else (some false))) else (some false)) else (some false)) else (some false)) else (some false)) else (some false)) else (some false)) else (some false)) else (some false)) else (some false)) else (some false)))))))) else (none)) else (some false))
theorem hodmanlaw1_CalcPowers.mono : ∀ a0 a1 k, LeO (hodmanlaw1_CalcPowers.f k a0 a1) (hodmanlaw1_CalcPowers.f (k + 1) a0 a1) := by
  intro a0 a1 k
  unfold hodmanlaw1_CalcPowers.f
  repeat' first
      | (with_reducible exact calc_Log.mono _ _)
      | (with_reducible exact calc_Up.mono _ _)
      | (with_reducible exact hodmanlaw1_begun.mono _)
      | (with_reducible exact LeO.refl _)
      | (with_reducible exact LeO.none _)
      | (with_reducible refine LeO.ite ?_ ?_)
      | (with_reducible refine LeO.bind ?_ (fun _ => ?_))
      | exact calc_Log.mono _ _
      | exact calc_Up.mono _ _
      | exact hodmanlaw1_begun.mono _
      | exact LeO.none _
      | refine LeO.ite ?_ ?_
      | refine LeO.bind ?_ (fun _ => ?_)
set_option maxHeartbeats 8000000 in
set_option maxRecDepth 100000 in
theorem hodmanlaw1_CalcPowers.calls (k : Nat) (a0 : Int) (a1 : Int) (r : Bool) (w : World) (h : hodmanlaw1_CalcPowers.f k a0 a1 = some r) (hr_ : Aside0 (r = true)) :
    Calls Try.prog 9 #[.int .u8 a0, .int .i64 a1] w fun e w' => e = .returned (.bool r) ∧ Drawn0 w w' := by
  have H : ((hodmanlaw1_begun.f k).bind fun t115 => (if t115 = true then (if 0 ≤ (wrap64 (Int.tmod a0 61)) then ((calc_Up.f k (shl .i64 1 (wrap64 (Int.tmod a0 61)))).bind fun bt116 => ((calc_Up.f k (wrap64 ((shl .i64 1 (wrap64 (Int.tmod a0 61))) + 1))).bind fun bt118 => ((calc_Log.f k (shl .i64 1 (wrap64 (Int.tmod a0 61)))).bind fun bt120 => ((calc_Log.f k (wrap64 (2 * (shl .i64 1 (wrap64 (Int.tmod a0 61)))))).bind fun bt122 => ((calc_Up.f k (wrap64 ((shl .i64 1 (wrap64 (Int.tmod a0 61))) + (Go.bits .and .i64 a1 (wrap64 ((shl .i64 1 (wrap64 (Int.tmod a0 61))) - 1)))))).bind fun bt124 => ((calc_Log.f k (wrap64 (-(shl .i64 1 (wrap64 (Int.tmod a0 61)))))).bind fun bt126 => (if bt116.1 = (shl .i64 1 (wrap64 (Int.tmod a0 61))) then (if bt116.2 = true then (if bt118.1 = (wrap64 (2 * (shl .i64 1 (wrap64 (Int.tmod a0 61))))) then (if bt118.2 = true then (if bt120.1 = (wrap64 (Int.tmod a0 61)) then (if bt120.2 = true then (if bt122.1 = (wrap64 ((wrap64 (Int.tmod a0 61)) + 1)) then (if bt122.2 = true then (if bt124.2 = true then (if ((bt124.1 == (shl .i64 1 (wrap64 (Int.tmod a0 61)))) == ((Go.bits .and .i64 a1 (wrap64 ((shl .i64 1 (wrap64 (Int.tmod a0 61))) - 1))) == 0)) = true then (if bt124.1 = (shl .i64 1 (wrap64 (Int.tmod a0 61))) then (some (!bt126.2)) else (if bt124.1 = (wrap64 (2 * (shl .i64 1 (wrap64 (Int.tmod a0 61))))) then (some (!bt126.2)) else (some false))) else (some false)) else (some false)) else (some false)) else (some false)) else (some false)) else (some false)) else (some false)) else (some false)) else (some false)) else (some false)))))))) else (none)) else (some false))) = some r := h
  clear h
  replace H := Option.bind_eq_some_iff.mp H
  obtain ⟨t115, A30, H⟩ := H
  replace H : (if t115 = true then (if 0 ≤ (wrap64 (Int.tmod a0 61)) then ((calc_Up.f k (shl .i64 1 (wrap64 (Int.tmod a0 61)))).bind fun bt116 => ((calc_Up.f k (wrap64 ((shl .i64 1 (wrap64 (Int.tmod a0 61))) + 1))).bind fun bt118 => ((calc_Log.f k (shl .i64 1 (wrap64 (Int.tmod a0 61)))).bind fun bt120 => ((calc_Log.f k (wrap64 (2 * (shl .i64 1 (wrap64 (Int.tmod a0 61)))))).bind fun bt122 => ((calc_Up.f k (wrap64 ((shl .i64 1 (wrap64 (Int.tmod a0 61))) + (Go.bits .and .i64 a1 (wrap64 ((shl .i64 1 (wrap64 (Int.tmod a0 61))) - 1)))))).bind fun bt124 => ((calc_Log.f k (wrap64 (-(shl .i64 1 (wrap64 (Int.tmod a0 61)))))).bind fun bt126 => (if bt116.1 = (shl .i64 1 (wrap64 (Int.tmod a0 61))) then (if bt116.2 = true then (if bt118.1 = (wrap64 (2 * (shl .i64 1 (wrap64 (Int.tmod a0 61))))) then (if bt118.2 = true then (if bt120.1 = (wrap64 (Int.tmod a0 61)) then (if bt120.2 = true then (if bt122.1 = (wrap64 ((wrap64 (Int.tmod a0 61)) + 1)) then (if bt122.2 = true then (if bt124.2 = true then (if ((bt124.1 == (shl .i64 1 (wrap64 (Int.tmod a0 61)))) == ((Go.bits .and .i64 a1 (wrap64 ((shl .i64 1 (wrap64 (Int.tmod a0 61))) - 1))) == 0)) = true then (if bt124.1 = (shl .i64 1 (wrap64 (Int.tmod a0 61))) then (some (!bt126.2)) else (if bt124.1 = (wrap64 (2 * (shl .i64 1 (wrap64 (Int.tmod a0 61))))) then (some (!bt126.2)) else (some false))) else (some false)) else (some false)) else (some false)) else (some false)) else (some false)) else (some false)) else (some false)) else (some false)) else (some false)) else (some false)))))))) else (none)) else (some false)) = some r := H
  have A3 := Aside0.mk A30
  clear A30
  by_cases c4 : t115 = true
  · subst c4
    have H1 : (if 0 ≤ (wrap64 (Int.tmod a0 61)) then ((calc_Up.f k (shl .i64 1 (wrap64 (Int.tmod a0 61)))).bind fun bt116 => ((calc_Up.f k (wrap64 ((shl .i64 1 (wrap64 (Int.tmod a0 61))) + 1))).bind fun bt118 => ((calc_Log.f k (shl .i64 1 (wrap64 (Int.tmod a0 61)))).bind fun bt120 => ((calc_Log.f k (wrap64 (2 * (shl .i64 1 (wrap64 (Int.tmod a0 61)))))).bind fun bt122 => ((calc_Up.f k (wrap64 ((shl .i64 1 (wrap64 (Int.tmod a0 61))) + (Go.bits .and .i64 a1 (wrap64 ((shl .i64 1 (wrap64 (Int.tmod a0 61))) - 1)))))).bind fun bt124 => ((calc_Log.f k (wrap64 (-(shl .i64 1 (wrap64 (Int.tmod a0 61)))))).bind fun bt126 => (if bt116.1 = (shl .i64 1 (wrap64 (Int.tmod a0 61))) then (if bt116.2 = true then (if bt118.1 = (wrap64 (2 * (shl .i64 1 (wrap64 (Int.tmod a0 61))))) then (if bt118.2 = true then (if bt120.1 = (wrap64 (Int.tmod a0 61)) then (if bt120.2 = true then (if bt122.1 = (wrap64 ((wrap64 (Int.tmod a0 61)) + 1)) then (if bt122.2 = true then (if bt124.2 = true then (if ((bt124.1 == (shl .i64 1 (wrap64 (Int.tmod a0 61)))) == ((Go.bits .and .i64 a1 (wrap64 ((shl .i64 1 (wrap64 (Int.tmod a0 61))) - 1))) == 0)) = true then (if bt124.1 = (shl .i64 1 (wrap64 (Int.tmod a0 61))) then (some (!bt126.2)) else (if bt124.1 = (wrap64 (2 * (shl .i64 1 (wrap64 (Int.tmod a0 61))))) then (some (!bt126.2)) else (some false))) else (some false)) else (some false)) else (some false)) else (some false)) else (some false)) else (some false)) else (some false)) else (some false)) else (some false)) else (some false)))))))) else (none)) = some r := by rw [if_pos rfl] at H; exact H
    clear H
    have H := H1
    clear H1
    obtain ⟨ji5, hji5⟩ : ∃ j_ : Int, (wrap64 (Int.tmod a0 61)) = j_ := ⟨_, rfl⟩
    replace H : (if 0 ≤ (ji5) then ((calc_Up.f k (shl .i64 1 (ji5))).bind fun bt116 => ((calc_Up.f k (wrap64 ((shl .i64 1 (ji5)) + 1))).bind fun bt118 => ((calc_Log.f k (shl .i64 1 (ji5))).bind fun bt120 => ((calc_Log.f k (wrap64 (2 * (shl .i64 1 (ji5))))).bind fun bt122 => ((calc_Up.f k (wrap64 ((shl .i64 1 (ji5)) + (Go.bits .and .i64 a1 (wrap64 ((shl .i64 1 (ji5)) - 1)))))).bind fun bt124 => ((calc_Log.f k (wrap64 (-(shl .i64 1 (ji5))))).bind fun bt126 => (if bt116.1 = (shl .i64 1 (ji5)) then (if bt116.2 = true then (if bt118.1 = (wrap64 (2 * (shl .i64 1 (ji5)))) then (if bt118.2 = true then (if bt120.1 = (ji5) then (if bt120.2 = true then (if bt122.1 = (wrap64 ((ji5) + 1)) then (if bt122.2 = true then (if bt124.2 = true then (if ((bt124.1 == (shl .i64 1 (ji5))) == ((Go.bits .and .i64 a1 (wrap64 ((shl .i64 1 (ji5)) - 1))) == 0)) = true then (if bt124.1 = (shl .i64 1 (ji5)) then (some (!bt126.2)) else (if bt124.1 = (wrap64 (2 * (shl .i64 1 (ji5)))) then (some (!bt126.2)) else (some false))) else (some false)) else (some false)) else (some false)) else (some false)) else (some false)) else (some false)) else (some false)) else (some false)) else (some false)) else (some false)))))))) else (none)) = some r := by first | (rw [hji5] at H; exact H) | (simp only [hji5] at H ⊢; exact H)
    (try rw [hji5] at A3)
    have hji5w : (IntKind.i64.wrap (Int.tmod a0 61)) = ji5 := (i64_w _).trans hji5
    by_cases c6 : 0 ≤ (ji5)
    · rw [if_pos c6] at H
      have c6b0 := eq_true c6
      have c6b1 : decide (0 ≤ (ji5)) = true := decide_eq_true c6
      clear c6
      obtain ⟨ji7, hji7⟩ : ∃ j_ : Int, (shl .i64 1 (ji5)) = j_ := ⟨_, rfl⟩
      replace H : ((calc_Up.f k (ji7)).bind fun bt116 => ((calc_Up.f k (wrap64 ((ji7) + 1))).bind fun bt118 => ((calc_Log.f k (ji7)).bind fun bt120 => ((calc_Log.f k (wrap64 (2 * (ji7)))).bind fun bt122 => ((calc_Up.f k (wrap64 ((ji7) + (Go.bits .and .i64 a1 (wrap64 ((ji7) - 1)))))).bind fun bt124 => ((calc_Log.f k (wrap64 (-(ji7)))).bind fun bt126 => (if bt116.1 = (ji7) then (if bt116.2 = true then (if bt118.1 = (wrap64 (2 * (ji7))) then (if bt118.2 = true then (if bt120.1 = (ji5) then (if bt120.2 = true then (if bt122.1 = (wrap64 ((ji5) + 1)) then (if bt122.2 = true then (if bt124.2 = true then (if ((bt124.1 == (ji7)) == ((Go.bits .and .i64 a1 (wrap64 ((ji7) - 1))) == 0)) = true then (if bt124.1 = (ji7) then (some (!bt126.2)) else (if bt124.1 = (wrap64 (2 * (ji7))) then (some (!bt126.2)) else (some false))) else (some false)) else (some false)) else (some false)) else (some false)) else (some false)) else (some false)) else (some false)) else (some false)) else (some false)) else (some false)))))))) = some r := by first | (rw [hji7] at H; exact H) | (simp only [hji7] at H ⊢; exact H)
      (try rw [hji7] at A3)
      have hji7_ : (IntKind.i64.wrap (1 * 2 ^ min (ji5).toNat 64)) = ji7 := hji7
      have hji7z : (ji5) ≤ 64 → (IntKind.i64.wrap (1 * 2 ^ (ji5).toNat)) = ji7 := shl_small hji7
      have hji7u : (IntKind.i64.wrap (2 ^ min (ji5).toNat 64)) = ji7 := by have h_ := hji7_; rw [Int.one_mul] at h_; exact h_
      have hji7v : (ji5) ≤ 64 → (IntKind.i64.wrap (2 ^ (ji5).toNat)) = ji7 := fun hle_ => by have h_ := hji7z hle_; rw [Int.one_mul] at h_; exact h_
      have hji7y : (wrap64 (1 * 2 ^ min (ji5).toNat 64)) = ji7 := (i64_w _).symm.trans hji7_
      have hji7x : (ji5) ≤ 64 → (wrap64 (1 * 2 ^ (ji5).toNat)) = ji7 := fun h_ => (i64_w _).symm.trans (hji7z h_)
      replace H := Option.bind_eq_some_iff.mp H
      obtain ⟨⟨t116, t117⟩, A80, H⟩ := H
      replace H : ((calc_Up.f k (wrap64 ((ji7) + 1))).bind fun bt118 => ((calc_Log.f k (ji7)).bind fun bt120 => ((calc_Log.f k (wrap64 (2 * (ji7)))).bind fun bt122 => ((calc_Up.f k (wrap64 ((ji7) + (Go.bits .and .i64 a1 (wrap64 ((ji7) - 1)))))).bind fun bt124 => ((calc_Log.f k (wrap64 (-(ji7)))).bind fun bt126 => (if t116 = (ji7) then (if t117 = true then (if bt118.1 = (wrap64 (2 * (ji7))) then (if bt118.2 = true then (if bt120.1 = (ji5) then (if bt120.2 = true then (if bt122.1 = (wrap64 ((ji5) + 1)) then (if bt122.2 = true then (if bt124.2 = true then (if ((bt124.1 == (ji7)) == ((Go.bits .and .i64 a1 (wrap64 ((ji7) - 1))) == 0)) = true then (if bt124.1 = (ji7) then (some (!bt126.2)) else (if bt124.1 = (wrap64 (2 * (ji7))) then (some (!bt126.2)) else (some false))) else (some false)) else (some false)) else (some false)) else (some false)) else (some false)) else (some false)) else (some false)) else (some false)) else (some false)) else (some false))))))) = some r := H
      have A8 := Aside0.mk A80
      clear A80
      replace H := Option.bind_eq_some_iff.mp H
      obtain ⟨⟨t118, t119⟩, A90, H⟩ := H
      replace H : ((calc_Log.f k (ji7)).bind fun bt120 => ((calc_Log.f k (wrap64 (2 * (ji7)))).bind fun bt122 => ((calc_Up.f k (wrap64 ((ji7) + (Go.bits .and .i64 a1 (wrap64 ((ji7) - 1)))))).bind fun bt124 => ((calc_Log.f k (wrap64 (-(ji7)))).bind fun bt126 => (if t116 = (ji7) then (if t117 = true then (if t118 = (wrap64 (2 * (ji7))) then (if t119 = true then (if bt120.1 = (ji5) then (if bt120.2 = true then (if bt122.1 = (wrap64 ((ji5) + 1)) then (if bt122.2 = true then (if bt124.2 = true then (if ((bt124.1 == (ji7)) == ((Go.bits .and .i64 a1 (wrap64 ((ji7) - 1))) == 0)) = true then (if bt124.1 = (ji7) then (some (!bt126.2)) else (if bt124.1 = (wrap64 (2 * (ji7))) then (some (!bt126.2)) else (some false))) else (some false)) else (some false)) else (some false)) else (some false)) else (some false)) else (some false)) else (some false)) else (some false)) else (some false)) else (some false)))))) = some r := H
      have A9 := Aside0.mk A90
      clear A90
      replace H := Option.bind_eq_some_iff.mp H
      obtain ⟨⟨t120, t121⟩, A100, H⟩ := H
      replace H : ((calc_Log.f k (wrap64 (2 * (ji7)))).bind fun bt122 => ((calc_Up.f k (wrap64 ((ji7) + (Go.bits .and .i64 a1 (wrap64 ((ji7) - 1)))))).bind fun bt124 => ((calc_Log.f k (wrap64 (-(ji7)))).bind fun bt126 => (if t116 = (ji7) then (if t117 = true then (if t118 = (wrap64 (2 * (ji7))) then (if t119 = true then (if t120 = (ji5) then (if t121 = true then (if bt122.1 = (wrap64 ((ji5) + 1)) then (if bt122.2 = true then (if bt124.2 = true then (if ((bt124.1 == (ji7)) == ((Go.bits .and .i64 a1 (wrap64 ((ji7) - 1))) == 0)) = true then (if bt124.1 = (ji7) then (some (!bt126.2)) else (if bt124.1 = (wrap64 (2 * (ji7))) then (some (!bt126.2)) else (some false))) else (some false)) else (some false)) else (some false)) else (some false)) else (some false)) else (some false)) else (some false)) else (some false)) else (some false)) else (some false))))) = some r := H
      have A10 := Aside0.mk A100
      clear A100
      replace H := Option.bind_eq_some_iff.mp H
      obtain ⟨⟨t122, t123⟩, A110, H⟩ := H
      replace H : ((calc_Up.f k (wrap64 ((ji7) + (Go.bits .and .i64 a1 (wrap64 ((ji7) - 1)))))).bind fun bt124 => ((calc_Log.f k (wrap64 (-(ji7)))).bind fun bt126 => (if t116 = (ji7) then (if t117 = true then (if t118 = (wrap64 (2 * (ji7))) then (if t119 = true then (if t120 = (ji5) then (if t121 = true then (if t122 = (wrap64 ((ji5) + 1)) then (if t123 = true then (if bt124.2 = true then (if ((bt124.1 == (ji7)) == ((Go.bits .and .i64 a1 (wrap64 ((ji7) - 1))) == 0)) = true then (if bt124.1 = (ji7) then (some (!bt126.2)) else (if bt124.1 = (wrap64 (2 * (ji7))) then (some (!bt126.2)) else (some false))) else (some false)) else (some false)) else (some false)) else (some false)) else (some false)) else (some false)) else (some false)) else (some false)) else (some false)) else (some false)))) = some r := H
      have A11 := Aside0.mk A110
      clear A110
      replace H := Option.bind_eq_some_iff.mp H
      obtain ⟨⟨t124, t125⟩, A120, H⟩ := H
      replace H : ((calc_Log.f k (wrap64 (-(ji7)))).bind fun bt126 => (if t116 = (ji7) then (if t117 = true then (if t118 = (wrap64 (2 * (ji7))) then (if t119 = true then (if t120 = (ji5) then (if t121 = true then (if t122 = (wrap64 ((ji5) + 1)) then (if t123 = true then (if t125 = true then (if ((t124 == (ji7)) == ((Go.bits .and .i64 a1 (wrap64 ((ji7) - 1))) == 0)) = true then (if t124 = (ji7) then (some (!bt126.2)) else (if t124 = (wrap64 (2 * (ji7))) then (some (!bt126.2)) else (some false))) else (some false)) else (some false)) else (some false)) else (some false)) else (some false)) else (some false)) else (some false)) else (some false)) else (some false)) else (some false))) = some r := H
      have A12 := Aside0.mk A120
      clear A120
      replace H := Option.bind_eq_some_iff.mp H
      obtain ⟨⟨t126, t127⟩, A130, H⟩ := H
      replace H : (if t116 = (ji7) then (if t117 = true then (if t118 = (wrap64 (2 * (ji7))) then (if t119 = true then (if t120 = (ji5) then (if t121 = true then (if t122 = (wrap64 ((ji5) + 1)) then (if t123 = true then (if t125 = true then (if ((t124 == (ji7)) == ((Go.bits .and .i64 a1 (wrap64 ((ji7) - 1))) == 0)) = true then (if t124 = (ji7) then (some (!t127)) else (if t124 = (wrap64 (2 * (ji7))) then (some (!t127)) else (some false))) else (some false)) else (some false)) else (some false)) else (some false)) else (some false)) else (some false)) else (some false)) else (some false)) else (some false)) else (some false)) = some r := H
      have A13 := Aside0.mk A130
      clear A130
      by_cases c14 : t116 = (ji7)
      · rw [if_pos c14] at H
        have c14b0 : (t116 == (ji7)) = true := beq_iff_eq.mpr c14
        have c14b1 : (t116 != (ji7)) = false := bne_eq_false_iff_eq.mpr c14
        clear c14
        by_cases c15 : t117 = true
        · subst c15
          have H1 : (if t118 = (wrap64 (2 * (ji7))) then (if t119 = true then (if t120 = (ji5) then (if t121 = true then (if t122 = (wrap64 ((ji5) + 1)) then (if t123 = true then (if t125 = true then (if ((t124 == (ji7)) == ((Go.bits .and .i64 a1 (wrap64 ((ji7) - 1))) == 0)) = true then (if t124 = (ji7) then (some (!t127)) else (if t124 = (wrap64 (2 * (ji7))) then (some (!t127)) else (some false))) else (some false)) else (some false)) else (some false)) else (some false)) else (some false)) else (some false)) else (some false)) else (some false)) = some r := by rw [if_pos rfl] at H; exact H
          clear H
          have H := H1
          clear H1
          by_cases c16 : t118 = (wrap64 (2 * (ji7)))
          · rw [if_pos c16] at H
            have c16b0 : (t118 == (wrap64 (2 * (ji7)))) = true := beq_iff_eq.mpr c16
            have c16b1 : (t118 != (wrap64 (2 * (ji7)))) = false := bne_eq_false_iff_eq.mpr c16
            clear c16
            by_cases c17 : t119 = true
            · subst c17
              have H1 : (if t120 = (ji5) then (if t121 = true then (if t122 = (wrap64 ((ji5) + 1)) then (if t123 = true then (if t125 = true then (if ((t124 == (ji7)) == ((Go.bits .and .i64 a1 (wrap64 ((ji7) - 1))) == 0)) = true then (if t124 = (ji7) then (some (!t127)) else (if t124 = (wrap64 (2 * (ji7))) then (some (!t127)) else (some false))) else (some false)) else (some false)) else (some false)) else (some false)) else (some false)) else (some false)) = some r := by rw [if_pos rfl] at H; exact H
              clear H
              have H := H1
              clear H1
              by_cases c18 : t120 = (ji5)
              · rw [if_pos c18] at H
                have c18b0 : (t120 == (ji5)) = true := beq_iff_eq.mpr c18
                have c18b1 : (t120 != (ji5)) = false := bne_eq_false_iff_eq.mpr c18
                clear c18
                by_cases c19 : t121 = true
                · subst c19
                  have H1 : (if t122 = (wrap64 ((ji5) + 1)) then (if t123 = true then (if t125 = true then (if ((t124 == (ji7)) == ((Go.bits .and .i64 a1 (wrap64 ((ji7) - 1))) == 0)) = true then (if t124 = (ji7) then (some (!t127)) else (if t124 = (wrap64 (2 * (ji7))) then (some (!t127)) else (some false))) else (some false)) else (some false)) else (some false)) else (some false)) = some r := by rw [if_pos rfl] at H; exact H
                  clear H
                  have H := H1
                  clear H1
                  by_cases c20 : t122 = (wrap64 ((ji5) + 1))
                  · rw [if_pos c20] at H
                    have c20b0 : (t122 == (wrap64 ((ji5) + 1))) = true := beq_iff_eq.mpr c20
                    have c20b1 : (t122 != (wrap64 ((ji5) + 1))) = false := bne_eq_false_iff_eq.mpr c20
                    clear c20
                    by_cases c21 : t123 = true
                    · subst c21
                      have H1 : (if t125 = true then (if ((t124 == (ji7)) == ((Go.bits .and .i64 a1 (wrap64 ((ji7) - 1))) == 0)) = true then (if t124 = (ji7) then (some (!t127)) else (if t124 = (wrap64 (2 * (ji7))) then (some (!t127)) else (some false))) else (some false)) else (some false)) = some r := by rw [if_pos rfl] at H; exact H
                      clear H
                      have H := H1
                      clear H1
                      by_cases c22 : t125 = true
                      · subst c22
                        have H1 : (if ((t124 == (ji7)) == ((Go.bits .and .i64 a1 (wrap64 ((ji7) - 1))) == 0)) = true then (if t124 = (ji7) then (some (!t127)) else (if t124 = (wrap64 (2 * (ji7))) then (some (!t127)) else (some false))) else (some false)) = some r := by rw [if_pos rfl] at H; exact H
                        clear H
                        have H := H1
                        clear H1
                        by_cases c23 : ((t124 == (ji7)) == ((Go.bits .and .i64 a1 (wrap64 ((ji7) - 1))) == 0)) = true
                        · rw [if_pos c23] at H
                          have c23b0 : ((t124 == (ji7)) == ((Go.bits .and .i64 a1 (wrap64 ((ji7) - 1))) == 0)) = true := c23
                          (try (have c23b1 : decide ((t124 == (ji7)) = ((Go.bits .and .i64 a1 (wrap64 ((ji7) - 1))) == 0)) = true := by simpa using c23))
                          (try (have c23b2 : ((t124 == (ji7)) == ((Go.bits .and .i64 a1 (wrap64 ((ji7) - 1))) == 0)) = true := by simpa using c23))
                          clear c23
                          by_cases c24 : t124 = (ji7)
                          · rw [if_pos c24] at H
                            have c24b0 : (t124 == (ji7)) = true := beq_iff_eq.mpr c24
                            have c24b1 : (t124 != (ji7)) = false := bne_eq_false_iff_eq.mpr c24
                            have c24b2 : ((Go.bits .and .i64 a1 (wrap64 ((ji7) - 1))) == 0) = true := by have h_ := c23b0; rw [c24b0] at h_; simpa using h_
                            clear c23b0 c23b1 c23b2
                            clear c24
                            obtain rfl := Option.some.inj H
                            go_enter Try.func9, Try.ntmps9
                            go_wp2_with (first | ((with_reducible refine gate_callee (f := 10) rfl ?_); refine goesL_ (some 19) rfl rfl Try.func10 (by kernel_rfl) rfl #[] rfl (by (try simp only [List.map_toArray, List.map_cons, List.map_nil]); first | done | rfl | (simp only [List.length_drop, List.length_take]; rfl)) ?_; (with_reducible refine (hodmanlaw1_begun.calls k  true _ A3.out).mono ?_); rintro e w' ⟨rfl, ⟨nd, rfl⟩⟩; refine ⟨_, rfl, ?_⟩) | ((with_reducible refine gate_callee (f := 17) rfl ?_); refine goesL_ (some 28) rfl rfl Try.func17 (by kernel_rfl) rfl #[.int .i64 ji7] rfl (by (try simp only [List.map_toArray, List.map_cons, List.map_nil]); first | done | (simp only [hji7]; rfl) | rfl | (simp only [List.length_drop, List.length_take]; rfl)) ?_; (with_reducible refine (calc_Up.calls k ji7 t116 true _ A8.out).mono ?_); rintro e w' ⟨rfl, ⟨nd, rfl⟩⟩; refine ⟨_, rfl, ?_⟩) | ((with_reducible refine gate_callee (f := 17) rfl ?_); refine goesL_ (some 34) rfl rfl Try.func17 (by kernel_rfl) rfl #[.int .i64 (wrap64 ((ji7) + 1))] rfl (by (try simp only [List.map_toArray, List.map_cons, List.map_nil]); first | done | (simp only [hji7]; rfl) | rfl | (simp only [List.length_drop, List.length_take]; rfl)) ?_; (with_reducible refine (calc_Up.calls k (wrap64 ((ji7) + 1)) t118 true _ A9.out).mono ?_); rintro e w' ⟨rfl, ⟨nd, rfl⟩⟩; refine ⟨_, rfl, ?_⟩) | ((with_reducible refine gate_callee (f := 19) rfl ?_); refine goesL_ (some 39) rfl rfl Try.func19 (by kernel_rfl) rfl #[.int .i64 ji7] rfl (by (try simp only [List.map_toArray, List.map_cons, List.map_nil]); first | done | (simp only [hji7]; rfl) | rfl | (simp only [List.length_drop, List.length_take]; rfl)) ?_; (with_reducible refine (calc_Log.calls k ji7 t120 true _ A10.out).mono ?_); rintro e w' ⟨rfl, ⟨nd, rfl⟩⟩; refine ⟨_, rfl, ?_⟩) | ((with_reducible refine gate_callee (f := 19) rfl ?_); refine goesL_ (some 45) rfl rfl Try.func19 (by kernel_rfl) rfl #[.int .i64 (wrap64 (2 * (ji7)))] rfl (by (try simp only [List.map_toArray, List.map_cons, List.map_nil]); first | done | (simp only [hji7]; rfl) | rfl | (simp only [List.length_drop, List.length_take]; rfl)) ?_; (with_reducible refine (calc_Log.calls k (wrap64 (2 * (ji7))) t122 true _ A11.out).mono ?_); rintro e w' ⟨rfl, ⟨nd, rfl⟩⟩; refine ⟨_, rfl, ?_⟩) | ((with_reducible refine gate_callee (f := 17) rfl ?_); refine goesL_ (some 55) rfl rfl Try.func17 (by kernel_rfl) rfl #[.int .i64 (wrap64 ((ji7) + (Go.bits .and .i64 a1 (wrap64 ((ji7) - 1)))))] rfl (by (try simp only [List.map_toArray, List.map_cons, List.map_nil]); first | done | (simp only [hji7]; rfl) | rfl | (simp only [List.length_drop, List.length_take]; rfl)) ?_; (with_reducible refine (calc_Up.calls k (wrap64 ((ji7) + (Go.bits .and .i64 a1 (wrap64 ((ji7) - 1))))) t124 true _ A12.out).mono ?_); rintro e w' ⟨rfl, ⟨nd, rfl⟩⟩; refine ⟨_, rfl, ?_⟩) | ((with_reducible refine gate_callee (f := 19) rfl ?_); refine goesL_ (some 61) rfl rfl Try.func19 (by kernel_rfl) rfl #[.int .i64 (wrap64 (-(ji7)))] rfl (by (try simp only [List.map_toArray, List.map_cons, List.map_nil]); first | done | (simp only [hji7]; rfl) | rfl | (simp only [List.length_drop, List.length_take]; rfl)) ?_; (with_reducible refine (calc_Log.calls k (wrap64 (-(ji7))) t126 t127 _ A13.out).mono ?_); rintro e w' ⟨rfl, ⟨nd, rfl⟩⟩; refine ⟨_, rfl, ?_⟩))
                            go_ret
                            exact ⟨by first | rfl | (simp; done) | (simp only [← hji5, ← hji7] <;> (first | rfl | simp)) | (simp [*]; done), by repeat (first | exact Drawn0.refl _ | apply Drawn0.step)⟩
                          · rw [if_neg c24] at H
                            have c24b0 : (t124 == (ji7)) = false := beq_eq_false_iff_ne.mpr c24
                            have c24b1 : (t124 != (ji7)) = true := bne_iff_ne.mpr c24
                            have c24b2 : ((Go.bits .and .i64 a1 (wrap64 ((ji7) - 1))) == 0) = false := by have h_ := c23b0; rw [c24b0] at h_; simpa using h_
                            clear c23b0 c23b1 c23b2
                            by_cases c25 : t124 = (wrap64 (2 * (ji7)))
                            · rw [if_pos c25] at H
                              have c25b0 : (t124 == (wrap64 (2 * (ji7)))) = true := beq_iff_eq.mpr c25
                              have c25b1 : (t124 != (wrap64 (2 * (ji7)))) = false := bne_eq_false_iff_eq.mpr c25
                              clear c25
                              obtain rfl := Option.some.inj H
                              go_enter Try.func9, Try.ntmps9
                              go_wp2_with (first | ((with_reducible refine gate_callee (f := 10) rfl ?_); refine goesL_ (some 19) rfl rfl Try.func10 (by kernel_rfl) rfl #[] rfl (by (try simp only [List.map_toArray, List.map_cons, List.map_nil]); first | done | rfl | (simp only [List.length_drop, List.length_take]; rfl)) ?_; (with_reducible refine (hodmanlaw1_begun.calls k  true _ A3.out).mono ?_); rintro e w' ⟨rfl, ⟨nd, rfl⟩⟩; refine ⟨_, rfl, ?_⟩) | ((with_reducible refine gate_callee (f := 17) rfl ?_); refine goesL_ (some 28) rfl rfl Try.func17 (by kernel_rfl) rfl #[.int .i64 ji7] rfl (by (try simp only [List.map_toArray, List.map_cons, List.map_nil]); first | done | (simp only [hji7]; rfl) | rfl | (simp only [List.length_drop, List.length_take]; rfl)) ?_; (with_reducible refine (calc_Up.calls k ji7 t116 true _ A8.out).mono ?_); rintro e w' ⟨rfl, ⟨nd, rfl⟩⟩; refine ⟨_, rfl, ?_⟩) | ((with_reducible refine gate_callee (f := 17) rfl ?_); refine goesL_ (some 34) rfl rfl Try.func17 (by kernel_rfl) rfl #[.int .i64 (wrap64 ((ji7) + 1))] rfl (by (try simp only [List.map_toArray, List.map_cons, List.map_nil]); first | done | (simp only [hji7]; rfl) | rfl | (simp only [List.length_drop, List.length_take]; rfl)) ?_; (with_reducible refine (calc_Up.calls k (wrap64 ((ji7) + 1)) t118 true _ A9.out).mono ?_); rintro e w' ⟨rfl, ⟨nd, rfl⟩⟩; refine ⟨_, rfl, ?_⟩) | ((with_reducible refine gate_callee (f := 19) rfl ?_); refine goesL_ (some 39) rfl rfl Try.func19 (by kernel_rfl) rfl #[.int .i64 ji7] rfl (by (try simp only [List.map_toArray, List.map_cons, List.map_nil]); first | done | (simp only [hji7]; rfl) | rfl | (simp only [List.length_drop, List.length_take]; rfl)) ?_; (with_reducible refine (calc_Log.calls k ji7 t120 true _ A10.out).mono ?_); rintro e w' ⟨rfl, ⟨nd, rfl⟩⟩; refine ⟨_, rfl, ?_⟩) | ((with_reducible refine gate_callee (f := 19) rfl ?_); refine goesL_ (some 45) rfl rfl Try.func19 (by kernel_rfl) rfl #[.int .i64 (wrap64 (2 * (ji7)))] rfl (by (try simp only [List.map_toArray, List.map_cons, List.map_nil]); first | done | (simp only [hji7]; rfl) | rfl | (simp only [List.length_drop, List.length_take]; rfl)) ?_; (with_reducible refine (calc_Log.calls k (wrap64 (2 * (ji7))) t122 true _ A11.out).mono ?_); rintro e w' ⟨rfl, ⟨nd, rfl⟩⟩; refine ⟨_, rfl, ?_⟩) | ((with_reducible refine gate_callee (f := 17) rfl ?_); refine goesL_ (some 55) rfl rfl Try.func17 (by kernel_rfl) rfl #[.int .i64 (wrap64 ((ji7) + (Go.bits .and .i64 a1 (wrap64 ((ji7) - 1)))))] rfl (by (try simp only [List.map_toArray, List.map_cons, List.map_nil]); first | done | (simp only [hji7]; rfl) | rfl | (simp only [List.length_drop, List.length_take]; rfl)) ?_; (with_reducible refine (calc_Up.calls k (wrap64 ((ji7) + (Go.bits .and .i64 a1 (wrap64 ((ji7) - 1))))) t124 true _ A12.out).mono ?_); rintro e w' ⟨rfl, ⟨nd, rfl⟩⟩; refine ⟨_, rfl, ?_⟩) | ((with_reducible refine gate_callee (f := 19) rfl ?_); refine goesL_ (some 61) rfl rfl Try.func19 (by kernel_rfl) rfl #[.int .i64 (wrap64 (-(ji7)))] rfl (by (try simp only [List.map_toArray, List.map_cons, List.map_nil]); first | done | (simp only [hji7]; rfl) | rfl | (simp only [List.length_drop, List.length_take]; rfl)) ?_; (with_reducible refine (calc_Log.calls k (wrap64 (-(ji7))) t126 t127 _ A13.out).mono ?_); rintro e w' ⟨rfl, ⟨nd, rfl⟩⟩; refine ⟨_, rfl, ?_⟩))
                              go_ret
                              exact ⟨by first | rfl | (simp; done) | (simp only [← hji5, ← hji7] <;> (first | rfl | simp)) | (simp [*]; done), by repeat (first | exact Drawn0.refl _ | apply Drawn0.step)⟩
                            · rw [if_neg c25] at H
                              have c25b0 : (t124 == (wrap64 (2 * (ji7)))) = false := beq_eq_false_iff_ne.mpr c25
                              have c25b1 : (t124 != (wrap64 (2 * (ji7)))) = true := bne_iff_ne.mpr c25
                              exact absurd ((Option.some.inj H).trans hr_.out) Bool.false_ne_true
                        · rw [if_neg c23] at H
                          have c23b0 : ((t124 == (ji7)) == ((Go.bits .and .i64 a1 (wrap64 ((ji7) - 1))) == 0)) = false := by simpa using c23
                          (try (have c23b1 : decide ((t124 == (ji7)) = ((Go.bits .and .i64 a1 (wrap64 ((ji7) - 1))) == 0)) = false := by simpa using c23))
                          (try (have c23b2 : ((t124 == (ji7)) == ((Go.bits .and .i64 a1 (wrap64 ((ji7) - 1))) == 0)) = false := by simpa using c23))
                          (try (have c23b3 : ¬ ((t124 == (ji7)) = ((Go.bits .and .i64 a1 (wrap64 ((ji7) - 1))) == 0)) := by simpa using c23))
                          clear c23
                          exact absurd ((Option.some.inj H).trans hr_.out) Bool.false_ne_true
                      · replace c22 := Bool.eq_false_iff.mpr c22
                        subst c22
                        have H1 : (some false) = some r := by rw [if_neg (show ¬ (false = true) by decide)] at H; exact H
                        clear H
                        have H := H1
                        clear H1
                        exact absurd ((Option.some.inj H).trans hr_.out) Bool.false_ne_true
                    · replace c21 := Bool.eq_false_iff.mpr c21
                      subst c21
                      have H1 : (some false) = some r := by rw [if_neg (show ¬ (false = true) by decide)] at H; exact H
                      clear H
                      have H := H1
                      clear H1
                      exact absurd ((Option.some.inj H).trans hr_.out) Bool.false_ne_true
                  · rw [if_neg c20] at H
                    have c20b0 : (t122 == (wrap64 ((ji5) + 1))) = false := beq_eq_false_iff_ne.mpr c20
                    have c20b1 : (t122 != (wrap64 ((ji5) + 1))) = true := bne_iff_ne.mpr c20
                    exact absurd ((Option.some.inj H).trans hr_.out) Bool.false_ne_true
                · replace c19 := Bool.eq_false_iff.mpr c19
                  subst c19
                  have H1 : (some false) = some r := by rw [if_neg (show ¬ (false = true) by decide)] at H; exact H
                  clear H
                  have H := H1
                  clear H1
                  exact absurd ((Option.some.inj H).trans hr_.out) Bool.false_ne_true
              · rw [if_neg c18] at H
                have c18b0 : (t120 == (ji5)) = false := beq_eq_false_iff_ne.mpr c18
                have c18b1 : (t120 != (ji5)) = true := bne_iff_ne.mpr c18
                exact absurd ((Option.some.inj H).trans hr_.out) Bool.false_ne_true
            · replace c17 := Bool.eq_false_iff.mpr c17
              subst c17
              have H1 : (some false) = some r := by rw [if_neg (show ¬ (false = true) by decide)] at H; exact H
              clear H
              have H := H1
              clear H1
              exact absurd ((Option.some.inj H).trans hr_.out) Bool.false_ne_true
          · rw [if_neg c16] at H
            have c16b0 : (t118 == (wrap64 (2 * (ji7)))) = false := beq_eq_false_iff_ne.mpr c16
            have c16b1 : (t118 != (wrap64 (2 * (ji7)))) = true := bne_iff_ne.mpr c16
            exact absurd ((Option.some.inj H).trans hr_.out) Bool.false_ne_true
        · replace c15 := Bool.eq_false_iff.mpr c15
          subst c15
          have H1 : (some false) = some r := by rw [if_neg (show ¬ (false = true) by decide)] at H; exact H
          clear H
          have H := H1
          clear H1
          exact absurd ((Option.some.inj H).trans hr_.out) Bool.false_ne_true
      · rw [if_neg c14] at H
        have c14b0 : (t116 == (ji7)) = false := beq_eq_false_iff_ne.mpr c14
        have c14b1 : (t116 != (ji7)) = true := bne_iff_ne.mpr c14
        exact absurd ((Option.some.inj H).trans hr_.out) Bool.false_ne_true
    · rw [if_neg c6] at H
      exact absurd H (by simp)
  · replace c4 := Bool.eq_false_iff.mpr c4
    subst c4
    have H1 : (some false) = some r := by rw [if_neg (show ¬ (false = true) by decide)] at H; exact H
    clear H
    have H := H1
    clear H1
    exact absurd ((Option.some.inj H).trans hr_.out) Bool.false_ne_true

/-- THE ONE PURE STATEMENT of hodmanlaw1_CalcPowers: yours. -/
def hodmanlaw1_CalcPowers.Pure : Prop := ∀ (a0 : Int) (a1 : Int), (Lit.int .u8 a0).wf = true → (Lit.int .i64 a1).wf = true → ∃ k, hodmanlaw1_CalcPowers.f k a0 a1 = some true
theorem hodmanlaw1_CalcPowers.walk (P : hodmanlaw1_CalcPowers.Pure) (a0 : Int) (a1 : Int) (w : World) (w0 : (Lit.int .u8 a0).wf = true) (w1 : (Lit.int .i64 a1).wf = true) :
    Calls Try.prog 9 #[.int .u8 a0, .int .i64 a1] w fun e w' => e = .returned (.bool true) ∧ Below w.heap.size w w' := by
  obtain ⟨k, h⟩ := P a0 a1 w0 w1
  refine (hodmanlaw1_CalcPowers.calls k a0 a1 true w h ⟨rfl⟩).mono ?_
  rintro e w' ⟨rfl, hd⟩
  exact ⟨rfl, hd.below⟩

end Go.Proofs.Ytikonphhbfilfaa.PCalcPowers
