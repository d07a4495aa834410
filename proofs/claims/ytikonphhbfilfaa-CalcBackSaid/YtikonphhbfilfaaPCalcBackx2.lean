-- Written by a program of this project (a patched copy of the print): the machine's side of a law. Lean checks it.
import Derived.Test.YtikonphhbfilfaaPCalcBackx0
import Derived.Test.YtikonphhbfilfaaPCalcBackx1
namespace Go.Proofs.Ytikonphhbfilfaa.PCalcBack
open Go.RowKit Go.Proofs.YtikonphhbfilfaaW.PrintWords Go.Proofs.YtikonphhbfilfaaW.PrintLast Go.Proofs.YtikonphhbfilfaaW.PrintMore
attribute [local go_sem] max2_int min2_int max_two min_two max_three min_three max_four min_four   -- for this text's walks alone
set_option linter.unusedVariables false
set_option linter.unusedSimpArgs false

/-! ### hodmanlaw1_begun: function 10 -/
def hodmanlaw1_begun.f (k : Nat)  : Option (Bool) := (calc_Add.f 2 3).bind fun bt103 => ((calc_Mul.f k 2 3).bind fun bt105 => ((calc_Up.f k 5).bind fun bt107 => ((calc_Log.f k 8).bind fun bt109 => ((calc_Round.f k 5 4).bind fun bt111 => ((calc_Add.f 4611686018427387904 4611686018427387904).bind fun bt113 => (if bt103.1 = 5 then (if bt103.2 = true then (if bt105.1 = 6 then (if bt105.2 = true then (if bt107.1 = 8 then (if bt107.2 = true then (if bt109.1 = 3 then (if bt109.2 = true then (if bt111.1 = 8 then (if bt111.2 = true then (some (!bt113.2)) else (some false)) else (some false)) else (some false)) else (some false)) else (some false)) else (some false)) else (some false)) else (some false)) else (some false)) else (some false)))))))
theorem hodmanlaw1_begun.mono : ∀ k, LeO (hodmanlaw1_begun.f k ) (hodmanlaw1_begun.f (k + 1) ) := by
  intro  k
  unfold hodmanlaw1_begun.f
  repeat' first
      | (with_reducible exact calc_Log.mono _ _)
      | (with_reducible exact calc_Mul.mono _ _ _)
      | (with_reducible exact calc_Round.mono _ _ _)
      | (with_reducible exact calc_Up.mono _ _)
      | (with_reducible exact LeO.refl _)
      | (with_reducible exact LeO.none _)
      | (with_reducible refine LeO.ite ?_ ?_)
      | (with_reducible refine LeO.bind ?_ (fun _ => ?_))
      | exact calc_Log.mono _ _
      | exact calc_Mul.mono _ _ _
      | exact calc_Round.mono _ _ _
      | exact calc_Up.mono _ _
      | exact LeO.none _
      | refine LeO.ite ?_ ?_
      | refine LeO.bind ?_ (fun _ => ?_)
set_option maxHeartbeats 8000000 in
set_option maxRecDepth 100000 in
theorem hodmanlaw1_begun.calls (k : Nat)  (r : Bool) (w : World) (h : hodmanlaw1_begun.f k  = some r) :
    Calls Try.prog 10 #[] w fun e w' => e = .returned (.bool r) ∧ Drawn0 w w' := by
  have H : ((calc_Add.f 2 3).bind fun bt103 => ((calc_Mul.f k 2 3).bind fun bt105 => ((calc_Up.f k 5).bind fun bt107 => ((calc_Log.f k 8).bind fun bt109 => ((calc_Round.f k 5 4).bind fun bt111 => ((calc_Add.f 4611686018427387904 4611686018427387904).bind fun bt113 => (if bt103.1 = 5 then (if bt103.2 = true then (if bt105.1 = 6 then (if bt105.2 = true then (if bt107.1 = 8 then (if bt107.2 = true then (if bt109.1 = 3 then (if bt109.2 = true then (if bt111.1 = 8 then (if bt111.2 = true then (some (!bt113.2)) else (some false)) else (some false)) else (some false)) else (some false)) else (some false)) else (some false)) else (some false)) else (some false)) else (some false)) else (some false)))))))) = some r := h
  clear h
  replace H := Option.bind_eq_some_iff.mp H
  obtain ⟨⟨t103, t104⟩, A10, H⟩ := H
  replace H : ((calc_Mul.f k 2 3).bind fun bt105 => ((calc_Up.f k 5).bind fun bt107 => ((calc_Log.f k 8).bind fun bt109 => ((calc_Round.f k 5 4).bind fun bt111 => ((calc_Add.f 4611686018427387904 4611686018427387904).bind fun bt113 => (if t103 = 5 then (if t104 = true then (if bt105.1 = 6 then (if bt105.2 = true then (if bt107.1 = 8 then (if bt107.2 = true then (if bt109.1 = 3 then (if bt109.2 = true then (if bt111.1 = 8 then (if bt111.2 = true then (some (!bt113.2)) else (some false)) else (some false)) else (some false)) else (some false)) else (some false)) else (some false)) else (some false)) else (some false)) else (some false)) else (some false))))))) = some r := H
  have A1 := Aside0.mk A10
  clear A10
  replace H := Option.bind_eq_some_iff.mp H
  obtain ⟨⟨t105, t106⟩, A20, H⟩ := H
  replace H : ((calc_Up.f k 5).bind fun bt107 => ((calc_Log.f k 8).bind fun bt109 => ((calc_Round.f k 5 4).bind fun bt111 => ((calc_Add.f 4611686018427387904 4611686018427387904).bind fun bt113 => (if t103 = 5 then (if t104 = true then (if t105 = 6 then (if t106 = true then (if bt107.1 = 8 then (if bt107.2 = true then (if bt109.1 = 3 then (if bt109.2 = true then (if bt111.1 = 8 then (if bt111.2 = true then (some (!bt113.2)) else (some false)) else (some false)) else (some false)) else (some false)) else (some false)) else (some false)) else (some false)) else (some false)) else (some false)) else (some false)))))) = some r := H
  have A2 := Aside0.mk A20
  clear A20
  replace H := Option.bind_eq_some_iff.mp H
  obtain ⟨⟨t107, t108⟩, A30, H⟩ := H
  replace H : ((calc_Log.f k 8).bind fun bt109 => ((calc_Round.f k 5 4).bind fun bt111 => ((calc_Add.f 4611686018427387904 4611686018427387904).bind fun bt113 => (if t103 = 5 then (if t104 = true then (if t105 = 6 then (if t106 = true then (if t107 = 8 then (if t108 = true then (if bt109.1 = 3 then (if bt109.2 = true then (if bt111.1 = 8 then (if bt111.2 = true then (some (!bt113.2)) else (some false)) else (some false)) else (some false)) else (some false)) else (some false)) else (some false)) else (some false)) else (some false)) else (some false)) else (some false))))) = some r := H
  have A3 := Aside0.mk A30
  clear A30
  replace H := Option.bind_eq_some_iff.mp H
  obtain ⟨⟨t109, t110⟩, A40, H⟩ := H
  replace H : ((calc_Round.f k 5 4).bind fun bt111 => ((calc_Add.f 4611686018427387904 4611686018427387904).bind fun bt113 => (if t103 = 5 then (if t104 = true then (if t105 = 6 then (if t106 = true then (if t107 = 8 then (if t108 = true then (if t109 = 3 then (if t110 = true then (if bt111.1 = 8 then (if bt111.2 = true then (some (!bt113.2)) else (some false)) else (some false)) else (some false)) else (some false)) else (some false)) else (some false)) else (some false)) else (some false)) else (some false)) else (some false)))) = some r := H
  have A4 := Aside0.mk A40
  clear A40
  replace H := Option.bind_eq_some_iff.mp H
  obtain ⟨⟨t111, t112⟩, A50, H⟩ := H
  replace H : ((calc_Add.f 4611686018427387904 4611686018427387904).bind fun bt113 => (if t103 = 5 then (if t104 = true then (if t105 = 6 then (if t106 = true then (if t107 = 8 then (if t108 = true then (if t109 = 3 then (if t110 = true then (if t111 = 8 then (if t112 = true then (some (!bt113.2)) else (some false)) else (some false)) else (some false)) else (some false)) else (some false)) else (some false)) else (some false)) else (some false)) else (some false)) else (some false))) = some r := H
  have A5 := Aside0.mk A50
  clear A50
  replace H := Option.bind_eq_some_iff.mp H
  obtain ⟨⟨t113, t114⟩, A60, H⟩ := H
  replace H : (if t103 = 5 then (if t104 = true then (if t105 = 6 then (if t106 = true then (if t107 = 8 then (if t108 = true then (if t109 = 3 then (if t110 = true then (if t111 = 8 then (if t112 = true then (some (!t114)) else (some false)) else (some false)) else (some false)) else (some false)) else (some false)) else (some false)) else (some false)) else (some false)) else (some false)) else (some false)) = some r := H
  have A6 := Aside0.mk A60
  clear A60
  by_cases c7 : t103 = 5
  · rw [if_pos c7] at H
    have c7b0 : (t103 == 5) = true := beq_iff_eq.mpr c7
    have c7b1 : (t103 != 5) = false := bne_eq_false_iff_eq.mpr c7
    clear c7
    by_cases c8 : t104 = true
    · subst c8
      have H1 : (if t105 = 6 then (if t106 = true then (if t107 = 8 then (if t108 = true then (if t109 = 3 then (if t110 = true then (if t111 = 8 then (if t112 = true then (some (!t114)) else (some false)) else (some false)) else (some false)) else (some false)) else (some false)) else (some false)) else (some false)) else (some false)) = some r := by rw [if_pos rfl] at H; exact H
      clear H
      have H := H1
      clear H1
      by_cases c9 : t105 = 6
      · rw [if_pos c9] at H
        have c9b0 : (t105 == 6) = true := beq_iff_eq.mpr c9
        have c9b1 : (t105 != 6) = false := bne_eq_false_iff_eq.mpr c9
        clear c9
        by_cases c10 : t106 = true
        · subst c10
          have H1 : (if t107 = 8 then (if t108 = true then (if t109 = 3 then (if t110 = true then (if t111 = 8 then (if t112 = true then (some (!t114)) else (some false)) else (some false)) else (some false)) else (some false)) else (some false)) else (some false)) = some r := by rw [if_pos rfl] at H; exact H
          clear H
          have H := H1
          clear H1
          by_cases c11 : t107 = 8
          · rw [if_pos c11] at H
            have c11b0 : (t107 == 8) = true := beq_iff_eq.mpr c11
            have c11b1 : (t107 != 8) = false := bne_eq_false_iff_eq.mpr c11
            clear c11
            by_cases c12 : t108 = true
            · subst c12
              have H1 : (if t109 = 3 then (if t110 = true then (if t111 = 8 then (if t112 = true then (some (!t114)) else (some false)) else (some false)) else (some false)) else (some false)) = some r := by rw [if_pos rfl] at H; exact H
              clear H
              have H := H1
              clear H1
              by_cases c13 : t109 = 3
              · rw [if_pos c13] at H
                have c13b0 : (t109 == 3) = true := beq_iff_eq.mpr c13
                have c13b1 : (t109 != 3) = false := bne_eq_false_iff_eq.mpr c13
                clear c13
                by_cases c14 : t110 = true
                · subst c14
                  have H1 : (if t111 = 8 then (if t112 = true then (some (!t114)) else (some false)) else (some false)) = some r := by rw [if_pos rfl] at H; exact H
                  clear H
                  have H := H1
                  clear H1
                  by_cases c15 : t111 = 8
                  · rw [if_pos c15] at H
                    have c15b0 : (t111 == 8) = true := beq_iff_eq.mpr c15
                    have c15b1 : (t111 != 8) = false := bne_eq_false_iff_eq.mpr c15
                    clear c15
                    by_cases c16 : t112 = true
                    · subst c16
                      have H1 : (some (!t114)) = some r := by rw [if_pos rfl] at H; exact H
                      clear H
                      have H := H1
                      clear H1
                      obtain rfl := Option.some.inj H
                      go_enter Try.func10, Try.ntmps10
                      go_wp2_with (first | ((with_reducible refine gate_callee (f := 11) rfl ?_); refine goesL_ (some 14) rfl rfl Try.func11 (by kernel_rfl) rfl #[.int .i64 2, .int .i64 3] rfl (by (try simp only [List.map_toArray, List.map_cons, List.map_nil]); first | done | rfl | (simp only [List.length_drop, List.length_take]; rfl)) ?_; (with_reducible refine (calc_Add.calls 2 3 t103 true _ A1.out).mono ?_); rintro e w' ⟨rfl, ⟨nd, rfl⟩⟩; refine ⟨_, rfl, ?_⟩) | ((with_reducible refine gate_callee (f := 13) rfl ?_); refine goesL_ (some 18) rfl rfl Try.func13 (by kernel_rfl) rfl #[.int .i64 2, .int .i64 3] rfl (by (try simp only [List.map_toArray, List.map_cons, List.map_nil]); first | done | rfl | (simp only [List.length_drop, List.length_take]; rfl)) ?_; (with_reducible refine (calc_Mul.calls k 2 3 t105 true _ A2.out).mono ?_); rintro e w' ⟨rfl, ⟨nd, rfl⟩⟩; refine ⟨_, rfl, ?_⟩) | ((with_reducible refine gate_callee (f := 17) rfl ?_); refine goesL_ (some 22) rfl rfl Try.func17 (by kernel_rfl) rfl #[.int .i64 5] rfl (by (try simp only [List.map_toArray, List.map_cons, List.map_nil]); first | done | rfl | (simp only [List.length_drop, List.length_take]; rfl)) ?_; (with_reducible refine (calc_Up.calls k 5 t107 true _ A3.out).mono ?_); rintro e w' ⟨rfl, ⟨nd, rfl⟩⟩; refine ⟨_, rfl, ?_⟩) | ((with_reducible refine gate_callee (f := 19) rfl ?_); refine goesL_ (some 26) rfl rfl Try.func19 (by kernel_rfl) rfl #[.int .i64 8] rfl (by (try simp only [List.map_toArray, List.map_cons, List.map_nil]); first | done | rfl | (simp only [List.length_drop, List.length_take]; rfl)) ?_; (with_reducible refine (calc_Log.calls k 8 t109 true _ A4.out).mono ?_); rintro e w' ⟨rfl, ⟨nd, rfl⟩⟩; refine ⟨_, rfl, ?_⟩) | ((with_reducible refine gate_callee (f := 15) rfl ?_); refine goesL_ (some 30) rfl rfl Try.func15 (by kernel_rfl) rfl #[.int .i64 5, .int .i64 4] rfl (by (try simp only [List.map_toArray, List.map_cons, List.map_nil]); first | done | rfl | (simp only [List.length_drop, List.length_take]; rfl)) ?_; (with_reducible refine (calc_Round.calls k 5 4 t111 true _ A5.out).mono ?_); rintro e w' ⟨rfl, ⟨nd, rfl⟩⟩; refine ⟨_, rfl, ?_⟩) | ((with_reducible refine gate_callee (f := 11) rfl ?_); refine goesL_ (some 34) rfl rfl Try.func11 (by kernel_rfl) rfl #[.int .i64 4611686018427387904, .int .i64 4611686018427387904] rfl (by (try simp only [List.map_toArray, List.map_cons, List.map_nil]); first | done | rfl | (simp only [List.length_drop, List.length_take]; rfl)) ?_; (with_reducible refine (calc_Add.calls 4611686018427387904 4611686018427387904 t113 t114 _ A6.out).mono ?_); rintro e w' ⟨rfl, ⟨nd, rfl⟩⟩; refine ⟨_, rfl, ?_⟩))
                      go_ret
                      exact ⟨by first | rfl | (simp; done) | (simp [*]; done), by repeat (first | exact Drawn0.refl _ | apply Drawn0.step)⟩
                    · replace c16 := Bool.eq_false_iff.mpr c16
                      subst c16
                      have H1 : (some false) = some r := by rw [if_neg (show ¬ (false = true) by decide)] at H; exact H
                      clear H
                      have H := H1
                      clear H1
                      obtain rfl := Option.some.inj H
                      go_enter Try.func10, Try.ntmps10
                      go_wp2_with (first | ((with_reducible refine gate_callee (f := 11) rfl ?_); refine goesL_ (some 14) rfl rfl Try.func11 (by kernel_rfl) rfl #[.int .i64 2, .int .i64 3] rfl (by (try simp only [List.map_toArray, List.map_cons, List.map_nil]); first | done | rfl | (simp only [List.length_drop, List.length_take]; rfl)) ?_; (with_reducible refine (calc_Add.calls 2 3 t103 true _ A1.out).mono ?_); rintro e w' ⟨rfl, ⟨nd, rfl⟩⟩; refine ⟨_, rfl, ?_⟩) | ((with_reducible refine gate_callee (f := 13) rfl ?_); refine goesL_ (some 18) rfl rfl Try.func13 (by kernel_rfl) rfl #[.int .i64 2, .int .i64 3] rfl (by (try simp only [List.map_toArray, List.map_cons, List.map_nil]); first | done | rfl | (simp only [List.length_drop, List.length_take]; rfl)) ?_; (with_reducible refine (calc_Mul.calls k 2 3 t105 true _ A2.out).mono ?_); rintro e w' ⟨rfl, ⟨nd, rfl⟩⟩; refine ⟨_, rfl, ?_⟩) | ((with_reducible refine gate_callee (f := 17) rfl ?_); refine goesL_ (some 22) rfl rfl Try.func17 (by kernel_rfl) rfl #[.int .i64 5] rfl (by (try simp only [List.map_toArray, List.map_cons, List.map_nil]); first | done | rfl | (simp only [List.length_drop, List.length_take]; rfl)) ?_; (with_reducible refine (calc_Up.calls k 5 t107 true _ A3.out).mono ?_); rintro e w' ⟨rfl, ⟨nd, rfl⟩⟩; refine ⟨_, rfl, ?_⟩) | ((with_reducible refine gate_callee (f := 19) rfl ?_); refine goesL_ (some 26) rfl rfl Try.func19 (by kernel_rfl) rfl #[.int .i64 8] rfl (by (try simp only [List.map_toArray, List.map_cons, List.map_nil]); first | done | rfl | (simp only [List.length_drop, List.length_take]; rfl)) ?_; (with_reducible refine (calc_Log.calls k 8 t109 true _ A4.out).mono ?_); rintro e w' ⟨rfl, ⟨nd, rfl⟩⟩; refine ⟨_, rfl, ?_⟩) | ((with_reducible refine gate_callee (f := 15) rfl ?_); refine goesL_ (some 30) rfl rfl Try.func15 (by kernel_rfl) rfl #[.int .i64 5, .int .i64 4] rfl (by (try simp only [List.map_toArray, List.map_cons, List.map_nil]); first | done | rfl | (simp only [List.length_drop, List.length_take]; rfl)) ?_; (with_reducible refine (calc_Round.calls k 5 4 t111 false _ A5.out).mono ?_); rintro e w' ⟨rfl, ⟨nd, rfl⟩⟩; refine ⟨_, rfl, ?_⟩) | ((with_reducible refine gate_callee (f := 11) rfl ?_); refine goesL_ (some 34) rfl rfl Try.func11 (by kernel_rfl) rfl #[.int .i64 4611686018427387904, .int .i64 4611686018427387904] rfl (by (try simp only [List.map_toArray, List.map_cons, List.map_nil]); first | done | rfl | (simp only [List.length_drop, List.length_take]; rfl)) ?_; (with_reducible refine (calc_Add.calls 4611686018427387904 4611686018427387904 t113 t114 _ A6.out).mono ?_); rintro e w' ⟨rfl, ⟨nd, rfl⟩⟩; refine ⟨_, rfl, ?_⟩))
                      go_ret
                      exact ⟨by first | rfl | (simp; done) | (simp [*]; done), by repeat (first | exact Drawn0.refl _ | apply Drawn0.step)⟩
                  · rw [if_neg c15] at H
                    have c15b0 : (t111 == 8) = false := beq_eq_false_iff_ne.mpr c15
                    have c15b1 : (t111 != 8) = true := bne_iff_ne.mpr c15
                    obtain rfl := Option.some.inj H
                    go_enter Try.func10, Try.ntmps10
                    go_wp2_with (first | ((with_reducible refine gate_callee (f := 11) rfl ?_); refine goesL_ (some 14) rfl rfl Try.func11 (by kernel_rfl) rfl #[.int .i64 2, .int .i64 3] rfl (by (try simp only [List.map_toArray, List.map_cons, List.map_nil]); first | done | rfl | (simp only [List.length_drop, List.length_take]; rfl)) ?_; (with_reducible refine (calc_Add.calls 2 3 t103 true _ A1.out).mono ?_); rintro e w' ⟨rfl, ⟨nd, rfl⟩⟩; refine ⟨_, rfl, ?_⟩) | ((with_reducible refine gate_callee (f := 13) rfl ?_); refine goesL_ (some 18) rfl rfl Try.func13 (by kernel_rfl) rfl #[.int .i64 2, .int .i64 3] rfl (by (try simp only [List.map_toArray, List.map_cons, List.map_nil]); first | done | rfl | (simp only [List.length_drop, List.length_take]; rfl)) ?_; (with_reducible refine (calc_Mul.calls k 2 3 t105 true _ A2.out).mono ?_); rintro e w' ⟨rfl, ⟨nd, rfl⟩⟩; refine ⟨_, rfl, ?_⟩) | ((with_reducible refine gate_callee (f := 17) rfl ?_); refine goesL_ (some 22) rfl rfl Try.func17 (by kernel_rfl) rfl #[.int .i64 5] rfl (by (try simp only [List.map_toArray, List.map_cons, List.map_nil]); first | done | rfl | (simp only [List.length_drop, List.length_take]; rfl)) ?_; (with_reducible refine (calc_Up.calls k 5 t107 true _ A3.out).mono ?_); rintro e w' ⟨rfl, ⟨nd, rfl⟩⟩; refine ⟨_, rfl, ?_⟩) | ((with_reducible refine gate_callee (f := 19) rfl ?_); refine goesL_ (some 26) rfl rfl Try.func19 (by kernel_rfl) rfl #[.int .i64 8] rfl (by (try simp only [List.map_toArray, List.map_cons, List.map_nil]); first | done | rfl | (simp only [List.length_drop, List.length_take]; rfl)) ?_; (with_reducible refine (calc_Log.calls k 8 t109 true _ A4.out).mono ?_); rintro e w' ⟨rfl, ⟨nd, rfl⟩⟩; refine ⟨_, rfl, ?_⟩) | ((with_reducible refine gate_callee (f := 15) rfl ?_); refine goesL_ (some 30) rfl rfl Try.func15 (by kernel_rfl) rfl #[.int .i64 5, .int .i64 4] rfl (by (try simp only [List.map_toArray, List.map_cons, List.map_nil]); first | done | rfl | (simp only [List.length_drop, List.length_take]; rfl)) ?_; (with_reducible refine (calc_Round.calls k 5 4 t111 t112 _ A5.out).mono ?_); rintro e w' ⟨rfl, ⟨nd, rfl⟩⟩; refine ⟨_, rfl, ?_⟩) | ((with_reducible refine gate_callee (f := 11) rfl ?_); refine goesL_ (some 34) rfl rfl Try.func11 (by kernel_rfl) rfl #[.int .i64 4611686018427387904, .int .i64 4611686018427387904] rfl (by (try simp only [List.map_toArray, List.map_cons, List.map_nil]); first | done | rfl | (simp only [List.length_drop, List.length_take]; rfl)) ?_; (with_reducible refine (calc_Add.calls 4611686018427387904 4611686018427387904 t113 t114 _ A6.out).mono ?_); rintro e w' ⟨rfl, ⟨nd, rfl⟩⟩; refine ⟨_, rfl, ?_⟩))
                    go_ret
                    exact ⟨by first | rfl | (simp; done) | (simp [*]; done), by repeat (first | exact Drawn0.refl _ | apply Drawn0.step)⟩
                · replace c14 := Bool.eq_false_iff.mpr c14
                  subst c14
                  have H1 : (some false) = some r := by rw [if_neg (show ¬ (false = true) by decide)] at H; exact H
                  clear H
                  have H := H1
                  clear H1
                  obtain rfl := Option.some.inj H
                  go_enter Try.func10, Try.ntmps10
                  go_wp2_with (first | ((with_reducible refine gate_callee (f := 11) rfl ?_); refine goesL_ (some 14) rfl rfl Try.func11 (by kernel_rfl) rfl #[.int .i64 2, .int .i64 3] rfl (by (try simp only [List.map_toArray, List.map_cons, List.map_nil]); first | done | rfl | (simp only [List.length_drop, List.length_take]; rfl)) ?_; (with_reducible refine (calc_Add.calls 2 3 t103 true _ A1.out).mono ?_); rintro e w' ⟨rfl, ⟨nd, rfl⟩⟩; refine ⟨_, rfl, ?_⟩) | ((with_reducible refine gate_callee (f := 13) rfl ?_); refine goesL_ (some 18) rfl rfl Try.func13 (by kernel_rfl) rfl #[.int .i64 2, .int .i64 3] rfl (by (try simp only [List.map_toArray, List.map_cons, List.map_nil]); first | done | rfl | (simp only [List.length_drop, List.length_take]; rfl)) ?_; (with_reducible refine (calc_Mul.calls k 2 3 t105 true _ A2.out).mono ?_); rintro e w' ⟨rfl, ⟨nd, rfl⟩⟩; refine ⟨_, rfl, ?_⟩) | ((with_reducible refine gate_callee (f := 17) rfl ?_); refine goesL_ (some 22) rfl rfl Try.func17 (by kernel_rfl) rfl #[.int .i64 5] rfl (by (try simp only [List.map_toArray, List.map_cons, List.map_nil]); first | done | rfl | (simp only [List.length_drop, List.length_take]; rfl)) ?_; (with_reducible refine (calc_Up.calls k 5 t107 true _ A3.out).mono ?_); rintro e w' ⟨rfl, ⟨nd, rfl⟩⟩; refine ⟨_, rfl, ?_⟩) | ((with_reducible refine gate_callee (f := 19) rfl ?_); refine goesL_ (some 26) rfl rfl Try.func19 (by kernel_rfl) rfl #[.int .i64 8] rfl (by (try simp only [List.map_toArray, List.map_cons, List.map_nil]); first | done | rfl | (simp only [List.length_drop, List.length_take]; rfl)) ?_; (with_reducible refine (calc_Log.calls k 8 t109 false _ A4.out).mono ?_); rintro e w' ⟨rfl, ⟨nd, rfl⟩⟩; refine ⟨_, rfl, ?_⟩) | ((with_reducible refine gate_callee (f := 15) rfl ?_); refine goesL_ (some 30) rfl rfl Try.func15 (by kernel_rfl) rfl #[.int .i64 5, .int .i64 4] rfl (by (try simp only [List.map_toArray, List.map_cons, List.map_nil]); first | done | rfl | (simp only [List.length_drop, List.length_take]; rfl)) ?_; (with_reducible refine (calc_Round.calls k 5 4 t111 t112 _ A5.out).mono ?_); rintro e w' ⟨rfl, ⟨nd, rfl⟩⟩; refine ⟨_, rfl, ?_⟩) | ((with_reducible refine gate_callee (f := 11) rfl ?_); refine goesL_ (some 34) rfl rfl Try.func11 (by kernel_rfl) rfl #[.int .i64 4611686018427387904, .int .i64 4611686018427387904] rfl (by (try simp only [List.map_toArray, List.map_cons, List.map_nil]); first | done | rfl | (simp only [List.length_drop, List.length_take]; rfl)) ?_; (with_reducible refine (calc_Add.calls 4611686018427387904 4611686018427387904 t113 t114 _ A6.out).mono ?_); rintro e w' ⟨rfl, ⟨nd, rfl⟩⟩; refine ⟨_, rfl, ?_⟩))
                  go_ret
                  exact ⟨by first | rfl | (simp; done) | (simp [*]; done), by repeat (first | exact Drawn0.refl _ | apply Drawn0.step)⟩
              · rw [if_neg c13] at H
                have c13b0 : (t109 == 3) = false := beq_eq_false_iff_ne.mpr c13
                have c13b1 : (t109 != 3) = true := bne_iff_ne.mpr c13
                obtain rfl := Option.some.inj H
                go_enter Try.func10, Try.ntmps10
                go_wp2_with (first | ((with_reducible refine gate_callee (f := 11) rfl ?_); refine goesL_ (some 14) rfl rfl Try.func11 (by kernel_rfl) rfl #[.int .i64 2, .int .i64 3] rfl (by (try simp only [List.map_toArray, List.map_cons, List.map_nil]); first | done | rfl | (simp only [List.length_drop, List.length_take]; rfl)) ?_; (with_reducible refine (calc_Add.calls 2 3 t103 true _ A1.out).mono ?_); rintro e w' ⟨rfl, ⟨nd, rfl⟩⟩; refine ⟨_, rfl, ?_⟩) | ((with_reducible refine gate_callee (f := 13) rfl ?_); refine goesL_ (some 18) rfl rfl Try.func13 (by kernel_rfl) rfl #[.int .i64 2, .int .i64 3] rfl (by (try simp only [List.map_toArray, List.map_cons, List.map_nil]); first | done | rfl | (simp only [List.length_drop, List.length_take]; rfl)) ?_; (with_reducible refine (calc_Mul.calls k 2 3 t105 true _ A2.out).mono ?_); rintro e w' ⟨rfl, ⟨nd, rfl⟩⟩; refine ⟨_, rfl, ?_⟩) | ((with_reducible refine gate_callee (f := 17) rfl ?_); refine goesL_ (some 22) rfl rfl Try.func17 (by kernel_rfl) rfl #[.int .i64 5] rfl (by (try simp only [List.map_toArray, List.map_cons, List.map_nil]); first | done | rfl | (simp only [List.length_drop, List.length_take]; rfl)) ?_; (with_reducible refine (calc_Up.calls k 5 t107 true _ A3.out).mono ?_); rintro e w' ⟨rfl, ⟨nd, rfl⟩⟩; refine ⟨_, rfl, ?_⟩) | ((with_reducible refine gate_callee (f := 19) rfl ?_); refine goesL_ (some 26) rfl rfl Try.func19 (by kernel_rfl) rfl #[.int .i64 8] rfl (by (try simp only [List.map_toArray, List.map_cons, List.map_nil]); first | done | rfl | (simp only [List.length_drop, List.length_take]; rfl)) ?_; (with_reducible refine (calc_Log.calls k 8 t109 t110 _ A4.out).mono ?_); rintro e w' ⟨rfl, ⟨nd, rfl⟩⟩; refine ⟨_, rfl, ?_⟩) | ((with_reducible refine gate_callee (f := 15) rfl ?_); refine goesL_ (some 30) rfl rfl Try.func15 (by kernel_rfl) rfl #[.int .i64 5, .int .i64 4] rfl (by (try simp only [List.map_toArray, List.map_cons, List.map_nil]); first | done | rfl | (simp only [List.length_drop, List.length_take]; rfl)) ?_; (with_reducible refine (calc_Round.calls k 5 4 t111 t112 _ A5.out).mono ?_); rintro e w' ⟨rfl, ⟨nd, rfl⟩⟩; refine ⟨_, rfl, ?_⟩) | ((with_reducible refine gate_callee (f := 11) rfl ?_); refine goesL_ (some 34) rfl rfl Try.func11 (by kernel_rfl) rfl #[.int .i64 4611686018427387904, .int .i64 4611686018427387904] rfl (by (try simp only [List.map_toArray, List.map_cons, List.map_nil]); first | done | rfl | (simp only [List.length_drop, List.length_take]; rfl)) ?_; (with_reducible refine (calc_Add.calls 4611686018427387904 4611686018427387904 t113 t114 _ A6.out).mono ?_); rintro e w' ⟨rfl, ⟨nd, rfl⟩⟩; refine ⟨_, rfl, ?_⟩))
                go_ret
                exact ⟨by first | rfl | (simp; done) | (simp [*]; done), by repeat (first | exact Drawn0.refl _ | apply Drawn0.step)⟩
            · replace c12 := Bool.eq_false_iff.mpr c12
              subst c12
              have H1 : (some false) = some r := by rw [if_neg (show ¬ (false = true) by decide)] at H; exact H
              clear H
              have H := H1
              clear H1
              obtain rfl := Option.some.inj H
              go_enter Try.func10, Try.ntmps10
              go_wp2_with (first | ((with_reducible refine gate_callee (f := 11) rfl ?_); refine goesL_ (some 14) rfl rfl Try.func11 (by kernel_rfl) rfl #[.int .i64 2, .int .i64 3] rfl (by (try simp only [List.map_toArray, List.map_cons, List.map_nil]); first | done | rfl | (simp only [List.length_drop, List.length_take]; rfl)) ?_; (with_reducible refine (calc_Add.calls 2 3 t103 true _ A1.out).mono ?_); rintro e w' ⟨rfl, ⟨nd, rfl⟩⟩; refine ⟨_, rfl, ?_⟩) | ((with_reducible refine gate_callee (f := 13) rfl ?_); refine goesL_ (some 18) rfl rfl Try.func13 (by kernel_rfl) rfl #[.int .i64 2, .int .i64 3] rfl (by (try simp only [List.map_toArray, List.map_cons, List.map_nil]); first | done | rfl | (simp only [List.length_drop, List.length_take]; rfl)) ?_; (with_reducible refine (calc_Mul.calls k 2 3 t105 true _ A2.out).mono ?_); rintro e w' ⟨rfl, ⟨nd, rfl⟩⟩; refine ⟨_, rfl, ?_⟩) | ((with_reducible refine gate_callee (f := 17) rfl ?_); refine goesL_ (some 22) rfl rfl Try.func17 (by kernel_rfl) rfl #[.int .i64 5] rfl (by (try simp only [List.map_toArray, List.map_cons, List.map_nil]); first | done | rfl | (simp only [List.length_drop, List.length_take]; rfl)) ?_; (with_reducible refine (calc_Up.calls k 5 t107 false _ A3.out).mono ?_); rintro e w' ⟨rfl, ⟨nd, rfl⟩⟩; refine ⟨_, rfl, ?_⟩) | ((with_reducible refine gate_callee (f := 19) rfl ?_); refine goesL_ (some 26) rfl rfl Try.func19 (by kernel_rfl) rfl #[.int .i64 8] rfl (by (try simp only [List.map_toArray, List.map_cons, List.map_nil]); first | done | rfl | (simp only [List.length_drop, List.length_take]; rfl)) ?_; (with_reducible refine (calc_Log.calls k 8 t109 t110 _ A4.out).mono ?_); rintro e w' ⟨rfl, ⟨nd, rfl⟩⟩; refine ⟨_, rfl, ?_⟩) | ((with_reducible refine gate_callee (f := 15) rfl ?_); refine goesL_ (some 30) rfl rfl Try.func15 (by kernel_rfl) rfl #[.int .i64 5, .int .i64 4] rfl (by (try simp only [List.map_toArray, List.map_cons, List.map_nil]); first | done | rfl | (simp only [List.length_drop, List.length_take]; rfl)) ?_; (with_reducible refine (calc_Round.calls k 5 4 t111 t112 _ A5.out).mono ?_); rintro e w' ⟨rfl, ⟨nd, rfl⟩⟩; refine ⟨_, rfl, ?_⟩) | ((with_reducible refine gate_callee (f := 11) rfl ?_); refine goesL_ (some 34) rfl rfl Try.func11 (by kernel_rfl) rfl #[.int .i64 4611686018427387904, .int .i64 4611686018427387904] rfl (by (try simp only [List.map_toArray, List.map_cons, List.map_nil]); first | done | rfl | (simp only [List.length_drop, List.length_take]; rfl)) ?_; (with_reducible refine (calc_Add.calls 4611686018427387904 4611686018427387904 t113 t114 _ A6.out).mono ?_); rintro e w' ⟨rfl, ⟨nd, rfl⟩⟩; refine ⟨_, rfl, ?_⟩))
              go_ret
              exact ⟨by first | rfl | (simp; done) | (simp [*]; done), by repeat (first | exact Drawn0.refl _ | apply Drawn0.step)⟩
          · rw [if_neg c11] at H
            have c11b0 : (t107 == 8) = false := beq_eq_false_iff_ne.mpr c11
            have c11b1 : (t107 != 8) = true := bne_iff_ne.mpr c11
            obtain rfl := Option.some.inj H
            go_enter Try.func10, Try.ntmps10
            go_wp2_with (first | ((with_reducible refine gate_callee (f := 11) rfl ?_); refine goesL_ (some 14) rfl rfl Try.func11 (by kernel_rfl) rfl #[.int .i64 2, .int .i64 3] rfl (by (try simp only [List.map_toArray, List.map_cons, List.map_nil]); first | done | rfl | (simp only [List.length_drop, List.length_take]; rfl)) ?_; (with_reducible refine (calc_Add.calls 2 3 t103 true _ A1.out).mono ?_); rintro e w' ⟨rfl, ⟨nd, rfl⟩⟩; refine ⟨_, rfl, ?_⟩) | ((with_reducible refine gate_callee (f := 13) rfl ?_); refine goesL_ (some 18) rfl rfl Try.func13 (by kernel_rfl) rfl #[.int .i64 2, .int .i64 3] rfl (by (try simp only [List.map_toArray, List.map_cons, List.map_nil]); first | done | rfl | (simp only [List.length_drop, List.length_take]; rfl)) ?_; (with_reducible refine (calc_Mul.calls k 2 3 t105 true _ A2.out).mono ?_); rintro e w' ⟨rfl, ⟨nd, rfl⟩⟩; refine ⟨_, rfl, ?_⟩) | ((with_reducible refine gate_callee (f := 17) rfl ?_); refine goesL_ (some 22) rfl rfl Try.func17 (by kernel_rfl) rfl #[.int .i64 5] rfl (by (try simp only [List.map_toArray, List.map_cons, List.map_nil]); first | done | rfl | (simp only [List.length_drop, List.length_take]; rfl)) ?_; (with_reducible refine (calc_Up.calls k 5 t107 t108 _ A3.out).mono ?_); rintro e w' ⟨rfl, ⟨nd, rfl⟩⟩; refine ⟨_, rfl, ?_⟩) | ((with_reducible refine gate_callee (f := 19) rfl ?_); refine goesL_ (some 26) rfl rfl Try.func19 (by kernel_rfl) rfl #[.int .i64 8] rfl (by (try simp only [List.map_toArray, List.map_cons, List.map_nil]); first | done | rfl | (simp only [List.length_drop, List.length_take]; rfl)) ?_; (with_reducible refine (calc_Log.calls k 8 t109 t110 _ A4.out).mono ?_); rintro e w' ⟨rfl, ⟨nd, rfl⟩⟩; refine ⟨_, rfl, ?_⟩) | ((with_reducible refine gate_callee (f := 15) rfl ?_); refine goesL_ (some 30) rfl rfl Try.func15 (by kernel_rfl) rfl #[.int .i64 5, .int .i64 4] rfl (by (try simp only [List.map_toArray, List.map_cons, List.map_nil]); first | done | rfl | (simp only [List.length_drop, List.length_take]; rfl)) ?_; (with_reducible refine (calc_Round.calls k 5 4 t111 t112 _ A5.out).mono ?_); rintro e w' ⟨rfl, ⟨nd, rfl⟩⟩; refine ⟨_, rfl, ?_⟩) | ((with_reducible refine gate_callee (f := 11) rfl ?_); refine goesL_ (some 34) rfl rfl Try.func11 (by kernel_rfl) rfl #[.int .i64 4611686018427387904, .int .i64 4611686018427387904] rfl (by (try simp only [List.map_toArray, List.map_cons, List.map_nil]); first | done | rfl | (simp only [List.length_drop, List.length_take]; rfl)) ?_; (with_reducible refine (calc_Add.calls 4611686018427387904 4611686018427387904 t113 t114 _ A6.out).mono ?_); rintro e w' ⟨rfl, ⟨nd, rfl⟩⟩; refine ⟨_, rfl, ?_⟩))
            go_ret
            exact ⟨by first | rfl | (simp; done) | (simp [*]; done), by repeat (first | exact Drawn0.refl _ | apply Drawn0.step)⟩
        · replace c10 := Bool.eq_false_iff.mpr c10
          subst c10
          have H1 : (some false) = some r := by rw [if_neg (show ¬ (false = true) by decide)] at H; exact H
          clear H
          have H := H1
          clear H1
          obtain rfl := Option.some.inj H
          go_enter Try.func10, Try.ntmps10
          go_wp2_with (first | ((with_reducible refine gate_callee (f := 11) rfl ?_); refine goesL_ (some 14) rfl rfl Try.func11 (by kernel_rfl) rfl #[.int .i64 2, .int .i64 3] rfl (by (try simp only [List.map_toArray, List.map_cons, List.map_nil]); first | done | rfl | (simp only [List.length_drop, List.length_take]; rfl)) ?_; (with_reducible refine (calc_Add.calls 2 3 t103 true _ A1.out).mono ?_); rintro e w' ⟨rfl, ⟨nd, rfl⟩⟩; refine ⟨_, rfl, ?_⟩) | ((with_reducible refine gate_callee (f := 13) rfl ?_); refine goesL_ (some 18) rfl rfl Try.func13 (by kernel_rfl) rfl #[.int .i64 2, .int .i64 3] rfl (by (try simp only [List.map_toArray, List.map_cons, List.map_nil]); first | done | rfl | (simp only [List.length_drop, List.length_take]; rfl)) ?_; (with_reducible refine (calc_Mul.calls k 2 3 t105 false _ A2.out).mono ?_); rintro e w' ⟨rfl, ⟨nd, rfl⟩⟩; refine ⟨_, rfl, ?_⟩) | ((with_reducible refine gate_callee (f := 17) rfl ?_); refine goesL_ (some 22) rfl rfl Try.func17 (by kernel_rfl) rfl #[.int .i64 5] rfl (by (try simp only [List.map_toArray, List.map_cons, List.map_nil]); first | done | rfl | (simp only [List.length_drop, List.length_take]; rfl)) ?_; (with_reducible refine (calc_Up.calls k 5 t107 t108 _ A3.out).mono ?_); rintro e w' ⟨rfl, ⟨nd, rfl⟩⟩; refine ⟨_, rfl, ?_⟩) | ((with_reducible refine gate_callee (f := 19) rfl ?_); refine goesL_ (some 26) rfl rfl Try.func19 (by kernel_rfl) rfl #[.int .i64 8] rfl (by (try simp only [List.map_toArray, List.map_cons, List.map_nil]); first | done | rfl | (simp only [List.length_drop, List.length_take]; rfl)) ?_; (with_reducible refine (calc_Log.calls k 8 t109 t110 _ A4.out).mono ?_); rintro e w' ⟨rfl, ⟨nd, rfl⟩⟩; refine ⟨_, rfl, ?_⟩) | ((with_reducible refine gate_callee (f := 15) rfl ?_); refine goesL_ (some 30) rfl rfl Try.func15 (by kernel_rfl) rfl #[.int .i64 5, .int .i64 4] rfl (by (try simp only [List.map_toArray, List.map_cons, List.map_nil]); first | done | rfl | (simp only [List.length_drop, List.length_take]; rfl)) ?_; (with_reducible refine (calc_Round.calls k 5 4 t111 t112 _ A5.out).mono ?_); rintro e w' ⟨rfl, ⟨nd, rfl⟩⟩; refine ⟨_, rfl, ?_⟩) | ((with_reducible refine gate_callee (f := 11) rfl ?_); refine goesL_ (some 34) rfl rfl Try.func11 (by kernel_rfl) rfl #[.int .i64 4611686018427387904, .int .i64 4611686018427387904] rfl (by (try simp only [List.map_toArray, List.map_cons, List.map_nil]); first | done | rfl | (simp only [List.length_drop, List.length_take]; rfl)) ?_; (with_reducible refine (calc_Add.calls 4611686018427387904 4611686018427387904 t113 t114 _ A6.out).mono ?_); rintro e w' ⟨rfl, ⟨nd, rfl⟩⟩; refine ⟨_, rfl, ?_⟩))
          go_ret
          exact ⟨by first | rfl | (simp; done) | (simp [*]; done), by repeat (first | exact Drawn0.refl _ | apply Drawn0.step)⟩
      · rw [if_neg c9] at H
        have c9b0 : (t105 == 6) = false := beq_eq_false_iff_ne.mpr c9
        have c9b1 : (t105 != 6) = true := bne_iff_ne.mpr c9
        obtain rfl := Option.some.inj H
        go_enter Try.func10, Try.ntmps10
        go_wp2_with (first | ((with_reducible refine gate_callee (f := 11) rfl ?_); refine goesL_ (some 14) rfl rfl Try.func11 (by kernel_rfl) rfl #[.int .i64 2, .int .i64 3] rfl (by (try simp only [List.map_toArray, List.map_cons, List.map_nil]); first | done | rfl | (simp only [List.length_drop, List.length_take]; rfl)) ?_; (with_reducible refine (calc_Add.calls 2 3 t103 true _ A1.out).mono ?_); rintro e w' ⟨rfl, ⟨nd, rfl⟩⟩; refine ⟨_, rfl, ?_⟩) | ((with_reducible refine gate_callee (f := 13) rfl ?_); refine goesL_ (some 18) rfl rfl Try.func13 (by kernel_rfl) rfl #[.int .i64 2, .int .i64 3] rfl (by (try simp only [List.map_toArray, List.map_cons, List.map_nil]); first | done | rfl | (simp only [List.length_drop, List.length_take]; rfl)) ?_; (with_reducible refine (calc_Mul.calls k 2 3 t105 t106 _ A2.out).mono ?_); rintro e w' ⟨rfl, ⟨nd, rfl⟩⟩; refine ⟨_, rfl, ?_⟩) | ((with_reducible refine gate_callee (f := 17) rfl ?_); refine goesL_ (some 22) rfl rfl Try.func17 (by kernel_rfl) rfl #[.int .i64 5] rfl (by (try simp only [List.map_toArray, List.map_cons, List.map_nil]); first | done | rfl | (simp only [List.length_drop, List.length_take]; rfl)) ?_; (with_reducible refine (calc_Up.calls k 5 t107 t108 _ A3.out).mono ?_); rintro e w' ⟨rfl, ⟨nd, rfl⟩⟩; refine ⟨_, rfl, ?_⟩) | ((with_reducible refine gate_callee (f := 19) rfl ?_); refine goesL_ (some 26) rfl rfl Try.func19 (by kernel_rfl) rfl #[.int .i64 8] rfl (by (try simp only [List.map_toArray, List.map_cons, List.map_nil]); first | done | rfl | (simp only [List.length_drop, List.length_take]; rfl)) ?_; (with_reducible refine (calc_Log.calls k 8 t109 t110 _ A4.out).mono ?_); rintro e w' ⟨rfl, ⟨nd, rfl⟩⟩; refine ⟨_, rfl, ?_⟩) | ((with_reducible refine gate_callee (f := 15) rfl ?_); refine goesL_ (some 30) rfl rfl Try.func15 (by kernel_rfl) rfl #[.int .i64 5, .int .i64 4] rfl (by (try simp only [List.map_toArray, List.map_cons, List.map_nil]); first | done | rfl | (simp only [List.length_drop, List.length_take]; rfl)) ?_; (with_reducible refine (calc_Round.calls k 5 4 t111 t112 _ A5.out).mono ?_); rintro e w' ⟨rfl, ⟨nd, rfl⟩⟩; refine ⟨_, rfl, ?_⟩) | ((with_reducible refine gate_callee (f := 11) rfl ?_); refine goesL_ (some 34) rfl rfl Try.func11 (by kernel_rfl) rfl #[.int .i64 4611686018427387904, .int .i64 4611686018427387904] rfl (by (try simp only [List.map_toArray, List.map_cons, List.map_nil]); first | done | rfl | (simp only [List.length_drop, List.length_take]; rfl)) ?_; (with_reducible refine (calc_Add.calls 4611686018427387904 4611686018427387904 t113 t114 _ A6.out).mono ?_); rintro e w' ⟨rfl, ⟨nd, rfl⟩⟩; refine ⟨_, rfl, ?_⟩))
        go_ret
        exact ⟨by first | rfl | (simp; done) | (simp [*]; done), by repeat (first | exact Drawn0.refl _ | apply Drawn0.step)⟩
    · replace c8 := Bool.eq_false_iff.mpr c8
      subst c8
      have H1 : (some false) = some r := by rw [if_neg (show ¬ (false = true) by decide)] at H; exact H
      clear H
      have H := H1
      clear H1
      obtain rfl := Option.some.inj H
      go_enter Try.func10, Try.ntmps10
      go_wp2_with (first | ((with_reducible refine gate_callee (f := 11) rfl ?_); refine goesL_ (some 14) rfl rfl Try.func11 (by kernel_rfl) rfl #[.int .i64 2, .int .i64 3] rfl (by (try simp only [List.map_toArray, List.map_cons, List.map_nil]); first | done | rfl | (simp only [List.length_drop, List.length_take]; rfl)) ?_; (with_reducible refine (calc_Add.calls 2 3 t103 false _ A1.out).mono ?_); rintro e w' ⟨rfl, ⟨nd, rfl⟩⟩; refine ⟨_, rfl, ?_⟩) | ((with_reducible refine gate_callee (f := 13) rfl ?_); refine goesL_ (some 18) rfl rfl Try.func13 (by kernel_rfl) rfl #[.int .i64 2, .int .i64 3] rfl (by (try simp only [List.map_toArray, List.map_cons, List.map_nil]); first | done | rfl | (simp only [List.length_drop, List.length_take]; rfl)) ?_; (with_reducible refine (calc_Mul.calls k 2 3 t105 t106 _ A2.out).mono ?_); rintro e w' ⟨rfl, ⟨nd, rfl⟩⟩; refine ⟨_, rfl, ?_⟩) | ((with_reducible refine gate_callee (f := 17) rfl ?_); refine goesL_ (some 22) rfl rfl Try.func17 (by kernel_rfl) rfl #[.int .i64 5] rfl (by (try simp only [List.map_toArray, List.map_cons, List.map_nil]); first | done | rfl | (simp only [List.length_drop, List.length_take]; rfl)) ?_; (with_reducible refine (calc_Up.calls k 5 t107 t108 _ A3.out).mono ?_); rintro e w' ⟨rfl, ⟨nd, rfl⟩⟩; refine ⟨_, rfl, ?_⟩) | ((with_reducible refine gate_callee (f := 19) rfl ?_); refine goesL_ (some 26) rfl rfl Try.func19 (by kernel_rfl) rfl #[.int .i64 8] rfl (by (try simp only [List.map_toArray, List.map_cons, List.map_nil]); first | done | rfl | (simp only [List.length_drop, List.length_take]; rfl)) ?_; (with_reducible refine (calc_Log.calls k 8 t109 t110 _ A4.out).mono ?_); rintro e w' ⟨rfl, ⟨nd, rfl⟩⟩; refine ⟨_, rfl, ?_⟩) | ((with_reducible refine gate_callee (f := 15) rfl ?_); refine goesL_ (some 30) rfl rfl Try.func15 (by kernel_rfl) rfl #[.int .i64 5, .int .i64 4] rfl (by (try simp only [List.map_toArray, List.map_cons, List.map_nil]); first | done | rfl | (simp only [List.length_drop, List.length_take]; rfl)) ?_; (with_reducible refine (calc_Round.calls k 5 4 t111 t112 _ A5.out).mono ?_); rintro e w' ⟨rfl, ⟨nd, rfl⟩⟩; refine ⟨_, rfl, ?_⟩) | ((with_reducible refine gate_callee (f := 11) rfl ?_); refine goesL_ (some 34) rfl rfl Try.func11 (by kernel_rfl) rfl #[.int .i64 4611686018427387904, .int .i64 4611686018427387904] rfl (by (try simp only [List.map_toArray, List.map_cons, List.map_nil]); first | done | rfl | (simp only [List.length_drop, List.length_take]; rfl)) ?_; (with_reducible refine (calc_Add.calls 4611686018427387904 4611686018427387904 t113 t114 _ A6.out).mono ?_); rintro e w' ⟨rfl, ⟨nd, rfl⟩⟩; refine ⟨_, rfl, ?_⟩))
      go_ret
      exact ⟨by first | rfl | (simp; done) | (simp [*]; done), by repeat (first | exact Drawn0.refl _ | apply Drawn0.step)⟩
  · rw [if_neg c7] at H
    have c7b0 : (t103 == 5) = false := beq_eq_false_iff_ne.mpr c7
    have c7b1 : (t103 != 5) = true := bne_iff_ne.mpr c7
    obtain rfl := Option.some.inj H
    go_enter Try.func10, Try.ntmps10
    go_wp2_with (first | ((with_reducible refine gate_callee (f := 11) rfl ?_); refine goesL_ (some 14) rfl rfl Try.func11 (by kernel_rfl) rfl #[.int .i64 2, .int .i64 3] rfl (by (try simp only [List.map_toArray, List.map_cons, List.map_nil]); first | done | rfl | (simp only [List.length_drop, List.length_take]; rfl)) ?_; (with_reducible refine (calc_Add.calls 2 3 t103 t104 _ A1.out).mono ?_); rintro e w' ⟨rfl, ⟨nd, rfl⟩⟩; refine ⟨_, rfl, ?_⟩) | ((with_reducible refine gate_callee (f := 13) rfl ?_); refine goesL_ (some 18) rfl rfl Try.func13 (by kernel_rfl) rfl #[.int .i64 2, .int .i64 3] rfl (by (try simp only [List.map_toArray, List.map_cons, List.map_nil]); first | done | rfl | (simp only [List.length_drop, List.length_take]; rfl)) ?_; (with_reducible refine (calc_Mul.calls k 2 3 t105 t106 _ A2.out).mono ?_); rintro e w' ⟨rfl, ⟨nd, rfl⟩⟩; refine ⟨_, rfl, ?_⟩) | ((with_reducible refine gate_callee (f := 17) rfl ?_); refine goesL_ (some 22) rfl rfl Try.func17 (by kernel_rfl) rfl #[.int .i64 5] rfl (by (try simp only [List.map_toArray, List.map_cons, List.map_nil]); first | done | rfl | (simp only [List.length_drop, List.length_take]; rfl)) ?_; (with_reducible refine (calc_Up.calls k 5 t107 t108 _ A3.out).mono ?_); rintro e w' ⟨rfl, ⟨nd, rfl⟩⟩; refine ⟨_, rfl, ?_⟩) | ((with_reducible refine gate_callee (f := 19) rfl ?_); refine goesL_ (some 26) rfl rfl Try.func19 (by kernel_rfl) rfl #[.int .i64 8] rfl (by (try simp only [List.map_toArray, List.map_cons, List.map_nil]); first | done | rfl | (simp only [List.length_drop, List.length_take]; rfl)) ?_; (with_reducible refine (calc_Log.calls k 8 t109 t110 _ A4.out).mono ?_); rintro e w' ⟨rfl, ⟨nd, rfl⟩⟩; refine ⟨_, rfl, ?_⟩) | ((with_reducible refine gate_callee (f := 15) rfl ?_); refine goesL_ (some 30) rfl rfl Try.func15 (by kernel_rfl) rfl #[.int .i64 5, .int .i64 4] rfl (by (try simp only [List.map_toArray, List.map_cons, List.map_nil]); first | done | rfl | (simp only [List.length_drop, List.length_take]; rfl)) ?_; (with_reducible refine (calc_Round.calls k 5 4 t111 t112 _ A5.out).mono ?_); rintro e w' ⟨rfl, ⟨nd, rfl⟩⟩; refine ⟨_, rfl, ?_⟩) | ((with_reducible refine gate_callee (f := 11) rfl ?_); refine goesL_ (some 34) rfl rfl Try.func11 (by kernel_rfl) rfl #[.int .i64 4611686018427387904, .int .i64 4611686018427387904] rfl (by (try simp only [List.map_toArray, List.map_cons, List.map_nil]); first | done | rfl | (simp only [List.length_drop, List.length_take]; rfl)) ?_; (with_reducible refine (calc_Add.calls 4611686018427387904 4611686018427387904 t113 t114 _ A6.out).mono ?_); rintro e w' ⟨rfl, ⟨nd, rfl⟩⟩; refine ⟨_, rfl, ?_⟩))
    go_ret
    exact ⟨by first | rfl | (simp; done) | (simp [*]; done), by repeat (first | exact Drawn0.refl _ | apply Drawn0.step)⟩

/-! ### hodmanlaw1_CalcBack: function 4 -/
mutual
def hodmanlaw1_CalcBack.j0 : Nat → Int → Int → Int → Bool → Int → Bool → Bool → Option (Bool)
  | 0, _, _, _, _, _, _, _ => none
  | k + 1, x0, x1, x5, x6, x7, x8, x72 => if x72 = true then (some false) else (if x6 = true then (if (wrap64 (x5 - x1)) = x0 then (if x1 > 0 then (if x5 ≤ x0 then (hodmanlaw1_CalcBack.j1 k x0 x1 x7 x8 true) else (if x1 < 0 then (if x5 ≥ x0 then (hodmanlaw1_CalcBack.j1 k x0 x1 x7 x8 true) else (hodmanlaw1_CalcBack.j1 k x0 x1 x7 x8 false)) else (hodmanlaw1_CalcBack.j1 k x0 x1 x7 x8 false))) else (if x1 < 0 then (if x5 ≥ x0 then (hodmanlaw1_CalcBack.j1 k x0 x1 x7 x8 true) else (hodmanlaw1_CalcBack.j1 k x0 x1 x7 x8 false)) else (hodmanlaw1_CalcBack.j1 k x0 x1 x7 x8 false))) else (hodmanlaw1_CalcBack.j1 k x0 x1 x7 x8 true)) else (hodmanlaw1_CalcBack.j1 k x0 x1 x7 x8 ((decide (x0 ≥ 0)) != (decide (x1 ≥ 0)))))
def hodmanlaw1_CalcBack.j1 : Nat → Int → Int → Int → Bool → Bool → Option (Bool)
  | 0, _, _, _, _, _ => none
  | k + 1, x0, x1, x7, x8, x109 => if x109 = true then (some false) else (if x8 = true then (if x1 = 0 then (some true) else (if (Int.tmod x7 x1) = 0 then (if (wrap64 (Int.tdiv x7 x1)) = x0 then (some true) else (if x1 = (-1) then (if (x7 = (wrap64 (-x0))) then (some true) else (some false)) else (some false))) else (some false))) else (if x0 = 0 then (some false) else (if x1 = 0 then (some false) else (if x0 > (-2147483648) then (if x0 < 2147483648 then (if x1 > (-2147483648) then (some (!(decide (x1 < 2147483648)))) else (some (!false))) else (some (!false))) else (some (!false))))))
end
def hodmanlaw1_CalcBack.f (k : Nat) (a0 : Int) (a1 : Int) : Option (Bool) := (hodmanlaw1_begun.f k).bind fun t115 => (if t115 = true then ((calc_Add.f a0 a1).bind fun bt116 => ((calc_Mul.f k a0 a1).bind fun bt118 => ((calc_Add.f a1 a0).bind fun bt120 => ((calc_Mul.f k a1 a0).bind fun bt122 => (if bt116.1 = bt120.1 then (if (bt116.2 != bt120.2) = true then (hodmanlaw1_CalcBack.j0 k a0 a1 bt116.1 bt116.2 bt118.1 bt118.2 true) else (if bt118.1 = bt122.1 then (if (bt118.2 != bt122.2) = true then (hodmanlaw1_CalcBack.j0 k a0 a1 bt116.1 bt116.2 bt118.1 bt118.2 true) else (if bt116.2 = true then (if bt118.2 = true then (hodmanlaw1_CalcBack.j0 k a0 a1 bt116.1 bt116.2 bt118.1 bt118.2 false) else (hodmanlaw1_CalcBack.j0 k a0 a1 bt116.1 bt116.2 bt118.1 bt118.2 (bt118.1 != 0))) else (if bt116.1 = 0 then (if bt118.2 = true then (hodmanlaw1_CalcBack.j0 k a0 a1 bt116.1 bt116.2 bt118.1 bt118.2 false) else (hodmanlaw1_CalcBack.j0 k a0 a1 bt116.1 bt116.2 bt118.1 bt118.2 (bt118.1 != 0))) else (hodmanlaw1_CalcBack.j0 k a0 a1 bt116.1 bt116.2 bt118.1 bt118.2 true)))) else (hodmanlaw1_CalcBack.j0 k a0 a1 bt116.1 bt116.2 bt118.1 bt118.2 true))) else (hodmanlaw1_CalcBack.j0 k a0 a1 bt116.1 bt116.2 bt118.1 bt118.2 true)))))) else (some false))
theorem hodmanlaw1_CalcBack.mono_l : ∀ k, (∀ y0 y1 y2 y3 y4 y5 y6, LeO (hodmanlaw1_CalcBack.j0 k y0 y1 y2 y3 y4 y5 y6) (hodmanlaw1_CalcBack.j0 (k + 1) y0 y1 y2 y3 y4 y5 y6)) ∧ (∀ y0 y1 y2 y3 y4, LeO (hodmanlaw1_CalcBack.j1 k y0 y1 y2 y3 y4) (hodmanlaw1_CalcBack.j1 (k + 1) y0 y1 y2 y3 y4))
  | 0 => ⟨fun _ _ _ _ _ _ _ r h => by simp [hodmanlaw1_CalcBack.j0] at h, fun _ _ _ _ _ r h => by simp [hodmanlaw1_CalcBack.j1] at h⟩
  | k + 1 => by
    obtain ⟨ih0, ih1⟩ := hodmanlaw1_CalcBack.mono_l k
    refine ⟨?_, ?_⟩
    · intro y0 y1 y2 y3 y4 y5 y6
      unfold hodmanlaw1_CalcBack.j0
      repeat' first
      | (with_reducible exact ih0 _ _ _ _ _ _ _)
      | (with_reducible exact ih1 _ _ _ _ _)
      | (with_reducible exact calc_Mul.mono _ _ _)
      | (with_reducible exact hodmanlaw1_begun.mono _)
      | (with_reducible exact LeO.refl _)
      | (with_reducible exact LeO.none _)
      | (with_reducible refine LeO.ite ?_ ?_)
      | (with_reducible refine LeO.bind ?_ (fun _ => ?_))
      | exact ih0 _ _ _ _ _ _ _
      | exact ih1 _ _ _ _ _
      | exact calc_Mul.mono _ _ _
      | exact hodmanlaw1_begun.mono _
      | exact LeO.none _
      | refine LeO.ite ?_ ?_
      | refine LeO.bind ?_ (fun _ => ?_)
    · intro y0 y1 y2 y3 y4
      unfold hodmanlaw1_CalcBack.j1
      repeat' first
      | (with_reducible exact ih0 _ _ _ _ _ _ _)
      | (with_reducible exact ih1 _ _ _ _ _)
      | (with_reducible exact calc_Mul.mono _ _ _)
      | (with_reducible exact hodmanlaw1_begun.mono _)
      | (with_reducible exact LeO.refl _)
      | (with_reducible exact LeO.none _)
      | (with_reducible refine LeO.ite ?_ ?_)
      | (with_reducible refine LeO.bind ?_ (fun _ => ?_))
      | exact ih0 _ _ _ _ _ _ _
      | exact ih1 _ _ _ _ _
      | exact calc_Mul.mono _ _ _
      | exact hodmanlaw1_begun.mono _
      | exact LeO.none _
      | refine LeO.ite ?_ ?_
      | refine LeO.bind ?_ (fun _ => ?_)
theorem hodmanlaw1_CalcBack.mono : ∀ a0 a1 k, LeO (hodmanlaw1_CalcBack.f k a0 a1) (hodmanlaw1_CalcBack.f (k + 1) a0 a1) := by
  intro a0 a1 k
  obtain ⟨ih0, ih1⟩ := hodmanlaw1_CalcBack.mono_l k
  unfold hodmanlaw1_CalcBack.f
  repeat' first
      | (with_reducible exact ih0 _ _ _ _ _ _ _)
      | (with_reducible exact ih1 _ _ _ _ _)
      | (with_reducible exact calc_Mul.mono _ _ _)
      | (with_reducible exact hodmanlaw1_begun.mono _)
      | (with_reducible exact LeO.refl _)
      | (with_reducible exact LeO.none _)
      | (with_reducible refine LeO.ite ?_ ?_)
      | (with_reducible refine LeO.bind ?_ (fun _ => ?_))
      | exact ih0 _ _ _ _ _ _ _
      | exact ih1 _ _ _ _ _
      | exact calc_Mul.mono _ _ _
      | exact hodmanlaw1_begun.mono _
      | exact LeO.none _
      | refine LeO.ite ?_ ?_
      | refine LeO.bind ?_ (fun _ => ?_)
set_option maxHeartbeats 8000000 in
set_option maxRecDepth 100000 in
theorem hodmanlaw1_CalcBack.calls (k : Nat) (a0 : Int) (a1 : Int) (r : Bool) (w : World) (h : hodmanlaw1_CalcBack.f k a0 a1 = some r) (hr_ : Aside0 (r = true)) :
    Calls Try.prog 4 #[.int .i64 a0, .int .i64 a1] w fun e w' => e = .returned (.bool r) ∧ Drawn0 w w' := by
  have H : ((hodmanlaw1_begun.f k).bind fun t115 => (if t115 = true then ((calc_Add.f a0 a1).bind fun bt116 => ((calc_Mul.f k a0 a1).bind fun bt118 => ((calc_Add.f a1 a0).bind fun bt120 => ((calc_Mul.f k a1 a0).bind fun bt122 => (if bt116.1 = bt120.1 then (if (bt116.2 != bt120.2) = true then (hodmanlaw1_CalcBack.j0 k a0 a1 bt116.1 bt116.2 bt118.1 bt118.2 true) else (if bt118.1 = bt122.1 then (if (bt118.2 != bt122.2) = true then (hodmanlaw1_CalcBack.j0 k a0 a1 bt116.1 bt116.2 bt118.1 bt118.2 true) else (if bt116.2 = true then (if bt118.2 = true then (hodmanlaw1_CalcBack.j0 k a0 a1 bt116.1 bt116.2 bt118.1 bt118.2 false) else (hodmanlaw1_CalcBack.j0 k a0 a1 bt116.1 bt116.2 bt118.1 bt118.2 (bt118.1 != 0))) else (if bt116.1 = 0 then (if bt118.2 = true then (hodmanlaw1_CalcBack.j0 k a0 a1 bt116.1 bt116.2 bt118.1 bt118.2 false) else (hodmanlaw1_CalcBack.j0 k a0 a1 bt116.1 bt116.2 bt118.1 bt118.2 (bt118.1 != 0))) else (hodmanlaw1_CalcBack.j0 k a0 a1 bt116.1 bt116.2 bt118.1 bt118.2 true)))) else (hodmanlaw1_CalcBack.j0 k a0 a1 bt116.1 bt116.2 bt118.1 bt118.2 true))) else (hodmanlaw1_CalcBack.j0 k a0 a1 bt116.1 bt116.2 bt118.1 bt118.2 true)))))) else (some false))) = some r := h
  clear h
  replace H := Option.bind_eq_some_iff.mp H
  obtain ⟨t115, A30, H⟩ := H
  replace H : (if t115 = true then ((calc_Add.f a0 a1).bind fun bt116 => ((calc_Mul.f k a0 a1).bind fun bt118 => ((calc_Add.f a1 a0).bind fun bt120 => ((calc_Mul.f k a1 a0).bind fun bt122 => (if bt116.1 = bt120.1 then (if (bt116.2 != bt120.2) = true then (hodmanlaw1_CalcBack.j0 k a0 a1 bt116.1 bt116.2 bt118.1 bt118.2 true) else (if bt118.1 = bt122.1 then (if (bt118.2 != bt122.2) = true then (hodmanlaw1_CalcBack.j0 k a0 a1 bt116.1 bt116.2 bt118.1 bt118.2 true) else (if bt116.2 = true then (if bt118.2 = true then (hodmanlaw1_CalcBack.j0 k a0 a1 bt116.1 bt116.2 bt118.1 bt118.2 false) else (hodmanlaw1_CalcBack.j0 k a0 a1 bt116.1 bt116.2 bt118.1 bt118.2 (bt118.1 != 0))) else (if bt116.1 = 0 then (if bt118.2 = true then (hodmanlaw1_CalcBack.j0 k a0 a1 bt116.1 bt116.2 bt118.1 bt118.2 false) else (hodmanlaw1_CalcBack.j0 k a0 a1 bt116.1 bt116.2 bt118.1 bt118.2 (bt118.1 != 0))) else (hodmanlaw1_CalcBack.j0 k a0 a1 bt116.1 bt116.2 bt118.1 bt118.2 true)))) else (hodmanlaw1_CalcBack.j0 k a0 a1 bt116.1 bt116.2 bt118.1 bt118.2 true))) else (hodmanlaw1_CalcBack.j0 k a0 a1 bt116.1 bt116.2 bt118.1 bt118.2 true)))))) else (some false)) = some r := H
  have A3 := Aside0.mk A30
  clear A30
  by_cases c4 : t115 = true
  · subst c4
    have H1 : ((calc_Add.f a0 a1).bind fun bt116 => ((calc_Mul.f k a0 a1).bind fun bt118 => ((calc_Add.f a1 a0).bind fun bt120 => ((calc_Mul.f k a1 a0).bind fun bt122 => (if bt116.1 = bt120.1 then (if (bt116.2 != bt120.2) = true then (hodmanlaw1_CalcBack.j0 k a0 a1 bt116.1 bt116.2 bt118.1 bt118.2 true) else (if bt118.1 = bt122.1 then (if (bt118.2 != bt122.2) = true then (hodmanlaw1_CalcBack.j0 k a0 a1 bt116.1 bt116.2 bt118.1 bt118.2 true) else (if bt116.2 = true then (if bt118.2 = true then (hodmanlaw1_CalcBack.j0 k a0 a1 bt116.1 bt116.2 bt118.1 bt118.2 false) else (hodmanlaw1_CalcBack.j0 k a0 a1 bt116.1 bt116.2 bt118.1 bt118.2 (bt118.1 != 0))) else (if bt116.1 = 0 then (if bt118.2 = true then (hodmanlaw1_CalcBack.j0 k a0 a1 bt116.1 bt116.2 bt118.1 bt118.2 false) else (hodmanlaw1_CalcBack.j0 k a0 a1 bt116.1 bt116.2 bt118.1 bt118.2 (bt118.1 != 0))) else (hodmanlaw1_CalcBack.j0 k a0 a1 bt116.1 bt116.2 bt118.1 bt118.2 true)))) else (hodmanlaw1_CalcBack.j0 k a0 a1 bt116.1 bt116.2 bt118.1 bt118.2 true))) else (hodmanlaw1_CalcBack.j0 k a0 a1 bt116.1 bt116.2 bt118.1 bt118.2 true)))))) = some r := by rw [if_pos rfl] at H; exact H
    clear H
    have H := H1
    clear H1
    replace H := Option.bind_eq_some_iff.mp H
    obtain ⟨⟨t116, t117⟩, A50, H⟩ := H
    replace H : ((calc_Mul.f k a0 a1).bind fun bt118 => ((calc_Add.f a1 a0).bind fun bt120 => ((calc_Mul.f k a1 a0).bind fun bt122 => (if t116 = bt120.1 then (if (t117 != bt120.2) = true then (hodmanlaw1_CalcBack.j0 k a0 a1 t116 t117 bt118.1 bt118.2 true) else (if bt118.1 = bt122.1 then (if (bt118.2 != bt122.2) = true then (hodmanlaw1_CalcBack.j0 k a0 a1 t116 t117 bt118.1 bt118.2 true) else (if t117 = true then (if bt118.2 = true then (hodmanlaw1_CalcBack.j0 k a0 a1 t116 t117 bt118.1 bt118.2 false) else (hodmanlaw1_CalcBack.j0 k a0 a1 t116 t117 bt118.1 bt118.2 (bt118.1 != 0))) else (if t116 = 0 then (if bt118.2 = true then (hodmanlaw1_CalcBack.j0 k a0 a1 t116 t117 bt118.1 bt118.2 false) else (hodmanlaw1_CalcBack.j0 k a0 a1 t116 t117 bt118.1 bt118.2 (bt118.1 != 0))) else (hodmanlaw1_CalcBack.j0 k a0 a1 t116 t117 bt118.1 bt118.2 true)))) else (hodmanlaw1_CalcBack.j0 k a0 a1 t116 t117 bt118.1 bt118.2 true))) else (hodmanlaw1_CalcBack.j0 k a0 a1 t116 t117 bt118.1 bt118.2 true))))) = some r := H
    have A5 := Aside0.mk A50
    clear A50
    replace H := Option.bind_eq_some_iff.mp H
    obtain ⟨⟨t118, t119⟩, A60, H⟩ := H
    replace H : ((calc_Add.f a1 a0).bind fun bt120 => ((calc_Mul.f k a1 a0).bind fun bt122 => (if t116 = bt120.1 then (if (t117 != bt120.2) = true then (hodmanlaw1_CalcBack.j0 k a0 a1 t116 t117 t118 t119 true) else (if t118 = bt122.1 then (if (t119 != bt122.2) = true then (hodmanlaw1_CalcBack.j0 k a0 a1 t116 t117 t118 t119 true) else (if t117 = true then (if t119 = true then (hodmanlaw1_CalcBack.j0 k a0 a1 t116 t117 t118 t119 false) else (hodmanlaw1_CalcBack.j0 k a0 a1 t116 t117 t118 t119 (t118 != 0))) else (if t116 = 0 then (if t119 = true then (hodmanlaw1_CalcBack.j0 k a0 a1 t116 t117 t118 t119 false) else (hodmanlaw1_CalcBack.j0 k a0 a1 t116 t117 t118 t119 (t118 != 0))) else (hodmanlaw1_CalcBack.j0 k a0 a1 t116 t117 t118 t119 true)))) else (hodmanlaw1_CalcBack.j0 k a0 a1 t116 t117 t118 t119 true))) else (hodmanlaw1_CalcBack.j0 k a0 a1 t116 t117 t118 t119 true)))) = some r := H
    have A6 := Aside0.mk A60
    clear A60
    replace H := Option.bind_eq_some_iff.mp H
    obtain ⟨⟨t120, t121⟩, A70, H⟩ := H
    replace H : ((calc_Mul.f k a1 a0).bind fun bt122 => (if t116 = t120 then (if (t117 != t121) = true then (hodmanlaw1_CalcBack.j0 k a0 a1 t116 t117 t118 t119 true) else (if t118 = bt122.1 then (if (t119 != bt122.2) = true then (hodmanlaw1_CalcBack.j0 k a0 a1 t116 t117 t118 t119 true) else (if t117 = true then (if t119 = true then (hodmanlaw1_CalcBack.j0 k a0 a1 t116 t117 t118 t119 false) else (hodmanlaw1_CalcBack.j0 k a0 a1 t116 t117 t118 t119 (t118 != 0))) else (if t116 = 0 then (if t119 = true then (hodmanlaw1_CalcBack.j0 k a0 a1 t116 t117 t118 t119 false) else (hodmanlaw1_CalcBack.j0 k a0 a1 t116 t117 t118 t119 (t118 != 0))) else (hodmanlaw1_CalcBack.j0 k a0 a1 t116 t117 t118 t119 true)))) else (hodmanlaw1_CalcBack.j0 k a0 a1 t116 t117 t118 t119 true))) else (hodmanlaw1_CalcBack.j0 k a0 a1 t116 t117 t118 t119 true))) = some r := H
    have A7 := Aside0.mk A70
    clear A70
    replace H := Option.bind_eq_some_iff.mp H
    obtain ⟨⟨t122, t123⟩, A80, H⟩ := H
    replace H : (if t116 = t120 then (if (t117 != t121) = true then (hodmanlaw1_CalcBack.j0 k a0 a1 t116 t117 t118 t119 true) else (if t118 = t122 then (if (t119 != t123) = true then (hodmanlaw1_CalcBack.j0 k a0 a1 t116 t117 t118 t119 true) else (if t117 = true then (if t119 = true then (hodmanlaw1_CalcBack.j0 k a0 a1 t116 t117 t118 t119 false) else (hodmanlaw1_CalcBack.j0 k a0 a1 t116 t117 t118 t119 (t118 != 0))) else (if t116 = 0 then (if t119 = true then (hodmanlaw1_CalcBack.j0 k a0 a1 t116 t117 t118 t119 false) else (hodmanlaw1_CalcBack.j0 k a0 a1 t116 t117 t118 t119 (t118 != 0))) else (hodmanlaw1_CalcBack.j0 k a0 a1 t116 t117 t118 t119 true)))) else (hodmanlaw1_CalcBack.j0 k a0 a1 t116 t117 t118 t119 true))) else (hodmanlaw1_CalcBack.j0 k a0 a1 t116 t117 t118 t119 true)) = some r := H
    have A8 := Aside0.mk A80
    clear A80
    have HC9 := Aside0.mk H
    clear H
    go_enter Try.func4, Try.ntmps4
    go_upto_region 7 with (first | ((with_reducible refine gate_callee (f := 10) rfl ?_); refine goesL_ (some 13) rfl rfl Try.func10 (by kernel_rfl) rfl #[] rfl (by (try simp only [List.map_toArray, List.map_cons, List.map_nil]); first | done | rfl | (simp only [List.length_drop, List.length_take]; rfl)) ?_; (with_reducible refine (hodmanlaw1_begun.calls k  true _ A3.out).mono ?_); rintro e w' ⟨rfl, ⟨nd, rfl⟩⟩; refine ⟨_, rfl, ?_⟩) | ((with_reducible refine gate_callee (f := 11) rfl ?_); refine goesL_ (some 18) rfl rfl Try.func11 (by kernel_rfl) rfl #[.int .i64 a0, .int .i64 a1] rfl (by (try simp only [List.map_toArray, List.map_cons, List.map_nil]); first | done | rfl | (simp only [List.length_drop, List.length_take]; rfl)) ?_; (with_reducible refine (calc_Add.calls a0 a1 t116 t117 _ A5.out).mono ?_); rintro e w' ⟨rfl, ⟨nd, rfl⟩⟩; refine ⟨_, rfl, ?_⟩) | ((with_reducible refine gate_callee (f := 13) rfl ?_); refine goesL_ (some 24) rfl rfl Try.func13 (by kernel_rfl) rfl #[.int .i64 a0, .int .i64 a1] rfl (by (try simp only [List.map_toArray, List.map_cons, List.map_nil]); first | done | rfl | (simp only [List.length_drop, List.length_take]; rfl)) ?_; (with_reducible refine (calc_Mul.calls k a0 a1 t118 t119 _ A6.out).mono ?_); rintro e w' ⟨rfl, ⟨nd, rfl⟩⟩; refine ⟨_, rfl, ?_⟩) | ((with_reducible refine gate_callee (f := 11) rfl ?_); refine goesL_ (some 30) rfl rfl Try.func11 (by kernel_rfl) rfl #[.int .i64 a1, .int .i64 a0] rfl (by (try simp only [List.map_toArray, List.map_cons, List.map_nil]); first | done | rfl | (simp only [List.length_drop, List.length_take]; rfl)) ?_; (with_reducible refine (calc_Add.calls a1 a0 t120 t121 _ A7.out).mono ?_); rintro e w' ⟨rfl, ⟨nd, rfl⟩⟩; refine ⟨_, rfl, ?_⟩) | ((with_reducible refine gate_callee (f := 13) rfl ?_); refine goesL_ (some 36) rfl rfl Try.func13 (by kernel_rfl) rfl #[.int .i64 a1, .int .i64 a0] rfl (by (try simp only [List.map_toArray, List.map_cons, List.map_nil]); first | done | rfl | (simp only [List.length_drop, List.length_take]; rfl)) ?_; (with_reducible refine (calc_Mul.calls k a1 a0 t122 t123 _ A8.out).mono ?_); rintro e w' ⟨rfl, ⟨nd, rfl⟩⟩; refine ⟨_, rfl, ?_⟩))
    (try simp only [Act.put, List.setIfInBounds_toArray, List.set_cons_zero, List.set_cons_succ])
    go_cut [72] (fun v72 wc => ∃ (kq : Nat) (x72_8 : Bool), v72 = .bool x72_8 ∧ Aside0 (hodmanlaw1_CalcBack.j0 kq a0 a1 t116 t117 t118 t119 x72_8 = some r) ∧ Aside0 (kq ≤ k) ∧ Drawn0 w wc)
    case first =>
      have H := HC9.out
      clear HC9
      by_cases c10 : t116 = t120
      · rw [if_pos c10] at H
        have c10b0 : (t116 == t120) = true := beq_iff_eq.mpr c10
        have c10b1 : (t116 != t120) = false := bne_eq_false_iff_eq.mpr c10
        clear c10
        (first | rw [c10b0] | (simp only [i64_w, i32_w]; rw [c10b0]) | skip)
        by_cases c11 : (t117 != t121) = true
        · rw [if_pos c11] at H
          have c11b0 : (t117 != t121) = true := c11
          (try (have c11b1 : decide (t117 = t121) = false := by simpa using c11))
          (try (have c11b2 : (t117 == t121) = false := by simpa using c11))
          (try (have c11b3 : ¬ (t117 = t121) := by simpa using c11))
          clear c11
          exact absurd H (fun H => by cases k with | zero => simp [hodmanlaw1_CalcBack.j0] at H | succ n_ => simp only [hodmanlaw1_CalcBack.j0, if_true] at H; exact absurd ((Option.some.inj H).trans hr_.out) Bool.false_ne_true)
        · rw [if_neg c11] at H
          have c11b0 : (t117 != t121) = false := by simpa using c11
          (try (have c11b1 : decide (t117 = t121) = true := by simpa using c11))
          (try (have c11b2 : (t117 == t121) = true := by simpa using c11))
          clear c11
          by_cases c12 : t118 = t122
          · rw [if_pos c12] at H
            have c12b0 : (t118 == t122) = true := beq_iff_eq.mpr c12
            have c12b1 : (t118 != t122) = false := bne_eq_false_iff_eq.mpr c12
            clear c12
            by_cases c13 : (t119 != t123) = true
            · rw [if_pos c13] at H
              have c13b0 : (t119 != t123) = true := c13
              (try (have c13b1 : decide (t119 = t123) = false := by simpa using c13))
              (try (have c13b2 : (t119 == t123) = false := by simpa using c13))
              (try (have c13b3 : ¬ (t119 = t123) := by simpa using c13))
              clear c13
              exact absurd H (fun H => by cases k with | zero => simp [hodmanlaw1_CalcBack.j0] at H | succ n_ => simp only [hodmanlaw1_CalcBack.j0, if_true] at H; exact absurd ((Option.some.inj H).trans hr_.out) Bool.false_ne_true)
            · rw [if_neg c13] at H
              have c13b0 : (t119 != t123) = false := by simpa using c13
              (try (have c13b1 : decide (t119 = t123) = true := by simpa using c13))
              (try (have c13b2 : (t119 == t123) = true := by simpa using c13))
              clear c13
              by_cases c14 : t117 = true
              · subst c14
                have H1 : (if t119 = true then (hodmanlaw1_CalcBack.j0 k a0 a1 t116 true t118 t119 false) else (hodmanlaw1_CalcBack.j0 k a0 a1 t116 true t118 t119 (t118 != 0))) = some r := by rw [if_pos rfl] at H; exact H
                clear H
                have H := H1
                clear H1
                by_cases c15 : t119 = true
                · subst c15
                  have H1 : (hodmanlaw1_CalcBack.j0 k a0 a1 t116 true t118 true false) = some r := by rw [if_pos rfl] at H; exact H
                  clear H
                  have H := H1
                  clear H1
                  have H' := Aside0.mk H
                  clear H
                  go_wp2
                  go_meet
                  case rel => exact ⟨_, (false), (by first | rfl | (simp; done) | (simp [*]; done)), H', ⟨by first | omega | exact Nat.le_refl _⟩, by repeat (first | exact Drawn0.refl _ | apply Drawn0.step)⟩
                · replace c15 := Bool.eq_false_iff.mpr c15
                  subst c15
                  have H1 : (hodmanlaw1_CalcBack.j0 k a0 a1 t116 true t118 false (t118 != 0)) = some r := by rw [if_neg (show ¬ (false = true) by decide)] at H; exact H
                  clear H
                  have H := H1
                  clear H1
                  have H' := Aside0.mk H
                  clear H
                  go_wp2
                  go_meet
                  case rel => exact ⟨_, ((t118 != 0)), (by first | rfl | (simp; done) | (simp [*]; done)), H', ⟨by first | omega | exact Nat.le_refl _⟩, by repeat (first | exact Drawn0.refl _ | apply Drawn0.step)⟩
              · replace c14 := Bool.eq_false_iff.mpr c14
                subst c14
                have H1 : (if t116 = 0 then (if t119 = true then (hodmanlaw1_CalcBack.j0 k a0 a1 t116 false t118 t119 false) else (hodmanlaw1_CalcBack.j0 k a0 a1 t116 false t118 t119 (t118 != 0))) else (hodmanlaw1_CalcBack.j0 k a0 a1 t116 false t118 t119 true)) = some r := by rw [if_neg (show ¬ (false = true) by decide)] at H; exact H
                clear H
                have H := H1
                clear H1
                by_cases c16 : t116 = 0
                · rw [if_pos c16] at H
                  have c16b0 : (t116 == 0) = true := beq_iff_eq.mpr c16
                  have c16b1 : (t116 != 0) = false := bne_eq_false_iff_eq.mpr c16
                  clear c16
                  by_cases c17 : t119 = true
                  · subst c17
                    have H1 : (hodmanlaw1_CalcBack.j0 k a0 a1 t116 false t118 true false) = some r := by rw [if_pos rfl] at H; exact H
                    clear H
                    have H := H1
                    clear H1
                    have H' := Aside0.mk H
                    clear H
                    go_wp2
                    go_meet
                    case rel => exact ⟨_, (false), (by first | rfl | (simp; done) | (simp [*]; done)), H', ⟨by first | omega | exact Nat.le_refl _⟩, by repeat (first | exact Drawn0.refl _ | apply Drawn0.step)⟩
                  · replace c17 := Bool.eq_false_iff.mpr c17
                    subst c17
                    have H1 : (hodmanlaw1_CalcBack.j0 k a0 a1 t116 false t118 false (t118 != 0)) = some r := by rw [if_neg (show ¬ (false = true) by decide)] at H; exact H
                    clear H
                    have H := H1
                    clear H1
                    have H' := Aside0.mk H
                    clear H
                    go_wp2
                    go_meet
                    case rel => exact ⟨_, ((t118 != 0)), (by first | rfl | (simp; done) | (simp [*]; done)), H', ⟨by first | omega | exact Nat.le_refl _⟩, by repeat (first | exact Drawn0.refl _ | apply Drawn0.step)⟩
                · rw [if_neg c16] at H
                  have c16b0 : (t116 == 0) = false := beq_eq_false_iff_ne.mpr c16
                  have c16b1 : (t116 != 0) = true := bne_iff_ne.mpr c16
                  exact absurd H (fun H => by cases k with | zero => simp [hodmanlaw1_CalcBack.j0] at H | succ n_ => simp only [hodmanlaw1_CalcBack.j0, if_true] at H; exact absurd ((Option.some.inj H).trans hr_.out) Bool.false_ne_true)
          · rw [if_neg c12] at H
            have c12b0 : (t118 == t122) = false := beq_eq_false_iff_ne.mpr c12
            have c12b1 : (t118 != t122) = true := bne_iff_ne.mpr c12
            exact absurd H (fun H => by cases k with | zero => simp [hodmanlaw1_CalcBack.j0] at H | succ n_ => simp only [hodmanlaw1_CalcBack.j0, if_true] at H; exact absurd ((Option.some.inj H).trans hr_.out) Bool.false_ne_true)
      · rw [if_neg c10] at H
        have c10b0 : (t116 == t120) = false := beq_eq_false_iff_ne.mpr c10
        have c10b1 : (t116 != t120) = true := bne_iff_ne.mpr c10
        (first | rw [c10b0] | (simp only [i64_w, i32_w]; rw [c10b0]) | skip)
        exact absurd H (fun H => by cases k with | zero => simp [hodmanlaw1_CalcBack.j0] at H | succ n_ => simp only [hodmanlaw1_CalcBack.j0, if_true] at H; exact absurd ((Option.some.inj H).trans hr_.out) Bool.false_ne_true)
    case rest =>
      clear HC9
      try clear c1
      try clear p2
      try clear c4
      try clear c10
      try clear c10b0
      try clear c10b1
      try clear c11
      try clear c11b0
      try clear c11b1
      try clear c11b2
      try clear c12
      try clear c12b0
      try clear c12b1
      try clear c13
      try clear c13b0
      try clear c13b1
      try clear c13b2
      try clear c14
      try clear c15
      try clear c16
      try clear c16b0
      try clear c16b1
      try clear c17
      obtain ⟨kq, x72_8, rfl, HA, HJ8, ⟨mc8, rfl⟩⟩ := hcut
      cases kq with
      | zero => exact absurd HA.out (by simp [hodmanlaw1_CalcBack.j0])
      | succ kj8 =>
        have H := HA.out
        clear HA
        simp only [hodmanlaw1_CalcBack.j0] at H
        by_cases c18 : x72_8 = true
        · subst c18
          have H1 : (some false) = some r := by rw [if_pos rfl] at H; exact H
          clear H
          have H := H1
          clear H1
          exact absurd ((Option.some.inj H).trans hr_.out) Bool.false_ne_true
        · replace c18 := Bool.eq_false_iff.mpr c18
          subst c18
          have H1 : (if t117 = true then (if (wrap64 (t116 - a1)) = a0 then (if a1 > 0 then (if t116 ≤ a0 then (hodmanlaw1_CalcBack.j1 kj8 a0 a1 t118 t119 true) else (if a1 < 0 then (if t116 ≥ a0 then (hodmanlaw1_CalcBack.j1 kj8 a0 a1 t118 t119 true) else (hodmanlaw1_CalcBack.j1 kj8 a0 a1 t118 t119 false)) else (hodmanlaw1_CalcBack.j1 kj8 a0 a1 t118 t119 false))) else (if a1 < 0 then (if t116 ≥ a0 then (hodmanlaw1_CalcBack.j1 kj8 a0 a1 t118 t119 true) else (hodmanlaw1_CalcBack.j1 kj8 a0 a1 t118 t119 false)) else (hodmanlaw1_CalcBack.j1 kj8 a0 a1 t118 t119 false))) else (hodmanlaw1_CalcBack.j1 kj8 a0 a1 t118 t119 true)) else (hodmanlaw1_CalcBack.j1 kj8 a0 a1 t118 t119 ((decide (a0 ≥ 0)) != (decide (a1 ≥ 0))))) = some r := by rw [if_neg (show ¬ (false = true) by decide)] at H; exact H
          clear H
          have H := H1
          clear H1
          have HC19 := Aside0.mk H
          clear H
          go_upto_region 9 with (fail)
          go_cut [109] (fun v109 wc => ∃ (kq : Nat) (x109_18 : Bool), v109 = .bool x109_18 ∧ Aside0 (hodmanlaw1_CalcBack.j1 kq a0 a1 t118 t119 x109_18 = some r) ∧ Aside0 (kq ≤ kj8) ∧ Drawn0 w wc)
          case first =>
            have H := HC19.out
            clear HC19
            by_cases c20 : t117 = true
            · subst c20
              have H1 : (if (wrap64 (t116 - a1)) = a0 then (if a1 > 0 then (if t116 ≤ a0 then (hodmanlaw1_CalcBack.j1 kj8 a0 a1 t118 t119 true) else (if a1 < 0 then (if t116 ≥ a0 then (hodmanlaw1_CalcBack.j1 kj8 a0 a1 t118 t119 true) else (hodmanlaw1_CalcBack.j1 kj8 a0 a1 t118 t119 false)) else (hodmanlaw1_CalcBack.j1 kj8 a0 a1 t118 t119 false))) else (if a1 < 0 then (if t116 ≥ a0 then (hodmanlaw1_CalcBack.j1 kj8 a0 a1 t118 t119 true) else (hodmanlaw1_CalcBack.j1 kj8 a0 a1 t118 t119 false)) else (hodmanlaw1_CalcBack.j1 kj8 a0 a1 t118 t119 false))) else (hodmanlaw1_CalcBack.j1 kj8 a0 a1 t118 t119 true)) = some r := by rw [if_pos rfl] at H; exact H
              clear H
              have H := H1
              clear H1
              by_cases c21 : (wrap64 (t116 - a1)) = a0
              · rw [if_pos c21] at H
                have c21b0 : ((wrap64 (t116 - a1)) == a0) = true := beq_iff_eq.mpr c21
                have c21b1 : ((wrap64 (t116 - a1)) != a0) = false := bne_eq_false_iff_eq.mpr c21
                clear c21
                (first | rw [c21b0] | (simp only [i64_w, i32_w]; rw [c21b0]) | skip)
                by_cases c22 : a1 > 0
                · rw [if_pos c22] at H
                  have c22b0 : decide (0 < a1) = true := decide_eq_true c22
                  clear c22
                  by_cases c23 : t116 ≤ a0
                  · rw [if_pos c23] at H
                    have c23b0 : decide (t116 ≤ a0) = true := decide_eq_true c23
                    clear c23
                    exact absurd H (fun H => by cases kj8 with | zero => simp [hodmanlaw1_CalcBack.j1] at H | succ n_ => simp only [hodmanlaw1_CalcBack.j1, if_true] at H; exact absurd ((Option.some.inj H).trans hr_.out) Bool.false_ne_true)
                  · rw [if_neg c23] at H
                    have c23b0 : decide (t116 ≤ a0) = false := decide_eq_false c23
                    clear c23
                    by_cases c24 : a1 < 0
                    · rw [if_pos c24] at H
                      have c24b0 : decide (a1 < 0) = true := decide_eq_true c24
                      clear c24
                      by_cases c25 : t116 ≥ a0
                      · rw [if_pos c25] at H
                        have c25b0 : decide (a0 ≤ t116) = true := decide_eq_true c25
                        clear c25
                        exact absurd H (fun H => by cases kj8 with | zero => simp [hodmanlaw1_CalcBack.j1] at H | succ n_ => simp only [hodmanlaw1_CalcBack.j1, if_true] at H; exact absurd ((Option.some.inj H).trans hr_.out) Bool.false_ne_true)
                      · rw [if_neg c25] at H
                        have c25b0 : decide (a0 ≤ t116) = false := decide_eq_false c25
                        clear c25
                        have H' := Aside0.mk H
                        clear H
                        go_wp2
                        go_meet
                        case rel => exact ⟨_, (false), (by first | rfl | (simp; done) | (simp [*]; done)), H', ⟨by have := HJ8.out; first | omega | exact Nat.le_refl _⟩, by repeat (first | exact Drawn0.refl _ | apply Drawn0.step)⟩
                    · rw [if_neg c24] at H
                      have c24b0 : decide (a1 < 0) = false := decide_eq_false c24
                      clear c24
                      have H' := Aside0.mk H
                      clear H
                      go_wp2
                      go_meet
                      case rel => exact ⟨_, (false), (by first | rfl | (simp; done) | (simp [*]; done)), H', ⟨by have := HJ8.out; first | omega | exact Nat.le_refl _⟩, by repeat (first | exact Drawn0.refl _ | apply Drawn0.step)⟩
                · rw [if_neg c22] at H
                  have c22b0 : decide (0 < a1) = false := decide_eq_false c22
                  clear c22
                  by_cases c26 : a1 < 0
                  · rw [if_pos c26] at H
                    have c26b0 : decide (a1 < 0) = true := decide_eq_true c26
                    clear c26
                    by_cases c27 : t116 ≥ a0
                    · rw [if_pos c27] at H
                      have c27b0 : decide (a0 ≤ t116) = true := decide_eq_true c27
                      clear c27
                      exact absurd H (fun H => by cases kj8 with | zero => simp [hodmanlaw1_CalcBack.j1] at H | succ n_ => simp only [hodmanlaw1_CalcBack.j1, if_true] at H; exact absurd ((Option.some.inj H).trans hr_.out) Bool.false_ne_true)
                    · rw [if_neg c27] at H
                      have c27b0 : decide (a0 ≤ t116) = false := decide_eq_false c27
                      clear c27
                      have H' := Aside0.mk H
                      clear H
                      go_wp2
                      go_meet
                      case rel => exact ⟨_, (false), (by first | rfl | (simp; done) | (simp [*]; done)), H', ⟨by have := HJ8.out; first | omega | exact Nat.le_refl _⟩, by repeat (first | exact Drawn0.refl _ | apply Drawn0.step)⟩
                  · rw [if_neg c26] at H
                    have c26b0 : decide (a1 < 0) = false := decide_eq_false c26
                    clear c26
                    have H' := Aside0.mk H
                    clear H
                    go_wp2
                    go_meet
                    case rel => exact ⟨_, (false), (by first | rfl | (simp; done) | (simp [*]; done)), H', ⟨by have := HJ8.out; first | omega | exact Nat.le_refl _⟩, by repeat (first | exact Drawn0.refl _ | apply Drawn0.step)⟩
              · rw [if_neg c21] at H
                have c21b0 : ((wrap64 (t116 - a1)) == a0) = false := beq_eq_false_iff_ne.mpr c21
                have c21b1 : ((wrap64 (t116 - a1)) != a0) = true := bne_iff_ne.mpr c21
                (first | rw [c21b0] | (simp only [i64_w, i32_w]; rw [c21b0]) | skip)
                exact absurd H (fun H => by cases kj8 with | zero => simp [hodmanlaw1_CalcBack.j1] at H | succ n_ => simp only [hodmanlaw1_CalcBack.j1, if_true] at H; exact absurd ((Option.some.inj H).trans hr_.out) Bool.false_ne_true)
            · replace c20 := Bool.eq_false_iff.mpr c20
              subst c20
              have H1 : (hodmanlaw1_CalcBack.j1 kj8 a0 a1 t118 t119 ((decide (a0 ≥ 0)) != (decide (a1 ≥ 0)))) = some r := by rw [if_neg (show ¬ (false = true) by decide)] at H; exact H
              clear H
              have H := H1
              clear H1
              have H' := Aside0.mk H
              clear H
              go_wp2
              go_meet
              case rel => exact ⟨_, (((decide (a0 ≥ 0)) != (decide (a1 ≥ 0)))), (by first | rfl | (simp; done) | (simp [*]; done)), H', ⟨by have := HJ8.out; first | omega | exact Nat.le_refl _⟩, by repeat (first | exact Drawn0.refl _ | apply Drawn0.step)⟩
          case rest =>
            clear HC19
            try clear c1
            try clear c2
            try clear p2
            try clear c4
            try clear p6
            try clear c8
            try clear c10
            try clear c10b0
            try clear c10b1
            try clear c11
            try clear c11b0
            try clear c11b1
            try clear c11b2
            try clear c12
            try clear c12b0
            try clear c12b1
            try clear c13
            try clear c13b0
            try clear c13b1
            try clear c13b2
            try clear c14
            try clear c15
            try clear c16
            try clear c16b0
            try clear c16b1
            try clear c17
            try clear c18
            try clear c20
            try clear c21
            try clear c21b0
            try clear c21b1
            try clear c22
            try clear c22b0
            try clear c23
            try clear c23b0
            try clear c24
            try clear c24b0
            try clear c25
            try clear c25b0
            try clear c26
            try clear c26b0
            try clear c27
            try clear c27b0
            try clear p2
            obtain ⟨kq, x109_18, rfl, HA, HJ18, ⟨mc18, rfl⟩⟩ := hcut
            cases kq with
            | zero => exact absurd HA.out (by simp [hodmanlaw1_CalcBack.j1])
            | succ kj18 =>
              have H := HA.out
              clear HA
              simp only [hodmanlaw1_CalcBack.j1] at H
              by_cases c28 : x109_18 = true
              · subst c28
                have H1 : (some false) = some r := by rw [if_pos rfl] at H; exact H
                clear H
                have H := H1
                clear H1
                exact absurd ((Option.some.inj H).trans hr_.out) Bool.false_ne_true
              · replace c28 := Bool.eq_false_iff.mpr c28
                subst c28
                have H1 : (if t119 = true then (if a1 = 0 then (some true) else (if (Int.tmod t118 a1) = 0 then (if (wrap64 (Int.tdiv t118 a1)) = a0 then (some true) else (if a1 = (-1) then (if (t118 = (wrap64 (-a0))) then (some true) else (some false)) else (some false))) else (some false))) else (if a0 = 0 then (some false) else (if a1 = 0 then (some false) else (if a0 > (-2147483648) then (if a0 < 2147483648 then (if a1 > (-2147483648) then (some (!(decide (a1 < 2147483648)))) else (some (!false))) else (some (!false))) else (some (!false)))))) = some r := by rw [if_neg (show ¬ (false = true) by decide)] at H; exact H
                clear H
                have H := H1
                clear H1
                by_cases c29 : t119 = true
                · subst c29
                  have H1 : (if a1 = 0 then (some true) else (if (Int.tmod t118 a1) = 0 then (if (wrap64 (Int.tdiv t118 a1)) = a0 then (some true) else (if a1 = (-1) then (if (t118 = (wrap64 (-a0))) then (some true) else (some false)) else (some false))) else (some false))) = some r := by rw [if_pos rfl] at H; exact H
                  clear H
                  have H := H1
                  clear H1
                  by_cases c30 : a1 = 0
                  · rw [if_pos c30] at H
                    have c30b0 : (a1 == 0) = true := beq_iff_eq.mpr c30
                    have c30b1 : (a1 != 0) = false := bne_eq_false_iff_eq.mpr c30
                    clear c30
                    obtain rfl := Option.some.inj H
                    go_wp2
                    go_ret
                    exact ⟨by first | rfl | (simp; done) | (simp [*]; done), by repeat (first | exact Drawn0.refl _ | apply Drawn0.step)⟩
                  · rw [if_neg c30] at H
                    have c30b0 : (a1 == 0) = false := beq_eq_false_iff_ne.mpr c30
                    have c30b1 : (a1 != 0) = true := bne_iff_ne.mpr c30
                    by_cases c31 : (Int.tmod t118 a1) = 0
                    · rw [if_pos c31] at H
                      have c31b0 : ((Int.tmod t118 a1) == 0) = true := beq_iff_eq.mpr c31
                      have c31b1 : ((Int.tmod t118 a1) != 0) = false := bne_eq_false_iff_eq.mpr c31
                      clear c31
                      by_cases c32 : (wrap64 (Int.tdiv t118 a1)) = a0
                      · rw [if_pos c32] at H
                        have c32b0 : ((wrap64 (Int.tdiv t118 a1)) == a0) = true := beq_iff_eq.mpr c32
                        have c32b1 : ((wrap64 (Int.tdiv t118 a1)) != a0) = false := bne_eq_false_iff_eq.mpr c32
                        clear c32
                        obtain rfl := Option.some.inj H
                        go_wp2
                        go_ret
                        exact ⟨by first | rfl | (simp; done) | (simp [*]; done), by repeat (first | exact Drawn0.refl _ | apply Drawn0.step)⟩
                      · rw [if_neg c32] at H
                        have c32b0 : ((wrap64 (Int.tdiv t118 a1)) == a0) = false := beq_eq_false_iff_ne.mpr c32
                        have c32b1 : ((wrap64 (Int.tdiv t118 a1)) != a0) = true := bne_iff_ne.mpr c32
                        by_cases c33 : a1 = (-1)
                        · rw [if_pos c33] at H
                          have c33b0 : (a1 == (-1)) = true := beq_iff_eq.mpr c33
                          have c33b1 : (a1 != (-1)) = false := bne_eq_false_iff_eq.mpr c33
                          clear c33
                          by_cases c34 : (t118 = (wrap64 (-a0)))
                          · rw [if_pos c34] at H
                            have c34b0 : (t118 == (wrap64 (-a0))) = true := beq_iff_eq.mpr c34
                            have c34b1 : (t118 != (wrap64 (-a0))) = false := bne_eq_false_iff_eq.mpr c34
                            clear c34
                            obtain rfl := Option.some.inj H
                            go_wp2
                            go_ret
                            exact ⟨by first | rfl | (simp; done) | (simp [*]; done), by repeat (first | exact Drawn0.refl _ | apply Drawn0.step)⟩
                          · rw [if_neg c34] at H
                            have c34b0 : (t118 == (wrap64 (-a0))) = false := beq_eq_false_iff_ne.mpr c34
                            have c34b1 : (t118 != (wrap64 (-a0))) = true := bne_iff_ne.mpr c34
                            exact absurd ((Option.some.inj H).trans hr_.out) Bool.false_ne_true
                        · rw [if_neg c33] at H
                          have c33b0 : (a1 == (-1)) = false := beq_eq_false_iff_ne.mpr c33
                          have c33b1 : (a1 != (-1)) = true := bne_iff_ne.mpr c33
                          exact absurd ((Option.some.inj H).trans hr_.out) Bool.false_ne_true
                    · rw [if_neg c31] at H
                      have c31b0 : ((Int.tmod t118 a1) == 0) = false := beq_eq_false_iff_ne.mpr c31
                      have c31b1 : ((Int.tmod t118 a1) != 0) = true := bne_iff_ne.mpr c31
                      exact absurd ((Option.some.inj H).trans hr_.out) Bool.false_ne_true
                · replace c29 := Bool.eq_false_iff.mpr c29
                  subst c29
                  have H1 : (if a0 = 0 then (some false) else (if a1 = 0 then (some false) else (if a0 > (-2147483648) then (if a0 < 2147483648 then (if a1 > (-2147483648) then (some (!(decide (a1 < 2147483648)))) else (some (!false))) else (some (!false))) else (some (!false))))) = some r := by rw [if_neg (show ¬ (false = true) by decide)] at H; exact H
                  clear H
                  have H := H1
                  clear H1
                  by_cases c35 : a0 = 0
                  · rw [if_pos c35] at H
                    have c35b0 : (a0 == 0) = true := beq_iff_eq.mpr c35
                    have c35b1 : (a0 != 0) = false := bne_eq_false_iff_eq.mpr c35
                    clear c35
                    exact absurd ((Option.some.inj H).trans hr_.out) Bool.false_ne_true
                  · rw [if_neg c35] at H
                    have c35b0 : (a0 == 0) = false := beq_eq_false_iff_ne.mpr c35
                    have c35b1 : (a0 != 0) = true := bne_iff_ne.mpr c35
                    by_cases c36 : a1 = 0
                    · rw [if_pos c36] at H
                      have c36b0 : (a1 == 0) = true := beq_iff_eq.mpr c36
                      have c36b1 : (a1 != 0) = false := bne_eq_false_iff_eq.mpr c36
                      clear c36
                      exact absurd ((Option.some.inj H).trans hr_.out) Bool.false_ne_true
                    · rw [if_neg c36] at H
                      have c36b0 : (a1 == 0) = false := beq_eq_false_iff_ne.mpr c36
                      have c36b1 : (a1 != 0) = true := bne_iff_ne.mpr c36
                      by_cases c37 : a0 > (-2147483648)
                      · rw [if_pos c37] at H
                        have c37b0 : decide ((-2147483648) < a0) = true := decide_eq_true c37
                        clear c37
                        by_cases c38 : a0 < 2147483648
                        · rw [if_pos c38] at H
                          have c38b0 : decide (a0 < 2147483648) = true := decide_eq_true c38
                          clear c38
                          by_cases c39 : a1 > (-2147483648)
                          · rw [if_pos c39] at H
                            have c39b0 : decide ((-2147483648) < a1) = true := decide_eq_true c39
                            clear c39
                            obtain rfl := Option.some.inj H
                            go_wp2
                            go_ret
                            exact ⟨by first | rfl | (simp; done) | (simp [*]; done), by repeat (first | exact Drawn0.refl _ | apply Drawn0.step)⟩
                          · rw [if_neg c39] at H
                            have c39b0 : decide ((-2147483648) < a1) = false := decide_eq_false c39
                            clear c39
                            obtain rfl := Option.some.inj H
                            go_wp2
                            go_ret
                            exact ⟨by first | rfl | (simp; done) | (simp [*]; done), by repeat (first | exact Drawn0.refl _ | apply Drawn0.step)⟩
                        · rw [if_neg c38] at H
                          have c38b0 : decide (a0 < 2147483648) = false := decide_eq_false c38
                          clear c38
                          obtain rfl := Option.some.inj H
                          go_wp2
                          go_ret
                          exact ⟨by first | rfl | (simp; done) | (simp [*]; done), by repeat (first | exact Drawn0.refl _ | apply Drawn0.step)⟩
                      · rw [if_neg c37] at H
                        have c37b0 : decide ((-2147483648) < a0) = false := decide_eq_false c37
                        clear c37
                        obtain rfl := Option.some.inj H
                        go_wp2
                        go_ret
                        exact ⟨by first | rfl | (simp; done) | (simp [*]; done), by repeat (first | exact Drawn0.refl _ | apply Drawn0.step)⟩
  · replace c4 := Bool.eq_false_iff.mpr c4
    subst c4
    have H1 : (some false) = some r := by rw [if_neg (show ¬ (false = true) by decide)] at H; exact H
    clear H
    have H := H1
    clear H1
    exact absurd ((Option.some.inj H).trans hr_.out) Bool.false_ne_true

/-- THE ONE PURE STATEMENT of hodmanlaw1_CalcBack: yours. -/
def hodmanlaw1_CalcBack.Pure : Prop := ∀ (a0 : Int) (a1 : Int), (Lit.int .i64 a0).wf = true → (Lit.int .i64 a1).wf = true → ∃ k, hodmanlaw1_CalcBack.f k a0 a1 = some true
theorem hodmanlaw1_CalcBack.walk (P : hodmanlaw1_CalcBack.Pure) (a0 : Int) (a1 : Int) (w : World) (w0 : (Lit.int .i64 a0).wf = true) (w1 : (Lit.int .i64 a1).wf = true) :
    Calls Try.prog 4 #[.int .i64 a0, .int .i64 a1] w fun e w' => e = .returned (.bool true) ∧ Below w.heap.size w w' := by
  obtain ⟨k, h⟩ := P a0 a1 w0 w1
  refine (hodmanlaw1_CalcBack.calls k a0 a1 true w h ⟨rfl⟩).mono ?_
  rintro e w' ⟨rfl, hd⟩
  exact ⟨rfl, hd.below⟩

end Go.Proofs.Ytikonphhbfilfaa.PCalcBack
