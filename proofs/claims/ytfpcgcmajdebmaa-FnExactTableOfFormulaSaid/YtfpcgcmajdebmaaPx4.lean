-- Out of the translation, by this session's program over the printer's; Lean checks it.
import Derived.Test.YtfpcgcmajdebmaaPx0
import Derived.Test.YtfpcgcmajdebmaaPx2
namespace Go.Proofs.Ytfpcgcmajdebmaa.P
open Go.RowKit Go.Proofs.YtfpcgcmajdebmaaW.PrintWords Go.Proofs.YtfpcgcmajdebmaaW.PrintLast Go.Proofs.YtfpcgcmajdebmaaW.PrintMore
attribute [local go_sem] max2_int min2_int max_two min_two max_three min_three max_four min_four   -- for this text's walks alone
set_option linter.unusedVariables false
set_option linter.unusedSimpArgs false

/-! ### spec_l5Value: function 25 -/
def spec_l5Value.f : Nat → ByteArray → Int → Int → Option (Bool)
  | 0, _, _, _ => none
  | k + 1, a0, a1, a2 => if 0 ≤ a1 then (if a1 < (a0.size : Int) then (if (bt a0 a1) = 48 then (some false) else (if (bt a0 a1) = 49 then (some true) else (if (bt a0 a1) = 33 then ((spec_l5Value.f k a0 (wrap64 (a1 + 1)) a2).bind fun t108 => (some (!t108))) else (if (bt a0 a1) = 38 then ((spec_l5Value.f k a0 (wrap64 (a1 + 1)) a2).bind fun t109 => (if t109 = true then ((spec_l5End.f k a0 (wrap64 (a1 + 1))).bind fun t110 => ((spec_l5Value.f k a0 t110 a2).bind fun t111 => (some t111))) else (some false))) else (if (bt a0 a1) = 124 then ((spec_l5Value.f k a0 (wrap64 (a1 + 1)) a2).bind fun t112 => (if t112 = true then (some true) else ((spec_l5End.f k a0 (wrap64 (a1 + 1))).bind fun t113 => ((spec_l5Value.f k a0 t113 a2).bind fun t114 => (some t114))))) else (if (bt a0 a1) = 94 then ((spec_l5Value.f k a0 (wrap64 (a1 + 1)) a2).bind fun t115 => ((spec_l5End.f k a0 (wrap64 (a1 + 1))).bind fun t116 => ((spec_l5Value.f k a0 t116 a2).bind fun t117 => (some (t115 != t117))))) else (some ((Go.bits .and .i64 (shr .i64 a2 (((bt a0 a1) - 97) % 256)) 1) == 1)))))))) else (none)) else (none)
theorem spec_l5Value.mono_l : ∀ k, (∀ y0 y1 y2, LeO (spec_l5Value.f k y0 y1 y2) (spec_l5Value.f (k + 1) y0 y1 y2))
  | 0 => fun _ _ _ r h => by simp [spec_l5Value.f] at h
  | k + 1 => by
    have ih0 := spec_l5Value.mono_l k
    · intro y0 y1 y2
      unfold spec_l5Value.f
      repeat' first
      | (with_reducible exact ih0 _ _ _)
      | (with_reducible exact spec_l5End.mono _ _ _)
      | (with_reducible exact LeO.refl _)
      | (with_reducible exact LeO.none _)
      | (with_reducible refine LeO.ite ?_ ?_)
      | (with_reducible refine LeO.bind ?_ (fun _ => ?_))
      | exact ih0 _ _ _
      | exact spec_l5End.mono _ _ _
      | exact LeO.none _
      | refine LeO.ite ?_ ?_
      | refine LeO.bind ?_ (fun _ => ?_)
theorem spec_l5Value.mono : ∀ a0 a1 a2 k, LeO (spec_l5Value.f k a0 a1 a2) (spec_l5Value.f (k + 1) a0 a1 a2) := by
  intro a0 a1 a2 k
  have ih0 := spec_l5Value.mono_l k
  exact ih0 a0 a1 a2
set_option maxHeartbeats 8000000 in
set_option maxRecDepth 100000 in
theorem spec_l5Value.calls (k : Nat) : ∀ (a0 : ByteArray) (a1 : Int) (a2 : Int) (r : Bool) (w : World) (h : spec_l5Value.f k a0 a1 a2 = some r),
    Calls Try.prog 25 #[.string a0, .int .i64 a1, .int .i64 a2] w fun e w' => e = .returned (.bool r) ∧ Drawn0 w w' := by
  induction k using Nat.strongRecOn with
  | _ k ih =>
  intro a0 a1 a2 r w h
  cases k with
  | zero => exact absurd h (by simp [spec_l5Value.f])
  | succ k =>
  simp only [spec_l5Value.f] at h
  have H : (if 0 ≤ a1 then (if a1 < (a0.size : Int) then (if (bt a0 a1) = 48 then (some false) else (if (bt a0 a1) = 49 then (some true) else (if (bt a0 a1) = 33 then ((spec_l5Value.f k a0 (wrap64 (a1 + 1)) a2).bind fun t108 => (some (!t108))) else (if (bt a0 a1) = 38 then ((spec_l5Value.f k a0 (wrap64 (a1 + 1)) a2).bind fun t109 => (if t109 = true then ((spec_l5End.f k a0 (wrap64 (a1 + 1))).bind fun t110 => ((spec_l5Value.f k a0 t110 a2).bind fun t111 => (some t111))) else (some false))) else (if (bt a0 a1) = 124 then ((spec_l5Value.f k a0 (wrap64 (a1 + 1)) a2).bind fun t112 => (if t112 = true then (some true) else ((spec_l5End.f k a0 (wrap64 (a1 + 1))).bind fun t113 => ((spec_l5Value.f k a0 t113 a2).bind fun t114 => (some t114))))) else (if (bt a0 a1) = 94 then ((spec_l5Value.f k a0 (wrap64 (a1 + 1)) a2).bind fun t115 => ((spec_l5End.f k a0 (wrap64 (a1 + 1))).bind fun t116 => ((spec_l5Value.f k a0 t116 a2).bind fun t117 => (some (t115 != t117))))) else (some ((Go.bits .and .i64 (shr .i64 a2 (((bt a0 a1) - 97) % 256)) 1) == 1)))))))) else (none)) else (none)) = some r := h
  clear h
  by_cases c4 : 0 ≤ a1
  · rw [if_pos c4] at H
    have c4b0 : decide (0 ≤ a1) = true := decide_eq_true c4
    clear c4
    by_cases c5 : a1 < (a0.size : Int)
    · rw [if_pos c5] at H
      have c5b0 : decide (a1 < (a0.size : Int)) = true := decide_eq_true c5
      clear c5
      by_cases c7 : (bt a0 a1) = 48
      · rw [if_pos c7] at H
        have c7b0 : ((bt a0 a1) == 48) = true := beq_iff_eq.mpr c7
        have c7b1 : ((bt a0 a1) != 48) = false := bne_eq_false_iff_eq.mpr c7
        clear c7
        obtain rfl := Option.some.inj H
        have p6 : 0 ≤ (a1 : Int) := of_decide_eq_true (by first | (with_reducible assumption) | assumption)
        have q6 : a1 < (a0.size : Int) := of_decide_eq_true (by first | (with_reducible assumption) | assumption)
        have hx6 := bt_at a0 a1
        have hs_ : 0 ≤ (bt a0 a1 - 97) % 256 := Int.emod_nonneg _ (by decide)
        have hs0_ : decide (0 ≤ (bt a0 a1 - 97) % 256) = true := decide_eq_true hs_
        replace p6 := eq_true p6
        replace q6 := eq_true q6
        go_enter Try.func25, Try.ntmps25
        go_wp2
        go_ret
        exact ⟨by first | rfl | (simp; done) | (simp [*]; done), by repeat (first | exact Drawn0.refl _ | apply Drawn0.step)⟩
      · rw [if_neg c7] at H
        have c7b0 : ((bt a0 a1) == 48) = false := beq_eq_false_iff_ne.mpr c7
        have c7b1 : ((bt a0 a1) != 48) = true := bne_iff_ne.mpr c7
        by_cases c8 : (bt a0 a1) = 49
        · rw [if_pos c8] at H
          have c8b0 : ((bt a0 a1) == 49) = true := beq_iff_eq.mpr c8
          have c8b1 : ((bt a0 a1) != 49) = false := bne_eq_false_iff_eq.mpr c8
          clear c8
          obtain rfl := Option.some.inj H
          have p6 : 0 ≤ (a1 : Int) := of_decide_eq_true (by first | (with_reducible assumption) | assumption)
          have q6 : a1 < (a0.size : Int) := of_decide_eq_true (by first | (with_reducible assumption) | assumption)
          have hx6 := bt_at a0 a1
          have hs_ : 0 ≤ (bt a0 a1 - 97) % 256 := Int.emod_nonneg _ (by decide)
          have hs0_ : decide (0 ≤ (bt a0 a1 - 97) % 256) = true := decide_eq_true hs_
          replace p6 := eq_true p6
          replace q6 := eq_true q6
          go_enter Try.func25, Try.ntmps25
          go_wp2
          go_ret
          exact ⟨by first | rfl | (simp; done) | (simp [*]; done), by repeat (first | exact Drawn0.refl _ | apply Drawn0.step)⟩
        · rw [if_neg c8] at H
          have c8b0 : ((bt a0 a1) == 49) = false := beq_eq_false_iff_ne.mpr c8
          have c8b1 : ((bt a0 a1) != 49) = true := bne_iff_ne.mpr c8
          by_cases c9 : (bt a0 a1) = 33
          · rw [if_pos c9] at H
            have c9b0 : ((bt a0 a1) == 33) = true := beq_iff_eq.mpr c9
            have c9b1 : ((bt a0 a1) != 33) = false := bne_eq_false_iff_eq.mpr c9
            clear c9
            replace H := Option.bind_eq_some_iff.mp H
            obtain ⟨t108, A100, H⟩ := H
            replace H : (some (!t108)) = some r := H
            have A10 := Aside0.mk A100
            clear A100
            obtain rfl := Option.some.inj H
            have p6 : 0 ≤ (a1 : Int) := of_decide_eq_true (by first | (with_reducible assumption) | assumption)
            have q6 : a1 < (a0.size : Int) := of_decide_eq_true (by first | (with_reducible assumption) | assumption)
            have hx6 := bt_at a0 a1
            have hs_ : 0 ≤ (bt a0 a1 - 97) % 256 := Int.emod_nonneg _ (by decide)
            have hs0_ : decide (0 ≤ (bt a0 a1 - 97) % 256) = true := decide_eq_true hs_
            replace p6 := eq_true p6
            replace q6 := eq_true q6
            go_enter Try.func25, Try.ntmps25
            go_wp2_with (first | ((with_reducible refine gate_callee (f := 25) rfl ?_); refine goesL_ (some 20) rfl rfl Try.func25 (by kernel_rfl) rfl #[.string a0, .int .i64 (wrap64 (a1 + 1)), .int .i64 a2] rfl (by (try simp only [List.map_toArray, List.map_cons, List.map_nil]); first | done | rfl | (simp only [List.length_drop, List.length_take]; rfl)) ?_; (with_reducible refine (ih k (by omega) a0 (wrap64 (a1 + 1)) a2 t108 _ A10.out).mono ?_); rintro e w' ⟨rfl, ⟨nd, rfl⟩⟩; refine ⟨_, rfl, ?_⟩))
            go_ret
            exact ⟨by first | rfl | (simp; done) | (simp [*]; done), by repeat (first | exact Drawn0.refl _ | apply Drawn0.step)⟩
          · rw [if_neg c9] at H
            have c9b0 : ((bt a0 a1) == 33) = false := beq_eq_false_iff_ne.mpr c9
            have c9b1 : ((bt a0 a1) != 33) = true := bne_iff_ne.mpr c9
            by_cases c11 : (bt a0 a1) = 38
            · rw [if_pos c11] at H
              have c11b0 : ((bt a0 a1) == 38) = true := beq_iff_eq.mpr c11
              have c11b1 : ((bt a0 a1) != 38) = false := bne_eq_false_iff_eq.mpr c11
              clear c11
              replace H := Option.bind_eq_some_iff.mp H
              obtain ⟨t109, A120, H⟩ := H
              replace H : (if t109 = true then ((spec_l5End.f k a0 (wrap64 (a1 + 1))).bind fun t110 => ((spec_l5Value.f k a0 t110 a2).bind fun t111 => (some t111))) else (some false)) = some r := H
              have A12 := Aside0.mk A120
              clear A120
              by_cases c13 : t109 = true
              · subst c13
                have H1 : ((spec_l5End.f k a0 (wrap64 (a1 + 1))).bind fun t110 => ((spec_l5Value.f k a0 t110 a2).bind fun t111 => (some t111))) = some r := by rw [if_pos rfl] at H; exact H
                clear H
                have H := H1
                clear H1
                replace H := Option.bind_eq_some_iff.mp H
                obtain ⟨t110, A140, H⟩ := H
                replace H : ((spec_l5Value.f k a0 t110 a2).bind fun t111 => (some t111)) = some r := H
                have A14 := Aside0.mk A140
                clear A140
                replace H := Option.bind_eq_some_iff.mp H
                obtain ⟨t111, A150, H⟩ := H
                replace H : (some t111) = some r := H
                have A15 := Aside0.mk A150
                clear A150
                obtain rfl := Option.some.inj H
                have p6 : 0 ≤ (a1 : Int) := of_decide_eq_true (by first | (with_reducible assumption) | assumption)
                have q6 : a1 < (a0.size : Int) := of_decide_eq_true (by first | (with_reducible assumption) | assumption)
                have hx6 := bt_at a0 a1
                have hs_ : 0 ≤ (bt a0 a1 - 97) % 256 := Int.emod_nonneg _ (by decide)
                have hs0_ : decide (0 ≤ (bt a0 a1 - 97) % 256) = true := decide_eq_true hs_
                replace p6 := eq_true p6
                replace q6 := eq_true q6
                go_enter Try.func25, Try.ntmps25
                go_wp2_with (first | ((with_reducible refine gate_callee (f := 25) rfl ?_); refine goesL_ (some 28) rfl rfl Try.func25 (by kernel_rfl) rfl #[.string a0, .int .i64 (wrap64 (a1 + 1)), .int .i64 a2] rfl (by (try simp only [List.map_toArray, List.map_cons, List.map_nil]); first | done | rfl | (simp only [List.length_drop, List.length_take]; rfl)) ?_; (with_reducible refine (ih k (by omega) a0 (wrap64 (a1 + 1)) a2 true _ A12.out).mono ?_); rintro e w' ⟨rfl, ⟨nd, rfl⟩⟩; refine ⟨_, rfl, ?_⟩) | (go_at_call 36; (with_reducible refine (spec_l5End.calls k a0 (wrap64 (a1 + 1)) t110 _ A14.out).mono ?_); rintro e w' ⟨rfl, ⟨nd, rfl⟩⟩) | (go_at_call 25; (with_reducible refine (ih k (by omega) a0 t110 a2 t111 _ A15.out).mono ?_); rintro e w' ⟨rfl, ⟨nd, rfl⟩⟩))
                go_ret
                exact ⟨by first | rfl | (simp; done) | (simp [*]; done), by repeat (first | exact Drawn0.refl _ | apply Drawn0.step)⟩
              · replace c13 := Bool.eq_false_iff.mpr c13
                subst c13
                have H1 : (some false) = some r := by rw [if_neg (show ¬ (false = true) by decide)] at H; exact H
                clear H
                have H := H1
                clear H1
                obtain rfl := Option.some.inj H
                have p6 : 0 ≤ (a1 : Int) := of_decide_eq_true (by first | (with_reducible assumption) | assumption)
                have q6 : a1 < (a0.size : Int) := of_decide_eq_true (by first | (with_reducible assumption) | assumption)
                have hx6 := bt_at a0 a1
                have hs_ : 0 ≤ (bt a0 a1 - 97) % 256 := Int.emod_nonneg _ (by decide)
                have hs0_ : decide (0 ≤ (bt a0 a1 - 97) % 256) = true := decide_eq_true hs_
                replace p6 := eq_true p6
                replace q6 := eq_true q6
                go_enter Try.func25, Try.ntmps25
                go_wp2_with (first | ((with_reducible refine gate_callee (f := 25) rfl ?_); refine goesL_ (some 28) rfl rfl Try.func25 (by kernel_rfl) rfl #[.string a0, .int .i64 (wrap64 (a1 + 1)), .int .i64 a2] rfl (by (try simp only [List.map_toArray, List.map_cons, List.map_nil]); first | done | rfl | (simp only [List.length_drop, List.length_take]; rfl)) ?_; (with_reducible refine (ih k (by omega) a0 (wrap64 (a1 + 1)) a2 false _ A12.out).mono ?_); rintro e w' ⟨rfl, ⟨nd, rfl⟩⟩; refine ⟨_, rfl, ?_⟩))
                go_ret
                exact ⟨by first | rfl | (simp; done) | (simp [*]; done), by repeat (first | exact Drawn0.refl _ | apply Drawn0.step)⟩
            · rw [if_neg c11] at H
              have c11b0 : ((bt a0 a1) == 38) = false := beq_eq_false_iff_ne.mpr c11
              have c11b1 : ((bt a0 a1) != 38) = true := bne_iff_ne.mpr c11
              by_cases c16 : (bt a0 a1) = 124
              · rw [if_pos c16] at H
                have c16b0 : ((bt a0 a1) == 124) = true := beq_iff_eq.mpr c16
                have c16b1 : ((bt a0 a1) != 124) = false := bne_eq_false_iff_eq.mpr c16
                clear c16
                replace H := Option.bind_eq_some_iff.mp H
                obtain ⟨t112, A170, H⟩ := H
                replace H : (if t112 = true then (some true) else ((spec_l5End.f k a0 (wrap64 (a1 + 1))).bind fun t113 => ((spec_l5Value.f k a0 t113 a2).bind fun t114 => (some t114)))) = some r := H
                have A17 := Aside0.mk A170
                clear A170
                by_cases c18 : t112 = true
                · subst c18
                  have H1 : (some true) = some r := by rw [if_pos rfl] at H; exact H
                  clear H
                  have H := H1
                  clear H1
                  obtain rfl := Option.some.inj H
                  have p6 : 0 ≤ (a1 : Int) := of_decide_eq_true (by first | (with_reducible assumption) | assumption)
                  have q6 : a1 < (a0.size : Int) := of_decide_eq_true (by first | (with_reducible assumption) | assumption)
                  have hx6 := bt_at a0 a1
                  have hs_ : 0 ≤ (bt a0 a1 - 97) % 256 := Int.emod_nonneg _ (by decide)
                  have hs0_ : decide (0 ≤ (bt a0 a1 - 97) % 256) = true := decide_eq_true hs_
                  replace p6 := eq_true p6
                  replace q6 := eq_true q6
                  go_enter Try.func25, Try.ntmps25
                  go_wp2_with (first | ((with_reducible refine gate_callee (f := 25) rfl ?_); refine goesL_ (some 44) rfl rfl Try.func25 (by kernel_rfl) rfl #[.string a0, .int .i64 (wrap64 (a1 + 1)), .int .i64 a2] rfl (by (try simp only [List.map_toArray, List.map_cons, List.map_nil]); first | done | rfl | (simp only [List.length_drop, List.length_take]; rfl)) ?_; (with_reducible refine (ih k (by omega) a0 (wrap64 (a1 + 1)) a2 true _ A17.out).mono ?_); rintro e w' ⟨rfl, ⟨nd, rfl⟩⟩; refine ⟨_, rfl, ?_⟩))
                  go_ret
                  exact ⟨by first | rfl | (simp; done) | (simp [*]; done), by repeat (first | exact Drawn0.refl _ | apply Drawn0.step)⟩
                · replace c18 := Bool.eq_false_iff.mpr c18
                  subst c18
                  have H1 : ((spec_l5End.f k a0 (wrap64 (a1 + 1))).bind fun t113 => ((spec_l5Value.f k a0 t113 a2).bind fun t114 => (some t114))) = some r := by rw [if_neg (show ¬ (false = true) by decide)] at H; exact H
                  clear H
                  have H := H1
                  clear H1
                  replace H := Option.bind_eq_some_iff.mp H
                  obtain ⟨t113, A190, H⟩ := H
                  replace H : ((spec_l5Value.f k a0 t113 a2).bind fun t114 => (some t114)) = some r := H
                  have A19 := Aside0.mk A190
                  clear A190
                  replace H := Option.bind_eq_some_iff.mp H
                  obtain ⟨t114, A200, H⟩ := H
                  replace H : (some t114) = some r := H
                  have A20 := Aside0.mk A200
                  clear A200
                  obtain rfl := Option.some.inj H
                  have p6 : 0 ≤ (a1 : Int) := of_decide_eq_true (by first | (with_reducible assumption) | assumption)
                  have q6 : a1 < (a0.size : Int) := of_decide_eq_true (by first | (with_reducible assumption) | assumption)
                  have hx6 := bt_at a0 a1
                  have hs_ : 0 ≤ (bt a0 a1 - 97) % 256 := Int.emod_nonneg _ (by decide)
                  have hs0_ : decide (0 ≤ (bt a0 a1 - 97) % 256) = true := decide_eq_true hs_
                  replace p6 := eq_true p6
                  replace q6 := eq_true q6
                  go_enter Try.func25, Try.ntmps25
                  go_wp2_with (first | ((with_reducible refine gate_callee (f := 25) rfl ?_); refine goesL_ (some 44) rfl rfl Try.func25 (by kernel_rfl) rfl #[.string a0, .int .i64 (wrap64 (a1 + 1)), .int .i64 a2] rfl (by (try simp only [List.map_toArray, List.map_cons, List.map_nil]); first | done | rfl | (simp only [List.length_drop, List.length_take]; rfl)) ?_; (with_reducible refine (ih k (by omega) a0 (wrap64 (a1 + 1)) a2 false _ A17.out).mono ?_); rintro e w' ⟨rfl, ⟨nd, rfl⟩⟩; refine ⟨_, rfl, ?_⟩) | (go_at_call 36; (with_reducible refine (spec_l5End.calls k a0 (wrap64 (a1 + 1)) t113 _ A19.out).mono ?_); rintro e w' ⟨rfl, ⟨nd, rfl⟩⟩) | (go_at_call 25; (with_reducible refine (ih k (by omega) a0 t113 a2 t114 _ A20.out).mono ?_); rintro e w' ⟨rfl, ⟨nd, rfl⟩⟩))
                  go_ret
                  exact ⟨by first | rfl | (simp; done) | (simp [*]; done), by repeat (first | exact Drawn0.refl _ | apply Drawn0.step)⟩
              · rw [if_neg c16] at H
                have c16b0 : ((bt a0 a1) == 124) = false := beq_eq_false_iff_ne.mpr c16
                have c16b1 : ((bt a0 a1) != 124) = true := bne_iff_ne.mpr c16
                by_cases c21 : (bt a0 a1) = 94
                · rw [if_pos c21] at H
                  have c21b0 : ((bt a0 a1) == 94) = true := beq_iff_eq.mpr c21
                  have c21b1 : ((bt a0 a1) != 94) = false := bne_eq_false_iff_eq.mpr c21
                  clear c21
                  replace H := Option.bind_eq_some_iff.mp H
                  obtain ⟨t115, A220, H⟩ := H
                  replace H : ((spec_l5End.f k a0 (wrap64 (a1 + 1))).bind fun t116 => ((spec_l5Value.f k a0 t116 a2).bind fun t117 => (some (t115 != t117)))) = some r := H
                  have A22 := Aside0.mk A220
                  clear A220
                  replace H := Option.bind_eq_some_iff.mp H
                  obtain ⟨t116, A230, H⟩ := H
                  replace H : ((spec_l5Value.f k a0 t116 a2).bind fun t117 => (some (t115 != t117))) = some r := H
                  have A23 := Aside0.mk A230
                  clear A230
                  replace H := Option.bind_eq_some_iff.mp H
                  obtain ⟨t117, A240, H⟩ := H
                  replace H : (some (t115 != t117)) = some r := H
                  have A24 := Aside0.mk A240
                  clear A240
                  obtain rfl := Option.some.inj H
                  have p6 : 0 ≤ (a1 : Int) := of_decide_eq_true (by first | (with_reducible assumption) | assumption)
                  have q6 : a1 < (a0.size : Int) := of_decide_eq_true (by first | (with_reducible assumption) | assumption)
                  have hx6 := bt_at a0 a1
                  have hs_ : 0 ≤ (bt a0 a1 - 97) % 256 := Int.emod_nonneg _ (by decide)
                  have hs0_ : decide (0 ≤ (bt a0 a1 - 97) % 256) = true := decide_eq_true hs_
                  replace p6 := eq_true p6
                  replace q6 := eq_true q6
                  go_enter Try.func25, Try.ntmps25
                  go_wp2_with (first | ((with_reducible refine gate_callee (f := 25) rfl ?_); refine goesL_ (some 60) rfl rfl Try.func25 (by kernel_rfl) rfl #[.string a0, .int .i64 (wrap64 (a1 + 1)), .int .i64 a2] rfl (by (try simp only [List.map_toArray, List.map_cons, List.map_nil]); first | done | rfl | (simp only [List.length_drop, List.length_take]; rfl)) ?_; (with_reducible refine (ih k (by omega) a0 (wrap64 (a1 + 1)) a2 t115 _ A22.out).mono ?_); rintro e w' ⟨rfl, ⟨nd, rfl⟩⟩; refine ⟨_, rfl, ?_⟩) | ((with_reducible refine gate_callee (f := 36) rfl ?_); refine goesL_ (some 65) rfl rfl Try.func36 (by kernel_rfl) rfl #[.string a0, .int .i64 (wrap64 (a1 + 1))] rfl (by (try simp only [List.map_toArray, List.map_cons, List.map_nil]); first | done | rfl | (simp only [List.length_drop, List.length_take]; rfl)) ?_; (with_reducible refine (spec_l5End.calls k a0 (wrap64 (a1 + 1)) t116 _ A23.out).mono ?_); rintro e w' ⟨rfl, ⟨nd, rfl⟩⟩; refine ⟨_, rfl, ?_⟩) | ((with_reducible refine gate_callee (f := 25) rfl ?_); refine goesL_ (some 67) rfl rfl Try.func25 (by kernel_rfl) rfl #[.string a0, .int .i64 t116, .int .i64 a2] rfl (by (try simp only [List.map_toArray, List.map_cons, List.map_nil]); first | done | rfl | (simp only [List.length_drop, List.length_take]; rfl)) ?_; (with_reducible refine (ih k (by omega) a0 t116 a2 t117 _ A24.out).mono ?_); rintro e w' ⟨rfl, ⟨nd, rfl⟩⟩; refine ⟨_, rfl, ?_⟩))
                  go_ret
                  exact ⟨by first | rfl | (simp; done) | (simp [*]; done), by repeat (first | exact Drawn0.refl _ | apply Drawn0.step)⟩
                · rw [if_neg c21] at H
                  have c21b0 : ((bt a0 a1) == 94) = false := beq_eq_false_iff_ne.mpr c21
                  have c21b1 : ((bt a0 a1) != 94) = true := bne_iff_ne.mpr c21
                  obtain ⟨ji26, hji26⟩ : ∃ j_ : Int, (shr .i64 a2 (((bt a0 a1) - 97) % 256)) = j_ := ⟨_, rfl⟩
                  replace H : (some ((Go.bits .and .i64 (ji26) 1) == 1)) = some r := by first | (rw [hji26] at H; exact H) | (simp only [hji26] at H ⊢; exact H)
                  have hji26_ : (a2 / 2 ^ min (((bt a0 a1) - 97) % 256).toNat 64) = ji26 := hji26
                  have hji26z : (((bt a0 a1) - 97) % 256) ≤ 64 → (a2 / 2 ^ (((bt a0 a1) - 97) % 256).toNat) = ji26 := shr_small hji26
                  obtain rfl := Option.some.inj H
                  have p6 : 0 ≤ (a1 : Int) := of_decide_eq_true (by first | (with_reducible assumption) | assumption)
                  have q6 : a1 < (a0.size : Int) := of_decide_eq_true (by first | (with_reducible assumption) | assumption)
                  have hx6 := bt_at a0 a1
                  have hs_ : 0 ≤ (bt a0 a1 - 97) % 256 := Int.emod_nonneg _ (by decide)
                  have hs0_ : decide (0 ≤ (bt a0 a1 - 97) % 256) = true := decide_eq_true hs_
                  replace p6 := eq_true p6
                  replace q6 := eq_true q6
                  have p25 : 0 ≤ (a1 : Int) := of_decide_eq_true (by first | (with_reducible assumption) | assumption)
                  have q25 : a1 < (a0.size : Int) := of_decide_eq_true (by first | (with_reducible assumption) | assumption)
                  have hx25 := bt_at a0 a1
                  have hs_ : 0 ≤ (bt a0 a1 - 97) % 256 := Int.emod_nonneg _ (by decide)
                  have hs0_ : decide (0 ≤ (bt a0 a1 - 97) % 256) = true := decide_eq_true hs_
                  replace p25 := eq_true p25
                  replace q25 := eq_true q25
                  go_enter Try.func25, Try.ntmps25
                  go_wp2
                  go_ret
                  exact ⟨by first | rfl | (simp; done) | (simp only [← hji26] <;> (first | rfl | simp)) | (simp [*]; done), by repeat (first | exact Drawn0.refl _ | apply Drawn0.step)⟩
    · rw [if_neg c5] at H
      exact absurd H (by simp)
  · rw [if_neg c4] at H
    exact absurd H (by simp)

end Go.Proofs.Ytfpcgcmajdebmaa.P
