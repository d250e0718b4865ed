-- Out of the translation, by this session's program over the printer's; Lean checks it.
import Derived.Test.YtoacgiccpndbmaaPx0
namespace Go.Proofs.Ytoacgiccpndbmaa.P
open Go.RowKit Go.Proofs.YtoacgiccpndbmaaW.PrintWords Go.Proofs.YtoacgiccpndbmaaW.PrintLast Go.Proofs.YtoacgiccpndbmaaW.PrintMore
attribute [local go_sem] max2_int min2_int max_two min_two max_three min_three max_four min_four   -- for this text's walks alone
set_option linter.unusedVariables false
set_option linter.unusedSimpArgs false

/-! ### spec_l1In: function 64 -/
def spec_l1In.f (a0 : Int) (a1 : Int) (a2 : Int) : Option (Bool) := if a0 ≥ a1 then (some (decide (a0 ≤ a2))) else (some false)
set_option maxHeartbeats 8000000 in
set_option maxRecDepth 100000 in
theorem spec_l1In.calls (a0 : Int) (a1 : Int) (a2 : Int) (r : Bool) (w : World) (h : spec_l1In.f a0 a1 a2 = some r) :
    Calls Try.prog 64 #[.int .i64 a0, .int .i64 a1, .int .i64 a2] w fun e w' => e = .returned (.bool r) ∧ Drawn0 w w' := by
  have H : (if a0 ≥ a1 then (some (decide (a0 ≤ a2))) else (some false)) = some r := h
  clear h
  by_cases c4 : a0 ≥ a1
  · rw [if_pos c4] at H
    have c4b0 : decide (a1 ≤ a0) = true := decide_eq_true c4
    clear c4
    obtain rfl := Option.some.inj H
    go_enter Try.func64, Try.ntmps64
    go_wp2
    go_ret
    exact ⟨by first | rfl | (simp; done) | (simp [*]; done), by repeat (first | exact Drawn0.refl _ | apply Drawn0.step)⟩
  · rw [if_neg c4] at H
    have c4b0 : decide (a1 ≤ a0) = false := decide_eq_false c4
    clear c4
    obtain rfl := Option.some.inj H
    go_enter Try.func64, Try.ntmps64
    go_wp2
    go_ret
    exact ⟨by first | rfl | (simp; done) | (simp [*]; done), by repeat (first | exact Drawn0.refl _ | apply Drawn0.step)⟩

/-! ### spec_IsTable: function 45 -/
def spec_IsTable.f (a0_0 : Int) (a0_1 : Int) : Option (Bool) := some (decide (0 ≤ a0_0 ∧ a0_0 ≤ 5 ∧ 0 ≤ a0_1 ∧ a0_1 < 2 ^ 2 ^ a0_0.toNat))
theorem spec_IsTable.l1 (x c : Int) (b : Bool) (h : b = decide (0 ≤ x ∧ x ≤ c)) : spec_l1In.f x 0 c = some b := by
  subst h
  unfold spec_l1In.f
  split
  · rename_i h
    simp [show 0 ≤ x from h]
  · rename_i h
    have : ¬ (0 ≤ x) := h
    simp [this]
set_option maxHeartbeats 8000000 in
set_option maxRecDepth 100000 in
theorem spec_IsTable.calls (a0_0 : Int) (a0_1 : Int) (r : Bool) (w : World) (h : spec_IsTable.f a0_0 a0_1 = some r) :
    Calls Try.prog 45 #[.agg #[.int .i64 a0_0, .int .i64 a0_1]] w fun e w' => e = .returned (.bool r) ∧ Below w.heap.size w w' := by
  have hu := Try.underlying25
  have HB := Aside0.mk (Below.refl w.heap.size w)
  unfold spec_IsTable.f at h
  obtain rfl := Option.some.inj h
  clear h
  by_cases hb : 0 ≤ a0_0 ∧ a0_0 ≤ 5
  · rcases (by omega : a0_0 = 0 ∨ a0_0 = 1 ∨ a0_0 = 2 ∨ a0_0 = 3 ∨ a0_0 = 4 ∨ a0_0 = 5) with rfl | rfl | rfl | rfl | rfl | rfl
    · have A2 := Aside0.mk (spec_IsTable.l1 0 5 true (by decide))
      have A7 := Aside0.mk (spec_IsTable.l1 a0_1 1 (decide ((0 : Int) ≤ 0 ∧ (0 : Int) ≤ 5 ∧ 0 ≤ a0_1 ∧ a0_1 < 2 ^ 2 ^ (0 : Int).toNat)) (decide_eq_decide.mpr ⟨fun h => ⟨h.2.2.1, by have := h.2.2.2; simp at this; omega⟩, fun h => ⟨by omega, by omega, h.1, by have := h.2; simp; omega⟩⟩))
      clear hb
      generalize (decide ((0 : Int) ≤ 0 ∧ (0 : Int) ≤ 5 ∧ 0 ≤ a0_1 ∧ a0_1 < 2 ^ 2 ^ (0 : Int).toNat)) = r at *
      go_enter Try.func45, Try.ntmps45
      go_wp2_with fail
      go_quiet (first | (go_at_call 64; (with_reducible refine (spec_l1In.calls 0 0 5 true _ A2.out).mono ?_); rintro e w' ⟨rfl, ⟨nd, rfl⟩⟩; (try first | exact ⟨rfl, _, World.drewN_drewN _ _ _⟩ | exact ⟨rfl, _, Eq.trans (World.drewN_drewN _ _ _) (congrArg (World.drewN _) (Nat.add_assoc _ _ _))⟩)) | (go_at_call 64; (with_reducible refine (spec_l1In.calls a0_1 0 1 r _ A7.out).mono ?_); rintro e w' ⟨rfl, ⟨nd, rfl⟩⟩; (try first | exact ⟨rfl, _, World.drewN_drewN _ _ _⟩ | exact ⟨rfl, _, Eq.trans (World.drewN_drewN _ _ _) (congrArg (World.drewN _) (Nat.add_assoc _ _ _))⟩)))
      go_wp2
      go_ret
      exact ⟨rfl, by repeat (first | (with_reducible first | exact HB.out | apply below_alloc | apply pw_below_drewN | apply below_drew1) | exact HB.out)⟩
    · have A2 := Aside0.mk (spec_IsTable.l1 1 5 true (by decide))
      have A7 := Aside0.mk (spec_IsTable.l1 a0_1 3 (decide ((0 : Int) ≤ 1 ∧ (1 : Int) ≤ 5 ∧ 0 ≤ a0_1 ∧ a0_1 < 2 ^ 2 ^ (1 : Int).toNat)) (decide_eq_decide.mpr ⟨fun h => ⟨h.2.2.1, by have := h.2.2.2; simp at this; omega⟩, fun h => ⟨by omega, by omega, h.1, by have := h.2; simp; omega⟩⟩))
      clear hb
      generalize (decide ((0 : Int) ≤ 1 ∧ (1 : Int) ≤ 5 ∧ 0 ≤ a0_1 ∧ a0_1 < 2 ^ 2 ^ (1 : Int).toNat)) = r at *
      go_enter Try.func45, Try.ntmps45
      go_wp2_with fail
      go_quiet (first | (go_at_call 64; (with_reducible refine (spec_l1In.calls 1 0 5 true _ A2.out).mono ?_); rintro e w' ⟨rfl, ⟨nd, rfl⟩⟩; (try first | exact ⟨rfl, _, World.drewN_drewN _ _ _⟩ | exact ⟨rfl, _, Eq.trans (World.drewN_drewN _ _ _) (congrArg (World.drewN _) (Nat.add_assoc _ _ _))⟩)) | (go_at_call 64; (with_reducible refine (spec_l1In.calls a0_1 0 3 r _ A7.out).mono ?_); rintro e w' ⟨rfl, ⟨nd, rfl⟩⟩; (try first | exact ⟨rfl, _, World.drewN_drewN _ _ _⟩ | exact ⟨rfl, _, Eq.trans (World.drewN_drewN _ _ _) (congrArg (World.drewN _) (Nat.add_assoc _ _ _))⟩)))
      go_wp2
      go_ret
      exact ⟨rfl, by repeat (first | (with_reducible first | exact HB.out | apply below_alloc | apply pw_below_drewN | apply below_drew1) | exact HB.out)⟩
    · have A2 := Aside0.mk (spec_IsTable.l1 2 5 true (by decide))
      have A7 := Aside0.mk (spec_IsTable.l1 a0_1 15 (decide ((0 : Int) ≤ 2 ∧ (2 : Int) ≤ 5 ∧ 0 ≤ a0_1 ∧ a0_1 < 2 ^ 2 ^ (2 : Int).toNat)) (decide_eq_decide.mpr ⟨fun h => ⟨h.2.2.1, by have := h.2.2.2; simp at this; omega⟩, fun h => ⟨by omega, by omega, h.1, by have := h.2; simp; omega⟩⟩))
      clear hb
      generalize (decide ((0 : Int) ≤ 2 ∧ (2 : Int) ≤ 5 ∧ 0 ≤ a0_1 ∧ a0_1 < 2 ^ 2 ^ (2 : Int).toNat)) = r at *
      go_enter Try.func45, Try.ntmps45
      go_wp2_with fail
      go_quiet (first | (go_at_call 64; (with_reducible refine (spec_l1In.calls 2 0 5 true _ A2.out).mono ?_); rintro e w' ⟨rfl, ⟨nd, rfl⟩⟩; (try first | exact ⟨rfl, _, World.drewN_drewN _ _ _⟩ | exact ⟨rfl, _, Eq.trans (World.drewN_drewN _ _ _) (congrArg (World.drewN _) (Nat.add_assoc _ _ _))⟩)) | (go_at_call 64; (with_reducible refine (spec_l1In.calls a0_1 0 15 r _ A7.out).mono ?_); rintro e w' ⟨rfl, ⟨nd, rfl⟩⟩; (try first | exact ⟨rfl, _, World.drewN_drewN _ _ _⟩ | exact ⟨rfl, _, Eq.trans (World.drewN_drewN _ _ _) (congrArg (World.drewN _) (Nat.add_assoc _ _ _))⟩)))
      go_wp2
      go_ret
      exact ⟨rfl, by repeat (first | (with_reducible first | exact HB.out | apply below_alloc | apply pw_below_drewN | apply below_drew1) | exact HB.out)⟩
    · have A2 := Aside0.mk (spec_IsTable.l1 3 5 true (by decide))
      have A7 := Aside0.mk (spec_IsTable.l1 a0_1 255 (decide ((0 : Int) ≤ 3 ∧ (3 : Int) ≤ 5 ∧ 0 ≤ a0_1 ∧ a0_1 < 2 ^ 2 ^ (3 : Int).toNat)) (decide_eq_decide.mpr ⟨fun h => ⟨h.2.2.1, by have := h.2.2.2; simp at this; omega⟩, fun h => ⟨by omega, by omega, h.1, by have := h.2; simp; omega⟩⟩))
      clear hb
      generalize (decide ((0 : Int) ≤ 3 ∧ (3 : Int) ≤ 5 ∧ 0 ≤ a0_1 ∧ a0_1 < 2 ^ 2 ^ (3 : Int).toNat)) = r at *
      go_enter Try.func45, Try.ntmps45
      go_wp2_with fail
      go_quiet (first | (go_at_call 64; (with_reducible refine (spec_l1In.calls 3 0 5 true _ A2.out).mono ?_); rintro e w' ⟨rfl, ⟨nd, rfl⟩⟩; (try first | exact ⟨rfl, _, World.drewN_drewN _ _ _⟩ | exact ⟨rfl, _, Eq.trans (World.drewN_drewN _ _ _) (congrArg (World.drewN _) (Nat.add_assoc _ _ _))⟩)) | (go_at_call 64; (with_reducible refine (spec_l1In.calls a0_1 0 255 r _ A7.out).mono ?_); rintro e w' ⟨rfl, ⟨nd, rfl⟩⟩; (try first | exact ⟨rfl, _, World.drewN_drewN _ _ _⟩ | exact ⟨rfl, _, Eq.trans (World.drewN_drewN _ _ _) (congrArg (World.drewN _) (Nat.add_assoc _ _ _))⟩)))
      go_wp2
      go_ret
      exact ⟨rfl, by repeat (first | (with_reducible first | exact HB.out | apply below_alloc | apply pw_below_drewN | apply below_drew1) | exact HB.out)⟩
    · have A2 := Aside0.mk (spec_IsTable.l1 4 5 true (by decide))
      have A7 := Aside0.mk (spec_IsTable.l1 a0_1 65535 (decide ((0 : Int) ≤ 4 ∧ (4 : Int) ≤ 5 ∧ 0 ≤ a0_1 ∧ a0_1 < 2 ^ 2 ^ (4 : Int).toNat)) (decide_eq_decide.mpr ⟨fun h => ⟨h.2.2.1, by have := h.2.2.2; simp at this; omega⟩, fun h => ⟨by omega, by omega, h.1, by have := h.2; simp; omega⟩⟩))
      clear hb
      generalize (decide ((0 : Int) ≤ 4 ∧ (4 : Int) ≤ 5 ∧ 0 ≤ a0_1 ∧ a0_1 < 2 ^ 2 ^ (4 : Int).toNat)) = r at *
      go_enter Try.func45, Try.ntmps45
      go_wp2_with fail
      go_quiet (first | (go_at_call 64; (with_reducible refine (spec_l1In.calls 4 0 5 true _ A2.out).mono ?_); rintro e w' ⟨rfl, ⟨nd, rfl⟩⟩; (try first | exact ⟨rfl, _, World.drewN_drewN _ _ _⟩ | exact ⟨rfl, _, Eq.trans (World.drewN_drewN _ _ _) (congrArg (World.drewN _) (Nat.add_assoc _ _ _))⟩)) | (go_at_call 64; (with_reducible refine (spec_l1In.calls a0_1 0 65535 r _ A7.out).mono ?_); rintro e w' ⟨rfl, ⟨nd, rfl⟩⟩; (try first | exact ⟨rfl, _, World.drewN_drewN _ _ _⟩ | exact ⟨rfl, _, Eq.trans (World.drewN_drewN _ _ _) (congrArg (World.drewN _) (Nat.add_assoc _ _ _))⟩)))
      go_wp2
      go_ret
      exact ⟨rfl, by repeat (first | (with_reducible first | exact HB.out | apply below_alloc | apply pw_below_drewN | apply below_drew1) | exact HB.out)⟩
    · have A2 := Aside0.mk (spec_IsTable.l1 5 5 true (by decide))
      have A7 := Aside0.mk (spec_IsTable.l1 a0_1 4294967295 (decide ((0 : Int) ≤ 5 ∧ (5 : Int) ≤ 5 ∧ 0 ≤ a0_1 ∧ a0_1 < 2 ^ 2 ^ (5 : Int).toNat)) (decide_eq_decide.mpr ⟨fun h => ⟨h.2.2.1, by have := h.2.2.2; simp at this; omega⟩, fun h => ⟨by omega, by omega, h.1, by have := h.2; simp; omega⟩⟩))
      clear hb
      generalize (decide ((0 : Int) ≤ 5 ∧ (5 : Int) ≤ 5 ∧ 0 ≤ a0_1 ∧ a0_1 < 2 ^ 2 ^ (5 : Int).toNat)) = r at *
      go_enter Try.func45, Try.ntmps45
      go_wp2_with fail
      go_quiet (first | (go_at_call 64; (with_reducible refine (spec_l1In.calls 5 0 5 true _ A2.out).mono ?_); rintro e w' ⟨rfl, ⟨nd, rfl⟩⟩; (try first | exact ⟨rfl, _, World.drewN_drewN _ _ _⟩ | exact ⟨rfl, _, Eq.trans (World.drewN_drewN _ _ _) (congrArg (World.drewN _) (Nat.add_assoc _ _ _))⟩)) | (go_at_call 64; (with_reducible refine (spec_l1In.calls a0_1 0 4294967295 r _ A7.out).mono ?_); rintro e w' ⟨rfl, ⟨nd, rfl⟩⟩; (try first | exact ⟨rfl, _, World.drewN_drewN _ _ _⟩ | exact ⟨rfl, _, Eq.trans (World.drewN_drewN _ _ _) (congrArg (World.drewN _) (Nat.add_assoc _ _ _))⟩)))
      go_wp2
      go_ret
      exact ⟨rfl, by repeat (first | (with_reducible first | exact HB.out | apply below_alloc | apply pw_below_drewN | apply below_drew1) | exact HB.out)⟩
  · have A2 := Aside0.mk (spec_IsTable.l1 a0_0 5 false (by rw [decide_eq_false hb]))
    have e : (decide (0 ≤ a0_0 ∧ a0_0 ≤ 5 ∧ 0 ≤ a0_1 ∧ a0_1 < 2 ^ 2 ^ a0_0.toNat)) = false := decide_eq_false fun h => hb ⟨h.1, h.2.1⟩
    rw [e]
    clear hb e
    go_enter Try.func45, Try.ntmps45
    go_wp2_with fail
    go_quiet (first | (go_at_call 64; (with_reducible refine (spec_l1In.calls a0_0 0 5 false _ A2.out).mono ?_); rintro e w' ⟨rfl, ⟨nd, rfl⟩⟩; (try first | exact ⟨rfl, _, World.drewN_drewN _ _ _⟩ | exact ⟨rfl, _, Eq.trans (World.drewN_drewN _ _ _) (congrArg (World.drewN _) (Nat.add_assoc _ _ _))⟩)))
    go_wp2
    go_ret
    exact ⟨rfl, by repeat (first | (with_reducible first | exact HB.out | apply below_alloc | apply pw_below_drewN | apply below_drew1) | exact HB.out)⟩

end Go.Proofs.Ytoacgiccpndbmaa.P
