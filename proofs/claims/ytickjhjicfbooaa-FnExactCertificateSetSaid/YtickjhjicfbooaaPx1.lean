-- Out of the translation, by this session's program over the printer's; Lean checks it.
import Derived.Test.YtickjhjicfbooaaPx0
namespace Go.Proofs.Ytickjhjicfbooaa.P
open Go.RowKit Go.Proofs.YtickjhjicfbooaaW.PrintWords Go.Proofs.YtickjhjicfbooaaW.PrintLast Go.Proofs.YtickjhjicfbooaaW.PrintMore
attribute [local go_sem] max2_int min2_int max_two min_two max_three min_three max_four min_four   -- for this text's walks alone
set_option linter.unusedVariables false
set_option linter.unusedSimpArgs false

/-! ### spec_l1In: function 40 -/
def spec_l1In.f (a0 : Int) (a1 : Int) (a2 : Int) : Option (Bool) := if a0 ≥ a1 then (some (decide (a0 ≤ a2))) else (some false)
set_option maxHeartbeats 8000000 in
set_option maxRecDepth 100000 in
theorem spec_l1In.calls (a0 : Int) (a1 : Int) (a2 : Int) (r : Bool) (w : World) (h : spec_l1In.f a0 a1 a2 = some r) :
    Calls Try.prog 40 #[.int .i64 a0, .int .i64 a1, .int .i64 a2] w fun e w' => e = .returned (.bool r) ∧ Drawn0 w w' := by
  have H : (if a0 ≥ a1 then (some (decide (a0 ≤ a2))) else (some false)) = some r := h
  clear h
  by_cases c4 : a0 ≥ a1
  · rw [if_pos c4] at H
    have c4b0 : decide (a1 ≤ a0) = true := decide_eq_true c4
    clear c4
    obtain rfl := Option.some.inj H
    go_enter Try.func40, Try.ntmps40
    go_wp2
    go_ret
    exact ⟨by first | rfl | (simp; done) | (simp [*]; done), by repeat (first | exact Drawn0.refl _ | apply Drawn0.step)⟩
  · rw [if_neg c4] at H
    have c4b0 : decide (a1 ≤ a0) = false := decide_eq_false c4
    clear c4
    obtain rfl := Option.some.inj H
    go_enter Try.func40, Try.ntmps40
    go_wp2
    go_ret
    exact ⟨by first | rfl | (simp; done) | (simp [*]; done), by repeat (first | exact Drawn0.refl _ | apply Drawn0.step)⟩

/-! ### spec_IsTable: function 49 -/
def spec_IsTable.f (a0_0 : Int) (a0_1 : Int) : Option (Bool) := some (decide (0 ≤ a0_0 ∧ a0_0 ≤ 5 ∧ 0 ≤ a0_1 ∧ a0_1 < 2 ^ 2 ^ a0_0.toNat))
theorem spec_IsTable.l1 (x c : Int) (b : Bool) (h : b = decide (0 ≤ x ∧ x ≤ c)) : spec_l1In.f x 0 c = some b := by
  subst h
  unfold spec_l1In.f
  split
  · rename_i h
    simp [show 0 ≤ x from h]
  · rename_i h
    have : ¬ (0 ≤ x) := h
    simp [this]
set_option maxHeartbeats 8000000 in
set_option maxRecDepth 100000 in
theorem spec_IsTable.calls (a0_0 : Int) (a0_1 : Int) (r : Bool) (w : World) (h : spec_IsTable.f a0_0 a0_1 = some r) :
    Calls Try.prog 49 #[.agg #[.int .i64 a0_0, .int .i64 a0_1]] w fun e w' => e = .returned (.bool r) ∧ Below w.heap.size w w' := by
  have hu := Try.underlying25
  have HB := Aside0.mk (Below.refl w.heap.size w)
  unfold spec_IsTable.f at h
  obtain rfl := Option.some.inj h
  clear h
  by_cases hb : 0 ≤ a0_0 ∧ a0_0 ≤ 5
  · rcases (by omega : a0_0 = 0 ∨ a0_0 = 1 ∨ a0_0 = 2 ∨ a0_0 = 3 ∨ a0_0 = 4 ∨ a0_0 = 5) with rfl | rfl | rfl | rfl | rfl | rfl
    · have A2 := Aside0.mk (spec_IsTable.l1 0 5 true (by decide))
      have A7 := Aside0.mk (spec_IsTable.l1 a0_1 1 (decide ((0 : Int) ≤ 0 ∧ (0 : Int) ≤ 5 ∧ 0 ≤ a0_1 ∧ a0_1 < 2 ^ 2 ^ (0 : Int).toNat)) (decide_eq_decide.mpr ⟨fun h => ⟨h.2.2.1, by have := h.2.2.2; simp at this; omega⟩, fun h => ⟨by omega, by omega, h.1, by have := h.2; simp; omega⟩⟩))
      clear hb
      generalize (decide ((0 : Int) ≤ 0 ∧ (0 : Int) ≤ 5 ∧ 0 ≤ a0_1 ∧ a0_1 < 2 ^ 2 ^ (0 : Int).toNat)) = r at *
      go_enter Try.func49, Try.ntmps49
      go_wp2_with fail
      go_quiet (first | (go_at_call 40; (with_reducible refine (spec_l1In.calls 0 0 5 true _ A2.out).mono ?_); rintro e w' ⟨rfl, ⟨nd, rfl⟩⟩; (try first | exact ⟨rfl, _, World.drewN_drewN _ _ _⟩ | exact ⟨rfl, _, Eq.trans (World.drewN_drewN _ _ _) (congrArg (World.drewN _) (Nat.add_assoc _ _ _))⟩)) | (go_at_call 40; (with_reducible refine (spec_l1In.calls a0_1 0 1 r _ A7.out).mono ?_); rintro e w' ⟨rfl, ⟨nd, rfl⟩⟩; (try first | exact ⟨rfl, _, World.drewN_drewN _ _ _⟩ | exact ⟨rfl, _, Eq.trans (World.drewN_drewN _ _ _) (congrArg (World.drewN _) (Nat.add_assoc _ _ _))⟩)))
      go_wp2
      go_ret
      exact ⟨rfl, by repeat (first | (with_reducible first | exact HB.out | apply below_alloc | apply pw_below_drewN | apply below_drew1) | exact HB.out)⟩
    · have A2 := Aside0.mk (spec_IsTable.l1 1 5 true (by decide))
      have A7 := Aside0.mk (spec_IsTable.l1 a0_1 3 (decide ((0 : Int) ≤ 1 ∧ (1 : Int) ≤ 5 ∧ 0 ≤ a0_1 ∧ a0_1 < 2 ^ 2 ^ (1 : Int).toNat)) (decide_eq_decide.mpr ⟨fun h => ⟨h.2.2.1, by have := h.2.2.2; simp at this; omega⟩, fun h => ⟨by omega, by omega, h.1, by have := h.2; simp; omega⟩⟩))
      clear hb
      generalize (decide ((0 : Int) ≤ 1 ∧ (1 : Int) ≤ 5 ∧ 0 ≤ a0_1 ∧ a0_1 < 2 ^ 2 ^ (1 : Int).toNat)) = r at *
      go_enter Try.func49, Try.ntmps49
      go_wp2_with fail
      go_quiet (first | (go_at_call 40; (with_reducible refine (spec_l1In.calls 1 0 5 true _ A2.out).mono ?_); rintro e w' ⟨rfl, ⟨nd, rfl⟩⟩; (try first | exact ⟨rfl, _, World.drewN_drewN _ _ _⟩ | exact ⟨rfl, _, Eq.trans (World.drewN_drewN _ _ _) (congrArg (World.drewN _) (Nat.add_assoc _ _ _))⟩)) | (go_at_call 40; (with_reducible refine (spec_l1In.calls a0_1 0 3 r _ A7.out).mono ?_); rintro e w' ⟨rfl, ⟨nd, rfl⟩⟩; (try first | exact ⟨rfl, _, World.drewN_drewN _ _ _⟩ | exact ⟨rfl, _, Eq.trans (World.drewN_drewN _ _ _) (congrArg (World.drewN _) (Nat.add_assoc _ _ _))⟩)))
      go_wp2
      go_ret
      exact ⟨rfl, by repeat (first | (with_reducible first | exact HB.out | apply below_alloc | apply pw_below_drewN | apply below_drew1) | exact HB.out)⟩
    · have A2 := Aside0.mk (spec_IsTable.l1 2 5 true (by decide))
      have A7 := Aside0.mk (spec_IsTable.l1 a0_1 15 (decide ((0 : Int) ≤ 2 ∧ (2 : Int) ≤ 5 ∧ 0 ≤ a0_1 ∧ a0_1 < 2 ^ 2 ^ (2 : Int).toNat)) (decide_eq_decide.mpr ⟨fun h => ⟨h.2.2.1, by have := h.2.2.2; simp at this; omega⟩, fun h => ⟨by omega, by omega, h.1, by have := h.2; simp; omega⟩⟩))
      clear hb
      generalize (decide ((0 : Int) ≤ 2 ∧ (2 : Int) ≤ 5 ∧ 0 ≤ a0_1 ∧ a0_1 < 2 ^ 2 ^ (2 : Int).toNat)) = r at *
      go_enter Try.func49, Try.ntmps49
      go_wp2_with fail
      go_quiet (first | (go_at_call 40; (with_reducible refine (spec_l1In.calls 2 0 5 true _ A2.out).mono ?_); rintro e w' ⟨rfl, ⟨nd, rfl⟩⟩; (try first | exact ⟨rfl, _, World.drewN_drewN _ _ _⟩ | exact ⟨rfl, _, Eq.trans (World.drewN_drewN _ _ _) (congrArg (World.drewN _) (Nat.add_assoc _ _ _))⟩)) | (go_at_call 40; (with_reducible refine (spec_l1In.calls a0_1 0 15 r _ A7.out).mono ?_); rintro e w' ⟨rfl, ⟨nd, rfl⟩⟩; (try first | exact ⟨rfl, _, World.drewN_drewN _ _ _⟩ | exact ⟨rfl, _, Eq.trans (World.drewN_drewN _ _ _) (congrArg (World.drewN _) (Nat.add_assoc _ _ _))⟩)))
      go_wp2
      go_ret
      exact ⟨rfl, by repeat (first | (with_reducible first | exact HB.out | apply below_alloc | apply pw_below_drewN | apply below_drew1) | exact HB.out)⟩
    · have A2 := Aside0.mk (spec_IsTable.l1 3 5 true (by decide))
      have A7 := Aside0.mk (spec_IsTable.l1 a0_1 255 (decide ((0 : Int) ≤ 3 ∧ (3 : Int) ≤ 5 ∧ 0 ≤ a0_1 ∧ a0_1 < 2 ^ 2 ^ (3 : Int).toNat)) (decide_eq_decide.mpr ⟨fun h => ⟨h.2.2.1, by have := h.2.2.2; simp at this; omega⟩, fun h => ⟨by omega, by omega, h.1, by have := h.2; simp; omega⟩⟩))
      clear hb
      generalize (decide ((0 : Int) ≤ 3 ∧ (3 : Int) ≤ 5 ∧ 0 ≤ a0_1 ∧ a0_1 < 2 ^ 2 ^ (3 : Int).toNat)) = r at *
      go_enter Try.func49, Try.ntmps49
      go_wp2_with fail
      go_quiet (first | (go_at_call 40; (with_reducible refine (spec_l1In.calls 3 0 5 true _ A2.out).mono ?_); rintro e w' ⟨rfl, ⟨nd, rfl⟩⟩; (try first | exact ⟨rfl, _, World.drewN_drewN _ _ _⟩ | exact ⟨rfl, _, Eq.trans (World.drewN_drewN _ _ _) (congrArg (World.drewN _) (Nat.add_assoc _ _ _))⟩)) | (go_at_call 40; (with_reducible refine (spec_l1In.calls a0_1 0 255 r _ A7.out).mono ?_); rintro e w' ⟨rfl, ⟨nd, rfl⟩⟩; (try first | exact ⟨rfl, _, World.drewN_drewN _ _ _⟩ | exact ⟨rfl, _, Eq.trans (World.drewN_drewN _ _ _) (congrArg (World.drewN _) (Nat.add_assoc _ _ _))⟩)))
      go_wp2
      go_ret
      exact ⟨rfl, by repeat (first | (with_reducible first | exact HB.out | apply below_alloc | apply pw_below_drewN | apply below_drew1) | exact HB.out)⟩
    · have A2 := Aside0.mk (spec_IsTable.l1 4 5 true (by decide))
      have A7 := Aside0.mk (spec_IsTable.l1 a0_1 65535 (decide ((0 : Int) ≤ 4 ∧ (4 : Int) ≤ 5 ∧ 0 ≤ a0_1 ∧ a0_1 < 2 ^ 2 ^ (4 : Int).toNat)) (decide_eq_decide.mpr ⟨fun h => ⟨h.2.2.1, by have := h.2.2.2; simp at this; omega⟩, fun h => ⟨by omega, by omega, h.1, by have := h.2; simp; omega⟩⟩))
      clear hb
      generalize (decide ((0 : Int) ≤ 4 ∧ (4 : Int) ≤ 5 ∧ 0 ≤ a0_1 ∧ a0_1 < 2 ^ 2 ^ (4 : Int).toNat)) = r at *
      go_enter Try.func49, Try.ntmps49
      go_wp2_with fail
      go_quiet (first | (go_at_call 40; (with_reducible refine (spec_l1In.calls 4 0 5 true _ A2.out).mono ?_); rintro e w' ⟨rfl, ⟨nd, rfl⟩⟩; (try first | exact ⟨rfl, _, World.drewN_drewN _ _ _⟩ | exact ⟨rfl, _, Eq.trans (World.drewN_drewN _ _ _) (congrArg (World.drewN _) (Nat.add_assoc _ _ _))⟩)) | (go_at_call 40; (with_reducible refine (spec_l1In.calls a0_1 0 65535 r _ A7.out).mono ?_); rintro e w' ⟨rfl, ⟨nd, rfl⟩⟩; (try first | exact ⟨rfl, _, World.drewN_drewN _ _ _⟩ | exact ⟨rfl, _, Eq.trans (World.drewN_drewN _ _ _) (congrArg (World.drewN _) (Nat.add_assoc _ _ _))⟩)))
      go_wp2
      go_ret
      exact ⟨rfl, by repeat (first | (with_reducible first | exact HB.out | apply below_alloc | apply pw_below_drewN | apply below_drew1) | exact HB.out)⟩
    · have A2 := Aside0.mk (spec_IsTable.l1 5 5 true (by decide))
      have A7 := Aside0.mk (spec_IsTable.l1 a0_1 4294967295 (decide ((0 : Int) ≤ 5 ∧ (5 : Int) ≤ 5 ∧ 0 ≤ a0_1 ∧ a0_1 < 2 ^ 2 ^ (5 : Int).toNat)) (decide_eq_decide.mpr ⟨fun h => ⟨h.2.2.1, by have := h.2.2.2; simp at this; omega⟩, fun h => ⟨by omega, by omega, h.1, by have := h.2; simp; omega⟩⟩))
      clear hb
      generalize (decide ((0 : Int) ≤ 5 ∧ (5 : Int) ≤ 5 ∧ 0 ≤ a0_1 ∧ a0_1 < 2 ^ 2 ^ (5 : Int).toNat)) = r at *
      go_enter Try.func49, Try.ntmps49
      go_wp2_with fail
      go_quiet (first | (go_at_call 40; (with_reducible refine (spec_l1In.calls 5 0 5 true _ A2.out).mono ?_); rintro e w' ⟨rfl, ⟨nd, rfl⟩⟩; (try first | exact ⟨rfl, _, World.drewN_drewN _ _ _⟩ | exact ⟨rfl, _, Eq.trans (World.drewN_drewN _ _ _) (congrArg (World.drewN _) (Nat.add_assoc _ _ _))⟩)) | (go_at_call 40; (with_reducible refine (spec_l1In.calls a0_1 0 4294967295 r _ A7.out).mono ?_); rintro e w' ⟨rfl, ⟨nd, rfl⟩⟩; (try first | exact ⟨rfl, _, World.drewN_drewN _ _ _⟩ | exact ⟨rfl, _, Eq.trans (World.drewN_drewN _ _ _) (congrArg (World.drewN _) (Nat.add_assoc _ _ _))⟩)))
      go_wp2
      go_ret
      exact ⟨rfl, by repeat (first | (with_reducible first | exact HB.out | apply below_alloc | apply pw_below_drewN | apply below_drew1) | exact HB.out)⟩
  · have A2 := Aside0.mk (spec_IsTable.l1 a0_0 5 false (by rw [decide_eq_false hb]))
    have e : (decide (0 ≤ a0_0 ∧ a0_0 ≤ 5 ∧ 0 ≤ a0_1 ∧ a0_1 < 2 ^ 2 ^ a0_0.toNat)) = false := decide_eq_false fun h => hb ⟨h.1, h.2.1⟩
    rw [e]
    clear hb e
    go_enter Try.func49, Try.ntmps49
    go_wp2_with fail
    go_quiet (first | (go_at_call 40; (with_reducible refine (spec_l1In.calls a0_0 0 5 false _ A2.out).mono ?_); rintro e w' ⟨rfl, ⟨nd, rfl⟩⟩; (try first | exact ⟨rfl, _, World.drewN_drewN _ _ _⟩ | exact ⟨rfl, _, Eq.trans (World.drewN_drewN _ _ _) (congrArg (World.drewN _) (Nat.add_assoc _ _ _))⟩)))
    go_wp2
    go_ret
    exact ⟨rfl, by repeat (first | (with_reducible first | exact HB.out | apply below_alloc | apply pw_below_drewN | apply below_drew1) | exact HB.out)⟩

/-! ### spec_l9In: function 39 -/
def spec_l9In.f (a0_0 : Int) (a0_1 : Int) (a1 : Int) : Option (Bool) := (spec_IsTable.f a0_0 a0_1).bind fun t142 => (if t142 = true then (if 0 ≤ a0_0 then ((spec_l1In.f a1 0 (wrap64 ((shl .i64 1 a0_0) - 1))).bind fun t143 => (some t143)) else (none)) else (some false))
set_option maxHeartbeats 8000000 in
set_option maxRecDepth 100000 in
theorem spec_l9In.calls (a0_0 : Int) (a0_1 : Int) (a1 : Int) (r : Bool) (w : World) (h : spec_l9In.f a0_0 a0_1 a1 = some r) :
    Calls Try.prog 39 #[.agg #[.int .i64 a0_0, .int .i64 a0_1], .int .i64 a1] w fun e w' => e = .returned (.bool r) ∧ Below w.heap.size w w' := by
  have hu25 := Try.underlying25
  have HB := Aside0.mk (Below.refl w.heap.size w)
  have H : ((spec_IsTable.f a0_0 a0_1).bind fun t142 => (if t142 = true then (if 0 ≤ a0_0 then ((spec_l1In.f a1 0 (wrap64 ((shl .i64 1 a0_0) - 1))).bind fun t143 => (some t143)) else (none)) else (some false))) = some r := h
  clear h
  replace H := Option.bind_eq_some_iff.mp H
  obtain ⟨t142, A30, H⟩ := H
  replace H : (if t142 = true then (if 0 ≤ a0_0 then ((spec_l1In.f a1 0 (wrap64 ((shl .i64 1 a0_0) - 1))).bind fun t143 => (some t143)) else (none)) else (some false)) = some r := H
  have A3 := Aside0.mk A30
  clear A30
  by_cases c4 : t142 = true
  · subst c4
    have H1 : (if 0 ≤ a0_0 then ((spec_l1In.f a1 0 (wrap64 ((shl .i64 1 a0_0) - 1))).bind fun t143 => (some t143)) else (none)) = some r := by rw [if_pos rfl] at H; exact H
    clear H
    have H := H1
    clear H1
    by_cases c5 : 0 ≤ a0_0
    · rw [if_pos c5] at H
      have c5b0 := eq_true c5
      have c5b1 : decide (0 ≤ a0_0) = true := decide_eq_true c5
      clear c5
      obtain ⟨ji6, hji6⟩ : ∃ j_ : Int, (shl .i64 1 a0_0) = j_ := ⟨_, rfl⟩
      replace H : ((spec_l1In.f a1 0 (wrap64 ((ji6) - 1))).bind fun t143 => (some t143)) = some r := by first | (rw [hji6] at H; exact H) | (simp only [hji6] at H ⊢; exact H)
      (try rw [hji6] at A3)
      have hji6_ : (IntKind.i64.wrap (1 * 2 ^ min a0_0.toNat 64)) = ji6 := hji6
      have hji6z : a0_0 ≤ 64 → (IntKind.i64.wrap (1 * 2 ^ a0_0.toNat)) = ji6 := shl_small hji6
      have hji6u : (IntKind.i64.wrap (2 ^ min a0_0.toNat 64)) = ji6 := by have h_ := hji6_; rw [Int.one_mul] at h_; exact h_
      have hji6v : a0_0 ≤ 64 → (IntKind.i64.wrap (2 ^ a0_0.toNat)) = ji6 := fun hle_ => by have h_ := hji6z hle_; rw [Int.one_mul] at h_; exact h_
      have hji6y : (wrap64 (1 * 2 ^ min a0_0.toNat 64)) = ji6 := (i64_w _).symm.trans hji6_
      have hji6x : a0_0 ≤ 64 → (wrap64 (1 * 2 ^ a0_0.toNat)) = ji6 := fun h_ => (i64_w _).symm.trans (hji6z h_)
      replace H := Option.bind_eq_some_iff.mp H
      obtain ⟨t143, A70, H⟩ := H
      replace H : (some t143) = some r := H
      have A7 := Aside0.mk A70
      clear A70
      obtain rfl := Option.some.inj H
      go_enter Try.func39, Try.ntmps39
      go_wp2_with (first | ((with_reducible refine gate_dst (N := 2) rfl ?_); refine box_event ?hg (N := 2) ?hd (cs := #[.int .i64 a0_0, .int .i64 a0_1]) (t := 25) ?hr ?_; (case hd => rfl); (case hg => rfl); (case hr => first | (go_simp; done) | (go_simp; rfl)); intro gb141 hg w8 hbox hb; have n0_ := Aside0.mk (below_step (by repeat (first | (with_reducible first | exact HB.out | apply below_alloc | apply pw_below_drewN | apply below_drew1) | exact HB.out)) hb); have n1_ := Aside0.mk (hbox); have n2_ := Aside0.mk ((by rw [hg]; exact (below_size (by repeat (first | (with_reducible first | exact HB.out | apply below_alloc | apply pw_below_drewN | apply below_drew1) | exact HB.out))) : w.heap.size ≤ gb141)); have n3_ := Aside0.mk ((by rw [hg]; exact (below_size (by repeat (first | (with_reducible first | exact HB.out | apply below_alloc | apply pw_below_drewN | apply below_drew1) | exact HB.out))) : w.heap.size ≤ gb141)); clear HB; have HB := n0_; have BK141 := n1_; have GW141 := n2_; have GE141 := n3_; clear n0_ n1_ n2_ n3_; clear hb hbox hg; have hcz9_0 : w8.cell? ⟨gb141, 0, none⟩ = some (.int .i64 a0_0) := (blk_cell BK141.out 0).trans rfl; have hcz9_1 : w8.cell? ⟨gb141, 1, none⟩ = some (.int .i64 a0_1) := (blk_cell BK141.out 1).trans rfl; have hfz9_0 := blk_frozen BK141.out 0; have hfz9_1 := blk_frozen BK141.out 1) | ((with_reducible refine gate_callee (f := 49) rfl ?_); refine goesL_ (some 6) rfl rfl Try.func49 (by kernel_rfl) rfl #[.agg #[.int .i64 a0_0, .int .i64 a0_1]] rfl (by (try simp only [List.map_toArray, List.map_cons, List.map_nil]); first | done | rfl | (simp only [List.length_drop, List.length_take]; rfl)) ?_; (with_reducible refine (spec_IsTable.calls a0_0 a0_1 true _ A3.out).mono ?_); rintro e w10 ⟨rfl, hb⟩; refine ⟨_, rfl, ?_⟩; have n0_ := Aside0.mk (blk_below (g := gb141) (o := .cells #[.int .i64 a0_0, .int .i64 a0_1] 25 (0, 0)) (by (with_reducible repeat (first | refine blk_drewN ?_ _ | refine blk_drew ?_ | refine blk_alloc ?_ _)); exact BK141.out) hb); have n1_ := Aside0.mk (below_step (by repeat (first | (with_reducible first | exact HB.out | apply below_alloc | apply pw_below_drewN | apply below_drew1 | refine below_set ?_ GE141.out) | exact HB.out)) hb); clear BK141; clear HB; have BK141 := n0_; have HB := n1_; clear n0_ n1_; (try clear hb); (try clear hb2); (try clear hk); (try clear hi); have hcz11_0 : w10.cell? ⟨gb141, 0, none⟩ = some (.int .i64 a0_0) := (blk_cell BK141.out 0).trans rfl; have hcz11_1 : w10.cell? ⟨gb141, 1, none⟩ = some (.int .i64 a0_1) := (blk_cell BK141.out 1).trans rfl; have hfz11_0 := blk_frozen BK141.out 0; have hfz11_1 := blk_frozen BK141.out 1) | (go_at_call 40; (with_reducible refine (spec_l1In.calls a1 0 (wrap64 ((ji6) - 1)) t143 _ A7.out).mono ?_); rintro e w' ⟨rfl, ⟨nd, rfl⟩⟩))
      go_ret
      exact ⟨by first | rfl | (simp [errW_none, errW_some] <;> rfl) | (simp only [← hji6]; first | rfl | (simp [errW_none, errW_some] <;> rfl)) | (simp [*, errW_none, errW_some] <;> rfl), by repeat (first | (with_reducible first | exact HB.out | apply below_alloc | apply pw_below_drewN | apply below_drew1 | refine below_set ?_ GE141.out) | exact HB.out)⟩
    · rw [if_neg c5] at H
      exact absurd H (by simp)
  · replace c4 := Bool.eq_false_iff.mpr c4
    subst c4
    have H1 : (some false) = some r := by rw [if_neg (show ¬ (false = true) by decide)] at H; exact H
    clear H
    have H := H1
    clear H1
    obtain rfl := Option.some.inj H
    go_enter Try.func39, Try.ntmps39
    go_wp2_with (first | ((with_reducible refine gate_dst (N := 2) rfl ?_); refine box_event ?hg (N := 2) ?hd (cs := #[.int .i64 a0_0, .int .i64 a0_1]) (t := 25) ?hr ?_; (case hd => rfl); (case hg => rfl); (case hr => first | (go_simp; done) | (go_simp; rfl)); intro gb141 hg w12 hbox hb; have n0_ := Aside0.mk (below_step (by repeat (first | (with_reducible first | exact HB.out | apply below_alloc | apply pw_below_drewN | apply below_drew1) | exact HB.out)) hb); have n1_ := Aside0.mk (hbox); have n2_ := Aside0.mk ((by rw [hg]; exact (below_size (by repeat (first | (with_reducible first | exact HB.out | apply below_alloc | apply pw_below_drewN | apply below_drew1) | exact HB.out))) : w.heap.size ≤ gb141)); have n3_ := Aside0.mk ((by rw [hg]; exact (below_size (by repeat (first | (with_reducible first | exact HB.out | apply below_alloc | apply pw_below_drewN | apply below_drew1) | exact HB.out))) : w.heap.size ≤ gb141)); clear HB; have HB := n0_; have BK141 := n1_; have GW141 := n2_; have GE141 := n3_; clear n0_ n1_ n2_ n3_; clear hb hbox hg; have hcz13_0 : w12.cell? ⟨gb141, 0, none⟩ = some (.int .i64 a0_0) := (blk_cell BK141.out 0).trans rfl; have hcz13_1 : w12.cell? ⟨gb141, 1, none⟩ = some (.int .i64 a0_1) := (blk_cell BK141.out 1).trans rfl; have hfz13_0 := blk_frozen BK141.out 0; have hfz13_1 := blk_frozen BK141.out 1) | ((with_reducible refine gate_callee (f := 49) rfl ?_); refine goesL_ (some 6) rfl rfl Try.func49 (by kernel_rfl) rfl #[.agg #[.int .i64 a0_0, .int .i64 a0_1]] rfl (by (try simp only [List.map_toArray, List.map_cons, List.map_nil]); first | done | rfl | (simp only [List.length_drop, List.length_take]; rfl)) ?_; (with_reducible refine (spec_IsTable.calls a0_0 a0_1 false _ A3.out).mono ?_); rintro e w14 ⟨rfl, hb⟩; refine ⟨_, rfl, ?_⟩; have n0_ := Aside0.mk (blk_below (g := gb141) (o := .cells #[.int .i64 a0_0, .int .i64 a0_1] 25 (0, 0)) (by (with_reducible repeat (first | refine blk_drewN ?_ _ | refine blk_drew ?_ | refine blk_alloc ?_ _)); exact BK141.out) hb); have n1_ := Aside0.mk (below_step (by repeat (first | (with_reducible first | exact HB.out | apply below_alloc | apply pw_below_drewN | apply below_drew1 | refine below_set ?_ GE141.out) | exact HB.out)) hb); clear BK141; clear HB; have BK141 := n0_; have HB := n1_; clear n0_ n1_; (try clear hb); (try clear hb2); (try clear hk); (try clear hi)))
    go_ret
    exact ⟨by first | rfl | (simp [errW_none, errW_some] <;> rfl) | (simp [*, errW_none, errW_some] <;> rfl), by repeat (first | (with_reducible first | exact HB.out | apply below_alloc | apply pw_below_drewN | apply below_drew1 | refine below_set ?_ GE141.out) | exact HB.out)⟩

end Go.Proofs.Ytickjhjicfbooaa.P
