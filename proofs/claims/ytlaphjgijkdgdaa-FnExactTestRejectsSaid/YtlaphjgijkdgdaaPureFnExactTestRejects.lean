/- What the law FnExactTestRejects comes to, over numbers and lists alone: at every input both sides tell the same. No conditions but the kinds of the numbers. -/
import Derived.Test.YtlaphjgijkdgdaaMath
import Derived.Test.YtlaphjgijkdgdaaRej
import Derived.Test.YtlaphjgijkdgdaaPx1
import Derived.Test.YtlaphjgijkdgdaaPx3
import Derived.Test.YtlaphjgijkdgdaaPx4
import Derived.Test.YtlaphjgijkdgdaaPx5
import Derived.Test.YtlaphjgijkdgdaaPx6
import Derived.Test.YtlaphjgijkdgdaaPx7
namespace Go.Proofs.Ytlaphjgijkdgdaa.Pure
open Go.RowKit Go.Proofs.Ytlaphjgijkdgdaa.P Go.Proofs.YtlaphjgijkdgdaaW.PrintWords Go.Proofs.YtlaphjgijkdgdaaW.PrintLast Go.Proofs.YtlaphjgijkdgdaaW.PrintMore Go.Proofs.YtlaphjgijkdgdaaMath
set_option linter.unusedVariables false
set_option linter.unusedSimpArgs false

theorem spec_IsTable_eq (b W : Int) : spec_IsTable.f b W = some (isTab b W) := rfl

theorem impl_isBits_eq (b : Int) : impl_isBits.f b = some (decide (0 ≤ b ∧ b ≤ 5)) := by
  unfold impl_isBits.f
  by_cases h : b ≥ 0
  · rw [if_pos h]; simp [show 0 ≤ b from h]
  · rw [if_neg h]; simp [show ¬ 0 ≤ b from h]

theorem impl_Table_size_eq {n : Nat} (h : n ≤ 62) (W : Int) : impl_Table_size.f n W = some ((2 ^ n : Nat) : Int) := by
  unfold impl_Table_size.f
  rw [if_pos (Int.natCast_nonneg _), shl1 h]

theorem impl_IsTable_eq (b W : Int) : impl_IsTable.f b W = some (isTab b W) := by
  unfold impl_IsTable.f
  rw [impl_isBits_eq, Option.bind_some]
  by_cases h : 0 ≤ b ∧ b ≤ 5
  · obtain ⟨n, rfl⟩ := Int.eq_ofNat_of_zero_le h.1
    rw [if_pos (decide_eq_true h)]
    by_cases h2 : W ≥ 0
    · rw [if_pos h2]
      obtain ⟨w, rfl⟩ := Int.eq_ofNat_of_zero_le h2
      have hp : 2 ^ n ≤ 2 ^ 5 := Nat.pow_le_pow_right (by omega) (by omega)
      rw [impl_Table_size_eq (by omega), Option.bind_some, if_pos (Int.natCast_nonneg _), shrS (by omega)]
      congr 1
      unfold isTab
      rw [Bool.eq_iff_iff, decide_eq_true_iff, beq_iff_eq, Int.toNat_natCast]
      have e : ((2 : Int) ^ 2 ^ n) = ((2 ^ 2 ^ n : Nat) : Int) := by push_cast; rfl
      rw [e]
      have hd : w / 2 ^ 2 ^ n = 0 ↔ w < 2 ^ 2 ^ n := by rw [Nat.div_eq_zero_iff]; have := Nat.two_pow_pos (2 ^ n); omega
      constructor
      · intro h3
        have := hd.1 (by omega)
        omega
      · rintro ⟨_, _, _, h4⟩
        have := hd.2 (by omega)
        omega
    · rw [if_neg h2, show isTab n W = false from decide_eq_false fun h3 => h2 h3.2.2.1]
  · rw [if_neg (by rw [decide_eq_false h]; decide), show isTab b W = false from decide_eq_false fun h3 => h ⟨h3.1, h3.2.1⟩]

theorem impl_Table_at_eq {n w : Nat} (t : Tab n w) (x : Nat) : impl_Table_at.f n w x = some (b2i (w.testBit x)) := by
  unfold impl_Table_at.f
  rw [if_pos (Int.natCast_nonneg _), at1 t.w63]

theorem laws_toTable_eq (b W : Int) : laws_toTable.f b W = some (b, W) := rfl

theorem spec_TestRejects_ev {n w : Nat} (t : Tab n w) : Ev (fun k => spec_TestRejects.f k n w) (rej2 (2 ^ n) w (2 ^ n) 0) := by
  have hn := t.hn
  have hs := t.size
  unfold spec_TestRejects.f
  simp only [spec_IsTable_eq, isTab_mk t, Option.bind_some, if_true]
  refine ev_for (fun k x => spec_TestRejects.l0 k (rej2 (2 ^ n) w x 0) (x : Int) n w) (2 ^ n) ?_ ?_
  · intro x hx h
    refine Ev.step (f := fun k => spec_TestRejects.l1 k (rej2 (2 ^ n) w x 0) (x : Int) 0 n w) (fun k => ?_) ?_
    · simp only [spec_TestRejects.l0]
      rw [if_pos (Int.natCast_nonneg _), shl1 (by omega), if_pos (Int.ofNat_lt.mpr hx)]
    refine ev_for (fun k y => spec_TestRejects.l1 k (rej2 (2 ^ n) w x y) (x : Int) (y : Int) n w) (2 ^ n) ?_ ?_
    · intro y hy h
      refine Ev.step (fun k => ?_) h
      have hr := rej2_range (N := 2 ^ n) (w := w) (x := x) (y := y) (by omega) (by omega) (by omega)
      have hb := b2i_range ((w.testBit x != w.testBit y) != w.testBit (x ^^^ y))
      simp only [spec_TestRejects.l1]
      rw [if_pos (Int.natCast_nonneg _), shl1 (by omega), if_pos (Int.ofNat_lt.mpr hy), if_pos (Int.natCast_nonneg _), if_pos (Int.natCast_nonneg _), bxorN (by omega) (by omega), if_pos (Int.natCast_nonneg _), at4 t.w63, w64 (x := (y : Int) + 1) (by omega) (by omega), w64 (by omega) (by omega)]
      have e : rej2 (2 ^ n) w x (y + 1) = rej2 (2 ^ n) w x y + b2i ((w.testBit x != w.testBit y) != w.testBit (x ^^^ y)) := by
        unfold rej2
        simp only [sumI]
        unfold rej
        omega
      rw [e]
      rfl
    · refine Ev.step (fun k => ?_) h
      simp only [spec_TestRejects.l1]
      rw [if_pos (Int.natCast_nonneg _), shl1 (by omega), if_neg (by omega), w64 (by omega) (by omega), rej2_row]
      rfl
  · refine ev0 fun k => ?_
    simp only [spec_TestRejects.l0]
    rw [if_pos (Int.natCast_nonneg _), shl1 (by omega), if_neg (by omega)]
theorem impl_TestRejects_ev {n w : Nat} (t : Tab n w) : Ev (fun k => impl_TestRejects.f k n w) (rej2 (2 ^ n) w (2 ^ n) 0) := by
  have hn := t.hn
  have hs := t.size
  unfold impl_TestRejects.f
  simp only [impl_IsTable_eq, isTab_mk t, Option.bind_some, if_true, impl_Table_size_eq (show n ≤ 62 by omega)]
  refine ev_for (fun k x => impl_TestRejects.l0 k (rej2 (2 ^ n) w x 0) ((2 ^ n : Nat) : Int) (x : Int) n w) (2 ^ n) ?_ ?_
  · intro x hx h
    refine Ev.step (f := fun k => impl_TestRejects.l1 k (rej2 (2 ^ n) w x 0) (x : Int) ((2 ^ n : Nat) : Int) (x : Int) ((2 ^ n : Nat) : Int) 0 n w) (fun k => ?_) ?_
    · simp only [impl_TestRejects.l0]
      rw [if_pos (Int.ofNat_lt.mpr hx), impl_Table_size_eq (by omega), Option.bind_some]
    refine ev_for (fun k y => impl_TestRejects.l1 k (rej2 (2 ^ n) w x y) (x : Int) ((2 ^ n : Nat) : Int) (x : Int) ((2 ^ n : Nat) : Int) (y : Int) n w) (2 ^ n) ?_ ?_
    · intro y hy h
      refine Ev.step (fun k => ?_) h
      have hr := rej2_range (N := 2 ^ n) (w := w) (x := x) (y := y) (by omega) (by omega) (by omega)
      have hb := b2i_range ((w.testBit x != w.testBit y) != w.testBit (x ^^^ y))
      simp only [impl_TestRejects.l1]
      rw [if_pos (Int.ofNat_lt.mpr hy), impl_Table_at_eq t, Option.bind_some, impl_Table_at_eq t, Option.bind_some, bxorN (by omega) (by omega), impl_Table_at_eq t, Option.bind_some, b2i_xor, b2i_xor, w64 (x := (y : Int) + 1) (by omega) (by omega), w64 (by omega) (by omega)]
      have e : rej2 (2 ^ n) w x (y + 1) = rej2 (2 ^ n) w x y + b2i ((w.testBit x != w.testBit y) != w.testBit (x ^^^ y)) := by
        unfold rej2
        simp only [sumI]
        unfold rej
        omega
      rw [e]
      rfl
    · refine Ev.step (fun k => ?_) h
      simp only [impl_TestRejects.l1]
      rw [if_neg (by omega), w64 (by omega) (by omega), rej2_row]
      rfl
  · refine ev0 fun k => ?_
    simp only [impl_TestRejects.l0]
    rw [if_neg (by omega)]
theorem FnExactTestRejects (b W : Int) (hb : (Lit.int .i64 b).wf = true) (hW : (Lit.int .i64 W).wf = true) : ∃ k, laws_FnExactTestRejects.f k b W = some true := by
  have key : ∃ r, Ev (fun k => spec_TestRejects.f k b W) r ∧ Ev (fun k => impl_TestRejects.f k b W) r := by
    by_cases h : isTab b W = true
    · obtain ⟨n, w, rfl, rfl, t⟩ := isTab_yes h
      exact ⟨_, spec_TestRejects_ev t, impl_TestRejects_ev t⟩
    · unfold spec_TestRejects.f impl_TestRejects.f
      simp only [spec_IsTable_eq, impl_IsTable_eq, Option.bind_some, if_neg h]
      exact ⟨_, Ev.now _, Ev.now _⟩
  obtain ⟨r, h1, h2⟩ := key
  refine Ev.rounds ?_
  unfold laws_FnExactTestRejects.f
  simp only [laws_toTable_eq, Option.bind_some]
  refine ev1 h1 (G := fun k => (impl_TestRejects.f k b W).bind fun t => if t = r then some true else some false) (fun k hk => by rw [hk]; rfl) ?_
  exact ev1' h2 fun k hk => by rw [hk]; simp

end Go.Proofs.Ytlaphjgijkdgdaa.Pure
