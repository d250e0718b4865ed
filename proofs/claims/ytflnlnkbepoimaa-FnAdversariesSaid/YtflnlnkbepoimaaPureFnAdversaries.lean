/- What the law FnAdversaries comes to, over numbers and lists alone: at every input both sides tell the same. No conditions but the kinds of the numbers. -/
import Derived.Test.YtflnlnkbepoimaaMath
import Derived.Test.YtflnlnkbepoimaaCof
import Derived.Test.YtflnlnkbepoimaaCub
import Derived.Test.YtflnlnkbepoimaaHad
import Derived.Test.YtflnlnkbepoimaaOrd
import Derived.Test.YtflnlnkbepoimaaPop
import Derived.Test.YtflnlnkbepoimaaQue
import Derived.Test.YtflnlnkbepoimaaSum
import Derived.Test.YtflnlnkbepoimaaQ0
import Derived.Test.YtflnlnkbepoimaaQ1
import Derived.Test.YtflnlnkbepoimaaQ10
import Derived.Test.YtflnlnkbepoimaaQ2
import Derived.Test.YtflnlnkbepoimaaQ3
import Derived.Test.YtflnlnkbepoimaaQ4
import Derived.Test.YtflnlnkbepoimaaQ5
import Derived.Test.YtflnlnkbepoimaaQ6
import Derived.Test.YtflnlnkbepoimaaQ7
import Derived.Test.YtflnlnkbepoimaaQ8
import Derived.Test.YtflnlnkbepoimaaQ9
import Derived.Test.YtflnlnkbepoimaaQLFnAdversaries
namespace Go.Proofs.Ytflnlnkbepoimaa.Pure
open Go.RowKit Go.Proofs.Ytflnlnkbepoimaa.P Go.Proofs.YtflnlnkbepoimaaW.PrintWords Go.Proofs.YtflnlnkbepoimaaW.PrintLast Go.Proofs.YtflnlnkbepoimaaW.PrintMore Go.Proofs.YtflnlnkbepoimaaMath
set_option linter.unusedVariables false
set_option linter.unusedSimpArgs false

theorem ev_bd {A R : Type} {g : Nat → Option A} {a : A} {F : Nat → A → Option R} {r : R} (h : Ev g a) (hF : Ev (fun k => F k a) r) : Ev (fun k => (g k).bind (F k)) r := ev1 h (fun k hk => by rw [hk]; rfl) hF
theorem ev_if {R : Type} {c : Prop} [Decidable c] {f g : Nat → Option R} {r : R} (hc : c) (h : Ev f r) : Ev (fun k => if c then f k else g k) r := by simp only [if_pos hc]; exact h
theorem ev_ifn {R : Type} {c : Prop} [Decidable c] {f g : Nat → Option R} {r : R} (hc : ¬ c) (h : Ev g r) : Ev (fun k => if c then f k else g k) r := by simp only [if_neg hc]; exact h

theorem spec_l2Count_l (j : Nat) : ∀ (x : Nat) (s : Nat), j ≤ 32 → x < 2 ^ j → s + j ≤ 64 → Ev (fun k => spec_l2Count.l0 k s x) ((s + pcf j x : Nat) : Int) := by
  induction j with
  | zero =>
    intro x s _ h _
    obtain rfl : x = 0 := by simpa using h
    refine ev0 fun k => ?_
    simp only [spec_l2Count.l0]
    rw [if_neg (by omega)]
    rfl
  | succ j ih =>
    intro x s hj h hs
    have hp : 2 ^ (j + 1) ≤ 2 ^ 32 := Nat.pow_le_pow_right (by omega) hj
    by_cases hx : x = 0
    · subst hx
      refine ev0 fun k => ?_
      simp only [spec_l2Count.l0]
      rw [if_neg (by omega), pcf_zero]
      rfl
    · have := ih (x / 2) (s + x % 2) (by omega) (by rw [Nat.pow_succ] at h; omega) (by omega)
      simp only [pcf]
      rw [← Nat.add_assoc]
      refine Ev.step (fun k => ?_) this
      simp only [spec_l2Count.l0]
      rw [if_pos (by omega), show (1 : Int) = ((1 : Nat) : Int) from rfl, bandN (by omega) (by omega), Nat.and_one_is_mod, ← Int.natCast_add, w64 (by omega) (by omega)]
      rfl
theorem spec_l2Count_ev {x : Nat} (h : x < 4294967296) : Ev (fun k => spec_l2Count.f k x) ((pc x : Nat) : Int) := by
  have := spec_l2Count_l 32 x 0 (by omega) (by omega) (by omega)
  rw [Nat.zero_add] at this
  exact this

theorem and255 (x : Int) : 0 ≤ Go.bits .and .i64 x 255 ∧ Go.bits .and .i64 x 255 ≤ 255 := by
  have h : (BitVec.ofInt 64 x &&& BitVec.ofInt 64 255).toNat ≤ 255 := by
    rw [BitVec.toNat_and]
    exact Nat.and_le_right
  have e : Go.bits .and .i64 x 255 = (((BitVec.ofInt 64 x &&& BitVec.ofInt 64 255).toNat : Nat) : Int) := by
    simp only [Go.bits, IntKind.bits]
    exact i64id (Int.natCast_nonneg _) (Int.lt_of_le_of_lt (Int.ofNat_le.mpr h) (by decide))
  omega
theorem evx_bind {A R : Type} {g : Nat → Option A} {P : A → Prop} {F : Nat → A → Option R} {Q : R → Prop} (h : ∃ a, Ev g a ∧ P a) (hF : ∀ a, P a → ∃ r, Ev (fun k => F k a) r ∧ Q r) : ∃ r, Ev (fun k => (g k).bind (F k)) r ∧ Q r := by
  obtain ⟨a, ha, hp⟩ := h
  obtain ⟨r, hr, hq⟩ := hF a hp
  exact ⟨r, ev1 ha (fun k hk => by rw [hk]; rfl) hr, hq⟩
/-- A reader of draws: how far it has read. -/
def Cur (l : List Int) (i : Int) : Prop := l.length ≤ 4611686018427387904 ∧ 0 ≤ i ∧ i ≤ l.length
theorem spec_l1Byte_ok {l : List Int} {i h : Int} (c : Cur l i) : ∃ r, spec_l1Byte.f l i h = some r ∧ (0 ≤ r.1 ∧ r.1 ≤ 255 ∧ Cur l r.2.1) := by
  obtain ⟨c0, c1, c2⟩ := c
  unfold spec_l1Byte.f
  by_cases hl : i < (l.length : Int)
  · rw [if_pos hl, if_pos c1]
    refine ⟨_, rfl, (and255 _).1, (and255 _).2, c0, ?_⟩
    show 0 ≤ wrap64 (i + 1) ∧ wrap64 (i + 1) ≤ l.length
    rw [w64 (by omega) (by omega)]
    omega
  · rw [if_neg hl]
    exact ⟨_, rfl, (and255 _).1, (and255 _).2, c0, c1, c2⟩
theorem spec_l1Below_ok {l : List Int} {i h n : Int} (c : Cur l i) (hn : n ≤ 256) : ∃ r, Ev (fun _ => spec_l1Below.f l i h n) r ∧ (0 ≤ r.1 ∧ (0 < n → r.1 < n) ∧ Cur l r.2.1) := by
  unfold spec_l1Below.f
  by_cases h0 : n ≤ 0
  · rw [if_pos h0]
    exact ⟨_, Ev.now _, Int.le_refl _, fun h => absurd h (by omega), c⟩
  · rw [if_neg h0, if_pos hn]
    obtain ⟨r, hr, h1, h2, h3⟩ := spec_l1Byte_ok (h := h) c
    rw [hr, Option.bind_some, if_neg (by omega)]
    exact ⟨_, Ev.now _, Int.tmod_nonneg _ h1, fun h => Int.tmod_lt_of_pos _ h, h3⟩
theorem spec_l1New_ok {l : List Int} (hl : l.length ≤ 4611686018427387904) : ∃ r, Ev (fun k => spec_l1New.f k l) r ∧ (r.1 = l ∧ Cur l r.2.1) := by
  have key : ∀ d (i : Nat) (h : Int), l.length - i ≤ d → ∃ r, Ev (fun k => spec_l1New.l0 k l h i) r ∧ (r.1 = l ∧ Cur l r.2.1) := by
    intro d
    induction d with
    | zero =>
      intro i h hd
      refine ⟨(l, 0, h), ev0 fun k => ?_, rfl, hl, by simp⟩
      simp only [spec_l1New.l0]
      rw [if_neg (by omega)]
    | succ d ih =>
      intro i h hd
      by_cases hi : i < l.length
      · by_cases h4 : i < 4000
        · obtain ⟨r, hr, hq⟩ := ih (i + 1) (Go.bits .and .i64 (wrap64 ((wrap64 ((wrap64 (h * 131)) + (wrap64 (rd l i)))) + 7)) 1073741823) (by omega)
          refine ⟨r, Ev.step (fun k => ?_) hr, hq⟩
          simp only [spec_l1New.l0]
          rw [if_pos (by omega), if_pos (by omega), if_pos (by omega), w64 (x := (i : Int) + 1) (by omega) (by omega)]
          rfl
        · refine ⟨(l, 0, h), ev0 fun k => ?_, rfl, hl, by simp⟩
          simp only [spec_l1New.l0]
          rw [if_pos (by omega), if_neg (by omega)]
      · refine ⟨(l, 0, h), ev0 fun k => ?_, rfl, hl, by simp⟩
        simp only [spec_l1New.l0]
        rw [if_neg (by omega)]
  exact key l.length 0 _ (by omega)
theorem spec_l2Variable_ok {n j : Nat} (hn : n ≤ 4) : ∃ r, Ev (fun k => spec_l2Variable.f k n j) r ∧ True := by
  have hs : 2 ^ n ≤ 2 ^ 4 := Nat.pow_le_pow_right (by omega) hn
  have key : ∀ d (i : Nat) (w : Int), 2 ^ n - i ≤ d → ∃ r, Ev (fun k => spec_l2Variable.l0 k n j w i) r ∧ True := by
    intro d
    induction d with
    | zero =>
      intro i w hd
      refine ⟨w, ev0 fun k => ?_, trivial⟩
      simp only [spec_l2Variable.l0]
      rw [if_pos (Int.natCast_nonneg _), shl1 (by omega), if_neg (by omega)]
    | succ d ih =>
      intro i w hd
      by_cases hi : i < 2 ^ n
      · by_cases hb : Go.bits .and .i64 (shr .i64 i j) 1 = 1
        · obtain ⟨r, hr, hq⟩ := ih (i + 1) (Go.bits .or .i64 w (shl .i64 1 i)) (by omega)
          refine ⟨r, Ev.step (fun k => ?_) hr, hq⟩
          simp only [spec_l2Variable.l0]
          rw [if_pos (Int.natCast_nonneg _), shl1 (by omega), if_pos (by omega), if_pos (Int.natCast_nonneg _), if_pos hb, if_pos (Int.natCast_nonneg _), w64 (x := (i : Int) + 1) (by omega) (by omega)]
          rfl
        · obtain ⟨r, hr, hq⟩ := ih (i + 1) w (by omega)
          refine ⟨r, Ev.step (fun k => ?_) hr, hq⟩
          simp only [spec_l2Variable.l0]
          rw [if_pos (Int.natCast_nonneg _), shl1 (by omega), if_pos (by omega), if_pos (Int.natCast_nonneg _), if_neg hb, w64 (x := (i : Int) + 1) (by omega) (by omega)]
          rfl
      · refine ⟨w, ev0 fun k => ?_, trivial⟩
        simp only [spec_l2Variable.l0]
        rw [if_pos (Int.natCast_nonneg _), shl1 (by omega), if_neg (by omega)]
  exact key (2 ^ n) 0 0 (Nat.sub_le _ _)
theorem spec_l2Full_some {n : Nat} (hn : n ≤ 4) : ∃ t, spec_l2Full.f n = some t := by
  unfold spec_l2Full.f
  rw [if_pos (by omega)]
  exact ⟨_, rfl⟩
theorem l2Draw_end {l : List Int} {i h : Int} {n : Nat} (hn : n ≤ 4) (c : Cur l i) (w : Int) : ∃ r, (if (n : Int) = 0 then ((spec_l2Full.f n).bind fun t => (some ((n : Int), Go.bits .and .i64 (Go.bits .and .i64 w 1) t, i, h))) else ((spec_l2Full.f n).bind fun t => (some ((n : Int), Go.bits .and .i64 w t, i, h)))) = some r ∧ (r.1 = (n : Int) ∧ Cur l r.2.2.1) := by
  obtain ⟨t, ht⟩ := spec_l2Full_some hn
  rw [ht, Option.bind_some, Option.bind_some]
  split
  · exact ⟨_, rfl, rfl, c⟩
  · exact ⟨_, rfl, rfl, c⟩
theorem spec_l2Draw_l0_ok {l : List Int} {ci h : Int} {n : Nat} (hn : n ≤ 4) (c : Cur l ci) : ∀ d (i : Nat) (w : Int), 2 ^ n - i ≤ d → ∃ r, Ev (fun k => spec_l2Draw.l0 k n w i l ci h) r ∧ (r.1 = (n : Int) ∧ Cur l r.2.2.1) := by
  have hs : 2 ^ n ≤ 2 ^ 4 := Nat.pow_le_pow_right (by omega) hn
  intro d
  induction d with
  | zero =>
    intro i w hd
    obtain ⟨r, hr, hq⟩ := l2Draw_end (h := h) hn c w
    refine ⟨r, ev0 fun k => ?_, hq⟩
    simp only [spec_l2Draw.l0]
    rw [if_pos (Int.natCast_nonneg _), shl1 (by omega), if_neg (by omega)]
    exact hr
  | succ d ih =>
    intro i w hd
    by_cases hi : i < 2 ^ n
    · have hc := spec_l2Count_ev (x := i) (by omega)
      by_cases hb : wrap64 (2 * ((pc i : Nat) : Int)) > (n : Int)
      · obtain ⟨r, hr, hq⟩ := ih (i + 1) (Go.bits .or .i64 w (shl .i64 1 i)) (by omega)
        refine ⟨r, evs1 hc (fun k hk => ?_) hr, hq⟩
        simp only [spec_l2Draw.l0]
        rw [if_pos (Int.natCast_nonneg _), shl1 (by omega), if_pos (by omega), hk, Option.bind_some, if_pos hb, if_pos (Int.natCast_nonneg _), w64 (x := (i : Int) + 1) (by omega) (by omega)]
        rfl
      · obtain ⟨r, hr, hq⟩ := ih (i + 1) w (by omega)
        refine ⟨r, evs1 hc (fun k hk => ?_) hr, hq⟩
        simp only [spec_l2Draw.l0]
        rw [if_pos (Int.natCast_nonneg _), shl1 (by omega), if_pos (by omega), hk, Option.bind_some, if_neg hb, w64 (x := (i : Int) + 1) (by omega) (by omega)]
        rfl
    · obtain ⟨r, hr, hq⟩ := l2Draw_end (h := h) hn c w
      refine ⟨r, ev0 fun k => ?_, hq⟩
      simp only [spec_l2Draw.l0]
      rw [if_pos (Int.natCast_nonneg _), shl1 (by omega), if_neg (by omega)]
      exact hr
theorem spec_l2Draw_l1_ok {l : List Int} {ci h : Int} {n : Nat} (hn : n ≤ 4) (c : Cur l ci) : ∀ d (i : Nat) (w : Int), 2 ^ n - i ≤ d → ∃ r, Ev (fun k => spec_l2Draw.l1 k n w i l ci h) r ∧ (r.1 = (n : Int) ∧ Cur l r.2.2.1) := by
  have hs : 2 ^ n ≤ 2 ^ 4 := Nat.pow_le_pow_right (by omega) hn
  intro d
  induction d with
  | zero =>
    intro i w hd
    obtain ⟨r, hr, hq⟩ := l2Draw_end (h := h) hn c w
    refine ⟨r, ev0 fun k => ?_, hq⟩
    simp only [spec_l2Draw.l1]
    rw [if_pos (Int.natCast_nonneg _), shl1 (by omega), if_neg (by omega)]
    exact hr
  | succ d ih =>
    intro i w hd
    by_cases hi : i < 2 ^ n
    · have hc := spec_l2Count_ev (x := i) (by omega)
      by_cases hb : Int.tmod ((pc i : Nat) : Int) 2 = 1
      · obtain ⟨r, hr, hq⟩ := ih (i + 1) (Go.bits .or .i64 w (shl .i64 1 i)) (by omega)
        refine ⟨r, evs1 hc (fun k hk => ?_) hr, hq⟩
        simp only [spec_l2Draw.l1]
        rw [if_pos (Int.natCast_nonneg _), shl1 (by omega), if_pos (by omega), hk, Option.bind_some, if_pos hb, if_pos (Int.natCast_nonneg _), w64 (x := (i : Int) + 1) (by omega) (by omega)]
        rfl
      · obtain ⟨r, hr, hq⟩ := ih (i + 1) w (by omega)
        refine ⟨r, evs1 hc (fun k hk => ?_) hr, hq⟩
        simp only [spec_l2Draw.l1]
        rw [if_pos (Int.natCast_nonneg _), shl1 (by omega), if_pos (by omega), hk, Option.bind_some, if_neg hb, w64 (x := (i : Int) + 1) (by omega) (by omega)]
        rfl
    · obtain ⟨r, hr, hq⟩ := l2Draw_end (h := h) hn c w
      refine ⟨r, ev0 fun k => ?_, hq⟩
      simp only [spec_l2Draw.l1]
      rw [if_pos (Int.natCast_nonneg _), shl1 (by omega), if_neg (by omega)]
      exact hr
theorem spec_l2Draw_l2_ok {l : List Int} {ci h m : Int} {n : Nat} (hn : n ≤ 4) (c : Cur l ci) : ∀ d (i : Nat) (w : Int), 2 ^ n - i ≤ d → ∃ r, Ev (fun k => spec_l2Draw.l2 k n w m i l ci h) r ∧ (r.1 = (n : Int) ∧ Cur l r.2.2.1) := by
  have hs : 2 ^ n ≤ 2 ^ 4 := Nat.pow_le_pow_right (by omega) hn
  intro d
  induction d with
  | zero =>
    intro i w hd
    obtain ⟨r, hr, hq⟩ := l2Draw_end (h := h) hn c w
    refine ⟨r, ev0 fun k => ?_, hq⟩
    simp only [spec_l2Draw.l2]
    rw [if_pos (Int.natCast_nonneg _), shl1 (by omega), if_neg (by omega)]
    exact hr
  | succ d ih =>
    intro i w hd
    by_cases hi : i < 2 ^ n
    · by_cases hb : Go.bits .and .i64 i m = m
      · obtain ⟨r, hr, hq⟩ := ih (i + 1) (Go.bits .or .i64 w (shl .i64 1 i)) (by omega)
        refine ⟨r, Ev.step (fun k => ?_) hr, hq⟩
        simp only [spec_l2Draw.l2]
        rw [if_pos (Int.natCast_nonneg _), shl1 (by omega), if_pos (by omega), if_pos hb, if_pos (Int.natCast_nonneg _), w64 (x := (i : Int) + 1) (by omega) (by omega)]
        rfl
      · obtain ⟨r, hr, hq⟩ := ih (i + 1) w (by omega)
        refine ⟨r, Ev.step (fun k => ?_) hr, hq⟩
        simp only [spec_l2Draw.l2]
        rw [if_pos (Int.natCast_nonneg _), shl1 (by omega), if_pos (by omega), if_neg hb, w64 (x := (i : Int) + 1) (by omega) (by omega)]
        rfl
    · obtain ⟨r, hr, hq⟩ := l2Draw_end (h := h) hn c w
      refine ⟨r, ev0 fun k => ?_, hq⟩
      simp only [spec_l2Draw.l2]
      rw [if_pos (Int.natCast_nonneg _), shl1 (by omega), if_neg (by omega)]
      exact hr
theorem spec_l2Draw_l3_ok {l : List Int} {n : Nat} (hn : n ≤ 4) : ∀ d (i : Nat) (w ci h : Int), 2 ^ n - i ≤ d → Cur l ci → ∃ r, Ev (fun k => spec_l2Draw.l3 k n w i l ci h) r ∧ (r.1 = (n : Int) ∧ Cur l r.2.2.1) := by
  have hs : 2 ^ n ≤ 2 ^ 4 := Nat.pow_le_pow_right (by omega) hn
  intro d
  induction d with
  | zero =>
    intro i w ci h hd c
    obtain ⟨r, hr, hq⟩ := l2Draw_end (h := h) hn c w
    refine ⟨r, ev0 fun k => ?_, hq⟩
    simp only [spec_l2Draw.l3]
    rw [if_pos (Int.natCast_nonneg _), shl1 (by omega), if_neg (by omega)]
    exact hr
  | succ d ih =>
    intro i w ci h hd c
    by_cases hi : i < 2 ^ n
    · obtain ⟨b, hb, b1, b2, b3⟩ := spec_l1Below_ok (h := h) (n := 2) c (by omega)
      obtain ⟨r, hr, hq⟩ := ih (i + 1) (Go.bits .or .i64 w (shl .i64 b.1 i)) b.2.1 b.2.2 (by omega) b3
      refine ⟨r, evs1 hb (fun k hk => ?_) hr, hq⟩
      simp only [spec_l2Draw.l3]
      rw [if_pos (Int.natCast_nonneg _), shl1 (by omega), if_pos (by omega), hk, Option.bind_some, if_pos (Int.natCast_nonneg _), w64 (x := (i : Int) + 1) (by omega) (by omega)]
      rfl
    · obtain ⟨r, hr, hq⟩ := l2Draw_end (h := h) hn c w
      refine ⟨r, ev0 fun k => ?_, hq⟩
      simp only [spec_l2Draw.l3]
      rw [if_pos (Int.natCast_nonneg _), shl1 (by omega), if_neg (by omega)]
      exact hr
theorem spec_l2Draw_ok {l : List Int} {i h : Int} {n : Nat} (hn : n ≤ 4) (c : Cur l i) : ∃ r, Ev (fun k => spec_l2Draw.f k l i h n) r ∧ (r.1 = (n : Int) ∧ Cur l r.2.2.1) := by
  have hs : 2 ^ n ≤ 2 ^ 4 := Nat.pow_le_pow_right (by omega) hn
  unfold spec_l2Draw.f
  refine evx_bind (spec_l1Below_ok c (by omega)) fun b hb => ?_
  obtain ⟨b1, b2, b3⟩ := hb
  by_cases h0 : b.1 = 0
  · simp only [if_pos h0]
    refine evx_bind (spec_l1Below_ok b3 (by simp only [mx]; split <;> omega)) fun b' hb' => ?_
    obtain ⟨c1, c2, c3⟩ := hb'
    obtain ⟨j, hj⟩ := Int.eq_ofNat_of_zero_le c1
    refine evx_bind (P := fun _ => True) (by rw [hj]; exact spec_l2Variable_ok hn) fun t _ => ?_
    obtain ⟨r, hr, hq⟩ := l2Draw_end (h := b'.2.2) hn c3 t
    exact ⟨r, ev_const hr, hq⟩
  · simp only [if_neg h0]
    by_cases h1 : b.1 = 1
    · simp only [if_pos h1]
      exact spec_l2Draw_l0_ok hn b3 (2 ^ n) 0 0 (Nat.sub_le _ _)
    · simp only [if_neg h1]
      by_cases h2 : b.1 = 2
      · simp only [if_pos h2]
        exact spec_l2Draw_l1_ok hn b3 (2 ^ n) 0 0 (Nat.sub_le _ _)
      · simp only [if_neg h2]
        by_cases h3 : b.1 = 3
        · simp only [if_pos h3, if_pos (Int.natCast_nonneg n), shl1 (show n ≤ 62 by omega)]
          refine evx_bind (spec_l1Below_ok b3 (by omega)) fun b' hb' => ?_
          exact spec_l2Draw_l2_ok hn hb'.2.2 (2 ^ n) 0 0 (Nat.sub_le _ _)
        · simp only [if_neg h3]
          exact spec_l2Draw_l3_ok hn (2 ^ n) 0 0 _ _ (Nat.sub_le _ _) b3
theorem spec_l1PickInt_ok {l : List Int} {i h : Int} (c : Cur l i) {L : List Int} (hL : 0 < L.length) (hL2 : L.length ≤ 256) : ∃ r, Ev (fun _ => spec_l1PickInt.f l i h L) r ∧ (r.1 ∈ L ∧ Cur l r.2.1) := by
  unfold spec_l1PickInt.f
  refine evx_bind (spec_l1Below_ok c (by omega)) fun b hb => ?_
  obtain ⟨b1, b2, b3⟩ := hb
  have b4 := b2 (by omega)
  simp only [if_pos b1, if_pos b4]
  refine ⟨_, Ev.now _, ?_, b3⟩
  obtain ⟨j, hj⟩ := Int.eq_ofNat_of_zero_le b1
  show rd L b.1 ∈ L
  rw [hj, rd_nat, List.getD_eq_getElem?_getD, List.getElem?_eq_getElem (by omega)]
  exact List.getElem_mem _
theorem wf_small {n : Nat} (h : n ≤ 16) : (Lit.int .i64 (n : Int)).wf = true := by
  have : ((List.range 17).all fun n => (Lit.int .i64 ((n : Nat) : Int)).wf) = true := by decide
  exact List.all_eq_true.mp this n (List.mem_range.2 (by omega))
theorem spec_l2Any_ok {l : List Int} {i h : Int} (c : Cur l i) : ∃ r, Ev (fun k => spec_l2Any.f k l i h) r ∧ ((Lit.int .i64 r.1).wf = true ∧ Cur l r.2.2.1) := by
  unfold spec_l2Any.f
  refine evx_bind (spec_l1Below_ok c (by omega)) fun b hb => ?_
  obtain ⟨b1, b2, b3⟩ := hb
  have b4 := b2 (by omega)
  obtain ⟨n, hn⟩ := Int.eq_ofNat_of_zero_le b1
  refine evx_bind (P := fun r => r.1 = (n : Int) ∧ Cur l r.2.2.1) (by rw [hn]; exact spec_l2Draw_ok (by omega) b3) fun d hd => ?_
  have hw : (Lit.int .i64 d.1).wf = true := by rw [hd.1]; exact wf_small (by omega)
  refine evx_bind (spec_l1Below_ok hd.2 (by omega)) fun e he => ?_
  obtain ⟨e1, e2, e3⟩ := he
  by_cases h0 : e.1 = 0
  · simp only [if_pos h0]
    exact evx_bind (spec_l1PickInt_ok e3 (by decide) (by decide)) fun q hq => ⟨_, Ev.now _, (by decide : ∀ x ∈ ([(-1), 6, 5, 0, 9223372036854775807] : List Int), (Lit.int .i64 x).wf = true) _ hq.1, hq.2⟩
  · simp only [if_neg h0]
    by_cases h1 : e.1 = 1
    · simp only [if_pos h1]
      exact evx_bind (spec_l1PickInt_ok e3 (by decide) (by decide)) fun q hq => ⟨_, Ev.now _, hw, hq.2⟩
    · simp only [if_neg h1]
      exact ⟨_, Ev.now _, hw, e3⟩
/-- A reader laid over what came in, then a table. -/
theorem new_any {R : Type} {l : List Int} (hl : l.length ≤ 4611686018427387904) {F : Nat → List Int × Int × Int → Int × Int × Int × Int → Option R} {Q : R → Prop} (hF : ∀ h d, (Lit.int .i64 d.1).wf = true → Cur l d.2.2.1 → ∃ r, Ev (fun k => F k (l, h) d) r ∧ Q r) :
    ∃ r, Ev (fun k => (spec_l1New.f k l).bind fun b => (spec_l2Any.f k b.1 b.2.1 b.2.2).bind fun d => F k b d) r ∧ Q r := by
  refine evx_bind (spec_l1New_ok hl) fun b hb => ?_
  obtain ⟨b0, b1⟩ := hb
  obtain ⟨b, i, h⟩ := b
  simp only at b0 b1
  subst b0
  exact evx_bind (spec_l2Any_ok b1) fun d hd => hF (i, h) d hd.1 hd.2

theorem impl_isBits_eq (b : Int) : impl_isBits.f b = some (decide (0 ≤ b ∧ b ≤ 5)) := by
  unfold impl_isBits.f
  by_cases h : b ≥ 0
  · rw [if_pos h]; simp [show 0 ≤ b from h]
  · rw [if_neg h]; simp [show ¬ 0 ≤ b from h]

theorem impl_Table_size_eq {n : Nat} (h : n ≤ 62) (W : Int) : impl_Table_size.f n W = some ((2 ^ n : Nat) : Int) := by
  unfold impl_Table_size.f
  rw [if_pos (Int.natCast_nonneg _), shl1 h]

theorem impl_IsTable_eq (b W : Int) : impl_IsTable.f b W = some (isTab b W) := by
  unfold impl_IsTable.f
  rw [impl_isBits_eq, Option.bind_some]
  by_cases h : 0 ≤ b ∧ b ≤ 5
  · obtain ⟨n, rfl⟩ := Int.eq_ofNat_of_zero_le h.1
    rw [if_pos (decide_eq_true h)]
    by_cases h2 : W ≥ 0
    · rw [if_pos h2]
      obtain ⟨w, rfl⟩ := Int.eq_ofNat_of_zero_le h2
      have hp : 2 ^ n ≤ 2 ^ 5 := Nat.pow_le_pow_right (by omega) (by omega)
      rw [impl_Table_size_eq (by omega), Option.bind_some, if_pos (Int.natCast_nonneg _), shrS (by omega)]
      congr 1
      unfold isTab
      rw [Bool.eq_iff_iff, decide_eq_true_iff, beq_iff_eq, Int.toNat_natCast]
      have e : ((2 : Int) ^ 2 ^ n) = ((2 ^ 2 ^ n : Nat) : Int) := by push_cast; rfl
      rw [e]
      have hd : w / 2 ^ 2 ^ n = 0 ↔ w < 2 ^ 2 ^ n := by rw [Nat.div_eq_zero_iff]; have := Nat.two_pow_pos (2 ^ n); omega
      constructor
      · intro h3
        have := hd.1 (by omega)
        omega
      · rintro ⟨_, _, _, h4⟩
        have := hd.2 (by omega)
        omega
    · rw [if_neg h2, show isTab n W = false from decide_eq_false fun h3 => h2 h3.2.2.1]
  · rw [if_neg (by rw [decide_eq_false h]; decide), show isTab b W = false from decide_eq_false fun h3 => h ⟨h3.1, h3.2.1⟩]

theorem impl_isSmall_eq (b W a : Int) : impl_isSmall.f b W a = some (isTab b W && decide (b ≤ a)) := by
  unfold impl_isSmall.f
  rw [impl_IsTable_eq, Option.bind_some]
  cases isTab b W <;> rfl

theorem impl_isInput_eq {n : Nat} (h : n ≤ 62) (x : Int) : impl_isInput.f n x = some (isInp n x) := by
  unfold impl_isInput.f
  by_cases h0 : x ≥ 0
  · rw [if_pos h0, if_pos (Int.natCast_nonneg _), shl1 h, isInp_lt h0]
  · rw [if_neg h0, show isInp n x = false from decide_eq_false fun h3 => h0 h3.1]

theorem impl_hasInput_eq (b W x : Int) : impl_hasInput.f b W x = some (isTab b W && isInp b x) := by
  unfold impl_hasInput.f
  rw [impl_IsTable_eq, Option.bind_some]
  by_cases h : isTab b W = true
  · obtain ⟨n, w, rfl, rfl, t⟩ := isTab_yes h
    rw [if_pos h, impl_isInput_eq (by have := t.hn; omega), Option.bind_some, h, Bool.true_and]
  · rw [if_neg h, Bool.eq_false_iff.mpr h, Bool.false_and]

theorem impl_isCube_eq (b W m v : Int) (hv : (Lit.int .i64 v).wf = true) : impl_isCube.f b W m v = some (isTab b W && isInp b m && isSub m v) := by
  unfold impl_isCube.f
  rw [impl_hasInput_eq, Option.bind_some]
  by_cases h : (isTab b W && isInp b m) = true
  · rw [if_pos h, h, Bool.true_and]
    rw [Bool.and_eq_true] at h
    obtain ⟨n, w, rfl, rfl, t⟩ := isTab_yes h.1
    obtain ⟨m, rfl, hm⟩ := isInp_yes h.2
    have hs := t.size
    by_cases h0 : v ≥ 0
    · rw [if_pos h0]
      obtain ⟨v, rfl⟩ := Int.eq_ofNat_of_zero_le h0
      have hv2 := wf_top hv
      rw [bandnotN (by omega) (by omega)]
      congr 1
      rw [Bool.eq_iff_iff, beq_iff_eq, isSub_nat]
      constructor
      · intro h
        have h2 : v ^^^ (v &&& m) = 0 := by omega
        have h3 : (v ^^^ (v &&& m)) ^^^ (v &&& m) = v := by rw [Nat.xor_assoc, Nat.xor_self, Nat.xor_zero]
        rw [h2, Nat.zero_xor] at h3
        exact h3
      · intro h
        rw [h, Nat.xor_self]
        rfl
    · rw [if_neg h0, show isSub m v = false from isSub_neg (by omega)]
  · rw [if_neg h, Bool.eq_false_iff.mpr h, Bool.false_and]

theorem impl_isKnown_eq (b W m v : Int) (hv : (Lit.int .i64 v).wf = true) : impl_isKnown.f b W m v = some (isKn b W m v) := by
  unfold impl_isKnown.f isKn
  rw [impl_isSmall_eq, Option.bind_some, impl_isCube_eq b W m v hv]
  cases isTab b W <;> cases decide (b ≤ 4) <;> rfl

theorem spec_IsTable_eq (b W : Int) : spec_IsTable.f b W = some (isTab b W) := rfl

theorem spec_l1In_eq (a b c : Int) : spec_l1In.f a b c = some (decide (b ≤ a ∧ a ≤ c)) := by
  unfold spec_l1In.f
  by_cases h : b ≤ a
  · rw [if_pos h]; simp [h]
  · rw [if_neg h]; simp [h]

theorem spec_l8Fine_eq (b W m v : Int) : spec_l8Fine.f b W m v = some (isKn b W m v) := by
  unfold spec_l8Fine.f isKn
  rw [spec_IsTable_eq, Option.bind_some]
  by_cases h : isTab b W = true
  · obtain ⟨n, w, rfl, rfl, t⟩ := isTab_yes h
    have hs := t.size
    have hn := t.hn
    rw [if_pos h, h, Bool.true_and, Bool.true_and]
    by_cases h4 : (n : Int) ≤ 4
    · rw [if_pos h4, if_pos (Int.natCast_nonneg _), spec_l1In_eq, Option.bind_some, shl1m (by omega), isInp_le, decide_eq_true h4, Bool.true_and]
      by_cases hm : isInp n m = true
      · rw [if_pos hm, spec_l1In_eq, Option.bind_some, hm, Bool.true_and]
        obtain ⟨m, rfl, hm2⟩ := isInp_yes hm
        by_cases hb : 0 ≤ v ∧ v ≤ m
        · rw [decide_eq_true hb, if_pos rfl]
          obtain ⟨v, rfl⟩ := Int.eq_ofNat_of_zero_le hb.1
          rw [bandN (by omega) (by omega)]
          congr 1
          rw [Bool.eq_iff_iff, beq_iff_eq, isSub_nat]
          omega
        · rw [decide_eq_false hb, if_neg (by decide)]
          congr 1
          symm
          by_cases h0 : v < 0
          · exact isSub_neg h0
          · obtain ⟨v, rfl⟩ := Int.eq_ofNat_of_zero_le (show 0 ≤ v by omega)
            rw [Bool.eq_false_iff]
            intro h
            have := isSub_nat.1 h
            have h2 : v &&& m ≤ m := Nat.and_le_right
            omega
      · rw [if_neg hm, Bool.eq_false_iff.mpr hm, Bool.false_and]
    · rw [if_neg h4, decide_eq_false h4, Bool.false_and]
  · rw [if_neg h, Bool.eq_false_iff.mpr h, Bool.false_and, Bool.false_and]

theorem and_pow (m i : Nat) : m &&& 2 ^ i = if m.testBit i = true then 2 ^ i else 0 := by
  apply Nat.eq_of_testBit_eq
  intro j
  rw [Nat.testBit_and, Nat.testBit_two_pow]
  by_cases h : i = j
  · subst h
    cases hb : m.testBit i <;> simp
  · rw [decide_eq_false h, Bool.and_false]
    split
    · rw [Nat.testBit_two_pow, decide_eq_false h]
    · rw [Nat.zero_testBit]
theorem and_pow_no {m i : Nat} (h : m.testBit i = false) : m &&& 2 ^ i = 0 := by rw [and_pow, h]; rfl
theorem and_pow_yes {m i : Nat} (h : m.testBit i = true) : m &&& 2 ^ i = 2 ^ i := by rw [and_pow, h]; rfl
theorem impl_known_with_zero {m v i : Nat} (hm : m < 32) (hv : v < 32) (hi : i ≤ 5) : impl_known_with.f m v i 0 = some (((m ||| 2 ^ i : Nat) : Int), (v : Int)) := by
  unfold impl_known_with.f
  have hp : 2 ^ i ≤ 2 ^ 5 := Nat.pow_le_pow_right (by omega) hi
  have hl : m ||| 2 ^ i < 2 ^ 6 := Nat.or_lt_two_pow (by omega) (by omega)
  rw [if_pos (Int.natCast_nonneg _), shl1 (by omega), borN (by omega) (by omega), show (0 : Int) = ((0 : Nat) : Int) from rfl, shlN (by omega), Nat.zero_mul, borN (by omega) (by omega), Nat.or_zero]
theorem impl_known_with_one {m v i : Nat} (hm : m < 32) (hv : v < 32) (hi : i ≤ 5) : impl_known_with.f m v i 1 = some (((m ||| 2 ^ i : Nat) : Int), ((v ||| 2 ^ i : Nat) : Int)) := by
  unfold impl_known_with.f
  have hp : 2 ^ i ≤ 2 ^ 5 := Nat.pow_le_pow_right (by omega) hi
  rw [if_pos (Int.natCast_nonneg _), shl1 (by omega), borN (by omega) (by omega), borN (by omega) (by omega)]

theorem impl_Table_cube_seen_eq {w m v : Nat} (hw : w < 9223372036854775808) (hm : m < 32) (b : Bool) : ∀ N, N ≤ 32 → impl_Table_cube.seen w m v (b2i b) N = seenB w m v b N := by
  intro N
  induction N with
  | zero => intro _; rfl
  | succ N ih =>
    intro hN
    simp only [impl_Table_cube.seen, seenB]
    rw [ih (by omega), bandN (by omega) (by omega), at1 hw, b2i_beq]
    congr 2
    rw [Bool.eq_iff_iff, beq_iff_eq, beq_iff_eq]
    omega
theorem impl_Table_cube_eq {n w m v : Nat} (t : Tab n w) (hm : m < 32) : impl_Table_cube.f n w m v = some (cubeV n w m v) := by
  have hn := t.hn
  have hs := t.size
  unfold impl_Table_cube.f
  rw [if_pos (by omega), Int.toNat_natCast, show (1 : Int) = b2i true from rfl, show (0 : Int) = b2i false from rfl, impl_Table_cube_seen_eq t.w63 hm true _ hs, impl_Table_cube_seen_eq t.w63 hm false _ hs]
  rfl

theorem bit_zero {m i : Nat} (hm : m < 9223372036854775808) : Go.bits .and .i64 (shr .i64 (m : Int) (i : Int)) 1 = 0 ↔ m.testBit i = false := by
  rw [at1 hm]
  cases m.testBit i <;> simp [b2i]
theorem impl_asker_left_fold {n m v d w : Nat} (hn : n ≤ 4) (hm : m < 2 ^ n) (hv : v < 2 ^ n)
    (ih : ∀ i, i < n → opens m i = true → impl_asker_left.f n w d ((m ||| 2 ^ i : Nat) : Int) v = some (askD n w (m ||| 2 ^ i) v) ∧ impl_asker_left.f n w d ((m ||| 2 ^ i : Nat) : Int) ((v ||| 2 ^ i : Nat) : Int) = some (askD n w (m ||| 2 ^ i) (v ||| 2 ^ i))) :
    ∀ i, i ≤ n → impl_asker_left.fold (impl_asker_left.f n w d) m v n i = some (leastI (opens m) (fun i => 1 + mx (askD n w (m ||| 2 ^ i) v) (askD n w (m ||| 2 ^ i) (v ||| 2 ^ i))) n i) := by
  have hp : 2 ^ n ≤ 2 ^ 4 := Nat.pow_le_pow_right (by omega) hn
  intro i
  induction i with
  | zero => intro _; rfl
  | succ i ih2 =>
    intro hi
    rw [impl_asker_left.fold, ih2 (by omega), Option.bind_some]
    simp only [leastI]
    cases hb : m.testBit i with
    | false =>
      have ho := opens_yes.2 hb
      obtain ⟨e0, e1⟩ := ih i (by omega) ho
      have h0 := askD_range n w (m ||| 2 ^ i) v
      have h1 := askD_range n w (m ||| 2 ^ i) (v ||| 2 ^ i)
      have h2 := mx_le h0.2 h1.2
      have h3 := mx_ge (askD n w (m ||| 2 ^ i) v) (askD n w (m ||| 2 ^ i) (v ||| 2 ^ i))
      rw [if_pos ((bit_zero (by omega)).2 hb), if_pos ho, impl_known_with_zero (by omega) (by omega) (by omega), Option.bind_some, e0, Option.bind_some, impl_known_with_one (by omega) (by omega) (by omega), Option.bind_some, e1, Option.bind_some, w64 (by omega) (by omega)]
    | true =>
      rw [if_neg (fun h => by rw [(bit_zero (by omega)).1 h] at hb; exact Bool.noConfusion hb), if_neg (fun h => by rw [opens_yes.1 h] at hb; exact Bool.noConfusion hb)]
theorem impl_asker_left_eq {n w : Nat} (t : Tab n w) (hn : n ≤ 4) : ∀ (d m v : Nat), frees m n < d → m < 2 ^ n → v < 2 ^ n → impl_asker_left.f n w d m v = some (askD n w m v) := by
  have hp : 2 ^ n ≤ 2 ^ 4 := Nat.pow_le_pow_right (by omega) hn
  intro d
  induction d with
  | zero => intro m v h; omega
  | succ d ih =>
    intro m v h hm hv
    rw [impl_asker_left.f, impl_Table_cube_eq t (by omega), Option.bind_some, askD_eq]
    by_cases hc : cubeV n w m v = 2
    · rw [if_pos hc, if_pos hc, Int.toNat_natCast]
      refine impl_asker_left_fold hn hm hv (fun i hi ho => ?_) n (Nat.le_refl _)
      have hf := frees_or hi (opens_yes.1 ho)
      exact ⟨ih _ _ (by omega) (or_lt hm hi) hv, ih _ _ (by omega) (or_lt hm hi) (or_lt hv hi)⟩
    · rw [if_neg hc, if_neg hc]
theorem impl_asker_left_six {n w m v : Nat} (t : Tab n w) (hn : n ≤ 4) (hm : m < 2 ^ n) (hv : v < 2 ^ n) : impl_asker_left.f n w 6 m v = some (askD n w m v) :=
  impl_asker_left_eq t hn 6 m v (by have := frees_le m n; omega) hm hv

theorem spec_l3Cube_ev {n w m x : Nat} (t : Tab n w) (hx : x < 2 ^ n) (hm : m < 32) : Ev (fun k => spec_l3Cube.f k n w m ((x &&& m : Nat) : Int)) (cubeV n w m (x &&& m)) := by
  have hn := t.hn
  have hs := t.size
  unfold spec_l3Cube.f
  have h := ev_for (fun k i => if cubeBoth w m (x &&& m) i = true then some 2 else spec_l3Cube.l0 k m ((x &&& m : Nat) : Int) (cubeOut w m (x &&& m) i) (i : Int) n w) (2 ^ n) (r := cubeV n w m (x &&& m)) ?_ ?_
  · exact h
  · intro i hi h
    by_cases hb : cubeBoth w m (x &&& m) i = true
    · have hb2 : cubeBoth w m (x &&& m) (i + 1) = true := by
        unfold cubeBoth at hb ⊢
        rw [Bool.and_eq_true] at hb
        simp only [seenB]
        rw [hb.1, hb.2]
        rfl
      simp only [if_pos hb2] at h
      simp only [if_pos hb]
      exact h
    · simp only [if_neg hb]
      refine Ev.step (fun k => ?_) h
      simp only [spec_l3Cube.l0]
      rw [if_pos (Int.natCast_nonneg _), shl1 (by omega), if_pos (Int.ofNat_lt.mpr hi), bandN (by omega) (by omega), w64 (by omega) (by omega), at1 t.w63]
      unfold cubeBoth cubeOut at *
      simp only [seenB]
      by_cases he : i &&& m = x &&& m
      · rw [if_pos (by rw [he]), if_pos (Int.natCast_nonneg _)]
        simp only [he, beq_self_eq_true, Bool.true_and]
        cases h1 : seenB w m (x &&& m) true i <;> cases h2 : seenB w m (x &&& m) false i <;> cases h3 : w.testBit i <;> simp_all [b2i]
      · rw [if_neg (by omega)]
        have : (i &&& m == x &&& m) = false := by simpa using he
        simp only [this, Bool.false_and, Bool.or_false]
        rw [if_neg hb]
        rfl
  · by_cases hb : cubeBoth w m (x &&& m) (2 ^ n) = true
    · simp only [if_pos hb]
      rw [cubeV_both hb]
      exact Ev.now _
    · simp only [if_neg hb]
      refine ev0 fun k => ?_
      simp only [spec_l3Cube.l0]
      rw [if_pos (Int.natCast_nonneg _), shl1 (by omega), if_neg (by omega), cubeV_out hx rfl hb]

theorem spec_l7Least_ev {n w : Nat} (t : Tab n w) (hn : n ≤ 4) : ∀ (d m v : Nat), frees m n < d → m < 2 ^ n → v &&& m = v → Ev (fun k => spec_l7Least.f k n w m v) (askD n w m v) := by
  have hp : 2 ^ n ≤ 2 ^ 4 := Nat.pow_le_pow_right (by omega) hn
  intro d
  induction d with
  | zero => intro m v h; omega
  | succ d ih =>
    intro m v h hm hv
    have hv2 := sub_lt hm hv
    have hcube := spec_l3Cube_ev t hv2 (m := m) (by omega)
    rw [hv] at hcube
    by_cases hc : cubeV n w m v = 2
    · refine evs1 hcube (G := fun k => spec_l7Least.l0 k m v 10 0 n w) (fun k hk => ?_) ?_
      · simp only [spec_l7Least.f]
        rw [hk, Option.bind_some, if_neg (by omega)]
      · have hl := ev_for (fun k i => spec_l7Least.l0 k m v (leastI (opens m) (fun i => 1 + mx (askD n w (m ||| 2 ^ i) v) (askD n w (m ||| 2 ^ i) (v ||| 2 ^ i))) 10 i) (i : Int) n w) n (r := askD n w m v) ?_ ?_
        · exact hl
        · intro i hi hE
          have hs : 2 ^ i < 2 ^ n := Nat.pow_lt_pow_right (by omega) hi
          cases hb : m.testBit i with
          | false =>
            have ho := opens_yes.2 hb
            have hf := frees_or hi hb
            have e0 := ih (m ||| 2 ^ i) v (by omega) (or_lt hm hi) (sub_zero hv)
            have e1 := ih (m ||| 2 ^ i) (v ||| 2 ^ i) (by omega) (or_lt hm hi) (sub_one hv)
            have h0 := askD_range n w (m ||| 2 ^ i) v
            have h1 := askD_range n w (m ||| 2 ^ i) (v ||| 2 ^ i)
            have h2 := mx_le h0.2 h1.2
            have h3 := mx_ge (askD n w (m ||| 2 ^ i) v) (askD n w (m ||| 2 ^ i) (v ||| 2 ^ i))
            refine evs2 e0 e1 (fun k k0 k1 => ?_) hE
            simp only [spec_l7Least.l0]
            rw [if_pos (Int.ofNat_lt.mpr hi), if_pos (Int.natCast_nonneg _), shl1 (by omega), bandN (by omega) (by omega), and_pow_no hb, if_pos (show ((0 : Nat) : Int) = 0 from rfl), borN (by omega) (by omega), borN (by omega) (by omega), k0, Option.bind_some, k1, Option.bind_some, w64 (by omega) (by omega), w64 (by omega) (by omega)]
            simp only [leastI]
            rw [if_pos ho]
            rfl
          | true =>
            have hq : ((2 ^ i : Nat) : Int) ≠ 0 := by have := Nat.two_pow_pos i; omega
            refine Ev.step (fun k => ?_) hE
            simp only [spec_l7Least.l0]
            rw [if_pos (Int.ofNat_lt.mpr hi), if_pos (Int.natCast_nonneg _), shl1 (by omega), bandN (by omega) (by omega), and_pow_yes hb, if_neg hq, w64 (by omega) (by omega)]
            simp only [leastI]
            rw [if_neg (fun h => by rw [opens_yes.1 h] at hb; exact Bool.noConfusion hb)]
            rfl
        · refine ev0 fun k => ?_
          simp only [spec_l7Least.l0]
          rw [if_neg (by omega), askD_from (by omega) hc]
    · refine evs1 hcube (G := fun _ => some (askD n w m v)) (fun k hk => ?_) (Ev.now _)
      have := cubeV_range n w m v
      simp only [spec_l7Least.f]
      rw [hk, Option.bind_some, if_pos (by omega), askD_zero hc]
theorem spec_l7Least_six {n w m v : Nat} (t : Tab n w) (hn : n ≤ 4) (hm : m < 2 ^ n) (hv : v &&& m = v) : Ev (fun k => spec_l7Least.f k n w m v) (askD n w m v) :=
  spec_l7Least_ev t hn 6 m v (by have := frees_le m n; omega) hm hv

theorem spec_AdversaryAnswer_ev {n w m v i : Nat} (t : Tab n w) (hn : n ≤ 4) (hm : m < 2 ^ n) (hs : v &&& m = v) (hi : i < n) (hb : m.testBit i = false) : Ev (fun k => spec_AdversaryAnswer.f k n w m v i) ((adv n w m v i : Nat) : Int) := by
  have hp : 2 ^ n ≤ 2 ^ 4 := Nat.pow_le_pow_right (by omega) hn
  have hq : 2 ^ i < 2 ^ n := Nat.pow_lt_pow_right (by omega) hi
  have hv := sub_lt hm hs
  unfold spec_AdversaryAnswer.f
  simp only [spec_l8Fine_eq, isKn_mk t hn hm hs, spec_l1In_eq, Option.bind_some, if_true, w64 (x := (n : Int) - 1) (by omega) (by omega), decide_eq_true (show (0 : Int) ≤ i ∧ (i : Int) ≤ n - 1 by omega), if_pos (Int.natCast_nonneg _), at1 (show m < 9223372036854775808 by omega), hb]
  refine evs2 (spec_l7Least_six t hn (or_lt hm hi) (sub_one hs)) (spec_l7Least_six t hn (or_lt hm hi) (sub_zero hs)) (fun k h1 h0 => ?_) (Ev.now _)
  simp only [spec_AdversaryAnswer.j0]
  rw [if_neg (by decide), if_pos (Int.natCast_nonneg _), shl1 (by omega), borN (by omega) (by omega), borN (by omega) (by omega), h1, Option.bind_some, h0, Option.bind_some]
  unfold adv
  split <;> rfl
theorem impl_asker_answer_eq {n w m v i : Nat} (t : Tab n w) (hn : n ≤ 4) (hm : m < 2 ^ n) (hv : v < 2 ^ n) (hi : i < n) : impl_asker_answer.f n w m v i = some ((adv n w m v i : Nat) : Int) := by
  have hp : 2 ^ n ≤ 2 ^ 4 := Nat.pow_le_pow_right (by omega) hn
  unfold impl_asker_answer.f
  rw [impl_known_with_one (by omega) (by omega) (by omega), Option.bind_some, impl_asker_left_six t hn (or_lt hm hi) (or_lt hv hi), Option.bind_some, impl_known_with_zero (by omega) (by omega) (by omega), Option.bind_some, impl_asker_left_six t hn (or_lt hm hi) hv, Option.bind_some]
  unfold adv
  split <;> rfl

theorem spec_AdversaryAnswer_no {b W m v i : Int} (hi : (Lit.int .i64 i).wf = true) (hbw : (Lit.int .i64 b).wf = true) (h : isKn b W m v = true → ¬ (0 ≤ i ∧ i < b) ∨ Go.bits .and .i64 (shr .i64 m i) 1 = 1) : Ev (fun k => spec_AdversaryAnswer.f k b W m v i) (-1) := by
  unfold spec_AdversaryAnswer.f
  simp only [spec_l8Fine_eq, spec_l1In_eq, Option.bind_some]
  have hj : Ev (fun k => spec_AdversaryAnswer.j0 k m v i true b W) (-1) := ev0 fun k => by simp only [spec_AdversaryAnswer.j0, if_true]
  by_cases hk : isKn b W m v = true
  · simp only [hk, if_true]
    obtain ⟨n, w, m, v, rfl, rfl, rfl, rfl, t, hn, hm2, hs⟩ := isKn_yes hk
    rw [w64 (by omega) (by omega)]
    by_cases hr : 0 ≤ i ∧ i ≤ (n : Int) - 1
    · rcases h hk with h1 | h1
      · omega
      · simp only [decide_eq_true hr, if_true, if_pos hr.1, h1]
        exact hj
    · simp only [decide_eq_false hr]
      exact hj
  · simp only [if_neg hk]
    exact hj
theorem AdversaryAnswer_key (b W m v i : Int) (hb : (Lit.int .i64 b).wf = true) (hm : (Lit.int .i64 m).wf = true) (hv : (Lit.int .i64 v).wf = true) (hi : (Lit.int .i64 i).wf = true) : ∃ r, Ev (fun k => spec_AdversaryAnswer.f k b W m v i) r ∧ impl_AdversaryAnswer.f b W m v i = some r ∧ (r = -1 ∨ ∃ (n w m' v' i' : Nat), b = n ∧ W = w ∧ m = m' ∧ v = v' ∧ i = i' ∧ Tab n w ∧ n ≤ 4 ∧ m' < 2 ^ n ∧ v' &&& m' = v' ∧ i' < n ∧ m'.testBit i' = false ∧ r = ((adv n w m' v' i' : Nat) : Int)) := by
  by_cases h : isKn b W m v = true ∧ (0 ≤ i ∧ i < b) ∧ Go.bits .and .i64 (shr .i64 m i) 1 ≠ 1
  · obtain ⟨hk, hr, hq⟩ := h
    obtain ⟨n, w, m, v, rfl, rfl, rfl, rfl, t, hn, hm2, hs⟩ := isKn_yes hk
    obtain ⟨i, rfl⟩ := Int.eq_ofNat_of_zero_le hr.1
    have hp : 2 ^ n ≤ 2 ^ 4 := Nat.pow_le_pow_right (by omega) hn
    have hbit : m.testBit i = false := by
      rw [at1 (by omega)] at hq
      cases hb : m.testBit i with
      | false => rfl
      | true => rw [hb] at hq; exact absurd rfl hq
    refine ⟨_, spec_AdversaryAnswer_ev t hn hm2 hs (by omega) hbit, ?_, .inr ⟨n, w, m, v, i, rfl, rfl, rfl, rfl, rfl, t, hn, hm2, hs, by omega, hbit, rfl⟩⟩
    unfold impl_AdversaryAnswer.f
    rw [impl_isKnown_eq _ _ _ _ hv, Option.bind_some, if_pos hk, if_neg (by omega), if_neg (by omega), if_neg hq]
    exact impl_asker_answer_eq t hn hm2 (sub_lt hm2 hs) (by omega)
  · refine ⟨-1, spec_AdversaryAnswer_no hi hb (fun hk => ?_), ?_, .inl rfl⟩
    · by_cases hr : 0 ≤ i ∧ i < b
      · right
        by_cases hq : Go.bits .and .i64 (shr .i64 m i) 1 = 1
        · exact hq
        · exact absurd ⟨hk, hr, hq⟩ h
      · exact .inl hr
    · unfold impl_AdversaryAnswer.f
      rw [impl_isKnown_eq _ _ _ _ hv, Option.bind_some]
      by_cases hk : isKn b W m v = true
      · rw [if_pos hk]
        by_cases h1 : i < 0
        · rw [if_pos h1]
        · rw [if_neg h1]
          by_cases h2 : b ≤ i
          · rw [if_pos h2]
          · rw [if_neg h2]
            by_cases hq : Go.bits .and .i64 (shr .i64 m i) 1 = 1
            · rw [if_pos hq]
            · exact absurd ⟨hk, ⟨by omega, by omega⟩, hq⟩ h
      · rw [if_neg hk]

def letterS (j : Nat) : ByteArray := (⟨#[97, 98, 99, 100, 101]⟩ : ByteArray).extract j (j + 1)
def digitS (c : Int) : ByteArray := (⟨#[48, 49]⟩ : ByteArray).extract c.toNat (c + 1).toNat
/-- The best tree, as a text. -/
def bestS (n w : Nat) : Nat → Nat → Nat → ByteArray
  | 0, _, _ => ⟨#[]⟩
  | d + 1, m, v => if cubeV n w m v = 2 then (letterS (frst n w m v).toNat ++ bestS n w d (m ||| 2 ^ (frst n w m v).toNat) v) ++ bestS n w d (m ||| 2 ^ (frst n w m v).toNat) (v ||| 2 ^ (frst n w m v).toNat) else digitS (cubeV n w m v)
theorem letterS_size {j : Nat} (h : j < 5) : (letterS j).size = 1 := by
  unfold letterS
  rw [ByteArray.size_extract]
  show min (j + 1) 5 - j = 1
  omega
theorem digitS_size {c : Int} (h : c = 0 ∨ c = 1) : (digitS c).size = 1 := by
  unfold digitS
  rw [ByteArray.size_extract]
  show min (c + 1).toNat 2 - c.toNat = 1
  omega
theorem bestS_size {n w : Nat} (hn : n ≤ 4) : ∀ d m v, (bestS n w d m v).size ≤ 2 ^ d - 1 := by
  intro d
  induction d with
  | zero => intro m v; exact Nat.le_refl _
  | succ d ih =>
    intro m v
    have hp := Nat.two_pow_pos d
    rw [Nat.pow_succ]
    simp only [bestS]
    split
    · rename_i hc
      obtain ⟨j, e, hj, _⟩ := frst_some hc
      rw [e, Int.toNat_natCast, ByteArray.size_append, ByteArray.size_append, letterS_size (by omega)]
      have h1 := ih (m ||| 2 ^ j) v
      have h2 := ih (m ||| 2 ^ j) (v ||| 2 ^ j)
      omega
    · rename_i hc
      have := cubeV_range n w m v
      rw [digitS_size (by omega)]
      omega
theorem spec_l7Best_j {k n w m v j : Nat} {need : Int} {x0 x1 : ByteArray} (hn : n ≤ 4) (hm : m < 2 ^ n) (hv : v < 2 ^ n) (hj : j < n) (h0 : spec_l7Best.f k n w ((m ||| 2 ^ j : Nat) : Int) v = some x0) (h1 : spec_l7Best.f k n w ((m ||| 2 ^ j : Nat) : Int) ((v ||| 2 ^ j : Nat) : Int) = some x1) (s0 : x0.size ≤ 64) (s1 : x1.size ≤ 64) :
    spec_l7Best.j1 (k + 1) m v need (j : Int) ((2 ^ j : Nat) : Int) true n w = some ((letterS j ++ x0) ++ x1) := by
  have hp : 2 ^ n ≤ 2 ^ 4 := Nat.pow_le_pow_right (by omega) hn
  have hs : 2 ^ j < 2 ^ n := Nat.pow_lt_pow_right (by omega) hj
  have hL := letterS_size (j := j) (by omega)
  have ew : wrap64 ((j : Int) + 1) = ((j + 1 : Nat) : Int) := by rw [w64 (by omega) (by omega)]; rfl
  have eL : (⟨#[97, 98, 99, 100, 101]⟩ : ByteArray).extract ((j : Int)).toNat (((j + 1 : Nat) : Int)).toNat = letterS j := by rw [Int.toNat_natCast, Int.toNat_natCast]; rfl
  simp only [spec_l7Best.j1, if_true]
  rw [if_pos (Int.natCast_nonneg _), ew, if_pos (by omega), if_pos (by omega), borN (by omega) (by omega), borN (by omega) (by omega), h0, Option.bind_some, eL, hL, if_pos (by omega), h1, Option.bind_some, ByteArray.size_append, hL, if_pos (by omega)]
theorem spec_l7Best_bad {k n w m v i : Nat} {need : Int} (hn : n ≤ 4) (hi : i < n) : spec_l7Best.j1 (k + 1) m v need (i : Int) ((2 ^ i : Nat) : Int) false n w = spec_l7Best.l0 k m v need ((i + 1 : Nat) : Int) n w := by
  simp only [spec_l7Best.j1, Bool.false_eq_true, if_false]
  rw [w64 (by omega) (by omega)]
  rfl
theorem spec_l7Best_open {k n w m v i : Nat} {need a b : Int} (hn : n ≤ 4) (hm : m < 2 ^ n) (hv : v < 2 ^ n) (hi : i < n) (hb : m.testBit i = false) (ha : 0 ≤ a ∧ a ≤ 4) (hb2 : 0 ≤ b ∧ b ≤ 4) (k0 : spec_l7Least.f k n w ((m ||| 2 ^ i : Nat) : Int) v = some a) (k1 : spec_l7Least.f k n w ((m ||| 2 ^ i : Nat) : Int) ((v ||| 2 ^ i : Nat) : Int) = some b) :
    spec_l7Best.l0 (k + 1) m v need (i : Int) n w = spec_l7Best.j1 k m v need (i : Int) ((2 ^ i : Nat) : Int) ((1 + mx a b) == need) n w := by
  have hp : 2 ^ n ≤ 2 ^ 4 := Nat.pow_le_pow_right (by omega) hn
  have hs : 2 ^ i < 2 ^ n := Nat.pow_lt_pow_right (by omega) hi
  have h2 := mx_le (c := 4) ha.2 hb2.2
  have h3 := mx_ge a b
  simp only [spec_l7Best.l0]
  rw [if_pos (by omega), if_pos (Int.natCast_nonneg _), shl1 (by omega), bandN (by omega) (by omega), and_pow_no hb, if_pos (show ((0 : Nat) : Int) = 0 from rfl), borN (by omega) (by omega), borN (by omega) (by omega), k0, Option.bind_some, k1, Option.bind_some, w64 (by omega) (by omega)]
theorem spec_l7Best_shut {k n w m v i : Nat} {need : Int} (hn : n ≤ 4) (hm : m < 2 ^ n) (hi : i < n) (hb : m.testBit i = true) :
    spec_l7Best.l0 (k + 1) m v need (i : Int) n w = spec_l7Best.j1 k m v need (i : Int) ((2 ^ i : Nat) : Int) false n w := by
  have hp : 2 ^ n ≤ 2 ^ 4 := Nat.pow_le_pow_right (by omega) hn
  have hs : 2 ^ i < 2 ^ n := Nat.pow_lt_pow_right (by omega) hi
  have hq : ((2 ^ i : Nat) : Int) ≠ 0 := by have := Nat.two_pow_pos i; omega
  simp only [spec_l7Best.l0]
  rw [if_pos (by omega), if_pos (Int.natCast_nonneg _), shl1 (by omega), bandN (by omega) (by omega), and_pow_yes hb, if_neg hq]
theorem spec_l7Best_ev {n w : Nat} (t : Tab n w) (hn : n ≤ 4) : ∀ (d m v : Nat), d ≤ 6 → frees m n < d → m < 2 ^ n → v &&& m = v → Ev (fun k => spec_l7Best.f k n w m v) (bestS n w d m v) := by
  have hp : 2 ^ n ≤ 2 ^ 4 := Nat.pow_le_pow_right (by omega) hn
  intro d
  induction d with
  | zero => intro m v _ h; omega
  | succ d ih =>
    intro m v hd6 h hm hv
    have hv2 := sub_lt hm hv
    have hcube := spec_l3Cube_ev t hv2 (m := m) (by omega)
    rw [hv] at hcube
    simp only [bestS]
    by_cases hc : cubeV n w m v = 2
    · rw [if_pos hc]
      obtain ⟨j, ej, hj, hg, hbad⟩ := frst_some hc
      rw [ej, Int.toNat_natCast]
      have hneed := spec_l7Least_six t hn hm hv
      refine evs2 hcube hneed (G := fun k => spec_l7Best.l0 k m v (askD n w m v) 0 n w) (fun k hk hk2 => ?_) ?_
      · simp only [spec_l7Best.f]
        rw [hk, Option.bind_some, if_neg (by omega), hk2, Option.bind_some]
      · have hl := ev_for (fun k i => spec_l7Best.l0 k m v (askD n w m v) (i : Int) n w) j (r := (letterS j ++ bestS n w d (m ||| 2 ^ j) v) ++ bestS n w d (m ||| 2 ^ j) (v ||| 2 ^ j)) ?_ ?_
        · exact hl
        · intro i hi hE
          have hin : i < n := by omega
          have hb0 := hbad i hi
          have hE2 := Ev.step (f := fun k => spec_l7Best.l0 k m v (askD n w m v) ((i + 1 : Nat) : Int) n w) (g := fun k => spec_l7Best.j1 k m v (askD n w m v) (i : Int) ((2 ^ i : Nat) : Int) false n w) (fun k => spec_l7Best_bad hn hin) hE
          cases hb : m.testBit i with
          | false =>
            have ho := opens_yes.2 hb
            have e0 := spec_l7Least_six t hn (or_lt hm hin) (sub_zero hv)
            have e1 := spec_l7Least_six t hn (or_lt hm hin) (sub_one hv)
            have h0 := askD_range n w (m ||| 2 ^ i) v
            have h1 := askD_range n w (m ||| 2 ^ i) (v ||| 2 ^ i)
            have hne : ((1 + mx (askD n w (m ||| 2 ^ i) v) (askD n w (m ||| 2 ^ i) (v ||| 2 ^ i))) == askD n w m v) = false := by
              rw [beq_eq_false_iff_ne]
              intro e
              rw [(good_iff hin ho).2 e] at hb0
              exact Bool.noConfusion hb0
            refine evs2 e0 e1 (fun k k0 k1 => ?_) hE2
            rw [spec_l7Best_open hn hm hv2 hin hb ⟨h0.1, by omega⟩ ⟨h1.1, by omega⟩ k0 k1, hne]
          | true => exact Ev.step (fun k => spec_l7Best_shut hn hm hin hb) hE2
        · have ho : opens m j = true := by
            unfold good at hg
            rw [Bool.and_eq_true, Bool.and_eq_true] at hg
            exact hg.1.1
          have hb := opens_yes.1 ho
          have hf := frees_or hj hb
          have e0 := spec_l7Least_six t hn (or_lt hm hj) (sub_zero hv)
          have e1 := spec_l7Least_six t hn (or_lt hm hj) (sub_one hv)
          have h0 := askD_range n w (m ||| 2 ^ j) v
          have h1 := askD_range n w (m ||| 2 ^ j) (v ||| 2 ^ j)
          have hyes : ((1 + mx (askD n w (m ||| 2 ^ j) v) (askD n w (m ||| 2 ^ j) (v ||| 2 ^ j))) == askD n w m v) = true := by
            rw [beq_iff_eq]
            exact (good_iff hj ho).1 hg
          have b0 := ih (m ||| 2 ^ j) v (by omega) (by omega) (or_lt hm hj) (sub_zero hv)
          have b1 := ih (m ||| 2 ^ j) (v ||| 2 ^ j) (by omega) (by omega) (or_lt hm hj) (sub_one hv)
          have s0 := bestS_size (w := w) hn d (m ||| 2 ^ j) v
          have s1 := bestS_size (w := w) hn d (m ||| 2 ^ j) (v ||| 2 ^ j)
          have hpd : 2 ^ d ≤ 2 ^ 6 := Nat.pow_le_pow_right (by omega) (by omega)
          refine evs2 e0 e1 (G := fun k => spec_l7Best.j1 k m v (askD n w m v) (j : Int) ((2 ^ j : Nat) : Int) true n w) (fun k k0 k1 => ?_) ?_
          · rw [spec_l7Best_open hn hm hv2 hj hb ⟨h0.1, by omega⟩ ⟨h1.1, by omega⟩ k0 k1, hyes]
          · exact evs2 b0 b1 (G := fun _ => some ((letterS j ++ bestS n w d (m ||| 2 ^ j) v) ++ bestS n w d (m ||| 2 ^ j) (v ||| 2 ^ j))) (fun k k0 k1 => spec_l7Best_j hn hm hv2 hj k0 k1 (by omega) (by omega)) (Ev.now _)
    · rw [if_neg hc]
      refine evs1 hcube (G := fun _ => some (digitS (cubeV n w m v))) (fun k hk => ?_) (Ev.now _)
      simp only [spec_l7Best.f]
      rw [hk, Option.bind_some, if_pos (by have := cubeV_range n w m v; omega)]
      have hr := cubeV_range n w m v
      rw [w64 (by omega) (by omega), if_pos (by omega), if_pos (by omega), if_pos (by omega)]
      rfl

theorem impl_asker_first_l {n w m v : Nat} (t : Tab n w) (hn : n ≤ 4) (hm : m < 2 ^ n) (hv : v < 2 ^ n) : ∀ d i, i + d = n → impl_asker_first.l n w m v (askD n w m v) d i = some (firstG n w m v d i) := by
  have hp : 2 ^ n ≤ 2 ^ 4 := Nat.pow_le_pow_right (by omega) hn
  intro d
  induction d with
  | zero => intro i _; rfl
  | succ d ih =>
    intro i hi
    have h0 := askD_range n w (m ||| 2 ^ i) v
    simp only [impl_asker_first.l, firstG]
    rw [ih (i + 1) (by omega)]
    by_cases h1 : 0 < askD n w m v
    · rw [if_pos h1]
      cases hb : m.testBit i with
      | false =>
        have ho := opens_yes.2 hb
        rw [if_pos ((bit_zero (by omega)).2 hb), impl_known_with_zero (by omega) (by omega) (by omega), Option.bind_some, impl_asker_left_six t hn (or_lt hm (by omega)) hv, Option.bind_some]
        by_cases hx : askD n w (m ||| 2 ^ i) v < askD n w m v
        · rw [if_pos hx, impl_known_with_one (by omega) (by omega) (by omega), Option.bind_some, impl_asker_left_six t hn (or_lt hm (by omega)) (or_lt hv (by omega)), Option.bind_some]
          by_cases hy : askD n w (m ||| 2 ^ i) (v ||| 2 ^ i) < askD n w m v
          · rw [if_pos hy, if_pos (by unfold good; rw [ho, decide_eq_true hx, decide_eq_true hy]; rfl)]
          · rw [if_neg hy, if_neg (by unfold good; rw [decide_eq_false hy, Bool.and_false]; decide)]
        · rw [if_neg hx, if_neg (by unfold good; rw [decide_eq_false hx, Bool.and_false, Bool.false_and]; decide)]
      | true =>
        rw [if_neg (fun h => by rw [(bit_zero (by omega)).1 h] at hb; exact Bool.noConfusion hb), if_neg (by unfold good opens; rw [hb]; simp)]
    · rw [if_neg h1, if_neg (by unfold good; rw [decide_eq_false (by omega : ¬ askD n w (m ||| 2 ^ i) v < askD n w m v), Bool.and_false, Bool.false_and]; decide)]
theorem impl_asker_first_eq {n w m v : Nat} (t : Tab n w) (hn : n ≤ 4) (hm : m < 2 ^ n) (hv : v < 2 ^ n) : impl_asker_first.f n w m v = some (frst n w m v) := by
  unfold impl_asker_first.f
  rw [impl_asker_left_six t hn hm hv, Option.bind_some, Int.toNat_natCast]
  exact impl_asker_first_l t hn hm hv n 0 (by omega)

theorem letterS_list {j : Nat} (h : j < 5) : (letterS j).data.toList = [UInt8.ofNat (97 + j)] := by
  rcases (by omega : j = 0 ∨ j = 1 ∨ j = 2 ∨ j = 3 ∨ j = 4) with rfl | rfl | rfl | rfl | rfl <;> rfl
theorem bt_zero {s : ByteArray} {b : UInt8} {l : List UInt8} (h : s.data.toList = b :: l) : bt s 0 = (b.toNat : Int) := by
  have hs : 0 < s.size := by
    show 0 < s.data.size
    rw [← Array.length_toList, h]
    simp
  unfold bt
  rw [dif_pos (show (0 : Int).toNat < s.size from hs)]
  congr 2
  show s.data[0] = b
  rw [← Array.getElem_toList]
  simp [h]
theorem AskedOf_key (b W m v : Int) (hb : (Lit.int .i64 b).wf = true) (hm : (Lit.int .i64 m).wf = true) (hv : (Lit.int .i64 v).wf = true) : ∃ r, Ev (fun k => spec_AskedOf.f k b W m v) r ∧ impl_AskedOf.f b W m v = some r := by
  unfold spec_AskedOf.f impl_AskedOf.f
  simp only [spec_l8Fine_eq, impl_isKnown_eq b W m v hv, Option.bind_some, hm, hv, and_self, if_true]
  by_cases h : isKn b W m v = true
  · simp only [if_pos h]
    obtain ⟨n, w, m, v, rfl, rfl, rfl, rfl, t, hn, hm2, hs⟩ := isKn_yes h
    refine ⟨_, ?_, impl_asker_first_eq t hn hm2 (sub_lt hm2 hs)⟩
    refine ev1' (spec_l7Best_ev t hn 6 m v (by omega) (by have := frees_le m n; omega) hm2 hs) fun k hk => ?_
    rw [hk, Option.bind_some]
    clear hk
    by_cases hc : cubeV n w m v = 2
    · obtain ⟨j, ej, hj, _, _⟩ := frst_some hc
      have hbs : bestS n w 6 m v = (letterS j ++ bestS n w 5 (m ||| 2 ^ j) v) ++ bestS n w 5 (m ||| 2 ^ j) (v ||| 2 ^ j) := by
        rw [bestS, if_pos hc, ej, Int.toNat_natCast]
      obtain ⟨l, hl⟩ : ∃ l, (bestS n w 6 m v).data.toList = UInt8.ofNat (97 + j) :: l := by
        refine ⟨(bestS n w 5 (m ||| 2 ^ j) v).data.toList ++ (bestS n w 5 (m ||| 2 ^ j) (v ||| 2 ^ j)).data.toList, ?_⟩
        rw [hbs, ByteArray.data_append, ByteArray.data_append, Array.toList_append, Array.toList_append, letterS_list (by omega)]
        simp
      clear hbs
      generalize bestS n w 6 m v = s at hl ⊢
      have h48 : UInt8.ofNat (97 + j) ≠ 48 := by
        rcases (by omega : j = 0 ∨ j = 1 ∨ j = 2 ∨ j = 3 ∨ j = 4) with rfl | rfl | rfl | rfl | rfl <;> decide
      have h49 : UInt8.ofNat (97 + j) ≠ 49 := by
        rcases (by omega : j = 0 ∨ j = 1 ∨ j = 2 ∨ j = 3 ∨ j = 4) with rfl | rfl | rfl | rfl | rfl <;> decide
      have hu : (UInt8.ofNat (97 + j)).toNat = 97 + j := by
        rcases (by omega : j = 0 ∨ j = 1 ∨ j = 2 ∨ j = 3 ∨ j = 4) with rfl | rfl | rfl | rfl | rfl <;> rfl
      have n48 : ¬ s.toList = [48] := by rw [Go.ByteArray.toList_eq, hl]; exact fun e => h48 (List.cons.inj e).1
      have n49 : ¬ s.toList = [49] := by rw [Go.ByteArray.toList_eq, hl]; exact fun e => h49 (List.cons.inj e).1
      have hsz : 0 < s.size := by
        show 0 < s.data.size
        rw [← Array.length_toList, hl]
        simp
      rw [if_neg n48, if_neg n49, if_pos (by omega), bt_zero hl, hu, w64 (x := ((97 + j : Nat) : Int)) (by omega) (by omega), w64 (by omega) (by omega), ej]
      congr 1
      omega
    · have hbs : bestS n w 6 m v = digitS (cubeV n w m v) := by rw [bestS, if_neg hc]
      rw [frst_none hc]
      rcases (by have := cubeV_range n w m v; omega : cubeV n w m v = 0 ∨ cubeV n w m v = 1) with e | e
      · have : (bestS n w 6 m v).toList = [48] := by rw [Go.ByteArray.toList_eq, hbs, e]; rfl
        rw [if_pos this]
      · have : (bestS n w 6 m v).toList = [49] := by rw [Go.ByteArray.toList_eq, hbs, e]; rfl
        rw [if_neg (by rw [this]; decide), if_pos this]
  · simp only [if_neg h]
    exact ⟨_, Ev.now _, rfl⟩

theorem ForcedLeft_key (b W m v : Int) (hb : (Lit.int .i64 b).wf = true) (hm : (Lit.int .i64 m).wf = true) (hv : (Lit.int .i64 v).wf = true) : ∃ r, Ev (fun k => spec_ForcedLeft.f k b W m v) r ∧ impl_ForcedLeft.f b W m v = some r := by
  unfold spec_ForcedLeft.f impl_ForcedLeft.f
  simp only [spec_l8Fine_eq, impl_isKnown_eq b W m v hv, Option.bind_some, hm, hv, and_self, if_true]
  by_cases h : isKn b W m v = true
  · simp only [if_pos h]
    obtain ⟨n, w, m, v, rfl, rfl, rfl, rfl, t, hn, hm2, hs⟩ := isKn_yes h
    exact ⟨_, ev1' (spec_l7Least_six t hn hm2 hs) fun k hk => by rw [hk]; rfl, impl_asker_left_six t hn hm2 (sub_lt hm2 hs)⟩
  · simp only [if_neg h]
    exact ⟨_, Ev.now _, rfl⟩

theorem small_yes {b W : Int} (h : (isTab b W && decide (b ≤ 4)) = true) : ∃ n w : Nat, b = n ∧ W = w ∧ Tab n w ∧ n ≤ 4 := by
  rw [Bool.and_eq_true, decide_eq_true_eq] at h
  obtain ⟨n, w, rfl, rfl, t⟩ := isTab_yes h.1
  exact ⟨n, w, rfl, rfl, t, by omega⟩
theorem impl_LeastDepth_eq (b W : Int) : impl_LeastDepth.f b W = some (if (isTab b W && decide (b ≤ 4)) = true then askD b.toNat W.toNat 0 0 else -1) := by
  unfold impl_LeastDepth.f
  rw [impl_isSmall_eq, Option.bind_some]
  by_cases h : (isTab b W && decide (b ≤ 4)) = true
  · obtain ⟨n, w, rfl, rfl, t, hn⟩ := small_yes h
    rw [if_pos h, if_pos h, Int.toNat_natCast, Int.toNat_natCast]
    exact impl_asker_left_six (m := 0) (v := 0) t hn (Nat.two_pow_pos n) (Nat.two_pow_pos n)
  · rw [if_neg h, if_neg h]
theorem IsEvasive_key (b W : Int) : ∃ r, Ev (fun k => spec_IsEvasive.f k b W) r ∧ impl_IsEvasive.f b W = some r := by
  unfold spec_IsEvasive.f impl_IsEvasive.f
  simp only [spec_IsTable_eq, impl_isSmall_eq, impl_LeastDepth_eq, Option.bind_some]
  by_cases h : (isTab b W && decide (b ≤ 4)) = true
  · obtain ⟨n, w, rfl, rfl, t, hn⟩ := small_yes h
    simp only [h, if_true, Int.toNat_natCast]
    refine ⟨_, ?_, rfl⟩
    simp only [isTab_mk t, if_true, if_pos (show (n : Int) ≤ 4 by omega)]
    exact ev1' (spec_l7Least_six (m := 0) (v := 0) t hn (Nat.two_pow_pos n) rfl) fun k hk => by rw [show ((0 : Nat) : Int) = 0 from rfl] at hk; rw [hk]; rfl
  · refine ⟨false, ?_, by rw [if_neg h]⟩
    rw [Bool.and_eq_true] at h
    by_cases h1 : isTab b W = true
    · have h2 : ¬ b ≤ 4 := fun h2 => h ⟨h1, decide_eq_true h2⟩
      simp only [h1, if_true, if_neg h2]
      exact Ev.now _
    · simp only [if_neg h1]
      exact Ev.now _

theorem spec_l3Perm_ev (l : List Int) (h : l.length ≤ 1048576) (n : Nat) (hn : n ≤ 5) : Ev (fun k => spec_l3Perm.f k l n) (ordB l n) := by
  rw [← perm_ord]
  unfold spec_l3Perm.f
  have := ev_for (fun k i => if okp l n i = true then spec_l3Perm.l0 k l n (i : Int) else some false) l.length (r := okp l n l.length && (l.length == n)) ?_ ?_
  · exact this
  · intro i hi hE
    by_cases ha : okp l n i = true
    · simp only [if_pos ha]
      rw [okp_succ, ha, Bool.true_and] at hE
      have hin := spec_l1In_eq (rd l (i : Int)) 0 ((n : Int) - 1)
      by_cases hr : 0 ≤ rd l (i : Int) ∧ rd l (i : Int) ≤ (n : Int) - 1
      · rw [decide_eq_true hr, Bool.true_and] at hE
        refine Ev.step (f := fun k => spec_l3Perm.l1 k l n (i : Int) 0) (fun k => ?_) ?_
        · simp only [spec_l3Perm.l0]
          rw [if_pos (Int.ofNat_lt.mpr hi), if_pos (Int.natCast_nonneg _), w64 (by omega) (by omega), hin, decide_eq_true hr, Option.bind_some, if_pos rfl]
        · have h2 := ev_for (fun k j => if dis l i j = true then spec_l3Perm.l1 k l n (i : Int) (j : Int) else some false) i (r := okp l n l.length && (l.length == n)) ?_ ?_
          · exact h2
          · intro j hj hF
            by_cases hd : dis l i j = true
            · simp only [if_pos hd]
              rw [dis_succ, hd, Bool.true_and] at hF
              by_cases e : rd l (j : Int) = rd l (i : Int)
              · rw [decide_eq_false (by simpa using e)] at hF
                simp only [Bool.false_eq_true, if_false] at hF
                refine Ev.step (fun k => ?_) hF
                simp only [spec_l3Perm.l1]
                rw [if_pos (Int.ofNat_lt.mpr hj), if_pos (Int.natCast_nonneg _), if_pos (by omega), if_pos (Int.natCast_nonneg _), if_pos (Int.ofNat_lt.mpr hi), if_pos e]
              · rw [decide_eq_true e] at hF
                simp only [if_true] at hF
                refine Ev.step (fun k => ?_) hF
                simp only [spec_l3Perm.l1]
                rw [if_pos (Int.ofNat_lt.mpr hj), if_pos (Int.natCast_nonneg _), if_pos (by omega), if_pos (Int.natCast_nonneg _), if_pos (Int.ofNat_lt.mpr hi), if_neg e, w64 (by omega) (by omega)]
                rfl
            · simp only [if_neg hd]
              rw [dis_succ, Bool.eq_false_iff.mpr hd, Bool.false_and] at hF
              exact hF
          · by_cases hd : dis l i i = true
            · simp only [if_pos hd]
              simp only [if_pos hd] at hE
              refine Ev.step (fun k => ?_) hE
              simp only [spec_l3Perm.l1]
              rw [if_neg (by omega), w64 (by omega) (by omega)]
              rfl
            · simp only [if_neg hd]
              simp only [if_neg hd] at hE
              exact hE
      · rw [decide_eq_false hr, Bool.false_and] at hE
        simp only [Bool.false_eq_true, if_false] at hE
        refine Ev.step (fun k => ?_) hE
        simp only [spec_l3Perm.l0]
        rw [if_pos (Int.ofNat_lt.mpr hi), if_pos (Int.natCast_nonneg _), w64 (by omega) (by omega), hin, decide_eq_false hr, Option.bind_some, if_neg (by decide)]
    · simp only [if_neg ha]
      rw [okp_succ, Bool.eq_false_iff.mpr ha, Bool.false_and] at hE
      exact hE
  · by_cases ha : okp l n l.length = true
    · simp only [if_pos ha]
      rw [ha, Bool.true_and]
      refine ev0 fun k => ?_
      simp only [spec_l3Perm.l0]
      rw [if_neg (by omega)]
      congr 1
      rw [Bool.eq_iff_iff, beq_iff_eq, beq_iff_eq]
      omega
    · simp only [if_neg ha]
      rw [Bool.eq_false_iff.mpr ha, Bool.false_and]
      exact Ev.now _

theorem slices_Index_int_int_ev (l : List Int) (h : l.length ≤ 1048576) (a : Int) : ∃ r, Ev (fun k => slices_Index_int_int.f k l a) r ∧ (r ≥ 0 ↔ l.contains a = true) := by
  have key : ∀ d i : Nat, i + d = l.length → ∃ r, Ev (fun k => slices_Index_int_int.l0 k l a (l.length : Int) (i : Int)) r ∧ (r ≥ 0 ↔ (l.drop i).contains a = true) := by
    intro d
    induction d with
    | zero =>
      intro i hi
      refine ⟨-1, ev0 fun k => ?_, ?_⟩
      · simp only [slices_Index_int_int.l0]
        rw [if_neg (by omega)]
      · rw [List.drop_of_length_le (by omega)]
        simp
    | succ d ih =>
      intro i hi
      have hlt : i < l.length := by omega
      rw [List.drop_eq_getElem_cons hlt]
      by_cases e : a = l[i]
      · refine ⟨(i : Int), ev0 fun k => ?_, ?_⟩
        · simp only [slices_Index_int_int.l0]
          rw [if_pos (Int.ofNat_lt.mpr hlt), if_pos (Int.natCast_nonneg _), if_pos (Int.ofNat_lt.mpr hlt), rd_getElem hlt, if_pos e]
        · rw [List.contains_cons, ← e, beq_self_eq_true, Bool.true_or]
          exact ⟨fun _ => rfl, fun _ => Int.natCast_nonneg _⟩
      · obtain ⟨r, hr, hc⟩ := ih (i + 1) (by omega)
        refine ⟨r, Ev.step (fun k => ?_) hr, ?_⟩
        · simp only [slices_Index_int_int.l0]
          rw [if_pos (Int.ofNat_lt.mpr hlt), if_pos (Int.natCast_nonneg _), if_pos (Int.ofNat_lt.mpr hlt), rd_getElem hlt, if_neg e, w64 (by omega) (by omega)]
          rfl
        · rw [List.contains_cons, show (a == l[i]) = false by simpa using e, Bool.false_or]
          exact hc
  exact key l.length 0 (by omega)
theorem slices_Contains_int_int_ev (l : List Int) (h : l.length ≤ 1048576) (a : Int) : Ev (fun k => slices_Contains_int_int.f k l a) (l.contains a) := by
  obtain ⟨r, hr, hc⟩ := slices_Index_int_int_ev l h a
  unfold slices_Contains_int_int.f
  refine ev1' hr fun k hk => ?_
  rw [hk, Option.bind_some]
  congr 1
  rw [Bool.eq_iff_iff, decide_eq_true_iff]
  exact hc
theorem impl_isOrder_ev (l : List Int) (h : l.length ≤ 1048576) (n : Nat) : Ev (fun k => impl_isOrder.f k l n) (ordB l n) := by
  unfold impl_isOrder.f
  by_cases hl : (l.length : Int) = n
  · simp only [if_pos hl]
    have hb : ordB l n = (List.range n).all fun i => l.contains (i : Int) := by
      unfold ordB
      rw [show (l.length == n) = true by rw [beq_iff_eq]; omega, Bool.true_and]
    rw [hb]
    have := ev_for (fun k i => if ((List.range i).all fun i => l.contains (i : Int)) = true then impl_isOrder.l0 k l n (i : Int) else some false) n (r := (List.range n).all fun i => l.contains (i : Int)) ?_ ?_
    · simpa using this
    · intro i hi hE
      by_cases ha : ((List.range i).all fun i => l.contains (i : Int)) = true
      · simp only [if_pos ha]
        rw [List.range_succ, List.all_append, ha, Bool.true_and] at hE
        refine evs1 (slices_Contains_int_int_ev l h (i : Int)) (fun k hk => ?_) hE
        simp only [impl_isOrder.l0]
        rw [if_pos (Int.ofNat_lt.mpr hi), hk, Option.bind_some, w64 (by omega) (by omega)]
        simp only [List.all_cons, List.all_nil, Bool.and_true]
        rfl
      · simp only [if_neg ha]
        rw [List.range_succ, List.all_append, Bool.eq_false_iff.mpr ha, Bool.false_and] at hE
        exact hE
    · by_cases ha : ((List.range n).all fun i => l.contains (i : Int)) = true
      · simp only [if_pos ha]
        rw [ha]
        refine ev0 fun k => ?_
        simp only [impl_isOrder.l0]
        rw [if_neg (by omega)]
      · simp only [if_neg ha]
        rw [Bool.eq_false_iff.mpr ha]
        exact Ev.now _
  · simp only [if_neg hl]
    have hb : ordB l n = false := by
      unfold ordB
      rw [show (l.length == n) = false by simp; omega, Bool.false_and]
    rw [hb]
    exact Ev.now _

theorem shlB {b i : Nat} (hb : b ≤ 1) (hi : i ≤ 5) : shl .i64 (b : Int) (i : Int) = ((b * 2 ^ i : Nat) : Int) := by
  have hp : 2 ^ i ≤ 2 ^ 5 := Nat.pow_le_pow_right (by omega) hi
  have : b * 2 ^ i ≤ 1 * 2 ^ i := Nat.mul_le_mul_right _ hb
  exact shlN (by omega)
theorem spec_PlayAgainst_l {n w : Nat} (t : Tab n w) (hn : n ≤ 4) (l : List Int) : ∀ (rest : List Nat) (j m v : Nat), l.drop j = rest.map (fun i : Nat => (i : Int)) → j + rest.length = l.length → l.length ≤ 5 → rest.Nodup → (∀ x ∈ rest, x < n ∧ m.testBit x = false) → frees m n = rest.length → m < 2 ^ n → v &&& m = v →
    Ev (fun k => spec_PlayAgainst.l0 k l m v j n w) ((playV n w rest j m v : Nat) : Int) := by
  have hp : 2 ^ n ≤ 2 ^ 4 := Nat.pow_le_pow_right (by omega) hn
  intro rest
  induction rest with
  | nil =>
    intro j m v hd hj hl5 _ _ hf hm hs
    have hc : cubeV n w m v ≠ 2 := fun h => by have := cubeV_free h; simp at hf; omega
    have hcube := spec_l3Cube_ev t (sub_lt hm hs) (m := m) (by omega)
    rw [hs] at hcube
    refine evs1 hcube (G := fun _ => some ((playV n w [] j m v : Nat) : Int)) (fun k hk => ?_) (Ev.now _)
    simp only [spec_PlayAgainst.l0]
    rw [hk, Option.bind_some, if_neg hc]
    rfl
  | cons i rest ih =>
    intro j m v hd hj hl5 hnd hx hf hm hs
    have hcube := spec_l3Cube_ev t (sub_lt hm hs) (m := m) (by omega)
    rw [hs] at hcube
    obtain ⟨hi, hb⟩ := hx i (by simp)
    rw [List.nodup_cons] at hnd
    by_cases hc : cubeV n w m v = 2
    · have hjl : j < l.length := by rw [List.length_cons] at hj; omega
      have hrd : rd l (j : Int) = (i : Int) := by
        rw [List.map_cons] at hd
        rw [rd_getElem hjl]
        have h2 := List.drop_eq_getElem_cons hjl
        rw [hd] at h2
        exact (List.cons.inj h2).1.symm
      have hd2 : l.drop (j + 1) = rest.map (fun i : Nat => (i : Int)) := by
        have h2 := List.drop_eq_getElem_cons hjl
        rw [hd, List.map_cons] at h2
        exact (List.cons.inj h2).2.symm
      have hav := adv_le n w m v i
      have hf2 := frees_or hi hb
      have hlt := or_lt hm hi
      have hv := sub_lt hm hs
      have hav2 := ans_lt hv hi hav
      have hq : 2 ^ i < 2 ^ n := Nat.pow_lt_pow_right (by omega) hi
      have hE := ih (j + 1) (m ||| 2 ^ i) (ans v i (adv n w m v i)) hd2 (by rw [List.length_cons] at hj; omega) hl5 hnd.2 (fun x hxl => by
        obtain ⟨h1, h2⟩ := hx x (by simp [hxl])
        refine ⟨h1, ?_⟩
        rw [Nat.testBit_or, h2, Nat.testBit_two_pow, decide_eq_false (show ¬ i = x from fun e => hnd.1 (e ▸ hxl))]
        rfl) (by rw [List.length_cons] at hf; omega) hlt (ans_sub hs hav)
      have e1 : playV n w (i :: rest) j m v = playV n w rest (j + 1) (m ||| 2 ^ i) (ans v i (adv n w m v i)) := by simp only [playV]; rw [if_pos hc]
      rw [e1]
      refine evs2 hcube (spec_AdversaryAnswer_ev t hn hm hs hi hb) (fun k h1 h2 => ?_) hE
      simp only [spec_PlayAgainst.l0]
      have hb1 : adv n w m v i * 2 ^ i ≤ 1 * 2 ^ i := Nat.mul_le_mul_right _ hav
      rw [h1, Option.bind_some, if_pos hc, if_pos (Int.natCast_nonneg _), if_pos (Int.ofNat_lt.mpr hjl), hrd, h2, Option.bind_some, if_pos (Int.natCast_nonneg _), shl1 (by omega), shlB hav (by omega), borN (by omega) (by omega), borN (by omega) (by omega), w64 (by omega) (by omega)]
      rfl
    · have e1 : playV n w (i :: rest) j m v = j := by simp only [playV]; rw [if_neg hc]
      rw [e1]
      refine evs1 hcube (G := fun _ => some (j : Int)) (fun k hk => ?_) (Ev.now _)
      simp only [spec_PlayAgainst.l0]
      rw [hk, Option.bind_some, if_neg hc]
theorem frees_zero (n : Nat) : frees 0 n = n := by
  induction n with
  | zero => rfl
  | succ n ih => simp only [frees]; rw [Nat.zero_testBit, ih]; rfl

theorem known_answer {n m v i b : Nat} (hn : n ≤ 4) (hm : m < 2 ^ n) (hv : v < 2 ^ n) (hi : i < n) (hb : b ≤ 1) : impl_known_with.f m v i b = some (((m ||| 2 ^ i : Nat) : Int), ((ans v i b : Nat) : Int)) := by
  have hp : 2 ^ n ≤ 2 ^ 4 := Nat.pow_le_pow_right (by omega) hn
  rcases (by omega : b = 0 ∨ b = 1) with rfl | rfl
  · rw [ans_zero]
    exact impl_known_with_zero (by omega) (by omega) (by omega)
  · rw [ans_one]
    exact impl_known_with_one (by omega) (by omega) (by omega)
theorem impl_PlayAgainst_l {n w : Nat} (t : Tab n w) (hn : n ≤ 4) : ∀ (rest : List Nat) (j m v : Nat), (∀ x ∈ rest, x < n) → m < 2 ^ n → v < 2 ^ n →
    impl_PlayAgainst.l n w (rest.map fun i : Nat => (i : Int)) j m v = some ((playV n w rest j m v : Nat) : Int) := by
  have hp : 2 ^ n ≤ 2 ^ 4 := Nat.pow_le_pow_right (by omega) hn
  intro rest
  induction rest with
  | nil => intro j m v _ _ _; rfl
  | cons i rest ih =>
    intro j m v hx hm hv
    have hi := hx i (by simp)
    rw [List.map_cons, impl_PlayAgainst.l, impl_Table_cube_eq t (by omega), Option.bind_some]
    simp only [playV]
    by_cases hc : cubeV n w m v = 2
    · rw [if_pos hc, if_pos hc, impl_asker_answer_eq t hn hm hv hi, Option.bind_some, known_answer hn hm hv hi (adv_le n w m v i), Option.bind_some]
      exact ih (j + 1) _ _ (fun x hxl => hx x (by simp [hxl])) (or_lt hm hi) (ans_lt hv hi (adv_le n w m v i))
    · rw [if_neg hc, if_neg hc]
theorem PlayAgainst_key (b W : Int) (l : List Int) (h : l.length ≤ 1048576) : ∃ r, Ev (fun k => spec_PlayAgainst.f k b W l) r ∧ Ev (fun k => impl_PlayAgainst.f k b W l) r ∧ (r = -1 ∨ ∃ (n w : Nat) (ns : List Nat), b = n ∧ W = w ∧ Tab n w ∧ n ≤ 4 ∧ ns.length = n ∧ ns.Nodup ∧ (∀ x ∈ ns, x < n) ∧ r = ((playV n w ns 0 0 0 : Nat) : Int)) := by
  have hj : Ev (fun k => spec_PlayAgainst.j0 k l true b W) (-1) := ev0 fun k => by simp only [spec_PlayAgainst.j0, if_true]
  by_cases hs : (isTab b W && decide (b ≤ 4)) = true
  · obtain ⟨n, w, rfl, rfl, t, hn⟩ : ∃ n w : Nat, b = n ∧ W = w ∧ Tab n w ∧ n ≤ 4 := by
      rw [Bool.and_eq_true, decide_eq_true_eq] at hs
      obtain ⟨n, w, rfl, rfl, t⟩ := isTab_yes hs.1
      exact ⟨n, w, rfl, rfl, t, by omega⟩
    have hk : isKn n w 0 0 = true := isKn_mk (m := 0) (v := 0) t hn (Nat.two_pow_pos n) rfl
    by_cases ho : ordB l n = true
    · obtain ⟨ns, hl, hlen, hnd, hlt⟩ := ordB_yes ho
      refine ⟨((playV n w ns 0 0 0 : Nat) : Int), ?_, ?_, .inr ⟨n, w, ns, rfl, rfl, t, hn, hlen, hnd, hlt, rfl⟩⟩
      · unfold spec_PlayAgainst.f
        simp only [spec_l8Fine_eq, hk, Option.bind_some, if_true]
        have hlenl : l.length = n := by rw [hl, List.length_map]; exact hlen
        have hE := spec_PlayAgainst_l t hn l ns 0 0 0 (by rw [List.drop_zero]; exact hl) (by omega) (by omega) hnd (fun x hx => ⟨hlt x hx, Nat.zero_testBit _⟩) (by rw [frees_zero]; omega) (Nat.two_pow_pos n) rfl
        refine ev1 (spec_l3Perm_ev l h n (by omega)) (G := fun k => spec_PlayAgainst.j0 k l false n w) (fun k hk => by rw [hk, ho]; rfl) ?_
        refine Ev.step (fun k => ?_) hE
        simp only [spec_PlayAgainst.j0, Bool.false_eq_true, if_false]
        rfl
      · unfold impl_PlayAgainst.f
        simp only [impl_isSmall_eq, hs, Option.bind_some, if_true]
        refine ev1' (impl_isOrder_ev l h n) fun k hk => ?_
        rw [hk, ho, Option.bind_some, if_pos rfl, if_pos (by omega), hl]
        exact impl_PlayAgainst_l t hn ns 0 0 0 hlt (Nat.two_pow_pos n) (Nat.two_pow_pos n)
    · refine ⟨-1, ?_, ?_, .inl rfl⟩
      · unfold spec_PlayAgainst.f
        simp only [spec_l8Fine_eq, hk, Option.bind_some, if_true]
        exact ev1 (spec_l3Perm_ev l h n (by omega)) (G := fun k => spec_PlayAgainst.j0 k l true n w) (fun k hk => by rw [hk, Bool.eq_false_iff.mpr ho]; rfl) hj
      · unfold impl_PlayAgainst.f
        simp only [impl_isSmall_eq, hs, Option.bind_some, if_true]
        refine ev1' (impl_isOrder_ev l h n) fun k hk => ?_
        rw [hk, Option.bind_some, if_neg ho]
  · refine ⟨-1, ?_, ?_, .inl rfl⟩
    · unfold spec_PlayAgainst.f
      simp only [spec_l8Fine_eq, Option.bind_some]
      have hk : isKn b W 0 0 = false := by unfold isKn; rw [Bool.eq_false_iff.mpr hs, Bool.false_and]
      simp only [hk, Bool.false_eq_true, if_false]
      exact hj
    · unfold impl_PlayAgainst.f
      simp only [impl_isSmall_eq, Option.bind_some, if_neg hs]
      exact Ev.now _

theorem rd_mem {L : List Int} {m : Int} (h0 : 0 ≤ m) (h1 : m < (L.length : Int)) : rd L m ∈ L := by
  obtain ⟨j, rfl⟩ := Int.eq_ofNat_of_zero_le h0
  rw [rd_nat, List.getD_eq_getElem?_getD, List.getElem?_eq_getElem (by omega)]
  exact List.getElem_mem _
theorem wf_16 {x : Int} (h0 : 0 ≤ x) (h1 : x ≤ 16) : (Lit.int .i64 x).wf = true := by
  obtain ⟨n, rfl⟩ := Int.eq_ofNat_of_zero_le h0
  exact wf_small (by omega)
theorem spec_l1Once_ok {l : List Int} {i h n : Int} (c : Cur l i) (hn : n ≤ 256) : ∃ r, Ev (fun _ => spec_l1Once.f l i h n) r ∧ Cur l r.2.1 := by
  unfold spec_l1Once.f
  exact evx_bind (spec_l1Below_ok c hn) fun b hb => ⟨_, Ev.now _, hb.2.2⟩
theorem spec_DrawPermuteTable_l0_ok {l : List Int} (b W : Int) : ∀ d (p : List Int) (ci h : Int), 6 - p.length ≤ d → p.length ≤ 6 → Cur l ci → ∃ r, Ev (fun k => spec_DrawPermuteTable.l0 k p (p.length : Int) l ci h b W) r ∧ r.2.2.length ≤ 6 := by
  have hend : ∀ (p : List Int) (ci h : Int), p.length ≤ 6 → Cur l ci → ∃ r, Ev (fun _ => if (p.length : Int) > 0 then ((spec_l1Once.f l ci h 8).bind fun bt298 => (if bt298.1 = true then ((spec_l1PickInt.f l bt298.2.1 bt298.2.2 (([(-1), 0, 5, 9223372036854775807] : List Int))).bind fun bt304 => (if 0 < (p.length : Int) then (some (b, W, (p.set (0 : Int).toNat bt304.1))) else (none))) else (some (b, W, p)))) else (some (b, W, p))) r ∧ r.2.2.length ≤ 6 := by
    intro p ci h hp c
    by_cases h0 : (p.length : Int) > 0
    · simp only [if_pos h0]
      refine evx_bind (spec_l1Once_ok c (by omega)) fun q hq => ?_
      by_cases h1 : q.1 = true
      · simp only [if_pos h1]
        refine evx_bind (spec_l1PickInt_ok hq (by decide) (by decide)) fun s _ => ?_
        (try simp only [if_pos (show (0 : Int) < (p.length : Int) from h0)])
        exact ⟨_, Ev.now _, by simp; exact hp⟩
      · simp only [if_neg h1]
        exact ⟨_, Ev.now _, hp⟩
    · simp only [if_neg h0]
      exact ⟨_, Ev.now _, hp⟩
  intro d
  induction d with
  | zero =>
    intro p ci h hd hp c
    obtain ⟨r, hr, hq⟩ := hend p ci h hp c
    refine ⟨r, Ev.step (fun k => ?_) hr, hq⟩
    simp only [spec_DrawPermuteTable.l0]
    rw [if_neg (by simp only [mn]; split <;> omega)]
  | succ d ih =>
    intro p ci h hd hp c
    by_cases hi : (p.length : Int) < mn b 6
    · have h6 : (p.length : Int) < 6 := by
        simp only [mn] at hi
        split at hi <;> omega
      obtain ⟨q, hq, q1, q2, q3⟩ := spec_l1Below_ok (h := h) (n := wrap64 ((p.length : Int) + 1)) c (by rw [w64 (by omega) (by omega)]; omega)
      rw [w64 (by omega) (by omega)] at q2
      have q4 := q2 (by omega)
      obtain ⟨kk, hkk⟩ := Int.eq_ofNat_of_zero_le q1
      have hlen : (p.take q.1.toNat ++ [(p.length : Int)] ++ p.drop q.1.toNat).length = p.length + 1 := by
        simp [List.length_append, List.length_take, List.length_drop]
        omega
      obtain ⟨r, hr, hrq⟩ := ih (p.take q.1.toNat ++ [(p.length : Int)] ++ p.drop q.1.toNat) q.2.1 q.2.2 (by omega) (by omega) q3
      refine ⟨r, evs1 hq (fun k hk => ?_) hr, hrq⟩
      simp only [spec_DrawPermuteTable.l0]
      rw [if_pos hi, hk, Option.bind_some, if_pos (by omega), if_pos ⟨q1, by omega⟩, w64 (x := (p.length : Int) + 1) (by omega) (by omega), hlen]
      rfl
    · obtain ⟨r, hr, hq⟩ := hend p ci h hp c
      refine ⟨r, Ev.step (fun k => ?_) hr, hq⟩
      simp only [spec_DrawPermuteTable.l0]
      rw [if_neg hi]
theorem spec_DrawPlayAgainst_ok {l : List Int} (hl : l.length ≤ 4611686018427387904) : ∃ r, Ev (fun k => spec_DrawPlayAgainst.f k l) r ∧ r.2.2.length ≤ 6 := by
  unfold spec_DrawPlayAgainst.f
  refine evx_bind (P := fun r => r.2.2.length ≤ 6) ?_ fun d hd => ⟨_, Ev.now _, hd⟩
  unfold spec_DrawPermuteTable.f
  exact new_any hl fun h d _ hd => spec_DrawPermuteTable_l0_ok d.1 d.2.1 6 [] d.2.2.1 d.2.2.2 (by simp) (by simp) hd
theorem spec_l8Draw_ok {l : List Int} (hl : l.length ≤ 4611686018427387904) : ∃ r, Ev (fun k => spec_l8Draw.f k l) r ∧ ((Lit.int .i64 r.1).wf = true ∧ (Lit.int .i64 r.2.2.1).wf = true ∧ (Lit.int .i64 r.2.2.2).wf = true) := by
  unfold spec_l8Draw.f
  refine new_any hl fun h d hw hd => ?_
  refine evx_bind (spec_l1Below_ok hd (by omega)) fun m hm => ?_
  obtain ⟨m1, m2, m3⟩ := hm
  have m4 := m2 (by omega)
  refine evx_bind (spec_l1Below_ok m3 (by omega)) fun v hv => ?_
  obtain ⟨v1, v2, v3⟩ := hv
  have v4 := v2 (by omega)
  refine evx_bind (spec_l1Once_ok v3 (by omega)) fun q hq => ?_
  by_cases h0 : q.1 = true
  · simp only [if_pos h0]
    exact evx_bind (spec_l1PickInt_ok hq (by decide) (by decide)) fun s hs => ⟨_, Ev.now _, hw, wf_16 (x := m.1) m1 (by omega), (by decide : ∀ x ∈ ([(-1), 16, 9223372036854775807] : List Int), (Lit.int .i64 x).wf = true) _ hs.1⟩
  · simp only [if_neg h0]
    refine ⟨_, Ev.now _, hw, wf_16 (x := m.1) m1 (by omega), ?_⟩
    show (Lit.int .i64 (Go.bits .and .i64 m.1 v.1)).wf = true
    obtain ⟨a, ha⟩ := Int.eq_ofNat_of_zero_le m1
    obtain ⟨c, hc⟩ := Int.eq_ofNat_of_zero_le v1
    rw [ha, hc, bandN (by omega) (by omega)]
    have : a &&& c ≤ a := Nat.and_le_left
    exact wf_small (by omega)
theorem spec_DrawAskedOf_ok {l : List Int} (hl : l.length ≤ 4611686018427387904) : ∃ r, Ev (fun k => spec_DrawAskedOf.f k l) r ∧ ((Lit.int .i64 r.1).wf = true ∧ (Lit.int .i64 r.2.2.1).wf = true ∧ (Lit.int .i64 r.2.2.2).wf = true) := by
  unfold spec_DrawAskedOf.f
  exact evx_bind (spec_l8Draw_ok hl) fun d hd => ⟨_, Ev.now _, hd⟩
theorem spec_DrawForcedLeft_ok {l : List Int} (hl : l.length ≤ 4611686018427387904) : ∃ r, Ev (fun k => spec_DrawForcedLeft.f k l) r ∧ ((Lit.int .i64 r.1).wf = true ∧ (Lit.int .i64 r.2.2.1).wf = true ∧ (Lit.int .i64 r.2.2.2).wf = true) := by
  unfold spec_DrawForcedLeft.f
  exact evx_bind (spec_l8Draw_ok hl) fun d hd => ⟨_, Ev.now _, hd⟩
theorem spec_DrawIsEvasive_ok {l : List Int} (hl : l.length ≤ 4611686018427387904) : ∃ r, Ev (fun k => spec_DrawIsEvasive.f k l) r ∧ True := by
  unfold spec_DrawIsEvasive.f
  exact new_any hl fun h d _ _ => ⟨_, Ev.now _, trivial⟩
theorem spec_DrawAdversaryAnswer_ok {l : List Int} (hl : l.length ≤ 4611686018427387904) : ∃ r, Ev (fun k => spec_DrawAdversaryAnswer.f k l) r ∧ ((Lit.int .i64 r.1).wf = true ∧ (Lit.int .i64 r.2.2.1).wf = true ∧ (Lit.int .i64 r.2.2.2.1).wf = true ∧ (Lit.int .i64 r.2.2.2.2).wf = true) := by
  unfold spec_DrawAdversaryAnswer.f
  refine evx_bind (spec_l8Draw_ok hl) fun d hd => ?_
  have h0 : 0 ≤ (l.length : Int) % 6 := by omega
  have h1 : (l.length : Int) % 6 < (([0, 1, 2, 3, (-1), 4] : List Int).length : Int) := by
    show (l.length : Int) % 6 < 6
    omega
  refine ⟨(d.1, d.2.1, d.2.2.1, d.2.2.2, rd [0, 1, 2, 3, (-1), 4] ((l.length : Int) % 6)), ev_const ?_, hd.1, hd.2.1, hd.2.2, (by decide : ∀ x ∈ ([0, 1, 2, 3, (-1), 4] : List Int), (Lit.int .i64 x).wf = true) _ (rd_mem h0 h1)⟩
  rw [Option.bind_some, if_pos h0, if_pos h1]
theorem FnAdversaries_tail {l0 : List Int} (hl : l0.length ≤ 4611686018427387904) : Ev (fun k => ((spec_DrawAskedOf.f k l0).bind fun bt925 => ((spec_DrawForcedLeft.f k l0).bind fun bt930 => ((spec_DrawIsEvasive.f k l0).bind fun bt935 => ((impl_AskedOf.f bt925.1 bt925.2.1 bt925.2.2.1 bt925.2.2.2).bind fun t938 => ((spec_AskedOf.f k bt925.1 bt925.2.1 bt925.2.2.1 bt925.2.2.2).bind fun t939 => (if t938 = t939 then ((impl_ForcedLeft.f bt930.1 bt930.2.1 bt930.2.2.1 bt930.2.2.2).bind fun t940 => ((spec_ForcedLeft.f k bt930.1 bt930.2.1 bt930.2.2.1 bt930.2.2.2).bind fun t941 => (if t940 = t941 then ((impl_IsEvasive.f bt935.1 bt935.2).bind fun t942 => ((spec_IsEvasive.f k bt935.1 bt935.2).bind fun t943 => (some (t942 == t943)))) else (none)))) else (none)))))))) true := by
  obtain ⟨⟨b1, W1, m1, v1⟩, hd1, x1, x2, x3⟩ := spec_DrawAskedOf_ok hl
  obtain ⟨⟨b2, W2, m2, v2⟩, hd2, y1, y2, y3⟩ := spec_DrawForcedLeft_ok hl
  obtain ⟨⟨b3, W3⟩, hd3, _⟩ := spec_DrawIsEvasive_ok hl
  obtain ⟨r1, s1, i1⟩ := AskedOf_key b1 W1 m1 v1 x1 x2 x3
  obtain ⟨r2, s2, i2⟩ := ForcedLeft_key b2 W2 m2 v2 y1 y2 y3
  obtain ⟨r3, s3, i3⟩ := IsEvasive_key b3 W3
  refine ev_bd hd1 (ev_bd hd2 (ev_bd hd3 (ev_bd (ev_const i1) (ev_bd s1 (ev_if rfl (ev_bd (ev_const i2) (ev_bd s2 (ev_if rfl (ev_bd (ev_const i3) (ev_bd s3 ?_))))))))))
  rw [beq_self_eq_true]
  exact Ev.now _
theorem impl_ForcedLeft_eq {n w m v : Nat} (t : Tab n w) (hn : n ≤ 4) (hm : m < 2 ^ n) (hs : v &&& m = v) : impl_ForcedLeft.f n w m v = some (askD n w m v) := by
  have hp : 2 ^ n ≤ 2 ^ 4 := Nat.pow_le_pow_right (by omega) hn
  have hv := sub_lt hm hs
  have wm := wf_small (n := m) (by omega)
  have wv := wf_small (n := v) (by omega)
  unfold impl_ForcedLeft.f
  simp only [impl_isKnown_eq n w m v wv, Option.bind_some, wm, wv, and_self, if_true, isKn_mk t hn hm hs]
  exact impl_asker_left_six t hn hm hv
theorem impl_AskedOf_eq {n w m v : Nat} (t : Tab n w) (hn : n ≤ 4) (hm : m < 2 ^ n) (hs : v &&& m = v) : impl_AskedOf.f n w m v = some (frst n w m v) := by
  have hp : 2 ^ n ≤ 2 ^ 4 := Nat.pow_le_pow_right (by omega) hn
  have hv := sub_lt hm hs
  have wm := wf_small (n := m) (by omega)
  have wv := wf_small (n := v) (by omega)
  unfold impl_AskedOf.f
  simp only [impl_isKnown_eq n w m v wv, Option.bind_some, wm, wv, and_self, if_true, isKn_mk t hn hm hs]
  exact impl_asker_first_eq t hn hm hv
theorem FnAdversaries_mid {l0 : List Int} (hl : l0.length ≤ 4611686018427387904) : Ev (fun k => ((spec_DrawAdversaryAnswer.f k l0).bind fun bt913 => ((impl_AdversaryAnswer.f bt913.1 bt913.2.1 bt913.2.2.1 bt913.2.2.2.1 bt913.2.2.2.2).bind fun t919 => ((spec_AdversaryAnswer.f k bt913.1 bt913.2.1 bt913.2.2.1 bt913.2.2.2.1 bt913.2.2.2.2).bind fun t920 => (if t919 = t920 then (if t919 ≥ 0 then ((impl_ForcedLeft.f bt913.1 bt913.2.1 bt913.2.2.1 bt913.2.2.2.1).bind fun t921 => (if 0 ≤ bt913.2.2.2.2 then ((impl_ForcedLeft.f bt913.1 bt913.2.1 (Go.bits .or .i64 bt913.2.2.1 (shl .i64 1 bt913.2.2.2.2)) (Go.bits .or .i64 bt913.2.2.2.1 (shl .i64 t919 bt913.2.2.2.2))).bind fun t922 => ((impl_ForcedLeft.f bt913.1 bt913.2.1 (Go.bits .or .i64 bt913.2.2.1 (shl .i64 1 bt913.2.2.2.2)) (Go.bits .or .i64 bt913.2.2.2.1 (shl .i64 (wrap64 (1 - t919)) bt913.2.2.2.2))).bind fun t923 => (if t922 < (wrap64 (t921 - 1)) then (none) else (if t923 > t922 then (none) else ((impl_AskedOf.f bt913.1 bt913.2.1 bt913.2.2.1 bt913.2.2.2.1).bind fun t924 => (if ((decide (t924 < 0)) != (t921 == 0)) = true then (none) else ((spec_DrawAskedOf.f k l0).bind fun bt925 => ((spec_DrawForcedLeft.f k l0).bind fun bt930 => ((spec_DrawIsEvasive.f k l0).bind fun bt935 => ((impl_AskedOf.f bt925.1 bt925.2.1 bt925.2.2.1 bt925.2.2.2).bind fun t938 => ((spec_AskedOf.f k bt925.1 bt925.2.1 bt925.2.2.1 bt925.2.2.2).bind fun t939 => (if t938 = t939 then ((impl_ForcedLeft.f bt930.1 bt930.2.1 bt930.2.2.1 bt930.2.2.2).bind fun t940 => ((spec_ForcedLeft.f k bt930.1 bt930.2.1 bt930.2.2.1 bt930.2.2.2).bind fun t941 => (if t940 = t941 then ((impl_IsEvasive.f bt935.1 bt935.2).bind fun t942 => ((spec_IsEvasive.f k bt935.1 bt935.2).bind fun t943 => (some (t942 == t943)))) else (none)))) else (none))))))))))))) else (none))) else ((spec_DrawAskedOf.f k l0).bind fun bt944 => ((spec_DrawForcedLeft.f k l0).bind fun bt949 => ((spec_DrawIsEvasive.f k l0).bind fun bt954 => ((impl_AskedOf.f bt944.1 bt944.2.1 bt944.2.2.1 bt944.2.2.2).bind fun t957 => ((spec_AskedOf.f k bt944.1 bt944.2.1 bt944.2.2.1 bt944.2.2.2).bind fun t958 => (if t957 = t958 then ((impl_ForcedLeft.f bt949.1 bt949.2.1 bt949.2.2.1 bt949.2.2.2).bind fun t959 => ((spec_ForcedLeft.f k bt949.1 bt949.2.1 bt949.2.2.1 bt949.2.2.2).bind fun t960 => (if t959 = t960 then ((impl_IsEvasive.f bt954.1 bt954.2).bind fun t961 => ((spec_IsEvasive.f k bt954.1 bt954.2).bind fun t962 => (some (t961 == t962)))) else (none)))) else (none)))))))) else (none)))))) true := by
  obtain ⟨⟨b, W, m, v, i⟩, hd, xb, xm, xv, xi⟩ := spec_DrawAdversaryAnswer_ok hl
  obtain ⟨r, hs, hi, hr⟩ := AdversaryAnswer_key b W m v i xb xm xv xi
  refine ev_bd hd (ev_bd (ev_const hi) (ev_bd hs (ev_if rfl ?_)))
  rcases hr with rfl | ⟨n, w, m, v, i, rfl, rfl, rfl, rfl, rfl, t, hn, hm, hsub, hin, hbit, rfl⟩
  · exact ev_ifn (by omega) (FnAdversaries_tail hl)
  · have hp : 2 ^ n ≤ 2 ^ 4 := Nat.pow_le_pow_right (by omega) hn
    have hpi : 2 ^ i ≤ 2 ^ 4 := Nat.pow_le_pow_right (by omega) (by omega)
    have hv := sub_lt hm hsub
    have ha := adv_le n w m v i
    have hr0 := askD_range n w m v
    have hstep := askD_step (w := w) (v := v) hin hbit
    have hbest := adv_best n w m v i
    have hge := mx_ge (askD n w (m ||| 2 ^ i) v) (askD n w (m ||| 2 ^ i) (v ||| 2 ^ i))
    have ho := or_lt hm hin
    have hother : askD n w (m ||| 2 ^ i) (ans v i (1 - adv n w m v i)) ≤ askD n w (m ||| 2 ^ i) (ans v i (adv n w m v i)) := by
      rw [hbest]
      rcases (by omega : adv n w m v i = 0 ∨ adv n w m v i = 1) with e | e <;> rw [e]
      · rw [ans_one]; exact hge.2
      · rw [ans_zero]; exact hge.1
    have e1 : Go.bits .or .i64 (m : Int) (shl .i64 1 (i : Int)) = ((m ||| 2 ^ i : Nat) : Int) := by rw [shl1 (by omega), borN (by omega) (by omega)]
    have e2 : ∀ c : Nat, c ≤ 1 → Go.bits .or .i64 (v : Int) (shl .i64 (c : Int) (i : Int)) = ((ans v i c : Nat) : Int) := by
      intro c hc
      have : c * 2 ^ i ≤ 1 * 2 ^ 4 := Nat.mul_le_mul hc hpi
      rw [shlN (by omega), borN (by omega) (by omega)]
      rfl
    have e3 : wrap64 (1 - ((adv n w m v i : Nat) : Int)) = ((1 - adv n w m v i : Nat) : Int) := by rw [w64 (by omega) (by omega)]; omega
    have hasked : (decide (frst n w m v < 0) != (askD n w m v == 0)) = false := by
      by_cases hc : cubeV n w m v = 2
      · obtain ⟨j, ej, _⟩ := frst_some hc
        have := askD_pos hc
        rw [ej, decide_eq_false (by omega), beq_eq_false_iff_ne.mpr (by omega)]
        rfl
      · rw [frst_none hc, askD_zero hc]
        rfl
    refine ev_if (by omega) (ev_bd (ev_const (impl_ForcedLeft_eq t hn hm hsub)) (ev_if (Int.natCast_nonneg _) ?_))
    rw [e1, e2 _ ha, e3, e2 _ (by omega)]
    refine ev_bd (ev_const (impl_ForcedLeft_eq t hn ho (ans_sub hsub ha))) (ev_bd (ev_const (impl_ForcedLeft_eq t hn ho (ans_sub hsub (by omega)))) ?_)
    refine ev_ifn (by rw [w64 (by omega) (by omega)]; omega) (ev_ifn (by omega) (ev_bd (ev_const (impl_AskedOf_eq t hn hm hsub)) (ev_ifn (by rw [hasked]; decide) ?_)))
    exact FnAdversaries_tail hl
theorem FnAdversaries (l0 : List Int) (hm : l0.length ≤ maxLen) (hr : l0.length * 1 ≤ 140737488351232) (hw : ∀ x ∈ l0, (Lit.int .u8 x).wf = true) : ∃ k, laws_FnAdversaries.f k l0 = some true := by
  have hl : l0.length ≤ 4611686018427387904 := by omega
  refine Ev.rounds ?_
  unfold laws_FnAdversaries.f laws_big.f
  simp only [Option.bind_some]
  by_cases hb : decide ((l0.length : Int) > 1048576) = true
  · exact ev_if hb (Ev.now _)
  refine ev_ifn hb ?_
  obtain ⟨⟨b, W, p⟩, hd, hp⟩ := spec_DrawPlayAgainst_ok hl
  obtain ⟨r, hs, hi, hr⟩ := PlayAgainst_key b W p (by simp only at hp; omega)
  refine ev_bd hd (ev_bd hi (ev_bd hs (ev_if rfl ?_)))
  rcases hr with rfl | ⟨n, w, ns, rfl, rfl, t, hn, hlen, hnd, hlt, rfl⟩
  · exact ev_ifn (by omega) (FnAdversaries_mid hl)
  · have h1 := playV_le n w ns 0 0 0
    have h2 := playV_ask (w := w) ns 0 0 0 hnd (fun x hx => ⟨hlt x hx, Nat.zero_testBit _⟩) (by rw [frees_zero]; omega)
    have h3 : impl_LeastDepth.f n w = some (askD n w 0 0) := by
      have hs : (isTab (n : Int) (w : Int) && decide ((n : Int) ≤ 4)) = true := by rw [isTab_mk t, decide_eq_true (by omega)]; rfl
      rw [impl_LeastDepth_eq, if_pos hs, Int.toNat_natCast, Int.toNat_natCast]
    refine ev_if (by omega) (ev_bd (ev_const h3) (ev_ifn (by omega) (ev_ifn (by omega) ?_)))
    exact FnAdversaries_mid hl

end Go.Proofs.Ytflnlnkbepoimaa.Pure
