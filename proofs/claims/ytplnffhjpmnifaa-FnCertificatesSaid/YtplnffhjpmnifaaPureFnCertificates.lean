/- What the law FnCertificates comes to, over numbers and lists alone: at every input both sides tell the same. No conditions but the kinds of the numbers. -/
import Derived.Test.YtplnffhjpmnifaaMath
import Derived.Test.YtplnffhjpmnifaaBlk
import Derived.Test.YtplnffhjpmnifaaCer
import Derived.Test.YtplnffhjpmnifaaCub
import Derived.Test.YtplnffhjpmnifaaPop
import Derived.Test.YtplnffhjpmnifaaSum
import Derived.Test.YtplnffhjpmnifaaQ0
import Derived.Test.YtplnffhjpmnifaaQ1
import Derived.Test.YtplnffhjpmnifaaQ10
import Derived.Test.YtplnffhjpmnifaaQ11
import Derived.Test.YtplnffhjpmnifaaQ2
import Derived.Test.YtplnffhjpmnifaaQ3
import Derived.Test.YtplnffhjpmnifaaQ4
import Derived.Test.YtplnffhjpmnifaaQ5
import Derived.Test.YtplnffhjpmnifaaQ6
import Derived.Test.YtplnffhjpmnifaaQ7
import Derived.Test.YtplnffhjpmnifaaQ8
import Derived.Test.YtplnffhjpmnifaaQ9
import Derived.Test.YtplnffhjpmnifaaQLFnCertificates
namespace Go.Proofs.Ytplnffhjpmnifaa.Pure
open Go.RowKit Go.Proofs.Ytplnffhjpmnifaa.P Go.Proofs.YtplnffhjpmnifaaW.PrintWords Go.Proofs.YtplnffhjpmnifaaW.PrintLast Go.Proofs.YtplnffhjpmnifaaW.PrintMore Go.Proofs.YtplnffhjpmnifaaMath
set_option linter.unusedVariables false
set_option linter.unusedSimpArgs false

theorem ev_bd {A R : Type} {g : Nat → Option A} {a : A} {F : Nat → A → Option R} {r : R} (h : Ev g a) (hF : Ev (fun k => F k a) r) : Ev (fun k => (g k).bind (F k)) r := ev1 h (fun k hk => by rw [hk]; rfl) hF
theorem ev_if {R : Type} {c : Prop} [Decidable c] {f g : Nat → Option R} {r : R} (hc : c) (h : Ev f r) : Ev (fun k => if c then f k else g k) r := by simp only [if_pos hc]; exact h
theorem ev_ifn {R : Type} {c : Prop} [Decidable c] {f g : Nat → Option R} {r : R} (hc : ¬ c) (h : Ev g r) : Ev (fun k => if c then f k else g k) r := by simp only [if_neg hc]; exact h

theorem laws_sameInts_ev (l : List Int) (h : l.length ≤ 1048576) : Ev (fun k => laws_sameInts.f k l l) true := by
  unfold laws_sameInts.f
  simp only [if_true]
  refine ev_for (fun k i => laws_sameInts.l0 k l l (i : Int)) l.length ?_ ?_
  · intro i hi hh
    refine Ev.step (fun k => ?_) hh
    simp only [laws_sameInts.l0]
    rw [if_pos (by omega), if_pos (by omega), if_pos (by omega), if_pos trivial, w64 (by omega) (by omega)]
    rfl
  · refine ev0 fun k => ?_
    simp only [laws_sameInts.l0]
    rw [if_neg (by omega)]

theorem spec_l2Count_l (j : Nat) : ∀ (x : Nat) (s : Nat), j ≤ 32 → x < 2 ^ j → s + j ≤ 64 → Ev (fun k => spec_l2Count.l0 k s x) ((s + pcf j x : Nat) : Int) := by
  induction j with
  | zero =>
    intro x s _ h _
    obtain rfl : x = 0 := by simpa using h
    refine ev0 fun k => ?_
    simp only [spec_l2Count.l0]
    rw [if_neg (by omega)]
    rfl
  | succ j ih =>
    intro x s hj h hs
    have hp : 2 ^ (j + 1) ≤ 2 ^ 32 := Nat.pow_le_pow_right (by omega) hj
    by_cases hx : x = 0
    · subst hx
      refine ev0 fun k => ?_
      simp only [spec_l2Count.l0]
      rw [if_neg (by omega), pcf_zero]
      rfl
    · have := ih (x / 2) (s + x % 2) (by omega) (by rw [Nat.pow_succ] at h; omega) (by omega)
      simp only [pcf]
      rw [← Nat.add_assoc]
      refine Ev.step (fun k => ?_) this
      simp only [spec_l2Count.l0]
      rw [if_pos (by omega), show (1 : Int) = ((1 : Nat) : Int) from rfl, bandN (by omega) (by omega), Nat.and_one_is_mod, ← Int.natCast_add, w64 (by omega) (by omega)]
      rfl
theorem spec_l2Count_ev {x : Nat} (h : x < 4294967296) : Ev (fun k => spec_l2Count.f k x) ((pc x : Nat) : Int) := by
  have := spec_l2Count_l 32 x 0 (by omega) (by omega) (by omega)
  rw [Nat.zero_add] at this
  exact this

theorem and255 (x : Int) : 0 ≤ Go.bits .and .i64 x 255 ∧ Go.bits .and .i64 x 255 ≤ 255 := by
  have h : (BitVec.ofInt 64 x &&& BitVec.ofInt 64 255).toNat ≤ 255 := by
    rw [BitVec.toNat_and]
    exact Nat.and_le_right
  have e : Go.bits .and .i64 x 255 = (((BitVec.ofInt 64 x &&& BitVec.ofInt 64 255).toNat : Nat) : Int) := by
    simp only [Go.bits, IntKind.bits]
    exact i64id (Int.natCast_nonneg _) (Int.lt_of_le_of_lt (Int.ofNat_le.mpr h) (by decide))
  omega
theorem evx_bind {A R : Type} {g : Nat → Option A} {P : A → Prop} {F : Nat → A → Option R} {Q : R → Prop} (h : ∃ a, Ev g a ∧ P a) (hF : ∀ a, P a → ∃ r, Ev (fun k => F k a) r ∧ Q r) : ∃ r, Ev (fun k => (g k).bind (F k)) r ∧ Q r := by
  obtain ⟨a, ha, hp⟩ := h
  obtain ⟨r, hr, hq⟩ := hF a hp
  exact ⟨r, ev1 ha (fun k hk => by rw [hk]; rfl) hr, hq⟩
/-- A reader of draws: how far it has read. -/
def Cur (l : List Int) (i : Int) : Prop := l.length ≤ 4611686018427387904 ∧ 0 ≤ i ∧ i ≤ l.length
theorem spec_l1Byte_ok {l : List Int} {i h : Int} (c : Cur l i) : ∃ r, spec_l1Byte.f l i h = some r ∧ (0 ≤ r.1 ∧ r.1 ≤ 255 ∧ Cur l r.2.1) := by
  obtain ⟨c0, c1, c2⟩ := c
  unfold spec_l1Byte.f
  by_cases hl : i < (l.length : Int)
  · rw [if_pos hl, if_pos c1]
    refine ⟨_, rfl, (and255 _).1, (and255 _).2, c0, ?_⟩
    show 0 ≤ wrap64 (i + 1) ∧ wrap64 (i + 1) ≤ l.length
    rw [w64 (by omega) (by omega)]
    omega
  · rw [if_neg hl]
    exact ⟨_, rfl, (and255 _).1, (and255 _).2, c0, c1, c2⟩
theorem spec_l1Below_ok {l : List Int} {i h n : Int} (c : Cur l i) (hn : n ≤ 256) : ∃ r, Ev (fun _ => spec_l1Below.f l i h n) r ∧ (0 ≤ r.1 ∧ (0 < n → r.1 < n) ∧ Cur l r.2.1) := by
  unfold spec_l1Below.f
  by_cases h0 : n ≤ 0
  · rw [if_pos h0]
    exact ⟨_, Ev.now _, Int.le_refl _, fun h => absurd h (by omega), c⟩
  · rw [if_neg h0, if_pos hn]
    obtain ⟨r, hr, h1, h2, h3⟩ := spec_l1Byte_ok (h := h) c
    rw [hr, Option.bind_some, if_neg (by omega)]
    exact ⟨_, Ev.now _, Int.tmod_nonneg _ h1, fun h => Int.tmod_lt_of_pos _ h, h3⟩
theorem spec_l1New_ok {l : List Int} (hl : l.length ≤ 4611686018427387904) : ∃ r, Ev (fun k => spec_l1New.f k l) r ∧ (r.1 = l ∧ Cur l r.2.1) := by
  have key : ∀ d (i : Nat) (h : Int), l.length - i ≤ d → ∃ r, Ev (fun k => spec_l1New.l0 k l h i) r ∧ (r.1 = l ∧ Cur l r.2.1) := by
    intro d
    induction d with
    | zero =>
      intro i h hd
      refine ⟨(l, 0, h), ev0 fun k => ?_, rfl, hl, by simp⟩
      simp only [spec_l1New.l0]
      rw [if_neg (by omega)]
    | succ d ih =>
      intro i h hd
      by_cases hi : i < l.length
      · by_cases h4 : i < 4000
        · obtain ⟨r, hr, hq⟩ := ih (i + 1) (Go.bits .and .i64 (wrap64 ((wrap64 ((wrap64 (h * 131)) + (wrap64 (rd l i)))) + 7)) 1073741823) (by omega)
          refine ⟨r, Ev.step (fun k => ?_) hr, hq⟩
          simp only [spec_l1New.l0]
          rw [if_pos (by omega), if_pos (by omega), if_pos (by omega), w64 (x := (i : Int) + 1) (by omega) (by omega)]
          rfl
        · refine ⟨(l, 0, h), ev0 fun k => ?_, rfl, hl, by simp⟩
          simp only [spec_l1New.l0]
          rw [if_pos (by omega), if_neg (by omega)]
      · refine ⟨(l, 0, h), ev0 fun k => ?_, rfl, hl, by simp⟩
        simp only [spec_l1New.l0]
        rw [if_neg (by omega)]
  exact key l.length 0 _ (by omega)
theorem spec_l2Variable_ok {n j : Nat} (hn : n ≤ 4) : ∃ r, Ev (fun k => spec_l2Variable.f k n j) r ∧ True := by
  have hs : 2 ^ n ≤ 2 ^ 4 := Nat.pow_le_pow_right (by omega) hn
  have key : ∀ d (i : Nat) (w : Int), 2 ^ n - i ≤ d → ∃ r, Ev (fun k => spec_l2Variable.l0 k n j w i) r ∧ True := by
    intro d
    induction d with
    | zero =>
      intro i w hd
      refine ⟨w, ev0 fun k => ?_, trivial⟩
      simp only [spec_l2Variable.l0]
      rw [if_pos (Int.natCast_nonneg _), shl1 (by omega), if_neg (by omega)]
    | succ d ih =>
      intro i w hd
      by_cases hi : i < 2 ^ n
      · by_cases hb : Go.bits .and .i64 (shr .i64 i j) 1 = 1
        · obtain ⟨r, hr, hq⟩ := ih (i + 1) (Go.bits .or .i64 w (shl .i64 1 i)) (by omega)
          refine ⟨r, Ev.step (fun k => ?_) hr, hq⟩
          simp only [spec_l2Variable.l0]
          rw [if_pos (Int.natCast_nonneg _), shl1 (by omega), if_pos (by omega), if_pos (Int.natCast_nonneg _), if_pos hb, if_pos (Int.natCast_nonneg _), w64 (x := (i : Int) + 1) (by omega) (by omega)]
          rfl
        · obtain ⟨r, hr, hq⟩ := ih (i + 1) w (by omega)
          refine ⟨r, Ev.step (fun k => ?_) hr, hq⟩
          simp only [spec_l2Variable.l0]
          rw [if_pos (Int.natCast_nonneg _), shl1 (by omega), if_pos (by omega), if_pos (Int.natCast_nonneg _), if_neg hb, w64 (x := (i : Int) + 1) (by omega) (by omega)]
          rfl
      · refine ⟨w, ev0 fun k => ?_, trivial⟩
        simp only [spec_l2Variable.l0]
        rw [if_pos (Int.natCast_nonneg _), shl1 (by omega), if_neg (by omega)]
  exact key (2 ^ n) 0 0 (Nat.sub_le _ _)
theorem spec_l2Full_some {n : Nat} (hn : n ≤ 4) : ∃ t, spec_l2Full.f n = some t := by
  unfold spec_l2Full.f
  rw [if_pos (by omega)]
  exact ⟨_, rfl⟩
theorem l2Draw_end {l : List Int} {i h : Int} {n : Nat} (hn : n ≤ 4) (c : Cur l i) (w : Int) : ∃ r, (if (n : Int) = 0 then ((spec_l2Full.f n).bind fun t => (some ((n : Int), Go.bits .and .i64 (Go.bits .and .i64 w 1) t, i, h))) else ((spec_l2Full.f n).bind fun t => (some ((n : Int), Go.bits .and .i64 w t, i, h)))) = some r ∧ (r.1 = (n : Int) ∧ Cur l r.2.2.1) := by
  obtain ⟨t, ht⟩ := spec_l2Full_some hn
  rw [ht, Option.bind_some, Option.bind_some]
  split
  · exact ⟨_, rfl, rfl, c⟩
  · exact ⟨_, rfl, rfl, c⟩
theorem spec_l2Draw_l0_ok {l : List Int} {ci h : Int} {n : Nat} (hn : n ≤ 4) (c : Cur l ci) : ∀ d (i : Nat) (w : Int), 2 ^ n - i ≤ d → ∃ r, Ev (fun k => spec_l2Draw.l0 k n w i l ci h) r ∧ (r.1 = (n : Int) ∧ Cur l r.2.2.1) := by
  have hs : 2 ^ n ≤ 2 ^ 4 := Nat.pow_le_pow_right (by omega) hn
  intro d
  induction d with
  | zero =>
    intro i w hd
    obtain ⟨r, hr, hq⟩ := l2Draw_end (h := h) hn c w
    refine ⟨r, ev0 fun k => ?_, hq⟩
    simp only [spec_l2Draw.l0]
    rw [if_pos (Int.natCast_nonneg _), shl1 (by omega), if_neg (by omega)]
    exact hr
  | succ d ih =>
    intro i w hd
    by_cases hi : i < 2 ^ n
    · have hc := spec_l2Count_ev (x := i) (by omega)
      by_cases hb : wrap64 (2 * ((pc i : Nat) : Int)) > (n : Int)
      · obtain ⟨r, hr, hq⟩ := ih (i + 1) (Go.bits .or .i64 w (shl .i64 1 i)) (by omega)
        refine ⟨r, evs1 hc (fun k hk => ?_) hr, hq⟩
        simp only [spec_l2Draw.l0]
        rw [if_pos (Int.natCast_nonneg _), shl1 (by omega), if_pos (by omega), hk, Option.bind_some, if_pos hb, if_pos (Int.natCast_nonneg _), w64 (x := (i : Int) + 1) (by omega) (by omega)]
        rfl
      · obtain ⟨r, hr, hq⟩ := ih (i + 1) w (by omega)
        refine ⟨r, evs1 hc (fun k hk => ?_) hr, hq⟩
        simp only [spec_l2Draw.l0]
        rw [if_pos (Int.natCast_nonneg _), shl1 (by omega), if_pos (by omega), hk, Option.bind_some, if_neg hb, w64 (x := (i : Int) + 1) (by omega) (by omega)]
        rfl
    · obtain ⟨r, hr, hq⟩ := l2Draw_end (h := h) hn c w
      refine ⟨r, ev0 fun k => ?_, hq⟩
      simp only [spec_l2Draw.l0]
      rw [if_pos (Int.natCast_nonneg _), shl1 (by omega), if_neg (by omega)]
      exact hr
theorem spec_l2Draw_l1_ok {l : List Int} {ci h : Int} {n : Nat} (hn : n ≤ 4) (c : Cur l ci) : ∀ d (i : Nat) (w : Int), 2 ^ n - i ≤ d → ∃ r, Ev (fun k => spec_l2Draw.l1 k n w i l ci h) r ∧ (r.1 = (n : Int) ∧ Cur l r.2.2.1) := by
  have hs : 2 ^ n ≤ 2 ^ 4 := Nat.pow_le_pow_right (by omega) hn
  intro d
  induction d with
  | zero =>
    intro i w hd
    obtain ⟨r, hr, hq⟩ := l2Draw_end (h := h) hn c w
    refine ⟨r, ev0 fun k => ?_, hq⟩
    simp only [spec_l2Draw.l1]
    rw [if_pos (Int.natCast_nonneg _), shl1 (by omega), if_neg (by omega)]
    exact hr
  | succ d ih =>
    intro i w hd
    by_cases hi : i < 2 ^ n
    · have hc := spec_l2Count_ev (x := i) (by omega)
      by_cases hb : Int.tmod ((pc i : Nat) : Int) 2 = 1
      · obtain ⟨r, hr, hq⟩ := ih (i + 1) (Go.bits .or .i64 w (shl .i64 1 i)) (by omega)
        refine ⟨r, evs1 hc (fun k hk => ?_) hr, hq⟩
        simp only [spec_l2Draw.l1]
        rw [if_pos (Int.natCast_nonneg _), shl1 (by omega), if_pos (by omega), hk, Option.bind_some, if_pos hb, if_pos (Int.natCast_nonneg _), w64 (x := (i : Int) + 1) (by omega) (by omega)]
        rfl
      · obtain ⟨r, hr, hq⟩ := ih (i + 1) w (by omega)
        refine ⟨r, evs1 hc (fun k hk => ?_) hr, hq⟩
        simp only [spec_l2Draw.l1]
        rw [if_pos (Int.natCast_nonneg _), shl1 (by omega), if_pos (by omega), hk, Option.bind_some, if_neg hb, w64 (x := (i : Int) + 1) (by omega) (by omega)]
        rfl
    · obtain ⟨r, hr, hq⟩ := l2Draw_end (h := h) hn c w
      refine ⟨r, ev0 fun k => ?_, hq⟩
      simp only [spec_l2Draw.l1]
      rw [if_pos (Int.natCast_nonneg _), shl1 (by omega), if_neg (by omega)]
      exact hr
theorem spec_l2Draw_l2_ok {l : List Int} {ci h m : Int} {n : Nat} (hn : n ≤ 4) (c : Cur l ci) : ∀ d (i : Nat) (w : Int), 2 ^ n - i ≤ d → ∃ r, Ev (fun k => spec_l2Draw.l2 k n w m i l ci h) r ∧ (r.1 = (n : Int) ∧ Cur l r.2.2.1) := by
  have hs : 2 ^ n ≤ 2 ^ 4 := Nat.pow_le_pow_right (by omega) hn
  intro d
  induction d with
  | zero =>
    intro i w hd
    obtain ⟨r, hr, hq⟩ := l2Draw_end (h := h) hn c w
    refine ⟨r, ev0 fun k => ?_, hq⟩
    simp only [spec_l2Draw.l2]
    rw [if_pos (Int.natCast_nonneg _), shl1 (by omega), if_neg (by omega)]
    exact hr
  | succ d ih =>
    intro i w hd
    by_cases hi : i < 2 ^ n
    · by_cases hb : Go.bits .and .i64 i m = m
      · obtain ⟨r, hr, hq⟩ := ih (i + 1) (Go.bits .or .i64 w (shl .i64 1 i)) (by omega)
        refine ⟨r, Ev.step (fun k => ?_) hr, hq⟩
        simp only [spec_l2Draw.l2]
        rw [if_pos (Int.natCast_nonneg _), shl1 (by omega), if_pos (by omega), if_pos hb, if_pos (Int.natCast_nonneg _), w64 (x := (i : Int) + 1) (by omega) (by omega)]
        rfl
      · obtain ⟨r, hr, hq⟩ := ih (i + 1) w (by omega)
        refine ⟨r, Ev.step (fun k => ?_) hr, hq⟩
        simp only [spec_l2Draw.l2]
        rw [if_pos (Int.natCast_nonneg _), shl1 (by omega), if_pos (by omega), if_neg hb, w64 (x := (i : Int) + 1) (by omega) (by omega)]
        rfl
    · obtain ⟨r, hr, hq⟩ := l2Draw_end (h := h) hn c w
      refine ⟨r, ev0 fun k => ?_, hq⟩
      simp only [spec_l2Draw.l2]
      rw [if_pos (Int.natCast_nonneg _), shl1 (by omega), if_neg (by omega)]
      exact hr
theorem spec_l2Draw_l3_ok {l : List Int} {n : Nat} (hn : n ≤ 4) : ∀ d (i : Nat) (w ci h : Int), 2 ^ n - i ≤ d → Cur l ci → ∃ r, Ev (fun k => spec_l2Draw.l3 k n w i l ci h) r ∧ (r.1 = (n : Int) ∧ Cur l r.2.2.1) := by
  have hs : 2 ^ n ≤ 2 ^ 4 := Nat.pow_le_pow_right (by omega) hn
  intro d
  induction d with
  | zero =>
    intro i w ci h hd c
    obtain ⟨r, hr, hq⟩ := l2Draw_end (h := h) hn c w
    refine ⟨r, ev0 fun k => ?_, hq⟩
    simp only [spec_l2Draw.l3]
    rw [if_pos (Int.natCast_nonneg _), shl1 (by omega), if_neg (by omega)]
    exact hr
  | succ d ih =>
    intro i w ci h hd c
    by_cases hi : i < 2 ^ n
    · obtain ⟨b, hb, b1, b2, b3⟩ := spec_l1Below_ok (h := h) (n := 2) c (by omega)
      obtain ⟨r, hr, hq⟩ := ih (i + 1) (Go.bits .or .i64 w (shl .i64 b.1 i)) b.2.1 b.2.2 (by omega) b3
      refine ⟨r, evs1 hb (fun k hk => ?_) hr, hq⟩
      simp only [spec_l2Draw.l3]
      rw [if_pos (Int.natCast_nonneg _), shl1 (by omega), if_pos (by omega), hk, Option.bind_some, if_pos (Int.natCast_nonneg _), w64 (x := (i : Int) + 1) (by omega) (by omega)]
      rfl
    · obtain ⟨r, hr, hq⟩ := l2Draw_end (h := h) hn c w
      refine ⟨r, ev0 fun k => ?_, hq⟩
      simp only [spec_l2Draw.l3]
      rw [if_pos (Int.natCast_nonneg _), shl1 (by omega), if_neg (by omega)]
      exact hr
theorem spec_l2Draw_ok {l : List Int} {i h : Int} {n : Nat} (hn : n ≤ 4) (c : Cur l i) : ∃ r, Ev (fun k => spec_l2Draw.f k l i h n) r ∧ (r.1 = (n : Int) ∧ Cur l r.2.2.1) := by
  have hs : 2 ^ n ≤ 2 ^ 4 := Nat.pow_le_pow_right (by omega) hn
  unfold spec_l2Draw.f
  refine evx_bind (spec_l1Below_ok c (by omega)) fun b hb => ?_
  obtain ⟨b1, b2, b3⟩ := hb
  by_cases h0 : b.1 = 0
  · simp only [if_pos h0]
    refine evx_bind (spec_l1Below_ok b3 (by simp only [mx]; split <;> omega)) fun b' hb' => ?_
    obtain ⟨c1, c2, c3⟩ := hb'
    obtain ⟨j, hj⟩ := Int.eq_ofNat_of_zero_le c1
    refine evx_bind (P := fun _ => True) (by rw [hj]; exact spec_l2Variable_ok hn) fun t _ => ?_
    obtain ⟨r, hr, hq⟩ := l2Draw_end (h := b'.2.2) hn c3 t
    exact ⟨r, ev_const hr, hq⟩
  · simp only [if_neg h0]
    by_cases h1 : b.1 = 1
    · simp only [if_pos h1]
      exact spec_l2Draw_l0_ok hn b3 (2 ^ n) 0 0 (Nat.sub_le _ _)
    · simp only [if_neg h1]
      by_cases h2 : b.1 = 2
      · simp only [if_pos h2]
        exact spec_l2Draw_l1_ok hn b3 (2 ^ n) 0 0 (Nat.sub_le _ _)
      · simp only [if_neg h2]
        by_cases h3 : b.1 = 3
        · simp only [if_pos h3, if_pos (Int.natCast_nonneg n), shl1 (show n ≤ 62 by omega)]
          refine evx_bind (spec_l1Below_ok b3 (by omega)) fun b' hb' => ?_
          exact spec_l2Draw_l2_ok hn hb'.2.2 (2 ^ n) 0 0 (Nat.sub_le _ _)
        · simp only [if_neg h3]
          exact spec_l2Draw_l3_ok hn (2 ^ n) 0 0 _ _ (Nat.sub_le _ _) b3
theorem spec_l1PickInt_ok {l : List Int} {i h : Int} (c : Cur l i) {L : List Int} (hL : 0 < L.length) (hL2 : L.length ≤ 256) : ∃ r, Ev (fun _ => spec_l1PickInt.f l i h L) r ∧ (r.1 ∈ L ∧ Cur l r.2.1) := by
  unfold spec_l1PickInt.f
  refine evx_bind (spec_l1Below_ok c (by omega)) fun b hb => ?_
  obtain ⟨b1, b2, b3⟩ := hb
  have b4 := b2 (by omega)
  simp only [if_pos b1, if_pos b4]
  refine ⟨_, Ev.now _, ?_, b3⟩
  obtain ⟨j, hj⟩ := Int.eq_ofNat_of_zero_le b1
  show rd L b.1 ∈ L
  rw [hj, rd_nat, List.getD_eq_getElem?_getD, List.getElem?_eq_getElem (by omega)]
  exact List.getElem_mem _
theorem wf_small {n : Nat} (h : n ≤ 16) : (Lit.int .i64 (n : Int)).wf = true := by
  have : ((List.range 17).all fun n => (Lit.int .i64 ((n : Nat) : Int)).wf) = true := by decide
  exact List.all_eq_true.mp this n (List.mem_range.2 (by omega))
theorem spec_l2Any_ok {l : List Int} {i h : Int} (c : Cur l i) : ∃ r, Ev (fun k => spec_l2Any.f k l i h) r ∧ ((Lit.int .i64 r.1).wf = true ∧ Cur l r.2.2.1) := by
  unfold spec_l2Any.f
  refine evx_bind (spec_l1Below_ok c (by omega)) fun b hb => ?_
  obtain ⟨b1, b2, b3⟩ := hb
  have b4 := b2 (by omega)
  obtain ⟨n, hn⟩ := Int.eq_ofNat_of_zero_le b1
  refine evx_bind (P := fun r => r.1 = (n : Int) ∧ Cur l r.2.2.1) (by rw [hn]; exact spec_l2Draw_ok (by omega) b3) fun d hd => ?_
  have hw : (Lit.int .i64 d.1).wf = true := by rw [hd.1]; exact wf_small (by omega)
  refine evx_bind (spec_l1Below_ok hd.2 (by omega)) fun e he => ?_
  obtain ⟨e1, e2, e3⟩ := he
  by_cases h0 : e.1 = 0
  · simp only [if_pos h0]
    exact evx_bind (spec_l1PickInt_ok e3 (by decide) (by decide)) fun q hq => ⟨_, Ev.now _, (by decide : ∀ x ∈ ([(-1), 6, 5, 0, 9223372036854775807] : List Int), (Lit.int .i64 x).wf = true) _ hq.1, hq.2⟩
  · simp only [if_neg h0]
    by_cases h1 : e.1 = 1
    · simp only [if_pos h1]
      exact evx_bind (spec_l1PickInt_ok e3 (by decide) (by decide)) fun q hq => ⟨_, Ev.now _, hw, hq.2⟩
    · simp only [if_neg h1]
      exact ⟨_, Ev.now _, hw, e3⟩
/-- A reader laid over what came in, then a table. -/
theorem new_any {R : Type} {l : List Int} (hl : l.length ≤ 4611686018427387904) {F : Nat → List Int × Int × Int → Int × Int × Int × Int → Option R} {Q : R → Prop} (hF : ∀ h d, (Lit.int .i64 d.1).wf = true → Cur l d.2.2.1 → ∃ r, Ev (fun k => F k (l, h) d) r ∧ Q r) :
    ∃ r, Ev (fun k => (spec_l1New.f k l).bind fun b => (spec_l2Any.f k b.1 b.2.1 b.2.2).bind fun d => F k b d) r ∧ Q r := by
  refine evx_bind (spec_l1New_ok hl) fun b hb => ?_
  obtain ⟨b0, b1⟩ := hb
  obtain ⟨b, i, h⟩ := b
  simp only at b0 b1
  subst b0
  exact evx_bind (spec_l2Any_ok b1) fun d hd => hF (i, h) d hd.1 hd.2

theorem spec_IsTable_eq (b W : Int) : spec_IsTable.f b W = some (isTab b W) := rfl

theorem spec_l1In_eq (a b c : Int) : spec_l1In.f a b c = some (decide (b ≤ a ∧ a ≤ c)) := by
  unfold spec_l1In.f
  by_cases h : b ≤ a
  · rw [if_pos h]; simp [h]
  · rw [if_neg h]; simp [h]

theorem spec_l9In_eq (b W x : Int) : spec_l9In.f b W x = some (isTab b W && isInp b x) := by
  unfold spec_l9In.f
  rw [spec_IsTable_eq, Option.bind_some]
  by_cases h : isTab b W = true
  · obtain ⟨n, w, rfl, rfl, t⟩ := isTab_yes h
    rw [if_pos h, if_pos (Int.natCast_nonneg _), spec_l1In_eq, Option.bind_some, h, Bool.true_and, shl1m (by have := t.hn; omega), isInp_le]
  · rw [if_neg h, Bool.eq_false_iff.mpr h, Bool.false_and]

theorem spec_l3Cube_ev {n w m x : Nat} (t : Tab n w) (hx : x < 2 ^ n) (hm : m < 32) : Ev (fun k => spec_l3Cube.f k n w m ((x &&& m : Nat) : Int)) (cubeV n w m (x &&& m)) := by
  have hn := t.hn
  have hs := t.size
  unfold spec_l3Cube.f
  have h := ev_for (fun k i => if cubeBoth w m (x &&& m) i = true then some 2 else spec_l3Cube.l0 k m ((x &&& m : Nat) : Int) (cubeOut w m (x &&& m) i) (i : Int) n w) (2 ^ n) (r := cubeV n w m (x &&& m)) ?_ ?_
  · exact h
  · intro i hi h
    by_cases hb : cubeBoth w m (x &&& m) i = true
    · have hb2 : cubeBoth w m (x &&& m) (i + 1) = true := by
        unfold cubeBoth at hb ⊢
        rw [Bool.and_eq_true] at hb
        simp only [seenB]
        rw [hb.1, hb.2]
        rfl
      simp only [if_pos hb2] at h
      simp only [if_pos hb]
      exact h
    · simp only [if_neg hb]
      refine Ev.step (fun k => ?_) h
      simp only [spec_l3Cube.l0]
      rw [if_pos (Int.natCast_nonneg _), shl1 (by omega), if_pos (Int.ofNat_lt.mpr hi), bandN (by omega) (by omega), w64 (by omega) (by omega), at1 t.w63]
      unfold cubeBoth cubeOut at *
      simp only [seenB]
      by_cases he : i &&& m = x &&& m
      · rw [if_pos (by rw [he]), if_pos (Int.natCast_nonneg _)]
        simp only [he, beq_self_eq_true, Bool.true_and]
        cases h1 : seenB w m (x &&& m) true i <;> cases h2 : seenB w m (x &&& m) false i <;> cases h3 : w.testBit i <;> simp_all [b2i]
      · rw [if_neg (by omega)]
        have : (i &&& m == x &&& m) = false := by simpa using he
        simp only [this, Bool.false_and, Bool.or_false]
        rw [if_neg hb]
        rfl
  · by_cases hb : cubeBoth w m (x &&& m) (2 ^ n) = true
    · simp only [if_pos hb]
      rw [cubeV_both hb]
      exact Ev.now _
    · simp only [if_neg hb]
      refine ev0 fun k => ?_
      simp only [spec_l3Cube.l0]
      rw [if_pos (Int.natCast_nonneg _), shl1 (by omega), if_neg (by omega), cubeV_out hx rfl hb]

theorem spec_l9Set_ev {n w x : Nat} (t : Tab n w) (hx : x < 2 ^ n) : Ev (fun k => spec_l9Set.f k n w x) ((cert n w x : Nat) : Int) := by
  have hn := t.hn
  have hs := t.size
  unfold spec_l9Set.f
  simp only [if_pos (Int.natCast_nonneg _), shl1m (show n ≤ 62 by omega)]
  have h0 := Nat.two_pow_pos n
  rw [show ((2 ^ n : Nat) : Int) - 1 = ((certB n w x 0 : Nat) : Int) by simp only [certB]; omega]
  refine ev_for (fun k m => spec_l9Set.l0 k x ((certB n w x m : Nat) : Int) (m : Int) n w) (2 ^ n) ?_ ?_
  · intro m hm h
    have hlt := certB_lt n w x (show m ≤ 2 ^ n by omega)
    simp only [certB] at h
    refine evs3 (spec_l2Count_ev (x := m) (by omega)) (spec_l2Count_ev (x := certB n w x m) (by omega)) (spec_l3Cube_ev t hx (m := m) (by omega)) (fun k h1 h2 h3 => ?_) h
    simp only [spec_l9Set.l0]
    rw [if_pos (Int.natCast_nonneg _), shl1 (by omega), if_pos (Int.ofNat_lt.mpr hm), h1, Option.bind_some, h2, Option.bind_some, bandN (by omega) (by omega), h3, Option.bind_some, w64 (by omega) (by omega)]
    simp only [Int.ofNat_lt]
    by_cases hp : pc m < pc (certB n w x m)
    · rw [if_pos hp, if_pos hp]
      by_cases hc : certOk n w m x = true
      · rw [if_pos (of_decide_eq_true hc), if_pos hc]
        rfl
      · rw [if_neg (fun e => hc (decide_eq_true e)), if_neg hc]
        rfl
    · rw [if_neg hp, if_neg hp]
      rfl
  · refine ev0 fun k => ?_
    simp only [spec_l9Set.l0]
    rw [if_pos (Int.natCast_nonneg _), shl1 (by omega), if_neg (by omega)]
    rfl

theorem impl_isBits_eq (b : Int) : impl_isBits.f b = some (decide (0 ≤ b ∧ b ≤ 5)) := by
  unfold impl_isBits.f
  by_cases h : b ≥ 0
  · rw [if_pos h]; simp [show 0 ≤ b from h]
  · rw [if_neg h]; simp [show ¬ 0 ≤ b from h]

theorem impl_Table_size_eq {n : Nat} (h : n ≤ 62) (W : Int) : impl_Table_size.f n W = some ((2 ^ n : Nat) : Int) := by
  unfold impl_Table_size.f
  rw [if_pos (Int.natCast_nonneg _), shl1 h]

theorem impl_IsTable_eq (b W : Int) : impl_IsTable.f b W = some (isTab b W) := by
  unfold impl_IsTable.f
  rw [impl_isBits_eq, Option.bind_some]
  by_cases h : 0 ≤ b ∧ b ≤ 5
  · obtain ⟨n, rfl⟩ := Int.eq_ofNat_of_zero_le h.1
    rw [if_pos (decide_eq_true h)]
    by_cases h2 : W ≥ 0
    · rw [if_pos h2]
      obtain ⟨w, rfl⟩ := Int.eq_ofNat_of_zero_le h2
      have hp : 2 ^ n ≤ 2 ^ 5 := Nat.pow_le_pow_right (by omega) (by omega)
      rw [impl_Table_size_eq (by omega), Option.bind_some, if_pos (Int.natCast_nonneg _), shrS (by omega)]
      congr 1
      unfold isTab
      rw [Bool.eq_iff_iff, decide_eq_true_iff, beq_iff_eq, Int.toNat_natCast]
      have e : ((2 : Int) ^ 2 ^ n) = ((2 ^ 2 ^ n : Nat) : Int) := by push_cast; rfl
      rw [e]
      have hd : w / 2 ^ 2 ^ n = 0 ↔ w < 2 ^ 2 ^ n := by rw [Nat.div_eq_zero_iff]; have := Nat.two_pow_pos (2 ^ n); omega
      constructor
      · intro h3
        have := hd.1 (by omega)
        omega
      · rintro ⟨_, _, _, h4⟩
        have := hd.2 (by omega)
        omega
    · rw [if_neg h2, show isTab n W = false from decide_eq_false fun h3 => h2 h3.2.2.1]
  · rw [if_neg (by rw [decide_eq_false h]; decide), show isTab b W = false from decide_eq_false fun h3 => h ⟨h3.1, h3.2.1⟩]

theorem impl_isInput_eq {n : Nat} (h : n ≤ 62) (x : Int) : impl_isInput.f n x = some (isInp n x) := by
  unfold impl_isInput.f
  by_cases h0 : x ≥ 0
  · rw [if_pos h0, if_pos (Int.natCast_nonneg _), shl1 h, isInp_lt h0]
  · rw [if_neg h0, show isInp n x = false from decide_eq_false fun h3 => h0 h3.1]

theorem impl_hasInput_eq (b W x : Int) : impl_hasInput.f b W x = some (isTab b W && isInp b x) := by
  unfold impl_hasInput.f
  rw [impl_IsTable_eq, Option.bind_some]
  by_cases h : isTab b W = true
  · obtain ⟨n, w, rfl, rfl, t⟩ := isTab_yes h
    rw [if_pos h, impl_isInput_eq (by have := t.hn; omega), Option.bind_some, h, Bool.true_and]
  · rw [if_neg h, Bool.eq_false_iff.mpr h, Bool.false_and]

theorem bits_OnesCount64_eq {a : Nat} (h : a < 4294967296) : bits_OnesCount64.f a = some ((pc a : Nat) : Int) := by
  obtain ⟨c0, c1, c2, c3, g0, g1, g2, g3, hv, hp, l1, l2⟩ := n123 h
  have e1 : IntKind.u64.wrap ((Go.bits .and .u64 ((a : Int) / 2) 6148914691236517205) + (Go.bits .and .u64 (a : Int) 6148914691236517205)) = ((n1 a : Nat) : Int) := by
    rw [show (a : Int) / 2 = ((a / 2 : Nat) : Int) by omega, show (6148914691236517205 : Int) = ((6148914691236517205 : Nat) : Int) from rfl, uand (by omega) (by omega), uand (by omega) (by omega), ← Int.natCast_add]
    exact uwrap (by unfold n1 at l1; omega)
  have e2 : IntKind.u64.wrap ((Go.bits .and .u64 (((n1 a : Nat) : Int) / 4) 3689348814741910323) + (Go.bits .and .u64 ((n1 a : Nat) : Int) 3689348814741910323)) = ((n2 (n1 a) : Nat) : Int) := by
    rw [show ((n1 a : Nat) : Int) / 4 = ((n1 a / 4 : Nat) : Int) by omega, show (3689348814741910323 : Int) = ((3689348814741910323 : Nat) : Int) from rfl, uand (by omega) (by omega), uand (by omega) (by omega), ← Int.natCast_add]
    exact uwrap (by unfold n2 at l2; omega)
  have e3 : Go.bits .and .u64 (IntKind.u64.wrap ((((n2 (n1 a) : Nat) : Int) / 16) + ((n2 (n1 a) : Nat) : Int))) 1085102592571150095 = ((n3 (n2 (n1 a)) : Nat) : Int) := by
    rw [show ((n2 (n1 a) : Nat) : Int) / 16 = ((n2 (n1 a) / 16 : Nat) : Int) by omega, ← Int.natCast_add, uwrap (by omega), show (1085102592571150095 : Int) = ((1085102592571150095 : Nat) : Int) from rfl, uand (by omega) (by omega)]
    rfl
  unfold bits_OnesCount64.f
  rw [e1, e2, e3, hv]
  rw [fold4 g0 g1 g2 g3, fold5 g0 g1 g2 g3, fold6 g0 g1 g2 g3, fold7 g0 g1 g2 g3, hp]

theorem impl_ones_eq {a : Nat} (h : a < 4294967296) : impl_ones.f a = some ((pc a : Nat) : Int) := by
  unfold impl_ones.f
  rw [uwrap (by omega), bits_OnesCount64_eq h, Option.bind_some]

theorem impl_Table_cube_seen_eq {w m v : Nat} (hw : w < 9223372036854775808) (hm : m < 32) (b : Bool) : ∀ N, N ≤ 32 → impl_Table_cube.seen w m v (b2i b) N = seenB w m v b N := by
  intro N
  induction N with
  | zero => intro _; rfl
  | succ N ih =>
    intro hN
    simp only [impl_Table_cube.seen, seenB]
    rw [ih (by omega), bandN (by omega) (by omega), at1 hw, b2i_beq]
    congr 2
    rw [Bool.eq_iff_iff, beq_iff_eq, beq_iff_eq]
    omega
theorem impl_Table_cube_eq {n w m v : Nat} (t : Tab n w) (hm : m < 32) : impl_Table_cube.f n w m v = some (cubeV n w m v) := by
  have hn := t.hn
  have hs := t.size
  unfold impl_Table_cube.f
  rw [if_pos (by omega), Int.toNat_natCast, show (1 : Int) = b2i true from rfl, show (0 : Int) = b2i false from rfl, impl_Table_cube_seen_eq t.w63 hm true _ hs, impl_Table_cube_seen_eq t.w63 hm false _ hs]
  rfl

theorem impl_Table_certifies_eq {n w x m : Nat} (t : Tab n w) (hx : x < 32) (hm : m < 32) : impl_Table_certifies.f n w x m = some (certOk n w m x) := by
  unfold impl_Table_certifies.f
  rw [bandN (by omega) (by omega), impl_Table_cube_eq t hm, Option.bind_some, certOk_ne]

theorem impl_Table_certificate_ev {n w x : Nat} (t : Tab n w) (hx : x < 2 ^ n) : Ev (fun k => impl_Table_certificate.f k n w x) ((cert n w x : Nat) : Int) := by
  have hn := t.hn
  have hs := t.size
  have h0 := Nat.two_pow_pos n
  unfold impl_Table_certificate.f
  simp only [impl_Table_size_eq (show n ≤ 62 by omega), Option.bind_some, w64 (show -9223372036854775808 ≤ ((2 ^ n : Nat) : Int) - 1 by omega) (by omega)]
  rw [show ((2 ^ n : Nat) : Int) - 1 = ((certB n w x 0 : Nat) : Int) by simp only [certB]; omega]
  refine ev_for (fun k m => impl_Table_certificate.l0 k x ((certB n w x m : Nat) : Int) ((2 ^ n : Nat) : Int) (m : Int) n w) (2 ^ n) ?_ ?_
  · intro m hm h
    have hlt := certB_lt n w x (show m ≤ 2 ^ n by omega)
    simp only [certB] at h
    refine Ev.step (fun k => ?_) h
    simp only [impl_Table_certificate.l0]
    rw [if_pos (Int.ofNat_lt.mpr hm), impl_ones_eq (by omega), Option.bind_some, impl_ones_eq (by omega), Option.bind_some, impl_Table_certifies_eq t (by omega) (by omega), Option.bind_some, w64 (by omega) (by omega)]
    simp only [Int.ofNat_lt]
    by_cases hp : pc m < pc (certB n w x m)
    · rw [if_pos hp, if_pos hp]
      by_cases hc : certOk n w m x = true
      · rw [if_pos hc, if_pos hc]
        rfl
      · rw [if_neg hc, if_neg hc]
        rfl
    · rw [if_neg hp, if_neg hp]
      rfl
  · refine ev0 fun k => ?_
    simp only [impl_Table_certificate.l0]
    rw [if_neg (by omega)]
    rfl

theorem CertificateSet_key (b W x : Int) : ∃ r, Ev (fun k => spec_CertificateSet.f k b W x) r ∧ Ev (fun k => impl_CertificateSet.f k b W x) r := by
  by_cases h : (isTab b W && isInp b x) = true
  · have h' := h
    rw [Bool.and_eq_true] at h
    obtain ⟨n, w, rfl, rfl, t⟩ := isTab_yes h.1
    obtain ⟨x, rfl, hx2⟩ := isInp_yes h.2
    refine ⟨(((cert n w x : Nat) : Int), true), ?_, ?_⟩
    · unfold spec_CertificateSet.f
      simp only [spec_l9In_eq, Option.bind_some, h', if_true]
      exact ev1' (spec_l9Set_ev t hx2) fun k hk => by rw [hk]; rfl
    · unfold impl_CertificateSet.f
      simp only [impl_hasInput_eq, Option.bind_some, h', if_true]
      exact ev1' (impl_Table_certificate_ev t hx2) fun k hk => by rw [hk]; rfl
  · unfold spec_CertificateSet.f impl_CertificateSet.f
    simp only [spec_l9In_eq, impl_hasInput_eq, Option.bind_some, if_neg h]
    exact ⟨_, Ev.now _, Ev.now _⟩

theorem spec_CertificateAt_ev {n w x : Nat} (t : Tab n w) (hx : x < 2 ^ n) : Ev (fun k => spec_CertificateAt.f k n w x) ((pc (cert n w x) : Nat) : Int) := by
  have hs := t.size
  have hc := cert_lt n w x
  unfold spec_CertificateAt.f
  simp only [spec_l9In_eq, isTab_mk t, isInp_mk hx, Option.bind_some, Bool.and_self, if_true]
  refine ev1 (spec_l9Set_ev t hx) (G := fun k => (spec_l2Count.f k ((cert n w x : Nat) : Int)).bind fun r => some r) (fun k hk => by rw [hk, Option.bind_some]) ?_
  exact ev1' (spec_l2Count_ev (x := cert n w x) (by omega)) fun k hk => by rw [hk]; rfl

theorem CertificateAt_key (b W x : Int) : ∃ r, Ev (fun k => spec_CertificateAt.f k b W x) r ∧ Ev (fun k => impl_CertificateAt.f k b W x) r := by
  by_cases h : (isTab b W && isInp b x) = true
  · have h' := h
    rw [Bool.and_eq_true] at h
    obtain ⟨n, w, rfl, rfl, t⟩ := isTab_yes h.1
    obtain ⟨x, rfl, hx2⟩ := isInp_yes h.2
    have hs := t.size
    have hc := cert_lt n w x
    refine ⟨_, spec_CertificateAt_ev t hx2, ?_⟩
    unfold impl_CertificateAt.f
    simp only [impl_hasInput_eq, Option.bind_some, h', if_true]
    exact ev1' (impl_Table_certificate_ev t hx2) fun k hk => by rw [hk, Option.bind_some, impl_ones_eq (by omega)]; rfl
  · unfold spec_CertificateAt.f impl_CertificateAt.f
    simp only [spec_l9In_eq, impl_hasInput_eq, Option.bind_some, if_neg h]
    exact ⟨_, Ev.now _, Ev.now _⟩

theorem impl_isBit_eq (a : Int) : impl_isBit.f a = some (decide (0 ≤ a ∧ a ≤ 1)) := by
  unfold impl_isBit.f
  by_cases h : a = 0
  · rw [if_pos h, decide_eq_true (by omega)]
  · rw [if_neg h]
    congr 1
    rw [Bool.eq_iff_iff, beq_iff_eq, decide_eq_true_eq]
    omega

theorem impl_Table_at_eq {n w : Nat} (t : Tab n w) (x : Nat) : impl_Table_at.f n w x = some (b2i (w.testBit x)) := by
  unfold impl_Table_at.f
  rw [if_pos (Int.natCast_nonneg _), at1 t.w63]

theorem certM_range (n w : Nat) (a : Int) (x : Nat) : 0 ≤ certM n w a x := by
  induction x with
  | zero => exact Int.le_refl _
  | succ x ih =>
    simp only [certM]
    split
    · simp only [mx]; split <;> omega
    · exact ih
theorem spec_CertificateOf_ev {n w : Nat} (t : Tab n w) {a : Int} (ha : 0 ≤ a ∧ a ≤ 1) : Ev (fun k => spec_CertificateOf.f k n w a) (certM n w a (2 ^ n)) := by
  have hn := t.hn
  have hs := t.size
  unfold spec_CertificateOf.f
  simp only [spec_IsTable_eq, isTab_mk t, Option.bind_some, if_true, spec_l1In_eq, decide_eq_true ha, Bool.not_true]
  refine Ev.step (f := fun k => spec_CertificateOf.l0 k a 0 0 n w) (fun k => by simp only [spec_CertificateOf.j0]; rfl) ?_
  refine ev_for (fun k x => spec_CertificateOf.l0 k a (certM n w a x) (x : Int) n w) (2 ^ n) ?_ ?_
  · intro x hx h
    simp only [certM] at h
    refine evs1 (spec_CertificateAt_ev t hx) (fun k hk => ?_) h
    simp only [spec_CertificateOf.l0]
    rw [if_pos (Int.natCast_nonneg _), shl1 (by omega), if_pos (Int.ofNat_lt.mpr hx), if_pos (Int.natCast_nonneg _), at1 t.w63, w64 (by omega) (by omega), hk, Option.bind_some]
    by_cases hv : b2i (w.testBit x) = a
    · rw [if_pos hv, if_pos hv]
      rfl
    · rw [if_neg hv, if_neg hv]
      rfl
  · refine ev0 fun k => ?_
    simp only [spec_CertificateOf.l0]
    rw [if_pos (Int.natCast_nonneg _), shl1 (by omega), if_neg (by omega)]
theorem impl_CertificateOf_ev {n w : Nat} (t : Tab n w) {a : Int} (ha : 0 ≤ a ∧ a ≤ 1) : Ev (fun k => impl_CertificateOf.f k n w a) (certM n w a (2 ^ n)) := by
  have hn := t.hn
  have hs := t.size
  unfold impl_CertificateOf.f
  simp only [impl_IsTable_eq, isTab_mk t, Option.bind_some, if_true, impl_isBit_eq, decide_eq_true ha, Bool.not_true]
  refine Ev.step (f := fun k => impl_CertificateOf.l0 k a 0 ((2 ^ n : Nat) : Int) 0 n w) (fun k => by simp only [impl_CertificateOf.j0, impl_Table_size_eq (show n ≤ 62 by omega), Option.bind_some]; rfl) ?_
  refine ev_for (fun k x => impl_CertificateOf.l0 k a (certM n w a x) ((2 ^ n : Nat) : Int) (x : Int) n w) (2 ^ n) ?_ ?_
  · intro x hx h
    simp only [certM] at h
    have hc := cert_lt n w x
    refine evs1 (impl_Table_certificate_ev t hx) (fun k hk => ?_) h
    simp only [impl_CertificateOf.l0]
    rw [if_pos (Int.ofNat_lt.mpr hx), impl_Table_at_eq t, Option.bind_some, hk, Option.bind_some, impl_ones_eq (by omega), Option.bind_some, w64 (by omega) (by omega)]
    by_cases hv : b2i (w.testBit x) = a
    · rw [if_pos hv, if_pos hv]
      rfl
    · rw [if_neg hv, if_neg hv]
      rfl
  · refine ev0 fun k => ?_
    simp only [impl_CertificateOf.l0]
    rw [if_neg (by omega)]
theorem CertificateOf_key (b W a : Int) : ∃ r, Ev (fun k => spec_CertificateOf.f k b W a) r ∧ Ev (fun k => impl_CertificateOf.f k b W a) r := by
  by_cases h : isTab b W = true
  · by_cases ha : 0 ≤ a ∧ a ≤ 1
    · obtain ⟨n, w, rfl, rfl, t⟩ := isTab_yes h
      exact ⟨_, spec_CertificateOf_ev t ha, impl_CertificateOf_ev t ha⟩
    · refine ⟨-1, ?_, ?_⟩
      · unfold spec_CertificateOf.f
        simp only [spec_IsTable_eq, Option.bind_some, h, if_true, spec_l1In_eq, decide_eq_false ha, Bool.not_false]
        exact ev0 fun k => by simp only [spec_CertificateOf.j0]; rfl
      · unfold impl_CertificateOf.f
        simp only [impl_IsTable_eq, Option.bind_some, h, if_true, impl_isBit_eq, decide_eq_false ha, Bool.not_false]
        exact ev0 fun k => by simp only [impl_CertificateOf.j0]; rfl
  · refine ⟨-1, ?_, ?_⟩
    · unfold spec_CertificateOf.f
      simp only [spec_IsTable_eq, Option.bind_some, if_neg h]
      exact ev0 fun k => by simp only [spec_CertificateOf.j0]; rfl
    · unfold impl_CertificateOf.f
      simp only [impl_IsTable_eq, Option.bind_some, if_neg h]
      exact ev0 fun k => by simp only [impl_CertificateOf.j0]; rfl

theorem IsCertificate_key (b W x m : Int) : ∃ r, Ev (fun k => spec_IsCertificate.f k b W x m) r ∧ impl_IsCertificate.f b W x m = some r := by
  by_cases h : (isTab b W && isInp b x) = true
  · have h' := h
    rw [Bool.and_eq_true] at h
    obtain ⟨n, w, rfl, rfl, t⟩ := isTab_yes h.1
    obtain ⟨x, rfl, hx2⟩ := isInp_yes h.2
    have hn := t.hn
    have hs := t.size
    by_cases h2 : isInp n m = true
    · obtain ⟨m, rfl, hm2⟩ := isInp_yes h2
      refine ⟨certOk n w m x, ?_, ?_⟩
      · unfold spec_IsCertificate.f
        simp only [spec_l9In_eq, Option.bind_some, h', if_true, if_pos (Int.natCast_nonneg _), spec_l1In_eq, shl1m (show n ≤ 62 by omega), isInp_le, h2, bandN (show x < 9223372036854775808 by omega) (show m < 9223372036854775808 by omega)]
        exact ev1' (spec_l3Cube_ev t hx2 (m := m) (by omega)) fun k hk => by rw [hk]; rfl
      · unfold impl_IsCertificate.f
        rw [impl_hasInput_eq, Option.bind_some, if_pos h', impl_isInput_eq (by omega), Option.bind_some, if_pos h2, impl_Table_certifies_eq t (by omega) (by omega)]
        rfl
    · refine ⟨false, ?_, ?_⟩
      · unfold spec_IsCertificate.f
        simp only [spec_l9In_eq, Option.bind_some, h', if_true, if_pos (Int.natCast_nonneg _), spec_l1In_eq, shl1m (show n ≤ 62 by omega), isInp_le, if_neg h2]
        exact Ev.now _
      · unfold impl_IsCertificate.f
        rw [impl_hasInput_eq, Option.bind_some, if_pos h', impl_isInput_eq (by omega), Option.bind_some, if_neg h2]
  · unfold spec_IsCertificate.f impl_IsCertificate.f
    simp only [spec_l9In_eq, impl_hasInput_eq, Option.bind_some, if_neg h]
    exact ⟨_, Ev.now _, rfl⟩

theorem impl_Table_changes_eq {n w : Nat} (t : Tab n w) {x y : Nat} (hx : x < 4294967296) (hy : y < 4294967296) : impl_Table_changes.f n w x y = some (chg w x y) := by
  unfold impl_Table_changes.f
  rw [impl_Table_at_eq t, Option.bind_some, bxorN (by omega) (by omega), impl_Table_at_eq t, Option.bind_some, b2i_ne]
  rfl

theorem IsSensitiveBlock_key (b W x y : Int) : ∃ r, spec_IsSensitiveBlock.f b W x y = some r ∧ impl_IsSensitiveBlock.f b W x y = some r := by
  unfold spec_IsSensitiveBlock.f impl_IsSensitiveBlock.f
  rw [spec_l9In_eq, impl_hasInput_eq, Option.bind_some, Option.bind_some]
  by_cases h : (isTab b W && isInp b x) = true
  · rw [if_pos h, if_pos h]
    rw [Bool.and_eq_true] at h
    obtain ⟨n, w, rfl, rfl, t⟩ := isTab_yes h.1
    obtain ⟨x, rfl, hx⟩ := isInp_yes h.2
    have hn := t.hn
    have hs := t.size
    rw [if_pos (Int.natCast_nonneg _), spec_l1In_eq, impl_isInput_eq (by omega), shl1m (by omega), isInp_le, Option.bind_some, Option.bind_some]
    by_cases h2 : isInp n y = true
    · obtain ⟨y, rfl, hy⟩ := isInp_yes h2
      rw [if_pos h2, if_pos h2, if_pos (Int.natCast_nonneg _), bxorN (by omega) (by omega), if_pos (Int.natCast_nonneg _), at1 t.w63, at1 t.w63, impl_Table_changes_eq t (by omega) (by omega), Option.bind_some, b2i_ne]
      exact ⟨_, rfl, rfl⟩
    · rw [if_neg h2, if_neg h2]
      exact ⟨_, rfl, rfl⟩
  · rw [if_neg h, if_neg h]
    exact ⟨_, rfl, rfl⟩

theorem spec_l10Blocks_ev {n w : Nat} (t : Tab n w) {x : Nat} (hx : x < 2 ^ n) : Ev (fun k => spec_l10Blocks.f k n w x) (ints (blk w x (2 ^ n))) := by
  have hn := t.hn
  have hs := t.size
  have h2 := Nat.two_pow_pos n
  unfold spec_l10Blocks.f
  have e1 : ([] : List Int) = ints (blk w x 1) := by
    rw [blk_succ]
    have : isMin w x 0 = false := by unfold isMin; rw [chg_zero, Bool.false_and]
    rw [this]
    rfl
  rw [e1]
  refine ev_from (fun k b => spec_l10Blocks.l0 k x (ints (blk w x b)) (b : Int) n w) 1 (2 ^ n) (by omega) ?_ ?_
  · intro b h0 hb h
    have hl := blk_len w x b
    have hxb : x ^^^ b < 2 ^ n := Nat.xor_lt_two_pow hx hb
    rw [blk_succ] at h
    by_cases hc : chg w x b = true
    · refine Ev.step (f := fun k => spec_l10Blocks.l1 k x (ints (blk w x b)) b true 0 n w) (fun k => ?_) ?_
      · simp only [spec_l10Blocks.l0]
        rw [if_pos (Int.natCast_nonneg _), shl1 (by omega), if_pos (Int.ofNat_lt.mpr hb), if_pos (Int.natCast_nonneg _), bxorN (by omega) (by omega), if_pos (Int.natCast_nonneg _), at1 t.w63, at1 t.w63, if_neg]
        intro e
        have := b2i_eq.1 e
        unfold chg at hc
        rw [this] at hc
        simp at hc
      · refine ev_for (fun k i => spec_l10Blocks.l1 k x (ints (blk w x b)) b (((blk w x b).take i).all fun o => o &&& b != o) (i : Int) n w) (blk w x b).length ?_ ?_
        · intro i hi h
          refine Ev.step (fun k => ?_) h
          have hmem : (blk w x b)[i] < 32 := by
            have := (blk_mem.1 (List.getElem_mem hi)).1
            omega
          rw [List.take_succ_eq_append_getElem hi, List.all_append]
          simp only [spec_l10Blocks.l1]
          rw [ints_len, if_pos (Int.ofNat_lt.mpr hi), w64 (by omega) (by omega)]
          by_cases hf : (((blk w x b).take i).all fun o => o &&& b != o) = true
          · rw [if_pos hf, if_pos (Int.natCast_nonneg _), ints_rd hi, bandN (by omega) (by omega), hf, Bool.true_and]
            have : (((((blk w x b)[i] &&& b : Nat) : Int)) != (((blk w x b)[i] : Nat) : Int)) = [(blk w x b)[i]].all fun o => o &&& b != o := by
              rw [List.all_cons, List.all_nil, Bool.and_true, Bool.eq_iff_iff, bne_iff_ne, bne_iff_ne]
              omega
            rw [this]
            rfl
          · rw [if_neg hf, Bool.eq_false_iff.mpr hf, Bool.false_and]
            rfl
        · refine Ev.step (fun k => ?_) h
          simp only [spec_l10Blocks.l1]
          rw [ints_len, if_neg (by omega), List.take_length, ← isMin_iff hc, w64 (by omega) (by omega)]
          by_cases hm : isMin w x b = true
          · rw [if_pos hm, if_pos (by omega), if_pos hm, ints_append]
            rfl
          · rw [if_neg hm, if_neg hm, List.append_nil]
            rfl
    · rw [show isMin w x b = false by unfold isMin; rw [Bool.eq_false_iff.mpr hc, Bool.false_and], if_neg (by decide), List.append_nil] at h
      refine Ev.step (fun k => ?_) h
      simp only [spec_l10Blocks.l0]
      rw [if_pos (Int.natCast_nonneg _), shl1 (by omega), if_pos (Int.ofNat_lt.mpr hb), if_pos (Int.natCast_nonneg _), bxorN (by omega) (by omega), if_pos (Int.natCast_nonneg _), at1 t.w63, at1 t.w63, if_pos (by
        unfold chg at hc
        have : w.testBit x = w.testBit (x ^^^ b) := by simpa using hc
        rw [this]), w64 (by omega) (by omega)]
      rfl
  · refine ev0 fun k => ?_
    simp only [spec_l10Blocks.l0]
    rw [if_pos (Int.natCast_nonneg _), shl1 (by omega), if_neg (by omega)]

theorem impl_Table_blocks_down {n w : Nat} (t : Tab n w) {x b : Nat} (hx : x < 32) (hb : b < 32) (L : List Int) (hL : L.length ≤ 1000) (N : Int) {r : List Int} :
    ∀ m p, p ≤ m → p &&& b = p → p < 32 → Ev (fun k => impl_Table_blocks.l0 k x (if downOk w x b p = true then L ++ [(b : Int)] else L) N ((b + 1 : Nat) : Int) n w) r →
      Ev (fun k => impl_Table_blocks.l1 k x L b true p N b n w) r := by
  intro m
  induction m with
  | zero =>
    intro p hp _ _ h
    obtain rfl : p = 0 := by omega
    rw [downOk_zero, if_pos rfl] at h
    refine Ev.step (fun k => ?_) h
    simp only [impl_Table_blocks.l1, if_true]
    rw [if_neg (by omega), if_pos (by omega), w64 (by omega) (by omega)]
    rfl
  | succ m ih =>
    intro p hp hpb hp32 h
    by_cases h0 : p = 0
    · subst h0
      rw [downOk_zero, if_pos rfl] at h
      refine Ev.step (fun k => ?_) h
      simp only [impl_Table_blocks.l1, if_true]
      rw [if_neg (by omega), if_pos (by omega), w64 (by omega) (by omega)]
      rfl
    · rw [downOk_step hb hpb (by omega) hp32] at h
      have hle : (p - 1) &&& b ≤ p - 1 := Nat.and_le_left
      by_cases hc : chg w x p = true
      · rw [hc, Bool.not_true, Bool.false_and, if_neg (by decide)] at h
        refine Ev.step (f := fun k => impl_Table_blocks.l1 k x L b false (((p - 1) &&& b : Nat) : Int) N b n w) (fun k => ?_) (Ev.step (fun k => ?_) h)
        · simp only [impl_Table_blocks.l1, if_true]
          rw [if_pos (by omega), impl_Table_changes_eq t (by omega) (by omega), Option.bind_some, hc, w64 (by omega) (by omega), show ((p : Int) - 1) = ((p - 1 : Nat) : Int) by omega, bandN (by omega) (by omega)]
          rfl
        · simp only [impl_Table_blocks.l1, Bool.false_eq_true, if_false]
          rw [w64 (by omega) (by omega)]
          rfl
      · rw [Bool.eq_false_iff.mpr hc, Bool.not_false, Bool.true_and] at h
        refine Ev.step (fun k => ?_) (ih ((p - 1) &&& b) (by omega) (part_closed b p) (by omega) h)
        simp only [impl_Table_blocks.l1, if_true]
        rw [if_pos (by omega), impl_Table_changes_eq t (by omega) (by omega), Option.bind_some, Bool.eq_false_iff.mpr hc, w64 (by omega) (by omega), show ((p : Int) - 1) = ((p - 1 : Nat) : Int) by omega, bandN (by omega) (by omega)]
        rfl
theorem impl_Table_blocks_ev {n w : Nat} (t : Tab n w) {x : Nat} (hx : x < 2 ^ n) : Ev (fun k => impl_Table_blocks.f k n w x) (ints (blk w x (2 ^ n))) := by
  have hn := t.hn
  have hs := t.size
  unfold impl_Table_blocks.f
  simp only [impl_Table_size_eq (show n ≤ 62 by omega), Option.bind_some]
  refine ev_for (fun k b => impl_Table_blocks.l0 k x (ints (blk w x b)) ((2 ^ n : Nat) : Int) (b : Int) n w) (2 ^ n) ?_ ?_
  · intro b hb h
    have hl := blk_len w x b
    rw [blk_succ] at h
    by_cases hc : chg w x b = true
    · have h0 : b ≠ 0 := by rintro rfl; rw [chg_zero] at hc; exact absurd hc (by decide)
      have hle : (b - 1) &&& b ≤ b - 1 := Nat.and_le_left
      rw [isMin_down (by omega) (by omega), hc, Bool.true_and] at h
      refine Ev.step (f := fun k => impl_Table_blocks.l1 k x (ints (blk w x b)) b true (((b - 1) &&& b : Nat) : Int) ((2 ^ n : Nat) : Int) b n w) (fun k => ?_) ?_
      · simp only [impl_Table_blocks.l0]
        rw [if_pos (Int.ofNat_lt.mpr hb), impl_Table_changes_eq t (by omega) (by omega), Option.bind_some, hc, w64 (by omega) (by omega), show ((b : Int) - 1) = ((b - 1 : Nat) : Int) by omega, bandN (by omega) (by omega)]
      · refine impl_Table_blocks_down t (by omega) (by omega) _ (by rw [ints_len]; omega) _ b _ (by omega) (part_closed b b) (by omega) ?_
        by_cases hd : downOk w x b ((b - 1) &&& b) = true
        · rw [if_pos hd, ints_append] at h
          rw [if_pos hd]
          exact h
        · rw [if_neg hd, List.append_nil] at h
          rw [if_neg hd]
          exact h
    · rw [show isMin w x b = false by unfold isMin; rw [Bool.eq_false_iff.mpr hc, Bool.false_and], if_neg (by decide), List.append_nil] at h
      refine Ev.step (f := fun k => impl_Table_blocks.l1 k x (ints (blk w x b)) b false (Go.bits .and .i64 (wrap64 ((b : Int) - 1)) b) ((2 ^ n : Nat) : Int) b n w) (fun k => ?_) (Ev.step (fun k => ?_) h)
      · simp only [impl_Table_blocks.l0]
        rw [if_pos (Int.ofNat_lt.mpr hb), impl_Table_changes_eq t (by omega) (by omega), Option.bind_some, Bool.eq_false_iff.mpr hc]
      · simp only [impl_Table_blocks.l1, Bool.false_eq_true, if_false]
        rw [w64 (by omega) (by omega)]
        rfl
  · refine ev0 fun k => ?_
    simp only [impl_Table_blocks.l0]
    rw [if_neg (by omega)]

theorem MinimalBlocks_key (b W x : Int) : ∃ (l : List Int) (c : Bool), l.length ≤ 1048576 ∧ Ev (fun k => spec_MinimalBlocks.f k b W x) (l, c) ∧ Ev (fun k => impl_MinimalBlocks.f k b W x) (l, c) := by
  unfold spec_MinimalBlocks.f impl_MinimalBlocks.f
  simp only [spec_l9In_eq, impl_hasInput_eq, Option.bind_some]
  by_cases h : (isTab b W && isInp b x) = true
  · simp only [if_pos h]
    rw [Bool.and_eq_true] at h
    obtain ⟨n, w, rfl, rfl, t⟩ := isTab_yes h.1
    obtain ⟨x, rfl, hx⟩ := isInp_yes h.2
    have hs := t.size
    have hl := blk_len w x (2 ^ n)
    exact ⟨ints (blk w x (2 ^ n)), true, by rw [ints_len]; omega, ev1' (spec_l10Blocks_ev t hx) fun k hk => by rw [hk]; rfl, ev1' (impl_Table_blocks_ev t hx) fun k hk => by rw [hk]; rfl⟩
  · simp only [if_neg h]
    exact ⟨[], false, by simp, Ev.now _, Ev.now _⟩

theorem spec_l10Pack_l {L : List Nat} (hL : L.length ≤ 32) (hb : ∀ b ∈ L, b < 32) : ∀ d i u best : Nat, L.length - i ≤ d → i ≤ L.length → u < 32 → best ≤ 64 →
    Ev (fun k => spec_l10Pack.l0 k (ints L) u best i) ((max best (pack (L.drop i) u) : Nat) : Int) := by
  intro d
  induction d with
  | zero =>
    intro i u best hd hi hu hbest
    obtain rfl : i = L.length := by omega
    refine ev0 fun k => ?_
    simp only [spec_l10Pack.l0]
    rw [ints_len, if_neg (by omega), List.drop_length]
    simp [pack]
  | succ d ih =>
    intro i u best hd hi hu hbest
    by_cases he : i = L.length
    · subst he
      refine ev0 fun k => ?_
      simp only [spec_l10Pack.l0]
      rw [ints_len, if_neg (by omega), List.drop_length]
      simp [pack]
    · have hlt : i < L.length := by omega
      have hbi := hb L[i] (List.getElem_mem hlt)
      have hor : u ||| L[i] < 2 ^ 5 := Nat.or_lt_two_pow (by omega) (by omega)
      have hp := pack_len (L.drop (i + 1)) (u ||| L[i])
      rw [List.length_drop] at hp
      rw [List.drop_eq_getElem_cons hlt]
      simp only [pack]
      by_cases hf : L[i] &&& u = 0
      · rw [if_pos hf]
        have h1 := ih (i + 1) (u ||| L[i]) 0 (by omega) (by omega) (by omega) (by omega)
        have h1' : Ev (fun k => spec_l10Pack.f k (ints L) ((i + 1 : Nat) : Int) ((u ||| L[i] : Nat) : Int)) ((max 0 (pack (L.drop (i + 1)) (u ||| L[i])) : Nat) : Int) := Ev.step (fun k => by simp only [spec_l10Pack.f]; rfl) h1
        rw [Nat.zero_max] at h1'
        have h2 := ih (i + 1) u (max best (1 + pack (L.drop (i + 1)) (u ||| L[i]))) (by omega) (by omega) hu (by omega)
        rw [show max best (max (pack (L.drop (i + 1)) u) (1 + pack (L.drop (i + 1)) (u ||| L[i]))) = max (max best (1 + pack (L.drop (i + 1)) (u ||| L[i]))) (pack (L.drop (i + 1)) u) by omega]
        refine evs1 h1' (fun k hk => ?_) h2
        simp only [spec_l10Pack.l0]
        rw [ints_len, if_pos (Int.ofNat_lt.mpr hlt), if_pos (Int.natCast_nonneg _), ints_rd hlt, bandN (by omega) (by omega), if_pos (by omega), borN (by omega) (by omega), w64 (x := (i : Int) + 1) (by omega) (by omega), show ((i : Int) + 1) = ((i + 1 : Nat) : Int) from rfl, hk, Option.bind_some, w64 (by omega) (by omega), show (1 + ((pack (L.drop (i + 1)) (u ||| L[i]) : Nat) : Int)) = ((1 + pack (L.drop (i + 1)) (u ||| L[i]) : Nat) : Int) by omega, mx_nat]
      · rw [if_neg hf]
        refine Ev.step (fun k => ?_) (ih (i + 1) u best (by omega) (by omega) hu hbest)
        simp only [spec_l10Pack.l0]
        rw [ints_len, if_pos (Int.ofNat_lt.mpr hlt), if_pos (Int.natCast_nonneg _), ints_rd hlt, bandN (by omega) (by omega), if_neg (by omega), w64 (by omega) (by omega)]
        rfl
theorem spec_l10Pack_ev {L : List Nat} (hL : L.length ≤ 32) (hb : ∀ b ∈ L, b < 32) : Ev (fun k => spec_l10Pack.f k (ints L) 0 0) ((pack L 0 : Nat) : Int) := by
  have h := spec_l10Pack_l hL hb L.length 0 0 0 (by omega) (by omega) (by omega) (by omega)
  rw [List.drop_zero, Nat.zero_max] at h
  exact Ev.step (fun k => by simp only [spec_l10Pack.f]; rfl) h

theorem impl_Table_apart_ev {n w : Nat} (t : Tab n w) {x : Nat} (hx : x < 2 ^ n) : Ev (fun k => impl_Table_apart.f k n w x) ((pack (blk w x (2 ^ n)) 0 : Nat) : Int) := by
  have hn := t.hn
  have hs := t.size
  have h2 := Nat.two_pow_pos n
  have hlen := blk_len w x (2 ^ n)
  have hmem : ∀ b ∈ blk w x (2 ^ n), b < 2 ^ n ∧ b ≠ 0 := fun b hb => ⟨(blk_mem.1 hb).1, isMin_pos (blk_mem.1 hb).2⟩
  generalize hL : blk w x (2 ^ n) = L at *
  have hev := impl_Table_blocks_ev t hx
  rw [hL] at hev
  unfold impl_Table_apart.f
  refine ev1 hev (G := fun k => impl_Table_apart.l0 k (ints L) (rwS (2 ^ n) 0 (inset n L)) ((2 ^ n : Nat) : Int) 0 n w) (fun k hk => ?_) ?_
  · rw [hk, Option.bind_some, impl_Table_size_eq (by omega), Option.bind_some, if_pos (Int.natCast_nonneg _), Int.toNat_natCast, if_pos (by omega), Option.bind_some, List.length_replicate, rwS_zero]
  refine ev_for (fun k s => impl_Table_apart.l0 k (ints L) (rwS (2 ^ n) s (inset n L)) ((2 ^ n : Nat) : Int) (s : Int) n w) (2 ^ n) ?_ ?_
  · intro s hs' h
    refine Ev.step (f := fun k => impl_Table_apart.l1 k (ints L) (rwAt (2 ^ n) s (inset n L) 0) s ((2 ^ n : Nat) : Int) s (ints L) (L.length : Int) 0 n w) (fun k => ?_) ?_
    · simp only [impl_Table_apart.l0]
      rw [if_pos (Int.ofNat_lt.mpr hs'), rwS_at _ hs', ints_len]
    refine ev_for (fun k i => impl_Table_apart.l1 k (ints L) (rwAt (2 ^ n) s (inset n L) ((foldB L (2 ^ n - 1 - s) (L.take i) : Nat) : Int)) s ((2 ^ n : Nat) : Int) s (ints L) (L.length : Int) (i : Int) n w) L.length ?_ ?_
    · intro i hi h
      refine Ev.step (fun k => ?_) h
      obtain ⟨hb1, hb2⟩ := hmem L[i] (List.getElem_mem hi)
      have hf := full_facts n (by omega) s hs' L[i] hb1
      have hst : foldB L (2 ^ n - 1 - s) (L.take (i + 1)) = stepB L (2 ^ n - 1 - s) (foldB L (2 ^ n - 1 - s) (L.take i)) L[i] := by
        unfold foldB
        rw [List.take_succ_eq_append_getElem hi, List.foldl_append]
        rfl
      simp only [impl_Table_apart.l1]
      rw [if_pos (Int.ofNat_lt.mpr hi), if_pos (Int.natCast_nonneg _), ints_len, if_pos (Int.ofNat_lt.mpr hi), ints_rd hi, bandnotN (by omega) (by omega), hst, w64 (x := (i : Int) + 1) (by omega) (by omega)]
      unfold stepB
      by_cases hm : minus L[i] s = 0
      · have hm' := hm
        unfold minus at hm'
        have hp := pack_len L ((2 ^ n - 1 - s) ||| L[i])
        have hlt := (hf.2 hm).2 hb2
        have e3 : rd (rwAt (2 ^ n) s (inset n L) ((foldB L (2 ^ n - 1 - s) (L.take i) : Nat) : Int)) ((minus s L[i] : Nat) : Int) = ((pack L ((2 ^ n - 1 - s) ||| L[i]) : Nat) : Int) := by
          rw [rwAt_rd_lt _ _ hlt, (hf.2 hm).1]
          rfl
        have e4 : Go.bits .andNot .i64 (s : Int) ((L[i] : Nat) : Int) = ((minus s L[i] : Nat) : Int) := bandnotN (by omega) (by omega)
        rw [if_pos (by omega), if_pos (Int.natCast_nonneg _), rwAt_len _ _ hs', if_pos (Int.ofNat_lt.mpr hs'), e4, if_pos (Int.natCast_nonneg _), if_pos (by omega), if_pos (hf.1.2 hm), e3, rwAt_rd, w64 (by omega) (by omega), Int.toNat_natCast, rwAt_set, show (1 + ((pack L ((2 ^ n - 1 - s) ||| L[i]) : Nat) : Int)) = ((1 + pack L ((2 ^ n - 1 - s) ||| L[i]) : Nat) : Int) by omega, mx_nat]
        rfl
      · have hm' := hm
        unfold minus at hm'
        rw [if_neg (by omega), if_neg (fun h => hm (hf.1.1 h))]
        rfl
    · refine Ev.step (fun k => ?_) h
      have hfin : ((foldB L (2 ^ n - 1 - s) L : Nat) : Int) = inset n L s := by
        rw [foldB_eq (fun b hb => (hmem b hb).2)]
        rfl
      simp only [impl_Table_apart.l1]
      rw [if_neg (by omega), List.take_length, hfin, rwAt_next _ hs', w64 (by omega) (by omega)]
      rfl
  · refine ev0 fun k => ?_
    simp only [impl_Table_apart.l0]
    rw [if_neg (by omega), impl_Table_size_eq (by omega), Option.bind_some, w64 (by omega) (by omega), show (((2 ^ n : Nat) : Int) - 1) = ((2 ^ n - 1 : Nat) : Int) by omega, if_pos (Int.natCast_nonneg _), rwS_len _ (by omega), if_pos (by omega), rwS_rd_lt _ (by omega)]
    unfold inset
    rw [Nat.sub_self]

theorem spec_BlockSensitivityAt_ev {n w : Nat} (t : Tab n w) {x : Nat} (hx : x < 2 ^ n) : Ev (fun k => spec_BlockSensitivityAt.f k n w x) ((pack (blk w x (2 ^ n)) 0 : Nat) : Int) := by
  have hs := t.size
  have hlen := blk_len w x (2 ^ n)
  unfold spec_BlockSensitivityAt.f
  simp only [spec_l9In_eq, isTab_mk t, isInp_mk hx, Option.bind_some, Bool.and_self, if_true]
  refine ev1 (spec_l10Blocks_ev t hx) (G := fun k => (spec_l10Pack.f k (ints (blk w x (2 ^ n))) 0 0).bind fun r => some r) (fun k hk => by rw [hk, Option.bind_some]) ?_
  exact ev1' (spec_l10Pack_ev (L := blk w x (2 ^ n)) (by omega) fun b hb => by have := (blk_mem.1 hb).1; omega) fun k hk => by rw [hk]; rfl
theorem BlockSensitivityAt_key (b W x : Int) : ∃ r, Ev (fun k => spec_BlockSensitivityAt.f k b W x) r ∧ Ev (fun k => impl_BlockSensitivityAt.f k b W x) r := by
  by_cases h : (isTab b W && isInp b x) = true
  · have h' := h
    rw [Bool.and_eq_true] at h
    obtain ⟨n, w, rfl, rfl, t⟩ := isTab_yes h.1
    obtain ⟨x, rfl, hx2⟩ := isInp_yes h.2
    refine ⟨_, spec_BlockSensitivityAt_ev t hx2, ?_⟩
    unfold impl_BlockSensitivityAt.f
    simp only [impl_hasInput_eq, Option.bind_some, h', if_true]
    exact ev1' (impl_Table_apart_ev t hx2) fun k hk => by rw [hk]; rfl
  · unfold spec_BlockSensitivityAt.f impl_BlockSensitivityAt.f
    simp only [spec_l9In_eq, impl_hasInput_eq, Option.bind_some, if_neg h]
    exact ⟨_, Ev.now _, Ev.now _⟩

def bs (n w : Nat) (x : Nat) : Int := ((pack (blk w x (2 ^ n)) 0 : Nat) : Int)
theorem spec_BlockSensitivityOf_ev {n w : Nat} (t : Tab n w) : Ev (fun k => spec_BlockSensitivityOf.f k n w) (maxI (2 ^ n) (bs n w) 0) := by
  have hn := t.hn
  have hs := t.size
  unfold spec_BlockSensitivityOf.f
  simp only [spec_IsTable_eq, isTab_mk t, Option.bind_some, if_true]
  refine ev_for (fun k x => spec_BlockSensitivityOf.l0 k (maxI x (bs n w) 0) (x : Int) n w) (2 ^ n) ?_ ?_
  · intro x hx h
    refine evs1 (spec_BlockSensitivityAt_ev t hx) (fun k hk => ?_) h
    simp only [spec_BlockSensitivityOf.l0]
    rw [if_pos (by omega), shl1 (by omega), if_pos (Int.ofNat_lt.mpr hx), hk, Option.bind_some, w64 (by omega) (by omega)]
    rfl
  · refine ev0 fun k => ?_
    simp only [spec_BlockSensitivityOf.l0]
    rw [if_pos (by omega), shl1 (by omega), if_neg (by omega)]
theorem impl_BlockSensitivityOf_ev {n w : Nat} (t : Tab n w) : Ev (fun k => impl_BlockSensitivityOf.f k n w) (maxI (2 ^ n) (bs n w) 0) := by
  have hn := t.hn
  have hs := t.size
  unfold impl_BlockSensitivityOf.f
  simp only [impl_IsTable_eq, isTab_mk t, Option.bind_some, if_true, impl_Table_size_eq (show n ≤ 62 by omega)]
  refine ev_for (fun k x => impl_BlockSensitivityOf.l0 k (maxI x (bs n w) 0) ((2 ^ n : Nat) : Int) (x : Int) n w) (2 ^ n) ?_ ?_
  · intro x hx h
    refine evs1 (impl_Table_apart_ev t hx) (fun k hk => ?_) h
    simp only [impl_BlockSensitivityOf.l0]
    rw [if_pos (Int.ofNat_lt.mpr hx), hk, Option.bind_some, w64 (by omega) (by omega)]
    rfl
  · refine ev0 fun k => ?_
    simp only [impl_BlockSensitivityOf.l0]
    rw [if_neg (by omega)]
theorem BlockSensitivityOf_key (b W : Int) : ∃ r, Ev (fun k => spec_BlockSensitivityOf.f k b W) r ∧ Ev (fun k => impl_BlockSensitivityOf.f k b W) r := by
  by_cases h : isTab b W = true
  · obtain ⟨n, w, rfl, rfl, t⟩ := isTab_yes h
    exact ⟨_, spec_BlockSensitivityOf_ev t, impl_BlockSensitivityOf_ev t⟩
  · unfold spec_BlockSensitivityOf.f impl_BlockSensitivityOf.f
    simp only [spec_IsTable_eq, impl_IsTable_eq, Option.bind_some, if_neg h]
    exact ⟨_, Ev.now _, Ev.now _⟩

theorem spec_l10At_ev {n w : Nat} (t : Tab n w) {x : Nat} (hx : x < 4294967296) : Ev (fun k => spec_l10At.f k n w x) (sens n w x) := by
  have hn := t.hn
  unfold spec_l10At.f
  refine ev_for (fun k i => spec_l10At.l0 k x (sumI i fun i => b2i (chg w x (2 ^ i))) (i : Int) n w) n ?_ ?_
  · intro i hi h
    refine Ev.step (fun k => ?_) h
    have hp : 2 ^ i ≤ 32 := pow62 (by omega)
    have hb := sum_b2i i fun i => chg w x (2 ^ i)
    have hc := b2i_range (chg w x (2 ^ i))
    simp only [spec_l10At.l0]
    rw [if_pos (by omega), if_pos (by omega), if_pos (by omega), shl1 (by omega), bxorN (by omega) (by omega), if_pos (Int.natCast_nonneg _), at3 t.w63]
    rw [w64 (by omega) (by omega), w64 (by omega) (by omega)]
    rfl
  · refine ev0 fun k => ?_
    simp only [spec_l10At.l0]
    rw [if_neg (by omega)]
    rfl

theorem impl_Table_sensitivity_ev {n w : Nat} (t : Tab n w) {x : Nat} (hx : x < 4294967296) : Ev (fun k => impl_Table_sensitivity.f k n w x) (sens n w x) := by
  have hn := t.hn
  unfold impl_Table_sensitivity.f
  refine ev_for (fun k i => impl_Table_sensitivity.l0 k x (sumI i fun i => b2i (chg w x (2 ^ i))) n (i : Int) n w) n ?_ ?_
  · intro i hi h
    refine Ev.step (fun k => ?_) h
    have hp : 2 ^ i ≤ 32 := pow62 (by omega)
    have hb := sum_b2i i fun i => chg w x (2 ^ i)
    simp only [impl_Table_sensitivity.l0]
    rw [if_pos (by omega), if_pos (by omega), shl1 (by omega), impl_Table_changes_eq t hx (by omega), Option.bind_some, w64 (x := (i : Int) + 1) (by omega) (by omega)]
    simp only [sumI]
    by_cases hc : chg w x (2 ^ i) = true
    · rw [if_pos hc, hc, w64 (by omega) (by omega)]
      rfl
    · rw [if_neg hc, Bool.eq_false_iff.mpr hc]
      simp only [b2i, Bool.false_eq_true, if_false, Int.add_zero]
      rfl
  · refine ev0 fun k => ?_
    simp only [impl_Table_sensitivity.l0]
    rw [if_neg (by omega)]
    rfl

theorem SensitivityAt_key (b W x : Int) : ∃ r, Ev (fun k => spec_SensitivityAt.f k b W x) r ∧ Ev (fun k => impl_SensitivityAt.f k b W x) r := by
  unfold spec_SensitivityAt.f impl_SensitivityAt.f
  simp only [spec_l9In_eq, impl_hasInput_eq, Option.bind_some]
  by_cases h : (isTab b W && isInp b x) = true
  · simp only [if_pos h]
    rw [Bool.and_eq_true] at h
    obtain ⟨n, w, rfl, rfl, t⟩ := isTab_yes h.1
    obtain ⟨x, rfl, hx⟩ := isInp_yes h.2
    have hs := t.size
    exact ⟨sens n w x, ev1' (spec_l10At_ev t (x := x) (by omega)) fun k hk => by rw [hk]; rfl, ev1' (impl_Table_sensitivity_ev t (x := x) (by omega)) fun k hk => by rw [hk]; rfl⟩
  · simp only [if_neg h]
    exact ⟨_, Ev.now _, Ev.now _⟩

theorem spec_SensitivityOf_ev {n w : Nat} (t : Tab n w) : Ev (fun k => spec_SensitivityOf.f k n w) (maxI (2 ^ n) (fun x => sens n w x) 0) := by
  have hn := t.hn
  have hs := t.size
  unfold spec_SensitivityOf.f
  simp only [spec_IsTable_eq, isTab_mk t, Option.bind_some, if_true]
  refine ev_for (fun k x => spec_SensitivityOf.l0 k (maxI x (fun x => sens n w x) 0) (x : Int) n w) (2 ^ n) ?_ ?_
  · intro x hx h
    refine evs1 (spec_l10At_ev t (x := x) (by omega)) (fun k hk => ?_) h
    simp only [spec_SensitivityOf.l0]
    rw [if_pos (by omega), shl1 (by omega), if_pos (Int.ofNat_lt.mpr hx), hk, Option.bind_some, w64 (by omega) (by omega)]
    rfl
  · refine ev0 fun k => ?_
    simp only [spec_SensitivityOf.l0]
    rw [if_pos (by omega), shl1 (by omega), if_neg (by omega)]
theorem impl_SensitivityOf_ev {n w : Nat} (t : Tab n w) : Ev (fun k => impl_SensitivityOf.f k n w) (maxI (2 ^ n) (fun x => sens n w x) 0) := by
  have hn := t.hn
  have hs := t.size
  unfold impl_SensitivityOf.f
  simp only [impl_IsTable_eq, isTab_mk t, Option.bind_some, if_true, impl_Table_size_eq (show n ≤ 62 by omega)]
  refine ev_for (fun k x => impl_SensitivityOf.l0 k (maxI x (fun x => sens n w x) 0) ((2 ^ n : Nat) : Int) (x : Int) n w) (2 ^ n) ?_ ?_
  · intro x hx h
    refine evs1 (impl_Table_sensitivity_ev t (x := x) (by omega)) (fun k hk => ?_) h
    simp only [impl_SensitivityOf.l0]
    rw [if_pos (Int.ofNat_lt.mpr hx), hk, Option.bind_some, w64 (by omega) (by omega)]
    rfl
  · refine ev0 fun k => ?_
    simp only [impl_SensitivityOf.l0]
    rw [if_neg (by omega)]
theorem SensitivityOf_key (b W : Int) : ∃ r, Ev (fun k => spec_SensitivityOf.f k b W) r ∧ Ev (fun k => impl_SensitivityOf.f k b W) r := by
  by_cases h : isTab b W = true
  · obtain ⟨n, w, rfl, rfl, t⟩ := isTab_yes h
    exact ⟨_, spec_SensitivityOf_ev t, impl_SensitivityOf_ev t⟩
  · unfold spec_SensitivityOf.f impl_SensitivityOf.f
    simp only [spec_IsTable_eq, impl_IsTable_eq, Option.bind_some, if_neg h]
    exact ⟨_, Ev.now _, Ev.now _⟩

theorem edges_range (n w N : Nat) : 0 ≤ sumI N (fun x => sens n w x) ∧ sumI N (fun x => sens n w x) ≤ N * n := by
  have := sumI_bound (n := N) (f := fun x => sens n w x) (a := 0) (b := n) fun x _ => sens_range n w x
  omega
theorem spec_SensitiveEdges_ev {n w : Nat} (t : Tab n w) : Ev (fun k => spec_SensitiveEdges.f k n w) (sumI (2 ^ n) (fun x => sens n w x) / 2) := by
  have hn := t.hn
  have hs := t.size
  unfold spec_SensitiveEdges.f
  simp only [spec_IsTable_eq, isTab_mk t, Option.bind_some, if_true]
  refine ev_for (fun k x => spec_SensitiveEdges.l0 k (sumI x fun x => sens n w x) (x : Int) n w) (2 ^ n) ?_ ?_
  · intro x hx h
    refine evs1 (spec_l10At_ev t (x := x) (by omega)) (fun k hk => ?_) h
    have hb := edges_range n w x
    have hc := sens_range n w x
    have hm : (x : Int) * n ≤ 32 * 5 := Int.mul_le_mul (by omega) (by omega) (by omega) (by omega)
    simp only [spec_SensitiveEdges.l0]
    rw [if_pos (by omega), shl1 (by omega), if_pos (Int.ofNat_lt.mpr hx), hk, Option.bind_some, w64 (by omega) (by omega), w64 (by omega) (by omega)]
    rfl
  · refine ev0 fun k => ?_
    have hb := edges_range n w (2 ^ n)
    have hm : ((2 ^ n : Nat) : Int) * n ≤ 32 * 5 := Int.mul_le_mul (by omega) (by omega) (by omega) (by omega)
    simp only [spec_SensitiveEdges.l0]
    rw [if_pos (by omega), shl1 (by omega), if_neg (by omega), Int.tdiv_eq_ediv_of_nonneg hb.1, w64 (by omega) (by omega)]

theorem impl_SensitiveEdges_ev {n w : Nat} (t : Tab n w) : Ev (fun k => impl_SensitiveEdges.f k n w) (sumI (2 ^ n) (fun x => sens n w x) / 2) := by
  have hn := t.hn
  have hs := t.size
  unfold impl_SensitiveEdges.f
  simp only [impl_IsTable_eq, isTab_mk t, Option.bind_some, if_true, impl_Table_size_eq (show n ≤ 62 by omega)]
  refine ev_for (fun k x => impl_SensitiveEdges.l0 k (sumI x fun x => sens n w x) ((2 ^ n : Nat) : Int) (x : Int) n w) (2 ^ n) ?_ ?_
  · intro x hx h
    refine evs1 (impl_Table_sensitivity_ev t (x := x) (by omega)) (fun k hk => ?_) h
    have hb := edges_range n w x
    have hc := sens_range n w x
    have hm : (x : Int) * n ≤ 32 * 5 := Int.mul_le_mul (by omega) (by omega) (by omega) (by omega)
    simp only [impl_SensitiveEdges.l0]
    rw [if_pos (Int.ofNat_lt.mpr hx), hk, Option.bind_some, w64 (by omega) (by omega), w64 (by omega) (by omega)]
    rfl
  · refine ev0 fun k => ?_
    have hb := edges_range n w (2 ^ n)
    have hm : ((2 ^ n : Nat) : Int) * n ≤ 32 * 5 := Int.mul_le_mul (by omega) (by omega) (by omega) (by omega)
    simp only [impl_SensitiveEdges.l0]
    rw [if_neg (by omega), Int.tdiv_eq_ediv_of_nonneg hb.1, w64 (by omega) (by omega)]
theorem SensitiveEdges_key (b W : Int) : ∃ r, Ev (fun k => spec_SensitiveEdges.f k b W) r ∧ Ev (fun k => impl_SensitiveEdges.f k b W) r := by
  by_cases h : isTab b W = true
  · obtain ⟨n, w, rfl, rfl, t⟩ := isTab_yes h
    exact ⟨_, spec_SensitiveEdges_ev t, impl_SensitiveEdges_ev t⟩
  · unfold spec_SensitiveEdges.f impl_SensitiveEdges.f
    simp only [spec_IsTable_eq, impl_IsTable_eq, Option.bind_some, if_neg h]
    exact ⟨_, Ev.now _, Ev.now _⟩

theorem meet_zero (c d e : Nat) : (((c &&& d &&& e : Nat) : Int) = 0) ↔ ((c &&& d &&& e) != 0) = false := by
  rw [bne_eq_false_iff_eq]
  omega
theorem spec_MeetingOf_ev {n w : Nat} (t : Tab n w) : Ev (fun k => spec_MeetingOf.f k n w) (meetF n w (2 ^ n) (2 ^ n)) := by
  have hn := t.hn
  have hs := t.size
  unfold spec_MeetingOf.f
  have h := ev_for (fun k x => if meetF n w (2 ^ n) x = true then spec_MeetingOf.l0 k (x : Int) n w else some false) (2 ^ n) (r := meetF n w (2 ^ n) (2 ^ n)) ?_ ?_
  · exact h
  · intro x hx h
    simp only [meetF_succ] at h
    by_cases hp : meetF n w (2 ^ n) x = true
    · simp only [hp, if_true, Bool.true_and] at h ⊢
      refine Ev.step (f := fun k => spec_MeetingOf.j1 k x true n w) (fun k => by simp only [spec_MeetingOf.l0, spec_IsTable_eq, isTab_mk t, Option.bind_some, if_true]; rw [if_pos (Int.natCast_nonneg _), shl1 (by omega), decide_eq_true (Int.ofNat_lt.mpr hx)]) ?_
      refine Ev.step (f := fun k => spec_MeetingOf.l1 k x 0 n w) (fun k => by simp only [spec_MeetingOf.j1, if_true]) ?_
      have h' := ev_for (fun k y => if meetAll n w y x = true then spec_MeetingOf.l1 k (x : Int) (y : Int) n w else some false) (2 ^ n) (r := meetF n w (2 ^ n) (2 ^ n)) ?_ ?_
      · exact h'
      · intro y hy h
        simp only [meetAll_succ] at h
        by_cases hq : meetAll n w y x = true
        · simp only [hq, if_true, Bool.true_and] at h ⊢
          have hcx := cert_lt n w x
          have hcy := cert_lt n w y
          have hxy : x ^^^ y < 2 ^ n := Nat.xor_lt_two_pow hx hy
          have hcc : cert n w x &&& cert n w y < 2 ^ n := Nat.and_lt_two_pow _ hcy
          refine evs2 (spec_l9Set_ev t hx) (spec_l9Set_ev t hy) (fun k h1 h2 => ?_) h
          simp only [spec_MeetingOf.l1]
          rw [if_pos (Int.natCast_nonneg _), shl1 (by omega), if_pos (Int.ofNat_lt.mpr hy), if_pos (Int.natCast_nonneg _), if_pos (Int.natCast_nonneg _), at1 t.w63, at1 t.w63, h1, Option.bind_some, h2, Option.bind_some, bandN (by omega) (by omega), bxorN (by omega) (by omega), bandN (by omega) (by omega), w64 (by omega) (by omega)]
          unfold meets
          by_cases hv : w.testBit x = w.testBit y
          · rw [if_pos (by rw [hv]), hv, beq_self_eq_true, Bool.true_or]
            rfl
          · rw [if_neg (fun e => hv (b2i_eq.1 e)), show (w.testBit x == w.testBit y) = false by simpa using hv, Bool.false_or]
            by_cases hz : ((cert n w x &&& cert n w y &&& (x ^^^ y) : Nat) : Int) = 0
            · rw [if_pos hz, (meet_zero _ _ _).1 hz]
              rfl
            · rw [if_neg hz, if_pos (by rcases e : (cert n w x &&& cert n w y &&& (x ^^^ y) != 0) with _ | _; exact absurd ((meet_zero _ _ _).2 e) hz; rfl)]
              rfl
        · simp only [hq, Bool.false_eq_true, if_false, Bool.false_and] at h ⊢
          exact h
      · by_cases hq : meetAll n w (2 ^ n) x = true
        · simp only [hq, if_true] at h ⊢
          refine Ev.step (fun k => ?_) h
          simp only [spec_MeetingOf.l1]
          rw [if_pos (Int.natCast_nonneg _), shl1 (by omega), if_neg (by omega), w64 (by omega) (by omega)]
          rfl
        · simp only [hq, Bool.false_eq_true, if_false] at h ⊢
          exact h
    · simp only [hp, Bool.false_eq_true, if_false, Bool.false_and] at h ⊢
      exact h
  · by_cases hp : meetF n w (2 ^ n) (2 ^ n) = true
    · simp only [hp, if_true]
      refine Ev.step (f := fun k => spec_MeetingOf.j1 k ((2 ^ n : Nat) : Int) false n w) (fun k => by simp only [spec_MeetingOf.l0, spec_IsTable_eq, isTab_mk t, Option.bind_some, if_true]; rw [if_pos (Int.natCast_nonneg _), shl1 (by omega), decide_eq_false (by omega)]) ?_
      exact ev0 fun k => by simp only [spec_MeetingOf.j1, spec_IsTable_eq, isTab_mk t, Option.bind_some]; rfl
    · simp only [hp, Bool.false_eq_true, if_false]
      exact Ev.now _
theorem impl_MeetingOf_ev {n w : Nat} (t : Tab n w) : Ev (fun k => impl_MeetingOf.f k n w) (meetH n w (2 ^ n)) := by
  have hn := t.hn
  have hs := t.size
  unfold impl_MeetingOf.f
  simp only [impl_IsTable_eq, isTab_mk t, Option.bind_some, if_true, impl_Table_size_eq (show n ≤ 62 by omega)]
  have h := ev_for (fun k x => if meetH n w x = true then impl_MeetingOf.l0 k ((2 ^ n : Nat) : Int) (x : Int) n w else some false) (2 ^ n) (r := meetH n w (2 ^ n)) ?_ ?_
  · exact h
  · intro x hx h
    simp only [meetH_succ] at h
    by_cases hp : meetH n w x = true
    · simp only [hp, if_true, Bool.true_and] at h ⊢
      refine Ev.step (f := fun k => impl_MeetingOf.l1 k x ((2 ^ n : Nat) : Int) x x 0 n w) (fun k => by simp only [impl_MeetingOf.l0]; rw [if_pos (Int.ofNat_lt.mpr hx)]) ?_
      have h' := ev_for (fun k y => if meetAll n w y x = true then impl_MeetingOf.l1 k (x : Int) ((2 ^ n : Nat) : Int) (x : Int) (x : Int) (y : Int) n w else some false) x (r := meetH n w (2 ^ n)) ?_ ?_
      · exact h'
      · intro y hy h
        simp only [meetAll_succ] at h
        by_cases hq : meetAll n w y x = true
        · simp only [hq, if_true, Bool.true_and] at h ⊢
          have hcx := cert_lt n w x
          have hcy := cert_lt n w y
          have hxy : x ^^^ y < 2 ^ n := Nat.xor_lt_two_pow hx (by omega)
          have hcc : cert n w x &&& cert n w y < 2 ^ n := Nat.and_lt_two_pow _ hcy
          refine evs2 (impl_Table_certificate_ev t hx) (impl_Table_certificate_ev t (x := y) (by omega)) (fun k h1 h2 => ?_) h
          simp only [impl_MeetingOf.l1]
          rw [if_pos (Int.ofNat_lt.mpr hy), impl_Table_at_eq t, Option.bind_some, impl_Table_at_eq t, Option.bind_some, h1, Option.bind_some, h2, Option.bind_some, bandN (by omega) (by omega), bxorN (by omega) (by omega), bandN (by omega) (by omega), w64 (by omega) (by omega)]
          unfold meets
          by_cases hv : w.testBit x = w.testBit y
          · rw [if_pos (by rw [hv]), hv, beq_self_eq_true, Bool.true_or]
            rfl
          · rw [if_neg (fun e => hv (b2i_eq.1 e)), show (w.testBit x == w.testBit y) = false by simpa using hv, Bool.false_or]
            by_cases hz : ((cert n w x &&& cert n w y &&& (x ^^^ y) : Nat) : Int) = 0
            · rw [if_pos hz, (meet_zero _ _ _).1 hz]
              rfl
            · rw [if_neg hz, if_pos (by rcases e : (cert n w x &&& cert n w y &&& (x ^^^ y) != 0) with _ | _; exact absurd ((meet_zero _ _ _).2 e) hz; rfl)]
              rfl
        · simp only [hq, Bool.false_eq_true, if_false, Bool.false_and] at h ⊢
          exact h
      · by_cases hq : meetAll n w x x = true
        · simp only [hq, if_true] at h ⊢
          refine Ev.step (fun k => ?_) h
          simp only [impl_MeetingOf.l1]
          rw [if_neg (by omega), w64 (by omega) (by omega)]
          rfl
        · simp only [hq, Bool.false_eq_true, if_false] at h ⊢
          exact h
    · simp only [hp, Bool.false_eq_true, if_false, Bool.false_and] at h ⊢
      exact h
  · by_cases hp : meetH n w (2 ^ n) = true
    · simp only [hp, if_true]
      exact ev0 fun k => by simp only [impl_MeetingOf.l0]; rw [if_neg (by omega)]
    · simp only [hp, Bool.false_eq_true, if_false]
      exact Ev.now _
theorem MeetingOf_key (b W : Int) : ∃ r, Ev (fun k => spec_MeetingOf.f k b W) r ∧ Ev (fun k => impl_MeetingOf.f k b W) r := by
  by_cases h : isTab b W = true
  · obtain ⟨n, w, rfl, rfl, t⟩ := isTab_yes h
    exact ⟨_, ev_eq (spec_MeetingOf_ev t) (meet_same n w (2 ^ n)), impl_MeetingOf_ev t⟩
  · refine ⟨false, ?_, ?_⟩
    · unfold spec_MeetingOf.f
      refine Ev.step (f := fun k => spec_MeetingOf.j1 k 0 false b W) (fun k => by simp only [spec_MeetingOf.l0, spec_IsTable_eq, Option.bind_some, if_neg h]) ?_
      exact ev0 fun k => by simp only [spec_MeetingOf.j1, spec_IsTable_eq, Option.bind_some, Bool.eq_false_iff.mpr h]; rfl
    · unfold impl_MeetingOf.f
      simp only [impl_IsTable_eq, Option.bind_some, if_neg h]
      exact Ev.now _

theorem spec_l9Both_ok {l : List Int} (hl : l.length ≤ 4611686018427387904) : ∃ r, Ev (fun k => spec_l9Both.f k l) r ∧ True := by
  unfold spec_l9Both.f
  exact new_any hl fun h d _ hd => evx_bind (spec_l1Below_ok hd (by omega)) fun b _ => ⟨_, Ev.now _, trivial⟩
theorem pick_list {R : Type} (L : List Int) {m : Int} (h0 : 0 ≤ m) (h1 : m < (L.length : Int)) (F : Int → R) : ((some L).bind fun y => if 0 ≤ m then (if m < (y.length : Int) then some (F (rd y m)) else none) else none) = some (F (rd L m)) := by
  rw [Option.bind_some, if_pos h0, if_pos h1]
theorem spec_DrawCertificateSet_ok {l : List Int} (hl : l.length ≤ 4611686018427387904) : ∃ r, Ev (fun k => spec_DrawCertificateSet.f k l) r ∧ True := by
  unfold spec_DrawCertificateSet.f
  exact evx_bind (spec_l9Both_ok hl) fun d _ => ⟨_, Ev.now _, trivial⟩
theorem spec_DrawMinimalBlocks_ok {l : List Int} (hl : l.length ≤ 4611686018427387904) : ∃ r, Ev (fun k => spec_DrawMinimalBlocks.f k l) r ∧ True := by
  unfold spec_DrawMinimalBlocks.f
  exact evx_bind (spec_l9Both_ok hl) fun d _ => ⟨_, Ev.now _, trivial⟩
theorem spec_DrawBlockSensitivityAt_ok {l : List Int} (hl : l.length ≤ 4611686018427387904) : ∃ r, Ev (fun k => spec_DrawBlockSensitivityAt.f k l) r ∧ True := by
  unfold spec_DrawBlockSensitivityAt.f
  exact evx_bind (spec_l9Both_ok hl) fun d _ => ⟨_, Ev.now _, trivial⟩
theorem spec_DrawCertificateOf_ok {l : List Int} (hl : l.length ≤ 4611686018427387904) : ∃ r, Ev (fun k => spec_DrawCertificateOf.f k l) r ∧ True := by
  unfold spec_DrawCertificateOf.f
  exact evx_bind (spec_l9Both_ok hl) fun d _ => ⟨_, Ev.now _, trivial⟩
theorem spec_DrawBlockSensitivityOf_ok {l : List Int} (hl : l.length ≤ 4611686018427387904) : ∃ r, Ev (fun k => spec_DrawBlockSensitivityOf.f k l) r ∧ True := by
  unfold spec_DrawBlockSensitivityOf.f
  exact new_any hl fun h d _ _ => ⟨_, Ev.now _, trivial⟩
theorem spec_DrawMeetingOf_ok {l : List Int} (hl : l.length ≤ 4611686018427387904) : ∃ r, Ev (fun k => spec_DrawMeetingOf.f k l) r ∧ True := by
  unfold spec_DrawMeetingOf.f
  exact new_any hl fun h d _ _ => ⟨_, Ev.now _, trivial⟩
theorem spec_DrawIsSensitiveBlock_ok {l : List Int} (hl : l.length ≤ 4611686018427387904) : ∃ r, Ev (fun k => spec_DrawIsSensitiveBlock.f k l) r ∧ True := by
  unfold spec_DrawIsSensitiveBlock.f
  refine evx_bind (spec_l9Both_ok hl) fun d _ => ?_
  have h1 : (l.length : Int) % 9 < (([0, 1, 2, 3, 5, 7, 15, (-1), 16] : List Int).length : Int) := by
    show (l.length : Int) % 9 < 9
    omega
  exact ⟨_, ev_const (pick_list _ (by omega) h1 fun z => (d.1, d.2.1, d.2.2, z)), trivial⟩
theorem spec_DrawIsCertificate_ok {l : List Int} (hl : l.length ≤ 4611686018427387904) : ∃ r, Ev (fun k => spec_DrawIsCertificate.f k l) r ∧ True := by
  unfold spec_DrawIsCertificate.f
  refine evx_bind (spec_l9Both_ok hl) fun d _ => ?_
  obtain ⟨c, hc, _⟩ := CertificateSet_key d.1 d.2.1 d.2.2
  have h1 : (l.length : Int) % 7 < (([0, 1, 2, 3, 7, (-1), 16] : List Int).length : Int) := by
    show (l.length : Int) % 7 < 7
    omega
  refine evx_bind (P := fun _ => True) ⟨c, hc, trivial⟩ fun c _ => ?_
  by_cases h2 : c.2 = true
  · simp only [if_pos h2]
    by_cases h3 : (l.length : Int) % 2 = 0
    · simp only [if_pos h3]
      exact ⟨_, Ev.now _, trivial⟩
    · simp only [if_neg h3]
      exact ⟨_, ev_const (pick_list _ (by omega) h1 fun z => (d.1, d.2.1, d.2.2, z)), trivial⟩
  · simp only [if_neg h2]
    exact ⟨_, ev_const (pick_list _ (by omega) h1 fun z => (d.1, d.2.1, d.2.2, z)), trivial⟩
theorem FnCertificates_tail {l0 : List Int} (hl : l0.length ≤ 4611686018427387904) : Ev (fun k => ((spec_DrawMinimalBlocks.f k l0).bind fun bt980 => ((impl_MinimalBlocks.f k bt980.1 bt980.2.1 bt980.2.2).bind fun bt984 => ((spec_MinimalBlocks.f k bt980.1 bt980.2.1 bt980.2.2).bind fun bt988 => ((spec_DrawIsCertificate.f k l0).bind fun bt992 => ((spec_DrawIsSensitiveBlock.f k l0).bind fun bt997 => ((spec_DrawCertificateOf.f k l0).bind fun bt1002 => ((spec_DrawBlockSensitivityOf.f k l0).bind fun bt1006 => ((spec_DrawMeetingOf.f k l0).bind fun bt1009 => ((spec_DrawBlockSensitivityAt.f k l0).bind fun bt1012 => ((impl_SensitiveEdges.f k bt1006.1 bt1006.2).bind fun t1016 => (if (bt984.2 == bt988.2) = true then ((laws_sameInts.f k bt984.1 bt988.1).bind fun t1017 => (if t1017 = true then ((impl_IsCertificate.f bt992.1 bt992.2.1 bt992.2.2.1 bt992.2.2.2).bind fun t1018 => ((spec_IsCertificate.f k bt992.1 bt992.2.1 bt992.2.2.1 bt992.2.2.2).bind fun t1019 => (if (t1018 == t1019) = true then ((impl_IsSensitiveBlock.f bt997.1 bt997.2.1 bt997.2.2.1 bt997.2.2.2).bind fun t1020 => ((spec_IsSensitiveBlock.f bt997.1 bt997.2.1 bt997.2.2.1 bt997.2.2.2).bind fun t1021 => (if (t1020 == t1021) = true then ((impl_CertificateOf.f k bt1002.1 bt1002.2.1 bt1002.2.2).bind fun t1022 => ((spec_CertificateOf.f k bt1002.1 bt1002.2.1 bt1002.2.2).bind fun t1023 => (if t1022 = t1023 then ((impl_BlockSensitivityOf.f k bt1006.1 bt1006.2).bind fun t1024 => ((spec_BlockSensitivityOf.f k bt1006.1 bt1006.2).bind fun t1025 => (if t1024 = t1025 then ((impl_SensitivityOf.f k bt1006.1 bt1006.2).bind fun t1026 => ((spec_SensitivityOf.f k bt1006.1 bt1006.2).bind fun t1027 => (if t1026 = t1027 then ((spec_SensitiveEdges.f k bt1006.1 bt1006.2).bind fun t1028 => (if t1016 = t1028 then ((impl_MeetingOf.f k bt1009.1 bt1009.2).bind fun t1029 => ((spec_MeetingOf.f k bt1009.1 bt1009.2).bind fun t1030 => (if (t1029 == t1030) = true then ((impl_BlockSensitivityAt.f k bt1012.1 bt1012.2.1 bt1012.2.2).bind fun t1031 => ((spec_BlockSensitivityAt.f k bt1012.1 bt1012.2.1 bt1012.2.2).bind fun t1032 => (if t1031 = t1032 then ((impl_SensitivityAt.f k bt1012.1 bt1012.2.1 bt1012.2.2).bind fun t1033 => ((spec_SensitivityAt.f k bt1012.1 bt1012.2.1 bt1012.2.2).bind fun t1034 => (if t1033 = t1034 then ((impl_CertificateAt.f k bt1012.1 bt1012.2.1 bt1012.2.2).bind fun t1035 => ((spec_CertificateAt.f k bt1012.1 bt1012.2.1 bt1012.2.2).bind fun t1036 => (some (t1035 == t1036)))) else (none)))) else (none)))) else (none)))) else (none))) else (none)))) else (none)))) else (none)))) else (none)))) else (none)))) else (none))) else (none))))))))))))) true := by
  obtain ⟨⟨b1, W1, x1⟩, hd1, _⟩ := spec_DrawMinimalBlocks_ok hl
  obtain ⟨⟨b2, W2, x2, y2⟩, hd2, _⟩ := spec_DrawIsCertificate_ok hl
  obtain ⟨⟨b3, W3, x3, y3⟩, hd3, _⟩ := spec_DrawIsSensitiveBlock_ok hl
  obtain ⟨⟨b4, W4, x4⟩, hd4, _⟩ := spec_DrawCertificateOf_ok hl
  obtain ⟨⟨b5, W5⟩, hd5, _⟩ := spec_DrawBlockSensitivityOf_ok hl
  obtain ⟨⟨b6, W6⟩, hd6, _⟩ := spec_DrawMeetingOf_ok hl
  obtain ⟨⟨b7, W7, x7⟩, hd7, _⟩ := spec_DrawBlockSensitivityAt_ok hl
  obtain ⟨L, c, hL, sL, mL⟩ := MinimalBlocks_key b1 W1 x1
  obtain ⟨r2, s2, m2⟩ := IsCertificate_key b2 W2 x2 y2
  obtain ⟨r3, s3, m3⟩ := IsSensitiveBlock_key b3 W3 x3 y3
  obtain ⟨r4, s4, m4⟩ := CertificateOf_key b4 W4 x4
  obtain ⟨r5, s5, m5⟩ := BlockSensitivityOf_key b5 W5
  obtain ⟨r6, s6, m6⟩ := SensitivityOf_key b5 W5
  obtain ⟨r7, s7, m7⟩ := SensitiveEdges_key b5 W5
  obtain ⟨r8, s8, m8⟩ := MeetingOf_key b6 W6
  obtain ⟨r9, s9, m9⟩ := BlockSensitivityAt_key b7 W7 x7
  obtain ⟨ra, sa, ma⟩ := SensitivityAt_key b7 W7 x7
  obtain ⟨rb, sb, mb⟩ := CertificateAt_key b7 W7 x7
  refine ev_bd hd1 (ev_bd mL (ev_bd sL (ev_bd hd2 (ev_bd hd3 (ev_bd hd4 (ev_bd hd5 (ev_bd hd6 (ev_bd hd7 (ev_bd m7 ?_)))))))))
  refine ev_if (beq_self_eq_true _) (ev_bd (laws_sameInts_ev L hL) (ev_if rfl (ev_bd (ev_const m2) (ev_bd s2 (ev_if (beq_self_eq_true _) (ev_bd (ev_const m3) (ev_bd (ev_const s3) (ev_if (beq_self_eq_true _) ?_))))))))
  refine ev_bd m4 (ev_bd s4 (ev_if rfl (ev_bd m5 (ev_bd s5 (ev_if rfl (ev_bd m6 (ev_bd s6 (ev_if rfl (ev_bd s7 (ev_if rfl (ev_bd m8 (ev_bd s8 (ev_if (beq_self_eq_true _) ?_)))))))))))))
  refine ev_bd m9 (ev_bd s9 (ev_if rfl (ev_bd ma (ev_bd sa (ev_if rfl (ev_bd mb (ev_bd sb ?_)))))))
  rw [beq_self_eq_true]
  exact Ev.now _
theorem impl_IsSensitiveBlock_eq {n w x b : Nat} (t : Tab n w) (hx : x < 2 ^ n) (hb : b < 2 ^ n) : impl_IsSensitiveBlock.f n w x b = some (chg w x b) := by
  have hn := t.hn
  have hs := t.size
  unfold impl_IsSensitiveBlock.f
  rw [impl_hasInput_eq, Option.bind_some, isTab_mk t, isInp_mk hx, Bool.and_self, if_pos rfl, impl_isInput_eq (by omega), isInp_mk hb, Option.bind_some, if_pos rfl, impl_Table_changes_eq t (by omega) (by omega)]
  rfl
theorem FnCertificates_l0 {l0 : List Int} (hl : l0.length ≤ 4611686018427387904) {n w x : Nat} (t : Tab n w) (hx : x < 2 ^ n) : Ev (fun k => laws_FnCertificates.l0 k l0 x ((cert n w x : Nat) : Int) (ints (blk w x (2 ^ n))) 0 n w) true := by
  have hs := t.size
  have hlen := blk_len w x (2 ^ n)
  have hc := cert_lt n w x
  refine ev_for (fun k i => laws_FnCertificates.l0 k l0 x ((cert n w x : Nat) : Int) (ints (blk w x (2 ^ n))) (i : Int) n w) (blk w x (2 ^ n)).length ?_ ?_
  · intro i hi h
    obtain ⟨h1, h2⟩ := blk_chg (List.getElem_mem hi)
    have h3 := block_meets hx h1 h2
    refine Ev.step (fun k => laws_FnCertificates.l0.eq_2 ..) ?_
    rw [ints_len, ints_rd hi]
    refine ev_if (by omega) (ev_if (by omega) (ev_bd (ev_const (impl_IsSensitiveBlock_eq t hx h1)) (ev_if h2 (ev_ifn ?_ ?_))))
    · rw [bandN (by omega) (by omega)]
      omega
    · rw [w64 (by omega) (by omega)]
      exact h
  · refine Ev.step (fun k => laws_FnCertificates.l0.eq_2 ..) ?_
    rw [ints_len]
    exact ev_ifn (by omega) (FnCertificates_tail hl)
theorem FnCertificates (l0 : List Int) (hm : l0.length ≤ maxLen) (hr : l0.length * 1 ≤ 140737488351232) (hw : ∀ x ∈ l0, (Lit.int .u8 x).wf = true) : ∃ k, laws_FnCertificates.f k l0 = some true := by
  have hl : l0.length ≤ 4611686018427387904 := by omega
  refine Ev.rounds ?_
  unfold laws_FnCertificates.f laws_big.f
  simp only [Option.bind_some]
  by_cases hb : decide ((l0.length : Int) > 1048576) = true
  · exact ev_if hb (Ev.now _)
  refine ev_ifn hb ?_
  obtain ⟨⟨b, W, x⟩, hd, _⟩ := spec_DrawCertificateSet_ok hl
  refine ev_bd hd ?_
  by_cases h : (isTab b W && isInp b x) = true
  · have h' := h
    rw [Bool.and_eq_true] at h
    obtain ⟨n, w, rfl, rfl, t⟩ := isTab_yes h.1
    obtain ⟨x, rfl, hx⟩ := isInp_yes h.2
    have hn := t.hn
    have hs := t.size
    have hc := cert_lt n w x
    have hcs : Ev (fun k => spec_CertificateSet.f k n w x) (((cert n w x : Nat) : Int), true) := by
      unfold spec_CertificateSet.f
      simp only [spec_l9In_eq, Option.bind_some, h', if_true]
      exact ev1' (spec_l9Set_ev t hx) fun k hk => by rw [hk]; rfl
    have hci : Ev (fun k => impl_CertificateSet.f k n w x) (((cert n w x : Nat) : Int), true) := by
      unfold impl_CertificateSet.f
      simp only [impl_hasInput_eq, Option.bind_some, h', if_true]
      exact ev1' (impl_Table_certificate_ev t hx) fun k hk => by rw [hk]; rfl
    have h1 : Ev (fun k => impl_CertificateAt.f k n w x) ((pc (cert n w x) : Nat) : Int) := by
      unfold impl_CertificateAt.f
      simp only [impl_hasInput_eq, Option.bind_some, h', if_true]
      exact ev1' (impl_Table_certificate_ev t hx) fun k hk => by rw [hk, Option.bind_some, impl_ones_eq (by omega)]; rfl
    have h2 : Ev (fun k => impl_BlockSensitivityAt.f k n w x) ((pack (blk w x (2 ^ n)) 0 : Nat) : Int) := by
      unfold impl_BlockSensitivityAt.f
      simp only [impl_hasInput_eq, Option.bind_some, h', if_true]
      exact ev1' (impl_Table_apart_ev t hx) fun k hk => by rw [hk]; rfl
    have h3 : Ev (fun k => impl_SensitivityAt.f k n w x) (sens n w x) := by
      unfold impl_SensitivityAt.f
      simp only [impl_hasInput_eq, Option.bind_some, h', if_true]
      exact ev1' (impl_Table_sensitivity_ev t (show x < 4294967296 by omega)) fun k hk => by rw [hk]; rfl
    have h4 : Ev (fun k => impl_MinimalBlocks.f k n w x) (ints (blk w x (2 ^ n)), true) := by
      unfold impl_MinimalBlocks.f
      simp only [impl_hasInput_eq, Option.bind_some, h', if_true]
      exact ev1' (impl_Table_blocks_ev t hx) fun k hk => by rw [hk]; rfl
    have h5 : impl_IsCertificate.f n w x ((cert n w x : Nat) : Int) = some true := by
      unfold impl_IsCertificate.f
      rw [impl_hasInput_eq, Option.bind_some, if_pos h', impl_isInput_eq (by omega), Option.bind_some, isInp_mk hc, if_pos rfl, impl_Table_certifies_eq t (by omega) (by omega), cert_ok hx]
      rfl
    have h6 : impl_CountOnes.f 5 ((cert n w x : Nat) : Int) = some ((pc (cert n w x) : Nat) : Int) := by
      have ht : Tab 5 (cert n w x) := ⟨by omega, Nat.lt_of_lt_of_le (show cert n w x < 32 by omega) (by decide)⟩
      have h5' := isTab_mk ht
      unfold impl_CountOnes.f
      rw [impl_IsTable_eq, show isTab 5 ((cert n w x : Nat) : Int) = true from h5', Option.bind_some, if_pos rfl, impl_ones_eq (a := cert n w x) (by omega)]
      rfl
    have h7 : spec_ValueAt.f n w x = some (b2i (w.testBit x)) := by
      unfold spec_ValueAt.f
      rw [spec_IsTable_eq, isTab_mk t, Option.bind_some, if_pos rfl, if_pos (Int.natCast_nonneg _), spec_l1In_eq, shl1m (by omega), isInp_le, isInp_mk hx, Option.bind_some, if_pos rfl, if_pos (Int.natCast_nonneg _), at1 t.w63]
    have h8 := impl_CertificateOf_ev t (a := b2i (w.testBit x)) (b2i_range _)
    have h9 := impl_MeetingOf_ev t
    rw [meetH_true] at h9
    have e1 := sens_le_pack (n := n) (w := w) (x := x)
    have e2 := pack_le_cert (n := n) (w := w) (by omega) hx
    have e3 := certM_ge n w (2 ^ n) x hx
    refine ev_bd hci (ev_bd hcs (ev_if rfl (ev_ifn (by simp) (ev_if rfl ?_))))
    refine ev_bd h1 (ev_bd h2 (ev_bd h3 (ev_bd h4 (ev_bd (ev_const h5) (ev_if rfl (ev_bd (ev_const h6) (ev_if rfl (ev_ifn (by omega) (ev_ifn (by omega) ?_)))))))))
    refine ev_bd (ev_const h7) (ev_bd h8 (ev_ifn (by omega) (ev_bd h9 (ev_if rfl ?_))))
    exact FnCertificates_l0 hl t hx
  · have hcs : Ev (fun k => spec_CertificateSet.f k b W x) (0, false) := by
      unfold spec_CertificateSet.f
      simp only [spec_l9In_eq, Option.bind_some, if_neg h]
      exact Ev.now _
    have hci : Ev (fun k => impl_CertificateSet.f k b W x) (0, false) := by
      unfold impl_CertificateSet.f
      simp only [impl_hasInput_eq, Option.bind_some, if_neg h]
      exact Ev.now _
    refine ev_bd hci (ev_bd hcs (ev_if rfl (ev_ifn (by simp) (ev_ifn (by simp) ?_))))
    exact FnCertificates_tail hl

end Go.Proofs.Ytplnffhjpmnifaa.Pure
