/- What the law FnInfluences comes to, over numbers and lists alone: at every input both sides tell the same. No conditions but the kinds of the numbers. -/
import Derived.Test.YtplnffhjpmnifaaMath
import Derived.Test.YtplnffhjpmnifaaCof
import Derived.Test.YtplnffhjpmnifaaHad
import Derived.Test.YtplnffhjpmnifaaInf
import Derived.Test.YtplnffhjpmnifaaPop
import Derived.Test.YtplnffhjpmnifaaSum
import Derived.Test.YtplnffhjpmnifaaWrd
import Derived.Test.YtplnffhjpmnifaaQ0
import Derived.Test.YtplnffhjpmnifaaQ1
import Derived.Test.YtplnffhjpmnifaaQ2
import Derived.Test.YtplnffhjpmnifaaQ3
import Derived.Test.YtplnffhjpmnifaaQ4
import Derived.Test.YtplnffhjpmnifaaQ5
import Derived.Test.YtplnffhjpmnifaaQ6
import Derived.Test.YtplnffhjpmnifaaQ7
import Derived.Test.YtplnffhjpmnifaaQ8
import Derived.Test.YtplnffhjpmnifaaQ9
import Derived.Test.YtplnffhjpmnifaaQLFnInfluences
namespace Go.Proofs.Ytplnffhjpmnifaa.Pure
open Go.RowKit Go.Proofs.Ytplnffhjpmnifaa.P Go.Proofs.YtplnffhjpmnifaaW.PrintWords Go.Proofs.YtplnffhjpmnifaaW.PrintLast Go.Proofs.YtplnffhjpmnifaaW.PrintMore Go.Proofs.YtplnffhjpmnifaaMath
set_option linter.unusedVariables false
set_option linter.unusedSimpArgs false

theorem spec_l2Count_l (j : Nat) : ∀ (x : Nat) (s : Nat), j ≤ 32 → x < 2 ^ j → s + j ≤ 64 → Ev (fun k => spec_l2Count.l0 k s x) ((s + pcf j x : Nat) : Int) := by
  induction j with
  | zero =>
    intro x s _ h _
    obtain rfl : x = 0 := by simpa using h
    refine ev0 fun k => ?_
    simp only [spec_l2Count.l0]
    rw [if_neg (by omega)]
    rfl
  | succ j ih =>
    intro x s hj h hs
    have hp : 2 ^ (j + 1) ≤ 2 ^ 32 := Nat.pow_le_pow_right (by omega) hj
    by_cases hx : x = 0
    · subst hx
      refine ev0 fun k => ?_
      simp only [spec_l2Count.l0]
      rw [if_neg (by omega), pcf_zero]
      rfl
    · have := ih (x / 2) (s + x % 2) (by omega) (by rw [Nat.pow_succ] at h; omega) (by omega)
      simp only [pcf]
      rw [← Nat.add_assoc]
      refine Ev.step (fun k => ?_) this
      simp only [spec_l2Count.l0]
      rw [if_pos (by omega), show (1 : Int) = ((1 : Nat) : Int) from rfl, bandN (by omega) (by omega), Nat.and_one_is_mod, ← Int.natCast_add, w64 (by omega) (by omega)]
      rfl
theorem spec_l2Count_ev {x : Nat} (h : x < 4294967296) : Ev (fun k => spec_l2Count.f k x) ((pc x : Nat) : Int) := by
  have := spec_l2Count_l 32 x 0 (by omega) (by omega) (by omega)
  rw [Nat.zero_add] at this
  exact this

theorem and255 (x : Int) : 0 ≤ Go.bits .and .i64 x 255 ∧ Go.bits .and .i64 x 255 ≤ 255 := by
  have h : (BitVec.ofInt 64 x &&& BitVec.ofInt 64 255).toNat ≤ 255 := by
    rw [BitVec.toNat_and]
    exact Nat.and_le_right
  have e : Go.bits .and .i64 x 255 = (((BitVec.ofInt 64 x &&& BitVec.ofInt 64 255).toNat : Nat) : Int) := by
    simp only [Go.bits, IntKind.bits]
    exact i64id (Int.natCast_nonneg _) (Int.lt_of_le_of_lt (Int.ofNat_le.mpr h) (by decide))
  omega
theorem evx_bind {A R : Type} {g : Nat → Option A} {P : A → Prop} {F : Nat → A → Option R} {Q : R → Prop} (h : ∃ a, Ev g a ∧ P a) (hF : ∀ a, P a → ∃ r, Ev (fun k => F k a) r ∧ Q r) : ∃ r, Ev (fun k => (g k).bind (F k)) r ∧ Q r := by
  obtain ⟨a, ha, hp⟩ := h
  obtain ⟨r, hr, hq⟩ := hF a hp
  exact ⟨r, ev1 ha (fun k hk => by rw [hk]; rfl) hr, hq⟩
/-- A reader of draws: how far it has read. -/
def Cur (l : List Int) (i : Int) : Prop := l.length ≤ 4611686018427387904 ∧ 0 ≤ i ∧ i ≤ l.length
theorem spec_l1Byte_ok {l : List Int} {i h : Int} (c : Cur l i) : ∃ r, spec_l1Byte.f l i h = some r ∧ (0 ≤ r.1 ∧ r.1 ≤ 255 ∧ Cur l r.2.1) := by
  obtain ⟨c0, c1, c2⟩ := c
  unfold spec_l1Byte.f
  by_cases hl : i < (l.length : Int)
  · rw [if_pos hl, if_pos c1]
    refine ⟨_, rfl, (and255 _).1, (and255 _).2, c0, ?_⟩
    show 0 ≤ wrap64 (i + 1) ∧ wrap64 (i + 1) ≤ l.length
    rw [w64 (by omega) (by omega)]
    omega
  · rw [if_neg hl]
    exact ⟨_, rfl, (and255 _).1, (and255 _).2, c0, c1, c2⟩
theorem spec_l1Below_ok {l : List Int} {i h n : Int} (c : Cur l i) (hn : n ≤ 256) : ∃ r, Ev (fun _ => spec_l1Below.f l i h n) r ∧ (0 ≤ r.1 ∧ (0 < n → r.1 < n) ∧ Cur l r.2.1) := by
  unfold spec_l1Below.f
  by_cases h0 : n ≤ 0
  · rw [if_pos h0]
    exact ⟨_, Ev.now _, Int.le_refl _, fun h => absurd h (by omega), c⟩
  · rw [if_neg h0, if_pos hn]
    obtain ⟨r, hr, h1, h2, h3⟩ := spec_l1Byte_ok (h := h) c
    rw [hr, Option.bind_some, if_neg (by omega)]
    exact ⟨_, Ev.now _, Int.tmod_nonneg _ h1, fun h => Int.tmod_lt_of_pos _ h, h3⟩
theorem spec_l1New_ok {l : List Int} (hl : l.length ≤ 4611686018427387904) : ∃ r, Ev (fun k => spec_l1New.f k l) r ∧ (r.1 = l ∧ Cur l r.2.1) := by
  have key : ∀ d (i : Nat) (h : Int), l.length - i ≤ d → ∃ r, Ev (fun k => spec_l1New.l0 k l h i) r ∧ (r.1 = l ∧ Cur l r.2.1) := by
    intro d
    induction d with
    | zero =>
      intro i h hd
      refine ⟨(l, 0, h), ev0 fun k => ?_, rfl, hl, by simp⟩
      simp only [spec_l1New.l0]
      rw [if_neg (by omega)]
    | succ d ih =>
      intro i h hd
      by_cases hi : i < l.length
      · by_cases h4 : i < 4000
        · obtain ⟨r, hr, hq⟩ := ih (i + 1) (Go.bits .and .i64 (wrap64 ((wrap64 ((wrap64 (h * 131)) + (wrap64 (rd l i)))) + 7)) 1073741823) (by omega)
          refine ⟨r, Ev.step (fun k => ?_) hr, hq⟩
          simp only [spec_l1New.l0]
          rw [if_pos (by omega), if_pos (by omega), if_pos (by omega), w64 (x := (i : Int) + 1) (by omega) (by omega)]
          rfl
        · refine ⟨(l, 0, h), ev0 fun k => ?_, rfl, hl, by simp⟩
          simp only [spec_l1New.l0]
          rw [if_pos (by omega), if_neg (by omega)]
      · refine ⟨(l, 0, h), ev0 fun k => ?_, rfl, hl, by simp⟩
        simp only [spec_l1New.l0]
        rw [if_neg (by omega)]
  exact key l.length 0 _ (by omega)
theorem spec_l2Variable_ok {n j : Nat} (hn : n ≤ 4) : ∃ r, Ev (fun k => spec_l2Variable.f k n j) r ∧ True := by
  have hs : 2 ^ n ≤ 2 ^ 4 := Nat.pow_le_pow_right (by omega) hn
  have key : ∀ d (i : Nat) (w : Int), 2 ^ n - i ≤ d → ∃ r, Ev (fun k => spec_l2Variable.l0 k n j w i) r ∧ True := by
    intro d
    induction d with
    | zero =>
      intro i w hd
      refine ⟨w, ev0 fun k => ?_, trivial⟩
      simp only [spec_l2Variable.l0]
      rw [if_pos (Int.natCast_nonneg _), shl1 (by omega), if_neg (by omega)]
    | succ d ih =>
      intro i w hd
      by_cases hi : i < 2 ^ n
      · by_cases hb : Go.bits .and .i64 (shr .i64 i j) 1 = 1
        · obtain ⟨r, hr, hq⟩ := ih (i + 1) (Go.bits .or .i64 w (shl .i64 1 i)) (by omega)
          refine ⟨r, Ev.step (fun k => ?_) hr, hq⟩
          simp only [spec_l2Variable.l0]
          rw [if_pos (Int.natCast_nonneg _), shl1 (by omega), if_pos (by omega), if_pos (Int.natCast_nonneg _), if_pos hb, if_pos (Int.natCast_nonneg _), w64 (x := (i : Int) + 1) (by omega) (by omega)]
          rfl
        · obtain ⟨r, hr, hq⟩ := ih (i + 1) w (by omega)
          refine ⟨r, Ev.step (fun k => ?_) hr, hq⟩
          simp only [spec_l2Variable.l0]
          rw [if_pos (Int.natCast_nonneg _), shl1 (by omega), if_pos (by omega), if_pos (Int.natCast_nonneg _), if_neg hb, w64 (x := (i : Int) + 1) (by omega) (by omega)]
          rfl
      · refine ⟨w, ev0 fun k => ?_, trivial⟩
        simp only [spec_l2Variable.l0]
        rw [if_pos (Int.natCast_nonneg _), shl1 (by omega), if_neg (by omega)]
  exact key (2 ^ n) 0 0 (Nat.sub_le _ _)
theorem spec_l2Full_some {n : Nat} (hn : n ≤ 4) : ∃ t, spec_l2Full.f n = some t := by
  unfold spec_l2Full.f
  rw [if_pos (by omega)]
  exact ⟨_, rfl⟩
theorem l2Draw_end {l : List Int} {i h : Int} {n : Nat} (hn : n ≤ 4) (c : Cur l i) (w : Int) : ∃ r, (if (n : Int) = 0 then ((spec_l2Full.f n).bind fun t => (some ((n : Int), Go.bits .and .i64 (Go.bits .and .i64 w 1) t, i, h))) else ((spec_l2Full.f n).bind fun t => (some ((n : Int), Go.bits .and .i64 w t, i, h)))) = some r ∧ Cur l r.2.2.1 := by
  obtain ⟨t, ht⟩ := spec_l2Full_some hn
  rw [ht, Option.bind_some, Option.bind_some]
  split
  · exact ⟨_, rfl, c⟩
  · exact ⟨_, rfl, c⟩
theorem spec_l2Draw_l0_ok {l : List Int} {ci h : Int} {n : Nat} (hn : n ≤ 4) (c : Cur l ci) : ∀ d (i : Nat) (w : Int), 2 ^ n - i ≤ d → ∃ r, Ev (fun k => spec_l2Draw.l0 k n w i l ci h) r ∧ Cur l r.2.2.1 := by
  have hs : 2 ^ n ≤ 2 ^ 4 := Nat.pow_le_pow_right (by omega) hn
  intro d
  induction d with
  | zero =>
    intro i w hd
    obtain ⟨r, hr, hq⟩ := l2Draw_end (h := h) hn c w
    refine ⟨r, ev0 fun k => ?_, hq⟩
    simp only [spec_l2Draw.l0]
    rw [if_pos (Int.natCast_nonneg _), shl1 (by omega), if_neg (by omega)]
    exact hr
  | succ d ih =>
    intro i w hd
    by_cases hi : i < 2 ^ n
    · have hc := spec_l2Count_ev (x := i) (by omega)
      by_cases hb : wrap64 (2 * ((pc i : Nat) : Int)) > (n : Int)
      · obtain ⟨r, hr, hq⟩ := ih (i + 1) (Go.bits .or .i64 w (shl .i64 1 i)) (by omega)
        refine ⟨r, evs1 hc (fun k hk => ?_) hr, hq⟩
        simp only [spec_l2Draw.l0]
        rw [if_pos (Int.natCast_nonneg _), shl1 (by omega), if_pos (by omega), hk, Option.bind_some, if_pos hb, if_pos (Int.natCast_nonneg _), w64 (x := (i : Int) + 1) (by omega) (by omega)]
        rfl
      · obtain ⟨r, hr, hq⟩ := ih (i + 1) w (by omega)
        refine ⟨r, evs1 hc (fun k hk => ?_) hr, hq⟩
        simp only [spec_l2Draw.l0]
        rw [if_pos (Int.natCast_nonneg _), shl1 (by omega), if_pos (by omega), hk, Option.bind_some, if_neg hb, w64 (x := (i : Int) + 1) (by omega) (by omega)]
        rfl
    · obtain ⟨r, hr, hq⟩ := l2Draw_end (h := h) hn c w
      refine ⟨r, ev0 fun k => ?_, hq⟩
      simp only [spec_l2Draw.l0]
      rw [if_pos (Int.natCast_nonneg _), shl1 (by omega), if_neg (by omega)]
      exact hr
theorem spec_l2Draw_l1_ok {l : List Int} {ci h : Int} {n : Nat} (hn : n ≤ 4) (c : Cur l ci) : ∀ d (i : Nat) (w : Int), 2 ^ n - i ≤ d → ∃ r, Ev (fun k => spec_l2Draw.l1 k n w i l ci h) r ∧ Cur l r.2.2.1 := by
  have hs : 2 ^ n ≤ 2 ^ 4 := Nat.pow_le_pow_right (by omega) hn
  intro d
  induction d with
  | zero =>
    intro i w hd
    obtain ⟨r, hr, hq⟩ := l2Draw_end (h := h) hn c w
    refine ⟨r, ev0 fun k => ?_, hq⟩
    simp only [spec_l2Draw.l1]
    rw [if_pos (Int.natCast_nonneg _), shl1 (by omega), if_neg (by omega)]
    exact hr
  | succ d ih =>
    intro i w hd
    by_cases hi : i < 2 ^ n
    · have hc := spec_l2Count_ev (x := i) (by omega)
      by_cases hb : Int.tmod ((pc i : Nat) : Int) 2 = 1
      · obtain ⟨r, hr, hq⟩ := ih (i + 1) (Go.bits .or .i64 w (shl .i64 1 i)) (by omega)
        refine ⟨r, evs1 hc (fun k hk => ?_) hr, hq⟩
        simp only [spec_l2Draw.l1]
        rw [if_pos (Int.natCast_nonneg _), shl1 (by omega), if_pos (by omega), hk, Option.bind_some, if_pos hb, if_pos (Int.natCast_nonneg _), w64 (x := (i : Int) + 1) (by omega) (by omega)]
        rfl
      · obtain ⟨r, hr, hq⟩ := ih (i + 1) w (by omega)
        refine ⟨r, evs1 hc (fun k hk => ?_) hr, hq⟩
        simp only [spec_l2Draw.l1]
        rw [if_pos (Int.natCast_nonneg _), shl1 (by omega), if_pos (by omega), hk, Option.bind_some, if_neg hb, w64 (x := (i : Int) + 1) (by omega) (by omega)]
        rfl
    · obtain ⟨r, hr, hq⟩ := l2Draw_end (h := h) hn c w
      refine ⟨r, ev0 fun k => ?_, hq⟩
      simp only [spec_l2Draw.l1]
      rw [if_pos (Int.natCast_nonneg _), shl1 (by omega), if_neg (by omega)]
      exact hr
theorem spec_l2Draw_l2_ok {l : List Int} {ci h m : Int} {n : Nat} (hn : n ≤ 4) (c : Cur l ci) : ∀ d (i : Nat) (w : Int), 2 ^ n - i ≤ d → ∃ r, Ev (fun k => spec_l2Draw.l2 k n w m i l ci h) r ∧ Cur l r.2.2.1 := by
  have hs : 2 ^ n ≤ 2 ^ 4 := Nat.pow_le_pow_right (by omega) hn
  intro d
  induction d with
  | zero =>
    intro i w hd
    obtain ⟨r, hr, hq⟩ := l2Draw_end (h := h) hn c w
    refine ⟨r, ev0 fun k => ?_, hq⟩
    simp only [spec_l2Draw.l2]
    rw [if_pos (Int.natCast_nonneg _), shl1 (by omega), if_neg (by omega)]
    exact hr
  | succ d ih =>
    intro i w hd
    by_cases hi : i < 2 ^ n
    · by_cases hb : Go.bits .and .i64 i m = m
      · obtain ⟨r, hr, hq⟩ := ih (i + 1) (Go.bits .or .i64 w (shl .i64 1 i)) (by omega)
        refine ⟨r, Ev.step (fun k => ?_) hr, hq⟩
        simp only [spec_l2Draw.l2]
        rw [if_pos (Int.natCast_nonneg _), shl1 (by omega), if_pos (by omega), if_pos hb, if_pos (Int.natCast_nonneg _), w64 (x := (i : Int) + 1) (by omega) (by omega)]
        rfl
      · obtain ⟨r, hr, hq⟩ := ih (i + 1) w (by omega)
        refine ⟨r, Ev.step (fun k => ?_) hr, hq⟩
        simp only [spec_l2Draw.l2]
        rw [if_pos (Int.natCast_nonneg _), shl1 (by omega), if_pos (by omega), if_neg hb, w64 (x := (i : Int) + 1) (by omega) (by omega)]
        rfl
    · obtain ⟨r, hr, hq⟩ := l2Draw_end (h := h) hn c w
      refine ⟨r, ev0 fun k => ?_, hq⟩
      simp only [spec_l2Draw.l2]
      rw [if_pos (Int.natCast_nonneg _), shl1 (by omega), if_neg (by omega)]
      exact hr
theorem spec_l2Draw_l3_ok {l : List Int} {n : Nat} (hn : n ≤ 4) : ∀ d (i : Nat) (w ci h : Int), 2 ^ n - i ≤ d → Cur l ci → ∃ r, Ev (fun k => spec_l2Draw.l3 k n w i l ci h) r ∧ Cur l r.2.2.1 := by
  have hs : 2 ^ n ≤ 2 ^ 4 := Nat.pow_le_pow_right (by omega) hn
  intro d
  induction d with
  | zero =>
    intro i w ci h hd c
    obtain ⟨r, hr, hq⟩ := l2Draw_end (h := h) hn c w
    refine ⟨r, ev0 fun k => ?_, hq⟩
    simp only [spec_l2Draw.l3]
    rw [if_pos (Int.natCast_nonneg _), shl1 (by omega), if_neg (by omega)]
    exact hr
  | succ d ih =>
    intro i w ci h hd c
    by_cases hi : i < 2 ^ n
    · obtain ⟨b, hb, b1, b2, b3⟩ := spec_l1Below_ok (h := h) (n := 2) c (by omega)
      obtain ⟨r, hr, hq⟩ := ih (i + 1) (Go.bits .or .i64 w (shl .i64 b.1 i)) b.2.1 b.2.2 (by omega) b3
      refine ⟨r, evs1 hb (fun k hk => ?_) hr, hq⟩
      simp only [spec_l2Draw.l3]
      rw [if_pos (Int.natCast_nonneg _), shl1 (by omega), if_pos (by omega), hk, Option.bind_some, if_pos (Int.natCast_nonneg _), w64 (x := (i : Int) + 1) (by omega) (by omega)]
      rfl
    · obtain ⟨r, hr, hq⟩ := l2Draw_end (h := h) hn c w
      refine ⟨r, ev0 fun k => ?_, hq⟩
      simp only [spec_l2Draw.l3]
      rw [if_pos (Int.natCast_nonneg _), shl1 (by omega), if_neg (by omega)]
      exact hr
theorem spec_l2Draw_ok {l : List Int} {i h : Int} {n : Nat} (hn : n ≤ 4) (c : Cur l i) : ∃ r, Ev (fun k => spec_l2Draw.f k l i h n) r ∧ Cur l r.2.2.1 := by
  have hs : 2 ^ n ≤ 2 ^ 4 := Nat.pow_le_pow_right (by omega) hn
  unfold spec_l2Draw.f
  refine evx_bind (spec_l1Below_ok c (by omega)) fun b hb => ?_
  obtain ⟨b1, b2, b3⟩ := hb
  by_cases h0 : b.1 = 0
  · simp only [if_pos h0]
    refine evx_bind (spec_l1Below_ok b3 (by simp only [mx]; split <;> omega)) fun b' hb' => ?_
    obtain ⟨c1, c2, c3⟩ := hb'
    obtain ⟨j, hj⟩ := Int.eq_ofNat_of_zero_le c1
    refine evx_bind (P := fun _ => True) (by rw [hj]; exact spec_l2Variable_ok hn) fun t _ => ?_
    obtain ⟨r, hr, hq⟩ := l2Draw_end (h := b'.2.2) hn c3 t
    exact ⟨r, ev_const hr, hq⟩
  · simp only [if_neg h0]
    by_cases h1 : b.1 = 1
    · simp only [if_pos h1]
      exact spec_l2Draw_l0_ok hn b3 (2 ^ n) 0 0 (Nat.sub_le _ _)
    · simp only [if_neg h1]
      by_cases h2 : b.1 = 2
      · simp only [if_pos h2]
        exact spec_l2Draw_l1_ok hn b3 (2 ^ n) 0 0 (Nat.sub_le _ _)
      · simp only [if_neg h2]
        by_cases h3 : b.1 = 3
        · simp only [if_pos h3, if_pos (Int.natCast_nonneg n), shl1 (show n ≤ 62 by omega)]
          refine evx_bind (spec_l1Below_ok b3 (by omega)) fun b' hb' => ?_
          exact spec_l2Draw_l2_ok hn hb'.2.2 (2 ^ n) 0 0 (Nat.sub_le _ _)
        · simp only [if_neg h3]
          exact spec_l2Draw_l3_ok hn (2 ^ n) 0 0 _ _ (Nat.sub_le _ _) b3
theorem spec_l1PickInt_ok {l : List Int} {i h : Int} (c : Cur l i) {L : List Int} (hL : 0 < L.length) (hL2 : L.length ≤ 256) : ∃ r, Ev (fun _ => spec_l1PickInt.f l i h L) r ∧ (r.1 ∈ L ∧ Cur l r.2.1) := by
  unfold spec_l1PickInt.f
  refine evx_bind (spec_l1Below_ok c (by omega)) fun b hb => ?_
  obtain ⟨b1, b2, b3⟩ := hb
  have b4 := b2 (by omega)
  simp only [if_pos b1, if_pos b4]
  refine ⟨_, Ev.now _, ?_, b3⟩
  obtain ⟨j, hj⟩ := Int.eq_ofNat_of_zero_le b1
  show rd L b.1 ∈ L
  rw [hj, rd_nat, List.getD_eq_getElem?_getD, List.getElem?_eq_getElem (by omega)]
  exact List.getElem_mem _
theorem spec_l2Any_ok {l : List Int} {i h : Int} (c : Cur l i) : ∃ r, Ev (fun k => spec_l2Any.f k l i h) r ∧ Cur l r.2.2.1 := by
  unfold spec_l2Any.f
  refine evx_bind (spec_l1Below_ok c (by omega)) fun b hb => ?_
  obtain ⟨b1, b2, b3⟩ := hb
  have b4 := b2 (by omega)
  obtain ⟨n, hn⟩ := Int.eq_ofNat_of_zero_le b1
  refine evx_bind (P := fun r => Cur l r.2.2.1) (by rw [hn]; exact spec_l2Draw_ok (by omega) b3) fun d hd => ?_
  refine evx_bind (spec_l1Below_ok hd (by omega)) fun e he => ?_
  obtain ⟨e1, e2, e3⟩ := he
  by_cases h0 : e.1 = 0
  · simp only [if_pos h0]
    exact evx_bind (spec_l1PickInt_ok e3 (by decide) (by decide)) fun q hq => ⟨_, Ev.now _, hq.2⟩
  · simp only [if_neg h0]
    by_cases h1 : e.1 = 1
    · simp only [if_pos h1]
      exact evx_bind (spec_l1PickInt_ok e3 (by decide) (by decide)) fun q hq => ⟨_, Ev.now _, hq.2⟩
    · simp only [if_neg h1]
      exact ⟨_, Ev.now _, e3⟩
/-- A reader laid over what came in, then a table. -/
theorem new_any {R : Type} {l : List Int} (hl : l.length ≤ 4611686018427387904) {F : Nat → List Int × Int × Int → Int × Int × Int × Int → Option R} {Q : R → Prop} (hF : ∀ h d, Cur l d.2.2.1 → ∃ r, Ev (fun k => F k (l, h) d) r ∧ Q r) :
    ∃ r, Ev (fun k => (spec_l1New.f k l).bind fun b => (spec_l2Any.f k b.1 b.2.1 b.2.2).bind fun d => F k b d) r ∧ Q r := by
  refine evx_bind (spec_l1New_ok hl) fun b hb => ?_
  obtain ⟨b0, b1⟩ := hb
  obtain ⟨b, i, h⟩ := b
  simp only at b0 b1
  subst b0
  exact evx_bind (spec_l2Any_ok b1) fun d hd => hF (i, h) d hd

theorem spec_IsTable_eq (b W : Int) : spec_IsTable.f b W = some (isTab b W) := rfl

theorem impl_isBits_eq (b : Int) : impl_isBits.f b = some (decide (0 ≤ b ∧ b ≤ 5)) := by
  unfold impl_isBits.f
  by_cases h : b ≥ 0
  · rw [if_pos h]; simp [show 0 ≤ b from h]
  · rw [if_neg h]; simp [show ¬ 0 ≤ b from h]

theorem impl_Table_size_eq {n : Nat} (h : n ≤ 62) (W : Int) : impl_Table_size.f n W = some ((2 ^ n : Nat) : Int) := by
  unfold impl_Table_size.f
  rw [if_pos (Int.natCast_nonneg _), shl1 h]

theorem impl_IsTable_eq (b W : Int) : impl_IsTable.f b W = some (isTab b W) := by
  unfold impl_IsTable.f
  rw [impl_isBits_eq, Option.bind_some]
  by_cases h : 0 ≤ b ∧ b ≤ 5
  · obtain ⟨n, rfl⟩ := Int.eq_ofNat_of_zero_le h.1
    rw [if_pos (decide_eq_true h)]
    by_cases h2 : W ≥ 0
    · rw [if_pos h2]
      obtain ⟨w, rfl⟩ := Int.eq_ofNat_of_zero_le h2
      have hp : 2 ^ n ≤ 2 ^ 5 := Nat.pow_le_pow_right (by omega) (by omega)
      rw [impl_Table_size_eq (by omega), Option.bind_some, if_pos (Int.natCast_nonneg _), shrS (by omega)]
      congr 1
      unfold isTab
      rw [Bool.eq_iff_iff, decide_eq_true_iff, beq_iff_eq, Int.toNat_natCast]
      have e : ((2 : Int) ^ 2 ^ n) = ((2 ^ 2 ^ n : Nat) : Int) := by push_cast; rfl
      rw [e]
      have hd : w / 2 ^ 2 ^ n = 0 ↔ w < 2 ^ 2 ^ n := by rw [Nat.div_eq_zero_iff]; have := Nat.two_pow_pos (2 ^ n); omega
      constructor
      · intro h3
        have := hd.1 (by omega)
        omega
      · rintro ⟨_, _, _, h4⟩
        have := hd.2 (by omega)
        omega
    · rw [if_neg h2, show isTab n W = false from decide_eq_false fun h3 => h2 h3.2.2.1]
  · rw [if_neg (by rw [decide_eq_false h]; decide), show isTab b W = false from decide_eq_false fun h3 => h ⟨h3.1, h3.2.1⟩]

theorem bits_OnesCount64_eq {a : Nat} (h : a < 4294967296) : bits_OnesCount64.f a = some ((pc a : Nat) : Int) := by
  obtain ⟨c0, c1, c2, c3, g0, g1, g2, g3, hv, hp, l1, l2⟩ := n123 h
  have e1 : IntKind.u64.wrap ((Go.bits .and .u64 ((a : Int) / 2) 6148914691236517205) + (Go.bits .and .u64 (a : Int) 6148914691236517205)) = ((n1 a : Nat) : Int) := by
    rw [show (a : Int) / 2 = ((a / 2 : Nat) : Int) by omega, show (6148914691236517205 : Int) = ((6148914691236517205 : Nat) : Int) from rfl, uand (by omega) (by omega), uand (by omega) (by omega), ← Int.natCast_add]
    exact uwrap (by unfold n1 at l1; omega)
  have e2 : IntKind.u64.wrap ((Go.bits .and .u64 (((n1 a : Nat) : Int) / 4) 3689348814741910323) + (Go.bits .and .u64 ((n1 a : Nat) : Int) 3689348814741910323)) = ((n2 (n1 a) : Nat) : Int) := by
    rw [show ((n1 a : Nat) : Int) / 4 = ((n1 a / 4 : Nat) : Int) by omega, show (3689348814741910323 : Int) = ((3689348814741910323 : Nat) : Int) from rfl, uand (by omega) (by omega), uand (by omega) (by omega), ← Int.natCast_add]
    exact uwrap (by unfold n2 at l2; omega)
  have e3 : Go.bits .and .u64 (IntKind.u64.wrap ((((n2 (n1 a) : Nat) : Int) / 16) + ((n2 (n1 a) : Nat) : Int))) 1085102592571150095 = ((n3 (n2 (n1 a)) : Nat) : Int) := by
    rw [show ((n2 (n1 a) : Nat) : Int) / 16 = ((n2 (n1 a) / 16 : Nat) : Int) by omega, ← Int.natCast_add, uwrap (by omega), show (1085102592571150095 : Int) = ((1085102592571150095 : Nat) : Int) from rfl, uand (by omega) (by omega)]
    rfl
  unfold bits_OnesCount64.f
  rw [e1, e2, e3, hv]
  rw [fold4 g0 g1 g2 g3, fold5 g0 g1 g2 g3, fold6 g0 g1 g2 g3, fold7 g0 g1 g2 g3, hp]

theorem impl_ones_eq {a : Nat} (h : a < 4294967296) : impl_ones.f a = some ((pc a : Nat) : Int) := by
  unfold impl_ones.f
  rw [uwrap (by omega), bits_OnesCount64_eq h, Option.bind_some]

theorem VarianceOf_key (b W : Int) : ∃ r, Ev (fun k => spec_VarianceOf.f k b W) r ∧ impl_VarianceOf.f b W = some r := by
  unfold spec_VarianceOf.f spec_CountOnes.f impl_VarianceOf.f
  simp only [spec_IsTable_eq, impl_IsTable_eq, Option.bind_some]
  by_cases h : isTab b W = true
  · simp only [if_pos h]
    obtain ⟨n, w, rfl, rfl, t⟩ := isTab_yes h
    have h1 := t.w32
    have hn := t.hn
    rw [impl_ones_eq (by omega), Option.bind_some, impl_Table_size_eq (by omega), Option.bind_some, Option.bind_some]
    refine ⟨_, ev1' (spec_l2Count_ev (x := w) (by omega)) fun k hk => ?_, rfl⟩
    rw [hk, Option.bind_some, Option.bind_some, if_neg (by omega), if_pos (by omega), shl1 (by omega)]
  · simp only [if_neg h, Option.bind_some]
    exact ⟨_, Ev.now _, rfl⟩

theorem spec_l1In_eq (a b c : Int) : spec_l1In.f a b c = some (decide (b ≤ a ∧ a ≤ c)) := by
  unfold spec_l1In.f
  by_cases h : b ≤ a
  · rw [if_pos h]; simp [h]
  · rw [if_neg h]; simp [h]

theorem spec_InfluenceOf_j (k : Nat) (b W i : Int) : spec_InfluenceOf.j0 (k + 1) i true b W = some (-1) := by
  simp only [spec_InfluenceOf.j0, if_true]
theorem spec_InfluenceOf_ev {n w : Nat} (t : Tab n w) {i : Nat} (hi : i < n) : Ev (fun k => spec_InfluenceOf.f k n w i) (infl n w i) := by
  have hn := t.hn
  have hs := t.size
  have hp : 2 ^ i ≤ 32 := pow62 (by omega)
  unfold spec_InfluenceOf.f
  simp only [spec_IsTable_eq, isTab_mk t, spec_l1In_eq, Option.bind_some, if_true]
  rw [w64 (by omega) (by omega), decide_eq_true (show (0 : Int) ≤ (i : Int) ∧ (i : Int) ≤ (n : Int) - 1 by omega)]
  refine Ev.step (f := fun k => spec_InfluenceOf.l0 k i 0 0 n w) (fun k => ?_) ?_
  · simp only [spec_InfluenceOf.j0]
    rw [if_neg (by decide)]
  refine ev_for (fun k x => spec_InfluenceOf.l0 k i (sumI x fun x => b2i (chg w x (2 ^ i))) (x : Int) n w) (2 ^ n) ?_ ?_
  · intro x hx h
    refine Ev.step (fun k => ?_) h
    have hb := sum_b2i x fun x => chg w x (2 ^ i)
    have hc := b2i_range (chg w x (2 ^ i))
    simp only [spec_InfluenceOf.l0]
    rw [if_pos (by omega), shl1 (n := n) (by omega), if_pos (Int.ofNat_lt.mpr hx), if_pos (by omega), if_pos (by omega), shl1 (by omega), bxorN (by omega) (by omega), if_pos (Int.natCast_nonneg _), at3 t.w63]
    rw [w64 (by omega) (by omega), w64 (by omega) (by omega)]
    rfl
  · refine ev0 fun k => ?_
    simp only [spec_InfluenceOf.l0]
    rw [if_pos (by omega), shl1 (by omega), if_neg (by omega)]
    rfl

theorem impl_hasVariable_eq (b W i : Int) : impl_hasVariable.f b W i = some (isTab b W && decide (0 ≤ i ∧ i < b)) := by
  unfold impl_hasVariable.f
  rw [impl_IsTable_eq, Option.bind_some]
  by_cases h : isTab b W = true
  · rw [if_pos h, h, Bool.true_and]
    by_cases h0 : i ≥ 0
    · rw [if_pos h0]; simp [show 0 ≤ i from h0]
    · rw [if_neg h0]; simp [show ¬ 0 ≤ i from h0]
  · rw [if_neg h, Bool.eq_false_iff.mpr h, Bool.false_and]

theorem impl_Table_at_eq {n w : Nat} (t : Tab n w) (x : Nat) : impl_Table_at.f n w x = some (b2i (w.testBit x)) := by
  unfold impl_Table_at.f
  rw [if_pos (Int.natCast_nonneg _), at1 t.w63]

theorem impl_Table_changes_eq {n w : Nat} (t : Tab n w) {x y : Nat} (hx : x < 4294967296) (hy : y < 4294967296) : impl_Table_changes.f n w x y = some (chg w x y) := by
  unfold impl_Table_changes.f
  rw [impl_Table_at_eq t, Option.bind_some, bxorN (by omega) (by omega), impl_Table_at_eq t, Option.bind_some, b2i_ne]
  rfl

theorem impl_Table_influence_ev {n w : Nat} (t : Tab n w) {i : Nat} (hi : i < n) : Ev (fun k => impl_Table_influence.f k n w i) (infl n w i) := by
  have hn := t.hn
  have hs := t.size
  have hp : 2 ^ i ≤ 32 := pow62 (by omega)
  unfold impl_Table_influence.f
  simp only [impl_Table_size_eq (show n ≤ 62 by omega), Option.bind_some]
  refine ev_for (fun k x => impl_Table_influence.l0 k i (sumI x fun x => b2i (chg w x (2 ^ i))) ((2 ^ n : Nat) : Int) (x : Int) n w) (2 ^ n) ?_ ?_
  · intro x hx h
    refine Ev.step (fun k => ?_) h
    have hb := sum_b2i x fun x => chg w x (2 ^ i)
    simp only [impl_Table_influence.l0]
    rw [if_pos (Int.ofNat_lt.mpr hx), if_pos (by omega), shl1 (by omega), impl_Table_changes_eq t (by omega) (by omega), Option.bind_some, w64 (x := (x : Int) + 1) (by omega) (by omega)]
    simp only [sumI]
    by_cases hc : chg w x (2 ^ i) = true
    · rw [if_pos hc, hc, w64 (by omega) (by omega)]
      rfl
    · rw [if_neg hc, Bool.eq_false_iff.mpr hc]
      simp only [b2i, Bool.false_eq_true, if_false, Int.add_zero]
      rfl
  · refine ev0 fun k => ?_
    simp only [impl_Table_influence.l0]
    rw [if_neg (by omega)]
    rfl

theorem InfluenceOf_key (b W i : Int) : ∃ r, Ev (fun k => spec_InfluenceOf.f k b W i) r ∧ Ev (fun k => impl_InfluenceOf.f k b W i) r := by
  unfold impl_InfluenceOf.f
  simp only [impl_hasVariable_eq, Option.bind_some]
  by_cases h : isTab b W = true
  · obtain ⟨n, w, rfl, rfl, t⟩ := isTab_yes h
    have hn := t.hn
    by_cases h2 : 0 ≤ i ∧ i < n
    · obtain ⟨i, rfl⟩ := Int.eq_ofNat_of_zero_le h2.1
      refine ⟨_, spec_InfluenceOf_ev t (by omega), ?_⟩
      simp only [h, decide_eq_true h2, Bool.true_and, if_true]
      exact ev1' (impl_Table_influence_ev t (i := i) (by omega)) fun k hk => by rw [hk]; rfl
    · refine ⟨-1, ?_, ?_⟩
      · unfold spec_InfluenceOf.f
        simp only [spec_IsTable_eq, h, spec_l1In_eq, Option.bind_some, if_true]
        rw [show wrap64 ((n : Int) - 1) = (n : Int) - 1 from w64 (by omega) (by omega), decide_eq_false (show ¬ ((0 : Int) ≤ i ∧ i ≤ (n : Int) - 1) by omega)]
        exact ev0 fun k => spec_InfluenceOf_j k _ _ _
      · simp only [h, decide_eq_false h2, Bool.true_and, Bool.false_eq_true, if_false]
        exact Ev.now _
  · refine ⟨-1, ?_, ?_⟩
    · unfold spec_InfluenceOf.f
      simp only [spec_IsTable_eq, Bool.eq_false_iff.mpr h, Option.bind_some, Bool.false_eq_true, if_false]
      exact ev0 fun k => spec_InfluenceOf_j k _ _ _
    · simp only [Bool.eq_false_iff.mpr h, Bool.false_and, Bool.false_eq_true, if_false]
      exact Ev.now _

theorem impl_Table_influences_ev {n w : Nat} (t : Tab n w) : Ev (fun k => impl_Table_influences.f k n w) (tab n (infl n w)) := by
  have hn := t.hn
  have hs := t.size
  unfold impl_Table_influences.f
  simp only [if_pos (Int.natCast_nonneg n), Int.toNat_natCast, if_pos (show n ≤ 35184372088832 by omega), Option.bind_some, List.length_replicate]
  rw [← rwS_zero n (infl n w)]
  refine ev_for (fun k i => impl_Table_influences.l0 k (rwS n i (infl n w)) (n : Int) (i : Int) n w) n ?_ ?_
  · intro i hi h
    refine evs1 (impl_Table_influence_ev t hi) (fun k hk => ?_) h
    simp only [impl_Table_influences.l0]
    rw [if_pos (Int.ofNat_lt.mpr hi), hk, Option.bind_some, if_pos (Int.natCast_nonneg _), rwS_len _ (by omega), if_pos (Int.ofNat_lt.mpr hi), Int.toNat_natCast, rwS_at _ hi, rwAt_set, rwAt_next _ hi, w64 (by omega) (by omega)]
    rfl
  · refine ev0 fun k => ?_
    simp only [impl_Table_influences.l0]
    rw [if_neg (by omega), rwS_full]

theorem impl_MostInfluential_ev {n w : Nat} (t : Tab n w) : Ev (fun k => impl_MostInfluential.f k n w) (mi n w n) := by
  have hn := t.hn
  have hs := t.size
  unfold impl_MostInfluential.f
  simp only [impl_IsTable_eq, isTab_mk t, Option.bind_some, if_true]
  refine ev1 (impl_Table_influences_ev t) (G := fun k => impl_MostInfluential.l0 k (-1) (tab n (infl n w)) (tab n (infl n w)) (n : Int) 0) (fun k hk => by rw [hk, Option.bind_some, tab_len]) ?_
  refine ev_for (fun k i => impl_MostInfluential.l0 k (mi n w i) (tab n (infl n w)) (tab n (infl n w)) (n : Int) (i : Int)) n ?_ ?_
  · intro i hi h
    refine Ev.step (fun k => ?_) h
    have hm := mi_range n w i
    simp only [impl_MostInfluential.l0]
    rw [if_pos (Int.ofNat_lt.mpr hi), if_pos (Int.natCast_nonneg _), tab_len, if_pos (Int.ofNat_lt.mpr hi), w64 (by omega) (by omega)]
    simp only [mi]
    by_cases h0 : mi n w i < 0
    · rw [if_pos h0, if_pos h0]
      rfl
    · rw [if_neg h0, if_neg h0]
      obtain ⟨j, hj⟩ := Int.eq_ofNat_of_zero_le (show 0 ≤ mi n w i by omega)
      rw [hj, if_pos (Int.natCast_nonneg _), if_pos (by omega), tab_rd _ hi, tab_rd _ (show j < n by omega), Int.toNat_natCast]
      by_cases h1 : infl n w i > infl n w j
      · rw [if_pos h1, if_pos h1]
        rfl
      · rw [if_neg h1, if_neg h1]
        rfl
  · refine ev0 fun k => ?_
    simp only [impl_MostInfluential.l0]
    rw [if_neg (by omega)]
theorem spec_MostInfluential_ev {n w : Nat} (t : Tab n w) : Ev (fun k => spec_MostInfluential.f k n w) (mi n w n) := by
  have hn := t.hn
  have hs := t.size
  unfold spec_MostInfluential.f
  refine ev_for (fun k i => spec_MostInfluential.l0 k (mi n w i) (i : Int) n w) n ?_ ?_
  · intro i hi h
    have hm := mi_range n w i
    refine Ev.step (f := fun k => spec_MostInfluential.j1 k (mi n w i) (i : Int) true n w) (fun k => ?_) ?_
    · simp only [spec_MostInfluential.l0, spec_IsTable_eq, Option.bind_some, isTab_mk t, if_true]
      rw [decide_eq_true (Int.ofNat_lt.mpr hi)]
    by_cases h0 : mi n w i < 0
    · refine Ev.step (fun k => ?_) h
      simp only [spec_MostInfluential.j1, if_true, mi]
      rw [if_pos h0, if_pos h0, w64 (by omega) (by omega)]
      rfl
    · obtain ⟨j, hj⟩ := Int.eq_ofNat_of_zero_le (show 0 ≤ mi n w i by omega)
      obtain ⟨K, hK⟩ := ev_two (spec_InfluenceOf_ev t hi) (spec_InfluenceOf_ev t (i := j) (by omega))
      obtain ⟨L, hL⟩ := h
      refine ⟨K + L + 1, fun k hk => ?_⟩
      obtain ⟨m, rfl⟩ : ∃ m, k = m + 1 := ⟨k - 1, by omega⟩
      obtain ⟨g1, g2⟩ := hK m (by omega)
      refine Eq.trans ?_ (hL m (by omega))
      simp only [spec_MostInfluential.j1, if_true, mi]
      rw [if_neg h0, if_neg h0, g1, Option.bind_some, hj, g2, Option.bind_some, w64 (by omega) (by omega), Int.toNat_natCast]
      by_cases h1 : infl n w i > infl n w j
      · rw [if_pos h1, if_pos h1]
        rfl
      · rw [if_neg h1, if_neg h1]
        rfl
  · refine Ev.step (f := fun k => spec_MostInfluential.j1 k (mi n w n) (n : Int) false n w) (fun k => ?_) (ev0 fun k => ?_)
    · simp only [spec_MostInfluential.l0, spec_IsTable_eq, Option.bind_some, isTab_mk t, if_true]
      rw [decide_eq_false (by omega)]
    · simp only [spec_MostInfluential.j1, Bool.false_eq_true, if_false]
theorem MostInfluential_key (b W : Int) : ∃ r, Ev (fun k => spec_MostInfluential.f k b W) r ∧ Ev (fun k => impl_MostInfluential.f k b W) r := by
  by_cases h : isTab b W = true
  · obtain ⟨n, w, rfl, rfl, t⟩ := isTab_yes h
    exact ⟨_, spec_MostInfluential_ev t, impl_MostInfluential_ev t⟩
  · refine ⟨-1, ?_, ?_⟩
    · unfold spec_MostInfluential.f
      refine Ev.step (f := fun k => spec_MostInfluential.j1 k (-1) 0 false b W) (fun k => ?_) (ev0 fun k => ?_)
      · simp only [spec_MostInfluential.l0, spec_IsTable_eq, Option.bind_some, if_neg h]
      · simp only [spec_MostInfluential.j1, Bool.false_eq_true, if_false]
    · unfold impl_MostInfluential.f
      simp only [impl_IsTable_eq, Option.bind_some, if_neg h]
      exact Ev.now _

theorem spec_l10At_ev {n w : Nat} (t : Tab n w) {x : Nat} (hx : x < 4294967296) : Ev (fun k => spec_l10At.f k n w x) (sens n w x) := by
  have hn := t.hn
  unfold spec_l10At.f
  refine ev_for (fun k i => spec_l10At.l0 k x (sumI i fun i => b2i (chg w x (2 ^ i))) (i : Int) n w) n ?_ ?_
  · intro i hi h
    refine Ev.step (fun k => ?_) h
    have hp : 2 ^ i ≤ 32 := pow62 (by omega)
    have hb := sum_b2i i fun i => chg w x (2 ^ i)
    have hc := b2i_range (chg w x (2 ^ i))
    simp only [spec_l10At.l0]
    rw [if_pos (by omega), if_pos (by omega), if_pos (by omega), shl1 (by omega), bxorN (by omega) (by omega), if_pos (Int.natCast_nonneg _), at3 t.w63]
    rw [w64 (by omega) (by omega), w64 (by omega) (by omega)]
    rfl
  · refine ev0 fun k => ?_
    simp only [spec_l10At.l0]
    rw [if_neg (by omega)]
    rfl

theorem edges_range (n w N : Nat) : 0 ≤ sumI N (fun x => sens n w x) ∧ sumI N (fun x => sens n w x) ≤ N * n := by
  have := sumI_bound (n := N) (f := fun x => sens n w x) (a := 0) (b := n) fun x _ => sens_range n w x
  omega
theorem spec_SensitiveEdges_ev {n w : Nat} (t : Tab n w) : Ev (fun k => spec_SensitiveEdges.f k n w) (sumI (2 ^ n) (fun x => sens n w x) / 2) := by
  have hn := t.hn
  have hs := t.size
  unfold spec_SensitiveEdges.f
  simp only [spec_IsTable_eq, isTab_mk t, Option.bind_some, if_true]
  refine ev_for (fun k x => spec_SensitiveEdges.l0 k (sumI x fun x => sens n w x) (x : Int) n w) (2 ^ n) ?_ ?_
  · intro x hx h
    refine evs1 (spec_l10At_ev t (x := x) (by omega)) (fun k hk => ?_) h
    have hb := edges_range n w x
    have hc := sens_range n w x
    have hm : (x : Int) * n ≤ 32 * 5 := Int.mul_le_mul (by omega) (by omega) (by omega) (by omega)
    simp only [spec_SensitiveEdges.l0]
    rw [if_pos (by omega), shl1 (by omega), if_pos (Int.ofNat_lt.mpr hx), hk, Option.bind_some, w64 (by omega) (by omega), w64 (by omega) (by omega)]
    rfl
  · refine ev0 fun k => ?_
    have hb := edges_range n w (2 ^ n)
    have hm : ((2 ^ n : Nat) : Int) * n ≤ 32 * 5 := Int.mul_le_mul (by omega) (by omega) (by omega) (by omega)
    simp only [spec_SensitiveEdges.l0]
    rw [if_pos (by omega), shl1 (by omega), if_neg (by omega), Int.tdiv_eq_ediv_of_nonneg hb.1, w64 (by omega) (by omega)]

theorem infls_range {n : Nat} (hn : n ≤ 5) (w N : Nat) : 0 ≤ sumI N (infl n w) ∧ sumI N (infl n w) ≤ N * 32 := by
  have := sumI_bound (n := N) (f := infl n w) (a := 0) (b := 32) fun x _ => by
    have := infl_range n w x
    have := pow62 hn
    omega
  omega
theorem impl_TotalInfluence_ev {n w : Nat} (t : Tab n w) : Ev (fun k => impl_TotalInfluence.f k n w) (sumI n (infl n w)) := by
  have hn := t.hn
  have hs := t.size
  unfold impl_TotalInfluence.f
  simp only [impl_IsTable_eq, isTab_mk t, Option.bind_some, if_true]
  refine ev1 (impl_Table_influences_ev t) (G := fun k => impl_TotalInfluence.l0 k 0 (tab n (infl n w)) (n : Int) 0) (fun k hk => by rw [hk, Option.bind_some, tab_len]) ?_
  refine ev_for (fun k i => impl_TotalInfluence.l0 k (sumI i (infl n w)) (tab n (infl n w)) (n : Int) (i : Int)) n ?_ ?_
  · intro i hi h
    refine Ev.step (fun k => ?_) h
    have h1 := infls_range hn w i
    have h2 := infl_range n w i
    simp only [impl_TotalInfluence.l0]
    rw [if_pos (Int.ofNat_lt.mpr hi), if_pos (Int.natCast_nonneg _), tab_len, if_pos (Int.ofNat_lt.mpr hi), tab_rd _ hi, w64 (by omega) (by omega), w64 (by omega) (by omega)]
    rfl
  · refine ev0 fun k => ?_
    simp only [impl_TotalInfluence.l0]
    rw [if_neg (by omega)]
theorem spec_TotalInfluence_ev {n w : Nat} (t : Tab n w) : Ev (fun k => spec_TotalInfluence.f k n w) (sumI n (infl n w)) := by
  have hn := t.hn
  have h1 := infls_range hn w n
  have h2 := edges_even n w
  have h3 := edges_twice n w
  unfold spec_TotalInfluence.f
  simp only [spec_IsTable_eq, isTab_mk t, Option.bind_some, if_true]
  refine ev1' (spec_SensitiveEdges_ev t) fun k hk => ?_
  rw [hk, Option.bind_some, h3]
  rw [h3] at h2
  rw [w64 (by omega) (by omega)]
  congr 1
  omega
theorem TotalInfluence_key (b W : Int) : ∃ r, Ev (fun k => spec_TotalInfluence.f k b W) r ∧ Ev (fun k => impl_TotalInfluence.f k b W) r := by
  by_cases h : isTab b W = true
  · obtain ⟨n, w, rfl, rfl, t⟩ := isTab_yes h
    exact ⟨_, spec_TotalInfluence_ev t, impl_TotalInfluence_ev t⟩
  · unfold spec_TotalInfluence.f impl_TotalInfluence.f
    simp only [spec_IsTable_eq, impl_IsTable_eq, Option.bind_some, if_neg h]
    exact ⟨_, Ev.now _, Ev.now _⟩

theorem spec_l12Sign_ev {x : Nat} (h : x < 4294967296) : Ev (fun k => spec_l12Sign.f k x) (chi (par x)) := by
  unfold spec_l12Sign.f
  refine ev1' (spec_l2Count_ev h) fun k hk => ?_
  rw [hk, Option.bind_some, Int.tmod_eq_emod_of_nonneg (Int.natCast_nonneg _)]
  unfold par chi
  by_cases e : pc x % 2 = 1
  · rw [if_pos (by omega), if_pos (by rw [e]; rfl)]
  · rw [if_neg (by omega), if_neg (by simpa using e)]
theorem par0 : par 0 = false := by decide
theorem par1 : par 1 = true := by decide
theorem spec_l12Sign_bit (b : Bool) : Ev (fun k => spec_l12Sign.f k (b2i b)) (chi b) := by
  cases b
  · have := spec_l12Sign_ev (x := 0) (by omega)
    rw [par0] at this
    exact this
  · have := spec_l12Sign_ev (x := 1) (by omega)
    rw [par1] at this
    exact this

theorem impl_sign_eq {a : Nat} (h : a < 4294967296) : impl_sign.f a = some (chi (a % 2 == 1)) := by
  unfold impl_sign.f
  rw [show Go.bits .and .i64 (a : Int) 1 = ((a % 2 : Nat) : Int) by rw [show (1 : Int) = ((1 : Nat) : Int) from rfl, bandN (by omega) (by omega), Nat.and_one_is_mod], w64 (x := 2 * _) (by omega) (by omega), w64 (by omega) (by omega)]
  rcases (by omega : a % 2 = 0 ∨ a % 2 = 1) with e | e <;> rw [e] <;> rfl
theorem impl_sign_bits (a b : Bool) : impl_sign.f (wrap64 (b2i a + b2i b)) = some (chi (a != b)) := by
  have e : wrap64 (b2i a + b2i b) = ((a.toNat + b.toNat : Nat) : Int) := by
    have := b2i_range a
    have := b2i_range b
    rw [w64 (by omega) (by omega)]
    cases a <;> cases b <;> rfl
  rw [e, impl_sign_eq (by cases a <;> cases b <;> decide)]
  cases a <;> cases b <;> rfl
theorem odd_add (a : Bool) (p : Nat) : ((a.toNat + p) % 2 == 1) = (a != (p % 2 == 1)) := by
  rcases (by omega : p % 2 = 0 ∨ p % 2 = 1) with h | h
  · rw [h]
    cases a
    · rw [show (false.toNat + p) % 2 = 0 by rw [show false.toNat = 0 from rfl]; omega]
      rfl
    · rw [show (true.toNat + p) % 2 = 1 by rw [show true.toNat = 1 from rfl]; omega]
      rfl
  · rw [h]
    cases a
    · rw [show (false.toNat + p) % 2 = 1 by rw [show false.toNat = 0 from rfl]; omega]
      rfl
    · rw [show (true.toNat + p) % 2 = 0 by rw [show true.toNat = 1 from rfl]; omega]
      rfl
theorem impl_sign_num (a : Bool) (p : Nat) (hp : p ≤ 32) : impl_sign.f (wrap64 (b2i a + ((p : Nat) : Int))) = some (chi (a != (p % 2 == 1))) := by
  have e : wrap64 (b2i a + (p : Int)) = ((a.toNat + p : Nat) : Int) := by
    have := b2i_range a
    rw [w64 (by omega) (by omega)]
    cases a
    · simp [b2i]
    · simp [b2i]
  have ha : a.toNat ≤ 1 := by cases a <;> decide
  rw [e, impl_sign_eq (by omega), odd_add]
theorem impl_sign_par (a : Bool) (x : Nat) : impl_sign.f (wrap64 (b2i a + ((pc x : Nat) : Int))) = some (chi (a != par x)) := impl_sign_num a (pc x) (pc_le x)

theorem impl_Table_spectrum_ev {n w : Nat} (t : Tab n w) : Ev (fun k => impl_Table_spectrum.f k n w) (tab (2 ^ n) (spW n w)) := by
  have hn := t.hn
  have hs := t.size
  unfold impl_Table_spectrum.f
  simp only [impl_Table_size_eq (show n ≤ 62 by omega), Option.bind_some, Int.toNat_natCast]
  simp only [if_pos (Int.natCast_nonneg (2 ^ n)), if_pos (show 2 ^ n ≤ 35184372088832 by omega), List.length_replicate]
  have e0 := rwS_zero (2 ^ n) (spW n w)
  rw [← e0]
  refine ev_for (fun k u => impl_Table_spectrum.l0 k (rwS (2 ^ n) u (spW n w)) ((2 ^ n : Nat) : Int) (u : Int) n w) (2 ^ n) ?_ ?_
  · intro u hu h
    refine Ev.step (f := fun k => impl_Table_spectrum.l1 k (rwAt (2 ^ n) u (spW n w) 0) (u : Int) ((2 ^ n : Nat) : Int) (u : Int) ((2 ^ n : Nat) : Int) 0 n w) (fun k => ?_) ?_
    · simp only [impl_Table_spectrum.l0]
      rw [if_pos (Int.ofNat_lt.mpr hu), impl_Table_size_eq (by omega), Option.bind_some, rwS_at _ hu]
    refine ev_for (fun k x => impl_Table_spectrum.l1 k (rwAt (2 ^ n) u (spW n w) (sumI x fun x => chi (w.testBit x != par (u &&& x)))) (u : Int) ((2 ^ n : Nat) : Int) (u : Int) ((2 ^ n : Nat) : Int) (x : Int) n w) (2 ^ n) ?_ ?_
    · intro x hx h
      refine Ev.step (fun k => ?_) h
      have hux : u &&& x ≤ u := Nat.and_le_left
      have hb := sumI_abs (n := x) (f := fun x => chi (w.testBit x != par (u &&& x))) fun _ _ => chi_range _
      have hc := chi_range (w.testBit x != par (u &&& x))
      simp only [impl_Table_spectrum.l1]
      rw [if_pos (Int.ofNat_lt.mpr hx), if_pos (Int.natCast_nonneg _), rwAt_len _ _ hu, if_pos (Int.ofNat_lt.mpr hu), impl_Table_at_eq t, Option.bind_some, bandN (by omega) (by omega), impl_ones_eq (by omega), Option.bind_some, impl_sign_par, Option.bind_some, rwAt_rd, Int.toNat_natCast, rwAt_set, w64 (by omega) (by omega), w64 (by omega) (by omega)]
      rfl
    · refine Ev.step (fun k => ?_) h
      simp only [impl_Table_spectrum.l1]
      rw [if_neg (by omega), w64 (by omega) (by omega), show (sumI (2 ^ n) fun x => chi (w.testBit x != par (u &&& x))) = spW n w u from rfl, rwAt_next _ hu]
      rfl
  · refine ev0 fun k => ?_
    simp only [impl_Table_spectrum.l0]
    rw [if_neg (by omega), rwS_full]

theorem impl_EnergyByLevel_ev {n w : Nat} (t : Tab n w) : Ev (fun k => impl_EnergyByLevel.f k n w) (tab (n + 1) (enrD n w)) := by
  have hn := t.hn
  have hs := t.size
  unfold impl_EnergyByLevel.f
  simp only [impl_IsTable_eq, isTab_mk t, Option.bind_some, if_true, w64 (x := (n : Int) + 1) (by omega) (by omega), if_pos (show (0 : Int) ≤ (n : Int) + 1 by omega), show ((n : Int) + 1).toNat = n + 1 by omega, if_pos (show n + 1 ≤ 35184372088832 by omega), enr_start _ n w]
  refine ev1 (impl_Table_spectrum_ev t) (G := fun k => impl_EnergyByLevel.l0 k (tab (n + 1) (enr n w 0)) (tab (2 ^ n) (spW n w)) ((2 ^ n : Nat) : Int) 0) (fun k hk => by rw [hk, Option.bind_some, tab_len]) ?_
  refine ev_for (fun k u => impl_EnergyByLevel.l0 k (tab (n + 1) (enr n w u)) (tab (2 ^ n) (spW n w)) ((2 ^ n : Nat) : Int) (u : Int)) (2 ^ n) ?_ ?_
  · intro u hu h
    refine Ev.step (fun k => ?_) h
    have hpc : pc u ≤ n := pc_le_n (by omega) hu
    have hr := enr_range hn w (j := u) (by omega) (pc u)
    have hq := sq_range (spW32 hn w u)
    simp only [impl_EnergyByLevel.l0]
    rw [if_pos (Int.ofNat_lt.mpr hu), if_pos (Int.natCast_nonneg _), tab_len, if_pos (Int.ofNat_lt.mpr hu), impl_ones_eq (by omega), Option.bind_some, if_pos (Int.natCast_nonneg _), tab_len, if_pos (by omega), tab_rd _ hu, tab_rd _ (show pc u < n + 1 by omega), Int.toNat_natCast, w64 (x := spW n w u * spW n w u) (by omega) (by omega), w64 (by omega) (by omega), enr_step, w64 (by omega) (by omega)]
    rfl
  · refine ev0 fun k => ?_
    simp only [impl_EnergyByLevel.l0]
    rw [if_neg (by omega)]
    rfl
theorem impl_EnergyByLevel_no {b W : Int} (h : ¬ isTab b W = true) : Ev (fun k => impl_EnergyByLevel.f k b W) [] := by
  unfold impl_EnergyByLevel.f
  simp only [impl_IsTable_eq, Option.bind_some, if_neg h]
  exact Ev.now _

theorem spec_SpectrumOf_no {b W : Int} (h : ¬ isTab b W = true) : Ev (fun k => spec_SpectrumOf.f k b W) [] := by
  unfold spec_SpectrumOf.f
  refine Ev.step (f := fun k => spec_SpectrumOf.j1 k [] 0 false b W) (fun k => ?_) (ev0 fun k => ?_)
  · simp only [spec_SpectrumOf.l0, spec_IsTable_eq, Option.bind_some, if_neg h]
  · simp only [spec_SpectrumOf.j1, Bool.false_eq_true, if_false]
theorem spec_SpectrumOf_ev {n w : Nat} (t : Tab n w) : Ev (fun k => spec_SpectrumOf.f k n w) (tab (2 ^ n) (spW n w)) := by
  have hn := t.hn
  have hs := t.size
  unfold spec_SpectrumOf.f
  refine ev_for (fun k u => spec_SpectrumOf.l0 k (tab u (spW n w)) (u : Int) n w) (2 ^ n) ?_ ?_
  · intro u hu h
    refine Ev.step (f := fun k => spec_SpectrumOf.j1 k (tab u (spW n w)) (u : Int) true n w) (fun k => ?_) (Ev.step (f := fun k => spec_SpectrumOf.l1 k (tab u (spW n w)) (u : Int) 0 0 n w) (fun k => ?_) ?_)
    · simp only [spec_SpectrumOf.l0, spec_IsTable_eq, Option.bind_some, isTab_mk t, if_true]
      rw [if_pos (Int.natCast_nonneg _), shl1 (by omega), decide_eq_true (Int.ofNat_lt.mpr hu)]
    · simp only [spec_SpectrumOf.j1, if_true]
    refine ev_for (fun k x => spec_SpectrumOf.l1 k (tab u (spW n w)) (u : Int) (sumI x fun x => chi (w.testBit x != par (u &&& x))) (x : Int) n w) (2 ^ n) ?_ ?_
    · intro x hx h
      have hux : u &&& x ≤ u := Nat.and_le_left
      obtain ⟨K, hK⟩ := ev_two (spec_l12Sign_bit (w.testBit x)) (spec_l12Sign_ev (x := u &&& x) (by omega))
      obtain ⟨L, hL⟩ := h
      refine ⟨K + L + 1, fun k hk => ?_⟩
      obtain ⟨m, rfl⟩ : ∃ m, k = m + 1 := ⟨k - 1, by omega⟩
      obtain ⟨g1, g2⟩ := hK m (by omega)
      have hb := sumI_abs (n := x) (f := fun x => chi (w.testBit x != par (u &&& x))) fun _ _ => chi_range _
      have hc := chi_range (w.testBit x != par (u &&& x))
      refine Eq.trans ?_ (hL m (by omega))
      simp only [spec_SpectrumOf.l1]
      rw [if_pos (Int.natCast_nonneg _), shl1 (by omega), if_pos (Int.ofNat_lt.mpr hx), if_pos (Int.natCast_nonneg _), at1 t.w63, g1, Option.bind_some, bandN (by omega) (by omega), g2, Option.bind_some, chi_mul, w64 (x := chi _) (by omega) (by omega), w64 (by omega) (by omega), w64 (by omega) (by omega)]
      rfl
    · refine Ev.step (fun k => ?_) h
      simp only [spec_SpectrumOf.l1]
      rw [if_pos (Int.natCast_nonneg _), shl1 (by omega), if_neg (by omega), if_pos (by rw [tab_len]; omega), tab_succ, w64 (by omega) (by omega)]
      rfl
  · refine Ev.step (f := fun k => spec_SpectrumOf.j1 k (tab (2 ^ n) (spW n w)) ((2 ^ n : Nat) : Int) false n w) (fun k => ?_) (ev0 fun k => ?_)
    · simp only [spec_SpectrumOf.l0, spec_IsTable_eq, Option.bind_some, isTab_mk t, if_true]
      rw [if_pos (Int.natCast_nonneg _), shl1 (by omega), decide_eq_false (by omega)]
    · simp only [spec_SpectrumOf.j1, Bool.false_eq_true, if_false]

theorem spec_EnergyByLevel_ev {n w : Nat} (t : Tab n w) : Ev (fun k => spec_EnergyByLevel.f k n w) (tab (n + 1) (enrD n w)) := by
  have hn := t.hn
  have hs := t.size
  unfold spec_EnergyByLevel.f
  simp only [spec_IsTable_eq, isTab_mk t, Option.bind_some, if_true, w64 (x := (n : Int) + 1) (by omega) (by omega), if_pos (show (0 : Int) ≤ (n : Int) + 1 by omega), show ((n : Int) + 1).toNat = n + 1 by omega, if_pos (show n + 1 ≤ 35184372088832 by omega), enr_start _ n w]
  refine ev1 (spec_SpectrumOf_ev t) (G := fun k => spec_EnergyByLevel.l0 k (tab (n + 1) (enr n w 0)) (tab (2 ^ n) (spW n w)) 0) (fun k hk => by rw [hk, Option.bind_some]) ?_
  refine ev_for (fun k u => spec_EnergyByLevel.l0 k (tab (n + 1) (enr n w u)) (tab (2 ^ n) (spW n w)) (u : Int)) (2 ^ n) ?_ ?_
  · intro u hu h
    refine evs1 (spec_l2Count_ev (x := u) (by omega)) (fun k hk => ?_) h
    have hpc : pc u ≤ n := pc_le_n (by omega) hu
    have hr := enr_range hn w (j := u) (by omega) (pc u)
    have hq := sq_range (spW32 hn w u)
    simp only [spec_EnergyByLevel.l0]
    rw [tab_len, if_pos (Int.ofNat_lt.mpr hu), hk, Option.bind_some, Option.bind_some, if_pos (Int.natCast_nonneg _), tab_len, if_pos (by omega), if_pos (Int.natCast_nonneg _), if_pos (Int.natCast_nonneg _), if_pos (by omega), tab_rd _ hu, tab_rd _ (show pc u < n + 1 by omega), Int.toNat_natCast, w64 (x := spW n w u * spW n w u) (by omega) (by omega), w64 (by omega) (by omega), enr_step, w64 (by omega) (by omega)]
    rfl
  · refine ev0 fun k => ?_
    simp only [spec_EnergyByLevel.l0]
    rw [tab_len, if_neg (by omega)]
    rfl
theorem spec_EnergyByLevel_no {b W : Int} (h : ¬ isTab b W = true) : Ev (fun k => spec_EnergyByLevel.f k b W) [] := by
  unfold spec_EnergyByLevel.f
  simp only [spec_IsTable_eq, Option.bind_some, if_neg h]
  exact Ev.now _

theorem EnergyByLevel_key (b W : Int) : ∃ l : List Int, l.length ≤ 1048576 ∧ Ev (fun k => spec_EnergyByLevel.f k b W) l ∧ Ev (fun k => impl_EnergyByLevel.f k b W) l := by
  by_cases h : isTab b W = true
  · obtain ⟨n, w, rfl, rfl, t⟩ := isTab_yes h
    have hn := t.hn
    exact ⟨_, by rw [tab_len]; omega, spec_EnergyByLevel_ev t, impl_EnergyByLevel_ev t⟩
  · exact ⟨[], by simp, spec_EnergyByLevel_no h, impl_EnergyByLevel_no h⟩

theorem impl_PairsAtDistance_ev {n w : Nat} (t : Tab n w) : Ev (fun k => impl_PairsAtDistance.f k n w) (tab (n + 1) (pairsD n w)) := by
  have hn := t.hn
  have hs := t.size
  unfold impl_PairsAtDistance.f
  simp only [impl_IsTable_eq, isTab_mk t, Option.bind_some, if_true, w64 (x := (n : Int) + 1) (by omega) (by omega), if_pos (show (0 : Int) ≤ (n : Int) + 1 by omega), show ((n : Int) + 1).toNat = n + 1 by omega, if_pos (show n + 1 ≤ 35184372088832 by omega), impl_Table_size_eq (show n ≤ 62 by omega), pairs2_start _ w]
  refine ev_for (fun k x => impl_PairsAtDistance.l0 k (tab (n + 1) (pairs2 w x 0)) ((2 ^ n : Nat) : Int) (x : Int) n w) (2 ^ n) ?_ ?_
  · intro x hx h
    refine Ev.step (f := fun k => impl_PairsAtDistance.l1 k (tab (n + 1) (pairs2 w x 0)) (x : Int) ((2 ^ n : Nat) : Int) (x : Int) (x : Int) 0 n w) (fun k => ?_) ?_
    · simp only [impl_PairsAtDistance.l0]
      rw [if_pos (Int.ofNat_lt.mpr hx)]
    refine ev_for (fun k y => impl_PairsAtDistance.l1 k (tab (n + 1) (pairs2 w x y)) (x : Int) ((2 ^ n : Nat) : Int) (x : Int) (x : Int) (y : Int) n w) x ?_ ?_
    · intro y hy h
      refine Ev.step (fun k => ?_) h
      have hxy : x ^^^ y < 2 ^ n := Nat.xor_lt_two_pow hx (by omega)
      have hpc : pc (x ^^^ y) ≤ n := pc_le_n (by omega) hxy
      have hr := pairs2_range (w := w) (x := x) (y := y) (k := pc (x ^^^ y)) (by omega) (by omega)
      simp only [impl_PairsAtDistance.l1]
      rw [if_pos (Int.ofNat_lt.mpr hy), impl_Table_at_eq t, Option.bind_some, impl_Table_at_eq t, Option.bind_some, w64 (x := (y : Int) + 1) (by omega) (by omega)]
      by_cases e : w.testBit x = w.testBit y
      · rw [if_pos (by rw [e]), show tab (n + 1) (pairs2 w x (y + 1)) = tab (n + 1) (pairs2 w x y) from tab_congr fun k _ => pairs2_same k e]
        rfl
      · rw [if_neg (fun h => e (b2i_eq.1 h)), bxorN (by omega) (by omega), impl_ones_eq (by omega), Option.bind_some, if_pos (Int.natCast_nonneg _), tab_len, if_pos (by omega), Int.toNat_natCast, tab_rd _ (by omega), w64 (by omega) (by omega), pairs2_diff _ e]
        rfl
    · refine Ev.step (fun k => ?_) h
      simp only [impl_PairsAtDistance.l1]
      rw [if_neg (by omega), w64 (by omega) (by omega), show tab (n + 1) (pairs2 w x x) = tab (n + 1) (pairs2 w (x + 1) 0) from tab_congr fun k _ => pairs2_row w x k]
      rfl
  · refine ev0 fun k => ?_
    simp only [impl_PairsAtDistance.l0]
    rw [if_neg (by omega), show tab (n + 1) (pairs2 w (2 ^ n) 0) = tab (n + 1) (pairsD n w) from tab_congr fun k _ => pairs2_end n w k]
theorem impl_PairsAtDistance_no {b W : Int} (h : ¬ isTab b W = true) : Ev (fun k => impl_PairsAtDistance.f k b W) [] := by
  unfold impl_PairsAtDistance.f
  simp only [impl_IsTable_eq, Option.bind_some, if_neg h]
  exact Ev.now _

theorem spec_PairsAtDistance_ev {n w : Nat} (t : Tab n w) : Ev (fun k => spec_PairsAtDistance.f k n w) (tab (n + 1) (pairsD n w)) := by
  have hn := t.hn
  have hs := t.size
  unfold spec_PairsAtDistance.f
  simp only [spec_IsTable_eq, isTab_mk t, Option.bind_some, if_true, w64 (x := (n : Int) + 1) (by omega) (by omega), if_pos (show (0 : Int) ≤ (n : Int) + 1 by omega), show ((n : Int) + 1).toNat = n + 1 by omega, if_pos (show n + 1 ≤ 35184372088832 by omega), pairs2_start _ w]
  refine ev_for (fun k x => spec_PairsAtDistance.l0 k (tab (n + 1) (pairs2 w x 0)) (x : Int) n w) (2 ^ n) ?_ ?_
  · intro x hx h
    refine Ev.step (f := fun k => spec_PairsAtDistance.l1 k (tab (n + 1) (pairs2 w x 0)) (x : Int) 0 n w) (fun k => ?_) ?_
    · simp only [spec_PairsAtDistance.l0]
      rw [if_pos (Int.natCast_nonneg _), shl1 (by omega), if_pos (Int.ofNat_lt.mpr hx)]
    refine ev_for (fun k y => spec_PairsAtDistance.l1 k (tab (n + 1) (pairs2 w x y)) (x : Int) (y : Int) n w) x ?_ ?_
    · intro y hy h
      have hxy : x ^^^ y < 2 ^ n := Nat.xor_lt_two_pow hx (by omega)
      have hpc : pc (x ^^^ y) ≤ n := pc_le_n (by omega) hxy
      have hr := pairs2_range (w := w) (x := x) (y := y) (k := pc (x ^^^ y)) (by omega) (by omega)
      by_cases e : w.testBit x = w.testBit y
      · refine Ev.step (fun k => ?_) h
        simp only [spec_PairsAtDistance.l1]
        rw [if_pos (Int.ofNat_lt.mpr hy), if_pos (Int.natCast_nonneg _), if_pos (Int.natCast_nonneg _), at1 t.w63, at1 t.w63, w64 (x := (y : Int) + 1) (by omega) (by omega), if_pos (by rw [e]), show tab (n + 1) (pairs2 w x (y + 1)) = tab (n + 1) (pairs2 w x y) from tab_congr fun k _ => pairs2_same k e]
        rfl
      · refine evs1 (spec_l2Count_ev (x := x ^^^ y) (by omega)) (fun k hk => ?_) h
        simp only [spec_PairsAtDistance.l1]
        rw [if_pos (Int.ofNat_lt.mpr hy), if_pos (Int.natCast_nonneg _), if_pos (Int.natCast_nonneg _), at1 t.w63, at1 t.w63, w64 (x := (y : Int) + 1) (by omega) (by omega), if_neg (fun h => e (b2i_eq.1 h)), bxorN (by omega) (by omega), hk, Option.bind_some, Option.bind_some, if_pos (Int.natCast_nonneg _), tab_len, if_pos (by omega), if_pos (Int.natCast_nonneg _), if_pos (by omega), Int.toNat_natCast, tab_rd _ (by omega), w64 (by omega) (by omega), pairs2_diff _ e]
        rfl
    · refine Ev.step (fun k => ?_) h
      simp only [spec_PairsAtDistance.l1]
      rw [if_neg (by omega), w64 (by omega) (by omega), show tab (n + 1) (pairs2 w x x) = tab (n + 1) (pairs2 w (x + 1) 0) from tab_congr fun k _ => pairs2_row w x k]
      rfl
  · refine ev0 fun k => ?_
    simp only [spec_PairsAtDistance.l0]
    rw [if_pos (Int.natCast_nonneg _), shl1 (by omega), if_neg (by omega), show tab (n + 1) (pairs2 w (2 ^ n) 0) = tab (n + 1) (pairsD n w) from tab_congr fun k _ => pairs2_end n w k]
theorem spec_PairsAtDistance_no {b W : Int} (h : ¬ isTab b W = true) : Ev (fun k => spec_PairsAtDistance.f k b W) [] := by
  unfold spec_PairsAtDistance.f
  simp only [spec_IsTable_eq, Option.bind_some, if_neg h]
  exact Ev.now _

theorem PairsAtDistance_key (b W : Int) : ∃ l : List Int, l.length ≤ 1048576 ∧ Ev (fun k => spec_PairsAtDistance.f k b W) l ∧ Ev (fun k => impl_PairsAtDistance.f k b W) l := by
  by_cases h : isTab b W = true
  · obtain ⟨n, w, rfl, rfl, t⟩ := isTab_yes h
    have hn := t.hn
    exact ⟨_, by rw [tab_len]; omega, spec_PairsAtDistance_ev t, impl_PairsAtDistance_ev t⟩
  · exact ⟨[], by simp, spec_PairsAtDistance_no h, impl_PairsAtDistance_no h⟩

theorem impl_makeTable_word_eq (g : Nat → Bool) : ∀ N, N ≤ 32 → impl_makeTable.word g N = ((wordN g N : Nat) : Int) := by
  intro N
  induction N with
  | zero => intro _; rfl
  | succ N ih =>
    intro hN
    simp only [impl_makeTable.word]
    rw [ih (by omega)]
    by_cases hg : g N = true
    · rw [if_pos hg, wordN_or (by omega) hg]
    · rw [if_neg hg]
      simp only [wordN]
      rw [if_neg hg]

/-- An input with a value put in at a place. -/
def ins (x i b : Nat) : Nat := (x / 2 ^ i * 2 ^ (i + 1) ||| b * 2 ^ i) ||| x % 2 ^ i

def resW (n w i b : Nat) : Nat := wordN (fun x => w.testBit (ins x i b)) (2 ^ (n - 1))
theorem impl_Table_restrict_low_eq {x i : Nat} (hx : x < 32) (hi : i ≤ 5) : impl_Table_restrict.low x i = ((x % 2 ^ i : Nat) : Int) := by
  have hp : 2 ^ i ≤ 2 ^ 5 := Nat.pow_le_pow_right (by omega) hi
  have hp0 := Nat.two_pow_pos i
  have e : ((2 : Int) ^ i) = ((2 ^ i : Nat) : Int) := by push_cast; rfl
  unfold impl_Table_restrict.low
  rw [Int.toNat_natCast, Nat.min_eq_left (by omega), e, w64 (x := ((2 ^ i : Nat) : Int)) (by omega) (by omega), w64 (by omega) (by omega), show ((2 ^ i : Nat) : Int) - 1 = ((2 ^ i - 1 : Nat) : Int) by omega, bandN (by omega) (by omega), Nat.and_two_pow_sub_one_eq_mod]
theorem impl_Table_restrict_spread_eq {x i b : Nat} (hx : x < 32) (hi : i ≤ 5) (hb : b ≤ 1) : impl_Table_restrict.spread x i b = ((ins x i b : Nat) : Int) := by
  have hp : 2 ^ i ≤ 2 ^ 5 := Nat.pow_le_pow_right (by omega) hi
  have hp0 := Nat.two_pow_pos i
  have hbm : b * 2 ^ i ≤ 1 * 2 ^ i := Nat.mul_le_mul_right _ hb
  have hd := Nat.div_add_mod x (2 ^ i)
  have ml : x % 2 ^ i < 2 ^ i := Nat.mod_lt _ hp0
  have hq2 : x / 2 ^ i * 2 ^ (i + 1) = 2 * (2 ^ i * (x / 2 ^ i)) := by rw [Nat.pow_succ, Nat.mul_comm (x / 2 ^ i), Nat.mul_comm (2 ^ i) 2, Nat.mul_assoc]
  have e : ((2 : Int) ^ i) = ((2 ^ i : Nat) : Int) := by push_cast; rfl
  have e2 : wrap64 ((b : Int) * (2 : Int) ^ min ((i : Int).toNat) 64) = ((b * 2 ^ i : Nat) : Int) := by
    rw [Int.toNat_natCast, Nat.min_eq_left (by omega), e, ← Int.natCast_mul]
    generalize b * 2 ^ i = y at *
    generalize 2 ^ i = z at *
    exact w64 (by omega) (by omega)
  unfold impl_Table_restrict.spread ins
  rw [impl_Table_restrict_low_eq hx hi, e2, hq2]
  generalize b * 2 ^ i = y at *
  generalize 2 ^ i * (x / 2 ^ i) = q at *
  generalize x % 2 ^ i = m at *
  generalize 2 ^ i = z at *
  have e1 : wrap64 (wrap64 ((x : Int) - (m : Int)) * 2) = ((2 * q : Nat) : Int) := by
    rw [show (x : Int) - (m : Int) = (q : Int) by omega, w64 (x := (q : Int)) (by omega) (by omega), w64 (x := (q : Int) * 2) (by omega) (by omega)]
    omega
  have ho : (2 * q ||| y) < 2 ^ 7 := Nat.or_lt_two_pow (by omega) (by omega)
  rw [e1, borN (by omega) (by omega), borN (by omega) (by omega)]
theorem impl_Table_restrict_eq {n w i b : Nat} (t : Tab n w) (hi : i < n) (hb : b ≤ 1) : impl_Table_restrict.f n w i b = some (((n - 1 : Nat) : Int), ((resW n w i b : Nat) : Int)) := by
  have hn := t.hn
  have hs : 2 ^ (n - 1) ≤ 32 := Nat.le_trans (Nat.pow_le_pow_right (by omega) (show n - 1 ≤ 5 by omega)) (by decide)
  have e : wrap64 ((n : Int) - 1) = ((n - 1 : Nat) : Int) := by rw [w64 (by omega) (by omega)]; omega
  have hall : ((List.range (2 ^ (n - 1))).all fun x => decide (0 ≤ impl_Table_restrict.spread (x : Int) i b)) = true := by
    rw [List.all_eq_true]
    intro x hx
    have := List.mem_range.mp hx
    exact decide_eq_true (by rw [impl_Table_restrict_spread_eq (by omega) (by omega) hb]; exact Int.natCast_nonneg _)
  have hon : wordN (impl_Table_restrict.on n w i b) (2 ^ (n - 1)) = resW n w i b := by
    unfold resW
    refine wordN_congr fun x hx => ?_
    unfold impl_Table_restrict.on
    rw [impl_Table_restrict_spread_eq (by omega) (by omega) hb, impl_Table_at_eq t, Option.getD_some]
    cases w.testBit (ins x i b) <;> rfl
  unfold impl_Table_restrict.f
  rw [e, Int.toNat_natCast, if_pos ⟨⟨by omega, by omega⟩, by omega, hall⟩, impl_makeTable_word_eq _ _ hs, hon]

def dep (n w i : Nat) : Bool := resW n w i 0 != resW n w i 1
theorem cast_bne (a b : Nat) : ((a : Int) != (b : Int)) = (a != b) := by
  rw [Bool.eq_iff_iff, bne_iff_ne, bne_iff_ne]
  omega
theorem impl_Table_depends_eq {n w i : Nat} (t : Tab n w) (hi : i < n) : impl_Table_depends.f n w i = some (dep n w i) := by
  have h0 : impl_Table_restrict.f n w i 0 = some (((n - 1 : Nat) : Int), ((resW n w i 0 : Nat) : Int)) := impl_Table_restrict_eq (b := 0) t hi (by omega)
  have h1 : impl_Table_restrict.f n w i 1 = some (((n - 1 : Nat) : Int), ((resW n w i 1 : Nat) : Int)) := impl_Table_restrict_eq (b := 1) t hi (by omega)
  unfold impl_Table_depends.f dep
  rw [h0, Option.bind_some, h1, Option.bind_some]
  congr 1
  have e := cast_bne (resW n w i 0) (resW n w i 1)
  rw [← e]
  simp [bne]
theorem wordN_bit (g : Nat → Bool) : ∀ N x, (wordN g N).testBit x = (decide (x < N) && g x) := by
  intro N
  induction N with
  | zero => intro x; simp [wordN]
  | succ N ih =>
    intro x
    simp only [wordN]
    by_cases hg : g N = true
    · rw [if_pos hg, Nat.testBit_or, ih, Nat.testBit_two_pow]
      by_cases e : N = x
      · subst e
        simp [hg]
      · simp only [e, decide_false, Bool.or_false]
        congr 1
        exact decide_eq_decide.mpr (by omega)
    · rw [if_neg hg, ih]
      by_cases e : x = N
      · subst e
        simp [hg]
      · congr 1
        exact decide_eq_decide.mpr (by omega)
theorem ins_facts0 : ((List.range 6).all fun n => (List.range n).all fun i => (List.range (2 ^ (n - 1))).all fun x => decide (ins x i 0 < 2 ^ n) && decide (ins x i 1 = ins x i 0 ^^^ 2 ^ i)) = true := by decide +kernel
theorem ins_onto0 : ((List.range 6).all fun n => (List.range n).all fun i => (List.range (2 ^ n)).all fun y => (List.range (2 ^ (n - 1))).any fun x => decide (ins x i 0 = y) || decide (ins x i 1 = y)) = true := by decide +kernel
theorem ins_facts {n i x : Nat} (hn : n ≤ 5) (hi : i < n) (hx : x < 2 ^ (n - 1)) : ins x i 0 < 2 ^ n ∧ ins x i 1 = ins x i 0 ^^^ 2 ^ i := by
  have h := List.all_eq_true.mp (List.all_eq_true.mp (List.all_eq_true.mp ins_facts0 n (List.mem_range.2 (by omega))) i (List.mem_range.2 hi)) x (List.mem_range.2 hx)
  rw [Bool.and_eq_true, decide_eq_true_eq, decide_eq_true_eq] at h
  exact h
theorem ins_onto {n i y : Nat} (hn : n ≤ 5) (hi : i < n) (hy : y < 2 ^ n) : ∃ x, x < 2 ^ (n - 1) ∧ (ins x i 0 = y ∨ ins x i 1 = y) := by
  have h := List.all_eq_true.mp (List.all_eq_true.mp (List.all_eq_true.mp ins_onto0 n (List.mem_range.2 (by omega))) i (List.mem_range.2 hi)) y (List.mem_range.2 hy)
  rw [List.any_eq_true] at h
  obtain ⟨x, hx, h⟩ := h
  rw [Bool.or_eq_true, decide_eq_true_eq, decide_eq_true_eq] at h
  exact ⟨x, List.mem_range.1 hx, h⟩
theorem infl_pos {n w i : Nat} : infl n w i > 0 ↔ ∃ y, y < 2 ^ n ∧ chg w y (2 ^ i) = true := by
  unfold infl
  constructor
  · intro h
    apply Classical.byContradiction
    intro hne
    have : sumI (2 ^ n) (fun x => b2i (chg w x (2 ^ i))) = sumI (2 ^ n) fun _ => 0 := sumI_congr fun x hx => by
      cases hc : chg w x (2 ^ i)
      · rfl
      · exact absurd ⟨x, hx, hc⟩ hne
    rw [this, sumI_zero] at h
    omega
  · rintro ⟨y, hy, hc⟩
    have := sumI_le (n := 2 ^ n) (f := fun x => if x = y then 1 else 0) (g := fun x => b2i (chg w x (2 ^ i))) fun x _ => by
      by_cases e : x = y
      · subst e
        rw [if_pos rfl, hc]
        decide
      · rw [if_neg e]
        exact (b2i_range _).1
    rw [sumI_one hy] at this
    omega
theorem dep_iff {n w i : Nat} (hn : n ≤ 5) (hi : i < n) : dep n w i = decide (∃ y, y < 2 ^ n ∧ chg w y (2 ^ i) = true) := by
  unfold dep resW
  rw [Bool.eq_iff_iff, bne_iff_ne, decide_eq_true_iff]
  constructor
  · intro h
    apply Classical.byContradiction
    intro hne
    apply h
    refine wordN_congr fun x hx => ?_
    obtain ⟨h1, h2⟩ := ins_facts hn hi hx
    rw [h2]
    apply Classical.byContradiction
    intro hd
    refine hne ⟨ins x i 0, h1, ?_⟩
    unfold chg
    rw [bne_iff_ne]
    exact hd
  · rintro ⟨y, hy, hc⟩ e
    obtain ⟨x, hx, h⟩ := ins_onto hn hi hy
    obtain ⟨_, h2⟩ := ins_facts hn hi hx
    have hb : w.testBit (ins x i 0) = w.testBit (ins x i 1) := by
      have h0 := wordN_bit (fun x => w.testBit (ins x i 0)) (2 ^ (n - 1)) x
      have h1 := wordN_bit (fun x => w.testBit (ins x i 1)) (2 ^ (n - 1)) x
      rw [e, h1] at h0
      rw [decide_eq_true hx, Bool.true_and, Bool.true_and] at h0
      exact h0.symm
    unfold chg at hc
    rw [bne_iff_ne] at hc
    rcases h with h | h
    · subst h
      rw [← h2] at hc
      exact hc hb
    · subst h
      rw [h2, Nat.xor_assoc, Nat.xor_self, Nat.xor_zero] at hc
      rw [← h2] at hc
      exact hc hb.symm

theorem ev_bd {A R : Type} {g : Nat → Option A} {a : A} {F : Nat → A → Option R} {r : R} (h : Ev g a) (hF : Ev (fun k => F k a) r) : Ev (fun k => (g k).bind (F k)) r := ev1 h (fun k hk => by rw [hk]; rfl) hF
theorem ev_if {R : Type} {c : Prop} [Decidable c] {f g : Nat → Option R} {r : R} (hc : c) (h : Ev f r) : Ev (fun k => if c then f k else g k) r := by simp only [if_pos hc]; exact h
theorem ev_ifn {R : Type} {c : Prop} [Decidable c] {f g : Nat → Option R} {r : R} (hc : ¬ c) (h : Ev g r) : Ev (fun k => if c then f k else g k) r := by simp only [if_neg hc]; exact h
theorem laws_sameInts_ev (l : List Int) (h : l.length ≤ 1048576) : Ev (fun k => laws_sameInts.f k l l) true := by
  unfold laws_sameInts.f
  simp only [if_true]
  refine ev_for (fun k i => laws_sameInts.l0 k l l (i : Int)) l.length ?_ ?_
  · intro i hi hh
    refine Ev.step (fun k => ?_) hh
    simp only [laws_sameInts.l0]
    rw [if_pos (by omega), if_pos (by omega), if_pos (by omega), if_pos trivial, w64 (by omega) (by omega)]
    rfl
  · refine ev0 fun k => ?_
    simp only [laws_sameInts.l0]
    rw [if_neg (by omega)]
theorem sumI_part {N M : Nat} {F : Nat → Int} (h : ∀ i, i < N → 0 ≤ F i ∧ F i ≤ M) {i : Nat} (hi : i ≤ N) : 0 ≤ sumI i F ∧ sumI i F ≤ i * M := by
  have := sumI_bound (n := i) (f := F) (a := 0) (b := M) fun j hj => h j (by omega)
  omega
theorem laws_total_ev {N : Nat} (F : Nat → Int) (hN : N ≤ 64) (h : ∀ i, i < N → 0 ≤ F i ∧ F i ≤ 100000) : Ev (fun k => laws_total.f k (tab N F)) (sumI N F) := by
  unfold laws_total.f
  refine ev_for (fun k i => laws_total.l0 k (tab N F) (sumI i F) (i : Int)) N ?_ ?_
  · intro i hi hh
    refine Ev.step (fun k => ?_) hh
    have h1 := sumI_part (M := 100000) h (show i ≤ N by omega)
    have h2 := h i hi
    have h3 : ((i : Nat) : Int) * ((100000 : Nat) : Int) ≤ 6400000 := by omega
    simp only [laws_total.l0]
    rw [tab_len, if_pos (by omega), if_pos (by omega), tab_rd _ hi, w64 (x := (i : Int) + 1) (by omega) (by omega), w64 (by omega) (by omega)]
    rfl
  · refine ev0 fun k => ?_
    simp only [laws_total.l0]
    rw [tab_len, if_neg (by omega)]
theorem variance_range {n w : Nat} (t : Tab n w) : 0 ≤ ((pc w : Nat) : Int) * (((2 ^ n : Nat) : Int) - ((pc w : Nat) : Int)) ∧ ((pc w : Nat) : Int) * (((2 ^ n : Nat) : Int) - ((pc w : Nat) : Int)) ≤ 1024 := by
  have hs := t.size
  have hp := pc_le_n (n := 2 ^ n) (by omega) t.hw
  have h2 : ((pc w : Nat) : Int) * (((2 ^ n : Nat) : Int) - ((pc w : Nat) : Int)) ≤ 32 * 32 := Int.mul_le_mul (by omega) (by omega) (by omega) (by omega)
  exact ⟨Int.mul_nonneg (by omega) (by omega), by omega⟩
theorem impl_VarianceOf_raw {n w : Nat} (t : Tab n w) : impl_VarianceOf.f n w = some (wrap64 (((pc w : Nat) : Int) * wrap64 (((2 ^ n : Nat) : Int) - ((pc w : Nat) : Int)))) := by
  have h1 := t.w32
  have hn := t.hn
  unfold impl_VarianceOf.f
  rw [impl_IsTable_eq, isTab_mk t, Option.bind_some, if_pos rfl, impl_ones_eq h1, impl_Table_size_eq (by omega), Option.bind_some, Option.bind_some]
  rfl
theorem impl_VarianceOf_eq {n w : Nat} (t : Tab n w) : impl_VarianceOf.f n w = some (((pc w : Nat) : Int) * (((2 ^ n : Nat) : Int) - ((pc w : Nat) : Int))) := by
  have hm := variance_range t
  have hs := t.size
  have hp := pc_le_n (n := 2 ^ n) (by omega) t.hw
  rw [impl_VarianceOf_raw t, w64 (x := ((2 ^ n : Nat) : Int) - ((pc w : Nat) : Int)) (by omega) (by omega), w64 (by omega) (by omega)]
theorem impl_InfluenceOf_ev {n w : Nat} (t : Tab n w) {i : Nat} (hi : i < n) : Ev (fun k => impl_InfluenceOf.f k n w i) (infl n w i) := by
  have hn := t.hn
  unfold impl_InfluenceOf.f
  simp only [impl_hasVariable_eq, Option.bind_some, isTab_mk t, decide_eq_true (show (0 : Int) ≤ (i : Int) ∧ (i : Int) < (n : Int) by omega), Bool.true_and, if_true]
  exact ev1' (impl_Table_influence_ev t (i := i) (by omega)) fun k hk => by rw [hk]; rfl
theorem impl_DependsOn_eq {n w : Nat} (t : Tab n w) {i : Nat} (hi : i < n) : impl_DependsOn.f n w i = some (dep n w i) := by
  have hn := t.hn
  unfold impl_DependsOn.f
  simp only [impl_hasVariable_eq, Option.bind_some, isTab_mk t, decide_eq_true (show (0 : Int) ≤ (i : Int) ∧ (i : Int) < (n : Int) by omega), Bool.true_and, if_true]
  rw [impl_Table_depends_eq t hi]
  rfl
theorem spec_DrawTotalInfluence_ok {l : List Int} (hl : l.length ≤ 4611686018427387904) : ∃ r, Ev (fun k => spec_DrawTotalInfluence.f k l) r ∧ True := by
  unfold spec_DrawTotalInfluence.f
  exact new_any hl fun h d _ => ⟨_, Ev.now _, trivial⟩
theorem spec_DrawMostInfluential_ok {l : List Int} (hl : l.length ≤ 4611686018427387904) : ∃ r, Ev (fun k => spec_DrawMostInfluential.f k l) r ∧ True := by
  unfold spec_DrawMostInfluential.f
  exact new_any hl fun h d _ => ⟨_, Ev.now _, trivial⟩
theorem spec_DrawVarianceOf_ok {l : List Int} (hl : l.length ≤ 4611686018427387904) : ∃ r, Ev (fun k => spec_DrawVarianceOf.f k l) r ∧ True := by
  unfold spec_DrawVarianceOf.f
  exact new_any hl fun h d _ => ⟨_, Ev.now _, trivial⟩
theorem spec_DrawInfluenceOf_ok {l : List Int} (hl : l.length ≤ 4611686018427387904) : ∃ r, Ev (fun k => spec_DrawInfluenceOf.f k l) r ∧ True := by
  unfold spec_DrawInfluenceOf.f
  refine evx_bind (P := fun _ => True) ?_ fun d _ => ⟨_, Ev.now _, trivial⟩
  unfold spec_l3Var.f
  exact new_any hl fun h d hd => evx_bind (spec_l1Below_ok hd (by omega)) fun b _ => ⟨_, Ev.now _, trivial⟩
theorem FnInfluences_tail {l0 : List Int} (hl : l0.length ≤ 4611686018427387904) : Ev (fun k => ((spec_DrawInfluenceOf.f k l0).bind fun bt883 => ((spec_DrawMostInfluential.f k l0).bind fun bt887 => ((spec_DrawVarianceOf.f k l0).bind fun bt890 => ((impl_InfluenceOf.f k bt883.1 bt883.2.1 bt883.2.2).bind fun t893 => ((spec_InfluenceOf.f k bt883.1 bt883.2.1 bt883.2.2).bind fun t894 => (if t893 = t894 then ((impl_MostInfluential.f k bt887.1 bt887.2).bind fun t895 => ((spec_MostInfluential.f k bt887.1 bt887.2).bind fun t896 => (if t895 = t896 then ((impl_VarianceOf.f bt890.1 bt890.2).bind fun t897 => ((spec_VarianceOf.f k bt890.1 bt890.2).bind fun t898 => (some (t897 == t898)))) else (none)))) else (none)))))))) true := by
  obtain ⟨⟨b1, W1, i1⟩, hd1, _⟩ := spec_DrawInfluenceOf_ok hl
  obtain ⟨⟨b2, W2⟩, hd2, _⟩ := spec_DrawMostInfluential_ok hl
  obtain ⟨⟨b3, W3⟩, hd3, _⟩ := spec_DrawVarianceOf_ok hl
  obtain ⟨r1, s1, m1⟩ := InfluenceOf_key b1 W1 i1
  obtain ⟨r2, s2, m2⟩ := MostInfluential_key b2 W2
  obtain ⟨r3, s3, m3⟩ := VarianceOf_key b3 W3
  refine ev_bd hd1 (ev_bd hd2 (ev_bd hd3 (ev_bd m1 (ev_bd s1 (ev_if rfl (ev_bd m2 (ev_bd s2 (ev_if rfl (ev_bd (ev_const m3) (ev_bd s3 ?_))))))))))
  rw [beq_self_eq_true]
  exact Ev.now _
theorem FnInfluences_l1 {l0 : List Int} (hl : l0.length ≤ 4611686018427387904) {n w : Nat} (t : Tab n w) : Ev (fun k => laws_FnInfluences.l1 k l0 (sumI n (infl n w)) (tab (n + 1) (enrD n w)) (tab (n + 1) (pairsD n w)) (sumI n (infl n w)) 0 0 n w) true := by
  have hn := t.hn
  have hs := t.size
  have hT := infls_range hn w n
  have hT2 : 0 ≤ sumI n (infl n w) ∧ sumI n (infl n w) ≤ 160 := by omega
  have henr : ∀ k, 0 ≤ enrD n w k ∧ enrD n w k ≤ 32768 := fun k => enr_range hn w (j := 2 ^ n) (by omega) k
  have hE := energy (n := n) (by omega) w
  have hsh : shl .i64 (sumI n (infl n w)) (n : Int) = ((2 ^ n : Nat) : Int) * sumI n (infl n w) := by
    obtain ⟨T, hT3⟩ := Int.eq_ofNat_of_zero_le hT2.1
    rw [hT3] at hT2 ⊢
    have hb : T * 2 ^ n ≤ 160 * 32 := Nat.mul_le_mul (by omega) hs
    rw [shlN (by omega), Int.natCast_mul, Int.mul_comm]
  refine ev_for (fun k j => laws_FnInfluences.l1 k l0 (sumI n (infl n w)) (tab (n + 1) (enrD n w)) (tab (n + 1) (pairsD n w)) (sumI n (infl n w)) (sumI j (fun k => (k : Int) * enrD n w k)) (j : Int) n w) (n + 1) ?_ ?_
  · intro j hj h
    have h1 := henr j
    have h2 : 0 ≤ (j : Int) * enrD n w j ∧ (j : Int) * enrD n w j ≤ 6 * 32768 := ⟨Int.mul_nonneg (by omega) h1.1, Int.mul_le_mul (by omega) h1.2 h1.1 (by omega)⟩
    have h3 := sumI_bound (n := j) (f := fun k => (k : Int) * enrD n w k) (a := 0) (b := 6 * 32768) fun i hi => by
      have := henr i
      exact ⟨Int.mul_nonneg (by omega) this.1, Int.mul_le_mul (by omega) this.2 this.1 (by omega)⟩
    have h4 : (j : Int) * (6 * 32768) ≤ 6 * (6 * 32768) := Int.mul_le_mul_of_nonneg_right (by omega) (by omega)
    refine Ev.step (fun k => ?_) h
    simp only [laws_FnInfluences.l1]
    rw [tab_len, if_pos (by omega), if_pos (by omega), tab_rd _ hj, w64 (x := (j : Int) * enrD n w j) (by omega) (by omega), w64 (x := (j : Int) + 1) (by omega) (by omega), w64 (by omega) (by omega)]
    rfl
  · rw [hE]
    have hv := impl_VarianceOf_eq t
    have hp := pairs_all hn t.hw
    have hpo := pairs_one hn w
    have hpc := poincare hn t.hw
    have hpb : ∀ i, i < n + 1 → 0 ≤ pairsD n w i ∧ pairsD n w i ≤ 100000 := fun i _ => by
      have := pairs2_range (w := w) (x := 2 ^ n) (y := 0) (k := i) (by omega) (by omega)
      rw [pairs2_end] at this
      omega
    have hp1 := hpb
    have htot := laws_total_ev (pairsD n w) (show n + 1 ≤ 64 by omega) hpb
    rw [hp] at htot
    have hvb : 0 ≤ ((pc w : Nat) : Int) * (((2 ^ n : Nat) : Int) - ((pc w : Nat) : Int)) ∧ ((pc w : Nat) : Int) * (((2 ^ n : Nat) : Int) - ((pc w : Nat) : Int)) ≤ 32 * 32 := by
      have hpcn := pc_le_n (n := 2 ^ n) (by omega) t.hw
      exact ⟨Int.mul_nonneg (by omega) (by omega), Int.mul_le_mul (by omega) (by omega) (by omega) (by omega)⟩
    refine Ev.step (fun k => laws_FnInfluences.l1.eq_2 ..) ?_
    refine ev_ifn (by rw [tab_len]; omega) ?_
    refine ev_if rfl (ev_if (by omega) (ev_if hsh.symm (ev_bd htot (ev_bd (ev_const hv) (ev_if rfl ?_)))))
    have hlast : ¬ wrap64 (4 * (((pc w : Nat) : Int) * (((2 ^ n : Nat) : Int) - ((pc w : Nat) : Int)))) > shl .i64 (sumI n (infl n w)) (n : Int) := by
      rw [hsh, w64 (by omega) (by omega)]
      omega
    by_cases h0 : 0 < n
    · have h1 : wrap64 (2 * rd (tab (n + 1) (pairsD n w)) 1) = sumI n (infl n w) := by
        have hr : rd (tab (n + 1) (pairsD n w)) 1 = pairsD n w 1 := tab_rd (i := 1) _ (by omega)
        have := hp1 1 (by omega)
        rw [hr, w64 (by omega) (by omega)]
        exact hpo
      refine ev_if (by omega) (ev_if (by rw [tab_len]; omega) (ev_if h1 (ev_bd (ev_const hv) (ev_ifn hlast ?_))))
      exact FnInfluences_tail hl
    · refine ev_ifn (by omega) (ev_bd (ev_const hv) (ev_ifn hlast ?_))
      exact FnInfluences_tail hl
theorem infl_dep {n w i : Nat} (hn : n ≤ 5) (hi : i < n) : decide (infl n w i > 0) = dep n w i := by
  have hpos := infl_pos (n := n) (w := w) (i := i)
  rw [dep_iff hn hi]
  exact decide_eq_decide.mpr hpos
theorem FnInfluences_l0 {l0 : List Int} (hl : l0.length ≤ 4611686018427387904) {n w : Nat} (t : Tab n w) : Ev (fun k => laws_FnInfluences.l0 k l0 (sumI n (infl n w)) (tab (n + 1) (enrD n w)) (tab (n + 1) (pairsD n w)) 0 0 0 n w) true := by
  have hn := t.hn
  have hs := t.size
  refine ev_for (fun k i => laws_FnInfluences.l0 k l0 (sumI n (infl n w)) (tab (n + 1) (enrD n w)) (tab (n + 1) (pairsD n w)) (sumI i (infl n w)) 0 (i : Int) n w) n ?_ ?_
  · intro i hi h
    have h1 := infls_range hn w i
    have h2 := infl_range n w i
    have hm := mi_range n w n
    obtain ⟨j, hj⟩ := Int.eq_ofNat_of_zero_le (hm.2.2 (by omega))
    have hmax := mi_max n w n i hi
    have hinf := impl_InfluenceOf_ev t (i := j) (by omega)
    have hmi := impl_MostInfluential_ev t
    rw [hj] at hmi hmax
    rw [Int.toNat_natCast] at hmax
    refine Ev.step (fun k => laws_FnInfluences.l0.eq_2 ..) ?_
    refine ev_if (by omega) (ev_bd (impl_InfluenceOf_ev t hi) (ev_bd (ev_const (impl_DependsOn_eq t hi)) (ev_ifn ?_ (ev_bd hmi (ev_bd hinf (ev_ifn (by omega) ?_))))))
    · rw [infl_dep hn hi, bne_self_eq_false]
      decide
    · rw [w64 (x := (i : Int) + 1) (by omega) (by omega), w64 (by omega) (by omega)]
      exact h
  · refine Ev.step (fun k => laws_FnInfluences.l0.eq_2 ..) ?_
    exact ev_ifn (by omega) (FnInfluences_l1 hl t)
theorem FnInfluences (l0 : List Int) (hm : l0.length ≤ maxLen) (hr : l0.length * 1 ≤ 140737488351232) (hw : ∀ x ∈ l0, (Lit.int .u8 x).wf = true) : ∃ k, laws_FnInfluences.f k l0 = some true := by
  have hl : l0.length ≤ 4611686018427387904 := by omega
  refine Ev.rounds ?_
  unfold laws_FnInfluences.f laws_big.f
  simp only [Option.bind_some]
  by_cases hb : decide ((l0.length : Int) > 1048576) = true
  · exact ev_if hb (Ev.now _)
  refine ev_ifn hb ?_
  obtain ⟨⟨b, W⟩, hd, _⟩ := spec_DrawTotalInfluence_ok hl
  refine ev_bd hd ?_
  obtain ⟨rv, sv, mv⟩ := VarianceOf_key b W
  obtain ⟨rm, sm, mm⟩ := MostInfluential_key b W
  by_cases h : isTab b W = true
  · obtain ⟨n, w, rfl, rfl, t⟩ := isTab_yes h
    have hn := t.hn
    have hT := infls_range hn w n
    refine ev_bd (impl_TotalInfluence_ev t) (ev_bd (impl_EnergyByLevel_ev t) (ev_bd (impl_PairsAtDistance_ev t) (ev_bd (spec_TotalInfluence_ev t) (ev_if rfl (ev_bd (spec_EnergyByLevel_ev t) (ev_bd (laws_sameInts_ev _ (by rw [tab_len]; omega)) (ev_if rfl (ev_bd (spec_PairsAtDistance_ev t) (ev_bd (laws_sameInts_ev _ (by rw [tab_len]; omega)) (ev_if rfl ?_))))))))))
    refine ev_bd (ev_const mv) (ev_bd sv (ev_if rfl (ev_bd mm (ev_bd sm (ev_if rfl (ev_if (by omega) ?_))))))
    exact FnInfluences_l0 hl t
  · have hiT : Ev (fun k => impl_TotalInfluence.f k b W) (-1) := by
      unfold impl_TotalInfluence.f
      simp only [impl_IsTable_eq, Option.bind_some, if_neg h]
      exact Ev.now _
    have hsT : Ev (fun k => spec_TotalInfluence.f k b W) (-1) := by
      unfold spec_TotalInfluence.f
      simp only [spec_IsTable_eq, Option.bind_some, if_neg h]
      exact Ev.now _
    refine ev_bd hiT (ev_bd (impl_EnergyByLevel_no h) (ev_bd (impl_PairsAtDistance_no h) (ev_bd hsT (ev_if rfl (ev_bd (spec_EnergyByLevel_no h) (ev_bd (laws_sameInts_ev _ (by decide)) (ev_if rfl (ev_bd (spec_PairsAtDistance_no h) (ev_bd (laws_sameInts_ev _ (by decide)) (ev_if rfl ?_))))))))))
    refine ev_bd (ev_const mv) (ev_bd sv (ev_if rfl (ev_bd mm (ev_bd sm (ev_if rfl (ev_ifn (by omega) ?_))))))
    exact FnInfluences_tail hl

end Go.Proofs.Ytplnffhjpmnifaa.Pure
