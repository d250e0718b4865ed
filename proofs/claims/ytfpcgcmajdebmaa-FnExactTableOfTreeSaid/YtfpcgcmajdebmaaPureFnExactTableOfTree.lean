/- What the law FnExactTableOfTree comes to, over numbers and lists alone: at every input both sides tell the same. No conditions but the kinds of the numbers. -/
import Derived.Test.YtfpcgcmajdebmaaMath
import Derived.Test.YtfpcgcmajdebmaaWrd
import Derived.Test.YtfpcgcmajdebmaaPx1
import Derived.Test.YtfpcgcmajdebmaaPx10
import Derived.Test.YtfpcgcmajdebmaaPx11
import Derived.Test.YtfpcgcmajdebmaaPx2
import Derived.Test.YtfpcgcmajdebmaaPx3
import Derived.Test.YtfpcgcmajdebmaaPx4
import Derived.Test.YtfpcgcmajdebmaaPx5
import Derived.Test.YtfpcgcmajdebmaaPx6
import Derived.Test.YtfpcgcmajdebmaaPx7
import Derived.Test.YtfpcgcmajdebmaaPx8
import Derived.Test.YtfpcgcmajdebmaaPx9
namespace Go.Proofs.Ytfpcgcmajdebmaa.Pure
open Go.RowKit Go.Proofs.Ytfpcgcmajdebmaa.P Go.Proofs.YtfpcgcmajdebmaaW.PrintWords Go.Proofs.YtfpcgcmajdebmaaW.PrintLast Go.Proofs.YtfpcgcmajdebmaaW.PrintMore Go.Proofs.YtfpcgcmajdebmaaMath
set_option linter.unusedVariables false
set_option linter.unusedSimpArgs false

theorem spec_l1In_eq (a b c : Int) : spec_l1In.f a b c = some (decide (b ≤ a ∧ a ≤ c)) := by
  unfold spec_l1In.f
  by_cases h : b ≤ a
  · rw [if_pos h]; simp [h]
  · rw [if_neg h]; simp [h]

/-- How many letters are free. -/
def tfr (m : Nat) : Nat := ((List.range 5).filter fun i => !m.testBit i).length
theorem tfr_step : ∀ m, m < 32 → ∀ i, i < 5 → m.testBit i = false → tfr (m ||| 2 ^ i) + 1 = tfr m ∧ m ||| 2 ^ i < 32 := by decide
/-- Reading a tree: from place p on, with the letters of m asked already. -/
def rdT (s : ByteArray) : Nat → Nat → Nat → Option (impl_readTree.T × Nat)
  | 0, _, _ => none
  | d + 1, p, m => if s.size ≤ p then none else if bt s p = 48 ∨ bt s p = 49 then some (.leaf (bt s p), p + 1) else
      if 97 ≤ bt s p ∧ bt s p < 102 ∧ m.testBit (bt s p - 97).toNat = false then
        (rdT s d (p + 1) (m ||| 2 ^ (bt s p - 97).toNat)).bind fun x => (rdT s d x.2 (m ||| 2 ^ (bt s p - 97).toNat)).bind fun y => some (.node (bt s p) x.1 y.1, y.2)
      else none
theorem rdT_le {s : ByteArray} : ∀ {d p m : Nat} {t : impl_readTree.T} {q : Nat}, rdT s d p m = some (t, q) → p < q ∧ q ≤ s.size
  | 0, p, m, t, q, h => by simp [rdT] at h
  | d + 1, p, m, t, q, h => by
    rw [rdT] at h
    by_cases h0 : s.size ≤ p
    · rw [if_pos h0] at h; simp at h
    · rw [if_neg h0] at h
      by_cases h1 : bt s p = 48 ∨ bt s p = 49
      · rw [if_pos h1] at h
        have h2 := (Prod.mk.inj (Option.some.inj h)).2
        omega
      · rw [if_neg h1] at h
        by_cases h2 : 97 ≤ bt s p ∧ bt s p < 102 ∧ m.testBit (bt s p - 97).toNat = false
        · rw [if_pos h2] at h
          obtain ⟨⟨l, ql⟩, hl, h⟩ := Option.bind_eq_some_iff.mp h
          obtain ⟨⟨r, qr⟩, hr, h⟩ := Option.bind_eq_some_iff.mp h
          have h3 := (Prod.mk.inj (Option.some.inj h)).2
          have := rdT_le hl
          have := rdT_le hr
          dsimp only at *
          omega
        · rw [if_neg h2] at h; simp at h
theorem rdT_small {s : ByteArray} : ∀ {d p m : Nat} {t : impl_readTree.T} {q : Nat}, m < 32 → rdT s d p m = some (t, q) → q + 1 ≤ p + 2 ^ (tfr m + 1)
  | 0, p, m, t, q, hm, h => by simp [rdT] at h
  | d + 1, p, m, t, q, hm, h => by
    rw [rdT] at h
    have hp : 2 ≤ 2 ^ (tfr m + 1) := by have := Nat.pow_le_pow_right (show 0 < 2 by omega) (show 1 ≤ tfr m + 1 by omega); omega
    by_cases h0 : s.size ≤ p
    · rw [if_pos h0] at h; simp at h
    · rw [if_neg h0] at h
      by_cases h1 : bt s p = 48 ∨ bt s p = 49
      · rw [if_pos h1] at h
        have h2 := (Prod.mk.inj (Option.some.inj h)).2
        omega
      · rw [if_neg h1] at h
        by_cases h2 : 97 ≤ bt s p ∧ bt s p < 102 ∧ m.testBit (bt s p - 97).toNat = false
        · rw [if_pos h2] at h
          obtain ⟨⟨l, ql⟩, hl, h⟩ := Option.bind_eq_some_iff.mp h
          obtain ⟨⟨r, qr⟩, hr, h⟩ := Option.bind_eq_some_iff.mp h
          have h3 := (Prod.mk.inj (Option.some.inj h)).2
          have hs := tfr_step m hm _ (show (bt s p - 97).toNat < 5 by omega) h2.2.2
          have h4 := rdT_small hs.2 hl
          have h5 := rdT_small hs.2 hr
          rw [hs.1] at h4 h5
          have : 2 ^ (tfr m + 1) = 2 ^ tfr m + 2 ^ tfr m := by rw [Nat.pow_succ]; omega
          dsimp only at *
          omega
        · rw [if_neg h2] at h; simp at h
theorem bt_ext {s : ByteArray} {p : Nat} (h : p < s.size) : bt (s.extract p s.size) 0 = bt s p := by
  have h0 : (0 : Int).toNat < (s.extract p s.size).size := by rw [ByteArray.size_extract]; simp; omega
  have h1 : (p : Int).toNat < s.size := by omega
  rw [← bt_at _ 0 h0, ← bt_at s p h1, ByteArray.getElem_extract]
  simp
theorem ext_ext {s : ByteArray} {p : Nat} (h : p < s.size) : (s.extract p s.size).extract 1 (s.extract p s.size).size = s.extract (p + 1) s.size := by
  rw [ByteArray.extract_extract, ByteArray.size_extract]
  congr 1
  omega
theorem letter_eq (c : Int) : impl_isLetter.f c = some (decide (97 ≤ c ∧ c < 102)) := by
  unfold impl_isLetter.f
  by_cases h : c ≥ 97
  · rw [if_pos h]; simp [show 97 ≤ c from h]
  · rw [if_neg h]; simp [show ¬ 97 ≤ c from h]
theorem ask1 {m : Nat} (hm : m < 32) (i : Nat) : Go.bits .and .i64 (shr .i64 (m : Int) (i : Int)) 1 = b2i (m.testBit i) := at1 (by omega)
theorem set1 {m i : Nat} (hm : m < 32) (hi : i < 5) : Go.bits .or .i64 (m : Int) (shl .i64 1 (i : Int)) = ((m ||| 2 ^ i : Nat) : Int) := by
  rw [shl1 (by omega)]
  exact borN (by omega) (by have := Nat.pow_le_pow_right (show 0 < 2 by omega) (show i ≤ 4 by omega); omega)
theorem lettN {c : Int} (h : 97 ≤ c ∧ c < 102) : (c - 97) % 256 = (((c - 97).toNat : Nat) : Int) ∧ (c - 97).toNat < 5 := by omega
theorem readTree_rd (s : ByteArray) : ∀ d p m : Nat, m < 32 → tfr m < d → p ≤ s.size → impl_readTree.f d (s.extract p s.size) (m : Int) = some (match rdT s d p m with
    | none => (none, ⟨#[]⟩)
    | some x => (some x.1, s.extract x.2 s.size))
  | 0, p, m, hm, hd, hp => absurd hd (by omega)
  | d + 1, p, m, hm, hd, hp => by
    rw [impl_readTree.f, rdT]
    have hsz : (s.extract p s.size).size = s.size - p := by rw [ByteArray.size_extract]; omega
    by_cases h0 : s.size ≤ p
    · rw [if_pos (by omega), if_pos h0]
    · rw [if_neg (by omega), if_neg h0, bt_ext (by omega), ext_ext (by omega)]
      by_cases h1 : bt s p = 48 ∨ bt s p = 49
      · rw [if_pos h1, if_pos h1]
      · rw [if_neg h1, if_neg h1, letter_eq, Option.bind_some]
        by_cases h2 : 97 ≤ bt s p ∧ bt s p < 102
        · have hL := lettN h2
          rw [decide_eq_true h2, if_neg (by decide), hL.1, ask1 hm, set1 hm hL.2]
          by_cases h3 : m.testBit (bt s p - 97).toNat = true
          · rw [h3, if_pos (show b2i true = 1 by rfl), if_neg (fun h => by have := h.2.2; cases this)]
          · rw [Bool.not_eq_true] at h3
            have hs := tfr_step m hm _ hL.2 h3
            rw [h3, if_neg (show ¬ b2i false = 1 by decide), if_pos ⟨h2.1, h2.2, rfl⟩, readTree_rd s d (p + 1) _ hs.2 (by omega) (by omega), Option.bind_some]
            cases hl : rdT s d (p + 1) (m ||| 2 ^ (bt s p - 97).toNat) with
            | none => rfl
            | some x =>
              dsimp only
              rw [readTree_rd s d x.2 _ hs.2 (by omega) (rdT_le hl).2, Option.bind_some, Option.bind_some]
              cases hr : rdT s d x.2 (m ||| 2 ^ (bt s p - 97).toNat) with
              | none => rfl
              | some y => rfl
        · rw [decide_eq_false h2, if_pos rfl, if_neg (fun h => h2 ⟨h.1, h.2.1⟩)]
theorem ext_all (s : ByteArray) : s.extract 0 s.size = s := by simp
theorem ext_empty (s : ByteArray) {q : Nat} (hq : q ≤ s.size) : (s.extract q s.size).toList.isEmpty = decide (q = s.size) := by
  by_cases h : q = s.size
  · rw [decide_eq_true h]
    exact impl_readTree.empty (by rw [ByteArray.size_extract]; omega)
  · rw [decide_eq_false h]
    exact impl_readTree.some_ (by rw [ByteArray.size_extract]; omega)
/-- The text is one tree. -/
def whole (s : ByteArray) : Option impl_readTree.T := match rdT s 6 0 0 with
  | none => none
  | some x => if x.2 = s.size then some x.1 else none
theorem whole_yes {s : ByteArray} {t : impl_readTree.T} (h : whole s = some t) : rdT s 6 0 0 = some (t, s.size) := by
  unfold whole at h
  cases hr : rdT s 6 0 0 with
  | none => rw [hr] at h; simp at h
  | some x =>
    rw [hr] at h
    dsimp only at h
    by_cases hx : x.2 = s.size
    · rw [if_pos hx] at h
      obtain ⟨a, b⟩ := x
      dsimp only at hx
      rw [← Option.some.inj h, hx]
    · rw [if_neg hx] at h; simp at h
theorem wholeTree_eq (s : ByteArray) : ∃ t o, impl_wholeTree.f 6 s = some (t, o) ∧ (match whole s with
    | none => t = none ∨ o = false
    | some u => t = some u ∧ o = true) := by
  unfold impl_wholeTree.f
  have h := readTree_rd s 6 0 0 (by decide) (by decide) (by omega)
  rw [ext_all] at h
  rw [show (0 : Int) = ((0 : Nat) : Int) from rfl, h, Option.bind_some]
  refine ⟨_, _, rfl, ?_⟩
  unfold whole
  cases hr : rdT s 6 0 0 with
  | none => exact .inl rfl
  | some x =>
    dsimp only
    rw [ext_empty s (rdT_le (t := x.1) (q := x.2) hr).2]
    by_cases hx : x.2 = s.size
    · rw [if_pos hx]; exact ⟨rfl, decide_eq_true hx⟩
    · rw [if_neg hx]; exact .inr (decide_eq_false hx)

theorem l7End_rd (s : ByteArray) (hs : s.size ≤ 63) : ∀ d p m k : Nat, m < 32 → tfr m < d → p ≤ s.size → 3 * d ≤ k → spec_l7End.f k s (p : Int) (m : Int) = some (match rdT s d p m with
    | none => -1
    | some x => (x.2 : Int))
  | 0, p, m, k, hm, hd, hp, hk => absurd hd (by omega)
  | d + 1, p, m, k, hm, hd, hp, hk => by
    obtain ⟨k, rfl⟩ : ∃ j, k = j + 3 := ⟨k - 3, by omega⟩
    rw [spec_l7End.f, rdT]
    by_cases h0 : s.size ≤ p
    · rw [if_pos (by omega), if_pos h0]
    · rw [if_neg (by omega), if_neg h0, if_pos (by omega), if_pos (by omega)]
      have hj : (if bt s p = 48 then spec_l7End.j0 (k + 2) s (p : Int) (m : Int) true else spec_l7End.j0 (k + 2) s (p : Int) (m : Int) (bt s p == 49)) = spec_l7End.j0 (k + 2) s (p : Int) (m : Int) (decide (bt s p = 48 ∨ bt s p = 49)) := by
        by_cases h : bt s p = 48
        · rw [if_pos h, decide_eq_true (.inl h)]
        · rw [if_neg h]
          congr 1
          rw [Bool.eq_iff_iff, beq_iff_eq, decide_eq_true_eq]
          exact ⟨.inr, fun h1 => h1.resolve_left h⟩
      rw [hj, spec_l7End.j0]
      have hw : wrap64 ((p : Int) + 1) = ((p + 1 : Nat) : Int) := by rw [w64 (by omega) (by omega)]; omega
      have hb := bt_range s p
      have hb1 : wrap64 (bt s p) = bt s p := w64 (by omega) (by omega)
      have hb2 : wrap64 (bt s p - 97) = bt s p - 97 := w64 (by omega) (by omega)
      rw [hw, hb1, hb2, if_pos (show (0 : Int) ≤ (p : Int) by omega), if_pos (show (p : Int) < (s.size : Int) by omega), spec_l1In_eq, Option.bind_some]
      by_cases h1 : bt s p = 48 ∨ bt s p = 49
      · rw [if_pos (decide_eq_true h1), if_pos h1]
      · rw [if_neg (by rw [decide_eq_false h1]; decide), if_neg h1]
        by_cases h2 : 97 ≤ bt s p ∧ bt s p < 102
        · have hL := lettN h2
          have hL2 : bt s p - 97 = (((bt s p - 97).toNat : Nat) : Int) := by omega
          rw [if_pos (decide_eq_true (by omega)), if_pos (by omega), spec_l7End.j1, hw]
          rw [hL2, ask1 hm, set1 hm hL.2, Int.toNat_natCast, if_pos (show (0 : Int) ≤ (((bt s p - 97).toNat : Nat) : Int) by omega)]
          by_cases h3 : m.testBit (bt s p - 97).toNat = true
          · rw [h3, if_pos (show (b2i true == 1) = true by rfl), if_neg (fun h => by have := h.2.2; cases this)]
          · rw [Bool.not_eq_true] at h3
            have hst := tfr_step m hm _ hL.2 h3
            rw [h3, if_neg (show ¬ (b2i false == 1) = true by decide), if_pos ⟨by omega, by omega, rfl⟩, l7End_rd s hs d (p + 1) _ k hst.2 (by omega) (by omega) (by omega), Option.bind_some]
            cases hl : rdT s d (p + 1) (m ||| 2 ^ (bt s p - 97).toNat) with
            | none => rfl
            | some x =>
              dsimp only
              rw [if_neg (show ¬ ((x.2 : Nat) : Int) < 0 from Int.not_lt.mpr (Int.natCast_nonneg _)), l7End_rd s hs d x.2 _ k hst.2 (by omega) (rdT_le (t := x.1) (q := x.2) hl).2 (by omega), Option.bind_some, Option.bind_some]
              cases hr : rdT s d x.2 (m ||| 2 ^ (bt s p - 97).toNat) with
              | none => rfl
              | some y => rfl
        · rw [if_neg (by rw [decide_eq_false (by omega)]; decide), spec_l7End.j1, if_pos rfl, if_neg (fun h => h2 ⟨h.1, h.2.1⟩)]
theorem IsTree_eq (s : ByteArray) : Ev (fun k => spec_IsTree.f k s) (whole s).isSome := by
  have hsm : ∀ t, whole s = some t → s.size ≤ 63 := by
    intro t h
    have h1 := rdT_small (by decide) (whole_yes h)
    have : (2 : Nat) ^ (tfr 0 + 1) = 64 := by decide
    omega
  refine ⟨18, fun k hk => ?_⟩
  unfold spec_IsTree.f
  dsimp only
  by_cases h0 : (s.size : Int) ≤ 63
  · rw [if_pos h0]
    have h := l7End_rd s (by omega) 6 0 0 k (by decide) (by decide) (by omega) (by omega)
    by_cases h1 : (s.size : Int) > 0
    · rw [if_pos h1, show (0 : Int) = ((0 : Nat) : Int) from rfl, h, Option.bind_some]
      unfold whole
      cases hr : rdT s 6 0 0 with
      | none =>
        dsimp only
        rw [Option.some.injEq, Option.isSome_none, beq_eq_false_iff_ne]
        omega
      | some x =>
        dsimp only
        by_cases hx : x.2 = s.size
        · rw [if_pos hx, hx]; simp
        · rw [if_neg hx]
          rw [Option.some.injEq, Option.isSome_none, beq_eq_false_iff_ne]
          omega
    · rw [if_neg h1]
      cases hw : whole s with
      | none => rfl
      | some t => have := (rdT_le (whole_yes hw)).1; omega
  · rw [if_neg h0]
    cases hw : whole s with
    | none => rfl
    | some t => have := hsm t hw; omega

theorem impl_isInput_eq {n : Nat} (h : n ≤ 62) (x : Int) : impl_isInput.f n x = some (isInp n x) := by
  unfold impl_isInput.f
  by_cases h0 : x ≥ 0
  · rw [if_pos h0, if_pos (Int.natCast_nonneg _), shl1 h, isInp_lt h0]
  · rw [if_neg h0, show isInp n x = false from decide_eq_false fun h3 => h0 h3.1]

theorem l7Skip_rd (s : ByteArray) (hs : s.size ≤ 63) : ∀ d p m k : Nat, ∀ x, rdT s d p m = some x → 2 * d ≤ k → spec_l7Skip.f k s (p : Int) = some (x.2 : Int)
  | 0, p, m, k, x, h, hk => by simp [rdT] at h
  | d + 1, p, m, k, x, h, hk => by
    obtain ⟨k, rfl⟩ : ∃ j, k = j + 2 := ⟨k - 2, by omega⟩
    rw [rdT] at h
    rw [spec_l7Skip.f]
    by_cases h0 : s.size ≤ p
    · rw [if_pos h0] at h; simp at h
    · rw [if_neg h0] at h
      have hj : (if bt s p = 48 then spec_l7Skip.j0 (k + 1) s (p : Int) true else spec_l7Skip.j0 (k + 1) s (p : Int) (bt s p == 49)) = spec_l7Skip.j0 (k + 1) s (p : Int) (decide (bt s p = 48 ∨ bt s p = 49)) := by
        by_cases h : bt s p = 48
        · rw [if_pos h, decide_eq_true (.inl h)]
        · rw [if_neg h]
          congr 1
          rw [Bool.eq_iff_iff, beq_iff_eq, decide_eq_true_eq]
          exact ⟨.inr, fun h1 => h1.resolve_left h⟩
      have hw : wrap64 ((p : Int) + 1) = ((p + 1 : Nat) : Int) := by rw [w64 (by omega) (by omega)]; omega
      rw [if_pos (by omega), if_pos (by omega), hj, spec_l7Skip.j0, hw]
      by_cases h1 : bt s p = 48 ∨ bt s p = 49
      · rw [if_pos h1] at h
        rw [if_pos (decide_eq_true h1), ← Option.some.inj h]
      · rw [if_neg h1] at h
        rw [if_neg (by rw [decide_eq_false h1]; decide)]
        by_cases h2 : 97 ≤ bt s p ∧ bt s p < 102 ∧ m.testBit (bt s p - 97).toNat = false
        · rw [if_pos h2] at h
          obtain ⟨⟨l, ql⟩, hl, h⟩ := Option.bind_eq_some_iff.mp h
          obtain ⟨⟨r, qr⟩, hr, h⟩ := Option.bind_eq_some_iff.mp h
          rw [l7Skip_rd s hs d (p + 1) _ k _ hl (by omega), Option.bind_some, l7Skip_rd s hs d ql _ k _ hr (by omega), Option.bind_some, ← Option.some.inj h]
        · rw [if_neg h2] at h; simp at h
theorem bit1 (y : Int) : Go.bits .and .i64 y 1 = 0 ∨ Go.bits .and .i64 y 1 = 1 := by
  have e : Go.bits .and .i64 y 1 = IntKind.i64.wrap (((BitVec.ofInt 64 y &&& BitVec.ofInt 64 1).toNat : Nat) : Int) := rfl
  rw [e, BitVec.toNat_and, show (BitVec.ofInt 64 1).toNat = 1 by decide, Nat.and_one_is_mod]
  rcases Nat.mod_two_eq_zero_or_one (BitVec.ofInt 64 y).toNat with h | h
  · exact .inl (by rw [h]; rfl)
  · exact .inr (by rw [h]; rfl)
theorem l7Run_rd (s : ByteArray) (hs : s.size ≤ 63) (x : Int) : ∀ d p m k : Nat, ∀ t q, ∀ n, rdT s d p m = some (t, q) → 2 * d ≤ k → spec_l7Run.l0 k s x (p : Int) n = some (impl_tree_ask.g x t n)
  | 0, p, m, k, t, q, n, h, hk => by simp [rdT] at h
  | d + 1, p, m, k, t, q, n, h, hk => by
    obtain ⟨k, rfl⟩ : ∃ j, k = j + 2 := ⟨k - 2, by omega⟩
    rw [rdT] at h
    rw [spec_l7Run.l0]
    by_cases h0 : s.size ≤ p
    · rw [if_pos h0] at h; simp at h
    · rw [if_neg h0] at h
      have hj : (if bt s p = 48 then spec_l7Run.j1 (k + 1) s x (p : Int) n false else spec_l7Run.j1 (k + 1) s x (p : Int) n (bt s p != 49)) = spec_l7Run.j1 (k + 1) s x (p : Int) n (decide (¬ (bt s p = 48 ∨ bt s p = 49))) := by
        by_cases h : bt s p = 48
        · rw [if_pos h, decide_eq_false (fun h1 => h1 (.inl h))]
        · rw [if_neg h]
          congr 1
          rw [Bool.eq_iff_iff, bne_iff_ne, decide_eq_true_eq]
          exact ⟨fun h1 h2 => h2.elim h h1, fun h1 h2 => h1 (.inr h2)⟩
      have hw : wrap64 ((p : Int) + 1) = ((p + 1 : Nat) : Int) := by rw [w64 (by omega) (by omega)]; omega
      rw [if_pos (by omega), if_pos (by omega), hj, spec_l7Run.j1, hw]
      simp only [if_pos (show (0 : Int) ≤ (p : Int) by omega), if_pos (show (p : Int) < (s.size : Int) by omega)]
      by_cases h1 : bt s p = 48 ∨ bt s p = 49
      · rw [if_pos h1] at h
        rw [if_neg (by rw [decide_eq_false (fun h2 => h2 h1)]; decide), ← (Prod.mk.inj (Option.some.inj h)).1, impl_tree_ask.g]
      · rw [if_neg h1] at h
        rw [if_pos (decide_eq_true h1)]
        by_cases h2 : 97 ≤ bt s p ∧ bt s p < 102 ∧ m.testBit (bt s p - 97).toNat = false
        · rw [if_pos h2] at h
          obtain ⟨⟨l, ql⟩, hl, h⟩ := Option.bind_eq_some_iff.mp h
          obtain ⟨⟨r, qr⟩, hr, h⟩ := Option.bind_eq_some_iff.mp h
          rw [← (Prod.mk.inj (Option.some.inj h)).1, impl_tree_ask.g]
          rcases bit1 (shr .i64 x ((bt s p - 97) % 256)) with hb | hb
          · rw [hb, if_neg (by decide), if_pos rfl]
            exact l7Run_rd s hs x d (p + 1) _ k _ _ _ hl (by omega)
          · rw [hb, if_pos rfl, if_neg (by decide), l7Skip_rd s hs d (p + 1) _ k _ hl (by omega), Option.bind_some]
            exact l7Run_rd s hs x d ql _ k _ _ _ hr (by omega)
        · rw [if_neg h2] at h; simp at h
theorem whole_size {s : ByteArray} {t : impl_readTree.T} (h : whole s = some t) : s.size ≤ 63 := by
  have h1 := rdT_small (by decide) (whole_yes h)
  have : (2 : Nat) ^ (tfr 0 + 1) = 64 := by decide
  omega
theorem l7Run_eq {s : ByteArray} {t : impl_readTree.T} (h : whole s = some t) (x : Int) : Ev (fun k => spec_l7Run.f k s x) (impl_tree_ask.g x t 0) := by
  refine ⟨12, fun k hk => ?_⟩
  unfold spec_l7Run.f
  exact l7Run_rd s (whole_size h) x 6 0 0 k t s.size 0 (whole_yes h) (by omega)
def queries (s : ByteArray) (x : Int) : Int := match whole s with
  | none => -1
  | some t => if 0 ≤ x ∧ x ≤ 31 then (impl_tree_ask.g x t 0).2 else -1
theorem spec_QueriesOf_eq (s : ByteArray) (x : Int) : Ev (fun k => spec_QueriesOf.f k s x) (queries s x) := by
  unfold spec_QueriesOf.f queries
  refine ev1 (IsTree_eq s) (G := fun k => if (whole s).isSome = true then ((spec_l1In.f x 0 31).bind fun t110 => (if t110 = true then ((spec_l7Run.f k s x).bind fun bt111 => (some bt111.2)) else (some (-1)))) else (some (-1))) (fun k hk => by rw [hk]; rfl) ?_
  cases hw : whole s with
  | none => exact Ev.now _
  | some t =>
    dsimp only
    simp only [Option.isSome_some, if_true, spec_l1In_eq, Option.bind_some]
    by_cases hx : 0 ≤ x ∧ x ≤ 31
    · simp only [decide_eq_true hx, if_true, if_pos hx]
      exact ev1' (l7Run_eq hw x) fun k hk => by rw [hk]; rfl
    · rw [if_neg hx, decide_eq_false hx]
      exact Ev.now _
theorem impl_QueriesOf_eq (s : ByteArray) (x : Int) : impl_QueriesOf.f s x = some (queries s x) := by
  unfold impl_QueriesOf.f queries
  obtain ⟨t, o, he, hm⟩ := wholeTree_eq s
  rw [he, Option.bind_some]
  cases hw : whole s with
  | none =>
    rw [hw] at hm
    dsimp only at hm ⊢
    rcases hm with rfl | rfl
    · rfl
    · cases t <;> rfl
  | some u =>
    rw [hw] at hm
    obtain ⟨rfl, rfl⟩ := hm
    dsimp only
    rw [if_pos rfl, show (5 : Int) = ((5 : Nat) : Int) from rfl, impl_isInput_eq (by omega), Option.bind_some]
    have hi : isInp ((5 : Nat) : Int) x = decide (0 ≤ x ∧ x ≤ 31) := by
      unfold isInp
      rw [inp_size]
      exact decide_eq_decide.mpr (by omega)
    rw [hi]
    by_cases hx : 0 ≤ x ∧ x ≤ 31
    · rw [if_pos (decide_eq_true hx), if_pos hx]
    · rw [if_neg (by rw [decide_eq_false hx]; decide), if_neg hx]
theorem FnExactQueriesOf (s : ByteArray) (x : Int) (hs : s.size ≤ 140737488351232) (hx : (Lit.int .i64 x).wf = true) : ∃ k, laws_FnExactQueriesOf.f k s x = some true := by
  refine Ev.rounds ?_
  unfold laws_FnExactQueriesOf.f
  by_cases h : (s.size : Int) > 1048576
  · simp only [if_pos h]; exact Ev.now _
  · simp only [if_neg h]
    exact ev1' (spec_QueriesOf_eq s x) fun k hk => by rw [hk, Option.bind_some, impl_QueriesOf_eq, Option.bind_some, if_pos rfl]

theorem impl_isBits_eq (b : Int) : impl_isBits.f b = some (decide (0 ≤ b ∧ b ≤ 5)) := by
  unfold impl_isBits.f
  by_cases h : b ≥ 0
  · rw [if_pos h]; simp [show 0 ≤ b from h]
  · rw [if_neg h]; simp [show ¬ 0 ≤ b from h]

theorem impl_makeTable_word_eq (g : Nat → Bool) : ∀ N, N ≤ 32 → impl_makeTable.word g N = ((wordN g N : Nat) : Int) := by
  intro N
  induction N with
  | zero => intro _; rfl
  | succ N ih =>
    intro hN
    simp only [impl_makeTable.word]
    rw [ih (by omega)]
    by_cases hg : g N = true
    · rw [if_pos hg, wordN_or (by omega) hg]
    · rw [if_neg hg]
      simp only [wordN]
      rw [if_neg hg]

theorem laws_eqTable_same (b W : Int) : laws_eqTable.f b W b W = some true := by
  unfold laws_eqTable.f
  rw [if_pos rfl, if_pos rfl]

theorem g_bit {s : ByteArray} (x : Int) : ∀ d p m t q n, rdT s d p m = some (t, q) → (impl_tree_ask.g x t n).1 = b2i (decide ((impl_tree_ask.g x t n).1 = 1))
  | 0, p, m, t, q, n, h => by simp [rdT] at h
  | d + 1, p, m, t, q, n, h => by
    rw [rdT] at h
    by_cases h0 : s.size ≤ p
    · rw [if_pos h0] at h; simp at h
    · rw [if_neg h0] at h
      by_cases h1 : bt s p = 48 ∨ bt s p = 49
      · rw [if_pos h1] at h
        rw [← (Prod.mk.inj (Option.some.inj h)).1, impl_tree_ask.g]
        rcases h1 with h1 | h1
        · rw [h1]; rfl
        · rw [h1]; rfl
      · rw [if_neg h1] at h
        by_cases h2 : 97 ≤ bt s p ∧ bt s p < 102 ∧ m.testBit (bt s p - 97).toNat = false
        · rw [if_pos h2] at h
          obtain ⟨⟨l, ql⟩, hl, h⟩ := Option.bind_eq_some_iff.mp h
          obtain ⟨⟨r, qr⟩, hr, h⟩ := Option.bind_eq_some_iff.mp h
          rw [← (Prod.mk.inj (Option.some.inj h)).1, impl_tree_ask.g]
          rcases bit1 (shr .i64 x ((bt s p - 97) % 256)) with hb | hb
          · rw [if_pos hb]; exact g_bit x d _ _ _ _ _ hl
          · rw [if_neg (by rw [hb]; decide)]; exact g_bit x d _ _ _ _ _ hr
        · rw [if_neg h2] at h; simp at h
/-- No place from p to q asks beyond n. -/
def fine (s : ByteArray) (n : Int) (p q : Nat) : Prop := ∀ i, p ≤ i → i < q → ¬ (97 ≤ bt s i ∧ n ≤ bt s i - 97)
theorem within_fine {s : ByteArray} (n : Int) : ∀ d p m t q, rdT s d p m = some (t, q) → (impl_tree_within.f n t = true ↔ fine s n p q)
  | 0, p, m, t, q, h => by simp [rdT] at h
  | d + 1, p, m, t, q, h => by
    rw [rdT] at h
    by_cases h0 : s.size ≤ p
    · rw [if_pos h0] at h; simp at h
    · rw [if_neg h0] at h
      by_cases h1 : bt s p = 48 ∨ bt s p = 49
      · rw [if_pos h1] at h
        obtain ⟨ht, hq⟩ := Prod.mk.inj (Option.some.inj h)
        rw [← ht, impl_tree_within.f, ← hq]
        refine ⟨fun _ i hi hi2 => ?_, fun _ => rfl⟩
        obtain rfl : i = p := by omega
        omega
      · rw [if_neg h1] at h
        by_cases h2 : 97 ≤ bt s p ∧ bt s p < 102 ∧ m.testBit (bt s p - 97).toNat = false
        · rw [if_pos h2] at h
          obtain ⟨⟨l, ql⟩, hl, h⟩ := Option.bind_eq_some_iff.mp h
          obtain ⟨⟨r, qr⟩, hr, h⟩ := Option.bind_eq_some_iff.mp h
          obtain ⟨ht, hq⟩ := Prod.mk.inj (Option.some.inj h)
          dsimp only at hq hr
          rw [← ht, impl_tree_within.f, ← hq, Bool.and_eq_true, Bool.and_eq_true, decide_eq_true_eq, within_fine n d _ _ _ _ hl, within_fine n d _ _ _ _ hr]
          have a1 := rdT_le hl
          have a2 := rdT_le hr
          constructor
          · rintro ⟨⟨b1, b2⟩, b3⟩ i hi hi2
            by_cases c1 : i = p
            · subst c1; omega
            · by_cases c2 : i < ql
              · exact b2 i (by omega) c2
              · exact b3 i (by omega) hi2
          · intro b
            refine ⟨⟨?_, fun i hi hi2 => b i (by omega) (by omega)⟩, fun i hi hi2 => b i (by omega) (by omega)⟩
            have := b p (by omega) (by omega)
            omega
        · rw [if_neg h2] at h; simp at h
/-- The tree that a text tells, over n variables. -/
def treeN (s : ByteArray) (n : Int) : Option impl_readTree.T := match whole s with
  | none => none
  | some t => if (decide (0 ≤ n ∧ n ≤ 5) && impl_tree_within.f n t) = true then some t else none
theorem treeOf_eq (s : ByteArray) (n : Int) : impl_treeOf.f 6 s n = some (treeN s n) := by
  unfold impl_treeOf.f treeN
  obtain ⟨t, o, he, hm⟩ := wholeTree_eq s
  rw [he, Option.bind_some]
  cases hw : whole s with
  | none =>
    rw [hw] at hm
    dsimp only at hm ⊢
    rcases hm with rfl | rfl
    · rfl
    · cases t <;> rfl
  | some u =>
    rw [hw] at hm
    obtain ⟨rfl, rfl⟩ := hm
    dsimp only
    rw [if_pos rfl, impl_isBits_eq, Option.bind_some]
    by_cases hx : (decide (0 ≤ n ∧ n ≤ 5) && impl_tree_within.f n u) = true
    · rw [if_pos hx, if_pos hx]
    · rw [if_neg hx, if_neg hx]
def tableT (s : ByteArray) (n : Int) : Int × Int × Bool := match treeN s n with
  | none => (0, 0, false)
  | some t => (n, ((wordN (impl_treeOf.on t) (2 ^ n.toNat) : Nat) : Int), true)
theorem treeN_yes {s : ByteArray} {n : Int} {t : impl_readTree.T} (h : treeN s n = some t) : whole s = some t ∧ 0 ≤ n ∧ n ≤ 5 ∧ impl_tree_within.f n t = true := by
  unfold treeN at h
  cases hw : whole s with
  | none => rw [hw] at h; simp at h
  | some u =>
    rw [hw] at h
    dsimp only at h
    by_cases hx : (decide (0 ≤ n ∧ n ≤ 5) && impl_tree_within.f n u) = true
    · rw [if_pos hx] at h
      rw [Bool.and_eq_true, decide_eq_true_eq] at hx
      obtain rfl := Option.some.inj h
      exact ⟨rfl, hx.1.1, hx.1.2, hx.2⟩
    · rw [if_neg hx] at h; simp at h
theorem word_eq (n : Int) (t : impl_readTree.T) (h0 : 0 ≤ n) (h1 : n ≤ 5) : impl_treeOf.word n t = ((wordN (impl_treeOf.on t) (2 ^ n.toNat) : Nat) : Int) := by
  unfold impl_treeOf.word
  exact impl_makeTable_word_eq _ _ (pow62 (by omega))
theorem impl_TableOfTree_eq (s : ByteArray) (n : Int) : impl_TableOfTree.f s n = some (tableT s n) := by
  unfold impl_TableOfTree.f tableT
  rw [treeOf_eq, Option.bind_some]
  cases ht : treeN s n with
  | none => rfl
  | some t =>
    obtain ⟨_, h0, h1, _⟩ := treeN_yes ht
    dsimp only
    rw [word_eq n t h0 h1]
theorem tableT_l1 {s : ByteArray} {t : impl_readTree.T} (hw : whole s = some t) (n : Nat) (hn : n ≤ 5) : Ev (fun k => spec_TableOfTree.l1 k s (n : Int) 0 0) ((n : Int), ((wordN (impl_treeOf.on t) (2 ^ n) : Nat) : Int), true) := by
  have hN := pow62 hn
  refine ev_for (fun k x => spec_TableOfTree.l1 k s (n : Int) ((wordN (impl_treeOf.on t) x : Nat) : Int) (x : Int)) (2 ^ n) (fun x hx ih => ?_) ?_
  · have hg : (impl_tree_ask.g (x : Int) t 0).1 = b2i (impl_treeOf.on t x) := g_bit (x : Int) 6 0 0 t s.size 0 (whole_yes hw)
    refine evs1 (l7Run_eq hw (x : Int)) (fun k hk => ?_) ih
    rw [spec_TableOfTree.l1, if_pos (Int.natCast_nonneg n), shl1 (by omega), if_pos (by omega), hk, Option.bind_some, if_pos (Int.natCast_nonneg x), hg, wordN_step (by omega), w64 (by omega) (by omega)]
    rfl
  · refine ev0 fun k => ?_
    rw [spec_TableOfTree.l1, if_pos (Int.natCast_nonneg n), shl1 (by omega), if_neg (by omega)]
theorem tableT_l0 {s : ByteArray} {t : impl_readTree.T} (hw : whole s = some t) (n : Nat) (hn : n ≤ 5) : Ev (fun k => spec_TableOfTree.l0 k s (n : Int) 0) (if impl_tree_within.f (n : Int) t = true then ((n : Int), ((wordN (impl_treeOf.on t) (2 ^ n) : Nat) : Int), true) else (0, 0, false)) := by
  have hsz := whole_size hw
  have hwf := within_fine (n : Int) 6 0 0 t s.size (whole_yes hw)
  suffices H : ∀ j p, p + j = s.size → ((∃ i, p ≤ i ∧ i < s.size ∧ 97 ≤ bt s i ∧ (n : Int) ≤ bt s i - 97) → Ev (fun k => spec_TableOfTree.l0 k s (n : Int) (p : Int)) (0, 0, false)) ∧ ((¬ ∃ i, p ≤ i ∧ i < s.size ∧ 97 ≤ bt s i ∧ (n : Int) ≤ bt s i - 97) → Ev (fun k => spec_TableOfTree.l0 k s (n : Int) (p : Int)) ((n : Int), ((wordN (impl_treeOf.on t) (2 ^ n) : Nat) : Int), true)) by
    have h := H s.size 0 (by omega)
    by_cases hf : impl_tree_within.f (n : Int) t = true
    · rw [if_pos hf]
      refine h.2 ?_
      rintro ⟨i, h1, h2, h3⟩
      exact hwf.mp hf i h1 h2 h3
    · rw [if_neg hf]
      refine h.1 ?_
      refine Classical.byContradiction fun hc => hf (hwf.mpr fun i h1 h2 h3 => hc ⟨i, h1, h2, h3⟩)
  intro j
  induction j with
  | zero =>
    intro p hp
    refine ⟨by rintro ⟨i, h1, h2, _⟩; omega, fun _ => ?_⟩
    refine Ev.step (fun k => ?_) (tableT_l1 hw n hn)
    rw [spec_TableOfTree.l0, if_neg (by omega)]
  | succ j ih =>
    intro p hp
    have hb := bt_range s p
    have hm : 97 ≤ bt s p → (bt s p - 97) % 256 = bt s p - 97 := by intro h; omega
    have hw1 : wrap64 ((p : Int) + 1) = ((p + 1 : Nat) : Int) := by rw [w64 (by omega) (by omega)]; omega
    by_cases hc : 97 ≤ bt s p ∧ (n : Int) ≤ bt s p - 97
    · refine ⟨fun _ => ?_, fun h => absurd ⟨p, by omega, by omega, hc⟩ h⟩
      refine ev0 fun k => ?_
      rw [spec_TableOfTree.l0, if_pos (by omega), if_pos (Int.natCast_nonneg p), if_pos (show bt s p ≥ 97 from hc.1), hm hc.1, if_pos (show bt s p - 97 ≥ (n : Int) from hc.2)]
    · have step : ∀ k, spec_TableOfTree.l0 (k + 1) s (n : Int) (p : Int) = spec_TableOfTree.l0 k s (n : Int) ((p + 1 : Nat) : Int) := by
        intro k
        rw [spec_TableOfTree.l0, if_pos (by omega), if_pos (Int.natCast_nonneg p), hw1]
        by_cases h1 : bt s p ≥ 97
        · rw [if_pos h1, hm h1, if_neg (fun h2 => hc ⟨h1, h2⟩)]
        · rw [if_neg h1]
      have e : (∃ i, p ≤ i ∧ i < s.size ∧ 97 ≤ bt s i ∧ (n : Int) ≤ bt s i - 97) → (∃ i, p + 1 ≤ i ∧ i < s.size ∧ 97 ≤ bt s i ∧ (n : Int) ≤ bt s i - 97) := by
        rintro ⟨i, h1, h2, h3⟩
        refine ⟨i, ?_, h2, h3⟩
        by_cases hi : i = p
        · subst hi; exact absurd h3 hc
        · omega
      exact ⟨fun h => Ev.step step ((ih (p + 1) (by omega)).1 (e h)), fun h => Ev.step step ((ih (p + 1) (by omega)).2 fun ⟨i, h1, h2, h3⟩ => h ⟨i, by omega, h2, h3⟩)⟩
theorem spec_TableOfTree_eq (s : ByteArray) (n : Int) : Ev (fun k => spec_TableOfTree.f k s n) (tableT s n) := by
  unfold spec_TableOfTree.f tableT
  refine ev1 (IsTree_eq s) (G := fun k => if (whole s).isSome = true then ((spec_l1In.f n 0 5).bind fun t395 => (spec_TableOfTree.j0 k s n (!t395))) else (spec_TableOfTree.j0 k s n true)) (fun k hk => by rw [hk]; rfl) ?_
  unfold treeN
  cases hw : whole s with
  | none => exact ev0 fun k => by rw [if_neg (by decide), spec_TableOfTree.j0, if_pos rfl]
  | some t =>
    dsimp only
    simp only [Option.isSome_some, if_true, spec_l1In_eq, Option.bind_some]
    by_cases hn : 0 ≤ n ∧ n ≤ 5
    · obtain ⟨a, rfl⟩ : ∃ a : Nat, n = a := ⟨n.toNat, by omega⟩
      rw [decide_eq_true hn, Bool.true_and]
      refine Ev.step (f := fun k => spec_TableOfTree.l0 k s (a : Int) 0) (fun k => by rw [spec_TableOfTree.j0]; rfl) ?_
      refine ev_eq (tableT_l0 hw a (by omega)) ?_
      by_cases hf : impl_tree_within.f (a : Int) t = true
      · rw [if_pos hf, if_pos hf]; rfl
      · rw [if_neg hf, if_neg hf]
    · rw [decide_eq_false hn, Bool.false_and, if_neg (by decide)]
      exact ev0 fun k => by rw [spec_TableOfTree.j0]; rfl
theorem FnExactTableOfTree (s : ByteArray) (n : Int) (hs : s.size ≤ 140737488351232) (hn : (Lit.int .i64 n).wf = true) : ∃ k, laws_FnExactTableOfTree.f k s n = some true := by
  refine Ev.rounds ?_
  unfold laws_FnExactTableOfTree.f
  by_cases h : (s.size : Int) > 1048576
  · simp only [if_pos h]; exact Ev.now _
  · simp only [if_neg h]
    exact ev1' (spec_TableOfTree_eq s n) fun k hk => by rw [hk, Option.bind_some, impl_TableOfTree_eq, Option.bind_some, laws_eqTable_same, Option.bind_some, if_pos rfl, if_neg (by simp)]

end Go.Proofs.Ytfpcgcmajdebmaa.Pure
