/- What the law FnExactQueriesOf comes to, over numbers and lists alone: at every input both sides tell the same. No conditions but the kinds of the numbers. -/
import Derived.Test.YtfpcgcmajdebmaaMath
import Derived.Test.YtfpcgcmajdebmaaPx1
import Derived.Test.YtfpcgcmajdebmaaPx10
import Derived.Test.YtfpcgcmajdebmaaPx2
import Derived.Test.YtfpcgcmajdebmaaPx3
import Derived.Test.YtfpcgcmajdebmaaPx4
import Derived.Test.YtfpcgcmajdebmaaPx5
import Derived.Test.YtfpcgcmajdebmaaPx6
namespace Go.Proofs.Ytfpcgcmajdebmaa.Pure
open Go.RowKit Go.Proofs.Ytfpcgcmajdebmaa.P Go.Proofs.YtfpcgcmajdebmaaW.PrintWords Go.Proofs.YtfpcgcmajdebmaaW.PrintLast Go.Proofs.YtfpcgcmajdebmaaW.PrintMore Go.Proofs.YtfpcgcmajdebmaaMath
set_option linter.unusedVariables false
set_option linter.unusedSimpArgs false

theorem spec_l1In_eq (a b c : Int) : spec_l1In.f a b c = some (decide (b ≤ a ∧ a ≤ c)) := by
  unfold spec_l1In.f
  by_cases h : b ≤ a
  · rw [if_pos h]; simp [h]
  · rw [if_neg h]; simp [h]

/-- How many letters are free. -/
def tfr (m : Nat) : Nat := ((List.range 5).filter fun i => !m.testBit i).length
theorem tfr_step : ∀ m, m < 32 → ∀ i, i < 5 → m.testBit i = false → tfr (m ||| 2 ^ i) + 1 = tfr m ∧ m ||| 2 ^ i < 32 := by decide
/-- Reading a tree: from place p on, with the letters of m asked already. -/
def rdT (s : ByteArray) : Nat → Nat → Nat → Option (impl_readTree.T × Nat)
  | 0, _, _ => none
  | d + 1, p, m => if s.size ≤ p then none else if bt s p = 48 ∨ bt s p = 49 then some (.leaf (bt s p), p + 1) else
      if 97 ≤ bt s p ∧ bt s p < 102 ∧ m.testBit (bt s p - 97).toNat = false then
        (rdT s d (p + 1) (m ||| 2 ^ (bt s p - 97).toNat)).bind fun x => (rdT s d x.2 (m ||| 2 ^ (bt s p - 97).toNat)).bind fun y => some (.node (bt s p) x.1 y.1, y.2)
      else none
theorem rdT_le {s : ByteArray} : ∀ {d p m : Nat} {t : impl_readTree.T} {q : Nat}, rdT s d p m = some (t, q) → p < q ∧ q ≤ s.size
  | 0, p, m, t, q, h => by simp [rdT] at h
  | d + 1, p, m, t, q, h => by
    rw [rdT] at h
    by_cases h0 : s.size ≤ p
    · rw [if_pos h0] at h; simp at h
    · rw [if_neg h0] at h
      by_cases h1 : bt s p = 48 ∨ bt s p = 49
      · rw [if_pos h1] at h
        have h2 := (Prod.mk.inj (Option.some.inj h)).2
        omega
      · rw [if_neg h1] at h
        by_cases h2 : 97 ≤ bt s p ∧ bt s p < 102 ∧ m.testBit (bt s p - 97).toNat = false
        · rw [if_pos h2] at h
          obtain ⟨⟨l, ql⟩, hl, h⟩ := Option.bind_eq_some_iff.mp h
          obtain ⟨⟨r, qr⟩, hr, h⟩ := Option.bind_eq_some_iff.mp h
          have h3 := (Prod.mk.inj (Option.some.inj h)).2
          have := rdT_le hl
          have := rdT_le hr
          dsimp only at *
          omega
        · rw [if_neg h2] at h; simp at h
theorem rdT_small {s : ByteArray} : ∀ {d p m : Nat} {t : impl_readTree.T} {q : Nat}, m < 32 → rdT s d p m = some (t, q) → q + 1 ≤ p + 2 ^ (tfr m + 1)
  | 0, p, m, t, q, hm, h => by simp [rdT] at h
  | d + 1, p, m, t, q, hm, h => by
    rw [rdT] at h
    have hp : 2 ≤ 2 ^ (tfr m + 1) := by have := Nat.pow_le_pow_right (show 0 < 2 by omega) (show 1 ≤ tfr m + 1 by omega); omega
    by_cases h0 : s.size ≤ p
    · rw [if_pos h0] at h; simp at h
    · rw [if_neg h0] at h
      by_cases h1 : bt s p = 48 ∨ bt s p = 49
      · rw [if_pos h1] at h
        have h2 := (Prod.mk.inj (Option.some.inj h)).2
        omega
      · rw [if_neg h1] at h
        by_cases h2 : 97 ≤ bt s p ∧ bt s p < 102 ∧ m.testBit (bt s p - 97).toNat = false
        · rw [if_pos h2] at h
          obtain ⟨⟨l, ql⟩, hl, h⟩ := Option.bind_eq_some_iff.mp h
          obtain ⟨⟨r, qr⟩, hr, h⟩ := Option.bind_eq_some_iff.mp h
          have h3 := (Prod.mk.inj (Option.some.inj h)).2
          have hs := tfr_step m hm _ (show (bt s p - 97).toNat < 5 by omega) h2.2.2
          have h4 := rdT_small hs.2 hl
          have h5 := rdT_small hs.2 hr
          rw [hs.1] at h4 h5
          have : 2 ^ (tfr m + 1) = 2 ^ tfr m + 2 ^ tfr m := by rw [Nat.pow_succ]; omega
          dsimp only at *
          omega
        · rw [if_neg h2] at h; simp at h
theorem bt_ext {s : ByteArray} {p : Nat} (h : p < s.size) : bt (s.extract p s.size) 0 = bt s p := by
  have h0 : (0 : Int).toNat < (s.extract p s.size).size := by rw [ByteArray.size_extract]; simp; omega
  have h1 : (p : Int).toNat < s.size := by omega
  rw [← bt_at _ 0 h0, ← bt_at s p h1, ByteArray.getElem_extract]
  simp
theorem ext_ext {s : ByteArray} {p : Nat} (h : p < s.size) : (s.extract p s.size).extract 1 (s.extract p s.size).size = s.extract (p + 1) s.size := by
  rw [ByteArray.extract_extract, ByteArray.size_extract]
  congr 1
  omega
theorem letter_eq (c : Int) : impl_isLetter.f c = some (decide (97 ≤ c ∧ c < 102)) := by
  unfold impl_isLetter.f
  by_cases h : c ≥ 97
  · rw [if_pos h]; simp [show 97 ≤ c from h]
  · rw [if_neg h]; simp [show ¬ 97 ≤ c from h]
theorem ask1 {m : Nat} (hm : m < 32) (i : Nat) : Go.bits .and .i64 (shr .i64 (m : Int) (i : Int)) 1 = b2i (m.testBit i) := at1 (by omega)
theorem set1 {m i : Nat} (hm : m < 32) (hi : i < 5) : Go.bits .or .i64 (m : Int) (shl .i64 1 (i : Int)) = ((m ||| 2 ^ i : Nat) : Int) := by
  rw [shl1 (by omega)]
  exact borN (by omega) (by have := Nat.pow_le_pow_right (show 0 < 2 by omega) (show i ≤ 4 by omega); omega)
theorem lettN {c : Int} (h : 97 ≤ c ∧ c < 102) : (c - 97) % 256 = (((c - 97).toNat : Nat) : Int) ∧ (c - 97).toNat < 5 := by omega
theorem readTree_rd (s : ByteArray) : ∀ d p m : Nat, m < 32 → tfr m < d → p ≤ s.size → impl_readTree.f d (s.extract p s.size) (m : Int) = some (match rdT s d p m with
    | none => (none, ⟨#[]⟩)
    | some x => (some x.1, s.extract x.2 s.size))
  | 0, p, m, hm, hd, hp => absurd hd (by omega)
  | d + 1, p, m, hm, hd, hp => by
    rw [impl_readTree.f, rdT]
    have hsz : (s.extract p s.size).size = s.size - p := by rw [ByteArray.size_extract]; omega
    by_cases h0 : s.size ≤ p
    · rw [if_pos (by omega), if_pos h0]
    · rw [if_neg (by omega), if_neg h0, bt_ext (by omega), ext_ext (by omega)]
      by_cases h1 : bt s p = 48 ∨ bt s p = 49
      · rw [if_pos h1, if_pos h1]
      · rw [if_neg h1, if_neg h1, letter_eq, Option.bind_some]
        by_cases h2 : 97 ≤ bt s p ∧ bt s p < 102
        · have hL := lettN h2
          rw [decide_eq_true h2, if_neg (by decide), hL.1, ask1 hm, set1 hm hL.2]
          by_cases h3 : m.testBit (bt s p - 97).toNat = true
          · rw [h3, if_pos (show b2i true = 1 by rfl), if_neg (fun h => by have := h.2.2; cases this)]
          · rw [Bool.not_eq_true] at h3
            have hs := tfr_step m hm _ hL.2 h3
            rw [h3, if_neg (show ¬ b2i false = 1 by decide), if_pos ⟨h2.1, h2.2, rfl⟩, readTree_rd s d (p + 1) _ hs.2 (by omega) (by omega), Option.bind_some]
            cases hl : rdT s d (p + 1) (m ||| 2 ^ (bt s p - 97).toNat) with
            | none => rfl
            | some x =>
              dsimp only
              rw [readTree_rd s d x.2 _ hs.2 (by omega) (rdT_le hl).2, Option.bind_some, Option.bind_some]
              cases hr : rdT s d x.2 (m ||| 2 ^ (bt s p - 97).toNat) with
              | none => rfl
              | some y => rfl
        · rw [decide_eq_false h2, if_pos rfl, if_neg (fun h => h2 ⟨h.1, h.2.1⟩)]
theorem ext_all (s : ByteArray) : s.extract 0 s.size = s := by simp
theorem ext_empty (s : ByteArray) {q : Nat} (hq : q ≤ s.size) : (s.extract q s.size).toList.isEmpty = decide (q = s.size) := by
  by_cases h : q = s.size
  · rw [decide_eq_true h]
    exact impl_readTree.empty (by rw [ByteArray.size_extract]; omega)
  · rw [decide_eq_false h]
    exact impl_readTree.some_ (by rw [ByteArray.size_extract]; omega)
/-- The text is one tree. -/
def whole (s : ByteArray) : Option impl_readTree.T := match rdT s 6 0 0 with
  | none => none
  | some x => if x.2 = s.size then some x.1 else none
theorem whole_yes {s : ByteArray} {t : impl_readTree.T} (h : whole s = some t) : rdT s 6 0 0 = some (t, s.size) := by
  unfold whole at h
  cases hr : rdT s 6 0 0 with
  | none => rw [hr] at h; simp at h
  | some x =>
    rw [hr] at h
    dsimp only at h
    by_cases hx : x.2 = s.size
    · rw [if_pos hx] at h
      obtain ⟨a, b⟩ := x
      dsimp only at hx
      rw [← Option.some.inj h, hx]
    · rw [if_neg hx] at h; simp at h
theorem wholeTree_eq (s : ByteArray) : ∃ t o, impl_wholeTree.f 6 s = some (t, o) ∧ (match whole s with
    | none => t = none ∨ o = false
    | some u => t = some u ∧ o = true) := by
  unfold impl_wholeTree.f
  have h := readTree_rd s 6 0 0 (by decide) (by decide) (by omega)
  rw [ext_all] at h
  rw [show (0 : Int) = ((0 : Nat) : Int) from rfl, h, Option.bind_some]
  refine ⟨_, _, rfl, ?_⟩
  unfold whole
  cases hr : rdT s 6 0 0 with
  | none => exact .inl rfl
  | some x =>
    dsimp only
    rw [ext_empty s (rdT_le (t := x.1) (q := x.2) hr).2]
    by_cases hx : x.2 = s.size
    · rw [if_pos hx]; exact ⟨rfl, decide_eq_true hx⟩
    · rw [if_neg hx]; exact .inr (decide_eq_false hx)

theorem l7End_rd (s : ByteArray) (hs : s.size ≤ 63) : ∀ d p m k : Nat, m < 32 → tfr m < d → p ≤ s.size → 3 * d ≤ k → spec_l7End.f k s (p : Int) (m : Int) = some (match rdT s d p m with
    | none => -1
    | some x => (x.2 : Int))
  | 0, p, m, k, hm, hd, hp, hk => absurd hd (by omega)
  | d + 1, p, m, k, hm, hd, hp, hk => by
    obtain ⟨k, rfl⟩ : ∃ j, k = j + 3 := ⟨k - 3, by omega⟩
    rw [spec_l7End.f, rdT]
    by_cases h0 : s.size ≤ p
    · rw [if_pos (by omega), if_pos h0]
    · rw [if_neg (by omega), if_neg h0, if_pos (by omega), if_pos (by omega)]
      have hj : (if bt s p = 48 then spec_l7End.j0 (k + 2) s (p : Int) (m : Int) true else spec_l7End.j0 (k + 2) s (p : Int) (m : Int) (bt s p == 49)) = spec_l7End.j0 (k + 2) s (p : Int) (m : Int) (decide (bt s p = 48 ∨ bt s p = 49)) := by
        by_cases h : bt s p = 48
        · rw [if_pos h, decide_eq_true (.inl h)]
        · rw [if_neg h]
          congr 1
          rw [Bool.eq_iff_iff, beq_iff_eq, decide_eq_true_eq]
          exact ⟨.inr, fun h1 => h1.resolve_left h⟩
      rw [hj, spec_l7End.j0]
      have hw : wrap64 ((p : Int) + 1) = ((p + 1 : Nat) : Int) := by rw [w64 (by omega) (by omega)]; omega
      have hb := bt_range s p
      have hb1 : wrap64 (bt s p) = bt s p := w64 (by omega) (by omega)
      have hb2 : wrap64 (bt s p - 97) = bt s p - 97 := w64 (by omega) (by omega)
      rw [hw, hb1, hb2, if_pos (show (0 : Int) ≤ (p : Int) by omega), if_pos (show (p : Int) < (s.size : Int) by omega), spec_l1In_eq, Option.bind_some]
      by_cases h1 : bt s p = 48 ∨ bt s p = 49
      · rw [if_pos (decide_eq_true h1), if_pos h1]
      · rw [if_neg (by rw [decide_eq_false h1]; decide), if_neg h1]
        by_cases h2 : 97 ≤ bt s p ∧ bt s p < 102
        · have hL := lettN h2
          have hL2 : bt s p - 97 = (((bt s p - 97).toNat : Nat) : Int) := by omega
          rw [if_pos (decide_eq_true (by omega)), if_pos (by omega), spec_l7End.j1, hw]
          rw [hL2, ask1 hm, set1 hm hL.2, Int.toNat_natCast, if_pos (show (0 : Int) ≤ (((bt s p - 97).toNat : Nat) : Int) by omega)]
          by_cases h3 : m.testBit (bt s p - 97).toNat = true
          · rw [h3, if_pos (show (b2i true == 1) = true by rfl), if_neg (fun h => by have := h.2.2; cases this)]
          · rw [Bool.not_eq_true] at h3
            have hst := tfr_step m hm _ hL.2 h3
            rw [h3, if_neg (show ¬ (b2i false == 1) = true by decide), if_pos ⟨by omega, by omega, rfl⟩, l7End_rd s hs d (p + 1) _ k hst.2 (by omega) (by omega) (by omega), Option.bind_some]
            cases hl : rdT s d (p + 1) (m ||| 2 ^ (bt s p - 97).toNat) with
            | none => rfl
            | some x =>
              dsimp only
              rw [if_neg (show ¬ ((x.2 : Nat) : Int) < 0 from Int.not_lt.mpr (Int.natCast_nonneg _)), l7End_rd s hs d x.2 _ k hst.2 (by omega) (rdT_le (t := x.1) (q := x.2) hl).2 (by omega), Option.bind_some, Option.bind_some]
              cases hr : rdT s d x.2 (m ||| 2 ^ (bt s p - 97).toNat) with
              | none => rfl
              | some y => rfl
        · rw [if_neg (by rw [decide_eq_false (by omega)]; decide), spec_l7End.j1, if_pos rfl, if_neg (fun h => h2 ⟨h.1, h.2.1⟩)]
theorem IsTree_eq (s : ByteArray) : Ev (fun k => spec_IsTree.f k s) (whole s).isSome := by
  have hsm : ∀ t, whole s = some t → s.size ≤ 63 := by
    intro t h
    have h1 := rdT_small (by decide) (whole_yes h)
    have : (2 : Nat) ^ (tfr 0 + 1) = 64 := by decide
    omega
  refine ⟨18, fun k hk => ?_⟩
  unfold spec_IsTree.f
  dsimp only
  by_cases h0 : (s.size : Int) ≤ 63
  · rw [if_pos h0]
    have h := l7End_rd s (by omega) 6 0 0 k (by decide) (by decide) (by omega) (by omega)
    by_cases h1 : (s.size : Int) > 0
    · rw [if_pos h1, show (0 : Int) = ((0 : Nat) : Int) from rfl, h, Option.bind_some]
      unfold whole
      cases hr : rdT s 6 0 0 with
      | none =>
        dsimp only
        rw [Option.some.injEq, Option.isSome_none, beq_eq_false_iff_ne]
        omega
      | some x =>
        dsimp only
        by_cases hx : x.2 = s.size
        · rw [if_pos hx, hx]; simp
        · rw [if_neg hx]
          rw [Option.some.injEq, Option.isSome_none, beq_eq_false_iff_ne]
          omega
    · rw [if_neg h1]
      cases hw : whole s with
      | none => rfl
      | some t => have := (rdT_le (whole_yes hw)).1; omega
  · rw [if_neg h0]
    cases hw : whole s with
    | none => rfl
    | some t => have := hsm t hw; omega

theorem impl_isInput_eq {n : Nat} (h : n ≤ 62) (x : Int) : impl_isInput.f n x = some (isInp n x) := by
  unfold impl_isInput.f
  by_cases h0 : x ≥ 0
  · rw [if_pos h0, if_pos (Int.natCast_nonneg _), shl1 h, isInp_lt h0]
  · rw [if_neg h0, show isInp n x = false from decide_eq_false fun h3 => h0 h3.1]

theorem l7Skip_rd (s : ByteArray) (hs : s.size ≤ 63) : ∀ d p m k : Nat, ∀ x, rdT s d p m = some x → 2 * d ≤ k → spec_l7Skip.f k s (p : Int) = some (x.2 : Int)
  | 0, p, m, k, x, h, hk => by simp [rdT] at h
  | d + 1, p, m, k, x, h, hk => by
    obtain ⟨k, rfl⟩ : ∃ j, k = j + 2 := ⟨k - 2, by omega⟩
    rw [rdT] at h
    rw [spec_l7Skip.f]
    by_cases h0 : s.size ≤ p
    · rw [if_pos h0] at h; simp at h
    · rw [if_neg h0] at h
      have hj : (if bt s p = 48 then spec_l7Skip.j0 (k + 1) s (p : Int) true else spec_l7Skip.j0 (k + 1) s (p : Int) (bt s p == 49)) = spec_l7Skip.j0 (k + 1) s (p : Int) (decide (bt s p = 48 ∨ bt s p = 49)) := by
        by_cases h : bt s p = 48
        · rw [if_pos h, decide_eq_true (.inl h)]
        · rw [if_neg h]
          congr 1
          rw [Bool.eq_iff_iff, beq_iff_eq, decide_eq_true_eq]
          exact ⟨.inr, fun h1 => h1.resolve_left h⟩
      have hw : wrap64 ((p : Int) + 1) = ((p + 1 : Nat) : Int) := by rw [w64 (by omega) (by omega)]; omega
      rw [if_pos (by omega), if_pos (by omega), hj, spec_l7Skip.j0, hw]
      by_cases h1 : bt s p = 48 ∨ bt s p = 49
      · rw [if_pos h1] at h
        rw [if_pos (decide_eq_true h1), ← Option.some.inj h]
      · rw [if_neg h1] at h
        rw [if_neg (by rw [decide_eq_false h1]; decide)]
        by_cases h2 : 97 ≤ bt s p ∧ bt s p < 102 ∧ m.testBit (bt s p - 97).toNat = false
        · rw [if_pos h2] at h
          obtain ⟨⟨l, ql⟩, hl, h⟩ := Option.bind_eq_some_iff.mp h
          obtain ⟨⟨r, qr⟩, hr, h⟩ := Option.bind_eq_some_iff.mp h
          rw [l7Skip_rd s hs d (p + 1) _ k _ hl (by omega), Option.bind_some, l7Skip_rd s hs d ql _ k _ hr (by omega), Option.bind_some, ← Option.some.inj h]
        · rw [if_neg h2] at h; simp at h
theorem bit1 (y : Int) : Go.bits .and .i64 y 1 = 0 ∨ Go.bits .and .i64 y 1 = 1 := by
  have e : Go.bits .and .i64 y 1 = IntKind.i64.wrap (((BitVec.ofInt 64 y &&& BitVec.ofInt 64 1).toNat : Nat) : Int) := rfl
  rw [e, BitVec.toNat_and, show (BitVec.ofInt 64 1).toNat = 1 by decide, Nat.and_one_is_mod]
  rcases Nat.mod_two_eq_zero_or_one (BitVec.ofInt 64 y).toNat with h | h
  · exact .inl (by rw [h]; rfl)
  · exact .inr (by rw [h]; rfl)
theorem l7Run_rd (s : ByteArray) (hs : s.size ≤ 63) (x : Int) : ∀ d p m k : Nat, ∀ t q, ∀ n, rdT s d p m = some (t, q) → 2 * d ≤ k → spec_l7Run.l0 k s x (p : Int) n = some (impl_tree_ask.g x t n)
  | 0, p, m, k, t, q, n, h, hk => by simp [rdT] at h
  | d + 1, p, m, k, t, q, n, h, hk => by
    obtain ⟨k, rfl⟩ : ∃ j, k = j + 2 := ⟨k - 2, by omega⟩
    rw [rdT] at h
    rw [spec_l7Run.l0]
    by_cases h0 : s.size ≤ p
    · rw [if_pos h0] at h; simp at h
    · rw [if_neg h0] at h
      have hj : (if bt s p = 48 then spec_l7Run.j1 (k + 1) s x (p : Int) n false else spec_l7Run.j1 (k + 1) s x (p : Int) n (bt s p != 49)) = spec_l7Run.j1 (k + 1) s x (p : Int) n (decide (¬ (bt s p = 48 ∨ bt s p = 49))) := by
        by_cases h : bt s p = 48
        · rw [if_pos h, decide_eq_false (fun h1 => h1 (.inl h))]
        · rw [if_neg h]
          congr 1
          rw [Bool.eq_iff_iff, bne_iff_ne, decide_eq_true_eq]
          exact ⟨fun h1 h2 => h2.elim h h1, fun h1 h2 => h1 (.inr h2)⟩
      have hw : wrap64 ((p : Int) + 1) = ((p + 1 : Nat) : Int) := by rw [w64 (by omega) (by omega)]; omega
      rw [if_pos (by omega), if_pos (by omega), hj, spec_l7Run.j1, hw]
      simp only [if_pos (show (0 : Int) ≤ (p : Int) by omega), if_pos (show (p : Int) < (s.size : Int) by omega)]
      by_cases h1 : bt s p = 48 ∨ bt s p = 49
      · rw [if_pos h1] at h
        rw [if_neg (by rw [decide_eq_false (fun h2 => h2 h1)]; decide), ← (Prod.mk.inj (Option.some.inj h)).1, impl_tree_ask.g]
      · rw [if_neg h1] at h
        rw [if_pos (decide_eq_true h1)]
        by_cases h2 : 97 ≤ bt s p ∧ bt s p < 102 ∧ m.testBit (bt s p - 97).toNat = false
        · rw [if_pos h2] at h
          obtain ⟨⟨l, ql⟩, hl, h⟩ := Option.bind_eq_some_iff.mp h
          obtain ⟨⟨r, qr⟩, hr, h⟩ := Option.bind_eq_some_iff.mp h
          rw [← (Prod.mk.inj (Option.some.inj h)).1, impl_tree_ask.g]
          rcases bit1 (shr .i64 x ((bt s p - 97) % 256)) with hb | hb
          · rw [hb, if_neg (by decide), if_pos rfl]
            exact l7Run_rd s hs x d (p + 1) _ k _ _ _ hl (by omega)
          · rw [hb, if_pos rfl, if_neg (by decide), l7Skip_rd s hs d (p + 1) _ k _ hl (by omega), Option.bind_some]
            exact l7Run_rd s hs x d ql _ k _ _ _ hr (by omega)
        · rw [if_neg h2] at h; simp at h
theorem whole_size {s : ByteArray} {t : impl_readTree.T} (h : whole s = some t) : s.size ≤ 63 := by
  have h1 := rdT_small (by decide) (whole_yes h)
  have : (2 : Nat) ^ (tfr 0 + 1) = 64 := by decide
  omega
theorem l7Run_eq {s : ByteArray} {t : impl_readTree.T} (h : whole s = some t) (x : Int) : Ev (fun k => spec_l7Run.f k s x) (impl_tree_ask.g x t 0) := by
  refine ⟨12, fun k hk => ?_⟩
  unfold spec_l7Run.f
  exact l7Run_rd s (whole_size h) x 6 0 0 k t s.size 0 (whole_yes h) (by omega)
def queries (s : ByteArray) (x : Int) : Int := match whole s with
  | none => -1
  | some t => if 0 ≤ x ∧ x ≤ 31 then (impl_tree_ask.g x t 0).2 else -1
theorem spec_QueriesOf_eq (s : ByteArray) (x : Int) : Ev (fun k => spec_QueriesOf.f k s x) (queries s x) := by
  unfold spec_QueriesOf.f queries
  refine ev1 (IsTree_eq s) (G := fun k => if (whole s).isSome = true then ((spec_l1In.f x 0 31).bind fun t110 => (if t110 = true then ((spec_l7Run.f k s x).bind fun bt111 => (some bt111.2)) else (some (-1)))) else (some (-1))) (fun k hk => by rw [hk]; rfl) ?_
  cases hw : whole s with
  | none => exact Ev.now _
  | some t =>
    dsimp only
    simp only [Option.isSome_some, if_true, spec_l1In_eq, Option.bind_some]
    by_cases hx : 0 ≤ x ∧ x ≤ 31
    · simp only [decide_eq_true hx, if_true, if_pos hx]
      exact ev1' (l7Run_eq hw x) fun k hk => by rw [hk]; rfl
    · rw [if_neg hx, decide_eq_false hx]
      exact Ev.now _
theorem impl_QueriesOf_eq (s : ByteArray) (x : Int) : impl_QueriesOf.f s x = some (queries s x) := by
  unfold impl_QueriesOf.f queries
  obtain ⟨t, o, he, hm⟩ := wholeTree_eq s
  rw [he, Option.bind_some]
  cases hw : whole s with
  | none =>
    rw [hw] at hm
    dsimp only at hm ⊢
    rcases hm with rfl | rfl
    · rfl
    · cases t <;> rfl
  | some u =>
    rw [hw] at hm
    obtain ⟨rfl, rfl⟩ := hm
    dsimp only
    rw [if_pos rfl, show (5 : Int) = ((5 : Nat) : Int) from rfl, impl_isInput_eq (by omega), Option.bind_some]
    have hi : isInp ((5 : Nat) : Int) x = decide (0 ≤ x ∧ x ≤ 31) := by
      unfold isInp
      rw [inp_size]
      exact decide_eq_decide.mpr (by omega)
    rw [hi]
    by_cases hx : 0 ≤ x ∧ x ≤ 31
    · rw [if_pos (decide_eq_true hx), if_pos hx]
    · rw [if_neg (by rw [decide_eq_false hx]; decide), if_neg hx]
theorem FnExactQueriesOf (s : ByteArray) (x : Int) (hs : s.size ≤ 140737488351232) (hx : (Lit.int .i64 x).wf = true) : ∃ k, laws_FnExactQueriesOf.f k s x = some true := by
  refine Ev.rounds ?_
  unfold laws_FnExactQueriesOf.f
  by_cases h : (s.size : Int) > 1048576
  · simp only [if_pos h]; exact Ev.now _
  · simp only [if_neg h]
    exact ev1' (spec_QueriesOf_eq s x) fun k hk => by rw [hk, Option.bind_some, impl_QueriesOf_eq, Option.bind_some, if_pos rfl]

end Go.Proofs.Ytfpcgcmajdebmaa.Pure
