/- What the law FnExactTableOfFormula comes to, over numbers and lists alone: at every input both sides tell the same. No conditions but the kinds of the numbers. -/
import Derived.Test.YtfpcgcmajdebmaaMath
import Derived.Test.YtfpcgcmajdebmaaWrd
import Derived.Test.YtfpcgcmajdebmaaPx1
import Derived.Test.YtfpcgcmajdebmaaPx10
import Derived.Test.YtfpcgcmajdebmaaPx2
import Derived.Test.YtfpcgcmajdebmaaPx3
import Derived.Test.YtfpcgcmajdebmaaPx4
import Derived.Test.YtfpcgcmajdebmaaPx5
import Derived.Test.YtfpcgcmajdebmaaPx6
import Derived.Test.YtfpcgcmajdebmaaPx7
import Derived.Test.YtfpcgcmajdebmaaPx8
import Derived.Test.YtfpcgcmajdebmaaPx9
namespace Go.Proofs.Ytfpcgcmajdebmaa.Pure
open Go.RowKit Go.Proofs.Ytfpcgcmajdebmaa.P Go.Proofs.YtfpcgcmajdebmaaW.PrintWords Go.Proofs.YtfpcgcmajdebmaaW.PrintLast Go.Proofs.YtfpcgcmajdebmaaW.PrintMore Go.Proofs.YtfpcgcmajdebmaaMath
set_option linter.unusedVariables false
set_option linter.unusedSimpArgs false

theorem spec_l1In_eq (a b c : Int) : spec_l1In.f a b c = some (decide (b ≤ a ∧ a ≤ c)) := by
  unfold spec_l1In.f
  by_cases h : b ≤ a
  · rw [if_pos h]; simp [h]
  · rw [if_neg h]; simp [h]

theorem impl_isBits_eq (b : Int) : impl_isBits.f b = some (decide (0 ≤ b ∧ b ≤ 5)) := by
  unfold impl_isBits.f
  by_cases h : b ≥ 0
  · rw [if_pos h]; simp [show 0 ≤ b from h]
  · rw [if_neg h]; simp [show ¬ 0 ≤ b from h]

theorem impl_makeTable_word_eq (g : Nat → Bool) : ∀ N, N ≤ 32 → impl_makeTable.word g N = ((wordN g N : Nat) : Int) := by
  intro N
  induction N with
  | zero => intro _; rfl
  | succ N ih =>
    intro hN
    simp only [impl_makeTable.word]
    rw [ih (by omega)]
    by_cases hg : g N = true
    · rw [if_pos hg, wordN_or (by omega) hg]
    · rw [if_neg hg]
      simp only [wordN]
      rw [if_neg hg]

theorem laws_eqTable_same (b W : Int) : laws_eqTable.f b W b W = some true := by
  unfold laws_eqTable.f
  rw [if_pos rfl, if_pos rfl]

/-- Reading a formula, from place p on. -/
def rdF (s : ByteArray) : Nat → Nat → Option (impl_readPart.T × Nat)
  | 0, _ => none
  | d + 1, p => if s.size ≤ p then none else if (97 ≤ bt s p ∧ bt s p < 102) ∨ bt s p = 48 ∨ bt s p = 49 then some (.leaf (bt s p), p + 1) else
      if bt s p = 33 then (rdF s d (p + 1)).bind fun x => some (.un (bt s p) x.1, x.2)
      else if bt s p = 38 ∨ bt s p = 124 ∨ bt s p = 94 then (rdF s d (p + 1)).bind fun x => (rdF s d x.2).bind fun y => some (.bin (bt s p) x.1 y.1, y.2)
      else none
/-- What a read formula is: one of three. -/
theorem rdF_cases {s : ByteArray} {d p : Nat} {t : impl_readPart.T} {q : Nat} (h : rdF s (d + 1) p = some (t, q)) : p < s.size ∧
    ((((97 ≤ bt s p ∧ bt s p < 102) ∨ bt s p = 48 ∨ bt s p = 49) ∧ t = .leaf (bt s p) ∧ q = p + 1) ∨
     (bt s p = 33 ∧ ∃ l, t = .un 33 l ∧ rdF s d (p + 1) = some (l, q)) ∨
     ((bt s p = 38 ∨ bt s p = 124 ∨ bt s p = 94) ∧ ∃ l r m, t = .bin (bt s p) l r ∧ rdF s d (p + 1) = some (l, m) ∧ rdF s d m = some (r, q))) := by
  rw [rdF] at h
  by_cases h0 : s.size ≤ p
  · rw [if_pos h0] at h; simp at h
  · rw [if_neg h0] at h
    refine ⟨by omega, ?_⟩
    by_cases h1 : (97 ≤ bt s p ∧ bt s p < 102) ∨ bt s p = 48 ∨ bt s p = 49
    · rw [if_pos h1] at h
      obtain ⟨rfl, rfl⟩ := Prod.mk.inj (Option.some.inj h)
      exact .inl ⟨h1, rfl, rfl⟩
    · rw [if_neg h1] at h
      by_cases h2 : bt s p = 33
      · rw [if_pos h2] at h
        obtain ⟨⟨l, ql⟩, hl, h⟩ := Option.bind_eq_some_iff.mp h
        obtain ⟨rfl, rfl⟩ := Prod.mk.inj (Option.some.inj h)
        exact .inr (.inl ⟨h2, l, by rw [h2], hl⟩)
      · rw [if_neg h2] at h
        by_cases h3 : bt s p = 38 ∨ bt s p = 124 ∨ bt s p = 94
        · rw [if_pos h3] at h
          obtain ⟨⟨l, ql⟩, hl, h⟩ := Option.bind_eq_some_iff.mp h
          obtain ⟨⟨r, qr⟩, hr, h⟩ := Option.bind_eq_some_iff.mp h
          obtain ⟨rfl, rfl⟩ := Prod.mk.inj (Option.some.inj h)
          exact .inr (.inr ⟨h3, l, r, ql, rfl, hl, hr⟩)
        · rw [if_neg h3] at h; simp at h
theorem rdF_le {s : ByteArray} : ∀ {d p : Nat} {t : impl_readPart.T} {q : Nat}, rdF s d p = some (t, q) → p < q ∧ q ≤ s.size
  | 0, p, t, q, h => by simp [rdF] at h
  | d + 1, p, t, q, h => by
    obtain ⟨hp, h | h | h⟩ := rdF_cases h
    · omega
    · obtain ⟨_, l, _, hl⟩ := h
      have := rdF_le hl
      omega
    · obtain ⟨_, l, r, m, _, hl, hr⟩ := h
      have := rdF_le hl
      have := rdF_le hr
      omega
theorem fbt_ext {s : ByteArray} {p : Nat} (h : p < s.size) : bt (s.extract p s.size) 0 = bt s p := by
  have h0 : (0 : Int).toNat < (s.extract p s.size).size := by rw [ByteArray.size_extract]; simp; omega
  have h1 : (p : Int).toNat < s.size := by omega
  rw [← bt_at _ 0 h0, ← bt_at s p h1, ByteArray.getElem_extract]
  simp
theorem fext_ext {s : ByteArray} {p : Nat} (h : p < s.size) : (s.extract p s.size).extract 1 (s.extract p s.size).size = s.extract (p + 1) s.size := by
  rw [ByteArray.extract_extract, ByteArray.size_extract]
  congr 1
  omega
theorem fletter_eq (c : Int) : impl_isLetter.f c = some (decide (97 ≤ c ∧ c < 102)) := by
  unfold impl_isLetter.f
  by_cases h : c ≥ 97
  · rw [if_pos h]; simp [show 97 ≤ c from h]
  · rw [if_neg h]; simp [show ¬ 97 ≤ c from h]
theorem readPart_rd (s : ByteArray) : ∀ d p : Nat, s.size < p + d → p ≤ s.size → impl_readPart.f d (s.extract p s.size) = some (match rdF s d p with
    | none => (none, ⟨#[]⟩)
    | some x => (some x.1, s.extract x.2 s.size))
  | 0, p, hd, hp => absurd hd (by omega)
  | d + 1, p, hd, hp => by
    rw [impl_readPart.f, rdF]
    have hsz : (s.extract p s.size).size = s.size - p := by rw [ByteArray.size_extract]; omega
    by_cases h0 : s.size ≤ p
    · rw [if_pos (by omega), if_pos h0]
    · rw [if_neg (by omega), if_neg h0, fbt_ext (by omega), fext_ext (by omega), fletter_eq, Option.bind_some]
      by_cases h1 : 97 ≤ bt s p ∧ bt s p < 102
      · rw [if_pos (decide_eq_true h1), if_pos (.inl h1)]
      · rw [if_neg (by rw [decide_eq_false h1]; decide)]
        by_cases h2 : bt s p = 48
        · rw [if_pos h2, if_pos (.inr (.inl h2))]
        · rw [if_neg h2]
          by_cases h3 : bt s p = 49
          · rw [if_pos h3, if_pos (.inr (.inr h3))]
          · rw [if_neg h3, if_neg (show ¬ ((97 ≤ bt s p ∧ bt s p < 102) ∨ bt s p = 48 ∨ bt s p = 49) from fun h => h.elim h1 fun h => h.elim h2 h3)]
            by_cases h4 : bt s p = 33
            · rw [if_pos h4, if_pos h4, readPart_rd s d (p + 1) (by omega) (by omega), Option.bind_some]
              cases rdF s d (p + 1) with
              | none => rfl
              | some x => rfl
            · rw [if_neg h4, if_neg h4]
              by_cases h5 : bt s p = 38 ∨ bt s p = 124 ∨ bt s p = 94
              · rw [if_pos h5, if_pos h5, readPart_rd s d (p + 1) (by omega) (by omega), Option.bind_some]
                cases hl : rdF s d (p + 1) with
                | none => rfl
                | some x =>
                  have hx := rdF_le (t := x.1) (q := x.2) hl
                  dsimp only
                  rw [readPart_rd s d x.2 (by omega) hx.2, Option.bind_some, Option.bind_some]
                  cases rdF s d x.2 with
                  | none => rfl
                  | some y => rfl
              · rw [if_neg h5, if_neg h5]
/-- The text is one formula. -/
def wholeF (s : ByteArray) : Option impl_readPart.T := if s.size ≤ 60 then match rdF s 61 0 with
  | none => none
  | some x => if x.2 = s.size then some x.1 else none
  else none
theorem wholeF_yes {s : ByteArray} {t : impl_readPart.T} (h : wholeF s = some t) : s.size ≤ 60 ∧ rdF s 61 0 = some (t, s.size) := by
  unfold wholeF at h
  by_cases h6 : s.size ≤ 60
  · rw [if_pos h6] at h
    refine ⟨h6, ?_⟩
    cases hr : rdF s 61 0 with
    | none => rw [hr] at h; simp at h
    | some x =>
      rw [hr] at h
      dsimp only at h
      by_cases hx : x.2 = s.size
      · rw [if_pos hx] at h
        obtain ⟨a, b⟩ := x
        dsimp only at hx
        rw [← Option.some.inj h, hx]
      · rw [if_neg hx] at h; simp at h
  · rw [if_neg h6] at h; simp at h
theorem fext_empty (s : ByteArray) {q : Nat} (hq : q ≤ s.size) : (s.extract q s.size).toList.isEmpty = decide (q = s.size) := by
  by_cases h : q = s.size
  · rw [decide_eq_true h]
    exact impl_readPart.empty (by rw [ByteArray.size_extract]; omega)
  · rw [decide_eq_false h]
    exact impl_readPart.some_ (by rw [ByteArray.size_extract]; omega)
theorem readFormula_eq (s : ByteArray) : ∃ t o, impl_readFormula.f 61 s = some (t, o) ∧ (match wholeF s with
    | none => t = none ∨ o = false
    | some u => t = some u ∧ o = true) := by
  unfold impl_readFormula.f wholeF
  by_cases h6 : s.size ≤ 60
  · rw [if_neg (by omega), if_pos h6]
    have h := readPart_rd s 61 0 (by omega) (by omega)
    rw [show s.extract 0 s.size = s by simp] at h
    rw [h, Option.bind_some]
    refine ⟨_, _, rfl, ?_⟩
    cases hr : rdF s 61 0 with
    | none => exact .inl rfl
    | some x =>
      dsimp only
      rw [fext_empty s (rdF_le (t := x.1) (q := x.2) hr).2]
      by_cases hx : x.2 = s.size
      · rw [if_pos hx]; exact ⟨rfl, decide_eq_true hx⟩
      · rw [if_neg hx]; exact .inr (decide_eq_false hx)
  · rw [if_pos (by omega), if_neg h6]
    exact ⟨none, false, rfl, .inl rfl⟩

theorem l5End_rd (s : ByteArray) (hs : s.size ≤ 60) : ∀ d p k : Nat, s.size < p + d → p ≤ s.size → 3 * d ≤ k → spec_l5End.f k s (p : Int) = some (match rdF s d p with
    | none => -1
    | some x => (x.2 : Int))
  | 0, p, k, hd, hp, hk => absurd hd (by omega)
  | d + 1, p, k, hd, hp, hk => by
    obtain ⟨k, rfl⟩ : ∃ j, k = j + 3 := ⟨k - 3, by omega⟩
    rw [spec_l5End.f, rdF]
    by_cases h0 : s.size ≤ p
    · rw [if_pos (by omega), if_pos h0]
    · rw [if_neg (by omega), if_neg h0, if_pos (by omega), if_pos (by omega)]
      have hw : wrap64 ((p : Int) + 1) = ((p + 1 : Nat) : Int) := by rw [w64 (by omega) (by omega)]; omega
      have hj : ∀ c : Int, (if c = 97 then (spec_l5End.j0 (k + 2) s (p : Int) c (c == 97)) else (if c = 98 then (spec_l5End.j0 (k + 2) s (p : Int) c (c == 98)) else (if c = 99 then (spec_l5End.j0 (k + 2) s (p : Int) c (c == 99)) else (if c = 100 then (spec_l5End.j0 (k + 2) s (p : Int) c (c == 100)) else (if c = 101 then (spec_l5End.j0 (k + 2) s (p : Int) c (c == 101)) else (if c = 48 then (spec_l5End.j0 (k + 2) s (p : Int) c (c == 48)) else (spec_l5End.j0 (k + 2) s (p : Int) c (c == 49)))))))) = spec_l5End.j0 (k + 2) s (p : Int) c (decide ((97 ≤ c ∧ c < 102) ∨ c = 48 ∨ c = 49)) := by
        intro c
        have e : ∀ v : Int, c = v → ((97 ≤ v ∧ v < 102) ∨ v = 48 ∨ v = 49) → (c == v) = decide ((97 ≤ c ∧ c < 102) ∨ c = 48 ∨ c = 49) := by
          intro v h1 h2
          subst h1
          rw [decide_eq_true h2]
          simp
        by_cases h1 : c = 97
        · rw [if_pos h1, e 97 h1 (by omega)]
        rw [if_neg h1]
        by_cases h2 : c = 98
        · rw [if_pos h2, e 98 h2 (by omega)]
        rw [if_neg h2]
        by_cases h3 : c = 99
        · rw [if_pos h3, e 99 h3 (by omega)]
        rw [if_neg h3]
        by_cases h4 : c = 100
        · rw [if_pos h4, e 100 h4 (by omega)]
        rw [if_neg h4]
        by_cases h5 : c = 101
        · rw [if_pos h5, e 101 h5 (by omega)]
        rw [if_neg h5]
        by_cases h6 : c = 48
        · rw [if_pos h6, e 48 h6 (by omega)]
        rw [if_neg h6]
        congr 1
        rw [Bool.eq_iff_iff, beq_iff_eq, decide_eq_true_eq]
        omega
      rw [hj, spec_l5End.j0, hw]
      by_cases h1 : (97 ≤ bt s p ∧ bt s p < 102) ∨ bt s p = 48 ∨ bt s p = 49
      · rw [if_pos (decide_eq_true h1), if_pos h1]
      · rw [if_neg (by rw [decide_eq_false h1]; decide), if_neg h1]
        by_cases h2 : bt s p = 33
        · rw [if_pos h2, if_pos h2, l5End_rd s hs d (p + 1) (k + 1) (by omega) (by omega) (by omega), Option.bind_some]
          cases rdF s d (p + 1) with
          | none => rfl
          | some x => rfl
        · rw [if_neg h2, if_neg h2]
          have hj2 : ∀ c : Int, (if c = 38 then (spec_l5End.j1 (k + 1) s (p : Int) (c == 38)) else (if c = 124 then (spec_l5End.j1 (k + 1) s (p : Int) (c == 124)) else (spec_l5End.j1 (k + 1) s (p : Int) (c == 94)))) = spec_l5End.j1 (k + 1) s (p : Int) (decide (c = 38 ∨ c = 124 ∨ c = 94)) := by
            intro c
            by_cases h1 : c = 38
            · rw [if_pos h1, decide_eq_true (.inl h1), h1]; rfl
            rw [if_neg h1]
            by_cases h2 : c = 124
            · rw [if_pos h2, decide_eq_true (.inr (.inl h2)), h2]; rfl
            rw [if_neg h2]
            congr 1
            rw [Bool.eq_iff_iff, beq_iff_eq, decide_eq_true_eq]
            omega
          rw [hj2, spec_l5End.j1, hw]
          by_cases h3 : bt s p = 38 ∨ bt s p = 124 ∨ bt s p = 94
          · rw [if_pos (decide_eq_true h3), if_pos h3, l5End_rd s hs d (p + 1) k (by omega) (by omega) (by omega), Option.bind_some]
            cases hl : rdF s d (p + 1) with
            | none => rfl
            | some x =>
              have hx := rdF_le (t := x.1) (q := x.2) hl
              dsimp only
              rw [if_neg (show ¬ ((x.2 : Nat) : Int) < 0 from Int.not_lt.mpr (Int.natCast_nonneg _)), l5End_rd s hs d x.2 k (by omega) hx.2 (by omega), Option.bind_some, Option.bind_some]
              cases rdF s d x.2 with
              | none => rfl
              | some y => rfl
          · rw [if_neg (by rw [decide_eq_false h3]; decide), if_neg h3]
theorem IsFormula_eq (s : ByteArray) : Ev (fun k => spec_IsFormula.f k s) (wholeF s).isSome := by
  refine ⟨183, fun k hk => ?_⟩
  unfold spec_IsFormula.f
  dsimp only
  by_cases h0 : (s.size : Int) ≤ 60
  · rw [if_pos h0]
    have h := l5End_rd s (by omega) 61 0 k (by omega) (by omega) (by omega)
    unfold wholeF
    rw [if_pos (show s.size ≤ 60 by omega)]
    by_cases h1 : (s.size : Int) > 0
    · rw [if_pos h1, show (0 : Int) = ((0 : Nat) : Int) from rfl, h, Option.bind_some]
      cases hr : rdF s 61 0 with
      | none =>
        dsimp only
        rw [Option.some.injEq, Option.isSome_none, beq_eq_false_iff_ne]
        omega
      | some x =>
        dsimp only
        by_cases hx : x.2 = s.size
        · rw [if_pos hx, hx]; simp
        · rw [if_neg hx]
          rw [Option.some.injEq, Option.isSome_none, beq_eq_false_iff_ne]
          omega
    · rw [if_neg h1, rdF, if_pos (by omega)]
      rfl
  · rw [if_neg h0]
    unfold wholeF
    rw [if_neg (by omega)]
    rfl
/-- The value of a formula. -/
def vlF (x : Int) : impl_readPart.T → Bool
  | .leaf c => if c = 48 then false else if c = 49 then true else (Go.bits .and .i64 (shr .i64 x ((c - 97) % 256)) 1 == 1)
  | .un c l => !(vlF x l)
  | .bin c l h => if c = 38 then (vlF x l && vlF x h) else if c = 124 then (vlF x l || vlF x h) else (vlF x l != vlF x h)
theorem l5Value_rd (s : ByteArray) (hs : s.size ≤ 60) (x : Int) : ∀ d p k : Nat, ∀ t q, s.size < p + d → rdF s d p = some (t, q) → 3 * d ≤ k → spec_l5Value.f k s (p : Int) x = some (vlF x t)
  | 0, p, k, t, q, hd, h, hk => by simp [rdF] at h
  | d + 1, p, k, t, q, hd, h, hk => by
    obtain ⟨k, rfl⟩ : ∃ j, k = j + 1 := ⟨k - 1, by omega⟩
    have hw : p < s.size → wrap64 ((p : Int) + 1) = ((p + 1 : Nat) : Int) := by intro hp; rw [w64 (by omega) (by omega)]; omega
    obtain ⟨hp, h | h | h⟩ := rdF_cases h
    · obtain ⟨h1, rfl, _⟩ := h
      rw [spec_l5Value.f, if_pos (by omega), if_pos (by omega), vlF]
      by_cases h2 : bt s p = 48
      · rw [if_pos h2, if_pos h2]
      rw [if_neg h2, if_neg h2]
      by_cases h3 : bt s p = 49
      · rw [if_pos h3, if_pos h3]
      rw [if_neg h3, if_neg h3, if_neg (by omega), if_neg (by omega), if_neg (by omega), if_neg (by omega)]
    · obtain ⟨h1, l, rfl, hl⟩ := h
      rw [spec_l5Value.f, if_pos (by omega), if_pos (by omega), if_neg (by omega), if_neg (by omega), if_pos h1, hw hp, l5Value_rd s hs x d (p + 1) k l q (by omega) hl (by omega), Option.bind_some, vlF]
    · obtain ⟨h1, l, r, m, rfl, hl, hr⟩ := h
      have hm := rdF_le hl
      have hE := l5End_rd s hs d (p + 1) k (by omega) (by omega) (by omega)
      rw [hl] at hE
      dsimp only at hE
      have e1 := l5Value_rd s hs x d (p + 1) k l m (by omega) hl (by omega)
      have e2 := l5Value_rd s hs x d m k r q (by omega) hr (by omega)
      rw [spec_l5Value.f, if_pos (by omega), if_pos (by omega), if_neg (by omega), if_neg (by omega), if_neg (by omega), hw hp, vlF]
      simp only [e1, hE, e2, Option.bind_some]
      rcases h1 with h1 | h1 | h1
      · rw [h1, if_pos rfl, if_pos rfl]
        cases vlF x l <;> rfl
      · rw [h1, if_neg (show ¬ (124 : Int) = 38 by decide), if_pos rfl, if_neg (show ¬ (124 : Int) = 38 by decide), if_pos rfl]
        cases vlF x l <;> rfl
      · rw [h1, if_neg (show ¬ (94 : Int) = 38 by decide), if_neg (show ¬ (94 : Int) = 124 by decide), if_pos rfl, if_neg (show ¬ (94 : Int) = 38 by decide), if_neg (show ¬ (94 : Int) = 124 by decide)]
theorem wordN_bit (g : Nat → Bool) : ∀ N i, (wordN g N).testBit i = (decide (i < N) && g i)
  | 0, i => by simp [wordN]
  | N + 1, i => by
    have ih := wordN_bit g N i
    simp only [wordN]
    by_cases hg : g N = true
    · rw [if_pos hg, Nat.testBit_or, ih, Nat.testBit_two_pow]
      by_cases h : N = i
      · subst h; simp [hg]
      · rw [decide_eq_false h, Bool.or_false]
        by_cases h2 : i < N
        · rw [decide_eq_true h2, decide_eq_true (show i < N + 1 by omega)]
        · rw [decide_eq_false h2, decide_eq_false (show ¬ i < N + 1 by omega)]
    · rw [if_neg hg, ih]
      by_cases h : i = N
      · subst h; simp [hg]
      · by_cases h2 : i < N
        · rw [decide_eq_true h2, decide_eq_true (show i < N + 1 by omega)]
        · rw [decide_eq_false h2, decide_eq_false (show ¬ i < N + 1 by omega)]
theorem wordN_not (g : Nat → Bool) (N : Nat) : wordN g N ^^^ (2 ^ N - 1) = wordN (fun x => !g x) N := by
  apply Nat.eq_of_testBit_eq
  intro i
  rw [Nat.testBit_xor, wordN_bit, wordN_bit, Nat.testBit_two_pow_sub_one]
  cases decide (i < N) <;> cases g i <;> rfl
theorem wordN_and (g h : Nat → Bool) (N : Nat) : wordN g N &&& wordN h N = wordN (fun x => g x && h x) N := by
  apply Nat.eq_of_testBit_eq
  intro i
  rw [Nat.testBit_and, wordN_bit, wordN_bit, wordN_bit]
  cases decide (i < N) <;> cases g i <;> cases h i <;> rfl
theorem wordN_or2 (g h : Nat → Bool) (N : Nat) : wordN g N ||| wordN h N = wordN (fun x => g x || h x) N := by
  apply Nat.eq_of_testBit_eq
  intro i
  rw [Nat.testBit_or, wordN_bit, wordN_bit, wordN_bit]
  cases decide (i < N) <;> cases g i <;> cases h i <;> rfl
theorem wordN_xor (g h : Nat → Bool) (N : Nat) : wordN g N ^^^ wordN h N = wordN (fun x => g x != h x) N := by
  apply Nat.eq_of_testBit_eq
  intro i
  rw [Nat.testBit_xor, wordN_bit, wordN_bit, wordN_bit]
  cases decide (i < N) <;> cases g i <;> cases h i <;> rfl
/-- No place from p to q names a variable beyond n. -/
def fineF (s : ByteArray) (n : Int) (p q : Nat) : Prop := ∀ i, p ≤ i → i < q → ¬ (97 ≤ bt s i ∧ bt s i ≤ 101 ∧ n ≤ bt s i - 97)
def tabF (n : Nat) (t : impl_readPart.T) : Int × Int × Bool := ((n : Int), ((wordN (fun x => vlF (x : Int) t) (2 ^ n) : Nat) : Int), true)
theorem not_tabF {n : Nat} (hn : n ≤ 5) (l : impl_readPart.T) : impl_Table_not.f (n : Int) ((wordN (fun x => vlF (x : Int) l) (2 ^ n) : Nat) : Int) = some ((n : Int), ((wordN (fun x => !(vlF (x : Int) l)) (2 ^ n) : Nat) : Int)) := by
  have hN := pow62 hn
  have h1 := wordN_lt (fun x => vlF (x : Int) l) (2 ^ n)
  have h2 : 2 ^ 2 ^ n ≤ 2 ^ 32 := Nat.pow_le_pow_right (by omega) hN
  have h0 := Nat.two_pow_pos (2 ^ n)
  unfold impl_Table_not.f
  have e : impl_Table_size.f (n : Int) ((wordN (fun x => vlF (x : Int) l) (2 ^ n) : Nat) : Int) = some ((2 ^ n : Nat) : Int) := by
    unfold impl_Table_size.f
    rw [if_pos (Int.natCast_nonneg n), shl1 (by omega)]
  rw [e, Option.bind_some, if_pos (Int.natCast_nonneg _), shl1m (by omega), show ((2 ^ 2 ^ n : Nat) : Int) - 1 = ((2 ^ 2 ^ n - 1 : Nat) : Int) by omega, bxorN (by omega) (by omega), wordN_not]
theorem table_rd {s : ByteArray} (n : Nat) (hn : n ≤ 5) : ∀ d p t q, rdF s d p = some (t, q) → (fineF s n p q → impl_part_table.f (n : Int) t = some (tabF n t)) ∧ (¬ fineF s n p q → impl_part_table.f (n : Int) t = some (0, 0, false))
  | 0, p, t, q, h => by simp [rdF] at h
  | d + 1, p, t, q, h => by
    have hN := pow62 hn
    have hlt : ∀ g : Nat → Bool, wordN g (2 ^ n) < 9223372036854775808 := fun g => by
      have h1 := wordN_lt g (2 ^ n)
      have h2 : 2 ^ 2 ^ n ≤ 2 ^ 32 := Nat.pow_le_pow_right (by omega) hN
      omega
    obtain ⟨hp, h | h | h⟩ := rdF_cases h
    · obtain ⟨h1, rfl, rfl⟩ := h
      have hf : fineF s n p (p + 1) ↔ ¬ (97 ≤ bt s p ∧ bt s p ≤ 101 ∧ (n : Int) ≤ bt s p - 97) := by
        constructor
        · intro h; exact h p (by omega) (by omega)
        · intro h i hi hi2
          obtain rfl : i = p := by omega
          exact h
      rw [impl_part_table.f, fletter_eq, Option.bind_some]
      by_cases h2 : 97 ≤ bt s p ∧ bt s p < 102
      · rw [if_pos (decide_eq_true h2)]
        unfold impl_VariableTable.f
        rw [impl_isBits_eq, Option.bind_some, if_pos (decide_eq_true (by omega)), if_neg (by omega)]
        have hi : (bt s p - 97) % 256 = (((bt s p - 97).toNat : Nat) : Int) := by omega
        constructor
        · intro hfi
          have h3 := hf.mp hfi
          rw [if_neg (by omega)]
          unfold impl_variable.f
          rw [if_pos ⟨by omega, by omega⟩, Option.bind_some, Int.toNat_natCast, impl_makeTable_word_eq _ _ hN]
          unfold tabF
          rw [wordN_congr (h := fun x => vlF (x : Int) (.leaf (bt s p)))]
          intro x hx
          rw [vlF, if_neg (by omega), if_neg (by omega)]
          rfl
        · intro hfi
          have h3 : ¬ ¬ (97 ≤ bt s p ∧ bt s p ≤ 101 ∧ (n : Int) ≤ bt s p - 97) := fun h => hfi (hf.mpr h)
          rw [if_pos (by omega)]
      · rw [if_neg (by rw [decide_eq_false h2]; decide)]
        refine ⟨fun _ => ?_, fun hfi => absurd (hf.mpr (by omega)) hfi⟩
        rw [Int.toNat_natCast, impl_makeTable_word_eq _ _ hN]
        unfold tabF
        rw [wordN_congr (h := fun x => vlF (x : Int) (.leaf (bt s p)))]
        intro x hx
        rw [vlF]
        by_cases h3 : bt s p = 48
        · rw [if_pos h3, h3]; rfl
        · have h4 : bt s p = 49 := by omega
          rw [if_neg h3, if_pos h4, h4]; rfl
    · obtain ⟨h1, l, rfl, hl⟩ := h
      have hq := rdF_le hl
      have hf : fineF s n p q ↔ fineF s n (p + 1) q := by
        constructor
        · intro h i hi hi2; exact h i (by omega) hi2
        · intro h i hi hi2
          by_cases hip : i = p
          · subst hip; omega
          · exact h i (by omega) hi2
      obtain ⟨a, b⟩ := table_rd n hn d (p + 1) l q hl
      rw [hf, impl_part_table.f]
      constructor
      · intro hfi
        rw [a hfi, Option.bind_some]
        unfold tabF
        dsimp only
        rw [if_neg (by decide), if_pos rfl, not_tabF hn, Option.bind_some]
        rfl
      · intro hfi
        rw [b hfi, Option.bind_some]
        rfl
    · obtain ⟨h1, l, r, m, rfl, hl, hr⟩ := h
      have hq := rdF_le hl
      have hq2 := rdF_le hr
      have hf : fineF s n p q ↔ fineF s n (p + 1) m ∧ fineF s n m q := by
        constructor
        · intro h; exact ⟨fun i hi hi2 => h i (by omega) (by omega), fun i hi hi2 => h i (by omega) (by omega)⟩
        · rintro ⟨h, h'⟩ i hi hi2
          by_cases hip : i = p
          · subst hip; omega
          · by_cases him : i < m
            · exact h i (by omega) him
            · exact h' i (by omega) hi2
      obtain ⟨a, b⟩ := table_rd n hn d (p + 1) l m hl
      obtain ⟨a', b'⟩ := table_rd n hn d m r q hr
      rw [hf, impl_part_table.f, if_neg (by omega)]
      constructor
      · rintro ⟨f1, f2⟩
        rw [a f1, Option.bind_some]
        unfold tabF
        dsimp only
        rw [if_neg (by decide), a' f2, Option.bind_some]
        unfold tabF
        dsimp only
        rw [if_neg (by decide)]
        unfold impl_part_table.op
        rcases h1 with h1 | h1 | h1
        · rw [if_pos h1, bandN (hlt _) (hlt _), wordN_and, wordN_congr (h := fun x => vlF (x : Int) (.bin (bt s p) l r))]
          intro x hx
          rw [vlF, if_pos h1]
        · rw [if_neg (by omega), if_pos h1, borN (hlt _) (hlt _), wordN_or2, wordN_congr (h := fun x => vlF (x : Int) (.bin (bt s p) l r))]
          intro x hx
          rw [vlF, if_neg (by omega), if_pos h1]
        · rw [if_neg (by omega), if_neg (by omega), bxorN (hlt _) (hlt _), wordN_xor, wordN_congr (h := fun x => vlF (x : Int) (.bin (bt s p) l r))]
          intro x hx
          rw [vlF, if_neg (by omega), if_neg (by omega)]
      · intro hfi
        by_cases f1 : fineF s n (p + 1) m
        · rw [a f1, Option.bind_some]
          unfold tabF
          dsimp only
          rw [if_neg (by decide), b' (fun f2 => hfi ⟨f1, f2⟩), Option.bind_some]
          rfl
        · rw [b f1, Option.bind_some]
          rfl
theorem formula_l1 {s : ByteArray} {t : impl_readPart.T} (hw : wholeF s = some t) (n : Nat) (hn : n ≤ 5) : Ev (fun k => spec_TableOfFormula.l1 k s (n : Int) 0 0) (tabF n t) := by
  have hN := pow62 hn
  obtain ⟨hs, hr⟩ := wholeF_yes hw
  refine ev_for (fun k x => spec_TableOfFormula.l1 k s (n : Int) ((wordN (fun x => vlF (x : Int) t) x : Nat) : Int) (x : Int)) (2 ^ n) (fun x hx ih => ?_) ?_
  · have hv : Ev (fun k => spec_l5Value.f k s 0 (x : Int)) (vlF (x : Int) t) := ⟨183, fun k hk => l5Value_rd s hs (x : Int) 61 0 k t s.size (by omega) hr (by omega)⟩
    refine evs1 hv (fun k hk => ?_) ih
    rw [spec_TableOfFormula.l1, if_pos (Int.natCast_nonneg n), shl1 (by omega), if_pos (by omega), hk, Option.bind_some, w64 (by omega) (by omega)]
    have hst := wordN_step (g := fun x => vlF (x : Int) t) (show x < 32 by omega)
    by_cases hb : vlF (x : Int) t = true
    · rw [if_pos hb, if_pos (Int.natCast_nonneg x)]
      rw [show b2i (vlF (x : Int) t) = 1 by rw [hb]; rfl] at hst
      rw [hst]
      rfl
    · rw [if_neg hb]
      have e : wordN (fun x => vlF (x : Int) t) (x + 1) = wordN (fun x => vlF (x : Int) t) x := by
        simp only [wordN]
        rw [if_neg hb]
      rw [e]
      rfl
  · refine ev0 fun k => ?_
    rw [spec_TableOfFormula.l1, if_pos (Int.natCast_nonneg n), shl1 (by omega), if_neg (by omega)]
    rfl
theorem formula_l0 {s : ByteArray} {t : impl_readPart.T} (hw : wholeF s = some t) (n : Nat) (hn : n ≤ 5) : (fineF s n 0 s.size → Ev (fun k => spec_TableOfFormula.l0 k s (n : Int) 0) (tabF n t)) ∧ (¬ fineF s n 0 s.size → Ev (fun k => spec_TableOfFormula.l0 k s (n : Int) 0) (0, 0, false)) := by
  obtain ⟨hs, hr⟩ := wholeF_yes hw
  suffices H : ∀ j p, p + j = s.size → (fineF s n p s.size → Ev (fun k => spec_TableOfFormula.l0 k s (n : Int) (p : Int)) (tabF n t)) ∧ (¬ fineF s n p s.size → Ev (fun k => spec_TableOfFormula.l0 k s (n : Int) (p : Int)) (0, 0, false)) from H s.size 0 (by omega)
  intro j
  induction j with
  | zero =>
    intro p hp
    refine ⟨fun _ => ?_, fun h => absurd (fun i hi hi2 => by omega) h⟩
    refine Ev.step (fun k => ?_) (formula_l1 hw n hn)
    rw [spec_TableOfFormula.l0, if_neg (by omega)]
  | succ j ih =>
    intro p hp
    have hb := bt_range s p
    have hm : 97 ≤ bt s p → (bt s p - 97) % 256 = bt s p - 97 := by intro h; omega
    have hw1 : wrap64 ((p : Int) + 1) = ((p + 1 : Nat) : Int) := by rw [w64 (by omega) (by omega)]; omega
    by_cases hc : 97 ≤ bt s p ∧ bt s p ≤ 101 ∧ (n : Int) ≤ bt s p - 97
    · refine ⟨fun h => absurd hc (h p (by omega) (by omega)), fun _ => ?_⟩
      refine ev0 fun k => ?_
      rw [spec_TableOfFormula.l0, if_pos (by omega), if_pos (Int.natCast_nonneg p), if_pos (show bt s p ≥ 97 from hc.1), if_pos hc.2.1, hm hc.1, if_pos (show bt s p - 97 ≥ (n : Int) from hc.2.2)]
    · have step : ∀ k, spec_TableOfFormula.l0 (k + 1) s (n : Int) (p : Int) = spec_TableOfFormula.l0 k s (n : Int) ((p + 1 : Nat) : Int) := by
        intro k
        rw [spec_TableOfFormula.l0, if_pos (by omega), if_pos (Int.natCast_nonneg p), hw1]
        by_cases h1 : bt s p ≥ 97
        · rw [if_pos h1]
          by_cases h2 : bt s p ≤ 101
          · rw [if_pos h2, hm h1, if_neg (fun h3 => hc ⟨h1, h2, h3⟩)]
          · rw [if_neg h2]
        · rw [if_neg h1]
      have e : fineF s n p s.size ↔ fineF s n (p + 1) s.size := by
        constructor
        · intro h i hi hi2; exact h i (by omega) hi2
        · intro h i hi hi2
          by_cases hip : i = p
          · subst hip; exact hc
          · exact h i (by omega) hi2
      exact ⟨fun h => Ev.step step ((ih (p + 1) (by omega)).1 (e.mp h)), fun h => Ev.step step ((ih (p + 1) (by omega)).2 fun h' => h (e.mpr h'))⟩
theorem formula_key (s : ByteArray) (n : Int) : ∃ r, Ev (fun k => spec_TableOfFormula.f k s n) r ∧ impl_TableOfFormula.f s n = some r := by
  unfold spec_TableOfFormula.f impl_TableOfFormula.f
  obtain ⟨t, o, he, hm⟩ := readFormula_eq s
  rw [he, Option.bind_some]
  have hI := IsFormula_eq s
  cases hw : wholeF s with
  | none =>
    rw [hw] at hm hI
    dsimp only at hm ⊢
    refine ⟨(0, 0, false), ?_, ?_⟩
    · refine ev1 hI (G := fun k => spec_TableOfFormula.j0 k s n true) (fun k hk => by rw [hk]; rfl) ?_
      exact ev0 fun k => by rw [spec_TableOfFormula.j0, if_pos rfl]
    · rcases hm with rfl | rfl
      · rfl
      · cases t <;> rfl
  | some u =>
    rw [hw] at hm hI
    obtain ⟨rfl, rfl⟩ := hm
    dsimp only
    rw [if_pos rfl, impl_isBits_eq, Option.bind_some]
    by_cases hn : 0 ≤ n ∧ n ≤ 5
    · obtain ⟨a, rfl⟩ : ∃ a : Nat, n = a := ⟨n.toNat, by omega⟩
      rw [if_pos (decide_eq_true hn)]
      have h0 := formula_l0 hw a (by omega)
      have h1 := table_rd a (by omega) 61 0 u s.size (wholeF_yes hw).2
      have G : ∀ r, Ev (fun k => spec_TableOfFormula.l0 k s (a : Int) 0) r → Ev (fun k => (spec_IsFormula.f k s).bind fun t119 => (if t119 = true then ((spec_l1In.f (a : Int) 0 5).bind fun t120 => (spec_TableOfFormula.j0 k s (a : Int) (!t120))) else (spec_TableOfFormula.j0 k s (a : Int) true))) r := by
        intro r hr
        refine ev1 hI (G := fun k => spec_TableOfFormula.j0 k s (a : Int) false) (fun k hk => ?_) (Ev.step (fun k => by rw [spec_TableOfFormula.j0]; rfl) hr)
        rw [hk, Option.bind_some, spec_l1In_eq, Option.bind_some, decide_eq_true hn]
        rfl
      by_cases hf : fineF s a 0 s.size
      · exact ⟨_, G _ (h0.1 hf), h1.1 hf⟩
      · exact ⟨_, G _ (h0.2 hf), h1.2 hf⟩
    · rw [if_neg (by rw [decide_eq_false hn]; decide)]
      refine ⟨_, ?_, rfl⟩
      refine ev1 hI (G := fun k => spec_TableOfFormula.j0 k s n true) (fun k hk => ?_) (ev0 fun k => by rw [spec_TableOfFormula.j0, if_pos rfl])
      rw [hk, Option.bind_some, spec_l1In_eq, Option.bind_some, decide_eq_false hn]
      rfl
theorem FnExactTableOfFormula (s : ByteArray) (n : Int) (hs : s.size ≤ 140737488351232) (hn : (Lit.int .i64 n).wf = true) : ∃ k, laws_FnExactTableOfFormula.f k s n = some true := by
  refine Ev.rounds ?_
  unfold laws_FnExactTableOfFormula.f
  by_cases h : (s.size : Int) > 1048576
  · simp only [if_pos h]; exact Ev.now _
  · simp only [if_neg h]
    obtain ⟨r, h1, h2⟩ := formula_key s n
    exact ev1' h1 fun k hk => by rw [hk, Option.bind_some, h2, Option.bind_some, laws_eqTable_same, Option.bind_some, if_pos rfl, if_neg (by simp)]

end Go.Proofs.Ytfpcgcmajdebmaa.Pure
