/- The images of a table's word under permuting and negating: their orbits; the least sum of questions is the same at each. Conditions: at most four variables. -/
import Derived.Test.YteljkpglgjjnlaaWrd
import Derived.Test.YteljkpglgjjnlaaQue
namespace Go.Proofs.YteljkpglgjjnlaaMath
open Go.RowKit Go.Proofs.YteljkpglgjjnlaaW.PrintWords Go.Proofs.YteljkpglgjjnlaaW.PrintLast Go.Proofs.YteljkpglgjjnlaaW.PrintMore
set_option linter.unusedVariables false
set_option linter.unusedSimpArgs false

theorem c_wordN_bit (g : Nat → Bool) : ∀ N i, (wordN g N).testBit i = (decide (i < N) && g i)
  | 0, i => by simp [wordN]
  | N + 1, i => by
    have ih := c_wordN_bit g N i
    simp only [wordN]
    by_cases hg : g N = true
    · rw [if_pos hg, Nat.testBit_or, ih, Nat.testBit_two_pow]
      by_cases h : N = i
      · subst h; simp [hg]
      · rw [decide_eq_false h, Bool.or_false]
        by_cases h2 : i < N
        · rw [decide_eq_true h2, decide_eq_true (show i < N + 1 by omega)]
        · rw [decide_eq_false h2, decide_eq_false (show ¬ i < N + 1 by omega)]
    · rw [if_neg hg, ih]
      by_cases h : i = N
      · subst h; simp [hg]
      · by_cases h2 : i < N
        · rw [decide_eq_true h2, decide_eq_true (show i < N + 1 by omega)]
        · rw [decide_eq_false h2, decide_eq_false (show ¬ i < N + 1 by omega)]
/-! ### Orders of the variables, and what they do to inputs -/
def c_ext (n : Nat) : Nat → List Int → List (List Int)
  | 0, l => [l]
  | d + 1, l => (List.range n).flatMap fun i : Nat => if (i : Int) ∈ l then [] else c_ext n d (l ++ [(i : Int)])
def c_PS (n : Nat) : List (List Int) := c_ext n n []
/-- Where bit i of an input goes. -/
def c_pl (p : List Int) (i : Nat) : Nat := (p.getD i 0).toNat
def c_mv (p : List Int) (x : Nat) : Nat → Nat
  | 0 => 0
  | i + 1 => if x.testBit i = true then c_mv p x i ||| 2 ^ c_pl p i else c_mv p x i
def c_cmp (n : Nat) (p q : List Int) : List Int := (List.range n).map fun i : Nat => p.getD (c_pl q i) 0
def c_five (P : Nat → Bool) : Bool := P 0 && P 1 && P 2 && P 3 && P 4
theorem c_five_at {P : Nat → Bool} (h : c_five P = true) {n : Nat} (hn : n ≤ 4) : P n = true := by
  simp only [c_five, Bool.and_eq_true] at h
  rcases (by omega : n = 0 ∨ n = 1 ∨ n = 2 ∨ n = 3 ∨ n = 4) with rfl | rfl | rfl | rfl | rfl
  · exact h.1.1.1.1
  · exact h.1.1.1.2
  · exact h.1.1.2
  · exact h.1.2
  · exact h.2
def c_chk1 (n : Nat) : Bool := (c_PS n).all fun p => (List.range (2 ^ n)).all fun x => decide (c_mv p x n < 2 ^ n) && (List.range (2 ^ n)).all fun y => (c_mv p (x ^^^ y) n == c_mv p x n ^^^ c_mv p y n) && (x == y || c_mv p x n != c_mv p y n)
def c_chk2 (n : Nat) : Bool := (c_PS n).all fun p => (List.range (2 ^ n)).all fun y => (List.range (2 ^ n)).any fun x => c_mv p x n == y
def c_chk3 (n : Nat) : Bool := (c_PS n).all fun p => (c_PS n).all fun q => (c_PS n).contains (c_cmp n p q) && (List.range (2 ^ n)).all fun x => c_mv (c_cmp n p q) x n == c_mv p (c_mv q x n) n
def c_chk4 (n : Nat) : Bool := (c_PS n).all fun q => ((c_PS n).map fun p => c_cmp n p q).isPerm (c_PS n) && ((c_PS n).map fun p => c_cmp n q p).isPerm (c_PS n)
def c_chk5 (n : Nat) : Bool := (c_PS n).all fun q => ((List.range (2 ^ n)).map fun s => c_mv q s n).isPerm (List.range (2 ^ n))
def c_chk6 (n : Nat) : Bool := (List.range (2 ^ n)).all fun t => ((List.range (2 ^ n)).map fun s => s ^^^ t).isPerm (List.range (2 ^ n)) && ((List.range (2 ^ n)).map fun s => t ^^^ s).isPerm (List.range (2 ^ n))
def c_chk7 (n : Nat) : Bool := (c_PS n).any fun p => (List.range (2 ^ n)).all fun x => c_mv p x n == x
def c_chk8 (n : Nat) : Bool := (c_PS n).all fun p => (p.length == n) && (List.range n).all fun i => decide (0 ≤ p.getD i 0) && decide (p.getD i 0 < n) && (c_mv p (2 ^ i) n == 2 ^ c_pl p i) && (List.range n).all fun j => i == j || c_pl p i != c_pl p j
theorem c_chk1_ok : c_five c_chk1 = true := by decide +kernel
theorem c_chk2_ok : c_five c_chk2 = true := by decide +kernel
theorem c_chk3_ok : c_five c_chk3 = true := by decide +kernel
theorem c_chk4_ok : c_five c_chk4 = true := by decide +kernel
theorem c_chk5_ok : c_five c_chk5 = true := by decide +kernel
theorem c_chk6_ok : c_five c_chk6 = true := by decide +kernel
theorem c_chk7_ok : c_five c_chk7 = true := by decide +kernel
theorem c_chk8_ok : c_five c_chk8 = true := by decide +kernel

theorem c_mv_all {n x y : Nat} {p : List Int} (hn : n ≤ 4) (hp : p ∈ c_PS n) (hx : x < 2 ^ n) : c_mv p x n < 2 ^ n ∧ (y < 2 ^ n → c_mv p (x ^^^ y) n = c_mv p x n ^^^ c_mv p y n ∧ (c_mv p x n = c_mv p y n → x = y)) := by
  have h := c_five_at c_chk1_ok hn
  unfold c_chk1 at h
  have h1 := List.all_eq_true.mp (List.all_eq_true.mp h p hp) x (List.mem_range.mpr hx)
  rw [Bool.and_eq_true, decide_eq_true_eq] at h1
  refine ⟨h1.1, fun hy => ?_⟩
  have h2 := List.all_eq_true.mp h1.2 y (List.mem_range.mpr hy)
  rw [Bool.and_eq_true, beq_iff_eq, Bool.or_eq_true, beq_iff_eq, bne_iff_ne] at h2
  exact ⟨h2.1, fun e => h2.2.elim id fun h3 => absurd e h3⟩
theorem c_mv_onto {n y : Nat} {p : List Int} (hn : n ≤ 4) (hp : p ∈ c_PS n) (hy : y < 2 ^ n) : ∃ x, x < 2 ^ n ∧ c_mv p x n = y := by
  have h := c_five_at c_chk2_ok hn
  unfold c_chk2 at h
  have h1 := List.all_eq_true.mp (List.all_eq_true.mp h p hp) y (List.mem_range.mpr hy)
  obtain ⟨x, hx, e⟩ := List.any_eq_true.mp h1
  exact ⟨x, List.mem_range.mp hx, beq_iff_eq.mp e⟩
theorem c_mv_cmp {n : Nat} {p q : List Int} (hn : n ≤ 4) (hp : p ∈ c_PS n) (hq : q ∈ c_PS n) : c_cmp n p q ∈ c_PS n ∧ ∀ x, x < 2 ^ n → c_mv (c_cmp n p q) x n = c_mv p (c_mv q x n) n := by
  have h := c_five_at c_chk3_ok hn
  unfold c_chk3 at h
  have h1 := List.all_eq_true.mp (List.all_eq_true.mp h p hp) q hq
  rw [Bool.and_eq_true] at h1
  exact ⟨List.contains_iff_mem.mp h1.1, fun x hx => beq_iff_eq.mp (List.all_eq_true.mp h1.2 x (List.mem_range.mpr hx))⟩
theorem c_cmp_perm {n : Nat} {q : List Int} (hn : n ≤ 4) (hq : q ∈ c_PS n) : ((c_PS n).map fun p => c_cmp n p q).Perm (c_PS n) ∧ ((c_PS n).map fun p => c_cmp n q p).Perm (c_PS n) := by
  have h := c_five_at c_chk4_ok hn
  unfold c_chk4 at h
  have h1 := List.all_eq_true.mp h q hq
  rw [Bool.and_eq_true, List.isPerm_iff, List.isPerm_iff] at h1
  exact h1
theorem c_mv_perm {n : Nat} {q : List Int} (hn : n ≤ 4) (hq : q ∈ c_PS n) : ((List.range (2 ^ n)).map fun s => c_mv q s n).Perm (List.range (2 ^ n)) := by
  have h := c_five_at c_chk5_ok hn
  unfold c_chk5 at h
  exact List.isPerm_iff.mp (List.all_eq_true.mp h q hq)
theorem c_xor_perm {n t : Nat} (hn : n ≤ 4) (ht : t < 2 ^ n) : ((List.range (2 ^ n)).map fun s => s ^^^ t).Perm (List.range (2 ^ n)) ∧ ((List.range (2 ^ n)).map fun s => t ^^^ s).Perm (List.range (2 ^ n)) := by
  have h := c_five_at c_chk6_ok hn
  unfold c_chk6 at h
  have h1 := List.all_eq_true.mp h t (List.mem_range.mpr ht)
  rw [Bool.and_eq_true, List.isPerm_iff, List.isPerm_iff] at h1
  exact h1
theorem c_mv_id {n : Nat} (hn : n ≤ 4) : ∃ p, p ∈ c_PS n ∧ ∀ x, x < 2 ^ n → c_mv p x n = x := by
  have h := c_five_at c_chk7_ok hn
  unfold c_chk7 at h
  obtain ⟨p, hp, h1⟩ := List.any_eq_true.mp h
  exact ⟨p, hp, fun x hx => beq_iff_eq.mp (List.all_eq_true.mp h1 x (List.mem_range.mpr hx))⟩
theorem c_pl_all {n i : Nat} {p : List Int} (hn : n ≤ 4) (hp : p ∈ c_PS n) : p.length = n ∧ (i < n → 0 ≤ p.getD i 0 ∧ p.getD i 0 < n ∧ c_mv p (2 ^ i) n = 2 ^ c_pl p i ∧ ∀ j, j < n → i ≠ j → c_pl p i ≠ c_pl p j) := by
  have h := c_five_at c_chk8_ok hn
  unfold c_chk8 at h
  have h1 := List.all_eq_true.mp h p hp
  rw [Bool.and_eq_true, beq_iff_eq] at h1
  refine ⟨h1.1, fun hi => ?_⟩
  have h2 := List.all_eq_true.mp h1.2 i (List.mem_range.mpr hi)
  simp only [Bool.and_eq_true, decide_eq_true_eq, beq_iff_eq] at h2
  refine ⟨h2.1.1.1, h2.1.1.2, h2.1.2, fun j hj hij => ?_⟩
  have h3 := List.all_eq_true.mp h2.2 j (List.mem_range.mpr hj)
  rw [Bool.or_eq_true, beq_iff_eq, bne_iff_ne] at h3
  exact h3.elim (fun e => absurd e hij) id
/-! ### Words -/
def c_orN (g : Nat → Bool) (m : Nat → Nat) : Nat → Nat
  | 0 => 0
  | x + 1 => if g x = true then c_orN g m x ||| 2 ^ m x else c_orN g m x
theorem c_orN_bit (g : Nat → Bool) (m : Nat → Nat) (j : Nat) : ∀ N, (c_orN g m N).testBit j = true ↔ ∃ x, x < N ∧ g x = true ∧ m x = j
  | 0 => by simp [c_orN]
  | N + 1 => by
    have ih := c_orN_bit g m j N
    simp only [c_orN]
    by_cases hg : g N = true
    · rw [if_pos hg, Nat.testBit_or, Bool.or_eq_true, ih, Nat.testBit_two_pow, decide_eq_true_eq]
      constructor
      · rintro (⟨x, h1, h2⟩ | h)
        · exact ⟨x, by omega, h2⟩
        · exact ⟨N, by omega, hg, h⟩
      · rintro ⟨x, h1, h2, h3⟩
        by_cases e : x = N
        · subst e; exact .inr h3
        · exact .inl ⟨x, by omega, h2, h3⟩
    · rw [if_neg hg, ih]
      constructor
      · rintro ⟨x, h1, h2⟩; exact ⟨x, by omega, h2⟩
      · rintro ⟨x, h1, h2, h3⟩
        by_cases e : x = N
        · subst e; exact absurd h2 hg
        · exact ⟨x, by omega, h2, h3⟩
theorem c_orN_lt (g : Nat → Bool) (m : Nat → Nat) (M : Nat) : ∀ N, (∀ x, x < N → m x < M) → c_orN g m N < 2 ^ M
  | 0, _ => Nat.two_pow_pos M
  | N + 1, h => by
    have ih := c_orN_lt g m M N fun x hx => h x (by omega)
    simp only [c_orN]
    split
    · exact Nat.or_lt_two_pow ih (Nat.pow_lt_pow_right (by omega) (h N (by omega)))
    · exact ih
theorem c_word_ext {N a b : Nat} (ha : a < 2 ^ N) (hb : b < 2 ^ N) (h : ∀ y, y < N → a.testBit y = b.testBit y) : a = b := by
  apply Nat.eq_of_testBit_eq
  intro i
  by_cases hi : i < N
  · exact h i hi
  · rw [Nat.testBit_lt_two_pow (Nat.lt_of_lt_of_le ha (Nat.pow_le_pow_right (by omega) (by omega))), Nat.testBit_lt_two_pow (Nat.lt_of_lt_of_le hb (Nat.pow_le_pow_right (by omega) (by omega)))]
def c_pw (n w : Nat) (p : List Int) : Nat := c_orN w.testBit (fun x => c_mv p x n) (2 ^ n)
def c_sw (n w s : Nat) : Nat := wordN (fun y => w.testBit (y ^^^ s)) (2 ^ n)
def c_nw (n w : Nat) : Nat := 2 ^ 2 ^ n - 1 - w
theorem c_xlt {n x y : Nat} (hx : x < 2 ^ n) (hy : y < 2 ^ n) : x ^^^ y < 2 ^ n := Nat.xor_lt_two_pow hx hy
theorem c_pw_lt {n w : Nat} {p : List Int} (hn : n ≤ 4) (hp : p ∈ c_PS n) : c_pw n w p < 2 ^ 2 ^ n := c_orN_lt _ _ _ _ fun x hx => (c_mv_all (y := 0) hn hp hx).1
theorem c_sw_lt (n w s : Nat) : c_sw n w s < 2 ^ 2 ^ n := wordN_lt _ _
theorem c_nw_lt (n w : Nat) : c_nw n w < 2 ^ 2 ^ n := by
  have := Nat.two_pow_pos (2 ^ n)
  unfold c_nw
  omega
theorem c_pw_bit {n w x : Nat} {p : List Int} (hn : n ≤ 4) (hp : p ∈ c_PS n) (hx : x < 2 ^ n) : (c_pw n w p).testBit (c_mv p x n) = w.testBit x := by
  rw [Bool.eq_iff_iff]
  unfold c_pw
  rw [c_orN_bit]
  constructor
  · rintro ⟨y, hy, h1, h2⟩
    rw [(c_mv_all hn hp hx).2 hy |>.2 h2.symm]
    exact h1
  · intro h
    exact ⟨x, hx, h, rfl⟩
theorem c_sw_bit {n w s y : Nat} (hy : y < 2 ^ n) : (c_sw n w s).testBit y = w.testBit (y ^^^ s) := by
  unfold c_sw
  rw [c_wordN_bit, decide_eq_true hy, Bool.true_and]
theorem c_nw_bit {n w y : Nat} (hw : w < 2 ^ 2 ^ n) (hy : y < 2 ^ n) : (c_nw n w).testBit y = !w.testBit y := by
  unfold c_nw
  rw [show 2 ^ 2 ^ n - 1 - w = 2 ^ 2 ^ n - (w + 1) by omega, Nat.testBit_two_pow_sub_succ hw, decide_eq_true hy, Bool.true_and]
theorem c_pw_pw {n w : Nat} {p q : List Int} (hn : n ≤ 4) (hp : p ∈ c_PS n) (hq : q ∈ c_PS n) : c_pw n (c_pw n w q) p = c_pw n w (c_cmp n p q) := by
  have hc := c_mv_cmp hn hp hq
  refine c_word_ext (c_pw_lt hn hp) (c_pw_lt hn hc.1) fun y hy => ?_
  obtain ⟨z, hz, rfl⟩ := c_mv_onto hn hp hy
  obtain ⟨x, hx, rfl⟩ := c_mv_onto hn hq hz
  rw [c_pw_bit hn hp hz, c_pw_bit hn hq hx, ← hc.2 x hx, c_pw_bit hn hc.1 hx]
theorem c_sw_sw {n w s t : Nat} (hs : s < 2 ^ n) : c_sw n (c_sw n w t) s = c_sw n w (s ^^^ t) := by
  refine c_word_ext (c_sw_lt _ _ _) (c_sw_lt _ _ _) fun y hy => ?_
  rw [c_sw_bit hy, c_sw_bit (c_xlt hy hs), c_sw_bit hy, Nat.xor_assoc]
theorem c_pw_sw {n w t : Nat} {p : List Int} (hn : n ≤ 4) (hp : p ∈ c_PS n) (ht : t < 2 ^ n) : c_pw n (c_sw n w t) p = c_sw n (c_pw n w p) (c_mv p t n) := by
  refine c_word_ext (c_pw_lt hn hp) (c_sw_lt _ _ _) fun y hy => ?_
  obtain ⟨x, hx, rfl⟩ := c_mv_onto hn hp hy
  rw [c_pw_bit hn hp hx, c_sw_bit hx, c_sw_bit hy, ← ((c_mv_all hn hp hx).2 ht).1, c_pw_bit hn hp (c_xlt hx ht)]
theorem c_nw_sw {n w s : Nat} (hw : w < 2 ^ 2 ^ n) (hs : s < 2 ^ n) : c_sw n (c_nw n w) s = c_nw n (c_sw n w s) := by
  refine c_word_ext (c_sw_lt _ _ _) (c_nw_lt _ _) fun y hy => ?_
  rw [c_sw_bit hy, c_nw_bit hw (c_xlt hy hs), c_nw_bit (c_sw_lt _ _ _) hy, c_sw_bit hy]
theorem c_nw_pw {n w : Nat} {p : List Int} (hn : n ≤ 4) (hp : p ∈ c_PS n) (hw : w < 2 ^ 2 ^ n) : c_pw n (c_nw n w) p = c_nw n (c_pw n w p) := by
  refine c_word_ext (c_pw_lt hn hp) (c_nw_lt _ _) fun y hy => ?_
  obtain ⟨x, hx, rfl⟩ := c_mv_onto hn hp hy
  rw [c_pw_bit hn hp hx, c_nw_bit hw hx, c_nw_bit (c_pw_lt hn hp) hy, c_pw_bit hn hp hx]
theorem c_nw_nw {n w : Nat} (hw : w < 2 ^ 2 ^ n) : c_nw n (c_nw n w) = w := by
  unfold c_nw
  omega
theorem c_sw_zero {n w : Nat} (hw : w < 2 ^ 2 ^ n) : c_sw n w 0 = w := c_word_ext (c_sw_lt _ _ _) hw fun y hy => by rw [c_sw_bit hy, Nat.xor_zero]
theorem c_pw_id {n w : Nat} {p : List Int} (hn : n ≤ 4) (hp : p ∈ c_PS n) (hi : ∀ x, x < 2 ^ n → c_mv p x n = x) (hw : w < 2 ^ 2 ^ n) : c_pw n w p = w := by
  refine c_word_ext (c_pw_lt hn hp) hw fun y hy => ?_
  have h := c_pw_bit (w := w) hn hp hy
  rw [hi y hy] at h
  exact h
theorem c_pw_inj {n v w : Nat} {p : List Int} (hn : n ≤ 4) (hp : p ∈ c_PS n) (hv : v < 2 ^ 2 ^ n) (hw : w < 2 ^ 2 ^ n) (h : c_pw n v p = c_pw n w p) : v = w :=
  c_word_ext hv hw fun y hy => by rw [← c_pw_bit hn hp hy, h, c_pw_bit hn hp hy]
theorem c_sw_inj {n v w s : Nat} (hs : s < 2 ^ n) (hv : v < 2 ^ 2 ^ n) (hw : w < 2 ^ 2 ^ n) (h : c_sw n v s = c_sw n w s) : v = w := by
  have h2 := congrArg (fun u => c_sw n u s) h
  simp only [c_sw_sw hs, Nat.xor_self] at h2
  rwa [c_sw_zero hv, c_sw_zero hw] at h2
theorem c_nw_inj {n v w : Nat} (hv : v < 2 ^ 2 ^ n) (hw : w < 2 ^ 2 ^ n) (h : c_nw n v = c_nw n w) : v = w := by rw [← c_nw_nw hv, h, c_nw_nw hw]
/-! ### The images of a word, and that they are the same seen from each of them -/
def c_R (n v : Nat) : List Nat := (List.range (2 ^ n)).flatMap fun s => [c_sw n v s, c_nw n (c_sw n v s)]
def c_L (n w : Nat) : List Nat := (c_PS n).flatMap fun p => c_R n (c_pw n w p)
theorem c_flat_congr {α β : Type} {l : List α} {f g : α → List β} (h : ∀ a ∈ l, f a = g a) : l.flatMap f = l.flatMap g := by
  induction l with
  | nil => rfl
  | cons a l ih => rw [List.flatMap_cons, List.flatMap_cons, h a List.mem_cons_self, ih fun b hb => h b (List.mem_cons_of_mem _ hb)]
theorem c_flat_perm {α β : Type} {l : List α} {f g : α → List β} (h : ∀ a ∈ l, (f a).Perm (g a)) : (l.flatMap f).Perm (l.flatMap g) := by
  induction l with
  | nil => exact List.Perm.nil
  | cons a l ih => rw [List.flatMap_cons, List.flatMap_cons]; exact (h a List.mem_cons_self).append (ih fun b hb => h b (List.mem_cons_of_mem _ hb))
theorem c_R_sw {n v t : Nat} (hn : n ≤ 4) (ht : t < 2 ^ n) : (c_R n (c_sw n v t)).Perm (c_R n v) := by
  have h := (c_xor_perm hn ht).1.flatMap_right fun s => [c_sw n v s, c_nw n (c_sw n v s)]
  rw [List.flatMap_map] at h
  refine List.Perm.trans (List.Perm.of_eq ?_) h
  exact c_flat_congr fun s hs => by rw [c_sw_sw (List.mem_range.mp hs)]
theorem c_R_nw {n v : Nat} (hv : v < 2 ^ 2 ^ n) : (c_R n (c_nw n v)).Perm (c_R n v) := c_flat_perm fun s hs => by
  rw [c_nw_sw hv (List.mem_range.mp hs), c_nw_nw (c_sw_lt _ _ _)]
  exact List.Perm.swap _ _ _
theorem c_L_pw {n w : Nat} {q : List Int} (hn : n ≤ 4) (hq : q ∈ c_PS n) : (c_L n (c_pw n w q)).Perm (c_L n w) := by
  have h := (c_cmp_perm hn hq).1.flatMap_right fun p => c_R n (c_pw n w p)
  rw [List.flatMap_map] at h
  refine List.Perm.trans (List.Perm.of_eq ?_) h
  exact c_flat_congr fun p hp => by rw [c_pw_pw hn hp hq]
theorem c_L_sw {n w t : Nat} (hn : n ≤ 4) (ht : t < 2 ^ n) : (c_L n (c_sw n w t)).Perm (c_L n w) := c_flat_perm fun p hp => by
  rw [c_pw_sw hn hp ht]
  exact c_R_sw hn (c_mv_all (y := 0) hn hp ht).1
theorem c_L_nw {n w : Nat} (hn : n ≤ 4) (hw : w < 2 ^ 2 ^ n) : (c_L n (c_nw n w)).Perm (c_L n w) := c_flat_perm fun p hp => by
  rw [c_nw_pw hn hp hw]
  exact c_R_nw (c_pw_lt hn hp)
theorem c_L_lt {n w v : Nat} (hv : v ∈ c_L n w) : v < 2 ^ 2 ^ n := by
  obtain ⟨p, _, hv⟩ := List.mem_flatMap.mp hv
  obtain ⟨s, _, hv⟩ := List.mem_flatMap.mp hv
  rcases List.mem_cons.mp hv with rfl | hv
  · exact c_sw_lt _ _ _
  · rw [List.mem_singleton.mp hv]; exact c_nw_lt _ _
theorem c_map_pw {n w : Nat} {q : List Int} (hn : n ≤ 4) (hq : q ∈ c_PS n) : ((c_L n w).map fun v => c_pw n v q).Perm (c_L n w) := by
  have h := (c_cmp_perm hn hq).2.flatMap_right fun p => c_R n (c_pw n w p)
  rw [List.flatMap_map] at h
  refine List.Perm.trans ?_ h
  rw [c_L, List.map_flatMap]
  refine c_flat_perm fun p hp => ?_
  have h2 := (c_mv_perm hn hq).flatMap_right fun s => [c_sw n (c_pw n w (c_cmp n q p)) s, c_nw n (c_sw n (c_pw n w (c_cmp n q p)) s)]
  rw [List.flatMap_map] at h2
  refine List.Perm.trans (List.Perm.of_eq ?_) h2
  rw [c_R, List.map_flatMap]
  refine c_flat_congr fun s hs => ?_
  simp only [List.map_cons, List.map_nil]
  rw [c_nw_pw hn hq (c_sw_lt _ _ _), c_pw_sw hn hq (List.mem_range.mp hs), c_pw_pw hn hq hp]
theorem c_map_sw {n w t : Nat} (hn : n ≤ 4) (ht : t < 2 ^ n) : ((c_L n w).map fun v => c_sw n v t).Perm (c_L n w) := by
  rw [c_L, List.map_flatMap]
  refine c_flat_perm fun p hp => ?_
  have h2 := (c_xor_perm hn ht).2.flatMap_right fun s => [c_sw n (c_pw n w p) s, c_nw n (c_sw n (c_pw n w p) s)]
  rw [List.flatMap_map] at h2
  refine List.Perm.trans (List.Perm.of_eq ?_) h2
  rw [c_R, List.map_flatMap]
  refine c_flat_congr fun s hs => ?_
  simp only [List.map_cons, List.map_nil]
  rw [c_nw_sw (c_sw_lt _ _ _) ht, c_sw_sw ht]
theorem c_map_nw (n w : Nat) : ((c_L n w).map fun v => c_nw n v).Perm (c_L n w) := by
  rw [c_L, List.map_flatMap]
  refine c_flat_perm fun p hp => ?_
  rw [c_R, List.map_flatMap]
  refine c_flat_perm fun s hs => ?_
  simp only [List.map_cons, List.map_nil]
  rw [c_nw_nw (c_sw_lt _ _ _)]
  exact List.Perm.swap _ _ _
theorem c_count_map {α β : Type} [BEq α] [LawfulBEq α] [BEq β] [LawfulBEq β] (f : α → β) (a : α) : ∀ l : List α, (∀ b ∈ l, f b = f a → b = a) → (l.map f).count (f a) = l.count a
  | [], _ => rfl
  | b :: l, h => by
    rw [List.map_cons, List.count_cons, List.count_cons, c_count_map f a l fun c hc => h c (List.mem_cons_of_mem _ hc)]
    congr 1
    by_cases e : b = a
    · subst e; simp
    · rw [if_neg (by simpa using fun e2 => e (h b List.mem_cons_self e2)), if_neg (by simpa using e)]
theorem c_self_mem {n w : Nat} (hn : n ≤ 4) (hw : w < 2 ^ 2 ^ n) : w ∈ c_L n w := by
  obtain ⟨p, hp, hi⟩ := c_mv_id hn
  refine List.mem_flatMap.mpr ⟨p, hp, List.mem_flatMap.mpr ⟨0, List.mem_range.mpr (Nat.two_pow_pos n), ?_⟩⟩
  rw [c_pw_id hn hp hi hw, c_sw_zero hw]
  exact List.mem_cons_self
/-- Each image comes as often as the word itself. -/
theorem c_count_L {n w v : Nat} (hn : n ≤ 4) (hw : w < 2 ^ 2 ^ n) (hv : v ∈ c_L n w) : (c_L n w).count v = (c_L n w).count w := by
  obtain ⟨p, hp, hv⟩ := List.mem_flatMap.mp hv
  obtain ⟨s, hs, hv⟩ := List.mem_flatMap.mp hv
  have h1 : (c_L n w).count (c_pw n w p) = (c_L n w).count w := by
    rw [← (c_map_pw hn hp).count_eq]
    exact c_count_map (fun v => c_pw n v p) w (c_L n w) fun b hb h => c_pw_inj hn hp (c_L_lt hb) hw h
  have h2 : (c_L n w).count (c_sw n (c_pw n w p) s) = (c_L n w).count (c_pw n w p) := by
    rw [← (c_map_sw hn (List.mem_range.mp hs)).count_eq]
    exact c_count_map (fun v => c_sw n v s) (c_pw n w p) (c_L n w) fun b hb h => c_sw_inj (List.mem_range.mp hs) (c_L_lt hb) (c_pw_lt hn hp) h
  have h3 : (c_L n w).count (c_nw n (c_sw n (c_pw n w p) s)) = (c_L n w).count (c_sw n (c_pw n w p) s) := by
    rw [← (c_map_nw n w).count_eq]
    exact c_count_map (fun v => c_nw n v) (c_sw n (c_pw n w p) s) (c_L n w) fun b hb h => c_nw_inj (c_L_lt hb) (c_sw_lt _ _ _) h
  rcases List.mem_cons.mp hv with rfl | hv
  · omega
  · rw [List.mem_singleton.mp hv]; omega
theorem c_len_count {α : Type} [BEq α] [LawfulBEq α] (c : Nat) : ∀ (D l : List α), D.Nodup → (∀ x, x ∈ D ↔ x ∈ l) → (∀ x ∈ D, l.count x = c) → l.length = D.length * c
  | [], l, _, hm, _ => by
    have : l = [] := List.eq_nil_iff_forall_not_mem.mpr fun x hx => by have := (hm x).mpr hx; simp at this
    rw [this]; simp
  | d :: D, l, hD, hm, hc => by
    have hd := List.nodup_cons.mp hD
    have ih := c_len_count c D (l.filter fun x => !(x == d)) hd.2 (fun x => by
      rw [List.mem_filter, ← hm x, List.mem_cons]
      constructor
      · intro h
        refine ⟨.inr h, ?_⟩
        simp only [Bool.not_eq_true', beq_eq_false_iff_ne]
        rintro rfl
        exact hd.1 h
      · rintro ⟨h | h, h2⟩
        · subst h; simp at h2
        · exact h) (fun x hx => by
      have hne : x ≠ d := fun e => hd.1 (e ▸ hx)
      rw [← hc x (List.mem_cons_of_mem _ hx)]
      exact List.count_filter (by simpa using hne))
    have h1 := hc d List.mem_cons_self
    have h2 : ∀ l : List α, l.length = (l.filter fun x => !(x == d)).length + l.count d := by
      intro l
      induction l with
      | nil => rfl
      | cons a l ih =>
        rw [List.count_cons, List.length_cons, ih]
        by_cases e : a == d
        · simp [e]; omega
        · simp [e]; omega
    rw [h2 l, ih, h1, List.length_cons, Nat.add_mul, Nat.one_mul]
theorem c_flat_len {α β : Type} {f : α → List β} {c : Nat} : ∀ {l : List α}, (∀ a ∈ l, (f a).length = c) → (l.flatMap f).length = l.length * c
  | [], _ => by simp
  | a :: l, h => by rw [List.flatMap_cons, List.length_append, h a List.mem_cons_self, c_flat_len fun b hb => h b (List.mem_cons_of_mem _ hb), List.length_cons, Nat.add_mul, Nat.one_mul, Nat.add_comm]
theorem c_L_len (n w : Nat) : (c_L n w).length = (c_PS n).length * (2 ^ n * 2) := c_flat_len fun p _ => by
  have h := c_flat_len (l := List.range (2 ^ n)) (f := fun s => [c_sw n (c_pw n w p) s, c_nw n (c_sw n (c_pw n w p) s)]) (c := 2) fun _ _ => rfl
  rw [List.length_range] at h
  exact h

/-! ### The least sum of questions, seen from an image -/
def c_chk9 (n : Nat) : Bool := (c_PS n).all fun p => (List.range (2 ^ n)).all fun m => (frees (c_mv p m n) n == frees m n) && ((List.range n).all fun i => (c_mv p (m ||| 2 ^ i) n == c_mv p m n ||| 2 ^ c_pl p i) && ((c_mv p m n).testBit (c_pl p i) == m.testBit i)) && (List.range (2 ^ n)).all fun x => c_mv p (x &&& m) n == c_mv p x n &&& c_mv p m n
def c_chk10 (n : Nat) : Bool := (c_PS n).all fun p => (List.range n).all fun j => (List.range n).any fun i => c_pl p i == j
theorem c_chk9_ok : c_five c_chk9 = true := by decide +kernel
theorem c_chk10_ok : c_five c_chk10 = true := by decide +kernel
theorem c_mv_more {n m : Nat} {p : List Int} (hn : n ≤ 4) (hp : p ∈ c_PS n) (hm : m < 2 ^ n) : frees (c_mv p m n) n = frees m n ∧ (∀ i, i < n → c_mv p (m ||| 2 ^ i) n = c_mv p m n ||| 2 ^ c_pl p i ∧ (c_mv p m n).testBit (c_pl p i) = m.testBit i) ∧ ∀ x, x < 2 ^ n → c_mv p (x &&& m) n = c_mv p x n &&& c_mv p m n := by
  have h := c_five_at c_chk9_ok hn
  unfold c_chk9 at h
  have h1 := List.all_eq_true.mp (List.all_eq_true.mp h p hp) m (List.mem_range.mpr hm)
  simp only [Bool.and_eq_true, beq_iff_eq] at h1
  obtain ⟨⟨h1, h2⟩, h3⟩ := h1
  refine ⟨h1, fun i hi => ?_, fun x hx => beq_iff_eq.mp (List.all_eq_true.mp h3 x (List.mem_range.mpr hx))⟩
  have h4 := List.all_eq_true.mp h2 i (List.mem_range.mpr hi)
  simp only [Bool.and_eq_true, beq_iff_eq] at h4
  exact h4
theorem c_pl_onto {n j : Nat} {p : List Int} (hn : n ≤ 4) (hp : p ∈ c_PS n) (hj : j < n) : ∃ i, i < n ∧ c_pl p i = j := by
  have h := c_five_at c_chk10_ok hn
  unfold c_chk10 at h
  obtain ⟨i, hi, e⟩ := List.any_eq_true.mp (List.all_eq_true.mp (List.all_eq_true.mp h p hp) j (List.mem_range.mpr hj))
  exact ⟨i, List.mem_range.mp hi, beq_iff_eq.mp e⟩
theorem c_pl_lt {n i : Nat} {p : List Int} (hn : n ≤ 4) (hp : p ∈ c_PS n) (hi : i < n) : c_pl p i < n := by
  have h := (c_pl_all (i := i) hn hp).2 hi
  have h1 := h.1
  have h2 := h.2.1
  unfold c_pl
  omega
theorem c_cube_sw {n w s m v : Nat} (hs : s < 2 ^ n) (b : Bool) : seenB (c_sw n w s) m (v ^^^ (s &&& m)) b (2 ^ n) = seenB w m v b (2 ^ n) := by
  rw [Bool.eq_iff_iff, seenB_iff, seenB_iff]
  constructor
  · rintro ⟨y, hy, h1, h2⟩
    refine ⟨y ^^^ s, c_xlt hy hs, ?_, by rw [← h2, c_sw_bit hy]⟩
    rw [Nat.and_xor_distrib_right, h1, Nat.xor_assoc, Nat.xor_self, Nat.xor_zero]
  · rintro ⟨x, hx, h1, h2⟩
    refine ⟨x ^^^ s, c_xlt hx hs, by rw [Nat.and_xor_distrib_right, h1], ?_⟩
    rw [c_sw_bit (c_xlt hx hs), Nat.xor_assoc, Nat.xor_self, Nat.xor_zero, h2]
theorem c_avg_sw {n w s : Nat} (hs : s < 2 ^ n) : ∀ d m v, frees m n ≤ d → v &&& m = v → avg n (c_sw n w s) m (v ^^^ (s &&& m)) = avg n w m v := by
  intro d
  induction d with
  | zero =>
    intro m v hd _
    rw [avg_eq, avg_eq, if_neg (fun h => by have := cubeV_free h; omega), if_neg (fun h => by have := cubeV_free h; omega)]
  | succ d ih =>
    intro m v hd hv
    have hc : cubeV n (c_sw n w s) m (v ^^^ (s &&& m)) = 2 ↔ cubeV n w m v = 2 := by rw [cubeV_two, cubeV_two, c_cube_sw hs, c_cube_sw hs]
    rw [avg_eq, avg_eq]
    by_cases h2 : cubeV n w m v = 2
    · rw [if_pos h2, if_pos (hc.mpr h2)]
      refine leastI_congr fun i hi hp => ?_
      have hb := opens_yes.1 hp
      have hf := frees_or hi hb
      have h0 := ih (m ||| 2 ^ i) v (by omega) (sub_zero hv)
      have h1 := ih (m ||| 2 ^ i) (v ||| 2 ^ i) (by omega) (sub_one hv)
      have hvi : v.testBit i = false := by
        have := congrArg (fun z => z.testBit i) hv
        simp only [Nat.testBit_and, hb, Bool.and_false] at this
        exact this.symm
      unfold avgS
      cases hsi : s.testBit i with
      | false =>
        have e0 : v ^^^ (s &&& (m ||| 2 ^ i)) = v ^^^ (s &&& m) := by
          apply Nat.eq_of_testBit_eq
          intro j
          simp only [Nat.testBit_xor, Nat.testBit_and, Nat.testBit_or, Nat.testBit_two_pow]
          by_cases e : i = j
          · subst e; simp [hsi]
          · simp [e]
        have e1 : (v ||| 2 ^ i) ^^^ (s &&& (m ||| 2 ^ i)) = (v ^^^ (s &&& m)) ||| 2 ^ i := by
          apply Nat.eq_of_testBit_eq
          intro j
          simp only [Nat.testBit_xor, Nat.testBit_and, Nat.testBit_or, Nat.testBit_two_pow]
          by_cases e : i = j
          · subst e; simp [hsi]
          · simp [e]
        rw [e0] at h0
        rw [e1] at h1
        rw [h0, h1]
      | true =>
        have e0 : v ^^^ (s &&& (m ||| 2 ^ i)) = (v ^^^ (s &&& m)) ||| 2 ^ i := by
          apply Nat.eq_of_testBit_eq
          intro j
          simp only [Nat.testBit_xor, Nat.testBit_and, Nat.testBit_or, Nat.testBit_two_pow]
          by_cases e : i = j
          · subst e; simp [hsi, hvi]
          · simp [e]
        have e1 : (v ||| 2 ^ i) ^^^ (s &&& (m ||| 2 ^ i)) = v ^^^ (s &&& m) := by
          apply Nat.eq_of_testBit_eq
          intro j
          simp only [Nat.testBit_xor, Nat.testBit_and, Nat.testBit_or, Nat.testBit_two_pow]
          by_cases e : i = j
          · subst e; simp [hsi, hvi, hb]
          · simp [e]
        rw [e0] at h0
        rw [e1] at h1
        rw [h0, h1]
        omega
    · rw [if_neg h2, if_neg (fun h => h2 (hc.mp h))]
theorem c_cube_pw {n w m v : Nat} {p : List Int} (hn : n ≤ 4) (hp : p ∈ c_PS n) (hm : m < 2 ^ n) (hv : v < 2 ^ n) (b : Bool) : seenB (c_pw n w p) (c_mv p m n) (c_mv p v n) b (2 ^ n) = seenB w m v b (2 ^ n) := by
  rw [Bool.eq_iff_iff, seenB_iff, seenB_iff]
  constructor
  · rintro ⟨y, hy, h1, h2⟩
    obtain ⟨x, hx, rfl⟩ := c_mv_onto hn hp hy
    rw [c_pw_bit hn hp hx] at h2
    rw [← (c_mv_more hn hp hm).2.2 x hx] at h1
    refine ⟨x, hx, ?_, h2⟩
    exact ((c_mv_all hn hp (Nat.and_lt_two_pow _ hm)).2 hv).2 h1
  · rintro ⟨x, hx, h1, h2⟩
    refine ⟨c_mv p x n, (c_mv_all (y := 0) hn hp hx).1, ?_, by rw [c_pw_bit hn hp hx]; exact h2⟩
    rw [← (c_mv_more hn hp hm).2.2 x hx, h1]
theorem c_avg_pw {n w : Nat} {p : List Int} (hn : n ≤ 4) (hp : p ∈ c_PS n) : ∀ d m v, frees m n ≤ d → m < 2 ^ n → v < 2 ^ n → avg n (c_pw n w p) (c_mv p m n) (c_mv p v n) = avg n w m v := by
  intro d
  induction d with
  | zero =>
    intro m v hd hm hv
    have hf := (c_mv_more hn hp hm).1
    rw [avg_eq, avg_eq, if_neg (fun h => by have := cubeV_free h; omega), if_neg (fun h => by have := cubeV_free h; omega)]
  | succ d ih =>
    intro m v hd hm hv
    have hM := c_mv_more hn hp hm
    have hV := c_mv_more hn hp hv
    have hc : cubeV n (c_pw n w p) (c_mv p m n) (c_mv p v n) = 2 ↔ cubeV n w m v = 2 := by rw [cubeV_two, cubeV_two, c_cube_pw hn hp hm hv, c_cube_pw hn hp hm hv]
    rw [avg_eq, avg_eq]
    by_cases h2 : cubeV n w m v = 2
    · rw [if_pos h2, if_pos (hc.mpr h2), hM.1]
      have key : ∀ i, i < n → opens m i = true → avgS n (c_pw n w p) (c_mv p m n) (c_mv p v n) (c_pl p i) = avgS n w m v i := by
        intro i hi ho
        have hb := opens_yes.1 ho
        have hf := frees_or hi hb
        unfold avgS
        rw [hM.1, ← (hM.2.1 i hi).1, ← (hV.2.1 i hi).1, ih (m ||| 2 ^ i) v (by omega) (or_lt hm hi) hv, ih (m ||| 2 ^ i) (v ||| 2 ^ i) (by omega) (or_lt hm hi) (or_lt hv hi)]
      have op : ∀ i, i < n → opens (c_mv p m n) (c_pl p i) = opens m i := fun i hi => by unfold opens; rw [(hM.2.1 i hi).2]
      apply Int.le_antisymm
      · refine leastI_ge (leastI_le_start _ _ _ _) fun i hi ho => ?_
        rw [← key i hi ho]
        exact leastI_le (c_pl_lt hn hp hi) (by rw [op i hi]; exact ho)
      · refine leastI_ge (leastI_le_start _ _ _ _) fun j hj ho => ?_
        obtain ⟨i, hi, rfl⟩ := c_pl_onto hn hp hj
        rw [op i hi] at ho
        rw [key i hi ho]
        exact leastI_le hi ho
    · rw [if_neg h2, if_neg (fun h => h2 (hc.mp h))]
theorem c_mv_zero (p : List Int) (n : Nat) : c_mv p 0 n = 0 := by
  induction n with
  | zero => rfl
  | succ n ih => simp only [c_mv]; rw [Nat.zero_testBit, if_neg (by decide), ih]
theorem c_avg_same {n w s : Nat} {p : List Int} (hn : n ≤ 4) (hp : p ∈ c_PS n) (hs : s < 2 ^ n) : avg n (c_sw n (c_pw n w p) s) 0 0 = avg n w 0 0 := by
  have h1 := c_avg_sw (w := c_pw n w p) hs (frees 0 n) 0 0 (Nat.le_refl _) rfl
  rw [Nat.and_zero, Nat.xor_self] at h1
  have h2 := c_avg_pw (w := w) hn hp (frees 0 n) 0 0 (Nat.le_refl _) (Nat.two_pow_pos n) (Nat.two_pow_pos n)
  rw [c_mv_zero] at h2
  rw [h1, h2]
/-! ### The least image, how often a word comes among its images, and how many there are -/
def c_cn (n w : Nat) : Nat := (c_L n w).foldl min w
theorem c_fold_le : ∀ (l : List Nat) (a : Nat), l.foldl min a ≤ a ∧ (∀ b ∈ l, l.foldl min a ≤ b) ∧ (l.foldl min a = a ∨ l.foldl min a ∈ l)
  | [], a => ⟨Nat.le_refl _, by simp, .inl rfl⟩
  | b :: l, a => by
    obtain ⟨h1, h2, h3⟩ := c_fold_le l (min a b)
    rw [List.foldl_cons]
    refine ⟨by omega, fun c hc => ?_, ?_⟩
    · rcases List.mem_cons.mp hc with rfl | hc
      · omega
      · exact h2 c hc
    · rcases h3 with h3 | h3
      · rcases Nat.le_total a b with hab | hab
        · rw [h3]; exact .inl (by omega)
        · rw [h3, Nat.min_eq_right hab]; exact .inr List.mem_cons_self
      · exact .inr (List.mem_cons_of_mem _ h3)
theorem c_cn_all {n w : Nat} (hn : n ≤ 4) (hw : w < 2 ^ 2 ^ n) : c_cn n w ≤ w ∧ (∀ v ∈ c_L n w, c_cn n w ≤ v) ∧ c_cn n w ∈ c_L n w := by
  obtain ⟨h1, h2, h3⟩ := c_fold_le (c_L n w) w
  refine ⟨h1, h2, ?_⟩
  rcases h3 with h3 | h3
  · unfold c_cn; rw [h3]; exact c_self_mem hn hw
  · exact h3
theorem c_cn_perm {n v w : Nat} (hn : n ≤ 4) (hv : v < 2 ^ 2 ^ n) (hw : w < 2 ^ 2 ^ n) (h : (c_L n v).Perm (c_L n w)) : c_cn n v = c_cn n w := by
  have a := c_cn_all hn hv
  have b := c_cn_all hn hw
  exact Nat.le_antisymm (a.2.1 _ (h.mem_iff.mpr b.2.2)) (b.2.1 _ (h.mem_iff.mp a.2.2))
def c_sy (n w : Nat) : Nat := (c_L n w).count w
def c_tot (n : Nat) : Nat := (c_PS n).length * (2 ^ n * 2)
theorem c_tot_le {n : Nat} (hn : n ≤ 4) : c_tot n ≤ 768 ∧ (c_PS n).length ≤ 24 := by
  rcases (by omega : n = 0 ∨ n = 1 ∨ n = 2 ∨ n = 3 ∨ n = 4) with rfl | rfl | rfl | rfl | rfl <;> decide +kernel
theorem c_sy_pos {n w : Nat} (hn : n ≤ 4) (hw : w < 2 ^ 2 ^ n) : 0 < c_sy n w ∧ c_sy n w ≤ c_tot n := by
  refine ⟨List.count_pos_iff.mpr (c_self_mem hn hw), ?_⟩
  have h := List.count_le_length (a := w) (l := c_L n w)
  rw [c_L_len] at h
  exact h
end Go.Proofs.YteljkpglgjjnlaaMath
