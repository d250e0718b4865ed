/- What the law FnExactFormatAnf comes to, over numbers and lists alone: at every input both sides tell the same. No conditions but the kinds of the numbers. -/
import Derived.Test.YteljkpglgjjnlaaMath
import Derived.Test.YteljkpglgjjnlaaCof
import Derived.Test.YteljkpglgjjnlaaWrd
import Derived.Test.YteljkpglgjjnlaaQ0
import Derived.Test.YteljkpglgjjnlaaQ1
import Derived.Test.YteljkpglgjjnlaaQ2
namespace Go.Proofs.Yteljkpglgjjnlaa.Pure
open Go.RowKit Go.Proofs.Yteljkpglgjjnlaa.P Go.Proofs.YteljkpglgjjnlaaW.PrintWords Go.Proofs.YteljkpglgjjnlaaW.PrintLast Go.Proofs.YteljkpglgjjnlaaW.PrintMore Go.Proofs.YteljkpglgjjnlaaMath
set_option linter.unusedVariables false
set_option linter.unusedSimpArgs false

theorem spec_IsTable_eq (b W : Int) : spec_IsTable.f b W = some (isTab b W) := rfl

theorem impl_makeTable_word_eq (g : Nat → Bool) : ∀ N, N ≤ 32 → impl_makeTable.word g N = ((wordN g N : Nat) : Int) := by
  intro N
  induction N with
  | zero => intro _; rfl
  | succ N ih =>
    intro hN
    simp only [impl_makeTable.word]
    rw [ih (by omega)]
    by_cases hg : g N = true
    · rw [if_pos hg, wordN_or (by omega) hg]
    · rw [if_neg hg]
      simp only [wordN]
      rw [if_neg hg]

theorem impl_Table_anf_sum_eq {w m : Nat} (hw : w < 9223372036854775808) (hm : m < 32) : ∀ N, N ≤ 32 → impl_Table_anf.sum w m N = b2i (ap w m N) := by
  intro N
  induction N with
  | zero => intro _; rfl
  | succ N ih =>
    intro hN
    simp only [impl_Table_anf.sum, ap]
    rw [ih (by omega), bandnotN (by omega) (by omega), at1 hw]
    by_cases e : N &&& m = N
    · rw [if_pos (by rw [e, Nat.xor_self]; rfl), if_pos e, b2i_xor]
    · rw [if_neg (fun h => e (xor_zero (by omega)).symm), if_neg e]
def anfW (n w : Nat) : Nat := wordN (fun m => ap w m (m + 1)) (2 ^ n)
theorem impl_Table_anf_eq {n w : Nat} (t : Tab n w) : impl_Table_anf.f n w = some ((n : Int), ((anfW n w : Nat) : Int)) := by
  have hn := t.hn
  have hs := t.size
  unfold impl_Table_anf.f
  rw [if_pos (by omega), Int.toNat_natCast, impl_makeTable_word_eq _ _ hs]
  unfold anfW
  rw [wordN_congr fun m hm => ?_]
  unfold impl_Table_anf.on
  rw [Int.toNat_natCast, impl_Table_anf_sum_eq t.w63 (by omega) _ hs, show 2 ^ n = m + 1 + (2 ^ n - (m + 1)) by omega, ap_short]
  cases ap w m (m + 1) <;> rfl
theorem anfW_tab {n w : Nat} (t : Tab n w) : Tab n (anfW n w) := ⟨t.hn, wordN_lt _ _⟩

theorem spec_l11Anf_ev {n w : Nat} (t : Tab n w) : Ev (fun k => spec_l11Anf.f k n w) ((anfW n w : Nat) : Int) := by
  have hn := t.hn
  have hs := t.size
  unfold spec_l11Anf.f anfW
  refine ev_for (fun k m => spec_l11Anf.l0 k ((wordN (fun m => ap w m (m + 1)) m : Nat) : Int) (m : Int) n w) (2 ^ n) ?_ ?_
  · intro m hm h
    refine Ev.step (f := fun k => spec_l11Anf.l1 k ((wordN (fun m => ap w m (m + 1)) m : Nat) : Int) (m : Int) 0 0 n w) (fun k => ?_) ?_
    · simp only [spec_l11Anf.l0]
      rw [if_pos (Int.natCast_nonneg _), shl1 (by omega), if_pos (Int.ofNat_lt.mpr hm)]
    refine ev_for (fun k x => spec_l11Anf.l1 k ((wordN (fun m => ap w m (m + 1)) m : Nat) : Int) (m : Int) (apS w m x) (x : Int) n w) (m + 1) ?_ ?_
    · intro x hx h
      refine Ev.step (fun k => ?_) h
      have hb := apS_range w m x
      have hb1 := b2i_range (w.testBit x)
      simp only [spec_l11Anf.l1]
      rw [if_pos (by omega), bandN (by omega) (by omega), w64 (x := (x : Int) + 1) (by omega) (by omega), at1 t.w63, w64 (x := apS w m x + _) (by omega) (by omega)]
      by_cases e : x &&& m = x
      · rw [if_pos (by rw [e]), if_pos (Int.natCast_nonneg _), show apS w m (x + 1) = apS w m x + b2i (w.testBit x) by unfold apS; simp only [sumI]; rw [if_pos e]]
        rfl
      · rw [if_neg (by omega), show apS w m (x + 1) = apS w m x by unfold apS; simp only [sumI]; rw [if_neg e, Int.add_zero]]
        rfl
    · refine Ev.step (fun k => ?_) h
      have hb := apS_range w m (m + 1)
      simp only [spec_l11Anf.l1]
      rw [if_neg (by omega), if_pos (Int.natCast_nonneg _), Int.tmod_eq_emod_of_nonneg hb.1, apS_par, w64 (by omega) (by omega)]
      have := wordN_step (g := fun m => ap w m (m + 1)) (x := m) (by omega)
      rw [this]
      rfl
  · refine ev0 fun k => ?_
    simp only [spec_l11Anf.l0]
    rw [if_pos (Int.natCast_nonneg _), shl1 (by omega), if_neg (by omega)]

theorem impl_isBits_eq (b : Int) : impl_isBits.f b = some (decide (0 ≤ b ∧ b ≤ 5)) := by
  unfold impl_isBits.f
  by_cases h : b ≥ 0
  · rw [if_pos h]; simp [show 0 ≤ b from h]
  · rw [if_neg h]; simp [show ¬ 0 ≤ b from h]

theorem impl_Table_size_eq {n : Nat} (h : n ≤ 62) (W : Int) : impl_Table_size.f n W = some ((2 ^ n : Nat) : Int) := by
  unfold impl_Table_size.f
  rw [if_pos (Int.natCast_nonneg _), shl1 h]

theorem impl_IsTable_eq (b W : Int) : impl_IsTable.f b W = some (isTab b W) := by
  unfold impl_IsTable.f
  rw [impl_isBits_eq, Option.bind_some]
  by_cases h : 0 ≤ b ∧ b ≤ 5
  · obtain ⟨n, rfl⟩ := Int.eq_ofNat_of_zero_le h.1
    rw [if_pos (decide_eq_true h)]
    by_cases h2 : W ≥ 0
    · rw [if_pos h2]
      obtain ⟨w, rfl⟩ := Int.eq_ofNat_of_zero_le h2
      have hp : 2 ^ n ≤ 2 ^ 5 := Nat.pow_le_pow_right (by omega) (by omega)
      rw [impl_Table_size_eq (by omega), Option.bind_some, if_pos (Int.natCast_nonneg _), shrS (by omega)]
      congr 1
      unfold isTab
      rw [Bool.eq_iff_iff, decide_eq_true_iff, beq_iff_eq, Int.toNat_natCast]
      have e : ((2 : Int) ^ 2 ^ n) = ((2 ^ 2 ^ n : Nat) : Int) := by push_cast; rfl
      rw [e]
      have hd : w / 2 ^ 2 ^ n = 0 ↔ w < 2 ^ 2 ^ n := by rw [Nat.div_eq_zero_iff]; have := Nat.two_pow_pos (2 ^ n); omega
      constructor
      · intro h3
        have := hd.1 (by omega)
        omega
      · rintro ⟨_, _, _, h4⟩
        have := hd.2 (by omega)
        omega
    · rw [if_neg h2, show isTab n W = false from decide_eq_false fun h3 => h2 h3.2.2.1]
  · rw [if_neg (by rw [decide_eq_false h]; decide), show isTab b W = false from decide_eq_false fun h3 => h ⟨h3.1, h3.2.1⟩]

theorem impl_Table_at_eq {n w : Nat} (t : Tab n w) (x : Nat) : impl_Table_at.f n w x = some (b2i (w.testBit x)) := by
  unfold impl_Table_at.f
  rw [if_pos (Int.natCast_nonneg _), at1 t.w63]

theorem impl_isInput_eq {n : Nat} (h : n ≤ 62) (x : Int) : impl_isInput.f n x = some (isInp n x) := by
  unfold impl_isInput.f
  by_cases h0 : x ≥ 0
  · rw [if_pos h0, if_pos (Int.natCast_nonneg _), shl1 h, isInp_lt h0]
  · rw [if_neg h0, show isInp n x = false from decide_eq_false fun h3 => h0 h3.1]

theorem laws_toTable_eq (b W : Int) : laws_toTable.f b W = some (b, W) := rfl

theorem ev_bd {A R : Type} {g : Nat → Option A} {a : A} {F : Nat → A → Option R} {r : R} (h : Ev g a) (hF : Ev (fun k => F k a) r) : Ev (fun k => (g k).bind (F k)) r := ev1 h (fun k hk => by rw [hk]; rfl) hF
theorem ev_if {R : Type} {c : Prop} [Decidable c] {f g : Nat → Option R} {r : R} (hc : c) (h : Ev f r) : Ev (fun k => if c then f k else g k) r := by simp only [if_pos hc]; exact h
theorem ev_ifn {R : Type} {c : Prop} [Decidable c] {f g : Nat → Option R} {r : R} (hc : ¬ c) (h : Ev g r) : Ev (fun k => if c then f k else g k) r := by simp only [if_neg hc]; exact h

/-- A text of these bytes. -/
def ofL (l : List UInt8) : ByteArray := ⟨l.toArray⟩
theorem ofL_append (a b : List UInt8) : ofL a ++ ofL b = ofL (a ++ b) := Go.ByteArray.mk_append_mk a b
theorem ofL_size (a : List UInt8) : (ofL a).size = a.length := by simp [ofL, ByteArray.size]
theorem ofL_list (a : List UInt8) : (ofL a).toList = a := by rw [Go.ByteArray.toList_eq]; rfl
theorem ofL_data (a : List UInt8) : (ofL a).data.toList = a := rfl
/-- The letters of a set's variables below i. -/
def tl (m : Nat) : Nat → List UInt8
  | 0 => []
  | i + 1 => if m.testBit i = true then tl m i ++ [UInt8.ofNat (97 + i)] else tl m i
def term (n m : Nat) : List UInt8 := if tl m n = [] then [49] else tl m n
theorem tl_len (m i : Nat) : (tl m i).length ≤ i := by
  induction i with
  | zero => exact Nat.le_refl _
  | succ i ih =>
    simp only [tl]
    split
    · rw [List.length_append]; simp; omega
    · omega
theorem term_len {n m : Nat} (hn : n ≤ 5) : 1 ≤ (term n m).length ∧ (term n m).length ≤ 5 := by
  have := tl_len m n
  unfold term
  split
  · simp
  · rename_i h
    have : (tl m n).length ≠ 0 := fun e => h (List.eq_nil_of_length_eq_zero e)
    omega
theorem term_ne {n m : Nat} (hn : n ≤ 5) : term n m ≠ [] := by
  have := (term_len (m := m) hn).1
  intro e
  rw [e] at this
  simp at this
theorem letter_ext {i : Nat} (h : i < 5) : (⟨#[97, 98, 99, 100, 101]⟩ : ByteArray).extract (i : Int).toNat (wrap64 ((i : Int) + 1)).toNat = ofL [UInt8.ofNat (97 + i)] := by
  rw [w64 (by omega) (by omega), Int.toNat_natCast, show ((i : Int) + 1).toNat = i + 1 by omega]
  rcases (by omega : i = 0 ∨ i = 1 ∨ i = 2 ∨ i = 3 ∨ i = 4) with rfl | rfl | rfl | rfl | rfl <;> rfl
theorem spec_IsTerm_eq {n m : Nat} (hn : n ≤ 5) (hm : m < 2 ^ n) : spec_IsTerm.f n m m = some true := by
  unfold spec_IsTerm.f
  rw [if_pos ⟨⟨by omega, by omega⟩, by omega, by rw [inp_size]; omega, rfl⟩]
theorem spec_FormatTerm_ev {n m : Nat} (hn : n ≤ 5) (hm : m < 2 ^ n) : Ev (fun k => spec_FormatTerm.f k n m m) (ofL (term n m)) := by
  have hp := pow62 hn
  have hT := spec_IsTerm_eq hn hm
  unfold spec_FormatTerm.f
  refine ev_for (fun k i => spec_FormatTerm.l0 k n (ofL (tl m i)) (i : Int) m m) n ?_ ?_
  · intro i hi h
    have hl := tl_len m i
    refine Ev.step (f := fun k => spec_FormatTerm.j1 k n (ofL (tl m i)) (i : Int) true m m) (fun k => ?_) ?_
    · simp only [spec_FormatTerm.l0]
      rw [hT, Option.bind_some, if_pos rfl, decide_eq_true (Int.ofNat_lt.mpr hi)]
    refine Ev.step (fun k => ?_) h
    simp only [spec_FormatTerm.j1, if_true]
    rw [if_pos (Int.natCast_nonneg _), at1 (by omega)]
    simp only [tl]
    by_cases hb : m.testBit i = true
    · rw [hb, if_neg (by decide), if_neg (by decide), if_pos rfl, letter_ext (by omega), ofL_size, ofL_size, ofL_append, w64 (x := (i : Int) + 1) (by omega) (by omega), if_pos (by omega), if_pos (by omega), if_pos (by simp; omega)]
      rfl
    · rw [Bool.eq_false_iff.mpr hb, if_pos (by decide), if_neg (by decide), w64 (x := (i : Int) + 1) (by omega) (by omega)]
      rfl
  · refine Ev.step (f := fun k => spec_FormatTerm.j1 k n (ofL (tl m n)) (n : Int) false m m) (fun k => ?_) (ev0 fun k => ?_)
    · simp only [spec_FormatTerm.l0]
      rw [hT, Option.bind_some, if_pos rfl, decide_eq_false (by omega)]
    · simp only [spec_FormatTerm.j1, Bool.false_eq_true, if_false]
      rw [ofL_list, hT]
      unfold term
      by_cases he : tl m n = []
      · rw [if_pos he, if_pos he]
        rfl
      · rw [if_neg he, if_neg he]
/-- The same letters, as numbers. -/
def nl (m : Nat) : Nat → List Int
  | 0 => []
  | i + 1 => if m.testBit i = true then nl m i ++ [((97 + i : Nat) : Int)] else nl m i
theorem nl_len (m i : Nat) : (nl m i).length = (tl m i).length := by
  induction i with
  | zero => rfl
  | succ i ih =>
    simp only [nl, tl]
    split
    · rw [List.length_append, List.length_append, ih]; rfl
    · exact ih
theorem nl_str (m i : Nat) : strOfNums (nl m i) = ofL (tl m i) := by
  have key : ∀ i, (nl m i).map (fun n => UInt8.ofNat n.toNat) = tl m i := by
    intro i
    induction i with
    | zero => rfl
    | succ i ih =>
      simp only [nl, tl]
      split
      · rw [List.map_append, ih]; rfl
      · exact ih
  unfold strOfNums ofL
  rw [key]
theorem impl_IsTerm_eq {n m : Nat} (hn : n ≤ 5) (hm : m < 2 ^ n) : impl_IsTerm.f n m m = some true := by
  have hp := pow62 hn
  unfold impl_IsTerm.f
  rw [impl_isBits_eq, Option.bind_some, decide_eq_true (show (0 : Int) ≤ (n : Int) ∧ (n : Int) ≤ 5 by omega), if_pos rfl, impl_isInput_eq (by omega), isInp_mk hm, Option.bind_some, if_pos rfl, if_pos (by omega), bandnotN (by omega) (by omega), Nat.and_self, Nat.xor_self]
  rfl
theorem impl_FormatTerm_ev {n m : Nat} (hn : n ≤ 5) (hm : m < 2 ^ n) : Ev (fun k => impl_FormatTerm.f k n m m) (ofL (term n m)) := by
  have hp := pow62 hn
  unfold impl_FormatTerm.f
  rw [impl_IsTerm_eq hn hm]
  simp only [Option.bind_some, if_true]
  refine ev_for (fun k i => impl_FormatTerm.l0 k (nl m i) n (i : Int) m m) n ?_ ?_
  · intro i hi h
    have hl := tl_len m i
    have hl2 := nl_len m i
    refine Ev.step (fun k => ?_) h
    simp only [impl_FormatTerm.l0]
    rw [if_pos (by omega), if_pos (Int.natCast_nonneg _), at1 (by omega)]
    simp only [nl]
    by_cases hb : m.testBit i = true
    · rw [hb, if_neg (by decide), if_neg (by decide), if_pos rfl, if_pos (by omega), w64 (x := (i : Int) + 1) (by omega) (by omega), show (97 + ((i : Int) % 256)) % 256 = ((97 + i : Nat) : Int) by omega]
      rfl
    · rw [Bool.eq_false_iff.mpr hb, if_pos (by decide), if_neg (by decide), w64 (x := (i : Int) + 1) (by omega) (by omega)]
      rfl
  · refine ev0 fun k => ?_
    simp only [impl_FormatTerm.l0]
    rw [if_neg (by omega), nl_len, nl_str]
    unfold term
    by_cases he : tl m n = []
    · rw [if_pos (by rw [he]; rfl), if_pos he]
      rfl
    · rw [if_neg (fun h => he (List.eq_nil_of_length_eq_zero (by omega))), if_neg he]
/-- The sets of a word, in order. -/
def ml (g : Nat) : Nat → List Nat
  | 0 => []
  | i + 1 => if g.testBit i = true then ml g i ++ [i] else ml g i
theorem ml_len (g i : Nat) : (ml g i).length ≤ i := by
  induction i with
  | zero => exact Nat.le_refl _
  | succ i ih =>
    simp only [ml]
    split
    · rw [List.length_append]; simp; omega
    · omega
theorem ml_lt (g : Nat) : ∀ i x, x ∈ ml g i → x < i := by
  intro i
  induction i with
  | zero => intro x h; simp [ml] at h
  | succ i ih =>
    intro x h
    simp only [ml] at h
    split at h
    · rcases List.mem_append.1 h with h | h
      · have := ih x h; omega
      · rw [List.mem_singleton.1 h]; omega
    · have := ih x h; omega
def sj (n g i : Nat) : List UInt8 := Go.Lib.join ((ml g i).map (term n)) [43]
theorem join_snoc (xs : List (List UInt8)) (x sep : List UInt8) : Go.Lib.join (xs ++ [x]) sep = if xs = [] then x else Go.Lib.join xs sep ++ sep ++ x := by
  induction xs with
  | nil => rw [List.nil_append, Go.Lib.join_one, if_pos rfl]
  | cons y ys ih =>
    rw [if_neg (by simp)]
    cases ys with
    | nil => simp [Go.Lib.join, List.intercalate, List.intersperse]
    | cons z zs =>
      rw [if_neg (by simp)] at ih
      have e1 : Go.Lib.join (y :: (z :: zs ++ [x])) sep = y ++ sep ++ Go.Lib.join (z :: zs ++ [x]) sep := by simp [Go.Lib.join, List.intercalate, List.intersperse]
      have e2 : Go.Lib.join (y :: z :: zs) sep = y ++ sep ++ Go.Lib.join (z :: zs) sep := by simp [Go.Lib.join, List.intercalate, List.intersperse]
      rw [List.cons_append, e1, ih, e2]
      simp
theorem sj_nil {n g i : Nat} (hn : n ≤ 5) : sj n g i = [] ↔ ml g i = [] := by
  induction i with
  | zero => simp [sj, ml, Go.Lib.join_nil]
  | succ i ih =>
    unfold sj at ih ⊢
    simp only [ml]
    split
    · rw [List.map_append, List.map_cons, List.map_nil, join_snoc]
      have h1 := term_ne (m := i) hn
      constructor
      · intro h
        split at h
        · exact absurd h h1
        · simp at h
      · intro h; simp at h
    · exact ih
theorem sj_len {n : Nat} (hn : n ≤ 5) (g i : Nat) : (sj n g i).length ≤ 6 * i := by
  induction i with
  | zero => simp [sj, ml, Go.Lib.join_nil]
  | succ i ih =>
    have ht := (term_len (m := i) hn).2
    unfold sj at ih ⊢
    simp only [ml]
    split
    · rw [List.map_append, List.map_cons, List.map_nil, join_snoc]
      split
      · omega
      · simp only [List.length_append, List.length_cons, List.length_nil]
        omega
    · omega
theorem sj_step {n g i : Nat} (hn : n ≤ 5) (hb : g.testBit i = true) : sj n g (i + 1) = if sj n g i = [] then term n i else sj n g i ++ [43] ++ term n i := by
  have h0 := sj_nil (g := g) (i := i) hn
  have e : sj n g (i + 1) = if (ml g i).map (term n) = [] then term n i else sj n g i ++ [43] ++ term n i := by
    unfold sj
    simp only [ml]
    rw [if_pos hb, List.map_append, List.map_cons, List.map_nil, join_snoc]
  rw [e]
  by_cases h : sj n g i = []
  · rw [if_pos h, if_pos (by rw [h0.1 h]; rfl)]
  · rw [if_neg h, if_neg (fun hh => h (h0.2 (List.map_eq_nil_iff.1 hh)))]
theorem sj_same {n g i : Nat} (hb : g.testBit i = false) : sj n g (i + 1) = sj n g i := by
  unfold sj
  simp only [ml]
  rw [if_neg (by rw [hb]; decide)]
theorem spec_FormatAnf_ev {n w : Nat} (t : Tab n w) : Ev (fun k => spec_FormatAnf.f k n w) (ofL (if sj n (anfW n w) (2 ^ n) = [] then [48] else sj n (anfW n w) (2 ^ n))) := by
  have hn := t.hn
  have hs := t.size
  have hg := (anfW_tab t).w63
  generalize hgg : anfW n w = g at *
  have hA := spec_l11Anf_ev t
  rw [hgg] at hA
  unfold spec_FormatAnf.f
  simp only [spec_IsTable_eq, isTab_mk t, Option.bind_some, if_true]
  refine ev_bd hA ?_
  refine ev_for (fun k i => spec_FormatAnf.l0 k (ofL (sj n g i)) (g : Int) (i : Int) n w) (2 ^ n) ?_ ?_
  · intro i hi h
    have hl := sj_len hn g i
    have ht := term_len (m := i) hn
    by_cases hb : g.testBit i = true
    · rw [sj_step hn hb] at h
      have hF := spec_FormatTerm_ev (m := i) hn hi
      refine evs1 hF (fun k hk => ?_) h
      simp only [spec_FormatAnf.l0]
      rw [if_pos (Int.natCast_nonneg _), shl1 (by omega), if_pos (by omega), if_pos (Int.natCast_nonneg _), at1 hg, hb, if_neg (by decide), ofL_list, w64 (x := (i : Int) + 1) (by omega) (by omega), hk, Option.bind_some, Option.bind_some]
      by_cases he : sj n g i = []
      · rw [if_pos he, if_pos he, ofL_size, ofL_size, if_pos (by omega), he, ofL_append]
        rfl
      · rw [if_neg he, if_neg he, show (⟨#[43]⟩ : ByteArray) = ofL [43] from rfl, ofL_append, ofL_append, ofL_size, ofL_size, ofL_size, if_pos (by omega), if_pos (by simp; omega)]
        rfl
    · rw [sj_same (Bool.eq_false_iff.mpr hb)] at h
      refine Ev.step (fun k => ?_) h
      simp only [spec_FormatAnf.l0]
      rw [if_pos (Int.natCast_nonneg _), shl1 (by omega), if_pos (by omega), if_pos (Int.natCast_nonneg _), at1 hg, Bool.eq_false_iff.mpr hb, if_pos (by decide), w64 (x := (i : Int) + 1) (by omega) (by omega)]
      rfl
  · refine ev0 fun k => ?_
    simp only [spec_FormatAnf.l0]
    rw [if_pos (Int.natCast_nonneg _), shl1 (by omega), if_neg (by omega), ofL_list]
    by_cases he : sj n g (2 ^ n) = []
    · rw [if_pos he, if_pos he]
      rfl
    · rw [if_neg he, if_neg he]
def tms (l : List Nat) : List S50 := l.map fun m : Nat => (⟨(m : Int), (m : Int)⟩ : S50)
theorem tms_len (l : List Nat) : (tms l).length = l.length := by simp [tms]
theorem tms_rd {l : List Nat} {i : Nat} (h : i < l.length) : rd_T50 (tms l) (i : Int) = ⟨((l[i] : Nat) : Int), ((l[i] : Nat) : Int)⟩ := by
  unfold rd_T50 tms
  rw [Int.toNat_natCast, List.getD_eq_getElem?_getD, List.getElem?_map, List.getElem?_eq_getElem h]
  rfl
theorem impl_joinTerms_ev {n : Nat} (hn : n ≤ 5) {l : List Nat} (hl : l.length ≤ 32) (hm : ∀ m ∈ l, m < 2 ^ n) : Ev (fun k => impl_joinTerms.f k n (tms l) (ofL [43])) (ofL (Go.Lib.join (l.map (term n)) [43])) := by
  have hjl : ∀ l : List Nat, (Go.Lib.join (l.map (term n)) [43]).length ≤ 6 * l.length := by
    intro l
    induction l with
    | nil => simp [Go.Lib.join_nil]
    | cons x xs ih =>
      have ht := (term_len (m := x) hn).2
      cases xs with
      | nil => rw [List.map_cons, List.map_nil, Go.Lib.join_one]; simp; omega
      | cons y ys =>
        have e1 : Go.Lib.join ((x :: y :: ys).map (term n)) [43] = term n x ++ [43] ++ Go.Lib.join ((y :: ys).map (term n)) [43] := by simp [Go.Lib.join, List.intercalate, List.intersperse]
        rw [e1]
        simp only [List.length_append, List.length_cons, List.length_nil] at ih ⊢
        omega
  unfold impl_joinTerms.f
  simp only [tms_len, if_pos (Int.natCast_nonneg _), Int.toNat_natCast, if_pos (show l.length ≤ 17592186044416 by omega)]
  have hrep : List.replicate l.length (⟨#[]⟩ : ByteArray) = (l.take 0).map (fun m => ofL (term n m)) ++ List.replicate (l.length - 0) (⟨#[]⟩ : ByteArray) := by simp
  rw [hrep]
  refine ev_for (fun k i => impl_joinTerms.l0 k n (ofL [43]) ((l.take i).map (fun m => ofL (term n m)) ++ List.replicate (l.length - i) (⟨#[]⟩ : ByteArray)) (tms l) (l.length : Int) (i : Int)) l.length ?_ ?_
  · intro i hi h
    have hF := impl_FormatTerm_ev (m := l[i]) hn (hm _ (List.getElem_mem hi))
    have hlen : ((l.take i).map (fun m => ofL (term n m)) ++ List.replicate (l.length - i) (⟨#[]⟩ : ByteArray)).length = l.length := by
      simp [List.length_take]
      omega
    have hset : ((l.take i).map (fun m => ofL (term n m)) ++ List.replicate (l.length - i) (⟨#[]⟩ : ByteArray)).set i (ofL (term n l[i])) = (l.take (i + 1)).map (fun m => ofL (term n m)) ++ List.replicate (l.length - (i + 1)) (⟨#[]⟩ : ByteArray) := by
      have h1 : ((l.take i).map (fun m => ofL (term n m))).length = i := by simp [List.length_take]; omega
      rw [List.set_append_right _ _ (by omega), h1, Nat.sub_self, show l.length - i = (l.length - (i + 1)) + 1 by omega, List.replicate_succ, List.take_succ_eq_append_getElem hi, List.map_append, List.append_assoc]
      rfl
    refine evs1 hF (fun k hk => ?_) h
    simp only [impl_joinTerms.l0]
    rw [if_pos (by omega), if_pos (Int.natCast_nonneg _), tms_len, if_pos (by omega), tms_rd hi, hk, Option.bind_some, hlen, if_pos (by omega), Int.toNat_natCast, hset, w64 (by omega) (by omega)]
    rfl
  · refine ev0 fun k => ?_
    simp only [impl_joinTerms.l0]
    rw [if_neg (by omega), List.take_length, Nat.sub_self, List.replicate_zero, List.append_nil]
    unfold strings_Join.f
    have hmap : (l.map fun m => ofL (term n m)).map (·.data.toList) = l.map (term n) := by
      rw [List.map_map]
      rfl
    rw [hmap, ofL_data, if_pos ⟨by rw [List.length_map]; omega, by have := hjl l; omega⟩]
    rfl
theorem impl_FormatAnf_ev {n w : Nat} (t : Tab n w) : Ev (fun k => impl_FormatAnf.f k n w) (ofL (if sj n (anfW n w) (2 ^ n) = [] then [48] else sj n (anfW n w) (2 ^ n))) := by
  have hn := t.hn
  have hs := t.size
  have tg := anfW_tab t
  have hA := impl_Table_anf_eq t
  generalize anfW n w = g at *
  unfold impl_FormatAnf.f
  simp only [impl_IsTable_eq, isTab_mk t, Option.bind_some, if_true, hA, impl_Table_size_eq (show n ≤ 62 by omega)]
  refine ev_for (fun k i => impl_FormatAnf.l0 k (tms (ml g i)) ((2 ^ n : Nat) : Int) (i : Int) n w n (g : Int)) (2 ^ n) ?_ ?_
  · intro i hi h
    have hl := ml_len g i
    have hl2 := tms_len (ml g i)
    refine Ev.step (fun k => ?_) h
    simp only [impl_FormatAnf.l0]
    rw [if_pos (by omega), impl_Table_at_eq tg, Option.bind_some, w64 (by omega) (by omega)]
    simp only [ml]
    by_cases hb : g.testBit i = true
    · rw [hb, if_pos (by decide), if_pos (by omega), if_pos rfl]
      unfold tms
      rw [List.map_append]
      rfl
    · rw [Bool.eq_false_iff.mpr hb, if_neg (by decide), if_neg (by decide)]
      rfl
  · have hl := ml_len g (2 ^ n)
    have h0 := sj_nil (g := g) (i := 2 ^ n) hn
    by_cases he : ml g (2 ^ n) = []
    · rw [if_pos (h0.2 he)]
      refine ev0 fun k => ?_
      simp only [impl_FormatAnf.l0]
      rw [if_neg (by omega), he, if_pos (by rfl)]
      rfl
    · rw [if_neg (fun h => he (h0.1 h))]
      have hJ := impl_joinTerms_ev hn (l := ml g (2 ^ n)) (by omega) fun m hm => ml_lt g _ m hm
      refine evs1 hJ (fun k hk => ?_) (Ev.now _)
      simp only [impl_FormatAnf.l0]
      rw [if_neg (by omega), tms_len, if_neg (fun h => he (List.eq_nil_of_length_eq_zero (by omega))), show (⟨#[43]⟩ : ByteArray) = ofL [43] from rfl, hk]
      rfl
theorem FnExactFormatAnf (b W : Int) (hb : (Lit.int .i64 b).wf = true) (hW : (Lit.int .i64 W).wf = true) : ∃ k, laws_FnExactFormatAnf.f k b W = some true := by
  have key : ∃ r, Ev (fun k => spec_FormatAnf.f k b W) r ∧ Ev (fun k => impl_FormatAnf.f k b W) r := by
    by_cases h : isTab b W = true
    · obtain ⟨n, w, rfl, rfl, t⟩ := isTab_yes h
      exact ⟨_, spec_FormatAnf_ev t, impl_FormatAnf_ev t⟩
    · unfold spec_FormatAnf.f impl_FormatAnf.f
      simp only [spec_IsTable_eq, impl_IsTable_eq, Option.bind_some, if_neg h]
      exact ⟨_, Ev.now _, Ev.now _⟩
  obtain ⟨r, h1, h2⟩ := key
  refine Ev.rounds ?_
  unfold laws_FnExactFormatAnf.f
  simp only [laws_toTable_eq, Option.bind_some]
  exact ev_bd h1 (ev_bd h2 (ev_if rfl (Ev.now _)))

end Go.Proofs.Yteljkpglgjjnlaa.Pure
