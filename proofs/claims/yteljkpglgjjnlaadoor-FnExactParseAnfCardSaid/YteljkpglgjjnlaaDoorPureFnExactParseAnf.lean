/- What the law FnExactParseAnf comes to, over numbers and lists alone: at every input both sides tell the same. No conditions but the kinds of the numbers. -/
import Derived.Test.YteljkpglgjjnlaaDoorMath
import Derived.Test.YteljkpglgjjnlaaDoorCof
import Derived.Test.YteljkpglgjjnlaaDoorWrd
import Derived.Test.YteljkpglgjjnlaaDoorQ0
import Derived.Test.YteljkpglgjjnlaaDoorQ1
import Derived.Test.YteljkpglgjjnlaaDoorQ2
import Derived.Test.YteljkpglgjjnlaaDoorQ3
import Derived.Test.YteljkpglgjjnlaaDoorQ4
import Derived.Test.YteljkpglgjjnlaaDoorQ5
namespace Go.Proofs.YteljkpglgjjnlaaDoor.Pure
open Go.RowKit Go.Proofs.YteljkpglgjjnlaaDoor.P Go.Proofs.YteljkpglgjjnlaaDoorW.PrintWords Go.Proofs.YteljkpglgjjnlaaDoorW.PrintLast Go.Proofs.YteljkpglgjjnlaaDoorW.PrintMore Go.Proofs.YteljkpglgjjnlaaDoorMath
set_option linter.unusedVariables false
set_option linter.unusedSimpArgs false

theorem spec_IsTable_eq (b W : Int) : spec_IsTable.f b W = some (isTab b W) := rfl

theorem impl_makeTable_word_eq (g : Nat → Bool) : ∀ N, N ≤ 32 → impl_makeTable.word g N = ((wordN g N : Nat) : Int) := by
  intro N
  induction N with
  | zero => intro _; rfl
  | succ N ih =>
    intro hN
    simp only [impl_makeTable.word]
    rw [ih (by omega)]
    by_cases hg : g N = true
    · rw [if_pos hg, wordN_or (by omega) hg]
    · rw [if_neg hg]
      simp only [wordN]
      rw [if_neg hg]

theorem impl_Table_anf_sum_eq {w m : Nat} (hw : w < 9223372036854775808) (hm : m < 32) : ∀ N, N ≤ 32 → impl_Table_anf.sum w m N = b2i (ap w m N) := by
  intro N
  induction N with
  | zero => intro _; rfl
  | succ N ih =>
    intro hN
    simp only [impl_Table_anf.sum, ap]
    rw [ih (by omega), bandnotN (by omega) (by omega), at1 hw]
    by_cases e : N &&& m = N
    · rw [if_pos (by rw [e, Nat.xor_self]; rfl), if_pos e, b2i_xor]
    · rw [if_neg (fun h => e (xor_zero (by omega)).symm), if_neg e]
def anfW (n w : Nat) : Nat := wordN (fun m => ap w m (m + 1)) (2 ^ n)
theorem impl_Table_anf_eq {n w : Nat} (t : Tab n w) : impl_Table_anf.f n w = some ((n : Int), ((anfW n w : Nat) : Int)) := by
  have hn := t.hn
  have hs := t.size
  unfold impl_Table_anf.f
  rw [if_pos (by omega), Int.toNat_natCast, impl_makeTable_word_eq _ _ hs]
  unfold anfW
  rw [wordN_congr fun m hm => ?_]
  unfold impl_Table_anf.on
  rw [Int.toNat_natCast, impl_Table_anf_sum_eq t.w63 (by omega) _ hs, show 2 ^ n = m + 1 + (2 ^ n - (m + 1)) by omega, ap_short]
  cases ap w m (m + 1) <;> rfl
theorem anfW_tab {n w : Nat} (t : Tab n w) : Tab n (anfW n w) := ⟨t.hn, wordN_lt _ _⟩

theorem spec_l11Anf_ev {n w : Nat} (t : Tab n w) : Ev (fun k => spec_l11Anf.f k n w) ((anfW n w : Nat) : Int) := by
  have hn := t.hn
  have hs := t.size
  unfold spec_l11Anf.f anfW
  refine ev_for (fun k m => spec_l11Anf.l0 k ((wordN (fun m => ap w m (m + 1)) m : Nat) : Int) (m : Int) n w) (2 ^ n) ?_ ?_
  · intro m hm h
    refine Ev.step (f := fun k => spec_l11Anf.l1 k ((wordN (fun m => ap w m (m + 1)) m : Nat) : Int) (m : Int) 0 0 n w) (fun k => ?_) ?_
    · simp only [spec_l11Anf.l0]
      rw [if_pos (Int.natCast_nonneg _), shl1 (by omega), if_pos (Int.ofNat_lt.mpr hm)]
    refine ev_for (fun k x => spec_l11Anf.l1 k ((wordN (fun m => ap w m (m + 1)) m : Nat) : Int) (m : Int) (apS w m x) (x : Int) n w) (m + 1) ?_ ?_
    · intro x hx h
      refine Ev.step (fun k => ?_) h
      have hb := apS_range w m x
      have hb1 := b2i_range (w.testBit x)
      simp only [spec_l11Anf.l1]
      rw [if_pos (by omega), bandN (by omega) (by omega), w64 (x := (x : Int) + 1) (by omega) (by omega), at1 t.w63, w64 (x := apS w m x + _) (by omega) (by omega)]
      by_cases e : x &&& m = x
      · rw [if_pos (by rw [e]), if_pos (Int.natCast_nonneg _), show apS w m (x + 1) = apS w m x + b2i (w.testBit x) by unfold apS; simp only [sumI]; rw [if_pos e]]
        rfl
      · rw [if_neg (by omega), show apS w m (x + 1) = apS w m x by unfold apS; simp only [sumI]; rw [if_neg e, Int.add_zero]]
        rfl
    · refine Ev.step (fun k => ?_) h
      have hb := apS_range w m (m + 1)
      simp only [spec_l11Anf.l1]
      rw [if_neg (by omega), if_pos (Int.natCast_nonneg _), Int.tmod_eq_emod_of_nonneg hb.1, apS_par, w64 (by omega) (by omega)]
      have := wordN_step (g := fun m => ap w m (m + 1)) (x := m) (by omega)
      rw [this]
      rfl
  · refine ev0 fun k => ?_
    simp only [spec_l11Anf.l0]
    rw [if_pos (Int.natCast_nonneg _), shl1 (by omega), if_neg (by omega)]

theorem impl_isBits_eq (b : Int) : impl_isBits.f b = some (decide (0 ≤ b ∧ b ≤ 5)) := by
  unfold impl_isBits.f
  by_cases h : b ≥ 0
  · rw [if_pos h]; simp [show 0 ≤ b from h]
  · rw [if_neg h]; simp [show ¬ 0 ≤ b from h]

theorem impl_Table_size_eq {n : Nat} (h : n ≤ 62) (W : Int) : impl_Table_size.f n W = some ((2 ^ n : Nat) : Int) := by
  unfold impl_Table_size.f
  rw [if_pos (Int.natCast_nonneg _), shl1 h]

theorem impl_IsTable_eq (b W : Int) : impl_IsTable.f b W = some (isTab b W) := by
  unfold impl_IsTable.f
  rw [impl_isBits_eq, Option.bind_some]
  by_cases h : 0 ≤ b ∧ b ≤ 5
  · obtain ⟨n, rfl⟩ := Int.eq_ofNat_of_zero_le h.1
    rw [if_pos (decide_eq_true h)]
    by_cases h2 : W ≥ 0
    · rw [if_pos h2]
      obtain ⟨w, rfl⟩ := Int.eq_ofNat_of_zero_le h2
      have hp : 2 ^ n ≤ 2 ^ 5 := Nat.pow_le_pow_right (by omega) (by omega)
      rw [impl_Table_size_eq (by omega), Option.bind_some, if_pos (Int.natCast_nonneg _), shrS (by omega)]
      congr 1
      unfold isTab
      rw [Bool.eq_iff_iff, decide_eq_true_iff, beq_iff_eq, Int.toNat_natCast]
      have e : ((2 : Int) ^ 2 ^ n) = ((2 ^ 2 ^ n : Nat) : Int) := by push_cast; rfl
      rw [e]
      have hd : w / 2 ^ 2 ^ n = 0 ↔ w < 2 ^ 2 ^ n := by rw [Nat.div_eq_zero_iff]; have := Nat.two_pow_pos (2 ^ n); omega
      constructor
      · intro h3
        have := hd.1 (by omega)
        omega
      · rintro ⟨_, _, _, h4⟩
        have := hd.2 (by omega)
        omega
    · rw [if_neg h2, show isTab n W = false from decide_eq_false fun h3 => h2 h3.2.2.1]
  · rw [if_neg (by rw [decide_eq_false h]; decide), show isTab b W = false from decide_eq_false fun h3 => h ⟨h3.1, h3.2.1⟩]

theorem impl_Table_at_eq {n w : Nat} (t : Tab n w) (x : Nat) : impl_Table_at.f n w x = some (b2i (w.testBit x)) := by
  unfold impl_Table_at.f
  rw [if_pos (Int.natCast_nonneg _), at1 t.w63]

theorem impl_isInput_eq {n : Nat} (h : n ≤ 62) (x : Int) : impl_isInput.f n x = some (isInp n x) := by
  unfold impl_isInput.f
  by_cases h0 : x ≥ 0
  · rw [if_pos h0, if_pos (Int.natCast_nonneg _), shl1 h, isInp_lt h0]
  · rw [if_neg h0, show isInp n x = false from decide_eq_false fun h3 => h0 h3.1]

theorem ev_bd {A R : Type} {g : Nat → Option A} {a : A} {F : Nat → A → Option R} {r : R} (h : Ev g a) (hF : Ev (fun k => F k a) r) : Ev (fun k => (g k).bind (F k)) r := ev1 h (fun k hk => by rw [hk]; rfl) hF
theorem ev_if {R : Type} {c : Prop} [Decidable c] {f g : Nat → Option R} {r : R} (hc : c) (h : Ev f r) : Ev (fun k => if c then f k else g k) r := by simp only [if_pos hc]; exact h
theorem ev_ifn {R : Type} {c : Prop} [Decidable c] {f g : Nat → Option R} {r : R} (hc : ¬ c) (h : Ev g r) : Ev (fun k => if c then f k else g k) r := by simp only [if_neg hc]; exact h

/-- A text of these bytes. -/
def ofL (l : List UInt8) : ByteArray := ⟨l.toArray⟩
theorem ofL_append (a b : List UInt8) : ofL a ++ ofL b = ofL (a ++ b) := Go.ByteArray.mk_append_mk a b
theorem ofL_size (a : List UInt8) : (ofL a).size = a.length := by simp [ofL, ByteArray.size]
theorem ofL_list (a : List UInt8) : (ofL a).toList = a := by rw [Go.ByteArray.toList_eq]; rfl
theorem ofL_data (a : List UInt8) : (ofL a).data.toList = a := rfl
/-- The letters of a set's variables below i. -/
def tl (m : Nat) : Nat → List UInt8
  | 0 => []
  | i + 1 => if m.testBit i = true then tl m i ++ [UInt8.ofNat (97 + i)] else tl m i
def term (n m : Nat) : List UInt8 := if tl m n = [] then [49] else tl m n
theorem tl_len (m i : Nat) : (tl m i).length ≤ i := by
  induction i with
  | zero => exact Nat.le_refl _
  | succ i ih =>
    simp only [tl]
    split
    · rw [List.length_append]; simp; omega
    · omega
theorem term_len {n m : Nat} (hn : n ≤ 5) : 1 ≤ (term n m).length ∧ (term n m).length ≤ 5 := by
  have := tl_len m n
  unfold term
  split
  · simp
  · rename_i h
    have : (tl m n).length ≠ 0 := fun e => h (List.eq_nil_of_length_eq_zero e)
    omega
theorem term_ne {n m : Nat} (hn : n ≤ 5) : term n m ≠ [] := by
  have := (term_len (m := m) hn).1
  intro e
  rw [e] at this
  simp at this
theorem letter_ext {i : Nat} (h : i < 5) : (⟨#[97, 98, 99, 100, 101]⟩ : ByteArray).extract (i : Int).toNat (wrap64 ((i : Int) + 1)).toNat = ofL [UInt8.ofNat (97 + i)] := by
  rw [w64 (by omega) (by omega), Int.toNat_natCast, show ((i : Int) + 1).toNat = i + 1 by omega]
  rcases (by omega : i = 0 ∨ i = 1 ∨ i = 2 ∨ i = 3 ∨ i = 4) with rfl | rfl | rfl | rfl | rfl <;> rfl
/-- A term's letters below i, with exclamation marks. -/
def gl (m v : Nat) : Nat → List UInt8
  | 0 => []
  | i + 1 => if m.testBit i = true then (if v.testBit i = true then gl m v i ++ [UInt8.ofNat (97 + i)] else gl m v i ++ [33] ++ [UInt8.ofNat (97 + i)]) else gl m v i
def gterm (n m v : Nat) : List UInt8 := if gl m v n = [] then [49] else gl m v n
theorem gl_self (m i : Nat) : gl m m i = tl m i := by
  induction i with
  | zero => rfl
  | succ i ih =>
    simp only [gl, tl]
    rw [ih]
    by_cases h : m.testBit i = true
    · rw [if_pos h, if_pos h, if_pos h]
    · rw [if_neg h, if_neg h]
theorem gterm_self (n m : Nat) : gterm n m m = term n m := by unfold gterm term; rw [gl_self]
theorem gl_len (m v i : Nat) : (gl m v i).length ≤ 2 * i := by
  induction i with
  | zero => exact Nat.le_refl _
  | succ i ih =>
    simp only [gl]
    split
    · split
      · rw [List.length_append]; simp; omega
      · rw [List.length_append, List.length_append]; simp; omega
    · omega
theorem spec_IsTerm_eq {n m v : Nat} (hn : n ≤ 5) (hm : m < 2 ^ n) (hv : v &&& m = v) : spec_IsTerm.f n m v = some true := by
  have hp := pow62 hn
  have hle : v ≤ m := by rw [← hv]; exact Nat.and_le_right
  unfold spec_IsTerm.f
  rw [if_pos ⟨⟨by omega, by omega⟩, by omega, by rw [inp_size]; omega, by omega, by omega, by rw [bandN (by omega) (by omega), hv]⟩]
theorem spec_FormatTerm_evg {n m v : Nat} (hn : n ≤ 5) (hm : m < 2 ^ n) (hv : v &&& m = v) : Ev (fun k => spec_FormatTerm.f k n m v) (ofL (gterm n m v)) := by
  have hp := pow62 hn
  have hle : v ≤ m := by rw [← hv]; exact Nat.and_le_right
  have hT := spec_IsTerm_eq hn hm hv
  unfold spec_FormatTerm.f
  refine ev_for (fun k i => spec_FormatTerm.l0 k n (ofL (gl m v i)) (i : Int) m v) n ?_ ?_
  · intro i hi h
    have hl := gl_len m v i
    refine Ev.step (f := fun k => spec_FormatTerm.j1 k n (ofL (gl m v i)) (i : Int) true m v) (fun k => ?_) ?_
    · simp only [spec_FormatTerm.l0]
      rw [hT, Option.bind_some, if_pos rfl, decide_eq_true (Int.ofNat_lt.mpr hi)]
    refine Ev.step (fun k => ?_) h
    simp only [spec_FormatTerm.j1, if_true]
    rw [if_pos (Int.natCast_nonneg _), at1 (w := m) (by omega), at1 (w := v) (by omega)]
    simp only [gl]
    by_cases hb : m.testBit i = true
    · by_cases hc : v.testBit i = true
      · rw [hb, hc, if_neg (by decide), if_neg (by decide), if_pos rfl, if_pos rfl, letter_ext (by omega), ofL_size, ofL_size, ofL_append, w64 (x := (i : Int) + 1) (by omega) (by omega), if_pos (by omega), if_pos (by omega), if_pos (by simp; omega)]
        rfl
      · rw [hb, Bool.eq_false_iff.mpr hc, if_neg (by decide), if_pos (by decide), if_pos rfl, if_neg Bool.false_ne_true, letter_ext (by omega), show (⟨#[33]⟩ : ByteArray) = ofL [33] from rfl, ofL_append, ofL_append, ofL_size, ofL_size, ofL_size, w64 (x := (i : Int) + 1) (by omega) (by omega), if_pos (by omega), if_pos (by omega), if_pos (by omega), if_pos (by simp; omega)]
        rfl
    · rw [Bool.eq_false_iff.mpr hb, if_pos (by decide), if_neg Bool.false_ne_true, w64 (x := (i : Int) + 1) (by omega) (by omega)]
      rfl
  · refine Ev.step (f := fun k => spec_FormatTerm.j1 k n (ofL (gl m v n)) (n : Int) false m v) (fun k => ?_) (ev0 fun k => ?_)
    · simp only [spec_FormatTerm.l0]
      rw [hT, Option.bind_some, if_pos rfl, decide_eq_false (by omega)]
    · simp only [spec_FormatTerm.j1, Bool.false_eq_true, if_false]
      rw [ofL_list, hT]
      unfold gterm
      by_cases he : gl m v n = []
      · rw [if_pos he, if_pos he]
        rfl
      · rw [if_neg he, if_neg he]
theorem spec_FormatTerm_ev {n m : Nat} (hn : n ≤ 5) (hm : m < 2 ^ n) : Ev (fun k => spec_FormatTerm.f k n m m) (ofL (term n m)) := by
  have := spec_FormatTerm_evg hn hm (Nat.and_self m)
  rwa [gterm_self] at this
/-- The same letters, as numbers. -/
def nl (m v : Nat) : Nat → List Int
  | 0 => []
  | i + 1 => if m.testBit i = true then (if v.testBit i = true then nl m v i ++ [((97 + i : Nat) : Int)] else nl m v i ++ [33] ++ [((97 + i : Nat) : Int)]) else nl m v i
theorem nl_map (m v i : Nat) : (nl m v i).map (fun n => UInt8.ofNat n.toNat) = gl m v i := by
  induction i with
  | zero => rfl
  | succ i ih =>
    simp only [nl, gl]
    split
    · split
      · rw [List.map_append, ih]; rfl
      · rw [List.map_append, List.map_append, ih]; rfl
    · exact ih
theorem nl_len (m v i : Nat) : (nl m v i).length = (gl m v i).length := by rw [← nl_map, List.length_map]
theorem nl_str (m v i : Nat) : strOfNums (nl m v i) = ofL (gl m v i) := by
  unfold strOfNums ofL
  rw [nl_map]
theorem impl_IsTerm_eq {n m v : Nat} (hn : n ≤ 5) (hm : m < 32) (hv : v &&& m = v) : impl_IsTerm.f n m v = some (decide (m < 2 ^ n)) := by
  have hle : v ≤ m := by rw [← hv]; exact Nat.and_le_right
  unfold impl_IsTerm.f
  rw [impl_isBits_eq, Option.bind_some, decide_eq_true (show (0 : Int) ≤ (n : Int) ∧ (n : Int) ≤ 5 by omega), if_pos rfl, impl_isInput_eq (by omega)]
  by_cases h : m < 2 ^ n
  · rw [isInp_mk h, Option.bind_some, if_pos rfl, if_pos (by omega), bandnotN (by omega) (by omega), hv, Nat.xor_self, decide_eq_true h]
    rfl
  · rw [show isInp n m = false from decide_eq_false (by rw [inp_size]; omega), Option.bind_some, if_neg Bool.false_ne_true, decide_eq_false h]
theorem impl_FormatTerm_any {n m v : Nat} (hn : n ≤ 5) (hm : m < 32) (hv : v &&& m = v) : Ev (fun k => impl_FormatTerm.f k n m v) (if m < 2 ^ n then ofL (gterm n m v) else ofL []) := by
  have hle : v ≤ m := by rw [← hv]; exact Nat.and_le_right
  unfold impl_FormatTerm.f
  rw [impl_IsTerm_eq hn hm hv]
  by_cases hin : m < 2 ^ n
  case neg =>
    rw [if_neg hin]
    simp only [Option.bind_some, decide_eq_false hin, Bool.false_eq_true, if_false]
    exact Ev.now _
  rw [if_pos hin]
  simp only [Option.bind_some, decide_eq_true hin, if_true]
  refine ev_for (fun k i => impl_FormatTerm.l0 k (nl m v i) n (i : Int) m v) n ?_ ?_
  · intro i hi h
    have hl := gl_len m v i
    have hl2 := nl_len m v i
    refine Ev.step (fun k => ?_) h
    simp only [impl_FormatTerm.l0]
    rw [if_pos (by omega), if_pos (Int.natCast_nonneg _), at1 (w := m) (by omega), at1 (w := v) (by omega)]
    simp only [nl]
    by_cases hb : m.testBit i = true
    · by_cases hc : v.testBit i = true
      · rw [hb, hc, if_neg (by decide), if_neg (by decide), if_pos rfl, if_pos rfl, if_pos (by omega), w64 (x := (i : Int) + 1) (by omega) (by omega), show (97 + ((i : Int) % 256)) % 256 = ((97 + i : Nat) : Int) by omega]
        rfl
      · rw [hb, Bool.eq_false_iff.mpr hc, if_neg (by decide), if_pos (by decide), if_pos rfl, if_neg Bool.false_ne_true, if_pos (by omega), Option.bind_some, if_pos (by simp; omega), w64 (x := (i : Int) + 1) (by omega) (by omega), show (97 + ((i : Int) % 256)) % 256 = ((97 + i : Nat) : Int) by omega]
        rfl
    · rw [Bool.eq_false_iff.mpr hb, if_pos (by decide), if_neg Bool.false_ne_true, w64 (x := (i : Int) + 1) (by omega) (by omega)]
      rfl
  · refine ev0 fun k => ?_
    simp only [impl_FormatTerm.l0]
    rw [if_neg (by omega), nl_len, nl_str]
    unfold gterm
    by_cases he : gl m v n = []
    · rw [if_pos (by rw [he]; rfl), if_pos he]
      rfl
    · rw [if_neg (fun h => he (List.eq_nil_of_length_eq_zero (by omega))), if_neg he]
theorem impl_FormatTerm_ev {n m : Nat} (hn : n ≤ 5) (hm : m < 2 ^ n) : Ev (fun k => impl_FormatTerm.f k n m m) (ofL (term n m)) := by
  have hp := pow62 hn
  have := impl_FormatTerm_any hn (show m < 32 by omega) (Nat.and_self m)
  rwa [if_pos hm, gterm_self] at this
/-- The sets of a word, in order. -/
def ml (g : Nat) : Nat → List Nat
  | 0 => []
  | i + 1 => if g.testBit i = true then ml g i ++ [i] else ml g i
theorem ml_len (g i : Nat) : (ml g i).length ≤ i := by
  induction i with
  | zero => exact Nat.le_refl _
  | succ i ih =>
    simp only [ml]
    split
    · rw [List.length_append]; simp; omega
    · omega
theorem ml_lt (g : Nat) : ∀ i x, x ∈ ml g i → x < i := by
  intro i
  induction i with
  | zero => intro x h; simp [ml] at h
  | succ i ih =>
    intro x h
    simp only [ml] at h
    split at h
    · rcases List.mem_append.1 h with h | h
      · have := ih x h; omega
      · rw [List.mem_singleton.1 h]; omega
    · have := ih x h; omega
def sj (n g i : Nat) : List UInt8 := Go.Lib.join ((ml g i).map (term n)) [43]
theorem join_snoc (xs : List (List UInt8)) (x sep : List UInt8) : Go.Lib.join (xs ++ [x]) sep = if xs = [] then x else Go.Lib.join xs sep ++ sep ++ x := by
  induction xs with
  | nil => rw [List.nil_append, Go.Lib.join_one, if_pos rfl]
  | cons y ys ih =>
    rw [if_neg (by simp)]
    cases ys with
    | nil => simp [Go.Lib.join, List.intercalate, List.intersperse]
    | cons z zs =>
      rw [if_neg (by simp)] at ih
      have e1 : Go.Lib.join (y :: (z :: zs ++ [x])) sep = y ++ sep ++ Go.Lib.join (z :: zs ++ [x]) sep := by simp [Go.Lib.join, List.intercalate, List.intersperse]
      have e2 : Go.Lib.join (y :: z :: zs) sep = y ++ sep ++ Go.Lib.join (z :: zs) sep := by simp [Go.Lib.join, List.intercalate, List.intersperse]
      rw [List.cons_append, e1, ih, e2]
      simp
theorem sj_nil {n g i : Nat} (hn : n ≤ 5) : sj n g i = [] ↔ ml g i = [] := by
  induction i with
  | zero => simp [sj, ml, Go.Lib.join_nil]
  | succ i ih =>
    unfold sj at ih ⊢
    simp only [ml]
    split
    · rw [List.map_append, List.map_cons, List.map_nil, join_snoc]
      have h1 := term_ne (m := i) hn
      constructor
      · intro h
        split at h
        · exact absurd h h1
        · simp at h
      · intro h; simp at h
    · exact ih
theorem sj_len {n : Nat} (hn : n ≤ 5) (g i : Nat) : (sj n g i).length ≤ 6 * i := by
  induction i with
  | zero => simp [sj, ml, Go.Lib.join_nil]
  | succ i ih =>
    have ht := (term_len (m := i) hn).2
    unfold sj at ih ⊢
    simp only [ml]
    split
    · rw [List.map_append, List.map_cons, List.map_nil, join_snoc]
      split
      · omega
      · simp only [List.length_append, List.length_cons, List.length_nil]
        omega
    · omega
theorem sj_step {n g i : Nat} (hn : n ≤ 5) (hb : g.testBit i = true) : sj n g (i + 1) = if sj n g i = [] then term n i else sj n g i ++ [43] ++ term n i := by
  have h0 := sj_nil (g := g) (i := i) hn
  have e : sj n g (i + 1) = if (ml g i).map (term n) = [] then term n i else sj n g i ++ [43] ++ term n i := by
    unfold sj
    simp only [ml]
    rw [if_pos hb, List.map_append, List.map_cons, List.map_nil, join_snoc]
  rw [e]
  by_cases h : sj n g i = []
  · rw [if_pos h, if_pos (by rw [h0.1 h]; rfl)]
  · rw [if_neg h, if_neg (fun hh => h (h0.2 (List.map_eq_nil_iff.1 hh)))]
theorem sj_same {n g i : Nat} (hb : g.testBit i = false) : sj n g (i + 1) = sj n g i := by
  unfold sj
  simp only [ml]
  rw [if_neg (by rw [hb]; decide)]
theorem spec_FormatAnf_ev {n w : Nat} (t : Tab n w) : Ev (fun k => spec_FormatAnf.f k n w) (ofL (if sj n (anfW n w) (2 ^ n) = [] then [48] else sj n (anfW n w) (2 ^ n))) := by
  have hn := t.hn
  have hs := t.size
  have hg := (anfW_tab t).w63
  generalize hgg : anfW n w = g at *
  have hA := spec_l11Anf_ev t
  rw [hgg] at hA
  unfold spec_FormatAnf.f
  simp only [spec_IsTable_eq, isTab_mk t, Option.bind_some, if_true]
  refine ev_bd hA ?_
  refine ev_for (fun k i => spec_FormatAnf.l0 k (ofL (sj n g i)) (g : Int) (i : Int) n w) (2 ^ n) ?_ ?_
  · intro i hi h
    have hl := sj_len hn g i
    have ht := term_len (m := i) hn
    by_cases hb : g.testBit i = true
    · rw [sj_step hn hb] at h
      have hF := spec_FormatTerm_ev (m := i) hn hi
      refine evs1 hF (fun k hk => ?_) h
      simp only [spec_FormatAnf.l0]
      rw [if_pos (Int.natCast_nonneg _), shl1 (by omega), if_pos (by omega), if_pos (Int.natCast_nonneg _), at1 hg, hb, if_neg (by decide), ofL_list, w64 (x := (i : Int) + 1) (by omega) (by omega), hk, Option.bind_some, Option.bind_some]
      by_cases he : sj n g i = []
      · rw [if_pos he, if_pos he, ofL_size, ofL_size, if_pos (by omega), he, ofL_append]
        rfl
      · rw [if_neg he, if_neg he, show (⟨#[43]⟩ : ByteArray) = ofL [43] from rfl, ofL_append, ofL_append, ofL_size, ofL_size, ofL_size, if_pos (by omega), if_pos (by simp; omega)]
        rfl
    · rw [sj_same (Bool.eq_false_iff.mpr hb)] at h
      refine Ev.step (fun k => ?_) h
      simp only [spec_FormatAnf.l0]
      rw [if_pos (Int.natCast_nonneg _), shl1 (by omega), if_pos (by omega), if_pos (Int.natCast_nonneg _), at1 hg, Bool.eq_false_iff.mpr hb, if_pos (by decide), w64 (x := (i : Int) + 1) (by omega) (by omega)]
      rfl
  · refine ev0 fun k => ?_
    simp only [spec_FormatAnf.l0]
    rw [if_pos (Int.natCast_nonneg _), shl1 (by omega), if_neg (by omega), ofL_list]
    by_cases he : sj n g (2 ^ n) = []
    · rw [if_pos he, if_pos he]
      rfl
    · rw [if_neg he, if_neg he]
def tms (l : List Nat) : List S44 := l.map fun m : Nat => (⟨(m : Int), (m : Int)⟩ : S44)
theorem tms_len (l : List Nat) : (tms l).length = l.length := by simp [tms]
theorem tms_rd {l : List Nat} {i : Nat} (h : i < l.length) : rd_T44 (tms l) (i : Int) = ⟨((l[i] : Nat) : Int), ((l[i] : Nat) : Int)⟩ := by
  unfold rd_T44 tms
  rw [Int.toNat_natCast, List.getD_eq_getElem?_getD, List.getElem?_map, List.getElem?_eq_getElem h]
  rfl
theorem impl_joinTerms_ev {n : Nat} (hn : n ≤ 5) {l : List Nat} (hl : l.length ≤ 32) (hm : ∀ m ∈ l, m < 2 ^ n) : Ev (fun k => impl_joinTerms.f k n (tms l) (ofL [43])) (ofL (Go.Lib.join (l.map (term n)) [43])) := by
  have hjl : ∀ l : List Nat, (Go.Lib.join (l.map (term n)) [43]).length ≤ 6 * l.length := by
    intro l
    induction l with
    | nil => simp [Go.Lib.join_nil]
    | cons x xs ih =>
      have ht := (term_len (m := x) hn).2
      cases xs with
      | nil => rw [List.map_cons, List.map_nil, Go.Lib.join_one]; simp; omega
      | cons y ys =>
        have e1 : Go.Lib.join ((x :: y :: ys).map (term n)) [43] = term n x ++ [43] ++ Go.Lib.join ((y :: ys).map (term n)) [43] := by simp [Go.Lib.join, List.intercalate, List.intersperse]
        rw [e1]
        simp only [List.length_append, List.length_cons, List.length_nil] at ih ⊢
        omega
  unfold impl_joinTerms.f
  simp only [tms_len, if_pos (Int.natCast_nonneg _), Int.toNat_natCast, if_pos (show l.length ≤ 17592186044416 by omega)]
  have hrep : List.replicate l.length (⟨#[]⟩ : ByteArray) = (l.take 0).map (fun m => ofL (term n m)) ++ List.replicate (l.length - 0) (⟨#[]⟩ : ByteArray) := by simp
  rw [hrep]
  refine ev_for (fun k i => impl_joinTerms.l0 k n (ofL [43]) ((l.take i).map (fun m => ofL (term n m)) ++ List.replicate (l.length - i) (⟨#[]⟩ : ByteArray)) (tms l) (l.length : Int) (i : Int)) l.length ?_ ?_
  · intro i hi h
    have hF := impl_FormatTerm_ev (m := l[i]) hn (hm _ (List.getElem_mem hi))
    have hlen : ((l.take i).map (fun m => ofL (term n m)) ++ List.replicate (l.length - i) (⟨#[]⟩ : ByteArray)).length = l.length := by
      simp [List.length_take]
      omega
    have hset : ((l.take i).map (fun m => ofL (term n m)) ++ List.replicate (l.length - i) (⟨#[]⟩ : ByteArray)).set i (ofL (term n l[i])) = (l.take (i + 1)).map (fun m => ofL (term n m)) ++ List.replicate (l.length - (i + 1)) (⟨#[]⟩ : ByteArray) := by
      have h1 : ((l.take i).map (fun m => ofL (term n m))).length = i := by simp [List.length_take]; omega
      rw [List.set_append_right _ _ (by omega), h1, Nat.sub_self, show l.length - i = (l.length - (i + 1)) + 1 by omega, List.replicate_succ, List.take_succ_eq_append_getElem hi, List.map_append, List.append_assoc]
      rfl
    refine evs1 hF (fun k hk => ?_) h
    simp only [impl_joinTerms.l0]
    rw [if_pos (by omega), if_pos (Int.natCast_nonneg _), tms_len, if_pos (by omega), tms_rd hi, hk, Option.bind_some, hlen, if_pos (by omega), Int.toNat_natCast, hset, w64 (by omega) (by omega)]
    rfl
  · refine ev0 fun k => ?_
    simp only [impl_joinTerms.l0]
    rw [if_neg (by omega), List.take_length, Nat.sub_self, List.replicate_zero, List.append_nil]
    unfold strings_Join.f
    have hmap : (l.map fun m => ofL (term n m)).map (·.data.toList) = l.map (term n) := by
      rw [List.map_map]
      rfl
    rw [hmap, ofL_data, if_pos ⟨by rw [List.length_map]; omega, by have := hjl l; omega⟩]
    rfl
theorem impl_FormatAnf_ev {n w : Nat} (t : Tab n w) : Ev (fun k => impl_FormatAnf.f k n w) (ofL (if sj n (anfW n w) (2 ^ n) = [] then [48] else sj n (anfW n w) (2 ^ n))) := by
  have hn := t.hn
  have hs := t.size
  have tg := anfW_tab t
  have hA := impl_Table_anf_eq t
  generalize anfW n w = g at *
  unfold impl_FormatAnf.f
  simp only [impl_IsTable_eq, isTab_mk t, Option.bind_some, if_true, hA, impl_Table_size_eq (show n ≤ 62 by omega)]
  refine ev_for (fun k i => impl_FormatAnf.l0 k (tms (ml g i)) ((2 ^ n : Nat) : Int) (i : Int) n w n (g : Int)) (2 ^ n) ?_ ?_
  · intro i hi h
    have hl := ml_len g i
    have hl2 := tms_len (ml g i)
    refine Ev.step (fun k => ?_) h
    simp only [impl_FormatAnf.l0]
    rw [if_pos (by omega), impl_Table_at_eq tg, Option.bind_some, w64 (by omega) (by omega)]
    simp only [ml]
    by_cases hb : g.testBit i = true
    · rw [hb, if_pos (by decide), if_pos (by omega), if_pos rfl]
      unfold tms
      rw [List.map_append]
      rfl
    · rw [Bool.eq_false_iff.mpr hb, if_neg (by decide), if_neg (by decide)]
      rfl
  · have hl := ml_len g (2 ^ n)
    have h0 := sj_nil (g := g) (i := 2 ^ n) hn
    by_cases he : ml g (2 ^ n) = []
    · rw [if_pos (h0.2 he)]
      refine ev0 fun k => ?_
      simp only [impl_FormatAnf.l0]
      rw [if_neg (by omega), he, if_pos (by rfl)]
      rfl
    · rw [if_neg (fun h => he (h0.1 h))]
      have hJ := impl_joinTerms_ev hn (l := ml g (2 ^ n)) (by omega) fun m hm => ml_lt g _ m hm
      refine evs1 hJ (fun k hk => ?_) (Ev.now _)
      simp only [impl_FormatAnf.l0]
      rw [if_neg (by omega), tms_len, if_neg (fun h => he (List.eq_nil_of_length_eq_zero (by omega))), show (⟨#[43]⟩ : ByteArray) = ofL [43] from rfl, hk]
      rfl

theorem ofL_back (a : ByteArray) : ofL a.data.toList = a := by cases a; rfl
theorem u8_ext {c d : UInt8} (h : c.toNat = d.toNat) : c = d := UInt8.toNat_inj.1 h
theorem bt_ofL {l : List UInt8} {i : Nat} (h : i < l.length) : bt (ofL l) (i : Int) = ((l[i].toNat : Nat) : Int) := by
  have h' : ((i : Int).toNat) < (ofL l).size := by rw [ofL_size, Int.toNat_natCast]; exact h
  unfold bt
  rw [dif_pos h']
  rfl
theorem ext_ofL {l : List UInt8} {i : Nat} (h : i < l.length) : (ofL l).extract i (i + 1) = ofL [l[i]] := by
  have h1 : l.toArray.extract i (i + 1) = #[l[i]] := by
    rw [List.extract_toArray]
    congr 1
    rw [List.extract_eq_take_drop, Nat.add_sub_cancel_left, List.drop_eq_getElem_cons h]
    rfl
  apply ByteArray.ext
  rw [ByteArray.data_extract]
  exact h1
theorem l1In_eq (a b c : Int) : spec_l1In.f a b c = some (decide (b ≤ a ∧ a ≤ c)) := by
  unfold spec_l1In.f
  by_cases h : a ≥ b
  · rw [if_pos h]; simp [show b ≤ a from h]
  · rw [if_neg h]; simp [show ¬ b ≤ a from h]
theorem isLetter_eq (c : Int) : impl_isLetter.f c = some (decide (97 ≤ c ∧ c < 102)) := by
  unfold impl_isLetter.f
  by_cases h : c ≥ 97
  · rw [if_pos h]; simp [show 97 ≤ c from h]
  · rw [if_neg h]; simp [show ¬ 97 ≤ c from h]
/-- A letter more: the mask, the value, whether the next letter stands for 1. -/
def stp (s : Nat × Nat × Bool) (c : UInt8) : Nat × Nat × Bool :=
  if c.toNat = 33 then (s.1, s.2.1, false) else if 97 ≤ c.toNat ∧ c.toNat < 102 then (s.1 ||| 2 ^ (c.toNat - 97), if s.2.2 = true then s.2.1 ||| 2 ^ (c.toNat - 97) else s.2.1, true) else s
def scn (l : List UInt8) (s : Nat × Nat × Bool) : Nat × Nat × Bool := l.foldl stp s
def sok (N : Nat) (s : Nat × Nat × Bool) : Prop := s.1 < 2 ^ N ∧ s.2.1 &&& s.1 = s.2.1
theorem or_sub {v m b : Nat} (h : v &&& m = v) : v &&& (m ||| b) = v := by
  apply Nat.eq_of_testBit_eq
  intro i
  have e := congrArg (fun x => x.testBit i) h
  simp only [Nat.testBit_and, Nat.testBit_or] at e ⊢
  revert e
  cases v.testBit i <;> cases m.testBit i <;> simp
theorem or_sub2 {v m b : Nat} (h : v &&& m = v) : (v ||| b) &&& (m ||| b) = v ||| b := by
  apply Nat.eq_of_testBit_eq
  intro i
  have e := congrArg (fun x => x.testBit i) h
  simp only [Nat.testBit_and, Nat.testBit_or] at e ⊢
  revert e
  cases v.testBit i <;> cases m.testBit i <;> cases b.testBit i <;> simp
theorem sok_step {N : Nat} {s : Nat × Nat × Bool} {c : UInt8} (h : sok N s) (hc : c.toNat = 33 ∨ ¬ (97 ≤ c.toNat ∧ c.toNat < 102) ∨ c.toNat < 97 + N) : sok N (stp s c) := by
  obtain ⟨h1, h2⟩ := h
  unfold stp
  split
  · exact ⟨h1, h2⟩
  · rename_i n33
    split
    · rename_i hl
      have hlt : c.toNat - 97 < N := by omega
      have hp : 2 ^ (c.toNat - 97) < 2 ^ N := pow_lt_size hlt
      refine ⟨Nat.or_lt_two_pow h1 hp, ?_⟩
      show (if s.2.2 = true then s.2.1 ||| 2 ^ (c.toNat - 97) else s.2.1) &&& (s.1 ||| 2 ^ (c.toNat - 97)) = _
      split
      · exact or_sub2 h2
      · exact or_sub h2
    · exact ⟨h1, h2⟩
theorem sok_scn {N : Nat} (l : List UInt8) : ∀ s, sok N s → (∀ c ∈ l, c.toNat = 33 ∨ ¬ (97 ≤ c.toNat ∧ c.toNat < 102) ∨ c.toNat < 97 + N) → sok N (scn l s) := by
  induction l with
  | nil => intro s h _; exact h
  | cons c l ih =>
    intro s h hc
    exact ih _ (sok_step h (hc c List.mem_cons_self)) fun d hd => hc d (List.mem_cons_of_mem _ hd)
theorem sok5 (l : List UInt8) : sok 5 (scn l (0, 0, true)) := sok_scn l _ ⟨by decide, rfl⟩ fun c _ => by omega
def val (n : Nat) (c : UInt8) : Bool := decide (c.toNat = 33 ∨ (97 ≤ c.toNat ∧ c.toNat < 97 + n))
theorem gl_val {n : Nat} (hn : n ≤ 5) (m v : Nat) : ∀ i, i ≤ n → ∀ c ∈ gl m v i, val n c = true := by
  have hv : ∀ i, i < n → val n (UInt8.ofNat (97 + i)) = true := by
    intro i hi
    refine decide_eq_true (.inr ?_)
    rw [UInt8.toNat_ofNat', Nat.mod_eq_of_lt (by omega)]
    omega
  intro i
  induction i with
  | zero => intro _ c hc; simp [gl] at hc
  | succ i ih =>
    intro hi c hc
    simp only [gl] at hc
    split at hc
    · split at hc
      · rcases List.mem_append.1 hc with h | h
        · exact ih (by omega) c h
        · rw [List.mem_singleton.1 h]; exact hv i (by omega)
      · rcases List.mem_append.1 hc with h | h
        · rcases List.mem_append.1 h with h | h
          · exact ih (by omega) c h
          · rw [List.mem_singleton.1 h]; exact decide_eq_true (.inl rfl)
        · rw [List.mem_singleton.1 h]; exact hv i (by omega)
    · exact ih (by omega) c hc
theorem gl_bang {m v i : Nat} (h1 : m.testBit i = true) (h2 : v.testBit i = false) : ∀ j, i < j → 33 ∈ gl m v j := by
  intro j
  induction j with
  | zero => intro h; omega
  | succ j ih =>
    intro hj
    simp only [gl]
    by_cases e : i = j
    · subst e
      rw [if_pos h1, if_neg (by rw [h2]; decide)]
      simp
    · have := ih (by omega)
      split
      · split
        · exact List.mem_append_left _ this
        · exact List.mem_append_left _ (List.mem_append_left _ this)
      · exact this
theorem gterm_bang {n m v : Nat} (hm : m < 2 ^ n) (hv : v &&& m = v) (hne : m ≠ v) : (33 : UInt8) ∈ gterm n m v := by
  have : ∃ i, m.testBit i = true ∧ v.testBit i = false := by
    refine Classical.byContradiction fun hno => hne (Nat.eq_of_testBit_eq fun i => ?_)
    have e := congrArg (fun x => x.testBit i) hv
    simp only [Nat.testBit_and] at e
    have h3 : ¬ (m.testBit i = true ∧ v.testBit i = false) := fun h => hno ⟨i, h⟩
    revert e h3
    cases v.testBit i <;> cases m.testBit i <;> simp
  obtain ⟨i, h1, h2⟩ := this
  have hi : i < n := by
    refine Nat.lt_of_not_le fun h => ?_
    rw [Nat.testBit_lt_two_pow (Nat.lt_of_lt_of_le hm (Nat.pow_le_pow_right (by omega) h))] at h1
    exact absurd h1 (by decide)
  have hb := gl_bang h1 h2 n hi
  unfold gterm
  rw [if_neg (fun e => by rw [e] at hb; simp at hb)]
  exact hb
/-- What a part's letters tell: the mask and the value. -/
def pt (l : List UInt8) : Nat × Nat := if l = [49] then (0, 0) else ((scn l (0, 0, true)).1, (scn l (0, 0, true)).2.1)
theorem pt_ok (l : List UInt8) : (pt l).1 < 32 ∧ (pt l).2 &&& (pt l).1 = (pt l).2 := by
  unfold pt
  split
  · exact ⟨by decide, rfl⟩
  · exact sok5 l
def ok (n : Nat) (l : List UInt8) (m v : Nat) : Bool := decide (l ≠ [] ∧ m < 2 ^ n ∧ gterm n m v = l)
def res (n : Nat) (l : List UInt8) (m v : Nat) : Int × Int × Bool := if ok n l m v = true then ((m : Int), (v : Int), true) else (0, 0, false)
def pres (n : Nat) (l : List UInt8) : Int × Int × Bool := res n l (pt l).1 (pt l).2
theorem toList_nil {l : List UInt8} (h : l ≠ []) : ¬ (ofL l).toList = [] := by rw [ofL_list]; exact h
theorem spec_end {n : Nat} (hn : n ≤ 5) {l : List UInt8} {m v : Nat} (hm : m < 2 ^ n) (hv : v &&& m = v) : Ev (fun k => if (ofL l).toList = ([] : List UInt8) then some ((0 : Int), (0 : Int), false) else (spec_FormatTerm.f k n m v).bind fun t => if t.toList = (ofL l).toList then some ((m : Int), (v : Int), true) else some ((0 : Int), (0 : Int), false)) (res n l m v) := by
  simp only [ofL_list]
  by_cases h : l = []
  · simp only [if_pos h]
    unfold res ok
    rw [if_neg (by simp [h])]
    exact Ev.now _
  simp only [if_neg h]
  refine ev_bd (spec_FormatTerm_evg hn hm hv) ?_
  simp only [ofL_list]
  unfold res ok
  by_cases he : gterm n m v = l
  · simp only [if_pos he]
    rw [if_pos (decide_eq_true ⟨h, hm, he⟩)]
    exact Ev.now _
  · simp only [if_neg he]
    rw [if_neg (by simp [he])]
    exact Ev.now _
theorem impl_end {n : Nat} (hn : n ≤ 5) {l : List UInt8} {m v : Nat} (hm : m < 32) (hv : v &&& m = v) : Ev (fun k => if (ofL l).toList = ([] : List UInt8) then some ((0 : Int), (0 : Int), false) else (impl_FormatTerm.f k n m v).bind fun t => if t.toList = (ofL l).toList then some ((m : Int), (v : Int), true) else some ((0 : Int), (0 : Int), false)) (res n l m v) := by
  simp only [ofL_list]
  by_cases h : l = []
  · simp only [if_pos h]
    unfold res ok
    rw [if_neg (by simp [h])]
    exact Ev.now _
  simp only [if_neg h]
  refine ev_bd (impl_FormatTerm_any hn hm hv) ?_
  unfold res ok
  by_cases hin : m < 2 ^ n
  · simp only [if_pos hin, ofL_list]
    by_cases he : gterm n m v = l
    · simp only [if_pos he]
      rw [if_pos (decide_eq_true ⟨h, hin, he⟩)]
      exact Ev.now _
    · simp only [if_neg he]
      rw [if_neg (by simp [he])]
      exact Ev.now _
  · simp only [if_neg hin, ofL_list]
    have h' : ¬ ([] : List UInt8) = l := fun e => h e.symm
    simp only [if_neg h']
    rw [if_neg (by simp [hin])]
    exact Ev.now _
theorem spec_scan {n : Nat} (hn : n ≤ 5) {l : List UInt8} (hl : l.length ≤ 200) (h49 : l ≠ [49]) : ∀ (r pre : List UInt8) (s : Nat × Nat × Bool), l = pre ++ r → sok n s → Ev (fun k => spec_ParseTerm.l0 k n (ofL l) (!s.2.2) (pre.length : Int) s.1 s.2.1) (if r.all (val n) = true then res n l (scn r s).1 (scn r s).2.1 else (0, 0, false)) := by
  intro r
  have hbne : (l != ([49] : List UInt8)) = true := bne_iff_ne.mpr h49
  induction r with
  | nil =>
    intro pre s e hs
    have hlen : pre.length = l.length := by rw [e]; simp
    refine Ev.step (f := fun k => spec_ParseTerm.j1 k n (ofL l) (!s.2.2) (pre.length : Int) false s.1 s.2.1) (fun k => ?_) ?_
    · simp only [spec_ParseTerm.l0]
      rw [if_neg (by rw [ofL_size]; omega)]
    refine Ev.step (fun k => ?_) (spec_end hn (l := l) hs.1 hs.2)
    simp only [spec_ParseTerm.j1, Bool.false_eq_true, if_false]
    rfl
  | cons c r ih =>
    intro pre s e hs
    have hlen : pre.length < l.length := by rw [e]; simp
    have hc : l[pre.length] = c := by simp [e]
    have hnext := fun s' hs' => ih (pre ++ [c]) s' (by rw [e]; simp) hs'
    simp only [List.length_append, List.length_cons, List.length_nil] at hnext
    have hsz := (ofL_size l)
    have hbt := bt_ofL hlen
    rw [hc] at hbt
    have hu := c.toNat_lt
    refine Ev.step (f := fun k => spec_ParseTerm.j1 k n (ofL l) (!s.2.2) (pre.length : Int) true s.1 s.2.1) (fun k => ?_) ?_
    · simp only [spec_ParseTerm.l0]
      rw [if_pos (by rw [hsz]; omega), ofL_list, hbne]
    have hw : wrap64 ((pre.length : Int) + 1) = ((pre.length + 1 : Nat) : Int) := by rw [w64 (by omega) (by omega)]; rfl
    rw [List.all_cons]
    by_cases c33 : c.toNat = 33
    · have hv : val n c = true := decide_eq_true (.inl c33)
      have hst : stp s c = (s.1, s.2.1, false) := by unfold stp; rw [if_pos c33]
      rw [hv, Bool.true_and]
      have := hnext (stp s c) (sok_step hs (.inl c33))
      rw [hst] at this
      show Ev _ (if _ then res n l (scn r (stp s c)).1 (scn r (stp s c)).2.1 else _)
      rw [hst]
      refine Ev.step (fun k => ?_) this
      simp only [spec_ParseTerm.j1, if_true]
      rw [if_pos (Int.natCast_nonneg _), if_pos (by rw [hsz]; omega), hbt, if_pos (by omega), hw]
      rfl
    · have hk : wrap64 (wrap64 ((c.toNat : Nat) : Int) - 97) = ((c.toNat : Nat) : Int) - 97 := by rw [w64 (x := ((c.toNat : Nat) : Int)) (by omega) (by omega), w64 (by omega) (by omega)]
      have hn1 : wrap64 ((n : Int) - 1) = (n : Int) - 1 := w64 (by omega) (by omega)
      by_cases hv : 97 ≤ c.toNat ∧ c.toNat < 97 + n
      · have hval : val n c = true := decide_eq_true (.inr hv)
        have hp : 2 ^ (c.toNat - 97) < 2 ^ n := pow_lt_size (by omega)
        have hp5 := pow62 hn
        have hs1 := hs.1
        have hs2 : s.2.1 ≤ s.1 := by rw [← hs.2]; exact Nat.and_le_right
        have hst : stp s c = (s.1 ||| 2 ^ (c.toNat - 97), if s.2.2 = true then s.2.1 ||| 2 ^ (c.toNat - 97) else s.2.1, true) := by unfold stp; rw [if_neg c33, if_pos (by omega)]
        rw [hval, Bool.true_and]
        have hN := hnext (stp s c) (sok_step hs (.inr (.inr (by omega))))
        rw [hst] at hN
        show Ev _ (if _ then res n l (scn r (stp s c)).1 (scn r (stp s c)).2.1 else _)
        rw [hst]
        refine Ev.step (f := fun k => spec_ParseTerm.j2 k n (ofL l) (!s.2.2) (pre.length : Int) (((c.toNat : Nat) : Int) - 97) false s.1 s.2.1) (fun k => ?_) ?_
        · simp only [spec_ParseTerm.j1, if_true]
          rw [if_pos (Int.natCast_nonneg _), if_pos (by rw [hsz]; omega), hbt, if_neg (by omega), l1In_eq, Option.bind_some, if_pos (decide_eq_true (by omega)), hk, hn1, l1In_eq, Option.bind_some, decide_eq_true (by omega)]
          rfl
        refine Ev.step (fun k => ?_) hN
        simp only [spec_ParseTerm.j2, Bool.false_eq_true, if_false]
        have hsh : shl .i64 1 (((c.toNat : Nat) : Int) - 97) = ((2 ^ (c.toNat - 97) : Nat) : Int) := by rw [show ((c.toNat : Nat) : Int) - 97 = ((c.toNat - 97 : Nat) : Int) by omega, shl1 (by omega)]
        rw [if_pos (by omega), hsh, borN (by omega) (by omega), borN (by omega) (by omega), hw]
        cases s.2.2 <;> rfl
      · have hval : val n c = false := decide_eq_false (by omega)
        rw [hval, Bool.false_and, if_neg Bool.false_ne_true]
        refine Ev.step (f := fun k => spec_ParseTerm.j2 k n (ofL l) (!s.2.2) (pre.length : Int) (((c.toNat : Nat) : Int) - 97) true s.1 s.2.1) (fun k => ?_) (ev0 fun k => ?_)
        · simp only [spec_ParseTerm.j1, if_true]
          rw [if_pos (Int.natCast_nonneg _), if_pos (by rw [hsz]; omega), hbt, if_neg (by omega), l1In_eq, Option.bind_some, if_pos (decide_eq_true (by omega)), hk, hn1, l1In_eq, Option.bind_some, decide_eq_false (by omega)]
          rfl
        · simp only [spec_ParseTerm.j2, if_true]
theorem val_mem {n : Nat} (hn : n ≤ 5) {l : List UInt8} {m v : Nat} (h49 : l ≠ [49]) (he : gterm n m v = l) : l.all (val n) = true := by
  rw [List.all_eq_true]
  intro c hc
  rw [← he] at hc h49
  unfold gterm at hc h49
  by_cases e : gl m v n = []
  · rw [if_pos e] at h49
    exact absurd rfl h49
  · rw [if_neg e] at hc
    exact gl_val hn m v n (Nat.le_refl _) c hc
theorem spec_ParseTerm_ev {n : Nat} (hn : n ≤ 5) {l : List UInt8} (hl : l.length ≤ 200) : Ev (fun k => spec_ParseTerm.f k n (ofL l)) (pres n l) := by
  have h0 : sok n (0, 0, true) := ⟨Nat.two_pow_pos n, rfl⟩
  by_cases h49 : l = [49]
  · subst h49
    unfold pres pt
    rw [if_pos rfl]
    unfold spec_ParseTerm.f
    refine Ev.step (f := fun k => spec_ParseTerm.j1 k n (ofL [49]) false 0 false 0 0) (fun k => ?_) ?_
    · simp only [spec_ParseTerm.l0]
      rw [ofL_list, if_pos (by rw [ofL_size]; decide)]
      rfl
    refine Ev.step (fun k => ?_) (spec_end hn (l := [49]) (m := 0) (v := 0) h0.1 rfl)
    simp only [spec_ParseTerm.j1, Bool.false_eq_true, if_false]
    rfl
  · have := spec_scan hn hl h49 l [] (0, 0, true) rfl h0
    unfold pres pt
    rw [if_neg h49]
    refine ev_eq this ?_
    by_cases ha : l.all (val n) = true
    · rw [if_pos ha]
    · rw [if_neg ha]
      unfold res ok
      rw [if_neg]
      intro h
      exact ha (val_mem hn h49 (of_decide_eq_true h).2.2)
theorem impl_ParseTerm_ev {n : Nat} (hn : n ≤ 5) {l : List UInt8} (hl : l.length ≤ 200) : Ev (fun k => impl_ParseTerm.f k n (ofL l)) (pres n l) := by
  unfold impl_ParseTerm.f
  by_cases h49 : l = [49]
  · subst h49
    simp only [ofL_list, if_true]
    have := impl_end hn (l := [49]) (m := 0) (v := 0) (by decide) rfl
    simp only [ofL_list] at this
    exact this
  have h49' : ¬ (ofL l).toList = [49] := by rw [ofL_list]; exact h49
  simp only [if_neg h49']
  have hpres : pres n l = res n l (scn l (0, 0, true)).1 (scn l (0, 0, true)).2.1 := by unfold pres pt; rw [if_neg h49]
  rw [hpres]
  have hsz := ofL_size l
  refine ev_for (fun k i => impl_ParseTerm.l0 k n (ofL l) (b2i (scn (l.take i) (0, 0, true)).2.2) ((ofL l).size : Int) (i : Int) (scn (l.take i) (0, 0, true)).1 (scn (l.take i) (0, 0, true)).2.1) l.length ?_ ?_
  · intro i hi h
    have hstp : scn (l.take (i + 1)) (0, 0, true) = stp (scn (l.take i) (0, 0, true)) l[i] := by
      unfold scn
      rw [List.take_succ_eq_append_getElem hi, List.foldl_append]
      rfl
    rw [hstp] at h
    have hs := sok5 (l.take i)
    generalize scn (l.take i) (0, 0, true) = s at *
    have hbt := bt_ofL hi
    generalize l[i] = c at *
    have hu := c.toNat_lt
    have hs1 : s.1 < 32 := hs.1
    have hs2 : s.2.1 ≤ s.1 := by rw [← hs.2]; exact Nat.and_le_right
    have hw : wrap64 ((i : Int) + 1) = ((i + 1 : Nat) : Int) := by rw [w64 (by omega) (by omega)]; rfl
    refine Ev.step (fun k => ?_) h
    simp only [impl_ParseTerm.l0]
    rw [if_pos (by rw [hsz]; omega), if_pos (Int.natCast_nonneg _), if_pos (by rw [hsz]; omega), hbt, hw]
    unfold stp
    by_cases c33 : c.toNat = 33
    · rw [if_pos (by omega), if_pos c33]
      rfl
    · rw [if_neg (by omega), if_neg c33, isLetter_eq, Option.bind_some]
      by_cases hv : 97 ≤ c.toNat ∧ c.toNat < 102
      · have hp : 2 ^ (c.toNat - 97) < 2 ^ 5 := pow_lt_size (by omega)
        have e1 : ((c.toNat : Nat) : Int) - 97 = ((c.toNat - 97 : Nat) : Int) := by omega
        have e2 : (((c.toNat : Nat) : Int) - 97) % 256 = ((c.toNat - 97 : Nat) : Int) := by omega
        have hsh : shl .i64 1 ((((c.toNat : Nat) : Int) - 97) % 256) = ((2 ^ (c.toNat - 97) : Nat) : Int) := by rw [e2, shl1 (by omega)]
        have hsh0 : shl .i64 0 ((((c.toNat : Nat) : Int) - 97) % 256) = ((0 : Nat) : Int) := by
          have := shlN (a := 0) (n := c.toNat - 97) (by omega)
          rw [e2]
          simpa using this
        rw [if_pos (decide_eq_true (by omega)), if_pos hv, hsh, borN (by omega) (by omega)]
        cases hb : s.2.2
        · rw [show b2i false = 0 from rfl, hsh0, borN (by omega) (by omega), Nat.or_zero, if_neg Bool.false_ne_true]
          rfl
        · rw [show b2i true = 1 from rfl, hsh, borN (by omega) (by omega), if_pos rfl]
      · rw [if_neg (by rw [decide_eq_false (by omega)]; decide), if_neg hv]
  · rw [List.take_length]
    have hs := sok5 l
    refine Ev.step (fun k => ?_) (impl_end hn (l := l) hs.1 hs.2)
    simp only [impl_ParseTerm.l0]
    rw [if_neg (by rw [hsz]; omega)]
/-- The parts between the plus signs, a part's beginning p read before. -/
def spg : List UInt8 → List UInt8 → List (List UInt8)
  | p, [] => [p]
  | p, c :: r => if c.toNat = 43 then p :: spg [] r else spg (p ++ [c]) r
theorem spg_len : ∀ (r p q : List UInt8), q ∈ spg p r → q.length ≤ p.length + r.length := by
  intro r
  induction r with
  | nil => intro p q h; rw [List.mem_singleton.1 h]; simp
  | cons c r ih =>
    intro p q h
    simp only [spg] at h
    split at h
    · rcases List.mem_cons.1 h with h | h
      · rw [h]; omega
      · have := ih [] q h; simp at this ⊢; omega
    · have := ih _ q h
      simp at this ⊢
      omega
theorem spg_count : ∀ (r p : List UInt8), (spg p r).length ≤ r.length + 1 := by
  intro r
  induction r with
  | nil => intro p; simp [spg]
  | cons c r ih =>
    intro p
    simp only [spg]
    split
    · have := ih []; simp at this ⊢; omega
    · have := ih (p ++ [c]); simp at this ⊢; omega
theorem spg_sub : ∀ (r p q : List UInt8), q ∈ spg p r → ∀ c ∈ q, c ∈ p ∨ c ∈ r := by
  intro r
  induction r with
  | nil => intro p q h c hc; rw [List.mem_singleton.1 h] at hc; exact .inl hc
  | cons d r ih =>
    intro p q h c hc
    simp only [spg] at h
    split at h
    · rcases List.mem_cons.1 h with h | h
      · rw [h] at hc; exact .inl hc
      · rcases ih [] q h c hc with h | h
        · simp at h
        · exact .inr (List.mem_cons_of_mem _ h)
    · rcases ih _ q h c hc with h | h
      · rcases List.mem_append.1 h with h | h
        · exact .inl h
        · rw [List.mem_singleton.1 h]; exact .inr List.mem_cons_self
      · exact .inr (List.mem_cons_of_mem _ h)
theorem plus_of {c : UInt8} (h : c.toNat = 43) : c = 43 := u8_ext h
theorem spg_none : ∀ (r p : List UInt8), (43 : UInt8) ∉ r → spg p r = [p ++ r] := by
  intro r
  induction r with
  | nil => intro p _; simp [spg]
  | cons c r ih =>
    intro p h
    have h1 : ¬ c.toNat = 43 := fun e => h (by rw [plus_of e]; exact List.mem_cons_self)
    simp only [spg]
    rw [if_neg h1, ih _ fun e => h (List.mem_cons_of_mem _ e)]
    simp
theorem spg_some : ∀ (a p b : List UInt8), (43 : UInt8) ∉ a → spg p (a ++ 43 :: b) = (p ++ a) :: spg [] b := by
  intro a
  induction a with
  | nil => intro p b _; simp [spg]
  | cons c a ih =>
    intro p b h
    have h1 : ¬ c.toNat = 43 := fun e => h (by rw [plus_of e]; exact List.mem_cons_self)
    rw [List.cons_append]
    simp only [spg]
    rw [if_neg h1, ih _ b fun e => h (List.mem_cons_of_mem _ e)]
    simp
theorem first_plus : ∀ l : List UInt8, (43 : UInt8) ∉ l ∨ ∃ a b, l = a ++ 43 :: b ∧ (43 : UInt8) ∉ a := by
  intro l
  induction l with
  | nil => exact .inl (by simp)
  | cons c l ih =>
    by_cases h : c = 43
    · exact .inr ⟨[], l, by rw [h]; rfl, by simp⟩
    · rcases ih with h2 | ⟨a, b, e, h2⟩
      · exact .inl fun h3 => by rcases List.mem_cons.1 h3 with h3 | h3; exact h h3.symm; exact h2 h3
      · exact .inr ⟨c :: a, b, by rw [e]; rfl, fun h3 => by rcases List.mem_cons.1 h3 with h3 | h3; exact h h3.symm; exact h2 h3⟩
theorem ib_none : ∀ l : List UInt8, (43 : UInt8) ∉ l → Go.Lib.indexByte l 43 = -1 := by
  intro l
  induction l with
  | nil => intro _; rfl
  | cons c l ih =>
    intro h
    have h1 : ¬ c = 43 := fun e => h (by rw [e]; exact List.mem_cons_self)
    have := ih fun e => h (List.mem_cons_of_mem _ e)
    simp only [Go.Lib.indexByte]
    rw [if_neg (by simpa using h1), this]
    rfl
theorem ib_some : ∀ a b : List UInt8, (43 : UInt8) ∉ a → Go.Lib.indexByte (a ++ 43 :: b) 43 = (a.length : Int) := by
  intro a
  induction a with
  | nil => intro b _; simp [Go.Lib.indexByte]
  | cons c a ih =>
    intro b h
    have h1 : ¬ c = 43 := fun e => h (by rw [e]; exact List.mem_cons_self)
    have := ih b fun e => h (List.mem_cons_of_mem _ e)
    rw [List.cons_append]
    simp only [Go.Lib.indexByte]
    rw [if_neg (by simpa using h1), this, if_neg (by rw [beq_iff_eq]; omega)]
    simp
theorem spg_split : ∀ (N : Nat) (l : List UInt8), l.length ≤ N → spg [] l = Go.Lib.splitK [43] 0 (l.count 43) l := by
  intro N
  induction N with
  | zero =>
    intro l h
    obtain rfl := List.eq_nil_of_length_eq_zero (Nat.le_zero.1 h)
    rfl
  | succ N ih =>
    intro l h
    rcases first_plus l with h2 | ⟨a, b, rfl, h2⟩
    · rw [spg_none l [] h2, List.count_eq_zero.2 h2]
      rfl
    · rw [spg_some a [] b h2, ih b (by simp at h; omega), List.count_append, List.count_eq_zero.2 h2, List.count_cons_self, Nat.zero_add]
      simp only [Go.Lib.splitK]
      rw [Go.Lib.index_one, ib_some a b h2, if_neg (by rw [beq_iff_eq]; omega)]
      have e1 : ((a.length : Int).toNat + 0) = a.length := by omega
      have e2 : ((a.length : Int).toNat + ([43] : List UInt8).length) = a.length + 1 := by simp
      rw [e1, e2]
      simp [List.drop_append]
      rw [List.drop_eq_nil_of_le (Nat.le_succ _)]
      rfl
theorem split_eq {l : List UInt8} (hl : l.length ≤ 200) : strings_Split.f (ofL l) ⟨#[43]⟩ = some ((spg [] l).map ofL) := by
  unfold strings_Split.f
  rw [if_pos ⟨by rw [ofL_size]; omega, rfl⟩]
  congr 1
  have h1 := Go.Lib.splitB_data ⟨#[43]⟩ 0 (Go.Lib.countB (ofL l) ⟨#[43]⟩) (ofL l)
  have hc : Go.Lib.countB (ofL l) ⟨#[43]⟩ = l.count 43 := Go.Lib.count_one 43 l
  have h2 : (Go.Lib.splitB ⟨#[43]⟩ 0 (Go.Lib.countB (ofL l) ⟨#[43]⟩) (ofL l)).map (·.data.toList) = spg [] l := by
    rw [h1, hc, spg_split l.length l (Nat.le_refl _)]
    rfl
  rw [← h2, List.map_map]
  conv => lhs; rw [← List.map_id (Go.Lib.splitB ⟨#[43]⟩ 0 (Go.Lib.countB (ofL l) ⟨#[43]⟩) (ofL l))]
  refine List.map_congr_left fun x _ => ?_
  exact (ofL_back x).symm
def goodP (n : Nat) (p : List UInt8) : Bool := ok n p (pt p).1 (pt p).2
theorem pres_good {n : Nat} {p : List UInt8} (h : goodP n p = true) : pres n p = (((pt p).1 : Int), ((pt p).2 : Int), true) := by unfold pres res; rw [if_pos (show ok n p (pt p).1 (pt p).2 = true from h)]
theorem pres_bad {n : Nat} {p : List UInt8} (h : ¬ goodP n p = true) : pres n p = (0, 0, false) := by unfold pres res; rw [if_neg (show ¬ ok n p (pt p).1 (pt p).2 = true from h)]
theorem good_lt {n : Nat} {p : List UInt8} (h : goodP n p = true) : (pt p).1 < 2 ^ n := (of_decide_eq_true h).2.1
def sgo (n : Nat) : List (List UInt8) → Nat → Option Nat
  | [], w => some w
  | p :: t, w => if goodP n p = true ∧ (pt p).1 = (pt p).2 then sgo n t (w ||| 2 ^ (pt p).1) else none
def igo (n : Nat) : List (List UInt8) → Nat → Option Nat
  | [], w => some w
  | p :: t, w => if goodP n p = true then igo n t (w ||| 2 ^ (pt p).1) else none
def fm (n w : Nat) : List UInt8 := if sj n (anfW n w) (2 ^ n) = [] then [48] else sj n (anfW n w) (2 ^ n)
def fin3 (n : Nat) (l : List UInt8) (w : Nat) : Int × Int × Bool := if fm n (anfW n w) = l then ((n : Int), ((anfW n w : Nat) : Int), true) else (0, 0, false)
def end3 (n : Nat) (l : List UInt8) : Option Nat → Int × Int × Bool
  | some w => fin3 n l w
  | none => (0, 0, false)
theorem tab_or {n w m : Nat} (t : Tab n w) (h : m < 2 ^ n) : Tab n (w ||| 2 ^ m) := ⟨t.hn, Nat.or_lt_two_pow t.hw (pow_lt_size h)⟩
theorem spec_fin {n w : Nat} (t : Tab n w) (l : List UInt8) : Ev (fun k => (spec_l11Anf.f k n w).bind fun t203 => (spec_FormatAnf.f k n t203).bind fun t205 => if t205.toList = (ofL l).toList then some ((n : Int), t203, true) else some ((0 : Int), (0 : Int), false)) (fin3 n l w) := by
  refine ev_bd (spec_l11Anf_ev t) (ev_bd (spec_FormatAnf_ev (anfW_tab t)) ?_)
  simp only [ofL_list]
  unfold fin3 fm
  by_cases h : (if sj n (anfW n (anfW n w)) (2 ^ n) = [] then [48] else sj n (anfW n (anfW n w)) (2 ^ n)) = l
  · simp only [if_pos h]
    exact Ev.now _
  · simp only [if_neg h]
    exact Ev.now _
theorem impl_fin {n w : Nat} (t : Tab n w) (l : List UInt8) : Ev (fun k => (impl_Table_anf.f n w).bind fun bt => (impl_FormatAnf.f k bt.1 bt.2).bind fun t443 => if t443.toList = (ofL l).toList then some (bt.1, bt.2, true) else some ((0 : Int), (0 : Int), false)) (fin3 n l w) := by
  simp only [impl_Table_anf_eq t, Option.bind_some]
  refine ev_bd (impl_FormatAnf_ev (anfW_tab t)) ?_
  simp only [ofL_list]
  unfold fin3 fm
  by_cases h : (if sj n (anfW n (anfW n w)) (2 ^ n) = [] then [48] else sj n (anfW n (anfW n w)) (2 ^ n)) = l
  · simp only [if_pos h]
    exact Ev.now _
  · simp only [if_neg h]
    exact Ev.now _
/-- A part's end: the test of the part, then on. -/
theorem spec_part {n w : Nat} (t : Tab n w) {l p : List UInt8} {i : Int} (hp : p.length ≤ 200) {R : Int × Int × Bool} (hbad : ¬ (goodP n p = true ∧ (pt p).1 = (pt p).2) → R = (0, 0, false)) (hgo : goodP n p = true → (pt p).1 = (pt p).2 → Ev (fun k => spec_ParseAnf.l0 k n (ofL l) ((w ||| 2 ^ (pt p).1 : Nat) : Int) (⟨#[]⟩ : ByteArray) (wrap64 (i + 1))) R) : Ev (fun k => spec_ParseAnf.j3 k n (ofL l) w (ofL p) i false) R := by
  have hn := t.hn
  have hP := spec_ParseTerm_ev hn hp
  by_cases hg : goodP n p = true
  · rw [pres_good hg] at hP
    by_cases he : (pt p).1 = (pt p).2
    · have hlt := good_lt hg
      have hsz := t.size
      refine evs1 hP (fun k hk => ?_) (hgo hg he)
      simp only [spec_ParseAnf.j3, Bool.false_eq_true, if_false]
      rw [hk, Option.bind_some]
      simp only [if_true]
      rw [if_pos (by omega), if_pos (Int.natCast_nonneg _), shl1 (by omega), borN t.w63 (Tab.w63 (tab_or ⟨hn, Nat.two_pow_pos _⟩ hlt |> fun x => by simpa using x))]
    · rw [hbad fun h => he h.2]
      refine evs1 hP (fun k hk => ?_) (Ev.now _)
      simp only [spec_ParseAnf.j3, Bool.false_eq_true, if_false]
      rw [hk, Option.bind_some]
      simp only [if_true]
      rw [if_neg (by omega)]
  · rw [pres_bad hg] at hP
    rw [hbad fun h => hg h.1]
    refine evs1 hP (fun k hk => ?_) (Ev.now _)
    simp only [spec_ParseAnf.j3, Bool.false_eq_true, if_false]
    rw [hk, Option.bind_some]
    simp only [Bool.false_eq_true, if_false]
theorem spec_go {n : Nat} {l : List UInt8} (hl : l.length ≤ 200) (h48 : l ≠ [48]) : ∀ (r pre p : List UInt8) (w : Nat), l = pre ++ r → p.length ≤ pre.length → Tab n w → Ev (fun k => spec_ParseAnf.l0 k n (ofL l) w (ofL p) (pre.length : Int)) (end3 n l (sgo n (spg p r) w)) := by
  intro r
  have hbne : (l != ([48] : List UInt8)) = true := bne_iff_ne.mpr h48
  have hsz := ofL_size l
  induction r with
  | nil =>
    intro pre p w e hp t
    have hlen : pre.length = l.length := by rw [e]; simp
    refine Ev.step (f := fun k => spec_ParseAnf.j2 k n (ofL l) w (ofL p) (pre.length : Int) true) (fun k => ?_) ?_
    · simp only [spec_ParseAnf.l0]
      rw [if_pos (by rw [hsz]; omega), ofL_list, hbne]
    refine Ev.step (f := fun k => spec_ParseAnf.j3 k n (ofL l) w (ofL p) (pre.length : Int) false) (fun k => ?_) ?_
    · simp only [spec_ParseAnf.j2, if_true]
      rw [if_neg (by rw [hsz]; omega)]
    refine spec_part t (by omega) ?_ ?_
    · intro h
      simp only [spg, sgo]
      rw [if_neg h]
      rfl
    · intro hg he
      simp only [spg, sgo]
      rw [if_pos ⟨hg, he⟩]
      have t' := tab_or t (good_lt hg)
      refine Ev.step (f := fun k => spec_ParseAnf.j2 k n (ofL l) ((w ||| 2 ^ (pt p).1 : Nat) : Int) (⟨#[]⟩ : ByteArray) (wrap64 ((pre.length : Int) + 1)) false) (fun k => ?_) ?_
      · simp only [spec_ParseAnf.l0]
        rw [w64 (by omega) (by omega), if_neg (by rw [hsz]; omega)]
      refine Ev.step (fun k => ?_) (spec_fin t' l)
      simp only [spec_ParseAnf.j2, Bool.false_eq_true, if_false]
  | cons c r ih =>
    intro pre p w e hp t
    have hlen : pre.length < l.length := by rw [e]; simp
    have hc : l[pre.length] = c := by simp [e]
    have hbt := bt_ofL hlen
    rw [hc] at hbt
    have hw : wrap64 ((pre.length : Int) + 1) = ((pre.length + 1 : Nat) : Int) := by rw [w64 (by omega) (by omega)]; rfl
    have hnext := fun p' w' hp' t' => ih (pre ++ [c]) p' w' (by rw [e]; simp) hp' t'
    simp only [List.length_append, List.length_cons, List.length_nil] at hnext
    refine Ev.step (f := fun k => spec_ParseAnf.j2 k n (ofL l) w (ofL p) (pre.length : Int) true) (fun k => ?_) ?_
    · simp only [spec_ParseAnf.l0]
      rw [if_pos (by rw [hsz]; omega), ofL_list, hbne]
    by_cases c43 : c.toNat = 43
    · refine Ev.step (f := fun k => spec_ParseAnf.j3 k n (ofL l) w (ofL p) (pre.length : Int) false) (fun k => ?_) ?_
      · simp only [spec_ParseAnf.j2, if_true]
        rw [if_pos (by rw [hsz]; omega), if_pos (Int.natCast_nonneg _), hbt, show (((c.toNat : Nat) : Int) != 43) = false from bne_eq_false_iff_eq.mpr (by omega)]
      simp only [spg]
      rw [if_pos c43]
      refine spec_part t (by omega) ?_ ?_
      · intro h
        simp only [sgo]
        rw [if_neg h]
        rfl
      · intro hg he
        simp only [sgo]
        rw [if_pos ⟨hg, he⟩, hw]
        exact hnext [] _ (by simp) (tab_or t (good_lt hg))
    · refine Ev.step (f := fun k => spec_ParseAnf.j3 k n (ofL l) w (ofL p) (pre.length : Int) true) (fun k => ?_) ?_
      · simp only [spec_ParseAnf.j2, if_true]
        rw [if_pos (by rw [hsz]; omega), if_pos (Int.natCast_nonneg _), hbt, show (((c.toNat : Nat) : Int) != 43) = true from bne_iff_ne.mpr (by omega)]
      simp only [spg]
      rw [if_neg c43]
      refine Ev.step (fun k => ?_) (hnext (p ++ [c]) w (by simp; omega) t)
      simp only [spec_ParseAnf.j3, if_true]
      rw [hw, Int.toNat_natCast, Int.toNat_natCast, ext_ofL hlen, hc, ofL_append, ofL_size p, ofL_size [c], hsz, if_pos (Int.natCast_nonneg _), if_pos (by omega), if_pos (by omega), if_pos (by simp; omega)]
theorem impl_go {n : Nat} {l : List UInt8} {P : List (List UInt8)} (hP : ∀ q ∈ P, q.length ≤ 200) (hN : P.length ≤ 201) : ∀ (t pre : List (List UInt8)) (w : Nat), P = pre ++ t → Tab n w → Ev (fun k => impl_ParseAnf.l0 k n (ofL l) (P.map ofL) (P.length : Int) (pre.length : Int) n w) (end3 n l (igo n t w)) := by
  intro t
  induction t with
  | nil =>
    intro pre w e tb
    have hlen : pre.length = P.length := by rw [e]; simp
    refine Ev.step (f := fun k => impl_ParseAnf.j2 k (ofL l) n w) (fun k => ?_) ?_
    · simp only [impl_ParseAnf.l0]
      rw [if_neg (by omega)]
    refine Ev.step (fun k => ?_) (impl_fin tb l)
    simp only [impl_ParseAnf.j2]
  | cons p t ih =>
    intro pre w e tb
    have hlen : pre.length < P.length := by rw [e]; simp
    have hp : p.length ≤ 200 := hP p (by rw [e]; simp)
    have hn := tb.hn
    have hsz := tb.size
    have hrd : rdOf ByteArray.empty (P.map ofL) (pre.length : Int) = ofL p := by
      unfold rdOf
      rw [Int.toNat_natCast, List.getD_eq_getElem?_getD, List.getElem?_map, e]
      simp
    have hw : wrap64 ((pre.length : Int) + 1) = ((pre.length + 1 : Nat) : Int) := by rw [w64 (by omega) (by omega)]; rfl
    have hQ := impl_ParseTerm_ev hn hp
    simp only [igo]
    by_cases hg : goodP n p = true
    · have hlt := good_lt hg
      have t2 : Tab n (2 ^ (pt p).1) := ⟨hn, pow_lt_size hlt⟩
      rw [pres_good hg] at hQ
      rw [if_pos hg]
      have hI := ih (pre ++ [p]) (w ||| 2 ^ (pt p).1) (by rw [e]; simp) (tab_or tb hlt)
      simp only [List.length_append, List.length_cons, List.length_nil] at hI
      refine evs1 hQ (fun k hk => ?_) hI
      simp only [impl_ParseAnf.l0]
      rw [if_pos (by omega), if_pos (Int.natCast_nonneg _), if_pos (by rw [List.length_map]; omega), hrd, hk, Option.bind_some]
      simp only [if_true]
      rw [if_pos (Int.natCast_nonneg _), shl1 (by omega), borN tb.w63 t2.w63, hw]
    · rw [pres_bad hg] at hQ
      rw [if_neg hg]
      refine evs1 hQ (fun k hk => ?_) (Ev.now _)
      simp only [impl_ParseAnf.l0]
      rw [if_pos (by omega), if_pos (Int.natCast_nonneg _), if_pos (by rw [List.length_map]; omega), hrd, hk, Option.bind_some]
      simp only [Bool.false_eq_true, if_false]
      rfl
theorem tl_ne33 {m i : Nat} (hi : i ≤ 5) : (33 : UInt8) ∉ tl m i := by
  induction i with
  | zero => simp [tl]
  | succ i ih =>
    have h1 : ¬ (33 : UInt8) = UInt8.ofNat (97 + i) := by
      intro e
      have := congrArg UInt8.toNat e
      rw [UInt8.toNat_ofNat', Nat.mod_eq_of_lt (by omega)] at this
      simp at this
      omega
    simp only [tl]
    split
    · intro h
      rcases List.mem_append.1 h with h | h
      · exact ih (by omega) h
      · exact h1 (List.mem_singleton.1 h)
    · exact ih (by omega)
theorem term_ne33 {n m : Nat} (hn : n ≤ 5) : (33 : UInt8) ∉ term n m := by
  unfold term
  split
  · decide
  · exact tl_ne33 hn
theorem sj_ne33 {n g : Nat} (hn : n ≤ 5) (i : Nat) : (33 : UInt8) ∉ sj n g i := by
  induction i with
  | zero => simp [sj, ml, Go.Lib.join_nil]
  | succ i ih =>
    by_cases hb : g.testBit i = true
    · rw [sj_step hn hb]
      split
      · exact term_ne33 hn
      · intro h
        rcases List.mem_append.1 h with h | h
        · rcases List.mem_append.1 h with h | h
          · exact ih h
          · exact absurd (List.mem_singleton.1 h) (by decide)
        · exact term_ne33 hn h
    · rw [sj_same (Bool.eq_false_iff.mpr hb)]
      exact ih
theorem fm_ne33 {n w : Nat} (hn : n ≤ 5) : (33 : UInt8) ∉ fm n w := by
  unfold fm
  split
  · decide
  · exact sj_ne33 hn _
theorem go_same {n : Nat} : ∀ (P : List (List UInt8)) (w : Nat), sgo n P w = igo n P w ∨ (sgo n P w = none ∧ ∃ p ∈ P, goodP n p = true ∧ (pt p).1 ≠ (pt p).2) := by
  intro P
  induction P with
  | nil => intro w; exact .inl rfl
  | cons p P ih =>
    intro w
    simp only [sgo, igo]
    by_cases hg : goodP n p = true
    · by_cases he : (pt p).1 = (pt p).2
      · rw [if_pos ⟨hg, he⟩, if_pos hg]
        rcases ih (w ||| 2 ^ (pt p).1) with h | ⟨h, q, hq, h2⟩
        · exact .inl h
        · exact .inr ⟨h, q, List.mem_cons_of_mem _ hq, h2⟩
      · exact .inr ⟨by rw [if_neg fun h => he h.2], p, List.mem_cons_self, hg, he⟩
    · exact .inl (by rw [if_neg fun h => hg h.1, if_neg hg])
theorem end_same {n : Nat} (hn : n ≤ 5) (l : List UInt8) (w : Nat) : end3 n l (sgo n (spg [] l) w) = end3 n l (igo n (spg [] l) w) := by
  rcases go_same (n := n) (spg [] l) w with h | ⟨h, p, hp, hg, hne⟩
  · rw [h]
  · rw [h]
    have h33 : (33 : UInt8) ∈ l := by
      have h1 := of_decide_eq_true (show decide (p ≠ [] ∧ (pt p).1 < 2 ^ n ∧ gterm n (pt p).1 (pt p).2 = p) = true from hg)
      have h2 := gterm_bang h1.2.1 (pt_ok p).2 hne
      rw [h1.2.2] at h2
      rcases spg_sub l [] p hp _ h2 with h3 | h3
      · simp at h3
      · exact h3
    cases hi : igo n (spg [] l) w with
    | none => rfl
    | some w' =>
      show (0, 0, false) = fin3 n l w'
      unfold fin3
      rw [if_neg fun e => fm_ne33 hn (by rw [e]; exact h33)]
theorem parse_same (a0 : Int) (a1 : ByteArray) : ∃ r, Ev (fun k => spec_ParseAnf.f k a0 a1) r ∧ Ev (fun k => impl_ParseAnf.f k a0 a1) r := by
  unfold spec_ParseAnf.f impl_ParseAnf.f
  simp only [l1In_eq, impl_isBits_eq, Option.bind_some]
  have hout : Ev (fun k => spec_ParseAnf.j0 k a0 a1 true) (0, 0, false) ∧ Ev (fun k => impl_ParseAnf.j0 k a0 a1 true) (0, 0, false) := ⟨ev0 fun k => by simp only [spec_ParseAnf.j0, if_true], ev0 fun k => by simp only [impl_ParseAnf.j0, if_true]⟩
  by_cases hb : 0 ≤ a0 ∧ a0 ≤ 5
  case neg =>
    simp only [decide_eq_false hb, Bool.false_eq_true, if_false]
    exact ⟨_, hout⟩
  simp only [decide_eq_true hb, if_true]
  by_cases hs : (a1.size : Int) > 200
  · simp only [decide_eq_true hs]
    exact ⟨_, hout⟩
  simp only [decide_eq_false hs]
  obtain ⟨n, rfl⟩ := Int.eq_ofNat_of_zero_le hb.1
  have hn : n ≤ 5 := by omega
  obtain ⟨l, rfl⟩ : ∃ l, a1 = ofL l := ⟨_, (ofL_back a1).symm⟩
  rw [ofL_size] at hs
  have hl : l.length ≤ 200 := by omega
  have t0 : Tab n 0 := ⟨hn, Nat.two_pow_pos _⟩
  by_cases h48 : l = [48]
  · refine ⟨fin3 n l 0, ?_, ?_⟩
    · refine Ev.step (f := fun k => spec_ParseAnf.l0 k n (ofL l) 0 (⟨#[]⟩ : ByteArray) 0) (fun k => by simp only [spec_ParseAnf.j0, Bool.false_eq_true, if_false]) ?_
      refine Ev.step (f := fun k => spec_ParseAnf.j2 k n (ofL l) 0 (⟨#[]⟩ : ByteArray) 0 false) (fun k => ?_) ?_
      · simp only [spec_ParseAnf.l0]
        rw [if_pos (Int.natCast_nonneg _), ofL_list, h48]
        rfl
      refine Ev.step (fun k => ?_) (spec_fin t0 l)
      simp only [spec_ParseAnf.j2, Bool.false_eq_true, if_false]
      rfl
    · refine Ev.step (f := fun k => impl_ParseAnf.j2 k (ofL l) n 0) (fun k => ?_) ?_
      · simp only [impl_ParseAnf.j0, Bool.false_eq_true, if_false]
        rw [if_pos (by rw [ofL_list]; exact h48)]
      refine Ev.step (fun k => ?_) (impl_fin t0 l)
      simp only [impl_ParseAnf.j2]
      rfl
  · refine ⟨end3 n l (sgo n (spg [] l) 0), ?_, ?_⟩
    · refine Ev.step (fun k => ?_) (spec_go hl h48 l [] [] 0 rfl (Nat.le_refl _) t0)
      simp only [spec_ParseAnf.j0, Bool.false_eq_true, if_false]
      rfl
    · rw [end_same hn]
      have hI := impl_go (n := n) (l := l) (P := spg [] l) (fun q hq => by have := spg_len l [] q hq; simp at this; omega) (by have := spg_count l []; omega) (spg [] l) [] 0 rfl t0
      refine Ev.step (fun k => ?_) hI
      simp only [impl_ParseAnf.j0, Bool.false_eq_true, if_false]
      rw [if_neg (by rw [ofL_list]; exact h48), split_eq hl, Option.bind_some, List.length_map]
      rfl

theorem FnExactParseAnf (a0 : Int) (a1 : ByteArray) (h0 : (Lit.int .i64 a0).wf = true) (h1 : a1.size ≤ 140737488351232) : ∃ k, laws_FnExactParseAnf.f k a0 a1 = some true := by
  by_cases hbig : (a1.size : Int) > 1048576
  · exact ⟨0, by unfold laws_FnExactParseAnf.f; rw [if_pos hbig]⟩
  obtain ⟨r, hs, hi⟩ := parse_same a0 a1
  refine Ev.rounds ?_
  unfold laws_FnExactParseAnf.f
  simp only [if_neg hbig]
  refine ev_bd hs (ev_bd hi ?_)
  have e : laws_eqTable.f r.1 r.2.1 r.1 r.2.1 = some true := by unfold laws_eqTable.f; rw [if_pos rfl, if_pos rfl]
  simp only [e, Option.bind_some, if_true, bne_self_eq_false, Bool.false_eq_true, if_false]
  exact Ev.now _

end Go.Proofs.YteljkpglgjjnlaaDoor.Pure
