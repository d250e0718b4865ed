/- What the law FnExactAdversaryAnswer comes to, over numbers and lists alone: at every input both sides tell the same. No conditions but the kinds of the numbers. -/
import Derived.Test.YtkipjpfkdkkpdaaMath
import Derived.Test.YtkipjpfkdkkpdaaCof
import Derived.Test.YtkipjpfkdkkpdaaCub
import Derived.Test.YtkipjpfkdkkpdaaHad
import Derived.Test.YtkipjpfkdkkpdaaQue
import Derived.Test.YtkipjpfkdkkpdaaPx1
import Derived.Test.YtkipjpfkdkkpdaaPx10
import Derived.Test.YtkipjpfkdkkpdaaPx11
import Derived.Test.YtkipjpfkdkkpdaaPx12
import Derived.Test.YtkipjpfkdkkpdaaPx13
import Derived.Test.YtkipjpfkdkkpdaaPx2
import Derived.Test.YtkipjpfkdkkpdaaPx3
import Derived.Test.YtkipjpfkdkkpdaaPx32
import Derived.Test.YtkipjpfkdkkpdaaPx5
import Derived.Test.YtkipjpfkdkkpdaaPx6
import Derived.Test.YtkipjpfkdkkpdaaPx7
import Derived.Test.YtkipjpfkdkkpdaaPx8
namespace Go.Proofs.Ytkipjpfkdkkpdaa.Pure
open Go.RowKit Go.Proofs.Ytkipjpfkdkkpdaa.P Go.Proofs.YtkipjpfkdkkpdaaW.PrintWords Go.Proofs.YtkipjpfkdkkpdaaW.PrintLast Go.Proofs.YtkipjpfkdkkpdaaW.PrintMore Go.Proofs.YtkipjpfkdkkpdaaMath
set_option linter.unusedVariables false
set_option linter.unusedSimpArgs false

theorem impl_isBits_eq (b : Int) : impl_isBits.f b = some (decide (0 ≤ b ∧ b ≤ 5)) := by
  unfold impl_isBits.f
  by_cases h : b ≥ 0
  · rw [if_pos h]; simp [show 0 ≤ b from h]
  · rw [if_neg h]; simp [show ¬ 0 ≤ b from h]

theorem impl_Table_size_eq {n : Nat} (h : n ≤ 62) (W : Int) : impl_Table_size.f n W = some ((2 ^ n : Nat) : Int) := by
  unfold impl_Table_size.f
  rw [if_pos (Int.natCast_nonneg _), shl1 h]

theorem impl_IsTable_eq (b W : Int) : impl_IsTable.f b W = some (isTab b W) := by
  unfold impl_IsTable.f
  rw [impl_isBits_eq, Option.bind_some]
  by_cases h : 0 ≤ b ∧ b ≤ 5
  · obtain ⟨n, rfl⟩ := Int.eq_ofNat_of_zero_le h.1
    rw [if_pos (decide_eq_true h)]
    by_cases h2 : W ≥ 0
    · rw [if_pos h2]
      obtain ⟨w, rfl⟩ := Int.eq_ofNat_of_zero_le h2
      have hp : 2 ^ n ≤ 2 ^ 5 := Nat.pow_le_pow_right (by omega) (by omega)
      rw [impl_Table_size_eq (by omega), Option.bind_some, if_pos (Int.natCast_nonneg _), shrS (by omega)]
      congr 1
      unfold isTab
      rw [Bool.eq_iff_iff, decide_eq_true_iff, beq_iff_eq, Int.toNat_natCast]
      have e : ((2 : Int) ^ 2 ^ n) = ((2 ^ 2 ^ n : Nat) : Int) := by push_cast; rfl
      rw [e]
      have hd : w / 2 ^ 2 ^ n = 0 ↔ w < 2 ^ 2 ^ n := by rw [Nat.div_eq_zero_iff]; have := Nat.two_pow_pos (2 ^ n); omega
      constructor
      · intro h3
        have := hd.1 (by omega)
        omega
      · rintro ⟨_, _, _, h4⟩
        have := hd.2 (by omega)
        omega
    · rw [if_neg h2, show isTab n W = false from decide_eq_false fun h3 => h2 h3.2.2.1]
  · rw [if_neg (by rw [decide_eq_false h]; decide), show isTab b W = false from decide_eq_false fun h3 => h ⟨h3.1, h3.2.1⟩]

theorem impl_isSmall_eq (b W a : Int) : impl_isSmall.f b W a = some (isTab b W && decide (b ≤ a)) := by
  unfold impl_isSmall.f
  rw [impl_IsTable_eq, Option.bind_some]
  cases isTab b W <;> rfl

theorem impl_isInput_eq {n : Nat} (h : n ≤ 62) (x : Int) : impl_isInput.f n x = some (isInp n x) := by
  unfold impl_isInput.f
  by_cases h0 : x ≥ 0
  · rw [if_pos h0, if_pos (Int.natCast_nonneg _), shl1 h, isInp_lt h0]
  · rw [if_neg h0, show isInp n x = false from decide_eq_false fun h3 => h0 h3.1]

theorem impl_hasInput_eq (b W x : Int) : impl_hasInput.f b W x = some (isTab b W && isInp b x) := by
  unfold impl_hasInput.f
  rw [impl_IsTable_eq, Option.bind_some]
  by_cases h : isTab b W = true
  · obtain ⟨n, w, rfl, rfl, t⟩ := isTab_yes h
    rw [if_pos h, impl_isInput_eq (by have := t.hn; omega), Option.bind_some, h, Bool.true_and]
  · rw [if_neg h, Bool.eq_false_iff.mpr h, Bool.false_and]

theorem impl_isCube_eq (b W m v : Int) (hv : (Lit.int .i64 v).wf = true) : impl_isCube.f b W m v = some (isTab b W && isInp b m && isSub m v) := by
  unfold impl_isCube.f
  rw [impl_hasInput_eq, Option.bind_some]
  by_cases h : (isTab b W && isInp b m) = true
  · rw [if_pos h, h, Bool.true_and]
    rw [Bool.and_eq_true] at h
    obtain ⟨n, w, rfl, rfl, t⟩ := isTab_yes h.1
    obtain ⟨m, rfl, hm⟩ := isInp_yes h.2
    have hs := t.size
    by_cases h0 : v ≥ 0
    · rw [if_pos h0]
      obtain ⟨v, rfl⟩ := Int.eq_ofNat_of_zero_le h0
      have hv2 := wf_top hv
      rw [bandnotN (by omega) (by omega)]
      congr 1
      rw [Bool.eq_iff_iff, beq_iff_eq, isSub_nat]
      constructor
      · intro h
        have h2 : v ^^^ (v &&& m) = 0 := by omega
        have h3 : (v ^^^ (v &&& m)) ^^^ (v &&& m) = v := by rw [Nat.xor_assoc, Nat.xor_self, Nat.xor_zero]
        rw [h2, Nat.zero_xor] at h3
        exact h3
      · intro h
        rw [h, Nat.xor_self]
        rfl
    · rw [if_neg h0, show isSub m v = false from isSub_neg (by omega)]
  · rw [if_neg h, Bool.eq_false_iff.mpr h, Bool.false_and]

theorem impl_isKnown_eq (b W m v : Int) (hv : (Lit.int .i64 v).wf = true) : impl_isKnown.f b W m v = some (isKn b W m v) := by
  unfold impl_isKnown.f isKn
  rw [impl_isSmall_eq, Option.bind_some, impl_isCube_eq b W m v hv]
  cases isTab b W <;> cases decide (b ≤ 4) <;> rfl

theorem spec_IsTable_eq (b W : Int) : spec_IsTable.f b W = some (isTab b W) := rfl

theorem spec_l1In_eq (a b c : Int) : spec_l1In.f a b c = some (decide (b ≤ a ∧ a ≤ c)) := by
  unfold spec_l1In.f
  by_cases h : b ≤ a
  · rw [if_pos h]; simp [h]
  · rw [if_neg h]; simp [h]

theorem spec_l8Fine_eq (b W m v : Int) : spec_l8Fine.f b W m v = some (isKn b W m v) := by
  unfold spec_l8Fine.f isKn
  rw [spec_IsTable_eq, Option.bind_some]
  by_cases h : isTab b W = true
  · obtain ⟨n, w, rfl, rfl, t⟩ := isTab_yes h
    have hs := t.size
    have hn := t.hn
    rw [if_pos h, h, Bool.true_and, Bool.true_and]
    by_cases h4 : (n : Int) ≤ 4
    · rw [if_pos h4, if_pos (Int.natCast_nonneg _), spec_l1In_eq, Option.bind_some, shl1m (by omega), isInp_le, decide_eq_true h4, Bool.true_and]
      by_cases hm : isInp n m = true
      · rw [if_pos hm, spec_l1In_eq, Option.bind_some, hm, Bool.true_and]
        obtain ⟨m, rfl, hm2⟩ := isInp_yes hm
        by_cases hb : 0 ≤ v ∧ v ≤ m
        · rw [decide_eq_true hb, if_pos rfl]
          obtain ⟨v, rfl⟩ := Int.eq_ofNat_of_zero_le hb.1
          rw [bandN (by omega) (by omega)]
          congr 1
          rw [Bool.eq_iff_iff, beq_iff_eq, isSub_nat]
          omega
        · rw [decide_eq_false hb, if_neg (by decide)]
          congr 1
          symm
          by_cases h0 : v < 0
          · exact isSub_neg h0
          · obtain ⟨v, rfl⟩ := Int.eq_ofNat_of_zero_le (show 0 ≤ v by omega)
            rw [Bool.eq_false_iff]
            intro h
            have := isSub_nat.1 h
            have h2 : v &&& m ≤ m := Nat.and_le_right
            omega
      · rw [if_neg hm, Bool.eq_false_iff.mpr hm, Bool.false_and]
    · rw [if_neg h4, decide_eq_false h4, Bool.false_and]
  · rw [if_neg h, Bool.eq_false_iff.mpr h, Bool.false_and, Bool.false_and]

theorem and_pow (m i : Nat) : m &&& 2 ^ i = if m.testBit i = true then 2 ^ i else 0 := by
  apply Nat.eq_of_testBit_eq
  intro j
  rw [Nat.testBit_and, Nat.testBit_two_pow]
  by_cases h : i = j
  · subst h
    cases hb : m.testBit i <;> simp
  · rw [decide_eq_false h, Bool.and_false]
    split
    · rw [Nat.testBit_two_pow, decide_eq_false h]
    · rw [Nat.zero_testBit]
theorem and_pow_no {m i : Nat} (h : m.testBit i = false) : m &&& 2 ^ i = 0 := by rw [and_pow, h]; rfl
theorem and_pow_yes {m i : Nat} (h : m.testBit i = true) : m &&& 2 ^ i = 2 ^ i := by rw [and_pow, h]; rfl
theorem impl_known_with_zero {m v i : Nat} (hm : m < 32) (hv : v < 32) (hi : i ≤ 5) : impl_known_with.f m v i 0 = some (((m ||| 2 ^ i : Nat) : Int), (v : Int)) := by
  unfold impl_known_with.f
  have hp : 2 ^ i ≤ 2 ^ 5 := Nat.pow_le_pow_right (by omega) hi
  have hl : m ||| 2 ^ i < 2 ^ 6 := Nat.or_lt_two_pow (by omega) (by omega)
  rw [if_pos (Int.natCast_nonneg _), shl1 (by omega), borN (by omega) (by omega), show (0 : Int) = ((0 : Nat) : Int) from rfl, shlN (by omega), Nat.zero_mul, borN (by omega) (by omega), Nat.or_zero]
theorem impl_known_with_one {m v i : Nat} (hm : m < 32) (hv : v < 32) (hi : i ≤ 5) : impl_known_with.f m v i 1 = some (((m ||| 2 ^ i : Nat) : Int), ((v ||| 2 ^ i : Nat) : Int)) := by
  unfold impl_known_with.f
  have hp : 2 ^ i ≤ 2 ^ 5 := Nat.pow_le_pow_right (by omega) hi
  rw [if_pos (Int.natCast_nonneg _), shl1 (by omega), borN (by omega) (by omega), borN (by omega) (by omega)]

theorem impl_Table_cube_seen_eq {w m v : Nat} (hw : w < 9223372036854775808) (hm : m < 32) (b : Bool) : ∀ N, N ≤ 32 → impl_Table_cube.seen w m v (b2i b) N = seenB w m v b N := by
  intro N
  induction N with
  | zero => intro _; rfl
  | succ N ih =>
    intro hN
    simp only [impl_Table_cube.seen, seenB]
    rw [ih (by omega), bandN (by omega) (by omega), at1 hw, b2i_beq]
    congr 2
    rw [Bool.eq_iff_iff, beq_iff_eq, beq_iff_eq]
    omega
theorem impl_Table_cube_eq {n w m v : Nat} (t : Tab n w) (hm : m < 32) : impl_Table_cube.f n w m v = some (cubeV n w m v) := by
  have hn := t.hn
  have hs := t.size
  unfold impl_Table_cube.f
  rw [if_pos (by omega), Int.toNat_natCast, show (1 : Int) = b2i true from rfl, show (0 : Int) = b2i false from rfl, impl_Table_cube_seen_eq t.w63 hm true _ hs, impl_Table_cube_seen_eq t.w63 hm false _ hs]
  rfl

theorem bit_zero {m i : Nat} (hm : m < 9223372036854775808) : Go.bits .and .i64 (shr .i64 (m : Int) (i : Int)) 1 = 0 ↔ m.testBit i = false := by
  rw [at1 hm]
  cases m.testBit i <;> simp [b2i]
theorem impl_asker_left_fold {n m v d w : Nat} (hn : n ≤ 4) (hm : m < 2 ^ n) (hv : v < 2 ^ n)
    (ih : ∀ i, i < n → opens m i = true → impl_asker_left.f n w d ((m ||| 2 ^ i : Nat) : Int) v = some (askD n w (m ||| 2 ^ i) v) ∧ impl_asker_left.f n w d ((m ||| 2 ^ i : Nat) : Int) ((v ||| 2 ^ i : Nat) : Int) = some (askD n w (m ||| 2 ^ i) (v ||| 2 ^ i))) :
    ∀ i, i ≤ n → impl_asker_left.fold (impl_asker_left.f n w d) m v n i = some (leastI (opens m) (fun i => 1 + mx (askD n w (m ||| 2 ^ i) v) (askD n w (m ||| 2 ^ i) (v ||| 2 ^ i))) n i) := by
  have hp : 2 ^ n ≤ 2 ^ 4 := Nat.pow_le_pow_right (by omega) hn
  intro i
  induction i with
  | zero => intro _; rfl
  | succ i ih2 =>
    intro hi
    rw [impl_asker_left.fold, ih2 (by omega), Option.bind_some]
    simp only [leastI]
    cases hb : m.testBit i with
    | false =>
      have ho := opens_yes.2 hb
      obtain ⟨e0, e1⟩ := ih i (by omega) ho
      have h0 := askD_range n w (m ||| 2 ^ i) v
      have h1 := askD_range n w (m ||| 2 ^ i) (v ||| 2 ^ i)
      have h2 := mx_le h0.2 h1.2
      have h3 := mx_ge (askD n w (m ||| 2 ^ i) v) (askD n w (m ||| 2 ^ i) (v ||| 2 ^ i))
      rw [if_pos ((bit_zero (by omega)).2 hb), if_pos ho, impl_known_with_zero (by omega) (by omega) (by omega), Option.bind_some, e0, Option.bind_some, impl_known_with_one (by omega) (by omega) (by omega), Option.bind_some, e1, Option.bind_some, w64 (by omega) (by omega)]
    | true =>
      rw [if_neg (fun h => by rw [(bit_zero (by omega)).1 h] at hb; exact Bool.noConfusion hb), if_neg (fun h => by rw [opens_yes.1 h] at hb; exact Bool.noConfusion hb)]
theorem impl_asker_left_eq {n w : Nat} (t : Tab n w) (hn : n ≤ 4) : ∀ (d m v : Nat), frees m n < d → m < 2 ^ n → v < 2 ^ n → impl_asker_left.f n w d m v = some (askD n w m v) := by
  have hp : 2 ^ n ≤ 2 ^ 4 := Nat.pow_le_pow_right (by omega) hn
  intro d
  induction d with
  | zero => intro m v h; omega
  | succ d ih =>
    intro m v h hm hv
    rw [impl_asker_left.f, impl_Table_cube_eq t (by omega), Option.bind_some, askD_eq]
    by_cases hc : cubeV n w m v = 2
    · rw [if_pos hc, if_pos hc, Int.toNat_natCast]
      refine impl_asker_left_fold hn hm hv (fun i hi ho => ?_) n (Nat.le_refl _)
      have hf := frees_or hi (opens_yes.1 ho)
      exact ⟨ih _ _ (by omega) (or_lt hm hi) hv, ih _ _ (by omega) (or_lt hm hi) (or_lt hv hi)⟩
    · rw [if_neg hc, if_neg hc]
theorem impl_asker_left_six {n w m v : Nat} (t : Tab n w) (hn : n ≤ 4) (hm : m < 2 ^ n) (hv : v < 2 ^ n) : impl_asker_left.f n w 6 m v = some (askD n w m v) :=
  impl_asker_left_eq t hn 6 m v (by have := frees_le m n; omega) hm hv

theorem spec_l3Cube_ev {n w m x : Nat} (t : Tab n w) (hx : x < 2 ^ n) (hm : m < 32) : Ev (fun k => spec_l3Cube.f k n w m ((x &&& m : Nat) : Int)) (cubeV n w m (x &&& m)) := by
  have hn := t.hn
  have hs := t.size
  unfold spec_l3Cube.f
  have h := ev_for (fun k i => if cubeBoth w m (x &&& m) i = true then some 2 else spec_l3Cube.l0 k m ((x &&& m : Nat) : Int) (cubeOut w m (x &&& m) i) (i : Int) n w) (2 ^ n) (r := cubeV n w m (x &&& m)) ?_ ?_
  · exact h
  · intro i hi h
    by_cases hb : cubeBoth w m (x &&& m) i = true
    · have hb2 : cubeBoth w m (x &&& m) (i + 1) = true := by
        unfold cubeBoth at hb ⊢
        rw [Bool.and_eq_true] at hb
        simp only [seenB]
        rw [hb.1, hb.2]
        rfl
      simp only [if_pos hb2] at h
      simp only [if_pos hb]
      exact h
    · simp only [if_neg hb]
      refine Ev.step (fun k => ?_) h
      simp only [spec_l3Cube.l0]
      rw [if_pos (Int.natCast_nonneg _), shl1 (by omega), if_pos (Int.ofNat_lt.mpr hi), bandN (by omega) (by omega), w64 (by omega) (by omega), at1 t.w63]
      unfold cubeBoth cubeOut at *
      simp only [seenB]
      by_cases he : i &&& m = x &&& m
      · rw [if_pos (by rw [he]), if_pos (Int.natCast_nonneg _)]
        simp only [he, beq_self_eq_true, Bool.true_and]
        cases h1 : seenB w m (x &&& m) true i <;> cases h2 : seenB w m (x &&& m) false i <;> cases h3 : w.testBit i <;> simp_all [b2i]
      · rw [if_neg (by omega)]
        have : (i &&& m == x &&& m) = false := by simpa using he
        simp only [this, Bool.false_and, Bool.or_false]
        rw [if_neg hb]
        rfl
  · by_cases hb : cubeBoth w m (x &&& m) (2 ^ n) = true
    · simp only [if_pos hb]
      rw [cubeV_both hb]
      exact Ev.now _
    · simp only [if_neg hb]
      refine ev0 fun k => ?_
      simp only [spec_l3Cube.l0]
      rw [if_pos (Int.natCast_nonneg _), shl1 (by omega), if_neg (by omega), cubeV_out hx rfl hb]

theorem spec_l7Least_ev {n w : Nat} (t : Tab n w) (hn : n ≤ 4) : ∀ (d m v : Nat), frees m n < d → m < 2 ^ n → v &&& m = v → Ev (fun k => spec_l7Least.f k n w m v) (askD n w m v) := by
  have hp : 2 ^ n ≤ 2 ^ 4 := Nat.pow_le_pow_right (by omega) hn
  intro d
  induction d with
  | zero => intro m v h; omega
  | succ d ih =>
    intro m v h hm hv
    have hv2 := sub_lt hm hv
    have hcube := spec_l3Cube_ev t hv2 (m := m) (by omega)
    rw [hv] at hcube
    by_cases hc : cubeV n w m v = 2
    · refine evs1 hcube (G := fun k => spec_l7Least.l0 k m v 10 0 n w) (fun k hk => ?_) ?_
      · simp only [spec_l7Least.f]
        rw [hk, Option.bind_some, if_neg (by omega)]
      · have hl := ev_for (fun k i => spec_l7Least.l0 k m v (leastI (opens m) (fun i => 1 + mx (askD n w (m ||| 2 ^ i) v) (askD n w (m ||| 2 ^ i) (v ||| 2 ^ i))) 10 i) (i : Int) n w) n (r := askD n w m v) ?_ ?_
        · exact hl
        · intro i hi hE
          have hs : 2 ^ i < 2 ^ n := Nat.pow_lt_pow_right (by omega) hi
          cases hb : m.testBit i with
          | false =>
            have ho := opens_yes.2 hb
            have hf := frees_or hi hb
            have e0 := ih (m ||| 2 ^ i) v (by omega) (or_lt hm hi) (sub_zero hv)
            have e1 := ih (m ||| 2 ^ i) (v ||| 2 ^ i) (by omega) (or_lt hm hi) (sub_one hv)
            have h0 := askD_range n w (m ||| 2 ^ i) v
            have h1 := askD_range n w (m ||| 2 ^ i) (v ||| 2 ^ i)
            have h2 := mx_le h0.2 h1.2
            have h3 := mx_ge (askD n w (m ||| 2 ^ i) v) (askD n w (m ||| 2 ^ i) (v ||| 2 ^ i))
            refine evs2 e0 e1 (fun k k0 k1 => ?_) hE
            simp only [spec_l7Least.l0]
            rw [if_pos (Int.ofNat_lt.mpr hi), if_pos (Int.natCast_nonneg _), shl1 (by omega), bandN (by omega) (by omega), and_pow_no hb, if_pos (show ((0 : Nat) : Int) = 0 from rfl), borN (by omega) (by omega), borN (by omega) (by omega), k0, Option.bind_some, k1, Option.bind_some, w64 (by omega) (by omega), w64 (by omega) (by omega)]
            simp only [leastI]
            rw [if_pos ho]
            rfl
          | true =>
            have hq : ((2 ^ i : Nat) : Int) ≠ 0 := by have := Nat.two_pow_pos i; omega
            refine Ev.step (fun k => ?_) hE
            simp only [spec_l7Least.l0]
            rw [if_pos (Int.ofNat_lt.mpr hi), if_pos (Int.natCast_nonneg _), shl1 (by omega), bandN (by omega) (by omega), and_pow_yes hb, if_neg hq, w64 (by omega) (by omega)]
            simp only [leastI]
            rw [if_neg (fun h => by rw [opens_yes.1 h] at hb; exact Bool.noConfusion hb)]
            rfl
        · refine ev0 fun k => ?_
          simp only [spec_l7Least.l0]
          rw [if_neg (by omega), askD_from (by omega) hc]
    · refine evs1 hcube (G := fun _ => some (askD n w m v)) (fun k hk => ?_) (Ev.now _)
      have := cubeV_range n w m v
      simp only [spec_l7Least.f]
      rw [hk, Option.bind_some, if_pos (by omega), askD_zero hc]
theorem spec_l7Least_six {n w m v : Nat} (t : Tab n w) (hn : n ≤ 4) (hm : m < 2 ^ n) (hv : v &&& m = v) : Ev (fun k => spec_l7Least.f k n w m v) (askD n w m v) :=
  spec_l7Least_ev t hn 6 m v (by have := frees_le m n; omega) hm hv

theorem laws_toTable_eq (b W : Int) : laws_toTable.f b W = some (b, W) := rfl

theorem spec_AdversaryAnswer_ev {n w m v i : Nat} (t : Tab n w) (hn : n ≤ 4) (hm : m < 2 ^ n) (hs : v &&& m = v) (hi : i < n) (hb : m.testBit i = false) : Ev (fun k => spec_AdversaryAnswer.f k n w m v i) ((adv n w m v i : Nat) : Int) := by
  have hp : 2 ^ n ≤ 2 ^ 4 := Nat.pow_le_pow_right (by omega) hn
  have hq : 2 ^ i < 2 ^ n := Nat.pow_lt_pow_right (by omega) hi
  have hv := sub_lt hm hs
  unfold spec_AdversaryAnswer.f
  simp only [spec_l8Fine_eq, isKn_mk t hn hm hs, spec_l1In_eq, Option.bind_some, if_true, w64 (x := (n : Int) - 1) (by omega) (by omega), decide_eq_true (show (0 : Int) ≤ i ∧ (i : Int) ≤ n - 1 by omega), if_pos (Int.natCast_nonneg _), at1 (show m < 9223372036854775808 by omega), hb]
  refine evs2 (spec_l7Least_six t hn (or_lt hm hi) (sub_one hs)) (spec_l7Least_six t hn (or_lt hm hi) (sub_zero hs)) (fun k h1 h0 => ?_) (Ev.now _)
  simp only [spec_AdversaryAnswer.j0]
  rw [if_neg (by decide), if_pos (Int.natCast_nonneg _), shl1 (by omega), borN (by omega) (by omega), borN (by omega) (by omega), h1, Option.bind_some, h0, Option.bind_some]
  unfold adv
  split <;> rfl
theorem impl_asker_answer_eq {n w m v i : Nat} (t : Tab n w) (hn : n ≤ 4) (hm : m < 2 ^ n) (hv : v < 2 ^ n) (hi : i < n) : impl_asker_answer.f n w m v i = some ((adv n w m v i : Nat) : Int) := by
  have hp : 2 ^ n ≤ 2 ^ 4 := Nat.pow_le_pow_right (by omega) hn
  unfold impl_asker_answer.f
  rw [impl_known_with_one (by omega) (by omega) (by omega), Option.bind_some, impl_asker_left_six t hn (or_lt hm hi) (or_lt hv hi), Option.bind_some, impl_known_with_zero (by omega) (by omega) (by omega), Option.bind_some, impl_asker_left_six t hn (or_lt hm hi) hv, Option.bind_some]
  unfold adv
  split <;> rfl
theorem spec_AdversaryAnswer_no {b W m v i : Int} (hi : (Lit.int .i64 i).wf = true) (hbw : (Lit.int .i64 b).wf = true) (h : isKn b W m v = true → ¬ (0 ≤ i ∧ i < b) ∨ Go.bits .and .i64 (shr .i64 m i) 1 = 1) : Ev (fun k => spec_AdversaryAnswer.f k b W m v i) (-1) := by
  unfold spec_AdversaryAnswer.f
  simp only [spec_l8Fine_eq, spec_l1In_eq, Option.bind_some]
  have hj : Ev (fun k => spec_AdversaryAnswer.j0 k m v i true b W) (-1) := ev0 fun k => by simp only [spec_AdversaryAnswer.j0, if_true]
  by_cases hk : isKn b W m v = true
  · simp only [hk, if_true]
    obtain ⟨n, w, m, v, rfl, rfl, rfl, rfl, t, hn, hm2, hs⟩ := isKn_yes hk
    rw [w64 (by omega) (by omega)]
    by_cases hr : 0 ≤ i ∧ i ≤ (n : Int) - 1
    · rcases h hk with h1 | h1
      · omega
      · simp only [decide_eq_true hr, if_true, if_pos hr.1, h1]
        exact hj
    · simp only [decide_eq_false hr]
      exact hj
  · simp only [if_neg hk]
    exact hj
theorem FnExactAdversaryAnswer (b W m v i : Int) (hb : (Lit.int .i64 b).wf = true) (hW : (Lit.int .i64 W).wf = true) (hm : (Lit.int .i64 m).wf = true) (hv : (Lit.int .i64 v).wf = true) (hi : (Lit.int .i64 i).wf = true) : ∃ k, laws_FnExactAdversaryAnswer.f k b W m v i = some true := by
  have key : ∃ r, Ev (fun k => spec_AdversaryAnswer.f k b W m v i) r ∧ impl_AdversaryAnswer.f b W m v i = some r := by
    by_cases h : isKn b W m v = true ∧ (0 ≤ i ∧ i < b) ∧ Go.bits .and .i64 (shr .i64 m i) 1 ≠ 1
    · obtain ⟨hk, hr, hq⟩ := h
      obtain ⟨n, w, m, v, rfl, rfl, rfl, rfl, t, hn, hm2, hs⟩ := isKn_yes hk
      obtain ⟨i, rfl⟩ := Int.eq_ofNat_of_zero_le hr.1
      have hp : 2 ^ n ≤ 2 ^ 4 := Nat.pow_le_pow_right (by omega) hn
      have hbit : m.testBit i = false := by
        rw [at1 (by omega)] at hq
        cases hb : m.testBit i with
        | false => rfl
        | true => rw [hb] at hq; exact absurd rfl hq
      refine ⟨_, spec_AdversaryAnswer_ev t hn hm2 hs (by omega) hbit, ?_⟩
      unfold impl_AdversaryAnswer.f
      rw [impl_isKnown_eq _ _ _ _ hv, Option.bind_some, if_pos hk, if_neg (by omega), if_neg (by omega), if_neg hq]
      exact impl_asker_answer_eq t hn hm2 (sub_lt hm2 hs) (by omega)
    · refine ⟨-1, spec_AdversaryAnswer_no hi hb (fun hk => ?_), ?_⟩
      · by_cases hr : 0 ≤ i ∧ i < b
        · right
          by_cases hq : Go.bits .and .i64 (shr .i64 m i) 1 = 1
          · exact hq
          · exact absurd ⟨hk, hr, hq⟩ h
        · exact .inl hr
      · unfold impl_AdversaryAnswer.f
        rw [impl_isKnown_eq _ _ _ _ hv, Option.bind_some]
        by_cases hk : isKn b W m v = true
        · rw [if_pos hk]
          by_cases h1 : i < 0
          · rw [if_pos h1]
          · rw [if_neg h1]
            by_cases h2 : b ≤ i
            · rw [if_pos h2]
            · rw [if_neg h2]
              by_cases hq : Go.bits .and .i64 (shr .i64 m i) 1 = 1
              · rw [if_pos hq]
              · exact absurd ⟨hk, ⟨by omega, by omega⟩, hq⟩ h
        · rw [if_neg hk]
  obtain ⟨r, h1, h2⟩ := key
  refine Ev.rounds ?_
  unfold laws_FnExactAdversaryAnswer.f
  simp only [laws_toTable_eq, Option.bind_some, h2]
  exact ev1' h1 fun k hk => by rw [hk]; simp

end Go.Proofs.Ytkipjpfkdkkpdaa.Pure
