/- What the law FnExactPlayAgainst comes to, over numbers and lists alone: at every input both sides tell the same. No conditions but the kinds of the numbers. -/
import Derived.Test.YtkipjpfkdkkpdaaMath
import Derived.Test.YtkipjpfkdkkpdaaCof
import Derived.Test.YtkipjpfkdkkpdaaCub
import Derived.Test.YtkipjpfkdkkpdaaHad
import Derived.Test.YtkipjpfkdkkpdaaOrd
import Derived.Test.YtkipjpfkdkkpdaaQue
import Derived.Test.YtkipjpfkdkkpdaaPx1
import Derived.Test.YtkipjpfkdkkpdaaPx10
import Derived.Test.YtkipjpfkdkkpdaaPx11
import Derived.Test.YtkipjpfkdkkpdaaPx12
import Derived.Test.YtkipjpfkdkkpdaaPx13
import Derived.Test.YtkipjpfkdkkpdaaPx16
import Derived.Test.YtkipjpfkdkkpdaaPx17
import Derived.Test.YtkipjpfkdkkpdaaPx18
import Derived.Test.YtkipjpfkdkkpdaaPx19
import Derived.Test.YtkipjpfkdkkpdaaPx2
import Derived.Test.YtkipjpfkdkkpdaaPx20
import Derived.Test.YtkipjpfkdkkpdaaPx3
import Derived.Test.YtkipjpfkdkkpdaaPx35
import Derived.Test.YtkipjpfkdkkpdaaPx5
import Derived.Test.YtkipjpfkdkkpdaaPx6
import Derived.Test.YtkipjpfkdkkpdaaPx7
import Derived.Test.YtkipjpfkdkkpdaaPx8
namespace Go.Proofs.Ytkipjpfkdkkpdaa.Pure
open Go.RowKit Go.Proofs.Ytkipjpfkdkkpdaa.P Go.Proofs.YtkipjpfkdkkpdaaW.PrintWords Go.Proofs.YtkipjpfkdkkpdaaW.PrintLast Go.Proofs.YtkipjpfkdkkpdaaW.PrintMore Go.Proofs.YtkipjpfkdkkpdaaMath
set_option linter.unusedVariables false
set_option linter.unusedSimpArgs false

theorem impl_isBits_eq (b : Int) : impl_isBits.f b = some (decide (0 ≤ b ∧ b ≤ 5)) := by
  unfold impl_isBits.f
  by_cases h : b ≥ 0
  · rw [if_pos h]; simp [show 0 ≤ b from h]
  · rw [if_neg h]; simp [show ¬ 0 ≤ b from h]

theorem impl_Table_size_eq {n : Nat} (h : n ≤ 62) (W : Int) : impl_Table_size.f n W = some ((2 ^ n : Nat) : Int) := by
  unfold impl_Table_size.f
  rw [if_pos (Int.natCast_nonneg _), shl1 h]

theorem impl_IsTable_eq (b W : Int) : impl_IsTable.f b W = some (isTab b W) := by
  unfold impl_IsTable.f
  rw [impl_isBits_eq, Option.bind_some]
  by_cases h : 0 ≤ b ∧ b ≤ 5
  · obtain ⟨n, rfl⟩ := Int.eq_ofNat_of_zero_le h.1
    rw [if_pos (decide_eq_true h)]
    by_cases h2 : W ≥ 0
    · rw [if_pos h2]
      obtain ⟨w, rfl⟩ := Int.eq_ofNat_of_zero_le h2
      have hp : 2 ^ n ≤ 2 ^ 5 := Nat.pow_le_pow_right (by omega) (by omega)
      rw [impl_Table_size_eq (by omega), Option.bind_some, if_pos (Int.natCast_nonneg _), shrS (by omega)]
      congr 1
      unfold isTab
      rw [Bool.eq_iff_iff, decide_eq_true_iff, beq_iff_eq, Int.toNat_natCast]
      have e : ((2 : Int) ^ 2 ^ n) = ((2 ^ 2 ^ n : Nat) : Int) := by push_cast; rfl
      rw [e]
      have hd : w / 2 ^ 2 ^ n = 0 ↔ w < 2 ^ 2 ^ n := by rw [Nat.div_eq_zero_iff]; have := Nat.two_pow_pos (2 ^ n); omega
      constructor
      · intro h3
        have := hd.1 (by omega)
        omega
      · rintro ⟨_, _, _, h4⟩
        have := hd.2 (by omega)
        omega
    · rw [if_neg h2, show isTab n W = false from decide_eq_false fun h3 => h2 h3.2.2.1]
  · rw [if_neg (by rw [decide_eq_false h]; decide), show isTab b W = false from decide_eq_false fun h3 => h ⟨h3.1, h3.2.1⟩]

theorem impl_isSmall_eq (b W a : Int) : impl_isSmall.f b W a = some (isTab b W && decide (b ≤ a)) := by
  unfold impl_isSmall.f
  rw [impl_IsTable_eq, Option.bind_some]
  cases isTab b W <;> rfl

theorem impl_isInput_eq {n : Nat} (h : n ≤ 62) (x : Int) : impl_isInput.f n x = some (isInp n x) := by
  unfold impl_isInput.f
  by_cases h0 : x ≥ 0
  · rw [if_pos h0, if_pos (Int.natCast_nonneg _), shl1 h, isInp_lt h0]
  · rw [if_neg h0, show isInp n x = false from decide_eq_false fun h3 => h0 h3.1]

theorem impl_hasInput_eq (b W x : Int) : impl_hasInput.f b W x = some (isTab b W && isInp b x) := by
  unfold impl_hasInput.f
  rw [impl_IsTable_eq, Option.bind_some]
  by_cases h : isTab b W = true
  · obtain ⟨n, w, rfl, rfl, t⟩ := isTab_yes h
    rw [if_pos h, impl_isInput_eq (by have := t.hn; omega), Option.bind_some, h, Bool.true_and]
  · rw [if_neg h, Bool.eq_false_iff.mpr h, Bool.false_and]

theorem impl_isCube_eq (b W m v : Int) (hv : (Lit.int .i64 v).wf = true) : impl_isCube.f b W m v = some (isTab b W && isInp b m && isSub m v) := by
  unfold impl_isCube.f
  rw [impl_hasInput_eq, Option.bind_some]
  by_cases h : (isTab b W && isInp b m) = true
  · rw [if_pos h, h, Bool.true_and]
    rw [Bool.and_eq_true] at h
    obtain ⟨n, w, rfl, rfl, t⟩ := isTab_yes h.1
    obtain ⟨m, rfl, hm⟩ := isInp_yes h.2
    have hs := t.size
    by_cases h0 : v ≥ 0
    · rw [if_pos h0]
      obtain ⟨v, rfl⟩ := Int.eq_ofNat_of_zero_le h0
      have hv2 := wf_top hv
      rw [bandnotN (by omega) (by omega)]
      congr 1
      rw [Bool.eq_iff_iff, beq_iff_eq, isSub_nat]
      constructor
      · intro h
        have h2 : v ^^^ (v &&& m) = 0 := by omega
        have h3 : (v ^^^ (v &&& m)) ^^^ (v &&& m) = v := by rw [Nat.xor_assoc, Nat.xor_self, Nat.xor_zero]
        rw [h2, Nat.zero_xor] at h3
        exact h3
      · intro h
        rw [h, Nat.xor_self]
        rfl
    · rw [if_neg h0, show isSub m v = false from isSub_neg (by omega)]
  · rw [if_neg h, Bool.eq_false_iff.mpr h, Bool.false_and]

theorem impl_isKnown_eq (b W m v : Int) (hv : (Lit.int .i64 v).wf = true) : impl_isKnown.f b W m v = some (isKn b W m v) := by
  unfold impl_isKnown.f isKn
  rw [impl_isSmall_eq, Option.bind_some, impl_isCube_eq b W m v hv]
  cases isTab b W <;> cases decide (b ≤ 4) <;> rfl

theorem spec_IsTable_eq (b W : Int) : spec_IsTable.f b W = some (isTab b W) := rfl

theorem spec_l1In_eq (a b c : Int) : spec_l1In.f a b c = some (decide (b ≤ a ∧ a ≤ c)) := by
  unfold spec_l1In.f
  by_cases h : b ≤ a
  · rw [if_pos h]; simp [h]
  · rw [if_neg h]; simp [h]

theorem spec_l8Fine_eq (b W m v : Int) : spec_l8Fine.f b W m v = some (isKn b W m v) := by
  unfold spec_l8Fine.f isKn
  rw [spec_IsTable_eq, Option.bind_some]
  by_cases h : isTab b W = true
  · obtain ⟨n, w, rfl, rfl, t⟩ := isTab_yes h
    have hs := t.size
    have hn := t.hn
    rw [if_pos h, h, Bool.true_and, Bool.true_and]
    by_cases h4 : (n : Int) ≤ 4
    · rw [if_pos h4, if_pos (Int.natCast_nonneg _), spec_l1In_eq, Option.bind_some, shl1m (by omega), isInp_le, decide_eq_true h4, Bool.true_and]
      by_cases hm : isInp n m = true
      · rw [if_pos hm, spec_l1In_eq, Option.bind_some, hm, Bool.true_and]
        obtain ⟨m, rfl, hm2⟩ := isInp_yes hm
        by_cases hb : 0 ≤ v ∧ v ≤ m
        · rw [decide_eq_true hb, if_pos rfl]
          obtain ⟨v, rfl⟩ := Int.eq_ofNat_of_zero_le hb.1
          rw [bandN (by omega) (by omega)]
          congr 1
          rw [Bool.eq_iff_iff, beq_iff_eq, isSub_nat]
          omega
        · rw [decide_eq_false hb, if_neg (by decide)]
          congr 1
          symm
          by_cases h0 : v < 0
          · exact isSub_neg h0
          · obtain ⟨v, rfl⟩ := Int.eq_ofNat_of_zero_le (show 0 ≤ v by omega)
            rw [Bool.eq_false_iff]
            intro h
            have := isSub_nat.1 h
            have h2 : v &&& m ≤ m := Nat.and_le_right
            omega
      · rw [if_neg hm, Bool.eq_false_iff.mpr hm, Bool.false_and]
    · rw [if_neg h4, decide_eq_false h4, Bool.false_and]
  · rw [if_neg h, Bool.eq_false_iff.mpr h, Bool.false_and, Bool.false_and]

theorem and_pow (m i : Nat) : m &&& 2 ^ i = if m.testBit i = true then 2 ^ i else 0 := by
  apply Nat.eq_of_testBit_eq
  intro j
  rw [Nat.testBit_and, Nat.testBit_two_pow]
  by_cases h : i = j
  · subst h
    cases hb : m.testBit i <;> simp
  · rw [decide_eq_false h, Bool.and_false]
    split
    · rw [Nat.testBit_two_pow, decide_eq_false h]
    · rw [Nat.zero_testBit]
theorem and_pow_no {m i : Nat} (h : m.testBit i = false) : m &&& 2 ^ i = 0 := by rw [and_pow, h]; rfl
theorem and_pow_yes {m i : Nat} (h : m.testBit i = true) : m &&& 2 ^ i = 2 ^ i := by rw [and_pow, h]; rfl
theorem impl_known_with_zero {m v i : Nat} (hm : m < 32) (hv : v < 32) (hi : i ≤ 5) : impl_known_with.f m v i 0 = some (((m ||| 2 ^ i : Nat) : Int), (v : Int)) := by
  unfold impl_known_with.f
  have hp : 2 ^ i ≤ 2 ^ 5 := Nat.pow_le_pow_right (by omega) hi
  have hl : m ||| 2 ^ i < 2 ^ 6 := Nat.or_lt_two_pow (by omega) (by omega)
  rw [if_pos (Int.natCast_nonneg _), shl1 (by omega), borN (by omega) (by omega), show (0 : Int) = ((0 : Nat) : Int) from rfl, shlN (by omega), Nat.zero_mul, borN (by omega) (by omega), Nat.or_zero]
theorem impl_known_with_one {m v i : Nat} (hm : m < 32) (hv : v < 32) (hi : i ≤ 5) : impl_known_with.f m v i 1 = some (((m ||| 2 ^ i : Nat) : Int), ((v ||| 2 ^ i : Nat) : Int)) := by
  unfold impl_known_with.f
  have hp : 2 ^ i ≤ 2 ^ 5 := Nat.pow_le_pow_right (by omega) hi
  rw [if_pos (Int.natCast_nonneg _), shl1 (by omega), borN (by omega) (by omega), borN (by omega) (by omega)]

theorem impl_Table_cube_seen_eq {w m v : Nat} (hw : w < 9223372036854775808) (hm : m < 32) (b : Bool) : ∀ N, N ≤ 32 → impl_Table_cube.seen w m v (b2i b) N = seenB w m v b N := by
  intro N
  induction N with
  | zero => intro _; rfl
  | succ N ih =>
    intro hN
    simp only [impl_Table_cube.seen, seenB]
    rw [ih (by omega), bandN (by omega) (by omega), at1 hw, b2i_beq]
    congr 2
    rw [Bool.eq_iff_iff, beq_iff_eq, beq_iff_eq]
    omega
theorem impl_Table_cube_eq {n w m v : Nat} (t : Tab n w) (hm : m < 32) : impl_Table_cube.f n w m v = some (cubeV n w m v) := by
  have hn := t.hn
  have hs := t.size
  unfold impl_Table_cube.f
  rw [if_pos (by omega), Int.toNat_natCast, show (1 : Int) = b2i true from rfl, show (0 : Int) = b2i false from rfl, impl_Table_cube_seen_eq t.w63 hm true _ hs, impl_Table_cube_seen_eq t.w63 hm false _ hs]
  rfl

theorem bit_zero {m i : Nat} (hm : m < 9223372036854775808) : Go.bits .and .i64 (shr .i64 (m : Int) (i : Int)) 1 = 0 ↔ m.testBit i = false := by
  rw [at1 hm]
  cases m.testBit i <;> simp [b2i]
theorem impl_asker_left_fold {n m v d w : Nat} (hn : n ≤ 4) (hm : m < 2 ^ n) (hv : v < 2 ^ n)
    (ih : ∀ i, i < n → opens m i = true → impl_asker_left.f n w d ((m ||| 2 ^ i : Nat) : Int) v = some (askD n w (m ||| 2 ^ i) v) ∧ impl_asker_left.f n w d ((m ||| 2 ^ i : Nat) : Int) ((v ||| 2 ^ i : Nat) : Int) = some (askD n w (m ||| 2 ^ i) (v ||| 2 ^ i))) :
    ∀ i, i ≤ n → impl_asker_left.fold (impl_asker_left.f n w d) m v n i = some (leastI (opens m) (fun i => 1 + mx (askD n w (m ||| 2 ^ i) v) (askD n w (m ||| 2 ^ i) (v ||| 2 ^ i))) n i) := by
  have hp : 2 ^ n ≤ 2 ^ 4 := Nat.pow_le_pow_right (by omega) hn
  intro i
  induction i with
  | zero => intro _; rfl
  | succ i ih2 =>
    intro hi
    rw [impl_asker_left.fold, ih2 (by omega), Option.bind_some]
    simp only [leastI]
    cases hb : m.testBit i with
    | false =>
      have ho := opens_yes.2 hb
      obtain ⟨e0, e1⟩ := ih i (by omega) ho
      have h0 := askD_range n w (m ||| 2 ^ i) v
      have h1 := askD_range n w (m ||| 2 ^ i) (v ||| 2 ^ i)
      have h2 := mx_le h0.2 h1.2
      have h3 := mx_ge (askD n w (m ||| 2 ^ i) v) (askD n w (m ||| 2 ^ i) (v ||| 2 ^ i))
      rw [if_pos ((bit_zero (by omega)).2 hb), if_pos ho, impl_known_with_zero (by omega) (by omega) (by omega), Option.bind_some, e0, Option.bind_some, impl_known_with_one (by omega) (by omega) (by omega), Option.bind_some, e1, Option.bind_some, w64 (by omega) (by omega)]
    | true =>
      rw [if_neg (fun h => by rw [(bit_zero (by omega)).1 h] at hb; exact Bool.noConfusion hb), if_neg (fun h => by rw [opens_yes.1 h] at hb; exact Bool.noConfusion hb)]
theorem impl_asker_left_eq {n w : Nat} (t : Tab n w) (hn : n ≤ 4) : ∀ (d m v : Nat), frees m n < d → m < 2 ^ n → v < 2 ^ n → impl_asker_left.f n w d m v = some (askD n w m v) := by
  have hp : 2 ^ n ≤ 2 ^ 4 := Nat.pow_le_pow_right (by omega) hn
  intro d
  induction d with
  | zero => intro m v h; omega
  | succ d ih =>
    intro m v h hm hv
    rw [impl_asker_left.f, impl_Table_cube_eq t (by omega), Option.bind_some, askD_eq]
    by_cases hc : cubeV n w m v = 2
    · rw [if_pos hc, if_pos hc, Int.toNat_natCast]
      refine impl_asker_left_fold hn hm hv (fun i hi ho => ?_) n (Nat.le_refl _)
      have hf := frees_or hi (opens_yes.1 ho)
      exact ⟨ih _ _ (by omega) (or_lt hm hi) hv, ih _ _ (by omega) (or_lt hm hi) (or_lt hv hi)⟩
    · rw [if_neg hc, if_neg hc]
theorem impl_asker_left_six {n w m v : Nat} (t : Tab n w) (hn : n ≤ 4) (hm : m < 2 ^ n) (hv : v < 2 ^ n) : impl_asker_left.f n w 6 m v = some (askD n w m v) :=
  impl_asker_left_eq t hn 6 m v (by have := frees_le m n; omega) hm hv

theorem spec_l3Cube_ev {n w m x : Nat} (t : Tab n w) (hx : x < 2 ^ n) (hm : m < 32) : Ev (fun k => spec_l3Cube.f k n w m ((x &&& m : Nat) : Int)) (cubeV n w m (x &&& m)) := by
  have hn := t.hn
  have hs := t.size
  unfold spec_l3Cube.f
  have h := ev_for (fun k i => if cubeBoth w m (x &&& m) i = true then some 2 else spec_l3Cube.l0 k m ((x &&& m : Nat) : Int) (cubeOut w m (x &&& m) i) (i : Int) n w) (2 ^ n) (r := cubeV n w m (x &&& m)) ?_ ?_
  · exact h
  · intro i hi h
    by_cases hb : cubeBoth w m (x &&& m) i = true
    · have hb2 : cubeBoth w m (x &&& m) (i + 1) = true := by
        unfold cubeBoth at hb ⊢
        rw [Bool.and_eq_true] at hb
        simp only [seenB]
        rw [hb.1, hb.2]
        rfl
      simp only [if_pos hb2] at h
      simp only [if_pos hb]
      exact h
    · simp only [if_neg hb]
      refine Ev.step (fun k => ?_) h
      simp only [spec_l3Cube.l0]
      rw [if_pos (Int.natCast_nonneg _), shl1 (by omega), if_pos (Int.ofNat_lt.mpr hi), bandN (by omega) (by omega), w64 (by omega) (by omega), at1 t.w63]
      unfold cubeBoth cubeOut at *
      simp only [seenB]
      by_cases he : i &&& m = x &&& m
      · rw [if_pos (by rw [he]), if_pos (Int.natCast_nonneg _)]
        simp only [he, beq_self_eq_true, Bool.true_and]
        cases h1 : seenB w m (x &&& m) true i <;> cases h2 : seenB w m (x &&& m) false i <;> cases h3 : w.testBit i <;> simp_all [b2i]
      · rw [if_neg (by omega)]
        have : (i &&& m == x &&& m) = false := by simpa using he
        simp only [this, Bool.false_and, Bool.or_false]
        rw [if_neg hb]
        rfl
  · by_cases hb : cubeBoth w m (x &&& m) (2 ^ n) = true
    · simp only [if_pos hb]
      rw [cubeV_both hb]
      exact Ev.now _
    · simp only [if_neg hb]
      refine ev0 fun k => ?_
      simp only [spec_l3Cube.l0]
      rw [if_pos (Int.natCast_nonneg _), shl1 (by omega), if_neg (by omega), cubeV_out hx rfl hb]

theorem spec_l7Least_ev {n w : Nat} (t : Tab n w) (hn : n ≤ 4) : ∀ (d m v : Nat), frees m n < d → m < 2 ^ n → v &&& m = v → Ev (fun k => spec_l7Least.f k n w m v) (askD n w m v) := by
  have hp : 2 ^ n ≤ 2 ^ 4 := Nat.pow_le_pow_right (by omega) hn
  intro d
  induction d with
  | zero => intro m v h; omega
  | succ d ih =>
    intro m v h hm hv
    have hv2 := sub_lt hm hv
    have hcube := spec_l3Cube_ev t hv2 (m := m) (by omega)
    rw [hv] at hcube
    by_cases hc : cubeV n w m v = 2
    · refine evs1 hcube (G := fun k => spec_l7Least.l0 k m v 10 0 n w) (fun k hk => ?_) ?_
      · simp only [spec_l7Least.f]
        rw [hk, Option.bind_some, if_neg (by omega)]
      · have hl := ev_for (fun k i => spec_l7Least.l0 k m v (leastI (opens m) (fun i => 1 + mx (askD n w (m ||| 2 ^ i) v) (askD n w (m ||| 2 ^ i) (v ||| 2 ^ i))) 10 i) (i : Int) n w) n (r := askD n w m v) ?_ ?_
        · exact hl
        · intro i hi hE
          have hs : 2 ^ i < 2 ^ n := Nat.pow_lt_pow_right (by omega) hi
          cases hb : m.testBit i with
          | false =>
            have ho := opens_yes.2 hb
            have hf := frees_or hi hb
            have e0 := ih (m ||| 2 ^ i) v (by omega) (or_lt hm hi) (sub_zero hv)
            have e1 := ih (m ||| 2 ^ i) (v ||| 2 ^ i) (by omega) (or_lt hm hi) (sub_one hv)
            have h0 := askD_range n w (m ||| 2 ^ i) v
            have h1 := askD_range n w (m ||| 2 ^ i) (v ||| 2 ^ i)
            have h2 := mx_le h0.2 h1.2
            have h3 := mx_ge (askD n w (m ||| 2 ^ i) v) (askD n w (m ||| 2 ^ i) (v ||| 2 ^ i))
            refine evs2 e0 e1 (fun k k0 k1 => ?_) hE
            simp only [spec_l7Least.l0]
            rw [if_pos (Int.ofNat_lt.mpr hi), if_pos (Int.natCast_nonneg _), shl1 (by omega), bandN (by omega) (by omega), and_pow_no hb, if_pos (show ((0 : Nat) : Int) = 0 from rfl), borN (by omega) (by omega), borN (by omega) (by omega), k0, Option.bind_some, k1, Option.bind_some, w64 (by omega) (by omega), w64 (by omega) (by omega)]
            simp only [leastI]
            rw [if_pos ho]
            rfl
          | true =>
            have hq : ((2 ^ i : Nat) : Int) ≠ 0 := by have := Nat.two_pow_pos i; omega
            refine Ev.step (fun k => ?_) hE
            simp only [spec_l7Least.l0]
            rw [if_pos (Int.ofNat_lt.mpr hi), if_pos (Int.natCast_nonneg _), shl1 (by omega), bandN (by omega) (by omega), and_pow_yes hb, if_neg hq, w64 (by omega) (by omega)]
            simp only [leastI]
            rw [if_neg (fun h => by rw [opens_yes.1 h] at hb; exact Bool.noConfusion hb)]
            rfl
        · refine ev0 fun k => ?_
          simp only [spec_l7Least.l0]
          rw [if_neg (by omega), askD_from (by omega) hc]
    · refine evs1 hcube (G := fun _ => some (askD n w m v)) (fun k hk => ?_) (Ev.now _)
      have := cubeV_range n w m v
      simp only [spec_l7Least.f]
      rw [hk, Option.bind_some, if_pos (by omega), askD_zero hc]
theorem spec_l7Least_six {n w m v : Nat} (t : Tab n w) (hn : n ≤ 4) (hm : m < 2 ^ n) (hv : v &&& m = v) : Ev (fun k => spec_l7Least.f k n w m v) (askD n w m v) :=
  spec_l7Least_ev t hn 6 m v (by have := frees_le m n; omega) hm hv

theorem laws_toTable_eq (b W : Int) : laws_toTable.f b W = some (b, W) := rfl

theorem spec_AdversaryAnswer_ev {n w m v i : Nat} (t : Tab n w) (hn : n ≤ 4) (hm : m < 2 ^ n) (hs : v &&& m = v) (hi : i < n) (hb : m.testBit i = false) : Ev (fun k => spec_AdversaryAnswer.f k n w m v i) ((adv n w m v i : Nat) : Int) := by
  have hp : 2 ^ n ≤ 2 ^ 4 := Nat.pow_le_pow_right (by omega) hn
  have hq : 2 ^ i < 2 ^ n := Nat.pow_lt_pow_right (by omega) hi
  have hv := sub_lt hm hs
  unfold spec_AdversaryAnswer.f
  simp only [spec_l8Fine_eq, isKn_mk t hn hm hs, spec_l1In_eq, Option.bind_some, if_true, w64 (x := (n : Int) - 1) (by omega) (by omega), decide_eq_true (show (0 : Int) ≤ i ∧ (i : Int) ≤ n - 1 by omega), if_pos (Int.natCast_nonneg _), at1 (show m < 9223372036854775808 by omega), hb]
  refine evs2 (spec_l7Least_six t hn (or_lt hm hi) (sub_one hs)) (spec_l7Least_six t hn (or_lt hm hi) (sub_zero hs)) (fun k h1 h0 => ?_) (Ev.now _)
  simp only [spec_AdversaryAnswer.j0]
  rw [if_neg (by decide), if_pos (Int.natCast_nonneg _), shl1 (by omega), borN (by omega) (by omega), borN (by omega) (by omega), h1, Option.bind_some, h0, Option.bind_some]
  unfold adv
  split <;> rfl
theorem impl_asker_answer_eq {n w m v i : Nat} (t : Tab n w) (hn : n ≤ 4) (hm : m < 2 ^ n) (hv : v < 2 ^ n) (hi : i < n) : impl_asker_answer.f n w m v i = some ((adv n w m v i : Nat) : Int) := by
  have hp : 2 ^ n ≤ 2 ^ 4 := Nat.pow_le_pow_right (by omega) hn
  unfold impl_asker_answer.f
  rw [impl_known_with_one (by omega) (by omega) (by omega), Option.bind_some, impl_asker_left_six t hn (or_lt hm hi) (or_lt hv hi), Option.bind_some, impl_known_with_zero (by omega) (by omega) (by omega), Option.bind_some, impl_asker_left_six t hn (or_lt hm hi) hv, Option.bind_some]
  unfold adv
  split <;> rfl

theorem spec_l3Perm_ev (l : List Int) (h : l.length ≤ 1048576) (n : Nat) (hn : n ≤ 5) : Ev (fun k => spec_l3Perm.f k l n) (ordB l n) := by
  rw [← perm_ord]
  unfold spec_l3Perm.f
  have := ev_for (fun k i => if okp l n i = true then spec_l3Perm.l0 k l n (i : Int) else some false) l.length (r := okp l n l.length && (l.length == n)) ?_ ?_
  · exact this
  · intro i hi hE
    by_cases ha : okp l n i = true
    · simp only [if_pos ha]
      rw [okp_succ, ha, Bool.true_and] at hE
      have hin := spec_l1In_eq (rd l (i : Int)) 0 ((n : Int) - 1)
      by_cases hr : 0 ≤ rd l (i : Int) ∧ rd l (i : Int) ≤ (n : Int) - 1
      · rw [decide_eq_true hr, Bool.true_and] at hE
        refine Ev.step (f := fun k => spec_l3Perm.l1 k l n (i : Int) 0) (fun k => ?_) ?_
        · simp only [spec_l3Perm.l0]
          rw [if_pos (Int.ofNat_lt.mpr hi), if_pos (Int.natCast_nonneg _), w64 (by omega) (by omega), hin, decide_eq_true hr, Option.bind_some, if_pos rfl]
        · have h2 := ev_for (fun k j => if dis l i j = true then spec_l3Perm.l1 k l n (i : Int) (j : Int) else some false) i (r := okp l n l.length && (l.length == n)) ?_ ?_
          · exact h2
          · intro j hj hF
            by_cases hd : dis l i j = true
            · simp only [if_pos hd]
              rw [dis_succ, hd, Bool.true_and] at hF
              by_cases e : rd l (j : Int) = rd l (i : Int)
              · rw [decide_eq_false (by simpa using e)] at hF
                simp only [Bool.false_eq_true, if_false] at hF
                refine Ev.step (fun k => ?_) hF
                simp only [spec_l3Perm.l1]
                rw [if_pos (Int.ofNat_lt.mpr hj), if_pos (Int.natCast_nonneg _), if_pos (by omega), if_pos (Int.natCast_nonneg _), if_pos (Int.ofNat_lt.mpr hi), if_pos e]
              · rw [decide_eq_true e] at hF
                simp only [if_true] at hF
                refine Ev.step (fun k => ?_) hF
                simp only [spec_l3Perm.l1]
                rw [if_pos (Int.ofNat_lt.mpr hj), if_pos (Int.natCast_nonneg _), if_pos (by omega), if_pos (Int.natCast_nonneg _), if_pos (Int.ofNat_lt.mpr hi), if_neg e, w64 (by omega) (by omega)]
                rfl
            · simp only [if_neg hd]
              rw [dis_succ, Bool.eq_false_iff.mpr hd, Bool.false_and] at hF
              exact hF
          · by_cases hd : dis l i i = true
            · simp only [if_pos hd]
              simp only [if_pos hd] at hE
              refine Ev.step (fun k => ?_) hE
              simp only [spec_l3Perm.l1]
              rw [if_neg (by omega), w64 (by omega) (by omega)]
              rfl
            · simp only [if_neg hd]
              simp only [if_neg hd] at hE
              exact hE
      · rw [decide_eq_false hr, Bool.false_and] at hE
        simp only [Bool.false_eq_true, if_false] at hE
        refine Ev.step (fun k => ?_) hE
        simp only [spec_l3Perm.l0]
        rw [if_pos (Int.ofNat_lt.mpr hi), if_pos (Int.natCast_nonneg _), w64 (by omega) (by omega), hin, decide_eq_false hr, Option.bind_some, if_neg (by decide)]
    · simp only [if_neg ha]
      rw [okp_succ, Bool.eq_false_iff.mpr ha, Bool.false_and] at hE
      exact hE
  · by_cases ha : okp l n l.length = true
    · simp only [if_pos ha]
      rw [ha, Bool.true_and]
      refine ev0 fun k => ?_
      simp only [spec_l3Perm.l0]
      rw [if_neg (by omega)]
      congr 1
      rw [Bool.eq_iff_iff, beq_iff_eq, beq_iff_eq]
      omega
    · simp only [if_neg ha]
      rw [Bool.eq_false_iff.mpr ha, Bool.false_and]
      exact Ev.now _

theorem slices_Index_int_int_ev (l : List Int) (h : l.length ≤ 1048576) (a : Int) : ∃ r, Ev (fun k => slices_Index_int_int.f k l a) r ∧ (r ≥ 0 ↔ l.contains a = true) := by
  have key : ∀ d i : Nat, i + d = l.length → ∃ r, Ev (fun k => slices_Index_int_int.l0 k l a (l.length : Int) (i : Int)) r ∧ (r ≥ 0 ↔ (l.drop i).contains a = true) := by
    intro d
    induction d with
    | zero =>
      intro i hi
      refine ⟨-1, ev0 fun k => ?_, ?_⟩
      · simp only [slices_Index_int_int.l0]
        rw [if_neg (by omega)]
      · rw [List.drop_of_length_le (by omega)]
        simp
    | succ d ih =>
      intro i hi
      have hlt : i < l.length := by omega
      rw [List.drop_eq_getElem_cons hlt]
      by_cases e : a = l[i]
      · refine ⟨(i : Int), ev0 fun k => ?_, ?_⟩
        · simp only [slices_Index_int_int.l0]
          rw [if_pos (Int.ofNat_lt.mpr hlt), if_pos (Int.natCast_nonneg _), if_pos (Int.ofNat_lt.mpr hlt), rd_getElem hlt, if_pos e]
        · rw [List.contains_cons, ← e, beq_self_eq_true, Bool.true_or]
          exact ⟨fun _ => rfl, fun _ => Int.natCast_nonneg _⟩
      · obtain ⟨r, hr, hc⟩ := ih (i + 1) (by omega)
        refine ⟨r, Ev.step (fun k => ?_) hr, ?_⟩
        · simp only [slices_Index_int_int.l0]
          rw [if_pos (Int.ofNat_lt.mpr hlt), if_pos (Int.natCast_nonneg _), if_pos (Int.ofNat_lt.mpr hlt), rd_getElem hlt, if_neg e, w64 (by omega) (by omega)]
          rfl
        · rw [List.contains_cons, show (a == l[i]) = false by simpa using e, Bool.false_or]
          exact hc
  exact key l.length 0 (by omega)
theorem slices_Contains_int_int_ev (l : List Int) (h : l.length ≤ 1048576) (a : Int) : Ev (fun k => slices_Contains_int_int.f k l a) (l.contains a) := by
  obtain ⟨r, hr, hc⟩ := slices_Index_int_int_ev l h a
  unfold slices_Contains_int_int.f
  refine ev1' hr fun k hk => ?_
  rw [hk, Option.bind_some]
  congr 1
  rw [Bool.eq_iff_iff, decide_eq_true_iff]
  exact hc
theorem impl_isOrder_ev (l : List Int) (h : l.length ≤ 1048576) (n : Nat) : Ev (fun k => impl_isOrder.f k l n) (ordB l n) := by
  unfold impl_isOrder.f
  by_cases hl : (l.length : Int) = n
  · simp only [if_pos hl]
    have hb : ordB l n = (List.range n).all fun i => l.contains (i : Int) := by
      unfold ordB
      rw [show (l.length == n) = true by rw [beq_iff_eq]; omega, Bool.true_and]
    rw [hb]
    have := ev_for (fun k i => if ((List.range i).all fun i => l.contains (i : Int)) = true then impl_isOrder.l0 k l n (i : Int) else some false) n (r := (List.range n).all fun i => l.contains (i : Int)) ?_ ?_
    · simpa using this
    · intro i hi hE
      by_cases ha : ((List.range i).all fun i => l.contains (i : Int)) = true
      · simp only [if_pos ha]
        rw [List.range_succ, List.all_append, ha, Bool.true_and] at hE
        refine evs1 (slices_Contains_int_int_ev l h (i : Int)) (fun k hk => ?_) hE
        simp only [impl_isOrder.l0]
        rw [if_pos (Int.ofNat_lt.mpr hi), hk, Option.bind_some, w64 (by omega) (by omega)]
        simp only [List.all_cons, List.all_nil, Bool.and_true]
        rfl
      · simp only [if_neg ha]
        rw [List.range_succ, List.all_append, Bool.eq_false_iff.mpr ha, Bool.false_and] at hE
        exact hE
    · by_cases ha : ((List.range n).all fun i => l.contains (i : Int)) = true
      · simp only [if_pos ha]
        rw [ha]
        refine ev0 fun k => ?_
        simp only [impl_isOrder.l0]
        rw [if_neg (by omega)]
      · simp only [if_neg ha]
        rw [Bool.eq_false_iff.mpr ha]
        exact Ev.now _
  · simp only [if_neg hl]
    have hb : ordB l n = false := by
      unfold ordB
      rw [show (l.length == n) = false by simp; omega, Bool.false_and]
    rw [hb]
    exact Ev.now _

theorem shlB {b i : Nat} (hb : b ≤ 1) (hi : i ≤ 5) : shl .i64 (b : Int) (i : Int) = ((b * 2 ^ i : Nat) : Int) := by
  have hp : 2 ^ i ≤ 2 ^ 5 := Nat.pow_le_pow_right (by omega) hi
  have : b * 2 ^ i ≤ 1 * 2 ^ i := Nat.mul_le_mul_right _ hb
  exact shlN (by omega)
theorem spec_PlayAgainst_l {n w : Nat} (t : Tab n w) (hn : n ≤ 4) (l : List Int) : ∀ (rest : List Nat) (j m v : Nat), l.drop j = rest.map (fun i : Nat => (i : Int)) → j + rest.length = l.length → l.length ≤ 5 → rest.Nodup → (∀ x ∈ rest, x < n ∧ m.testBit x = false) → frees m n = rest.length → m < 2 ^ n → v &&& m = v →
    Ev (fun k => spec_PlayAgainst.l0 k l m v j n w) ((playV n w rest j m v : Nat) : Int) := by
  have hp : 2 ^ n ≤ 2 ^ 4 := Nat.pow_le_pow_right (by omega) hn
  intro rest
  induction rest with
  | nil =>
    intro j m v hd hj hl5 _ _ hf hm hs
    have hc : cubeV n w m v ≠ 2 := fun h => by have := cubeV_free h; simp at hf; omega
    have hcube := spec_l3Cube_ev t (sub_lt hm hs) (m := m) (by omega)
    rw [hs] at hcube
    refine evs1 hcube (G := fun _ => some ((playV n w [] j m v : Nat) : Int)) (fun k hk => ?_) (Ev.now _)
    simp only [spec_PlayAgainst.l0]
    rw [hk, Option.bind_some, if_neg hc]
    rfl
  | cons i rest ih =>
    intro j m v hd hj hl5 hnd hx hf hm hs
    have hcube := spec_l3Cube_ev t (sub_lt hm hs) (m := m) (by omega)
    rw [hs] at hcube
    obtain ⟨hi, hb⟩ := hx i (by simp)
    rw [List.nodup_cons] at hnd
    by_cases hc : cubeV n w m v = 2
    · have hjl : j < l.length := by rw [List.length_cons] at hj; omega
      have hrd : rd l (j : Int) = (i : Int) := by
        rw [List.map_cons] at hd
        rw [rd_getElem hjl]
        have h2 := List.drop_eq_getElem_cons hjl
        rw [hd] at h2
        exact (List.cons.inj h2).1.symm
      have hd2 : l.drop (j + 1) = rest.map (fun i : Nat => (i : Int)) := by
        have h2 := List.drop_eq_getElem_cons hjl
        rw [hd, List.map_cons] at h2
        exact (List.cons.inj h2).2.symm
      have hav := adv_le n w m v i
      have hf2 := frees_or hi hb
      have hlt := or_lt hm hi
      have hv := sub_lt hm hs
      have hav2 := ans_lt hv hi hav
      have hq : 2 ^ i < 2 ^ n := Nat.pow_lt_pow_right (by omega) hi
      have hE := ih (j + 1) (m ||| 2 ^ i) (ans v i (adv n w m v i)) hd2 (by rw [List.length_cons] at hj; omega) hl5 hnd.2 (fun x hxl => by
        obtain ⟨h1, h2⟩ := hx x (by simp [hxl])
        refine ⟨h1, ?_⟩
        rw [Nat.testBit_or, h2, Nat.testBit_two_pow, decide_eq_false (show ¬ i = x from fun e => hnd.1 (e ▸ hxl))]
        rfl) (by rw [List.length_cons] at hf; omega) hlt (ans_sub hs hav)
      have e1 : playV n w (i :: rest) j m v = playV n w rest (j + 1) (m ||| 2 ^ i) (ans v i (adv n w m v i)) := by simp only [playV]; rw [if_pos hc]
      rw [e1]
      refine evs2 hcube (spec_AdversaryAnswer_ev t hn hm hs hi hb) (fun k h1 h2 => ?_) hE
      simp only [spec_PlayAgainst.l0]
      have hb1 : adv n w m v i * 2 ^ i ≤ 1 * 2 ^ i := Nat.mul_le_mul_right _ hav
      rw [h1, Option.bind_some, if_pos hc, if_pos (Int.natCast_nonneg _), if_pos (Int.ofNat_lt.mpr hjl), hrd, h2, Option.bind_some, if_pos (Int.natCast_nonneg _), shl1 (by omega), shlB hav (by omega), borN (by omega) (by omega), borN (by omega) (by omega), w64 (by omega) (by omega)]
      rfl
    · have e1 : playV n w (i :: rest) j m v = j := by simp only [playV]; rw [if_neg hc]
      rw [e1]
      refine evs1 hcube (G := fun _ => some (j : Int)) (fun k hk => ?_) (Ev.now _)
      simp only [spec_PlayAgainst.l0]
      rw [hk, Option.bind_some, if_neg hc]
theorem frees_zero (n : Nat) : frees 0 n = n := by
  induction n with
  | zero => rfl
  | succ n ih => simp only [frees]; rw [Nat.zero_testBit, ih]; rfl

theorem tab_of (l : List Int) : tab l.length (fun i => rd l (i : Int)) = l := by
  apply List.ext_getElem?
  intro i
  unfold tab
  simp only [List.getElem?_map]
  by_cases h : i < l.length
  · simp [h, rd_nat]
  · simp [h]
theorem laws_toIntS_ev (l : List Int) (h : l.length ≤ 1048576) : Ev (fun k => laws_toIntS.f k l) l := by
  unfold laws_toIntS.f
  simp only [if_pos (Int.natCast_nonneg l.length), Int.toNat_natCast, if_pos (show l.length ≤ 35184372088832 by omega)]
  rw [← rwS_zero l.length (fun i => rd l (i : Int))]
  refine ev_for (fun k i => laws_toIntS.l0 k l (rwS l.length i (fun i => rd l (i : Int))) (i : Int)) l.length ?_ ?_
  · intro i hi hh
    refine Ev.step (fun k => ?_) hh
    simp only [laws_toIntS.l0]
    rw [if_pos (Int.ofNat_lt.mpr hi), if_pos (Int.natCast_nonneg _), rwS_len _ (by omega), if_pos (Int.ofNat_lt.mpr hi), Int.toNat_natCast, rwS_at _ hi, rwAt_set, rwAt_next _ hi, w64 (by omega) (by omega)]
    rfl
  · refine ev0 fun k => ?_
    simp only [laws_toIntS.l0]
    rw [if_neg (by omega), rwS_full, tab_of]

theorem laws_eqIntS_ev (l : List Int) (h : l.length ≤ 1048576) : Ev (fun k => laws_eqIntS.f k l l) true := by
  unfold laws_eqIntS.f
  simp only [if_true]
  refine ev_for (fun k i => laws_eqIntS.l0 k l l (i : Int)) l.length ?_ ?_
  · intro i hi hh
    refine Ev.step (fun k => ?_) hh
    simp only [laws_eqIntS.l0]
    rw [if_pos (by omega), if_pos (by omega), if_pos (by omega), if_pos trivial, w64 (by omega) (by omega)]
    rfl
  · refine ev0 fun k => ?_
    simp only [laws_eqIntS.l0]
    rw [if_neg (by omega)]

theorem known_answer {n m v i b : Nat} (hn : n ≤ 4) (hm : m < 2 ^ n) (hv : v < 2 ^ n) (hi : i < n) (hb : b ≤ 1) : impl_known_with.f m v i b = some (((m ||| 2 ^ i : Nat) : Int), ((ans v i b : Nat) : Int)) := by
  have hp : 2 ^ n ≤ 2 ^ 4 := Nat.pow_le_pow_right (by omega) hn
  rcases (by omega : b = 0 ∨ b = 1) with rfl | rfl
  · rw [ans_zero]
    exact impl_known_with_zero (by omega) (by omega) (by omega)
  · rw [ans_one]
    exact impl_known_with_one (by omega) (by omega) (by omega)
theorem impl_PlayAgainst_l {n w : Nat} (t : Tab n w) (hn : n ≤ 4) : ∀ (rest : List Nat) (j m v : Nat), (∀ x ∈ rest, x < n) → m < 2 ^ n → v < 2 ^ n →
    impl_PlayAgainst.l n w (rest.map fun i : Nat => (i : Int)) j m v = some ((playV n w rest j m v : Nat) : Int) := by
  have hp : 2 ^ n ≤ 2 ^ 4 := Nat.pow_le_pow_right (by omega) hn
  intro rest
  induction rest with
  | nil => intro j m v _ _ _; rfl
  | cons i rest ih =>
    intro j m v hx hm hv
    have hi := hx i (by simp)
    rw [List.map_cons, impl_PlayAgainst.l, impl_Table_cube_eq t (by omega), Option.bind_some]
    simp only [playV]
    by_cases hc : cubeV n w m v = 2
    · rw [if_pos hc, if_pos hc, impl_asker_answer_eq t hn hm hv hi, Option.bind_some, known_answer hn hm hv hi (adv_le n w m v i), Option.bind_some]
      exact ih (j + 1) _ _ (fun x hxl => hx x (by simp [hxl])) (or_lt hm hi) (ans_lt hv hi (adv_le n w m v i))
    · rw [if_neg hc, if_neg hc]
theorem PlayAgainst_key (b W : Int) (l : List Int) (h : l.length ≤ 1048576) : ∃ r, Ev (fun k => spec_PlayAgainst.f k b W l) r ∧ Ev (fun k => impl_PlayAgainst.f k b W l) r ∧ (r = -1 ∨ ∃ (n w : Nat) (ns : List Nat), b = n ∧ W = w ∧ Tab n w ∧ n ≤ 4 ∧ ns.length = n ∧ ns.Nodup ∧ (∀ x ∈ ns, x < n) ∧ r = ((playV n w ns 0 0 0 : Nat) : Int)) := by
  have hj : Ev (fun k => spec_PlayAgainst.j0 k l true b W) (-1) := ev0 fun k => by simp only [spec_PlayAgainst.j0, if_true]
  by_cases hs : (isTab b W && decide (b ≤ 4)) = true
  · obtain ⟨n, w, rfl, rfl, t, hn⟩ : ∃ n w : Nat, b = n ∧ W = w ∧ Tab n w ∧ n ≤ 4 := by
      rw [Bool.and_eq_true, decide_eq_true_eq] at hs
      obtain ⟨n, w, rfl, rfl, t⟩ := isTab_yes hs.1
      exact ⟨n, w, rfl, rfl, t, by omega⟩
    have hk : isKn n w 0 0 = true := isKn_mk (m := 0) (v := 0) t hn (Nat.two_pow_pos n) rfl
    by_cases ho : ordB l n = true
    · obtain ⟨ns, hl, hlen, hnd, hlt⟩ := ordB_yes ho
      refine ⟨((playV n w ns 0 0 0 : Nat) : Int), ?_, ?_, .inr ⟨n, w, ns, rfl, rfl, t, hn, hlen, hnd, hlt, rfl⟩⟩
      · unfold spec_PlayAgainst.f
        simp only [spec_l8Fine_eq, hk, Option.bind_some, if_true]
        have hlenl : l.length = n := by rw [hl, List.length_map]; exact hlen
        have hE := spec_PlayAgainst_l t hn l ns 0 0 0 (by rw [List.drop_zero]; exact hl) (by omega) (by omega) hnd (fun x hx => ⟨hlt x hx, Nat.zero_testBit _⟩) (by rw [frees_zero]; omega) (Nat.two_pow_pos n) rfl
        refine ev1 (spec_l3Perm_ev l h n (by omega)) (G := fun k => spec_PlayAgainst.j0 k l false n w) (fun k hk => by rw [hk, ho]; rfl) ?_
        refine Ev.step (fun k => ?_) hE
        simp only [spec_PlayAgainst.j0, Bool.false_eq_true, if_false]
        rfl
      · unfold impl_PlayAgainst.f
        simp only [impl_isSmall_eq, hs, Option.bind_some, if_true]
        refine ev1' (impl_isOrder_ev l h n) fun k hk => ?_
        rw [hk, ho, Option.bind_some, if_pos rfl, if_pos (by omega), hl]
        exact impl_PlayAgainst_l t hn ns 0 0 0 hlt (Nat.two_pow_pos n) (Nat.two_pow_pos n)
    · refine ⟨-1, ?_, ?_, .inl rfl⟩
      · unfold spec_PlayAgainst.f
        simp only [spec_l8Fine_eq, hk, Option.bind_some, if_true]
        exact ev1 (spec_l3Perm_ev l h n (by omega)) (G := fun k => spec_PlayAgainst.j0 k l true n w) (fun k hk => by rw [hk, Bool.eq_false_iff.mpr ho]; rfl) hj
      · unfold impl_PlayAgainst.f
        simp only [impl_isSmall_eq, hs, Option.bind_some, if_true]
        refine ev1' (impl_isOrder_ev l h n) fun k hk => ?_
        rw [hk, Option.bind_some, if_neg ho]
  · refine ⟨-1, ?_, ?_, .inl rfl⟩
    · unfold spec_PlayAgainst.f
      simp only [spec_l8Fine_eq, Option.bind_some]
      have hk : isKn b W 0 0 = false := by unfold isKn; rw [Bool.eq_false_iff.mpr hs, Bool.false_and]
      simp only [hk, Bool.false_eq_true, if_false]
      exact hj
    · unfold impl_PlayAgainst.f
      simp only [impl_isSmall_eq, Option.bind_some, if_neg hs]
      exact Ev.now _
theorem FnExactPlayAgainst (b W : Int) (l : List Int) (hb : (Lit.int .i64 b).wf = true) (hW : (Lit.int .i64 W).wf = true) (hm : l.length ≤ maxLen) (hr : l.length * 8 ≤ 140737488351232) (hw : ∀ x ∈ l, (Lit.int .i64 x).wf = true) : ∃ k, laws_FnExactPlayAgainst.f k b W l = some true := by
  unfold laws_FnExactPlayAgainst.f
  by_cases h : (l.length : Int) > 1048576
  · exact ⟨0, by rw [if_pos h]⟩
  · simp only [if_neg h]
    obtain ⟨r, h1, h2, _⟩ := PlayAgainst_key b W l (by omega)
    have ht := laws_toIntS_ev l (by omega)
    obtain ⟨k, e1, e2, e3, e4, _⟩ := ev_five ht h1 h2 (laws_eqIntS_ev l (by omega)) ht
    refine ⟨k, ?_⟩
    simp only [laws_toTable_eq, e1, e2, e3, e4, Option.bind_some, if_true]

end Go.Proofs.Ytkipjpfkdkkpdaa.Pure
