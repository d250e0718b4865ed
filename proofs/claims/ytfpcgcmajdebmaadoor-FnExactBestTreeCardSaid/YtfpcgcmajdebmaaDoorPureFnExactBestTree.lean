/- What the law FnExactBestTree comes to, over numbers and lists alone: at every input both sides tell the same. No conditions but the kinds of the numbers. -/
import Derived.Test.YtfpcgcmajdebmaaDoorMath
import Derived.Test.YtfpcgcmajdebmaaDoorCub
import Derived.Test.YtfpcgcmajdebmaaDoorHad
import Derived.Test.YtfpcgcmajdebmaaDoorPop
import Derived.Test.YtfpcgcmajdebmaaDoorQue
import Derived.Test.YtfpcgcmajdebmaaDoorPx1
import Derived.Test.YtfpcgcmajdebmaaDoorPx10
import Derived.Test.YtfpcgcmajdebmaaDoorPx11
import Derived.Test.YtfpcgcmajdebmaaDoorPx12
import Derived.Test.YtfpcgcmajdebmaaDoorPx2
import Derived.Test.YtfpcgcmajdebmaaDoorPx3
import Derived.Test.YtfpcgcmajdebmaaDoorPx4
import Derived.Test.YtfpcgcmajdebmaaDoorPx5
import Derived.Test.YtfpcgcmajdebmaaDoorPx6
import Derived.Test.YtfpcgcmajdebmaaDoorPx7
import Derived.Test.YtfpcgcmajdebmaaDoorPx8
import Derived.Test.YtfpcgcmajdebmaaDoorPx9
namespace Go.Proofs.YtfpcgcmajdebmaaDoor.Pure
open Go.RowKit Go.Proofs.YtfpcgcmajdebmaaDoor.P Go.Proofs.YtfpcgcmajdebmaaDoorW.PrintWords Go.Proofs.YtfpcgcmajdebmaaDoorW.PrintLast Go.Proofs.YtfpcgcmajdebmaaDoorW.PrintMore Go.Proofs.YtfpcgcmajdebmaaDoorMath
set_option linter.unusedVariables false
set_option linter.unusedSimpArgs false

theorem spec_IsTable_eq (b W : Int) : spec_IsTable.f b W = some (isTab b W) := rfl

theorem impl_isBits_eq (b : Int) : impl_isBits.f b = some (decide (0 ≤ b ∧ b ≤ 5)) := by
  unfold impl_isBits.f
  by_cases h : b ≥ 0
  · rw [if_pos h]; simp [show 0 ≤ b from h]
  · rw [if_neg h]; simp [show ¬ 0 ≤ b from h]

theorem impl_Table_size_eq {n : Nat} (h : n ≤ 62) (W : Int) : impl_Table_size.f n W = some ((2 ^ n : Nat) : Int) := by
  unfold impl_Table_size.f
  rw [if_pos (Int.natCast_nonneg _), shl1 h]

theorem impl_IsTable_eq (b W : Int) : impl_IsTable.f b W = some (isTab b W) := by
  unfold impl_IsTable.f
  rw [impl_isBits_eq, Option.bind_some]
  by_cases h : 0 ≤ b ∧ b ≤ 5
  · obtain ⟨n, rfl⟩ := Int.eq_ofNat_of_zero_le h.1
    rw [if_pos (decide_eq_true h)]
    by_cases h2 : W ≥ 0
    · rw [if_pos h2]
      obtain ⟨w, rfl⟩ := Int.eq_ofNat_of_zero_le h2
      have hp : 2 ^ n ≤ 2 ^ 5 := Nat.pow_le_pow_right (by omega) (by omega)
      rw [impl_Table_size_eq (by omega), Option.bind_some, if_pos (Int.natCast_nonneg _), shrS (by omega)]
      congr 1
      unfold isTab
      rw [Bool.eq_iff_iff, decide_eq_true_iff, beq_iff_eq, Int.toNat_natCast]
      have e : ((2 : Int) ^ 2 ^ n) = ((2 ^ 2 ^ n : Nat) : Int) := by push_cast; rfl
      rw [e]
      have hd : w / 2 ^ 2 ^ n = 0 ↔ w < 2 ^ 2 ^ n := by rw [Nat.div_eq_zero_iff]; have := Nat.two_pow_pos (2 ^ n); omega
      constructor
      · intro h3
        have := hd.1 (by omega)
        omega
      · rintro ⟨_, _, _, h4⟩
        have := hd.2 (by omega)
        omega
    · rw [if_neg h2, show isTab n W = false from decide_eq_false fun h3 => h2 h3.2.2.1]
  · rw [if_neg (by rw [decide_eq_false h]; decide), show isTab b W = false from decide_eq_false fun h3 => h ⟨h3.1, h3.2.1⟩]

theorem impl_isSmall_eq (b W a : Int) : impl_isSmall.f b W a = some (isTab b W && decide (b ≤ a)) := by
  unfold impl_isSmall.f
  rw [impl_IsTable_eq, Option.bind_some]
  cases isTab b W <;> rfl

theorem and_pow (m i : Nat) : m &&& 2 ^ i = if m.testBit i = true then 2 ^ i else 0 := by
  apply Nat.eq_of_testBit_eq
  intro j
  rw [Nat.testBit_and, Nat.testBit_two_pow]
  by_cases h : i = j
  · subst h
    cases hb : m.testBit i <;> simp
  · rw [decide_eq_false h, Bool.and_false]
    split
    · rw [Nat.testBit_two_pow, decide_eq_false h]
    · rw [Nat.zero_testBit]
theorem and_pow_no {m i : Nat} (h : m.testBit i = false) : m &&& 2 ^ i = 0 := by rw [and_pow, h]; rfl
theorem and_pow_yes {m i : Nat} (h : m.testBit i = true) : m &&& 2 ^ i = 2 ^ i := by rw [and_pow, h]; rfl
theorem impl_known_with_zero {m v i : Nat} (hm : m < 32) (hv : v < 32) (hi : i ≤ 5) : impl_known_with.f m v i 0 = some (((m ||| 2 ^ i : Nat) : Int), (v : Int)) := by
  unfold impl_known_with.f
  have hp : 2 ^ i ≤ 2 ^ 5 := Nat.pow_le_pow_right (by omega) hi
  have hl : m ||| 2 ^ i < 2 ^ 6 := Nat.or_lt_two_pow (by omega) (by omega)
  rw [if_pos (Int.natCast_nonneg _), shl1 (by omega), borN (by omega) (by omega), show (0 : Int) = ((0 : Nat) : Int) from rfl, shlN (by omega), Nat.zero_mul, borN (by omega) (by omega), Nat.or_zero]
theorem impl_known_with_one {m v i : Nat} (hm : m < 32) (hv : v < 32) (hi : i ≤ 5) : impl_known_with.f m v i 1 = some (((m ||| 2 ^ i : Nat) : Int), ((v ||| 2 ^ i : Nat) : Int)) := by
  unfold impl_known_with.f
  have hp : 2 ^ i ≤ 2 ^ 5 := Nat.pow_le_pow_right (by omega) hi
  rw [if_pos (Int.natCast_nonneg _), shl1 (by omega), borN (by omega) (by omega), borN (by omega) (by omega)]

theorem impl_Table_cube_seen_eq {w m v : Nat} (hw : w < 9223372036854775808) (hm : m < 32) (b : Bool) : ∀ N, N ≤ 32 → impl_Table_cube.seen w m v (b2i b) N = seenB w m v b N := by
  intro N
  induction N with
  | zero => intro _; rfl
  | succ N ih =>
    intro hN
    simp only [impl_Table_cube.seen, seenB]
    rw [ih (by omega), bandN (by omega) (by omega), at1 hw, b2i_beq]
    congr 2
    rw [Bool.eq_iff_iff, beq_iff_eq, beq_iff_eq]
    omega
theorem impl_Table_cube_eq {n w m v : Nat} (t : Tab n w) (hm : m < 32) : impl_Table_cube.f n w m v = some (cubeV n w m v) := by
  have hn := t.hn
  have hs := t.size
  unfold impl_Table_cube.f
  rw [if_pos (by omega), Int.toNat_natCast, show (1 : Int) = b2i true from rfl, show (0 : Int) = b2i false from rfl, impl_Table_cube_seen_eq t.w63 hm true _ hs, impl_Table_cube_seen_eq t.w63 hm false _ hs]
  rfl

theorem bit_zero {m i : Nat} (hm : m < 9223372036854775808) : Go.bits .and .i64 (shr .i64 (m : Int) (i : Int)) 1 = 0 ↔ m.testBit i = false := by
  rw [at1 hm]
  cases m.testBit i <;> simp [b2i]
theorem impl_asker_left_fold {n m v d w : Nat} (hn : n ≤ 4) (hm : m < 2 ^ n) (hv : v < 2 ^ n)
    (ih : ∀ i, i < n → opens m i = true → impl_asker_left.f n w d ((m ||| 2 ^ i : Nat) : Int) v = some (askD n w (m ||| 2 ^ i) v) ∧ impl_asker_left.f n w d ((m ||| 2 ^ i : Nat) : Int) ((v ||| 2 ^ i : Nat) : Int) = some (askD n w (m ||| 2 ^ i) (v ||| 2 ^ i))) :
    ∀ i, i ≤ n → impl_asker_left.fold (impl_asker_left.f n w d) m v n i = some (leastI (opens m) (fun i => 1 + mx (askD n w (m ||| 2 ^ i) v) (askD n w (m ||| 2 ^ i) (v ||| 2 ^ i))) n i) := by
  have hp : 2 ^ n ≤ 2 ^ 4 := Nat.pow_le_pow_right (by omega) hn
  intro i
  induction i with
  | zero => intro _; rfl
  | succ i ih2 =>
    intro hi
    rw [impl_asker_left.fold, ih2 (by omega), Option.bind_some]
    simp only [leastI]
    cases hb : m.testBit i with
    | false =>
      have ho := opens_yes.2 hb
      obtain ⟨e0, e1⟩ := ih i (by omega) ho
      have h0 := askD_range n w (m ||| 2 ^ i) v
      have h1 := askD_range n w (m ||| 2 ^ i) (v ||| 2 ^ i)
      have h2 := mx_le h0.2 h1.2
      have h3 := mx_ge (askD n w (m ||| 2 ^ i) v) (askD n w (m ||| 2 ^ i) (v ||| 2 ^ i))
      rw [if_pos ((bit_zero (by omega)).2 hb), if_pos ho, impl_known_with_zero (by omega) (by omega) (by omega), Option.bind_some, e0, Option.bind_some, impl_known_with_one (by omega) (by omega) (by omega), Option.bind_some, e1, Option.bind_some, w64 (by omega) (by omega)]
    | true =>
      rw [if_neg (fun h => by rw [(bit_zero (by omega)).1 h] at hb; exact Bool.noConfusion hb), if_neg (fun h => by rw [opens_yes.1 h] at hb; exact Bool.noConfusion hb)]
theorem impl_asker_left_eq {n w : Nat} (t : Tab n w) (hn : n ≤ 4) : ∀ (d m v : Nat), frees m n < d → m < 2 ^ n → v < 2 ^ n → impl_asker_left.f n w d m v = some (askD n w m v) := by
  have hp : 2 ^ n ≤ 2 ^ 4 := Nat.pow_le_pow_right (by omega) hn
  intro d
  induction d with
  | zero => intro m v h; omega
  | succ d ih =>
    intro m v h hm hv
    rw [impl_asker_left.f, impl_Table_cube_eq t (by omega), Option.bind_some, askD_eq]
    by_cases hc : cubeV n w m v = 2
    · rw [if_pos hc, if_pos hc, Int.toNat_natCast]
      refine impl_asker_left_fold hn hm hv (fun i hi ho => ?_) n (Nat.le_refl _)
      have hf := frees_or hi (opens_yes.1 ho)
      exact ⟨ih _ _ (by omega) (or_lt hm hi) hv, ih _ _ (by omega) (or_lt hm hi) (or_lt hv hi)⟩
    · rw [if_neg hc, if_neg hc]
theorem impl_asker_left_six {n w m v : Nat} (t : Tab n w) (hn : n ≤ 4) (hm : m < 2 ^ n) (hv : v < 2 ^ n) : impl_asker_left.f n w 6 m v = some (askD n w m v) :=
  impl_asker_left_eq t hn 6 m v (by have := frees_le m n; omega) hm hv

theorem spec_l3Cube_ev {n w m x : Nat} (t : Tab n w) (hx : x < 2 ^ n) (hm : m < 32) : Ev (fun k => spec_l3Cube.f k n w m ((x &&& m : Nat) : Int)) (cubeV n w m (x &&& m)) := by
  have hn := t.hn
  have hs := t.size
  unfold spec_l3Cube.f
  have h := ev_for (fun k i => if cubeBoth w m (x &&& m) i = true then some 2 else spec_l3Cube.l0 k m ((x &&& m : Nat) : Int) (cubeOut w m (x &&& m) i) (i : Int) n w) (2 ^ n) (r := cubeV n w m (x &&& m)) ?_ ?_
  · exact h
  · intro i hi h
    by_cases hb : cubeBoth w m (x &&& m) i = true
    · have hb2 : cubeBoth w m (x &&& m) (i + 1) = true := by
        unfold cubeBoth at hb ⊢
        rw [Bool.and_eq_true] at hb
        simp only [seenB]
        rw [hb.1, hb.2]
        rfl
      simp only [if_pos hb2] at h
      simp only [if_pos hb]
      exact h
    · simp only [if_neg hb]
      refine Ev.step (fun k => ?_) h
      simp only [spec_l3Cube.l0]
      rw [if_pos (Int.natCast_nonneg _), shl1 (by omega), if_pos (Int.ofNat_lt.mpr hi), bandN (by omega) (by omega), w64 (by omega) (by omega), at1 t.w63]
      unfold cubeBoth cubeOut at *
      simp only [seenB]
      by_cases he : i &&& m = x &&& m
      · rw [if_pos (by rw [he]), if_pos (Int.natCast_nonneg _)]
        simp only [he, beq_self_eq_true, Bool.true_and]
        cases h1 : seenB w m (x &&& m) true i <;> cases h2 : seenB w m (x &&& m) false i <;> cases h3 : w.testBit i <;> simp_all [b2i]
      · rw [if_neg (by omega)]
        have : (i &&& m == x &&& m) = false := by simpa using he
        simp only [this, Bool.false_and, Bool.or_false]
        rw [if_neg hb]
        rfl
  · by_cases hb : cubeBoth w m (x &&& m) (2 ^ n) = true
    · simp only [if_pos hb]
      rw [cubeV_both hb]
      exact Ev.now _
    · simp only [if_neg hb]
      refine ev0 fun k => ?_
      simp only [spec_l3Cube.l0]
      rw [if_pos (Int.natCast_nonneg _), shl1 (by omega), if_neg (by omega), cubeV_out hx rfl hb]

theorem spec_l7Least_ev {n w : Nat} (t : Tab n w) (hn : n ≤ 4) : ∀ (d m v : Nat), frees m n < d → m < 2 ^ n → v &&& m = v → Ev (fun k => spec_l7Least.f k n w m v) (askD n w m v) := by
  have hp : 2 ^ n ≤ 2 ^ 4 := Nat.pow_le_pow_right (by omega) hn
  intro d
  induction d with
  | zero => intro m v h; omega
  | succ d ih =>
    intro m v h hm hv
    have hv2 := sub_lt hm hv
    have hcube := spec_l3Cube_ev t hv2 (m := m) (by omega)
    rw [hv] at hcube
    by_cases hc : cubeV n w m v = 2
    · refine evs1 hcube (G := fun k => spec_l7Least.l0 k m v 10 0 n w) (fun k hk => ?_) ?_
      · simp only [spec_l7Least.f]
        rw [hk, Option.bind_some, if_neg (by omega)]
      · have hl := ev_for (fun k i => spec_l7Least.l0 k m v (leastI (opens m) (fun i => 1 + mx (askD n w (m ||| 2 ^ i) v) (askD n w (m ||| 2 ^ i) (v ||| 2 ^ i))) 10 i) (i : Int) n w) n (r := askD n w m v) ?_ ?_
        · exact hl
        · intro i hi hE
          have hs : 2 ^ i < 2 ^ n := Nat.pow_lt_pow_right (by omega) hi
          cases hb : m.testBit i with
          | false =>
            have ho := opens_yes.2 hb
            have hf := frees_or hi hb
            have e0 := ih (m ||| 2 ^ i) v (by omega) (or_lt hm hi) (sub_zero hv)
            have e1 := ih (m ||| 2 ^ i) (v ||| 2 ^ i) (by omega) (or_lt hm hi) (sub_one hv)
            have h0 := askD_range n w (m ||| 2 ^ i) v
            have h1 := askD_range n w (m ||| 2 ^ i) (v ||| 2 ^ i)
            have h2 := mx_le h0.2 h1.2
            have h3 := mx_ge (askD n w (m ||| 2 ^ i) v) (askD n w (m ||| 2 ^ i) (v ||| 2 ^ i))
            refine evs2 e0 e1 (fun k k0 k1 => ?_) hE
            simp only [spec_l7Least.l0]
            rw [if_pos (Int.ofNat_lt.mpr hi), if_pos (Int.natCast_nonneg _), shl1 (by omega), bandN (by omega) (by omega), and_pow_no hb, if_pos (show ((0 : Nat) : Int) = 0 from rfl), borN (by omega) (by omega), borN (by omega) (by omega), k0, Option.bind_some, k1, Option.bind_some, w64 (by omega) (by omega), w64 (by omega) (by omega)]
            simp only [leastI]
            rw [if_pos ho]
            rfl
          | true =>
            have hq : ((2 ^ i : Nat) : Int) ≠ 0 := by have := Nat.two_pow_pos i; omega
            refine Ev.step (fun k => ?_) hE
            simp only [spec_l7Least.l0]
            rw [if_pos (Int.ofNat_lt.mpr hi), if_pos (Int.natCast_nonneg _), shl1 (by omega), bandN (by omega) (by omega), and_pow_yes hb, if_neg hq, w64 (by omega) (by omega)]
            simp only [leastI]
            rw [if_neg (fun h => by rw [opens_yes.1 h] at hb; exact Bool.noConfusion hb)]
            rfl
        · refine ev0 fun k => ?_
          simp only [spec_l7Least.l0]
          rw [if_neg (by omega), askD_from (by omega) hc]
    · refine evs1 hcube (G := fun _ => some (askD n w m v)) (fun k hk => ?_) (Ev.now _)
      have := cubeV_range n w m v
      simp only [spec_l7Least.f]
      rw [hk, Option.bind_some, if_pos (by omega), askD_zero hc]
theorem spec_l7Least_six {n w m v : Nat} (t : Tab n w) (hn : n ≤ 4) (hm : m < 2 ^ n) (hv : v &&& m = v) : Ev (fun k => spec_l7Least.f k n w m v) (askD n w m v) :=
  spec_l7Least_ev t hn 6 m v (by have := frees_le m n; omega) hm hv

theorem laws_toTable_eq (b W : Int) : laws_toTable.f b W = some (b, W) := rfl

def letterS (j : Nat) : ByteArray := (⟨#[97, 98, 99, 100, 101]⟩ : ByteArray).extract j (j + 1)
def digitS (c : Int) : ByteArray := (⟨#[48, 49]⟩ : ByteArray).extract c.toNat (c + 1).toNat
/-- The best tree, as a text. -/
def bestS (n w : Nat) : Nat → Nat → Nat → ByteArray
  | 0, _, _ => ⟨#[]⟩
  | d + 1, m, v => if cubeV n w m v = 2 then (letterS (frst n w m v).toNat ++ bestS n w d (m ||| 2 ^ (frst n w m v).toNat) v) ++ bestS n w d (m ||| 2 ^ (frst n w m v).toNat) (v ||| 2 ^ (frst n w m v).toNat) else digitS (cubeV n w m v)
theorem letterS_size {j : Nat} (h : j < 5) : (letterS j).size = 1 := by
  unfold letterS
  rw [ByteArray.size_extract]
  show min (j + 1) 5 - j = 1
  omega
theorem digitS_size {c : Int} (h : c = 0 ∨ c = 1) : (digitS c).size = 1 := by
  unfold digitS
  rw [ByteArray.size_extract]
  show min (c + 1).toNat 2 - c.toNat = 1
  omega
theorem bestS_size {n w : Nat} (hn : n ≤ 4) : ∀ d m v, (bestS n w d m v).size ≤ 2 ^ d - 1 := by
  intro d
  induction d with
  | zero => intro m v; exact Nat.le_refl _
  | succ d ih =>
    intro m v
    have hp := Nat.two_pow_pos d
    rw [Nat.pow_succ]
    simp only [bestS]
    split
    · rename_i hc
      obtain ⟨j, e, hj, _⟩ := frst_some hc
      rw [e, Int.toNat_natCast, ByteArray.size_append, ByteArray.size_append, letterS_size (by omega)]
      have h1 := ih (m ||| 2 ^ j) v
      have h2 := ih (m ||| 2 ^ j) (v ||| 2 ^ j)
      omega
    · rename_i hc
      have := cubeV_range n w m v
      rw [digitS_size (by omega)]
      omega
theorem spec_l7Best_j {k n w m v j : Nat} {need : Int} {x0 x1 : ByteArray} (hn : n ≤ 4) (hm : m < 2 ^ n) (hv : v < 2 ^ n) (hj : j < n) (h0 : spec_l7Best.f k n w ((m ||| 2 ^ j : Nat) : Int) v = some x0) (h1 : spec_l7Best.f k n w ((m ||| 2 ^ j : Nat) : Int) ((v ||| 2 ^ j : Nat) : Int) = some x1) (s0 : x0.size ≤ 64) (s1 : x1.size ≤ 64) :
    spec_l7Best.j1 (k + 1) m v need (j : Int) ((2 ^ j : Nat) : Int) true n w = some ((letterS j ++ x0) ++ x1) := by
  have hp : 2 ^ n ≤ 2 ^ 4 := Nat.pow_le_pow_right (by omega) hn
  have hs : 2 ^ j < 2 ^ n := Nat.pow_lt_pow_right (by omega) hj
  have hL := letterS_size (j := j) (by omega)
  have ew : wrap64 ((j : Int) + 1) = ((j + 1 : Nat) : Int) := by rw [w64 (by omega) (by omega)]; rfl
  have eL : (⟨#[97, 98, 99, 100, 101]⟩ : ByteArray).extract ((j : Int)).toNat (((j + 1 : Nat) : Int)).toNat = letterS j := by rw [Int.toNat_natCast, Int.toNat_natCast]; rfl
  simp only [spec_l7Best.j1, if_true]
  rw [if_pos (Int.natCast_nonneg _), ew, if_pos (by omega), if_pos (by omega), borN (by omega) (by omega), borN (by omega) (by omega), h0, Option.bind_some, eL, hL, if_pos (by omega), h1, Option.bind_some, ByteArray.size_append, hL, if_pos (by omega)]
theorem spec_l7Best_bad {k n w m v i : Nat} {need : Int} (hn : n ≤ 4) (hi : i < n) : spec_l7Best.j1 (k + 1) m v need (i : Int) ((2 ^ i : Nat) : Int) false n w = spec_l7Best.l0 k m v need ((i + 1 : Nat) : Int) n w := by
  simp only [spec_l7Best.j1, Bool.false_eq_true, if_false]
  rw [w64 (by omega) (by omega)]
  rfl
theorem spec_l7Best_open {k n w m v i : Nat} {need a b : Int} (hn : n ≤ 4) (hm : m < 2 ^ n) (hv : v < 2 ^ n) (hi : i < n) (hb : m.testBit i = false) (ha : 0 ≤ a ∧ a ≤ 4) (hb2 : 0 ≤ b ∧ b ≤ 4) (k0 : spec_l7Least.f k n w ((m ||| 2 ^ i : Nat) : Int) v = some a) (k1 : spec_l7Least.f k n w ((m ||| 2 ^ i : Nat) : Int) ((v ||| 2 ^ i : Nat) : Int) = some b) :
    spec_l7Best.l0 (k + 1) m v need (i : Int) n w = spec_l7Best.j1 k m v need (i : Int) ((2 ^ i : Nat) : Int) ((1 + mx a b) == need) n w := by
  have hp : 2 ^ n ≤ 2 ^ 4 := Nat.pow_le_pow_right (by omega) hn
  have hs : 2 ^ i < 2 ^ n := Nat.pow_lt_pow_right (by omega) hi
  have h2 := mx_le (c := 4) ha.2 hb2.2
  have h3 := mx_ge a b
  simp only [spec_l7Best.l0]
  rw [if_pos (by omega), if_pos (Int.natCast_nonneg _), shl1 (by omega), bandN (by omega) (by omega), and_pow_no hb, if_pos (show ((0 : Nat) : Int) = 0 from rfl), borN (by omega) (by omega), borN (by omega) (by omega), k0, Option.bind_some, k1, Option.bind_some, w64 (by omega) (by omega)]
theorem spec_l7Best_shut {k n w m v i : Nat} {need : Int} (hn : n ≤ 4) (hm : m < 2 ^ n) (hi : i < n) (hb : m.testBit i = true) :
    spec_l7Best.l0 (k + 1) m v need (i : Int) n w = spec_l7Best.j1 k m v need (i : Int) ((2 ^ i : Nat) : Int) false n w := by
  have hp : 2 ^ n ≤ 2 ^ 4 := Nat.pow_le_pow_right (by omega) hn
  have hs : 2 ^ i < 2 ^ n := Nat.pow_lt_pow_right (by omega) hi
  have hq : ((2 ^ i : Nat) : Int) ≠ 0 := by have := Nat.two_pow_pos i; omega
  simp only [spec_l7Best.l0]
  rw [if_pos (by omega), if_pos (Int.natCast_nonneg _), shl1 (by omega), bandN (by omega) (by omega), and_pow_yes hb, if_neg hq]
theorem spec_l7Best_ev {n w : Nat} (t : Tab n w) (hn : n ≤ 4) : ∀ (d m v : Nat), d ≤ 6 → frees m n < d → m < 2 ^ n → v &&& m = v → Ev (fun k => spec_l7Best.f k n w m v) (bestS n w d m v) := by
  have hp : 2 ^ n ≤ 2 ^ 4 := Nat.pow_le_pow_right (by omega) hn
  intro d
  induction d with
  | zero => intro m v _ h; omega
  | succ d ih =>
    intro m v hd6 h hm hv
    have hv2 := sub_lt hm hv
    have hcube := spec_l3Cube_ev t hv2 (m := m) (by omega)
    rw [hv] at hcube
    simp only [bestS]
    by_cases hc : cubeV n w m v = 2
    · rw [if_pos hc]
      obtain ⟨j, ej, hj, hg, hbad⟩ := frst_some hc
      rw [ej, Int.toNat_natCast]
      have hneed := spec_l7Least_six t hn hm hv
      refine evs2 hcube hneed (G := fun k => spec_l7Best.l0 k m v (askD n w m v) 0 n w) (fun k hk hk2 => ?_) ?_
      · simp only [spec_l7Best.f]
        rw [hk, Option.bind_some, if_neg (by omega), hk2, Option.bind_some]
      · have hl := ev_for (fun k i => spec_l7Best.l0 k m v (askD n w m v) (i : Int) n w) j (r := (letterS j ++ bestS n w d (m ||| 2 ^ j) v) ++ bestS n w d (m ||| 2 ^ j) (v ||| 2 ^ j)) ?_ ?_
        · exact hl
        · intro i hi hE
          have hin : i < n := by omega
          have hb0 := hbad i hi
          have hE2 := Ev.step (f := fun k => spec_l7Best.l0 k m v (askD n w m v) ((i + 1 : Nat) : Int) n w) (g := fun k => spec_l7Best.j1 k m v (askD n w m v) (i : Int) ((2 ^ i : Nat) : Int) false n w) (fun k => spec_l7Best_bad hn hin) hE
          cases hb : m.testBit i with
          | false =>
            have ho := opens_yes.2 hb
            have e0 := spec_l7Least_six t hn (or_lt hm hin) (sub_zero hv)
            have e1 := spec_l7Least_six t hn (or_lt hm hin) (sub_one hv)
            have h0 := askD_range n w (m ||| 2 ^ i) v
            have h1 := askD_range n w (m ||| 2 ^ i) (v ||| 2 ^ i)
            have hne : ((1 + mx (askD n w (m ||| 2 ^ i) v) (askD n w (m ||| 2 ^ i) (v ||| 2 ^ i))) == askD n w m v) = false := by
              rw [beq_eq_false_iff_ne]
              intro e
              rw [(good_iff hin ho).2 e] at hb0
              exact Bool.noConfusion hb0
            refine evs2 e0 e1 (fun k k0 k1 => ?_) hE2
            rw [spec_l7Best_open hn hm hv2 hin hb ⟨h0.1, by omega⟩ ⟨h1.1, by omega⟩ k0 k1, hne]
          | true => exact Ev.step (fun k => spec_l7Best_shut hn hm hin hb) hE2
        · have ho : opens m j = true := by
            unfold good at hg
            rw [Bool.and_eq_true, Bool.and_eq_true] at hg
            exact hg.1.1
          have hb := opens_yes.1 ho
          have hf := frees_or hj hb
          have e0 := spec_l7Least_six t hn (or_lt hm hj) (sub_zero hv)
          have e1 := spec_l7Least_six t hn (or_lt hm hj) (sub_one hv)
          have h0 := askD_range n w (m ||| 2 ^ j) v
          have h1 := askD_range n w (m ||| 2 ^ j) (v ||| 2 ^ j)
          have hyes : ((1 + mx (askD n w (m ||| 2 ^ j) v) (askD n w (m ||| 2 ^ j) (v ||| 2 ^ j))) == askD n w m v) = true := by
            rw [beq_iff_eq]
            exact (good_iff hj ho).1 hg
          have b0 := ih (m ||| 2 ^ j) v (by omega) (by omega) (or_lt hm hj) (sub_zero hv)
          have b1 := ih (m ||| 2 ^ j) (v ||| 2 ^ j) (by omega) (by omega) (or_lt hm hj) (sub_one hv)
          have s0 := bestS_size (w := w) hn d (m ||| 2 ^ j) v
          have s1 := bestS_size (w := w) hn d (m ||| 2 ^ j) (v ||| 2 ^ j)
          have hpd : 2 ^ d ≤ 2 ^ 6 := Nat.pow_le_pow_right (by omega) (by omega)
          refine evs2 e0 e1 (G := fun k => spec_l7Best.j1 k m v (askD n w m v) (j : Int) ((2 ^ j : Nat) : Int) true n w) (fun k k0 k1 => ?_) ?_
          · rw [spec_l7Best_open hn hm hv2 hj hb ⟨h0.1, by omega⟩ ⟨h1.1, by omega⟩ k0 k1, hyes]
          · exact evs2 b0 b1 (G := fun _ => some ((letterS j ++ bestS n w d (m ||| 2 ^ j) v) ++ bestS n w d (m ||| 2 ^ j) (v ||| 2 ^ j))) (fun k k0 k1 => spec_l7Best_j hn hm hv2 hj k0 k1 (by omega) (by omega)) (Ev.now _)
    · rw [if_neg hc]
      refine evs1 hcube (G := fun _ => some (digitS (cubeV n w m v))) (fun k hk => ?_) (Ev.now _)
      simp only [spec_l7Best.f]
      rw [hk, Option.bind_some, if_pos (by have := cubeV_range n w m v; omega)]
      have hr := cubeV_range n w m v
      rw [w64 (by omega) (by omega), if_pos (by omega), if_pos (by omega), if_pos (by omega)]
      rfl

theorem impl_asker_first_l {n w m v : Nat} (t : Tab n w) (hn : n ≤ 4) (hm : m < 2 ^ n) (hv : v < 2 ^ n) : ∀ d i, i + d = n → impl_asker_first.l n w m v (askD n w m v) d i = some (firstG n w m v d i) := by
  have hp : 2 ^ n ≤ 2 ^ 4 := Nat.pow_le_pow_right (by omega) hn
  intro d
  induction d with
  | zero => intro i _; rfl
  | succ d ih =>
    intro i hi
    have h0 := askD_range n w (m ||| 2 ^ i) v
    simp only [impl_asker_first.l, firstG]
    rw [ih (i + 1) (by omega)]
    by_cases h1 : 0 < askD n w m v
    · rw [if_pos h1]
      cases hb : m.testBit i with
      | false =>
        have ho := opens_yes.2 hb
        rw [if_pos ((bit_zero (by omega)).2 hb), impl_known_with_zero (by omega) (by omega) (by omega), Option.bind_some, impl_asker_left_six t hn (or_lt hm (by omega)) hv, Option.bind_some]
        by_cases hx : askD n w (m ||| 2 ^ i) v < askD n w m v
        · rw [if_pos hx, impl_known_with_one (by omega) (by omega) (by omega), Option.bind_some, impl_asker_left_six t hn (or_lt hm (by omega)) (or_lt hv (by omega)), Option.bind_some]
          by_cases hy : askD n w (m ||| 2 ^ i) (v ||| 2 ^ i) < askD n w m v
          · rw [if_pos hy, if_pos (by unfold good; rw [ho, decide_eq_true hx, decide_eq_true hy]; rfl)]
          · rw [if_neg hy, if_neg (by unfold good; rw [decide_eq_false hy, Bool.and_false]; decide)]
        · rw [if_neg hx, if_neg (by unfold good; rw [decide_eq_false hx, Bool.and_false, Bool.false_and]; decide)]
      | true =>
        rw [if_neg (fun h => by rw [(bit_zero (by omega)).1 h] at hb; exact Bool.noConfusion hb), if_neg (by unfold good opens; rw [hb]; simp)]
    · rw [if_neg h1, if_neg (by unfold good; rw [decide_eq_false (by omega : ¬ askD n w (m ||| 2 ^ i) v < askD n w m v), Bool.and_false, Bool.false_and]; decide)]
theorem impl_asker_first_eq {n w m v : Nat} (t : Tab n w) (hn : n ≤ 4) (hm : m < 2 ^ n) (hv : v < 2 ^ n) : impl_asker_first.f n w m v = some (frst n w m v) := by
  unfold impl_asker_first.f
  rw [impl_asker_left_six t hn hm hv, Option.bind_some, Int.toNat_natCast]
  exact impl_asker_first_l t hn hm hv n 0 (by omega)

theorem small_yes {b W : Int} (h : (isTab b W && decide (b ≤ 4)) = true) : ∃ n w : Nat, b = n ∧ W = w ∧ Tab n w ∧ n ≤ 4 := by
  rw [Bool.and_eq_true, decide_eq_true_eq] at h
  obtain ⟨n, w, rfl, rfl, t⟩ := isTab_yes h.1
  exact ⟨n, w, rfl, rfl, t, by omega⟩
theorem letter_eq {j : Nat} (h : j < 5) : strOfNums [IntKind.u8.wrap (97 + IntKind.u8.wrap (j : Int))] = letterS j := by
  rcases (by omega : j = 0 ∨ j = 1 ∨ j = 2 ∨ j = 3 ∨ j = 4) with rfl | rfl | rfl | rfl | rfl <;> rfl
theorem digit_eq {c : Int} (h : c = 0 ∨ c = 1) : impl_FormatInt.f c = some (digitS c) := by
  rcases h with rfl | rfl <;> rfl
theorem impl_asker_best_eq {n w : Nat} (t : Tab n w) (hn : n ≤ 4) : ∀ (d m v : Nat), d ≤ 6 → frees m n < d → m < 2 ^ n → v &&& m = v → impl_asker_best.f n w d m v = some (bestS n w d m v) := by
  have hp : 2 ^ n ≤ 2 ^ 4 := Nat.pow_le_pow_right (by omega) hn
  intro d
  induction d with
  | zero => intro m v _ h; omega
  | succ d ih =>
    intro m v hd6 h hm hv
    have hv2 := sub_lt hm hv
    rw [impl_asker_best.f, impl_asker_first_eq t hn hm hv2, Option.bind_some, bestS]
    by_cases hc : cubeV n w m v = 2
    · rw [if_pos hc]
      obtain ⟨j, ej, hj, hg, hbad⟩ := frst_some hc
      have ho : opens m j = true := by
        unfold good at hg
        rw [Bool.and_eq_true, Bool.and_eq_true] at hg
        exact hg.1.1
      have hb := opens_yes.1 ho
      have hf := frees_or hj hb
      have b0 := ih (m ||| 2 ^ j) v (by omega) (by omega) (or_lt hm hj) (sub_zero hv)
      have b1 := ih (m ||| 2 ^ j) (v ||| 2 ^ j) (by omega) (by omega) (or_lt hm hj) (sub_one hv)
      have s0 := bestS_size (w := w) hn d (m ||| 2 ^ j) v
      have s1 := bestS_size (w := w) hn d (m ||| 2 ^ j) (v ||| 2 ^ j)
      have hd : 2 ^ d ≤ 2 ^ 6 := Nat.pow_le_pow_right (by omega) (by omega)
      rw [ej, Int.toNat_natCast, if_neg (by omega), if_pos (by omega), impl_known_with_zero (by omega) (by omega) (by omega), Option.bind_some, b0, Option.bind_some, impl_known_with_one (by omega) (by omega) (by omega), Option.bind_some, b1, Option.bind_some, if_pos ⟨by omega, by omega⟩, letter_eq (by omega)]
    · rw [if_neg hc, frst_none hc, if_pos (by omega), impl_Table_cube_eq t (by omega), Option.bind_some]
      exact digit_eq (by have := cubeV_range n w m v; omega)
theorem FnExactBestTree (b W : Int) (hb : (Lit.int .i64 b).wf = true) (hW : (Lit.int .i64 W).wf = true) : ∃ k, laws_FnExactBestTree.f k b W = some true := by
  have key : ∃ r, Ev (fun k => spec_BestTree.f k b W) r ∧ impl_BestTree.f b W = some r := by
    unfold spec_BestTree.f impl_BestTree.f
    simp only [spec_IsTable_eq, impl_isSmall_eq, Option.bind_some]
    by_cases h : (isTab b W && decide (b ≤ 4)) = true
    · obtain ⟨n, w, rfl, rfl, t, hn⟩ := small_yes h
      have h0 : frees 0 n < 6 := by have := frees_le 0 n; omega
      have hz : (0 : Nat) &&& 0 = 0 := rfl
      have e := impl_asker_best_eq t hn 6 0 0 (by omega) h0 (Nat.two_pow_pos n) hz
      have ev := spec_l7Best_ev t hn 6 0 0 (by omega) h0 (Nat.two_pow_pos n) hz
      rw [show ((0 : Nat) : Int) = 0 from rfl] at e ev
      refine ⟨(bestS n w 6 0 0, true), ?_, by rw [if_pos h, e, Option.bind_some]⟩
      simp only [isTab_mk t, if_true, if_neg (show ¬ (n : Int) > 4 by omega)]
      exact ev1' ev fun k hk => by rw [hk]; rfl
    · refine ⟨(⟨#[]⟩, false), ?_, by rw [if_neg h]⟩
      rw [Bool.and_eq_true] at h
      by_cases h1 : isTab b W = true
      · have h2 : b > 4 := Int.not_le.mp fun h2 => h ⟨h1, decide_eq_true h2⟩
        simp only [h1, if_true, if_pos h2]
        exact Ev.now _
      · simp only [if_neg h1]
        exact Ev.now _
  obtain ⟨r, h1, h2⟩ := key
  refine Ev.rounds ?_
  unfold laws_FnExactBestTree.f
  simp only [laws_toTable_eq, Option.bind_some, h2]
  exact ev1' h1 fun k hk => by rw [hk]; simp

end Go.Proofs.YtfpcgcmajdebmaaDoor.Pure
