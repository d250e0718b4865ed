/- What the law FnExactLeastAverage comes to, over numbers and lists alone: at every input both sides tell the same. No conditions but the kinds of the numbers. -/
import Derived.Test.YtkipjpfkdkkpdaaMath
import Derived.Test.YtkipjpfkdkkpdaaCub
import Derived.Test.YtkipjpfkdkkpdaaHad
import Derived.Test.YtkipjpfkdkkpdaaPop
import Derived.Test.YtkipjpfkdkkpdaaQue
import Derived.Test.YtkipjpfkdkkpdaaPx1
import Derived.Test.YtkipjpfkdkkpdaaPx2
import Derived.Test.YtkipjpfkdkkpdaaPx20
import Derived.Test.YtkipjpfkdkkpdaaPx21
import Derived.Test.YtkipjpfkdkkpdaaPx22
import Derived.Test.YtkipjpfkdkkpdaaPx23
import Derived.Test.YtkipjpfkdkkpdaaPx35
import Derived.Test.YtkipjpfkdkkpdaaPx5
import Derived.Test.YtkipjpfkdkkpdaaPx6
import Derived.Test.YtkipjpfkdkkpdaaPx7
import Derived.Test.YtkipjpfkdkkpdaaPx8
namespace Go.Proofs.Ytkipjpfkdkkpdaa.Pure
open Go.RowKit Go.Proofs.Ytkipjpfkdkkpdaa.P Go.Proofs.YtkipjpfkdkkpdaaW.PrintWords Go.Proofs.YtkipjpfkdkkpdaaW.PrintLast Go.Proofs.YtkipjpfkdkkpdaaW.PrintMore Go.Proofs.YtkipjpfkdkkpdaaMath
set_option linter.unusedVariables false
set_option linter.unusedSimpArgs false

theorem spec_IsTable_eq (b W : Int) : spec_IsTable.f b W = some (isTab b W) := rfl

theorem impl_isBits_eq (b : Int) : impl_isBits.f b = some (decide (0 ≤ b ∧ b ≤ 5)) := by
  unfold impl_isBits.f
  by_cases h : b ≥ 0
  · rw [if_pos h]; simp [show 0 ≤ b from h]
  · rw [if_neg h]; simp [show ¬ 0 ≤ b from h]

theorem impl_Table_size_eq {n : Nat} (h : n ≤ 62) (W : Int) : impl_Table_size.f n W = some ((2 ^ n : Nat) : Int) := by
  unfold impl_Table_size.f
  rw [if_pos (Int.natCast_nonneg _), shl1 h]

theorem impl_IsTable_eq (b W : Int) : impl_IsTable.f b W = some (isTab b W) := by
  unfold impl_IsTable.f
  rw [impl_isBits_eq, Option.bind_some]
  by_cases h : 0 ≤ b ∧ b ≤ 5
  · obtain ⟨n, rfl⟩ := Int.eq_ofNat_of_zero_le h.1
    rw [if_pos (decide_eq_true h)]
    by_cases h2 : W ≥ 0
    · rw [if_pos h2]
      obtain ⟨w, rfl⟩ := Int.eq_ofNat_of_zero_le h2
      have hp : 2 ^ n ≤ 2 ^ 5 := Nat.pow_le_pow_right (by omega) (by omega)
      rw [impl_Table_size_eq (by omega), Option.bind_some, if_pos (Int.natCast_nonneg _), shrS (by omega)]
      congr 1
      unfold isTab
      rw [Bool.eq_iff_iff, decide_eq_true_iff, beq_iff_eq, Int.toNat_natCast]
      have e : ((2 : Int) ^ 2 ^ n) = ((2 ^ 2 ^ n : Nat) : Int) := by push_cast; rfl
      rw [e]
      have hd : w / 2 ^ 2 ^ n = 0 ↔ w < 2 ^ 2 ^ n := by rw [Nat.div_eq_zero_iff]; have := Nat.two_pow_pos (2 ^ n); omega
      constructor
      · intro h3
        have := hd.1 (by omega)
        omega
      · rintro ⟨_, _, _, h4⟩
        have := hd.2 (by omega)
        omega
    · rw [if_neg h2, show isTab n W = false from decide_eq_false fun h3 => h2 h3.2.2.1]
  · rw [if_neg (by rw [decide_eq_false h]; decide), show isTab b W = false from decide_eq_false fun h3 => h ⟨h3.1, h3.2.1⟩]

theorem impl_isSmall_eq (b W a : Int) : impl_isSmall.f b W a = some (isTab b W && decide (b ≤ a)) := by
  unfold impl_isSmall.f
  rw [impl_IsTable_eq, Option.bind_some]
  cases isTab b W <;> rfl

theorem and_pow (m i : Nat) : m &&& 2 ^ i = if m.testBit i = true then 2 ^ i else 0 := by
  apply Nat.eq_of_testBit_eq
  intro j
  rw [Nat.testBit_and, Nat.testBit_two_pow]
  by_cases h : i = j
  · subst h
    cases hb : m.testBit i <;> simp
  · rw [decide_eq_false h, Bool.and_false]
    split
    · rw [Nat.testBit_two_pow, decide_eq_false h]
    · rw [Nat.zero_testBit]
theorem and_pow_no {m i : Nat} (h : m.testBit i = false) : m &&& 2 ^ i = 0 := by rw [and_pow, h]; rfl
theorem and_pow_yes {m i : Nat} (h : m.testBit i = true) : m &&& 2 ^ i = 2 ^ i := by rw [and_pow, h]; rfl
theorem impl_known_with_zero {m v i : Nat} (hm : m < 32) (hv : v < 32) (hi : i ≤ 5) : impl_known_with.f m v i 0 = some (((m ||| 2 ^ i : Nat) : Int), (v : Int)) := by
  unfold impl_known_with.f
  have hp : 2 ^ i ≤ 2 ^ 5 := Nat.pow_le_pow_right (by omega) hi
  have hl : m ||| 2 ^ i < 2 ^ 6 := Nat.or_lt_two_pow (by omega) (by omega)
  rw [if_pos (Int.natCast_nonneg _), shl1 (by omega), borN (by omega) (by omega), show (0 : Int) = ((0 : Nat) : Int) from rfl, shlN (by omega), Nat.zero_mul, borN (by omega) (by omega), Nat.or_zero]
theorem impl_known_with_one {m v i : Nat} (hm : m < 32) (hv : v < 32) (hi : i ≤ 5) : impl_known_with.f m v i 1 = some (((m ||| 2 ^ i : Nat) : Int), ((v ||| 2 ^ i : Nat) : Int)) := by
  unfold impl_known_with.f
  have hp : 2 ^ i ≤ 2 ^ 5 := Nat.pow_le_pow_right (by omega) hi
  rw [if_pos (Int.natCast_nonneg _), shl1 (by omega), borN (by omega) (by omega), borN (by omega) (by omega)]

theorem impl_Table_cube_seen_eq {w m v : Nat} (hw : w < 9223372036854775808) (hm : m < 32) (b : Bool) : ∀ N, N ≤ 32 → impl_Table_cube.seen w m v (b2i b) N = seenB w m v b N := by
  intro N
  induction N with
  | zero => intro _; rfl
  | succ N ih =>
    intro hN
    simp only [impl_Table_cube.seen, seenB]
    rw [ih (by omega), bandN (by omega) (by omega), at1 hw, b2i_beq]
    congr 2
    rw [Bool.eq_iff_iff, beq_iff_eq, beq_iff_eq]
    omega
theorem impl_Table_cube_eq {n w m v : Nat} (t : Tab n w) (hm : m < 32) : impl_Table_cube.f n w m v = some (cubeV n w m v) := by
  have hn := t.hn
  have hs := t.size
  unfold impl_Table_cube.f
  rw [if_pos (by omega), Int.toNat_natCast, show (1 : Int) = b2i true from rfl, show (0 : Int) = b2i false from rfl, impl_Table_cube_seen_eq t.w63 hm true _ hs, impl_Table_cube_seen_eq t.w63 hm false _ hs]
  rfl

theorem bit_zero {m i : Nat} (hm : m < 9223372036854775808) : Go.bits .and .i64 (shr .i64 (m : Int) (i : Int)) 1 = 0 ↔ m.testBit i = false := by
  rw [at1 hm]
  cases m.testBit i <;> simp [b2i]
theorem impl_asker_left_fold {n m v d w : Nat} (hn : n ≤ 4) (hm : m < 2 ^ n) (hv : v < 2 ^ n)
    (ih : ∀ i, i < n → opens m i = true → impl_asker_left.f n w d ((m ||| 2 ^ i : Nat) : Int) v = some (askD n w (m ||| 2 ^ i) v) ∧ impl_asker_left.f n w d ((m ||| 2 ^ i : Nat) : Int) ((v ||| 2 ^ i : Nat) : Int) = some (askD n w (m ||| 2 ^ i) (v ||| 2 ^ i))) :
    ∀ i, i ≤ n → impl_asker_left.fold (impl_asker_left.f n w d) m v n i = some (leastI (opens m) (fun i => 1 + mx (askD n w (m ||| 2 ^ i) v) (askD n w (m ||| 2 ^ i) (v ||| 2 ^ i))) n i) := by
  have hp : 2 ^ n ≤ 2 ^ 4 := Nat.pow_le_pow_right (by omega) hn
  intro i
  induction i with
  | zero => intro _; rfl
  | succ i ih2 =>
    intro hi
    rw [impl_asker_left.fold, ih2 (by omega), Option.bind_some]
    simp only [leastI]
    cases hb : m.testBit i with
    | false =>
      have ho := opens_yes.2 hb
      obtain ⟨e0, e1⟩ := ih i (by omega) ho
      have h0 := askD_range n w (m ||| 2 ^ i) v
      have h1 := askD_range n w (m ||| 2 ^ i) (v ||| 2 ^ i)
      have h2 := mx_le h0.2 h1.2
      have h3 := mx_ge (askD n w (m ||| 2 ^ i) v) (askD n w (m ||| 2 ^ i) (v ||| 2 ^ i))
      rw [if_pos ((bit_zero (by omega)).2 hb), if_pos ho, impl_known_with_zero (by omega) (by omega) (by omega), Option.bind_some, e0, Option.bind_some, impl_known_with_one (by omega) (by omega) (by omega), Option.bind_some, e1, Option.bind_some, w64 (by omega) (by omega)]
    | true =>
      rw [if_neg (fun h => by rw [(bit_zero (by omega)).1 h] at hb; exact Bool.noConfusion hb), if_neg (fun h => by rw [opens_yes.1 h] at hb; exact Bool.noConfusion hb)]
theorem impl_asker_left_eq {n w : Nat} (t : Tab n w) (hn : n ≤ 4) : ∀ (d m v : Nat), frees m n < d → m < 2 ^ n → v < 2 ^ n → impl_asker_left.f n w d m v = some (askD n w m v) := by
  have hp : 2 ^ n ≤ 2 ^ 4 := Nat.pow_le_pow_right (by omega) hn
  intro d
  induction d with
  | zero => intro m v h; omega
  | succ d ih =>
    intro m v h hm hv
    rw [impl_asker_left.f, impl_Table_cube_eq t (by omega), Option.bind_some, askD_eq]
    by_cases hc : cubeV n w m v = 2
    · rw [if_pos hc, if_pos hc, Int.toNat_natCast]
      refine impl_asker_left_fold hn hm hv (fun i hi ho => ?_) n (Nat.le_refl _)
      have hf := frees_or hi (opens_yes.1 ho)
      exact ⟨ih _ _ (by omega) (or_lt hm hi) hv, ih _ _ (by omega) (or_lt hm hi) (or_lt hv hi)⟩
    · rw [if_neg hc, if_neg hc]
theorem impl_asker_left_six {n w m v : Nat} (t : Tab n w) (hn : n ≤ 4) (hm : m < 2 ^ n) (hv : v < 2 ^ n) : impl_asker_left.f n w 6 m v = some (askD n w m v) :=
  impl_asker_left_eq t hn 6 m v (by have := frees_le m n; omega) hm hv

theorem bits_OnesCount64_eq {a : Nat} (h : a < 4294967296) : bits_OnesCount64.f a = some ((pc a : Nat) : Int) := by
  obtain ⟨c0, c1, c2, c3, g0, g1, g2, g3, hv, hp, l1, l2⟩ := n123 h
  have e1 : IntKind.u64.wrap ((Go.bits .and .u64 ((a : Int) / 2) 6148914691236517205) + (Go.bits .and .u64 (a : Int) 6148914691236517205)) = ((n1 a : Nat) : Int) := by
    rw [show (a : Int) / 2 = ((a / 2 : Nat) : Int) by omega, show (6148914691236517205 : Int) = ((6148914691236517205 : Nat) : Int) from rfl, uand (by omega) (by omega), uand (by omega) (by omega), ← Int.natCast_add]
    exact uwrap (by unfold n1 at l1; omega)
  have e2 : IntKind.u64.wrap ((Go.bits .and .u64 (((n1 a : Nat) : Int) / 4) 3689348814741910323) + (Go.bits .and .u64 ((n1 a : Nat) : Int) 3689348814741910323)) = ((n2 (n1 a) : Nat) : Int) := by
    rw [show ((n1 a : Nat) : Int) / 4 = ((n1 a / 4 : Nat) : Int) by omega, show (3689348814741910323 : Int) = ((3689348814741910323 : Nat) : Int) from rfl, uand (by omega) (by omega), uand (by omega) (by omega), ← Int.natCast_add]
    exact uwrap (by unfold n2 at l2; omega)
  have e3 : Go.bits .and .u64 (IntKind.u64.wrap ((((n2 (n1 a) : Nat) : Int) / 16) + ((n2 (n1 a) : Nat) : Int))) 1085102592571150095 = ((n3 (n2 (n1 a)) : Nat) : Int) := by
    rw [show ((n2 (n1 a) : Nat) : Int) / 16 = ((n2 (n1 a) / 16 : Nat) : Int) by omega, ← Int.natCast_add, uwrap (by omega), show (1085102592571150095 : Int) = ((1085102592571150095 : Nat) : Int) from rfl, uand (by omega) (by omega)]
    rfl
  unfold bits_OnesCount64.f
  rw [e1, e2, e3, hv]
  rw [fold4 g0 g1 g2 g3, fold5 g0 g1 g2 g3, fold6 g0 g1 g2 g3, fold7 g0 g1 g2 g3, hp]

theorem impl_ones_eq {a : Nat} (h : a < 4294967296) : impl_ones.f a = some ((pc a : Nat) : Int) := by
  unfold impl_ones.f
  rw [uwrap (by omega), bits_OnesCount64_eq h, Option.bind_some]

theorem frees_pc {m n : Nat} (hn : n ≤ 4) (hm : m < 2 ^ n) : frees m n + pc m = n := by
  have h : ∀ n, n < 5 → ∀ m, m < 2 ^ n → frees m n + pc m = n := by decide
  exact h n (by omega) m hm
theorem impl_asker_all_fold {n m v d w : Nat} (hn : n ≤ 4) (hm : m < 2 ^ n) (hv : v < 2 ^ n)
    (ih : ∀ i, i < n → opens m i = true → impl_asker_all.f n w d ((m ||| 2 ^ i : Nat) : Int) v = some (avg n w (m ||| 2 ^ i) v) ∧ impl_asker_all.f n w d ((m ||| 2 ^ i : Nat) : Int) ((v ||| 2 ^ i : Nat) : Int) = some (avg n w (m ||| 2 ^ i) (v ||| 2 ^ i))) :
    ∀ i, i ≤ n → impl_asker_all.fold (impl_asker_all.f n w d) m v ((2 ^ frees m n : Nat) : Int) (((2 ^ frees m n : Nat) : Int) * n) i = some (leastI (opens m) (avgS n w m v) (((2 ^ frees m n : Nat) : Int) * n) i) := by
  have hp : 2 ^ n ≤ 2 ^ 4 := Nat.pow_le_pow_right (by omega) hn
  have hq : 2 ^ frees m n ≤ 2 ^ 4 := Nat.pow_le_pow_right (by omega) (by have := frees_le m n; omega)
  intro i
  induction i with
  | zero => intro _; rfl
  | succ i ih2 =>
    intro hi
    rw [impl_asker_all.fold, ih2 (by omega), Option.bind_some]
    simp only [leastI]
    cases hb : m.testBit i with
    | false =>
      have ho := opens_yes.2 hb
      obtain ⟨e0, e1⟩ := ih i (by omega) ho
      have h0 := avg_range hn w (m ||| 2 ^ i) v
      have h1 := avg_range hn w (m ||| 2 ^ i) (v ||| 2 ^ i)
      have hq0 := Nat.two_pow_pos (frees m n)
      rw [if_pos ((bit_zero (by omega)).2 hb), if_pos ho, impl_known_with_zero (by omega) (by omega) (by omega), Option.bind_some, e0, Option.bind_some, impl_known_with_one (by omega) (by omega) (by omega), Option.bind_some, e1, Option.bind_some, w64 (x := ((2 ^ frees m n : Nat) : Int) + _) (by omega) (by omega), w64 (by omega) (by omega)]
      rfl
    | true =>
      rw [if_neg (fun h => by rw [(bit_zero (by omega)).1 h] at hb; exact Bool.noConfusion hb), if_neg (fun h => by rw [opens_yes.1 h] at hb; exact Bool.noConfusion hb)]
theorem impl_asker_all_eq {n w : Nat} (t : Tab n w) (hn : n ≤ 4) : ∀ (d m v : Nat), frees m n < d → m < 2 ^ n → v < 2 ^ n → impl_asker_all.f n w d m v = some (avg n w m v) := by
  have hp : 2 ^ n ≤ 2 ^ 4 := Nat.pow_le_pow_right (by omega) hn
  intro d
  induction d with
  | zero => intro m v h; omega
  | succ d ih =>
    intro m v h hm hv
    rw [impl_asker_all.f, impl_Table_cube_eq t (by omega), Option.bind_some, avg_eq]
    by_cases hc : cubeV n w m v = 2
    · have hf := frees_pc hn hm
      have hl := frees_le m n
      have h64 := pow_mul_le hl hn
      have e1 : ((2 ^ frees m n : Nat) : Int) * (n : Int) = ((2 ^ frees m n * n : Nat) : Int) := by push_cast; rfl
      rw [if_pos hc, if_pos hc, impl_ones_eq (by omega), Option.bind_some, Int.toNat_natCast, show wrap64 ((n : Int) - (pc m : Nat)) = ((frees m n : Nat) : Int) by rw [w64 (by omega) (by omega)]; omega, if_pos (Int.natCast_nonneg _), shl1 (by omega), w64 (by omega) (by omega)]
      refine impl_asker_all_fold hn hm hv (fun i hi ho => ?_) n (Nat.le_refl _)
      have hf := frees_or hi (opens_yes.1 ho)
      exact ⟨ih _ _ (by omega) (or_lt hm hi) hv, ih _ _ (by omega) (or_lt hm hi) (or_lt hv hi)⟩
    · rw [if_neg hc, if_neg hc]

theorem spec_l3Cube_ev {n w m x : Nat} (t : Tab n w) (hx : x < 2 ^ n) (hm : m < 32) : Ev (fun k => spec_l3Cube.f k n w m ((x &&& m : Nat) : Int)) (cubeV n w m (x &&& m)) := by
  have hn := t.hn
  have hs := t.size
  unfold spec_l3Cube.f
  have h := ev_for (fun k i => if cubeBoth w m (x &&& m) i = true then some 2 else spec_l3Cube.l0 k m ((x &&& m : Nat) : Int) (cubeOut w m (x &&& m) i) (i : Int) n w) (2 ^ n) (r := cubeV n w m (x &&& m)) ?_ ?_
  · exact h
  · intro i hi h
    by_cases hb : cubeBoth w m (x &&& m) i = true
    · have hb2 : cubeBoth w m (x &&& m) (i + 1) = true := by
        unfold cubeBoth at hb ⊢
        rw [Bool.and_eq_true] at hb
        simp only [seenB]
        rw [hb.1, hb.2]
        rfl
      simp only [if_pos hb2] at h
      simp only [if_pos hb]
      exact h
    · simp only [if_neg hb]
      refine Ev.step (fun k => ?_) h
      simp only [spec_l3Cube.l0]
      rw [if_pos (Int.natCast_nonneg _), shl1 (by omega), if_pos (Int.ofNat_lt.mpr hi), bandN (by omega) (by omega), w64 (by omega) (by omega), at1 t.w63]
      unfold cubeBoth cubeOut at *
      simp only [seenB]
      by_cases he : i &&& m = x &&& m
      · rw [if_pos (by rw [he]), if_pos (Int.natCast_nonneg _)]
        simp only [he, beq_self_eq_true, Bool.true_and]
        cases h1 : seenB w m (x &&& m) true i <;> cases h2 : seenB w m (x &&& m) false i <;> cases h3 : w.testBit i <;> simp_all [b2i]
      · rw [if_neg (by omega)]
        have : (i &&& m == x &&& m) = false := by simpa using he
        simp only [this, Bool.false_and, Bool.or_false]
        rw [if_neg hb]
        rfl
  · by_cases hb : cubeBoth w m (x &&& m) (2 ^ n) = true
    · simp only [if_pos hb]
      rw [cubeV_both hb]
      exact Ev.now _
    · simp only [if_neg hb]
      refine ev0 fun k => ?_
      simp only [spec_l3Cube.l0]
      rw [if_pos (Int.natCast_nonneg _), shl1 (by omega), if_neg (by omega), cubeV_out hx rfl hb]

theorem spec_l7Average_ev {n w : Nat} (t : Tab n w) (hn : n ≤ 4) : ∀ (d m v : Nat), frees m n < d → m < 2 ^ n → v &&& m = v → Ev (fun k => spec_l7Average.f k n w m v ((frees m n : Nat) : Int)) (avg n w m v) := by
  have hp : 2 ^ n ≤ 2 ^ 4 := Nat.pow_le_pow_right (by omega) hn
  intro d
  induction d with
  | zero => intro m v h; omega
  | succ d ih =>
    intro m v h hm hv
    have hv2 := sub_lt hm hv
    have hcube := spec_l3Cube_ev t hv2 (m := m) (by omega)
    rw [hv] at hcube
    by_cases hc : cubeV n w m v = 2
    · refine evs1 hcube (G := fun k => spec_l7Average.l0 k m v ((frees m n : Nat) : Int) 1000 0 n w) (fun k hk => ?_) ?_
      · simp only [spec_l7Average.f]
        rw [hk, Option.bind_some, if_neg (by omega)]
      · have hl := ev_for (fun k i => spec_l7Average.l0 k m v ((frees m n : Nat) : Int) (leastI (opens m) (avgS n w m v) 1000 i) (i : Int) n w) n (r := avg n w m v) ?_ ?_
        · exact hl
        · intro i hi hE
          have hs : 2 ^ i < 2 ^ n := Nat.pow_lt_pow_right (by omega) hi
          have hl := frees_le m n
          have hq : 2 ^ frees m n ≤ 2 ^ 4 := Nat.pow_le_pow_right (by omega) (by omega)
          cases hb : m.testBit i with
          | false =>
            have ho := opens_yes.2 hb
            have hf := frees_or hi hb
            have e0 := ih (m ||| 2 ^ i) v (by omega) (or_lt hm hi) (sub_zero hv)
            have e1 := ih (m ||| 2 ^ i) (v ||| 2 ^ i) (by omega) (or_lt hm hi) (sub_one hv)
            have h0 := avg_range hn w (m ||| 2 ^ i) v
            have h1 := avg_range hn w (m ||| 2 ^ i) (v ||| 2 ^ i)
            have hq0 := Nat.two_pow_pos (frees m n)
            refine evs2 e0 e1 (fun k k0 k1 => ?_) hE
            simp only [spec_l7Average.l0]
            rw [if_pos (Int.ofNat_lt.mpr hi), if_pos (Int.natCast_nonneg _), shl1 (n := i) (by omega), bandN (by omega) (by omega), and_pow_no hb, if_pos (show ((0 : Nat) : Int) = 0 from rfl), if_pos (Int.natCast_nonneg _), borN (by omega) (by omega), borN (by omega) (by omega), show wrap64 (((frees m n : Nat) : Int) - 1) = ((frees (m ||| 2 ^ i) n : Nat) : Int) by rw [w64 (by omega) (by omega)]; omega, k0, Option.bind_some, k1, Option.bind_some, shl1 (by omega), w64 (x := ((2 ^ frees m n : Nat) : Int) + _) (by omega) (by omega), w64 (x := _ + avg n w (m ||| 2 ^ i) (v ||| 2 ^ i)) (by omega) (by omega), w64 (by omega) (by omega)]
            simp only [leastI]
            rw [if_pos ho]
            rfl
          | true =>
            have hq : ((2 ^ i : Nat) : Int) ≠ 0 := by have := Nat.two_pow_pos i; omega
            refine Ev.step (fun k => ?_) hE
            simp only [spec_l7Average.l0]
            rw [if_pos (Int.ofNat_lt.mpr hi), if_pos (Int.natCast_nonneg _), shl1 (n := i) (by omega), bandN (by omega) (by omega), and_pow_yes hb, if_neg hq, w64 (by omega) (by omega)]
            simp only [leastI]
            rw [if_neg (fun h => by rw [opens_yes.1 h] at hb; exact Bool.noConfusion hb)]
            rfl
        · refine ev0 fun k => ?_
          simp only [spec_l7Average.l0]
          rw [if_neg (by omega), avg_from hn (by omega) hc]
    · refine evs1 hcube (G := fun _ => some (avg n w m v)) (fun k hk => ?_) (Ev.now _)
      have := cubeV_range n w m v
      simp only [spec_l7Average.f]
      rw [hk, Option.bind_some, if_pos (by omega), avg_eq, if_neg hc]

theorem laws_toTable_eq (b W : Int) : laws_toTable.f b W = some (b, W) := rfl

theorem small_yes {b W : Int} (h : (isTab b W && decide (b ≤ 4)) = true) : ∃ n w : Nat, b = n ∧ W = w ∧ Tab n w ∧ n ≤ 4 := by
  rw [Bool.and_eq_true, decide_eq_true_eq] at h
  obtain ⟨n, w, rfl, rfl, t⟩ := isTab_yes h.1
  exact ⟨n, w, rfl, rfl, t, by omega⟩
theorem frees_zero (n : Nat) : frees 0 n = n := by
  induction n with
  | zero => rfl
  | succ n ih => simp only [frees]; rw [Nat.zero_testBit, ih]; rfl
theorem FnExactLeastAverage (b W : Int) (hb : (Lit.int .i64 b).wf = true) (hW : (Lit.int .i64 W).wf = true) : ∃ k, laws_FnExactLeastAverage.f k b W = some true := by
  have key : ∃ r, Ev (fun k => spec_LeastAverage.f k b W) r ∧ impl_LeastAverage.f b W = some r := by
    unfold spec_LeastAverage.f impl_LeastAverage.f
    simp only [spec_IsTable_eq, impl_isSmall_eq, Option.bind_some]
    by_cases h : (isTab b W && decide (b ≤ 4)) = true
    · obtain ⟨n, w, rfl, rfl, t, hn⟩ := small_yes h
      simp only [h, if_true]
      refine ⟨avg n w 0 0, ?_, impl_asker_all_eq (m := 0) (v := 0) t hn 6 (by rw [frees_zero]; omega) (Nat.two_pow_pos n) (Nat.two_pow_pos n)⟩
      simp only [isTab_mk t, if_true, if_neg (show ¬ (n : Int) > 4 by omega)]
      have := spec_l7Average_ev (m := 0) (v := 0) t hn 6 (by rw [frees_zero]; omega) (Nat.two_pow_pos n) rfl
      rw [frees_zero] at this
      exact ev1' this fun k hk => by rw [show ((0 : Nat) : Int) = 0 from rfl] at hk; rw [hk]; rfl
    · refine ⟨-1, ?_, by rw [if_neg h]⟩
      rw [Bool.and_eq_true] at h
      by_cases h1 : isTab b W = true
      · have h2 : b > 4 := by
          apply Int.lt_of_not_ge
          intro h2
          exact h ⟨h1, decide_eq_true h2⟩
        simp only [h1, if_true, if_pos h2]
        exact Ev.now _
      · simp only [if_neg h1]
        exact Ev.now _
  obtain ⟨r, h1, h2⟩ := key
  refine Ev.rounds ?_
  unfold laws_FnExactLeastAverage.f
  simp only [laws_toTable_eq, Option.bind_some, h2]
  exact ev1' h1 fun k hk => by rw [hk]; simp

end Go.Proofs.Ytkipjpfkdkkpdaa.Pure
