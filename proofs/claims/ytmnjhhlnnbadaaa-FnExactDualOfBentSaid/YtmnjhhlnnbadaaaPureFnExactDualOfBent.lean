/- What the law FnExactDualOfBent comes to, over numbers and lists alone: at every input both sides tell the same. No conditions but the kinds of the numbers. -/
import Derived.Test.YtmnjhhlnnbadaaaMath
import Derived.Test.YtmnjhhlnnbadaaaCof
import Derived.Test.YtmnjhhlnnbadaaaPop
import Derived.Test.YtmnjhhlnnbadaaaWrd
import Derived.Test.YtmnjhhlnnbadaaaPx1
import Derived.Test.YtmnjhhlnnbadaaaPx17
import Derived.Test.YtmnjhhlnnbadaaaPx18
import Derived.Test.YtmnjhhlnnbadaaaPx19
import Derived.Test.YtmnjhhlnnbadaaaPx20
import Derived.Test.YtmnjhhlnnbadaaaPx21
import Derived.Test.YtmnjhhlnnbadaaaPx22
import Derived.Test.YtmnjhhlnnbadaaaPx3
import Derived.Test.YtmnjhhlnnbadaaaPx4
import Derived.Test.YtmnjhhlnnbadaaaPx41
import Derived.Test.YtmnjhhlnnbadaaaPx6
namespace Go.Proofs.Ytmnjhhlnnbadaaa.Pure
open Go.RowKit Go.Proofs.Ytmnjhhlnnbadaaa.P Go.Proofs.YtmnjhhlnnbadaaaW.PrintWords Go.Proofs.YtmnjhhlnnbadaaaW.PrintLast Go.Proofs.YtmnjhhlnnbadaaaW.PrintMore Go.Proofs.YtmnjhhlnnbadaaaMath
set_option linter.unusedVariables false
set_option linter.unusedSimpArgs false

theorem spec_IsTable_eq (b W : Int) : spec_IsTable.f b W = some (isTab b W) := rfl

theorem spec_l2Count_l (j : Nat) : ∀ (x : Nat) (s : Nat), j ≤ 32 → x < 2 ^ j → s + j ≤ 64 → Ev (fun k => spec_l2Count.l0 k s x) ((s + pcf j x : Nat) : Int) := by
  induction j with
  | zero =>
    intro x s _ h _
    obtain rfl : x = 0 := by simpa using h
    refine ev0 fun k => ?_
    simp only [spec_l2Count.l0]
    rw [if_neg (by omega)]
    rfl
  | succ j ih =>
    intro x s hj h hs
    have hp : 2 ^ (j + 1) ≤ 2 ^ 32 := Nat.pow_le_pow_right (by omega) hj
    by_cases hx : x = 0
    · subst hx
      refine ev0 fun k => ?_
      simp only [spec_l2Count.l0]
      rw [if_neg (by omega), pcf_zero]
      rfl
    · have := ih (x / 2) (s + x % 2) (by omega) (by rw [Nat.pow_succ] at h; omega) (by omega)
      simp only [pcf]
      rw [← Nat.add_assoc]
      refine Ev.step (fun k => ?_) this
      simp only [spec_l2Count.l0]
      rw [if_pos (by omega), show (1 : Int) = ((1 : Nat) : Int) from rfl, bandN (by omega) (by omega), Nat.and_one_is_mod, ← Int.natCast_add, w64 (by omega) (by omega)]
      rfl
theorem spec_l2Count_ev {x : Nat} (h : x < 4294967296) : Ev (fun k => spec_l2Count.f k x) ((pc x : Nat) : Int) := by
  have := spec_l2Count_l 32 x 0 (by omega) (by omega) (by omega)
  rw [Nat.zero_add] at this
  exact this

theorem spec_l12Sign_ev {x : Nat} (h : x < 4294967296) : Ev (fun k => spec_l12Sign.f k x) (chi (par x)) := by
  unfold spec_l12Sign.f
  refine ev1' (spec_l2Count_ev h) fun k hk => ?_
  rw [hk, Option.bind_some, Int.tmod_eq_emod_of_nonneg (Int.natCast_nonneg _)]
  unfold par chi
  by_cases e : pc x % 2 = 1
  · rw [if_pos (by omega), if_pos (by rw [e]; rfl)]
  · rw [if_neg (by omega), if_neg (by simpa using e)]
theorem par0 : par 0 = false := by decide
theorem par1 : par 1 = true := by decide
theorem spec_l12Sign_bit (b : Bool) : Ev (fun k => spec_l12Sign.f k (b2i b)) (chi b) := by
  cases b
  · have := spec_l12Sign_ev (x := 0) (by omega)
    rw [par0] at this
    exact this
  · have := spec_l12Sign_ev (x := 1) (by omega)
    rw [par1] at this
    exact this

theorem spec_SpectrumOf_no {b W : Int} (h : ¬ isTab b W = true) : Ev (fun k => spec_SpectrumOf.f k b W) [] := by
  unfold spec_SpectrumOf.f
  refine Ev.step (f := fun k => spec_SpectrumOf.j1 k [] 0 false b W) (fun k => ?_) (ev0 fun k => ?_)
  · simp only [spec_SpectrumOf.l0, spec_IsTable_eq, Option.bind_some, if_neg h]
  · simp only [spec_SpectrumOf.j1, Bool.false_eq_true, if_false]
theorem spec_SpectrumOf_ev {n w : Nat} (t : Tab n w) : Ev (fun k => spec_SpectrumOf.f k n w) (tab (2 ^ n) (spW n w)) := by
  have hn := t.hn
  have hs := t.size
  unfold spec_SpectrumOf.f
  refine ev_for (fun k u => spec_SpectrumOf.l0 k (tab u (spW n w)) (u : Int) n w) (2 ^ n) ?_ ?_
  · intro u hu h
    refine Ev.step (f := fun k => spec_SpectrumOf.j1 k (tab u (spW n w)) (u : Int) true n w) (fun k => ?_) (Ev.step (f := fun k => spec_SpectrumOf.l1 k (tab u (spW n w)) (u : Int) 0 0 n w) (fun k => ?_) ?_)
    · simp only [spec_SpectrumOf.l0, spec_IsTable_eq, Option.bind_some, isTab_mk t, if_true]
      rw [if_pos (Int.natCast_nonneg _), shl1 (by omega), decide_eq_true (Int.ofNat_lt.mpr hu)]
    · simp only [spec_SpectrumOf.j1, if_true]
    refine ev_for (fun k x => spec_SpectrumOf.l1 k (tab u (spW n w)) (u : Int) (sumI x fun x => chi (w.testBit x != par (u &&& x))) (x : Int) n w) (2 ^ n) ?_ ?_
    · intro x hx h
      have hux : u &&& x ≤ u := Nat.and_le_left
      obtain ⟨K, hK⟩ := ev_two (spec_l12Sign_bit (w.testBit x)) (spec_l12Sign_ev (x := u &&& x) (by omega))
      obtain ⟨L, hL⟩ := h
      refine ⟨K + L + 1, fun k hk => ?_⟩
      obtain ⟨m, rfl⟩ : ∃ m, k = m + 1 := ⟨k - 1, by omega⟩
      obtain ⟨g1, g2⟩ := hK m (by omega)
      have hb := sumI_abs (n := x) (f := fun x => chi (w.testBit x != par (u &&& x))) fun _ _ => chi_range _
      have hc := chi_range (w.testBit x != par (u &&& x))
      refine Eq.trans ?_ (hL m (by omega))
      simp only [spec_SpectrumOf.l1]
      rw [if_pos (Int.natCast_nonneg _), shl1 (by omega), if_pos (Int.ofNat_lt.mpr hx), if_pos (Int.natCast_nonneg _), at1 t.w63, g1, Option.bind_some, bandN (by omega) (by omega), g2, Option.bind_some, chi_mul, w64 (x := chi _) (by omega) (by omega), w64 (by omega) (by omega), w64 (by omega) (by omega)]
      rfl
    · refine Ev.step (fun k => ?_) h
      simp only [spec_SpectrumOf.l1]
      rw [if_pos (Int.natCast_nonneg _), shl1 (by omega), if_neg (by omega), if_pos (by rw [tab_len]; omega), tab_succ, w64 (by omega) (by omega)]
      rfl
  · refine Ev.step (f := fun k => spec_SpectrumOf.j1 k (tab (2 ^ n) (spW n w)) ((2 ^ n : Nat) : Int) false n w) (fun k => ?_) (ev0 fun k => ?_)
    · simp only [spec_SpectrumOf.l0, spec_IsTable_eq, Option.bind_some, isTab_mk t, if_true]
      rw [if_pos (Int.natCast_nonneg _), shl1 (by omega), decide_eq_false (by omega)]
    · simp only [spec_SpectrumOf.j1, Bool.false_eq_true, if_false]

theorem impl_isBits_eq (b : Int) : impl_isBits.f b = some (decide (0 ≤ b ∧ b ≤ 5)) := by
  unfold impl_isBits.f
  by_cases h : b ≥ 0
  · rw [if_pos h]; simp [show 0 ≤ b from h]
  · rw [if_neg h]; simp [show ¬ 0 ≤ b from h]

theorem impl_Table_size_eq {n : Nat} (h : n ≤ 62) (W : Int) : impl_Table_size.f n W = some ((2 ^ n : Nat) : Int) := by
  unfold impl_Table_size.f
  rw [if_pos (Int.natCast_nonneg _), shl1 h]

theorem impl_IsTable_eq (b W : Int) : impl_IsTable.f b W = some (isTab b W) := by
  unfold impl_IsTable.f
  rw [impl_isBits_eq, Option.bind_some]
  by_cases h : 0 ≤ b ∧ b ≤ 5
  · obtain ⟨n, rfl⟩ := Int.eq_ofNat_of_zero_le h.1
    rw [if_pos (decide_eq_true h)]
    by_cases h2 : W ≥ 0
    · rw [if_pos h2]
      obtain ⟨w, rfl⟩ := Int.eq_ofNat_of_zero_le h2
      have hp : 2 ^ n ≤ 2 ^ 5 := Nat.pow_le_pow_right (by omega) (by omega)
      rw [impl_Table_size_eq (by omega), Option.bind_some, if_pos (Int.natCast_nonneg _), shrS (by omega)]
      congr 1
      unfold isTab
      rw [Bool.eq_iff_iff, decide_eq_true_iff, beq_iff_eq, Int.toNat_natCast]
      have e : ((2 : Int) ^ 2 ^ n) = ((2 ^ 2 ^ n : Nat) : Int) := by push_cast; rfl
      rw [e]
      have hd : w / 2 ^ 2 ^ n = 0 ↔ w < 2 ^ 2 ^ n := by rw [Nat.div_eq_zero_iff]; have := Nat.two_pow_pos (2 ^ n); omega
      constructor
      · intro h3
        have := hd.1 (by omega)
        omega
      · rintro ⟨_, _, _, h4⟩
        have := hd.2 (by omega)
        omega
    · rw [if_neg h2, show isTab n W = false from decide_eq_false fun h3 => h2 h3.2.2.1]
  · rw [if_neg (by rw [decide_eq_false h]; decide), show isTab b W = false from decide_eq_false fun h3 => h ⟨h3.1, h3.2.1⟩]

theorem impl_Table_at_eq {n w : Nat} (t : Tab n w) (x : Nat) : impl_Table_at.f n w x = some (b2i (w.testBit x)) := by
  unfold impl_Table_at.f
  rw [if_pos (Int.natCast_nonneg _), at1 t.w63]

theorem impl_sign_eq {a : Nat} (h : a < 4294967296) : impl_sign.f a = some (chi (a % 2 == 1)) := by
  unfold impl_sign.f
  rw [show Go.bits .and .i64 (a : Int) 1 = ((a % 2 : Nat) : Int) by rw [show (1 : Int) = ((1 : Nat) : Int) from rfl, bandN (by omega) (by omega), Nat.and_one_is_mod], w64 (x := 2 * _) (by omega) (by omega), w64 (by omega) (by omega)]
  rcases (by omega : a % 2 = 0 ∨ a % 2 = 1) with e | e <;> rw [e] <;> rfl
theorem impl_sign_bits (a b : Bool) : impl_sign.f (wrap64 (b2i a + b2i b)) = some (chi (a != b)) := by
  have e : wrap64 (b2i a + b2i b) = ((a.toNat + b.toNat : Nat) : Int) := by
    have := b2i_range a
    have := b2i_range b
    rw [w64 (by omega) (by omega)]
    cases a <;> cases b <;> rfl
  rw [e, impl_sign_eq (by cases a <;> cases b <;> decide)]
  cases a <;> cases b <;> rfl
theorem odd_add (a : Bool) (p : Nat) : ((a.toNat + p) % 2 == 1) = (a != (p % 2 == 1)) := by
  rcases (by omega : p % 2 = 0 ∨ p % 2 = 1) with h | h
  · rw [h]
    cases a
    · rw [show (false.toNat + p) % 2 = 0 by rw [show false.toNat = 0 from rfl]; omega]
      rfl
    · rw [show (true.toNat + p) % 2 = 1 by rw [show true.toNat = 1 from rfl]; omega]
      rfl
  · rw [h]
    cases a
    · rw [show (false.toNat + p) % 2 = 1 by rw [show false.toNat = 0 from rfl]; omega]
      rfl
    · rw [show (true.toNat + p) % 2 = 0 by rw [show true.toNat = 1 from rfl]; omega]
      rfl
theorem impl_sign_num (a : Bool) (p : Nat) (hp : p ≤ 32) : impl_sign.f (wrap64 (b2i a + ((p : Nat) : Int))) = some (chi (a != (p % 2 == 1))) := by
  have e : wrap64 (b2i a + (p : Int)) = ((a.toNat + p : Nat) : Int) := by
    have := b2i_range a
    rw [w64 (by omega) (by omega)]
    cases a
    · simp [b2i]
    · simp [b2i]
  have ha : a.toNat ≤ 1 := by cases a <;> decide
  rw [e, impl_sign_eq (by omega), odd_add]
theorem impl_sign_par (a : Bool) (x : Nat) : impl_sign.f (wrap64 (b2i a + ((pc x : Nat) : Int))) = some (chi (a != par x)) := impl_sign_num a (pc x) (pc_le x)

theorem bits_OnesCount64_eq {a : Nat} (h : a < 4294967296) : bits_OnesCount64.f a = some ((pc a : Nat) : Int) := by
  obtain ⟨c0, c1, c2, c3, g0, g1, g2, g3, hv, hp, l1, l2⟩ := n123 h
  have e1 : IntKind.u64.wrap ((Go.bits .and .u64 ((a : Int) / 2) 6148914691236517205) + (Go.bits .and .u64 (a : Int) 6148914691236517205)) = ((n1 a : Nat) : Int) := by
    rw [show (a : Int) / 2 = ((a / 2 : Nat) : Int) by omega, show (6148914691236517205 : Int) = ((6148914691236517205 : Nat) : Int) from rfl, uand (by omega) (by omega), uand (by omega) (by omega), ← Int.natCast_add]
    exact uwrap (by unfold n1 at l1; omega)
  have e2 : IntKind.u64.wrap ((Go.bits .and .u64 (((n1 a : Nat) : Int) / 4) 3689348814741910323) + (Go.bits .and .u64 ((n1 a : Nat) : Int) 3689348814741910323)) = ((n2 (n1 a) : Nat) : Int) := by
    rw [show ((n1 a : Nat) : Int) / 4 = ((n1 a / 4 : Nat) : Int) by omega, show (3689348814741910323 : Int) = ((3689348814741910323 : Nat) : Int) from rfl, uand (by omega) (by omega), uand (by omega) (by omega), ← Int.natCast_add]
    exact uwrap (by unfold n2 at l2; omega)
  have e3 : Go.bits .and .u64 (IntKind.u64.wrap ((((n2 (n1 a) : Nat) : Int) / 16) + ((n2 (n1 a) : Nat) : Int))) 1085102592571150095 = ((n3 (n2 (n1 a)) : Nat) : Int) := by
    rw [show ((n2 (n1 a) : Nat) : Int) / 16 = ((n2 (n1 a) / 16 : Nat) : Int) by omega, ← Int.natCast_add, uwrap (by omega), show (1085102592571150095 : Int) = ((1085102592571150095 : Nat) : Int) from rfl, uand (by omega) (by omega)]
    rfl
  unfold bits_OnesCount64.f
  rw [e1, e2, e3, hv]
  rw [fold4 g0 g1 g2 g3, fold5 g0 g1 g2 g3, fold6 g0 g1 g2 g3, fold7 g0 g1 g2 g3, hp]

theorem impl_ones_eq {a : Nat} (h : a < 4294967296) : impl_ones.f a = some ((pc a : Nat) : Int) := by
  unfold impl_ones.f
  rw [uwrap (by omega), bits_OnesCount64_eq h, Option.bind_some]

theorem impl_Table_spectrum_ev {n w : Nat} (t : Tab n w) : Ev (fun k => impl_Table_spectrum.f k n w) (tab (2 ^ n) (spW n w)) := by
  have hn := t.hn
  have hs := t.size
  unfold impl_Table_spectrum.f
  simp only [impl_Table_size_eq (show n ≤ 62 by omega), Option.bind_some, Int.toNat_natCast]
  simp only [if_pos (Int.natCast_nonneg (2 ^ n)), if_pos (show 2 ^ n ≤ 35184372088832 by omega), List.length_replicate]
  have e0 := rwS_zero (2 ^ n) (spW n w)
  rw [← e0]
  refine ev_for (fun k u => impl_Table_spectrum.l0 k (rwS (2 ^ n) u (spW n w)) ((2 ^ n : Nat) : Int) (u : Int) n w) (2 ^ n) ?_ ?_
  · intro u hu h
    refine Ev.step (f := fun k => impl_Table_spectrum.l1 k (rwAt (2 ^ n) u (spW n w) 0) (u : Int) ((2 ^ n : Nat) : Int) (u : Int) ((2 ^ n : Nat) : Int) 0 n w) (fun k => ?_) ?_
    · simp only [impl_Table_spectrum.l0]
      rw [if_pos (Int.ofNat_lt.mpr hu), impl_Table_size_eq (by omega), Option.bind_some, rwS_at _ hu]
    refine ev_for (fun k x => impl_Table_spectrum.l1 k (rwAt (2 ^ n) u (spW n w) (sumI x fun x => chi (w.testBit x != par (u &&& x)))) (u : Int) ((2 ^ n : Nat) : Int) (u : Int) ((2 ^ n : Nat) : Int) (x : Int) n w) (2 ^ n) ?_ ?_
    · intro x hx h
      refine Ev.step (fun k => ?_) h
      have hux : u &&& x ≤ u := Nat.and_le_left
      have hb := sumI_abs (n := x) (f := fun x => chi (w.testBit x != par (u &&& x))) fun _ _ => chi_range _
      have hc := chi_range (w.testBit x != par (u &&& x))
      simp only [impl_Table_spectrum.l1]
      rw [if_pos (Int.ofNat_lt.mpr hx), if_pos (Int.natCast_nonneg _), rwAt_len _ _ hu, if_pos (Int.ofNat_lt.mpr hu), impl_Table_at_eq t, Option.bind_some, bandN (by omega) (by omega), impl_ones_eq (by omega), Option.bind_some, impl_sign_par, Option.bind_some, rwAt_rd, Int.toNat_natCast, rwAt_set, w64 (by omega) (by omega), w64 (by omega) (by omega)]
      rfl
    · refine Ev.step (fun k => ?_) h
      simp only [impl_Table_spectrum.l1]
      rw [if_neg (by omega), w64 (by omega) (by omega), show (sumI (2 ^ n) fun x => chi (w.testBit x != par (u &&& x))) = spW n w u from rfl, rwAt_next _ hu]
      rfl
  · refine ev0 fun k => ?_
    simp only [impl_Table_spectrum.l0]
    rw [if_neg (by omega), rwS_full]

theorem size1_val {x : Int} (h0 : -1000000 ≤ x) (h1 : x ≤ 1000000) : impl_IsBent.size1 x = mx x (-x) := by
  unfold impl_IsBent.size1
  rw [w64 (by omega) (by omega)]
theorem abs_sq {x y : Int} (hx : -32 ≤ x ∧ x ≤ 32) (hy : -32 ≤ y ∧ y ≤ 32) : (mx x (-x) != mx y (-y)) = !decide (x * x = y * y) := by
  have key : mx x (-x) = mx y (-y) ↔ x * x = y * y := by
    constructor
    · intro h
      have : x = y ∨ x = -y := by
        unfold mx at h
        split at h <;> split at h <;> omega
      rcases this with rfl | rfl
      · rfl
      · rw [Int.neg_mul_neg]
    · intro h
      have : (x - y) * (x + y) = 0 := by
        rw [Int.sub_mul, Int.mul_add, Int.mul_add, Int.mul_comm y x]
        omega
      rcases Int.mul_eq_zero.mp this with h | h
      · rw [show x = y by omega]
      · rw [show x = -y by omega]
        unfold mx
        split <;> split <;> omega
  by_cases h : x * x = y * y
  · rw [decide_eq_true h, key.mpr h]; simp
  · rw [decide_eq_false h]
    simp only [Bool.not_false, bne_iff_ne]
    exact fun e => h (key.mp e)
/-- Are all squares of a spectrum alike? -/
def flat (n w : Nat) : Nat → Bool
  | 0 => true
  | u + 1 => flat n w u && decide (spW n w u * spW n w u = spW n w 0 * spW n w 0)
theorem flat_any {n w : Nat} (hn : n ≤ 5) : ∀ N, N ≤ 2 ^ n → slices_IndexFunc.any (impl_IsBent.on (tab (2 ^ n) (spW n w))) (tab (2 ^ n) (spW n w)) N = !flat n w N := by
  intro N
  have h2 := Nat.two_pow_pos n
  induction N with
  | zero => intro _; rfl
  | succ N ih =>
    intro hN
    simp only [slices_IndexFunc.any, flat]
    rw [ih (by omega), tab_rd _ (by omega)]
    unfold impl_IsBent.on
    have h0 := spW32 hn w 0
    have hN := spW32 hn w N
    rw [show rd (tab (2 ^ n) (spW n w)) 0 = spW n w 0 from tab_rd (i := 0) _ h2, size1_val (by omega) (by omega), size1_val (by omega) (by omega), abs_sq hN h0, Bool.not_and]
def isBent (n w : Nat) : Bool := (n == 2 || n == 4) && flat n w (2 ^ n)
theorem impl_IsBent_ev {n w : Nat} (t : Tab n w) : Ev (fun k => impl_IsBent.f k n w) (isBent n w) := by
  have hn := t.hn
  have hs := t.size
  have h2 := Nat.two_pow_pos n
  unfold impl_IsBent.f isBent
  simp only [impl_IsTable_eq, isTab_mk t, Option.bind_some, if_true]
  by_cases h : n = 2 ∨ n = 4
  · have h' : (n : Int) = 2 ∨ (n : Int) = 4 := by omega
    simp only [if_pos h']
    refine ev1' (impl_Table_spectrum_ev t) fun k hk => ?_
    rw [hk, Option.bind_some, tab_len, if_pos ⟨h2, hs⟩, flat_any hn _ (Nat.le_refl _), Bool.not_not]
    rcases h with rfl | rfl <;> rfl
  · have h' : ¬ ((n : Int) = 2 ∨ (n : Int) = 4) := by omega
    simp only [if_neg h']
    have : (n == 2 || n == 4) = false := by simpa using h
    rw [this]
    exact Ev.now _
theorem impl_IsBent_no {b W : Int} (h : ¬ isTab b W = true) : Ev (fun k => impl_IsBent.f k b W) false := by
  unfold impl_IsBent.f
  simp only [impl_IsTable_eq, Option.bind_some, if_neg h]
  exact Ev.now _
theorem spec_IsBent_ev {n w : Nat} (t : Tab n w) : Ev (fun k => spec_IsBent.f k n w) (isBent n w) := by
  have hn := t.hn
  have hs := t.size
  have h2 := Nat.two_pow_pos n
  unfold spec_IsBent.f isBent
  refine ev1 (spec_SpectrumOf_ev t) (G := fun k => spec_IsBent.l0 k (tab (2 ^ n) (spW n w)) 1 n w) (fun k hk => by rw [hk]; rfl) ?_
  have h := ev_from (fun k u => if flat n w u = true then spec_IsBent.l0 k (tab (2 ^ n) (spW n w)) (u : Int) n w else some false) 1 (2 ^ n) (by omega) (r := (n == 2 || n == 4) && flat n w (2 ^ n)) ?_ ?_
  · have h1 : flat n w 1 = true := by simp [flat]
    simp only [h1, if_true] at h
    exact h
  · intro u h0 hu h
    simp only [flat] at h
    by_cases hp : flat n w u = true
    · simp only [hp, if_true, Bool.true_and] at h ⊢
      refine Ev.step (fun k => ?_) h
      have b0 := sq_range (spW32 hn w 0)
      have bu := sq_range (spW32 hn w u)
      simp only [spec_IsBent.l0]
      rw [tab_len, if_pos (by omega), if_pos (by omega), if_pos (by omega), tab_rd _ hu, show rd (tab (2 ^ n) (spW n w)) 0 = spW n w 0 from tab_rd (i := 0) _ h2, w64 (x := spW n w u * _) (by omega) (by omega), w64 (x := spW n w 0 * _) (by omega) (by omega), w64 (by omega) (by omega)]
      by_cases e : spW n w u * spW n w u = spW n w 0 * spW n w 0
      · rw [if_pos e, if_pos (decide_eq_true e)]
        rfl
      · rw [if_neg e, if_neg (by rw [decide_eq_false e]; decide)]
    · simp only [hp, Bool.false_eq_true, if_false, Bool.false_and] at h ⊢
      exact h
  · by_cases hp : flat n w (2 ^ n) = true
    · simp only [hp, if_true, Bool.and_true]
      refine ev0 fun k => ?_
      simp only [spec_IsBent.l0]
      rw [tab_len, if_neg (by omega), spec_IsTable_eq, Option.bind_some, if_pos (isTab_mk t)]
      by_cases e : n = 2
      · subst e; rfl
      · rw [if_neg (by omega)]
        congr 1
        rw [Bool.eq_iff_iff, beq_iff_eq, Bool.or_eq_true, beq_iff_eq, beq_iff_eq]
        omega
    · simp only [hp, Bool.false_eq_true, if_false, Bool.and_false]
      exact Ev.now _
theorem spec_IsBent_no {b W : Int} (h : ¬ isTab b W = true) : Ev (fun k => spec_IsBent.f k b W) false := by
  unfold spec_IsBent.f
  refine ev1 (spec_SpectrumOf_no h) (G := fun k => spec_IsBent.l0 k [] 1 b W) (fun k hk => by rw [hk]; rfl) (ev0 fun k => ?_)
  simp only [spec_IsBent.l0]
  rw [if_neg (by simp), spec_IsTable_eq, Option.bind_some, if_neg h]

theorem impl_makeTable_word_eq (g : Nat → Bool) : ∀ N, N ≤ 32 → impl_makeTable.word g N = ((wordN g N : Nat) : Int) := by
  intro N
  induction N with
  | zero => intro _; rfl
  | succ N ih =>
    intro hN
    simp only [impl_makeTable.word]
    rw [ih (by omega)]
    by_cases hg : g N = true
    · rw [if_pos hg, wordN_or (by omega) hg]
    · rw [if_neg hg]
      simp only [wordN]
      rw [if_neg hg]

theorem laws_toTable_eq (b W : Int) : laws_toTable.f b W = some (b, W) := rfl

theorem laws_eqTable_same (b W : Int) : laws_eqTable.f b W b W = some true := by
  unfold laws_eqTable.f
  rw [if_pos rfl, if_pos rfl]

def dualW (n w : Nat) : Nat := wordN (fun u => decide (spW n w u < 0)) (2 ^ n)
theorem impl_DualOfBent_ev {n w : Nat} (t : Tab n w) (h : isBent n w = true) : Ev (fun k => impl_DualOfBent.f k n w) ((n : Int), ((dualW n w : Nat) : Int), true) := by
  have hn := t.hn
  have hs := t.size
  unfold impl_DualOfBent.f
  refine ev1 (impl_IsBent_ev t) (G := fun k => (impl_Table_spectrum.f k n w).bind fun c => if (0 ≤ (n : Int) ∧ (n : Int) ≤ 5) ∧ c.length = 2 ^ (n : Int).toNat then some ((n : Int), impl_makeTable.word (fun u => decide (rd c (u : Int) < 0)) (2 ^ (n : Int).toNat), true) else none) (fun k hk => by rw [hk, Option.bind_some, if_pos h]) ?_
  refine ev1' (impl_Table_spectrum_ev t) fun k hk => ?_
  rw [hk, Option.bind_some, if_pos ⟨by omega, by rw [tab_len, Int.toNat_natCast]⟩, Int.toNat_natCast, impl_makeTable_word_eq _ _ hs]
  unfold dualW
  rw [wordN_congr fun u hu => by rw [tab_rd _ hu]]
theorem spec_DualOfBent_ev {n w : Nat} (t : Tab n w) (h : isBent n w = true) : Ev (fun k => spec_DualOfBent.f k n w) ((n : Int), ((dualW n w : Nat) : Int), true) := by
  have hn := t.hn
  have hs := t.size
  unfold spec_DualOfBent.f dualW
  refine ev1 (spec_IsBent_ev t) (G := fun k => (spec_SpectrumOf.f k n w).bind fun c => spec_DualOfBent.l0 k c 0 0 n w) (fun k hk => by rw [hk, Option.bind_some, if_pos h]) ?_
  refine ev1 (spec_SpectrumOf_ev t) (G := fun k => spec_DualOfBent.l0 k (tab (2 ^ n) (spW n w)) 0 0 n w) (fun k hk => by rw [hk]; rfl) ?_
  refine ev_for (fun k u => spec_DualOfBent.l0 k (tab (2 ^ n) (spW n w)) ((wordN (fun u => decide (spW n w u < 0)) u : Nat) : Int) (u : Int) n w) (2 ^ n) ?_ ?_
  · intro u hu h
    refine Ev.step (fun k => ?_) h
    simp only [spec_DualOfBent.l0]
    have hst := wordN_step (g := fun u => decide (spW n w u < 0)) (x := u) (by omega)
    rw [tab_len, if_pos (Int.ofNat_lt.mpr hu), if_pos (Int.natCast_nonneg _), tab_rd _ hu, w64 (by omega) (by omega)]
    by_cases e : spW n w u < 0
    · rw [decide_eq_true e] at hst
      rw [if_pos e, show (1 : Int) = b2i true from rfl, hst]
      rfl
    · rw [if_neg e]
      simp only [wordN]
      rw [if_neg (by rw [decide_eq_false e]; decide)]
      rfl
  · refine ev0 fun k => ?_
    simp only [spec_DualOfBent.l0]
    rw [tab_len, if_neg (by omega)]
theorem FnExactDualOfBent (b W : Int) (hb : (Lit.int .i64 b).wf = true) (hW : (Lit.int .i64 W).wf = true) : ∃ k, laws_FnExactDualOfBent.f k b W = some true := by
  have no : ∀ {b W : Int}, Ev (fun k => spec_IsBent.f k b W) false → Ev (fun k => impl_IsBent.f k b W) false → Ev (fun k => spec_DualOfBent.f k b W) (0, 0, false) ∧ Ev (fun k => impl_DualOfBent.f k b W) (0, 0, false) := by
    intro b W h1 h2
    unfold spec_DualOfBent.f impl_DualOfBent.f
    exact ⟨ev1' h1 fun k hk => by rw [hk]; rfl, ev1' h2 fun k hk => by rw [hk]; rfl⟩
  have key : ∃ r, Ev (fun k => spec_DualOfBent.f k b W) r ∧ Ev (fun k => impl_DualOfBent.f k b W) r := by
    by_cases h : isTab b W = true
    · obtain ⟨n, w, rfl, rfl, t⟩ := isTab_yes h
      by_cases hbt : isBent n w = true
      · exact ⟨_, spec_DualOfBent_ev t hbt, impl_DualOfBent_ev t hbt⟩
      · have e := Bool.eq_false_iff.mpr hbt
        exact ⟨_, no (ev_eq (spec_IsBent_ev t) e) (ev_eq (impl_IsBent_ev t) e)⟩
    · exact ⟨_, no (spec_IsBent_no h) (impl_IsBent_no h)⟩
  obtain ⟨r, h1, h2⟩ := key
  refine Ev.rounds ?_
  unfold laws_FnExactDualOfBent.f
  simp only [laws_toTable_eq, Option.bind_some]
  refine ev1 h1 (G := fun k => (impl_DualOfBent.f k b W).bind fun t => (laws_eqTable.f t.1 t.2.1 r.1 r.2.1).bind fun q => if q = true then (if (t.2.2 != r.2.2) = true then some false else some true) else some false) (fun k hk => by rw [hk]; rfl) ?_
  exact ev1' h2 fun k hk => by rw [hk]; simp [laws_eqTable_same]

end Go.Proofs.Ytmnjhhlnnbadaaa.Pure
