/- What the law FnExactTableOfSpectrum comes to, over numbers and lists alone: at every input both sides tell the same. No conditions but the kinds of the numbers. -/
import Derived.Test.YtoacgiccpndbmabMath
import Derived.Test.YtoacgiccpndbmabHad
import Derived.Test.YtoacgiccpndbmabPop
import Derived.Test.YtoacgiccpndbmabPx1
import Derived.Test.YtoacgiccpndbmabPx10
import Derived.Test.YtoacgiccpndbmabPx17
import Derived.Test.YtoacgiccpndbmabPx18
import Derived.Test.YtoacgiccpndbmabPx19
import Derived.Test.YtoacgiccpndbmabPx20
import Derived.Test.YtoacgiccpndbmabPx5
namespace Go.Proofs.Ytoacgiccpndbmab.Pure
open Go.RowKit Go.Proofs.Ytoacgiccpndbmab.P Go.Proofs.YtoacgiccpndbmabW.PrintWords Go.Proofs.YtoacgiccpndbmabW.PrintLast Go.Proofs.YtoacgiccpndbmabW.PrintMore Go.Proofs.YtoacgiccpndbmabMath
set_option linter.unusedVariables false
set_option linter.unusedSimpArgs false

theorem spec_l1In_eq (a b c : Int) : spec_l1In.f a b c = some (decide (b ≤ a ∧ a ≤ c)) := by
  unfold spec_l1In.f
  by_cases h : b ≤ a
  · rw [if_pos h]; simp [h]
  · rw [if_neg h]; simp [h]

theorem impl_bitsOf_yes {n : Nat} (hn : n ≤ 5) : Ev (fun k => impl_bitsOf.f k ((2 ^ n : Nat) : Int)) ((n : Int), true) := by
  unfold impl_bitsOf.f
  refine ev_for (fun k i => impl_bitsOf.l0 k ((2 ^ n : Nat) : Int) (i : Int)) n ?_ ?_
  · intro i hi h
    refine Ev.step (fun k => ?_) h
    have hlt := Nat.pow_lt_pow_right (show 1 < 2 by omega) hi
    simp only [impl_bitsOf.l0]
    rw [if_pos (by omega), if_pos (by omega), shl1 (by omega), if_neg (by omega), w64 (by omega) (by omega)]
    rfl
  · refine ev0 fun k => ?_
    simp only [impl_bitsOf.l0]
    rw [if_pos (by omega), if_pos (by omega), shl1 (by omega), if_pos rfl]
theorem impl_bitsOf_no {m : Nat} (h : ∀ n, n ≤ 5 → m ≠ 2 ^ n) : Ev (fun k => impl_bitsOf.f k (m : Int)) (0, false) := by
  unfold impl_bitsOf.f
  refine ev_for (fun k i => impl_bitsOf.l0 k (m : Int) (i : Int)) 6 ?_ ?_
  · intro i hi hh
    refine Ev.step (fun k => ?_) hh
    have := h i (by omega)
    simp only [impl_bitsOf.l0]
    rw [if_pos (by omega), if_pos (by omega), shl1 (by omega), if_neg (by omega), w64 (by omega) (by omega)]
    rfl
  · refine ev0 fun k => ?_
    simp only [impl_bitsOf.l0]
    rw [if_neg (by omega)]

theorem spec_l2Count_l (j : Nat) : ∀ (x : Nat) (s : Nat), j ≤ 32 → x < 2 ^ j → s + j ≤ 64 → Ev (fun k => spec_l2Count.l0 k s x) ((s + pcf j x : Nat) : Int) := by
  induction j with
  | zero =>
    intro x s _ h _
    obtain rfl : x = 0 := by simpa using h
    refine ev0 fun k => ?_
    simp only [spec_l2Count.l0]
    rw [if_neg (by omega)]
    rfl
  | succ j ih =>
    intro x s hj h hs
    have hp : 2 ^ (j + 1) ≤ 2 ^ 32 := Nat.pow_le_pow_right (by omega) hj
    by_cases hx : x = 0
    · subst hx
      refine ev0 fun k => ?_
      simp only [spec_l2Count.l0]
      rw [if_neg (by omega), pcf_zero]
      rfl
    · have := ih (x / 2) (s + x % 2) (by omega) (by rw [Nat.pow_succ] at h; omega) (by omega)
      simp only [pcf]
      rw [← Nat.add_assoc]
      refine Ev.step (fun k => ?_) this
      simp only [spec_l2Count.l0]
      rw [if_pos (by omega), show (1 : Int) = ((1 : Nat) : Int) from rfl, bandN (by omega) (by omega), Nat.and_one_is_mod, ← Int.natCast_add, w64 (by omega) (by omega)]
      rfl
theorem spec_l2Count_ev {x : Nat} (h : x < 4294967296) : Ev (fun k => spec_l2Count.f k x) ((pc x : Nat) : Int) := by
  have := spec_l2Count_l 32 x 0 (by omega) (by omega) (by omega)
  rw [Nat.zero_add] at this
  exact this

theorem spec_l12Sign_ev {x : Nat} (h : x < 4294967296) : Ev (fun k => spec_l12Sign.f k x) (chi (par x)) := by
  unfold spec_l12Sign.f
  refine ev1' (spec_l2Count_ev h) fun k hk => ?_
  rw [hk, Option.bind_some, Int.tmod_eq_emod_of_nonneg (Int.natCast_nonneg _)]
  unfold par chi
  by_cases e : pc x % 2 = 1
  · rw [if_pos (by omega), if_pos (by rw [e]; rfl)]
  · rw [if_neg (by omega), if_neg (by simpa using e)]
theorem par0 : par 0 = false := by decide
theorem par1 : par 1 = true := by decide
theorem spec_l12Sign_bit (b : Bool) : Ev (fun k => spec_l12Sign.f k (b2i b)) (chi b) := by
  cases b
  · have := spec_l12Sign_ev (x := 0) (by omega)
    rw [par0] at this
    exact this
  · have := spec_l12Sign_ev (x := 1) (by omega)
    rw [par1] at this
    exact this

theorem impl_sign_eq {a : Nat} (h : a < 4294967296) : impl_sign.f a = some (chi (a % 2 == 1)) := by
  unfold impl_sign.f
  rw [show Go.bits .and .i64 (a : Int) 1 = ((a % 2 : Nat) : Int) by rw [show (1 : Int) = ((1 : Nat) : Int) from rfl, bandN (by omega) (by omega), Nat.and_one_is_mod], w64 (x := 2 * _) (by omega) (by omega), w64 (by omega) (by omega)]
  rcases (by omega : a % 2 = 0 ∨ a % 2 = 1) with e | e <;> rw [e] <;> rfl
theorem impl_sign_bits (a b : Bool) : impl_sign.f (wrap64 (b2i a + b2i b)) = some (chi (a != b)) := by
  have e : wrap64 (b2i a + b2i b) = ((a.toNat + b.toNat : Nat) : Int) := by
    have := b2i_range a
    have := b2i_range b
    rw [w64 (by omega) (by omega)]
    cases a <;> cases b <;> rfl
  rw [e, impl_sign_eq (by cases a <;> cases b <;> decide)]
  cases a <;> cases b <;> rfl
theorem odd_add (a : Bool) (p : Nat) : ((a.toNat + p) % 2 == 1) = (a != (p % 2 == 1)) := by
  rcases (by omega : p % 2 = 0 ∨ p % 2 = 1) with h | h
  · rw [h]
    cases a
    · rw [show (false.toNat + p) % 2 = 0 by rw [show false.toNat = 0 from rfl]; omega]
      rfl
    · rw [show (true.toNat + p) % 2 = 1 by rw [show true.toNat = 1 from rfl]; omega]
      rfl
  · rw [h]
    cases a
    · rw [show (false.toNat + p) % 2 = 1 by rw [show false.toNat = 0 from rfl]; omega]
      rfl
    · rw [show (true.toNat + p) % 2 = 0 by rw [show true.toNat = 1 from rfl]; omega]
      rfl
theorem impl_sign_num (a : Bool) (p : Nat) (hp : p ≤ 32) : impl_sign.f (wrap64 (b2i a + ((p : Nat) : Int))) = some (chi (a != (p % 2 == 1))) := by
  have e : wrap64 (b2i a + (p : Int)) = ((a.toNat + p : Nat) : Int) := by
    have := b2i_range a
    rw [w64 (by omega) (by omega)]
    cases a
    · simp [b2i]
    · simp [b2i]
  have ha : a.toNat ≤ 1 := by cases a <;> decide
  rw [e, impl_sign_eq (by omega), odd_add]
theorem impl_sign_par (a : Bool) (x : Nat) : impl_sign.f (wrap64 (b2i a + ((pc x : Nat) : Int))) = some (chi (a != par x)) := impl_sign_num a (pc x) (pc_le x)

theorem bits_OnesCount64_eq {a : Nat} (h : a < 4294967296) : bits_OnesCount64.f a = some ((pc a : Nat) : Int) := by
  obtain ⟨c0, c1, c2, c3, g0, g1, g2, g3, hv, hp, l1, l2⟩ := n123 h
  have e1 : IntKind.u64.wrap ((Go.bits .and .u64 ((a : Int) / 2) 6148914691236517205) + (Go.bits .and .u64 (a : Int) 6148914691236517205)) = ((n1 a : Nat) : Int) := by
    rw [show (a : Int) / 2 = ((a / 2 : Nat) : Int) by omega, show (6148914691236517205 : Int) = ((6148914691236517205 : Nat) : Int) from rfl, uand (by omega) (by omega), uand (by omega) (by omega), ← Int.natCast_add]
    exact uwrap (by unfold n1 at l1; omega)
  have e2 : IntKind.u64.wrap ((Go.bits .and .u64 (((n1 a : Nat) : Int) / 4) 3689348814741910323) + (Go.bits .and .u64 ((n1 a : Nat) : Int) 3689348814741910323)) = ((n2 (n1 a) : Nat) : Int) := by
    rw [show ((n1 a : Nat) : Int) / 4 = ((n1 a / 4 : Nat) : Int) by omega, show (3689348814741910323 : Int) = ((3689348814741910323 : Nat) : Int) from rfl, uand (by omega) (by omega), uand (by omega) (by omega), ← Int.natCast_add]
    exact uwrap (by unfold n2 at l2; omega)
  have e3 : Go.bits .and .u64 (IntKind.u64.wrap ((((n2 (n1 a) : Nat) : Int) / 16) + ((n2 (n1 a) : Nat) : Int))) 1085102592571150095 = ((n3 (n2 (n1 a)) : Nat) : Int) := by
    rw [show ((n2 (n1 a) : Nat) : Int) / 16 = ((n2 (n1 a) / 16 : Nat) : Int) by omega, ← Int.natCast_add, uwrap (by omega), show (1085102592571150095 : Int) = ((1085102592571150095 : Nat) : Int) from rfl, uand (by omega) (by omega)]
    rfl
  unfold bits_OnesCount64.f
  rw [e1, e2, e3, hv]
  rw [fold4 g0 g1 g2 g3, fold5 g0 g1 g2 g3, fold6 g0 g1 g2 g3, fold7 g0 g1 g2 g3, hp]

theorem impl_ones_eq {a : Nat} (h : a < 4294967296) : impl_ones.f a = some ((pc a : Nat) : Int) := by
  unfold impl_ones.f
  rw [uwrap (by omega), bits_OnesCount64_eq h, Option.bind_some]

theorem tab_of (l : List Int) : tab l.length (fun i => rd l (i : Int)) = l := by
  apply List.ext_getElem?
  intro i
  unfold tab
  simp only [List.getElem?_map]
  by_cases h : i < l.length
  · simp [h, rd_nat]
  · simp [h]
theorem laws_toIntS_ev (l : List Int) (h : l.length ≤ 1048576) : Ev (fun k => laws_toIntS.f k l) l := by
  unfold laws_toIntS.f
  simp only [if_pos (Int.natCast_nonneg l.length), Int.toNat_natCast, if_pos (show l.length ≤ 35184372088832 by omega)]
  rw [← rwS_zero l.length (fun i => rd l (i : Int))]
  refine ev_for (fun k i => laws_toIntS.l0 k l (rwS l.length i (fun i => rd l (i : Int))) (i : Int)) l.length ?_ ?_
  · intro i hi hh
    refine Ev.step (fun k => ?_) hh
    simp only [laws_toIntS.l0]
    rw [if_pos (Int.ofNat_lt.mpr hi), if_pos (Int.natCast_nonneg _), rwS_len _ (by omega), if_pos (Int.ofNat_lt.mpr hi), Int.toNat_natCast, rwS_at _ hi, rwAt_set, rwAt_next _ hi, w64 (by omega) (by omega)]
    rfl
  · refine ev0 fun k => ?_
    simp only [laws_toIntS.l0]
    rw [if_neg (by omega), rwS_full, tab_of]

theorem laws_eqIntS_ev (l : List Int) (h : l.length ≤ 1048576) : Ev (fun k => laws_eqIntS.f k l l) true := by
  unfold laws_eqIntS.f
  simp only [if_true]
  refine ev_for (fun k i => laws_eqIntS.l0 k l l (i : Int)) l.length ?_ ?_
  · intro i hi hh
    refine Ev.step (fun k => ?_) hh
    simp only [laws_eqIntS.l0]
    rw [if_pos (by omega), if_pos (by omega), if_pos (by omega), if_pos trivial, w64 (by omega) (by omega)]
    rfl
  · refine ev0 fun k => ?_
    simp only [laws_eqIntS.l0]
    rw [if_neg (by omega)]

theorem laws_eqTable_same (b W : Int) : laws_eqTable.f b W b W = some true := by
  unfold laws_eqTable.f
  rw [if_pos rfl, if_pos rfl]

def in32 (l : List Int) (m : Nat) : Prop := -32 ≤ rd l (m : Int) ∧ rd l (m : Int) ≤ 32
def inN (l : List Int) (m : Nat) : Prop := -(l.length : Int) ≤ rd l (m : Int) ∧ rd l (m : Int) ≤ l.length
def okS (l : List Int) (x : Nat) : Prop := sV l x l.length = -(l.length : Int) ∨ sV l x l.length = l.length
/-- The first place where something does not hold. -/
theorem first_not (P : Nat → Prop) (N : Nat) : (∀ i, i < N → P i) ∨ ∃ j, j < N ∧ ¬ P j ∧ ∀ i, i < j → P i := by
  induction N with
  | zero => exact .inl fun i hi => absurd hi (by omega)
  | succ N ih =>
    rcases ih with h | ⟨j, h1, h2, h3⟩
    · by_cases hN : P N
      · refine .inl fun i hi => ?_
        by_cases e : i = N
        · exact e ▸ hN
        · exact h i (by omega)
      · exact .inr ⟨N, by omega, hN, h⟩
    · exact .inr ⟨j, by omega, h2, h3⟩
theorem swd_step {l : List Int} {x : Nat} (hx : x < 32) : Go.bits .or .i64 ((swd l l.length x : Nat) : Int) (shl .i64 1 (x : Int)) = ((swd l l.length x ||| 2 ^ x : Nat) : Int) := by
  have h1 := swd_lt l l.length x
  have hp : 2 ^ x ≤ 2 ^ 31 := Nat.pow_le_pow_right (by omega) (by omega)
  rw [shl1 (by omega), borN (by omega) (by omega)]
theorem sp_inner (l : List Int) (n W : Int) {x : Nat} (hx : x < l.length) (hl : l.length ≤ 32) (h : ∀ m, m < l.length → in32 l m) {r : Int × Int × Bool}
    (hr : Ev (fun k => spec_TableOfSpectrum.l3 k l n W x (sV l x l.length) l.length) r) : Ev (fun k => spec_TableOfSpectrum.l3 k l n W x 0 0) r := by
  refine ev_for (fun k m => spec_TableOfSpectrum.l3 k l n W x (sV l x m) (m : Int)) l.length ?_ hr
  intro m hm hh
  have ha : m &&& x ≤ x := Nat.and_le_right
  have hs := sV_range (l := l) (x := x) (M := m) (by omega) fun i hi => h i (by omega)
  have hc : -32 ≤ sT l x m ∧ sT l x m ≤ 32 := cs_mul_range (h m hm) m x
  refine evs1 (spec_l12Sign_ev (x := m &&& x) (by omega)) (fun k hk => ?_) hh
  simp only [spec_TableOfSpectrum.l3]
  rw [if_pos (Int.ofNat_lt.mpr hm), if_pos (Int.natCast_nonneg _), bandN (by omega) (by omega), hk, Option.bind_some, w64 (x := (m : Int) + 1) (by omega) (by omega)]
  show spec_TableOfSpectrum.l3 k l n W x (wrap64 (sV l x m + wrap64 (sT l x m))) _ = _
  rw [w64 (x := sT l x m) (by omega) (by omega), w64 (by omega) (by omega)]
  rfl
theorem sp_value {l : List Int} {n : Int} {x : Nat} (hx : x < l.length) (hl : l.length ≤ 32) (h : ∀ m, m < l.length → in32 l m) {r : Int × Int × Bool}
    (hyes : okS l x → Ev (fun k => spec_TableOfSpectrum.l2 k l n ((swd l l.length (x + 1) : Nat) : Int) ((x + 1 : Nat) : Int)) r) (hno : ¬ okS l x → r = (0, 0, false)) :
    Ev (fun k => spec_TableOfSpectrum.l2 k l n ((swd l l.length x : Nat) : Int) (x : Int)) r := by
  refine Ev.step (f := fun k => spec_TableOfSpectrum.l3 k l n ((swd l l.length x : Nat) : Int) x 0 0) (fun k => ?_) ?_
  · simp only [spec_TableOfSpectrum.l2]
    rw [if_pos (Int.ofNat_lt.mpr hx)]
  refine sp_inner l n _ hx hl h ?_
  by_cases hb : okS l x
  · refine Ev.step (fun k => ?_) (hyes hb)
    simp only [spec_TableOfSpectrum.l3, swd]
    rw [if_neg (by omega), w64 (x := -(l.length : Int)) (by omega) (by omega), w64 (x := (x : Int) + 1) (by omega) (by omega)]
    by_cases e : sV l x l.length = -(l.length : Int)
    · rw [if_pos e, if_pos e, if_pos (Int.natCast_nonneg _), swd_step (by omega)]
      rfl
    · rw [if_neg e, if_neg e, if_pos (hb.resolve_left e)]
      rfl
  · rw [hno hb]
    refine ev0 fun k => ?_
    simp only [spec_TableOfSpectrum.l3]
    rw [if_neg (by omega), w64 (x := -(l.length : Int)) (by omega) (by omega), if_neg (fun e => hb (.inl e)), if_neg (fun e => hb (.inr e))]
theorem sp_to {l : List Int} {n : Int} (hl : l.length ≤ 32) (h : ∀ m, m < l.length → in32 l m) (X : Nat) (hX : X ≤ l.length) (hb : ∀ y, y < X → okS l y) {r : Int × Int × Bool}
    (hr : Ev (fun k => spec_TableOfSpectrum.l2 k l n ((swd l l.length X : Nat) : Int) (X : Int)) r) : Ev (fun k => spec_TableOfSpectrum.l2 k l n 0 0) r := by
  refine ev_for (fun k x => spec_TableOfSpectrum.l2 k l n ((swd l l.length x : Nat) : Int) (x : Int)) X ?_ hr
  intro x hx hh
  exact sp_value (by omega) hl h (fun _ => hh) fun hn => absurd (hb x hx) hn
theorem sp_check {l : List Int} {r : Int × Int × Bool} (hl : l.length ≤ 1048576) (X : Nat) (hX : X ≤ l.length) (h : ∀ m, m < X → in32 l m)
    (hr : Ev (fun k => spec_TableOfSpectrum.l0 k l (X : Int)) r) : Ev (fun k => spec_TableOfSpectrum.f k l) r := by
  unfold spec_TableOfSpectrum.f
  refine ev_for (fun k m => spec_TableOfSpectrum.l0 k l (m : Int)) X ?_ hr
  intro m hm hh
  refine Ev.step (fun k => ?_) hh
  have hm2 := h m hm
  simp only [spec_TableOfSpectrum.l0]
  rw [if_pos (by omega), if_pos (by omega), spec_l1In_eq, Option.bind_some, if_pos (by rw [decide_eq_true]; exact hm2), w64 (by omega) (by omega)]
  rfl
theorem sp_bad {l : List Int} (hl : l.length ≤ 1048576) {j : Nat} (hj : j < l.length) (h : ∀ m, m < j → in32 l m) (hn : ¬ in32 l j) : Ev (fun k => spec_TableOfSpectrum.f k l) (0, 0, false) := by
  refine sp_check hl j (by omega) h (ev0 fun k => ?_)
  simp only [spec_TableOfSpectrum.l0]
  rw [if_pos (by omega), if_pos (by omega), spec_l1In_eq, Option.bind_some, if_neg (by rw [decide_eq_false (show ¬ ((-32 : Int) ≤ rd l (j : Int) ∧ rd l (j : Int) ≤ 32) from hn)]; decide)]
theorem sp_start {l : List Int} {n : Nat} (hn : n ≤ 5) (hl : l.length = 2 ^ n) (h : ∀ m, m < l.length → in32 l m) {r : Int × Int × Bool} (hr : Ev (fun k => spec_TableOfSpectrum.l2 k l n 0 0) r) : Ev (fun k => spec_TableOfSpectrum.f k l) r := by
  have hs := pow62 hn
  refine sp_check (by omega) l.length (Nat.le_refl _) h ?_
  refine Ev.step (f := fun k => spec_TableOfSpectrum.l1 k l 0) (fun k => ?_) ?_
  · simp only [spec_TableOfSpectrum.l0]
    rw [if_neg (by omega)]
  refine ev_for (fun k i => spec_TableOfSpectrum.l1 k l (i : Int)) n ?_ ?_
  · intro i hi h
    refine Ev.step (fun k => ?_) h
    have hlt := Nat.pow_lt_pow_right (show 1 < 2 by omega) hi
    simp only [spec_TableOfSpectrum.l1]
    rw [if_pos (by omega), if_pos (by omega), shl1 (by omega), if_neg (by omega), w64 (by omega) (by omega)]
    rfl
  · refine Ev.step (fun k => ?_) hr
    simp only [spec_TableOfSpectrum.l1]
    rw [if_pos (by omega), if_pos (by omega), shl1 (by omega), if_pos (by omega)]
theorem im_inner (l : List Int) (n W : Int) {x : Nat} (hx : x < l.length) (hl : l.length ≤ 32) (M : Nat) (hM : M ≤ l.length) (h : ∀ m, m < M → inN l m) {r : Int × Int × Bool}
    (hr : Ev (fun k => impl_TableOfSpectrum.l1 k l x (sV l x M) l.length x l l.length M n W) r) : Ev (fun k => impl_TableOfSpectrum.l1 k l x 0 l.length x l l.length 0 n W) r := by
  refine ev_for (fun k m => impl_TableOfSpectrum.l1 k l x (sV l x m) l.length x l l.length (m : Int) n W) M ?_ hr
  intro m hm hh
  have ha : m &&& x ≤ x := Nat.and_le_right
  have hm2 := h m hm
  have hs := sV_range (l := l) (x := x) (M := m) (by omega) fun i hi => by have := h i (by omega); unfold inN at this; omega
  have hc : -(l.length : Int) ≤ sT l x m ∧ sT l x m ≤ l.length := cs_mul_range hm2 m x
  unfold inN at hm2
  refine Ev.step (f := fun k => impl_TableOfSpectrum.j2 k l x (sV l x m) m (rd l (m : Int)) l.length x l l.length m false n W) (fun k => ?_) (Ev.step (fun k => ?_) hh)
  · simp only [impl_TableOfSpectrum.l1]
    rw [if_pos (by omega), if_pos (by omega), if_pos (by omega), w64 (x := -(l.length : Int)) (by omega) (by omega), if_neg (by omega), decide_eq_false (by omega)]
  · simp only [impl_TableOfSpectrum.j2, Bool.false_eq_true, if_false]
    have hp := pc_le (m &&& x)
    rw [bandN (by omega) (by omega), impl_ones_eq (by omega), Option.bind_some, impl_sign_eq (by omega), Option.bind_some, w64 (x := (m : Int) + 1) (by omega) (by omega)]
    show impl_TableOfSpectrum.l1 k l x (wrap64 (sV l x m + wrap64 (sT l x m))) _ _ _ _ _ _ _ = _
    rw [w64 (x := sT l x m) (by omega) (by omega), w64 (by omega) (by omega)]
    rfl
theorem im_value {l : List Int} {n : Int} {x : Nat} (hx : x < l.length) (hl : l.length ≤ 32) (h : ∀ m, m < l.length → inN l m) {r : Int × Int × Bool}
    (hyes : okS l x → Ev (fun k => impl_TableOfSpectrum.l0 k l l.length ((x + 1 : Nat) : Int) n ((swd l l.length (x + 1) : Nat) : Int)) r) (hno : ¬ okS l x → r = (0, 0, false)) :
    Ev (fun k => impl_TableOfSpectrum.l0 k l l.length (x : Int) n ((swd l l.length x : Nat) : Int)) r := by
  refine Ev.step (f := fun k => impl_TableOfSpectrum.l1 k l x 0 l.length x l l.length 0 n ((swd l l.length x : Nat) : Int)) (fun k => ?_) ?_
  · simp only [impl_TableOfSpectrum.l0]
    rw [if_pos (Int.ofNat_lt.mpr hx)]
  refine im_inner l n _ hx hl l.length (Nat.le_refl _) h ?_
  by_cases hb : okS l x
  · refine Ev.step (fun k => ?_) (hyes hb)
    simp only [impl_TableOfSpectrum.l1, swd]
    rw [if_neg (by omega), w64 (x := -(l.length : Int)) (by omega) (by omega), w64 (x := (x : Int) + 1) (by omega) (by omega)]
    by_cases e : sV l x l.length = -(l.length : Int)
    · rw [if_neg (by omega), if_pos e, if_pos e, if_pos (Int.natCast_nonneg _), swd_step (by omega)]
      rfl
    · rw [if_pos (hb.resolve_left e), if_neg e]
      rfl
  · rw [hno hb]
    refine ev0 fun k => ?_
    simp only [impl_TableOfSpectrum.l1]
    rw [if_neg (by omega), w64 (x := -(l.length : Int)) (by omega) (by omega), if_neg (fun e => hb (.inr e)), if_neg (fun e => hb (.inl e))]
theorem im_to {l : List Int} {n : Int} (hl : l.length ≤ 32) (h : ∀ m, m < l.length → inN l m) (X : Nat) (hX : X ≤ l.length) (hb : ∀ y, y < X → okS l y) {r : Int × Int × Bool}
    (hr : Ev (fun k => impl_TableOfSpectrum.l0 k l l.length (X : Int) n ((swd l l.length X : Nat) : Int)) r) : Ev (fun k => impl_TableOfSpectrum.l0 k l l.length 0 n 0) r := by
  refine ev_for (fun k x => impl_TableOfSpectrum.l0 k l l.length (x : Int) n ((swd l l.length x : Nat) : Int)) X ?_ hr
  intro x hx hh
  exact im_value (by omega) hl h (fun _ => hh) fun hn => absurd (hb x hx) hn
theorem im_start {l : List Int} {n : Nat} (hn : n ≤ 5) (hl : l.length = 2 ^ n) {r : Int × Int × Bool} (hr : Ev (fun k => impl_TableOfSpectrum.l0 k l l.length 0 n 0) r) : Ev (fun k => impl_TableOfSpectrum.f k l) r := by
  have hb := impl_bitsOf_yes hn
  rw [← hl] at hb
  unfold impl_TableOfSpectrum.f
  exact ev1 hb (G := fun k => impl_TableOfSpectrum.l0 k l l.length 0 n 0) (fun k hk => by rw [hk]; rfl) hr
theorem im_bad {l : List Int} {n : Nat} (hn : n ≤ 5) (hl : l.length = 2 ^ n) {j : Nat} (hj : j < l.length) (h : ∀ m, m < j → inN l m) (hbad : ¬ inN l j) : Ev (fun k => impl_TableOfSpectrum.f k l) (0, 0, false) := by
  have hs := pow62 hn
  refine im_start hn hl ?_
  refine Ev.step (f := fun k => impl_TableOfSpectrum.l1 k l ((0 : Nat) : Int) 0 l.length ((0 : Nat) : Int) l l.length 0 n 0) (fun k => ?_) ?_
  · simp only [impl_TableOfSpectrum.l0]
    rw [if_pos (by omega)]
    rfl
  refine im_inner l n 0 (x := 0) (by omega) (by omega) j (by omega) h ?_
  refine Ev.step (f := fun k => impl_TableOfSpectrum.j2 k l ((0 : Nat) : Int) (sV l 0 j) j (rd l (j : Int)) l.length ((0 : Nat) : Int) l l.length j true n 0) (fun k => ?_) (ev0 fun k => ?_)
  · simp only [impl_TableOfSpectrum.l1]
    unfold inN at hbad
    rw [if_pos (by omega), if_pos (by omega), if_pos (by omega), w64 (x := -(l.length : Int)) (by omega) (by omega)]
    by_cases e : rd l (j : Int) < -(l.length : Int)
    · rw [if_pos e]
    · rw [if_neg e, decide_eq_true (by omega)]
  · simp only [impl_TableOfSpectrum.j2, if_true]
theorem TableOfSpectrum_key (l : List Int) (hlen : l.length ≤ 1048576) : ∃ r, Ev (fun k => spec_TableOfSpectrum.f k l) r ∧ Ev (fun k => impl_TableOfSpectrum.f k l) r := by
  by_cases hN : ∃ n, n ≤ 5 ∧ l.length = 2 ^ n
  · obtain ⟨n, hn, hl⟩ := hN
    have hs := pow62 hn
    have hs2 : l.length ≤ 32 := by omega
    rcases first_not (inN l) l.length with hall | ⟨j, hj, hnj, hlt⟩
    · have h32 : ∀ m, m < l.length → in32 l m := fun m hm => by have := hall m hm; unfold inN at this; unfold in32; omega
      rcases first_not (okS l) l.length with hb | ⟨x, hx, hnx, hbx⟩
      · refine ⟨(n, ((swd l l.length l.length : Nat) : Int), true), sp_start hn hl h32 (sp_to hs2 h32 l.length (Nat.le_refl _) hb (ev0 fun k => ?_)), im_start hn hl (im_to hs2 hall l.length (Nat.le_refl _) hb (ev0 fun k => ?_))⟩
        · simp only [spec_TableOfSpectrum.l2]
          rw [if_neg (by omega)]
        · simp only [impl_TableOfSpectrum.l0]
          rw [if_neg (by omega)]
      · refine ⟨(0, 0, false), sp_start hn hl h32 (sp_to hs2 h32 x (by omega) hbx (sp_value hx hs2 h32 (fun h => absurd h hnx) fun _ => rfl)), im_start hn hl (im_to hs2 hall x (by omega) hbx (im_value hx hs2 hall (fun h => absurd h hnx) fun _ => rfl))⟩
    · refine ⟨(0, 0, false), ?_, im_bad hn hl hj hlt hnj⟩
      rcases first_not (in32 l) l.length with h32 | ⟨i, hi, hni, hlti⟩
      · rcases first_not (okS l) l.length with hb | ⟨x, hx, hnx, hbx⟩
        · exact absurd (by
            have := sV_small hn l (fun x hx => by have h := hb x (by omega); unfold okS at h; rw [hl] at h; omega) (u := j) (by omega)
            unfold inN
            rw [hl]
            exact this) hnj
        · exact sp_start hn hl h32 (sp_to hs2 h32 x (by omega) hbx (sp_value hx hs2 h32 (fun h => absurd h hnx) fun _ => rfl))
      · exact sp_bad hlen hi hlti hni
  · have hno : ∀ n, n ≤ 5 → l.length ≠ 2 ^ n := fun n hn e => hN ⟨n, hn, e⟩
    refine ⟨(0, 0, false), ?_, ?_⟩
    · rcases first_not (in32 l) l.length with h32 | ⟨i, hi, hni, hlti⟩
      · refine sp_check hlen l.length (Nat.le_refl _) h32 ?_
        refine Ev.step (f := fun k => spec_TableOfSpectrum.l1 k l 0) (fun k => ?_) ?_
        · simp only [spec_TableOfSpectrum.l0]
          rw [if_neg (by omega)]
        refine ev_for (fun k i => spec_TableOfSpectrum.l1 k l (i : Int)) 6 ?_ ?_
        · intro i hi h
          refine Ev.step (fun k => ?_) h
          have := hno i (by omega)
          simp only [spec_TableOfSpectrum.l1]
          rw [if_pos (by omega), if_pos (by omega), shl1 (by omega), if_neg (by omega), w64 (by omega) (by omega)]
          rfl
        · refine ev0 fun k => ?_
          simp only [spec_TableOfSpectrum.l1]
          rw [if_neg (by omega)]
      · exact sp_bad hlen hi hlti hni
    · unfold impl_TableOfSpectrum.f
      exact ev1' (impl_bitsOf_no hno) fun k hk => by rw [hk]; rfl
theorem FnExactTableOfSpectrum (l : List Int) (hm : l.length ≤ maxLen) (hr : l.length * 8 ≤ 140737488351232) (hw : ∀ x ∈ l, (Lit.int .i64 x).wf = true) : ∃ k, laws_FnExactTableOfSpectrum.f k l = some true := by
  unfold laws_FnExactTableOfSpectrum.f
  by_cases h : (l.length : Int) > 1048576
  · exact ⟨0, by rw [if_pos h]⟩
  · simp only [if_neg h]
    obtain ⟨⟨a, b, c⟩, h1, h2⟩ := TableOfSpectrum_key l (by omega)
    have ht := laws_toIntS_ev l (by omega)
    obtain ⟨k, e1, e2, e3, e4, _⟩ := ev_five ht h1 h2 (laws_eqIntS_ev l (by omega)) ht
    refine ⟨k + 1, ?_⟩
    have f1 := at_rounds (g := fun k => laws_toIntS.f k l) (fun k => laws_toIntS.mono _ k) (show k ≤ k + 1 by omega) e1
    have f2 := at_rounds (g := fun k => spec_TableOfSpectrum.f k l) (fun k => spec_TableOfSpectrum.mono _ k) (show k ≤ k + 1 by omega) e2
    have f3 := at_rounds (g := fun k => impl_TableOfSpectrum.f k l) (fun k => impl_TableOfSpectrum.mono _ k) (show k ≤ k + 1 by omega) e3
    simp only [f1, f2, f3, Option.bind_some, laws_eqTable_same, if_true, bne_self_eq_false]
    simp only [laws_FnExactTableOfSpectrum.j0, Bool.false_eq_true, if_false, e1, e4, Option.bind_some, if_true]

end Go.Proofs.Ytoacgiccpndbmab.Pure
