/- What the law FnExactLinearStructures comes to, over numbers and lists alone: at every input both sides tell the same. No conditions but the kinds of the numbers. -/
import Derived.Test.YtoacgiccpndbmaaMath
import Derived.Test.YtoacgiccpndbmaaPop
import Derived.Test.YtoacgiccpndbmaaSum
import Derived.Test.YtoacgiccpndbmaaPx1
import Derived.Test.YtoacgiccpndbmaaPx10
import Derived.Test.YtoacgiccpndbmaaPx19
import Derived.Test.YtoacgiccpndbmaaPx20
import Derived.Test.YtoacgiccpndbmaaPx21
import Derived.Test.YtoacgiccpndbmaaPx22
import Derived.Test.YtoacgiccpndbmaaPx23
import Derived.Test.YtoacgiccpndbmaaPx24
import Derived.Test.YtoacgiccpndbmaaPx34
import Derived.Test.YtoacgiccpndbmaaPx35
import Derived.Test.YtoacgiccpndbmaaPx36
import Derived.Test.YtoacgiccpndbmaaPx4
import Derived.Test.YtoacgiccpndbmaaPx5
import Derived.Test.YtoacgiccpndbmaaPx51
import Derived.Test.YtoacgiccpndbmaaPx6
namespace Go.Proofs.Ytoacgiccpndbmaa.Pure
open Go.RowKit Go.Proofs.Ytoacgiccpndbmaa.P Go.Proofs.YtoacgiccpndbmaaW.PrintWords Go.Proofs.YtoacgiccpndbmaaW.PrintLast Go.Proofs.YtoacgiccpndbmaaW.PrintMore Go.Proofs.YtoacgiccpndbmaaMath
set_option linter.unusedVariables false
set_option linter.unusedSimpArgs false

theorem impl_isBits_eq (b : Int) : impl_isBits.f b = some (decide (0 ≤ b ∧ b ≤ 5)) := by
  unfold impl_isBits.f
  by_cases h : b ≥ 0
  · rw [if_pos h]; simp [show 0 ≤ b from h]
  · rw [if_neg h]; simp [show ¬ 0 ≤ b from h]

theorem impl_Table_size_eq {n : Nat} (h : n ≤ 62) (W : Int) : impl_Table_size.f n W = some ((2 ^ n : Nat) : Int) := by
  unfold impl_Table_size.f
  rw [if_pos (Int.natCast_nonneg _), shl1 h]

theorem impl_IsTable_eq (b W : Int) : impl_IsTable.f b W = some (isTab b W) := by
  unfold impl_IsTable.f
  rw [impl_isBits_eq, Option.bind_some]
  by_cases h : 0 ≤ b ∧ b ≤ 5
  · obtain ⟨n, rfl⟩ := Int.eq_ofNat_of_zero_le h.1
    rw [if_pos (decide_eq_true h)]
    by_cases h2 : W ≥ 0
    · rw [if_pos h2]
      obtain ⟨w, rfl⟩ := Int.eq_ofNat_of_zero_le h2
      have hp : 2 ^ n ≤ 2 ^ 5 := Nat.pow_le_pow_right (by omega) (by omega)
      rw [impl_Table_size_eq (by omega), Option.bind_some, if_pos (Int.natCast_nonneg _), shrS (by omega)]
      congr 1
      unfold isTab
      rw [Bool.eq_iff_iff, decide_eq_true_iff, beq_iff_eq, Int.toNat_natCast]
      have e : ((2 : Int) ^ 2 ^ n) = ((2 ^ 2 ^ n : Nat) : Int) := by push_cast; rfl
      rw [e]
      have hd : w / 2 ^ 2 ^ n = 0 ↔ w < 2 ^ 2 ^ n := by rw [Nat.div_eq_zero_iff]; have := Nat.two_pow_pos (2 ^ n); omega
      constructor
      · intro h3
        have := hd.1 (by omega)
        omega
      · rintro ⟨_, _, _, h4⟩
        have := hd.2 (by omega)
        omega
    · rw [if_neg h2, show isTab n W = false from decide_eq_false fun h3 => h2 h3.2.2.1]
  · rw [if_neg (by rw [decide_eq_false h]; decide), show isTab b W = false from decide_eq_false fun h3 => h ⟨h3.1, h3.2.1⟩]

theorem impl_Table_at_eq {n w : Nat} (t : Tab n w) (x : Nat) : impl_Table_at.f n w x = some (b2i (w.testBit x)) := by
  unfold impl_Table_at.f
  rw [if_pos (Int.natCast_nonneg _), at1 t.w63]

theorem spec_l2Count_l (j : Nat) : ∀ (x : Nat) (s : Nat), j ≤ 32 → x < 2 ^ j → s + j ≤ 64 → Ev (fun k => spec_l2Count.l0 k s x) ((s + pcf j x : Nat) : Int) := by
  induction j with
  | zero =>
    intro x s _ h _
    obtain rfl : x = 0 := by simpa using h
    refine ev0 fun k => ?_
    simp only [spec_l2Count.l0]
    rw [if_neg (by omega)]
    rfl
  | succ j ih =>
    intro x s hj h hs
    have hp : 2 ^ (j + 1) ≤ 2 ^ 32 := Nat.pow_le_pow_right (by omega) hj
    by_cases hx : x = 0
    · subst hx
      refine ev0 fun k => ?_
      simp only [spec_l2Count.l0]
      rw [if_neg (by omega), pcf_zero]
      rfl
    · have := ih (x / 2) (s + x % 2) (by omega) (by rw [Nat.pow_succ] at h; omega) (by omega)
      simp only [pcf]
      rw [← Nat.add_assoc]
      refine Ev.step (fun k => ?_) this
      simp only [spec_l2Count.l0]
      rw [if_pos (by omega), show (1 : Int) = ((1 : Nat) : Int) from rfl, bandN (by omega) (by omega), Nat.and_one_is_mod, ← Int.natCast_add, w64 (by omega) (by omega)]
      rfl
theorem spec_l2Count_ev {x : Nat} (h : x < 4294967296) : Ev (fun k => spec_l2Count.f k x) ((pc x : Nat) : Int) := by
  have := spec_l2Count_l 32 x 0 (by omega) (by omega) (by omega)
  rw [Nat.zero_add] at this
  exact this

theorem spec_l12Sign_ev {x : Nat} (h : x < 4294967296) : Ev (fun k => spec_l12Sign.f k x) (chi (par x)) := by
  unfold spec_l12Sign.f
  refine ev1' (spec_l2Count_ev h) fun k hk => ?_
  rw [hk, Option.bind_some, Int.tmod_eq_emod_of_nonneg (Int.natCast_nonneg _)]
  unfold par chi
  by_cases e : pc x % 2 = 1
  · rw [if_pos (by omega), if_pos (by rw [e]; rfl)]
  · rw [if_neg (by omega), if_neg (by simpa using e)]
theorem par0 : par 0 = false := by decide
theorem par1 : par 1 = true := by decide
theorem spec_l12Sign_bit (b : Bool) : Ev (fun k => spec_l12Sign.f k (b2i b)) (chi b) := by
  cases b
  · have := spec_l12Sign_ev (x := 0) (by omega)
    rw [par0] at this
    exact this
  · have := spec_l12Sign_ev (x := 1) (by omega)
    rw [par1] at this
    exact this

theorem impl_sign_eq {a : Nat} (h : a < 4294967296) : impl_sign.f a = some (chi (a % 2 == 1)) := by
  unfold impl_sign.f
  rw [show Go.bits .and .i64 (a : Int) 1 = ((a % 2 : Nat) : Int) by rw [show (1 : Int) = ((1 : Nat) : Int) from rfl, bandN (by omega) (by omega), Nat.and_one_is_mod], w64 (x := 2 * _) (by omega) (by omega), w64 (by omega) (by omega)]
  rcases (by omega : a % 2 = 0 ∨ a % 2 = 1) with e | e <;> rw [e] <;> rfl
theorem impl_sign_bits (a b : Bool) : impl_sign.f (wrap64 (b2i a + b2i b)) = some (chi (a != b)) := by
  have e : wrap64 (b2i a + b2i b) = ((a.toNat + b.toNat : Nat) : Int) := by
    have := b2i_range a
    have := b2i_range b
    rw [w64 (by omega) (by omega)]
    cases a <;> cases b <;> rfl
  rw [e, impl_sign_eq (by cases a <;> cases b <;> decide)]
  cases a <;> cases b <;> rfl
theorem odd_add (a : Bool) (p : Nat) : ((a.toNat + p) % 2 == 1) = (a != (p % 2 == 1)) := by
  rcases (by omega : p % 2 = 0 ∨ p % 2 = 1) with h | h
  · rw [h]
    cases a
    · rw [show (false.toNat + p) % 2 = 0 by rw [show false.toNat = 0 from rfl]; omega]
      rfl
    · rw [show (true.toNat + p) % 2 = 1 by rw [show true.toNat = 1 from rfl]; omega]
      rfl
  · rw [h]
    cases a
    · rw [show (false.toNat + p) % 2 = 1 by rw [show false.toNat = 0 from rfl]; omega]
      rfl
    · rw [show (true.toNat + p) % 2 = 0 by rw [show true.toNat = 1 from rfl]; omega]
      rfl
theorem impl_sign_num (a : Bool) (p : Nat) (hp : p ≤ 32) : impl_sign.f (wrap64 (b2i a + ((p : Nat) : Int))) = some (chi (a != (p % 2 == 1))) := by
  have e : wrap64 (b2i a + (p : Int)) = ((a.toNat + p : Nat) : Int) := by
    have := b2i_range a
    rw [w64 (by omega) (by omega)]
    cases a
    · simp [b2i]
    · simp [b2i]
  have ha : a.toNat ≤ 1 := by cases a <;> decide
  rw [e, impl_sign_eq (by omega), odd_add]
theorem impl_sign_par (a : Bool) (x : Nat) : impl_sign.f (wrap64 (b2i a + ((pc x : Nat) : Int))) = some (chi (a != par x)) := impl_sign_num a (pc x) (pc_le x)

theorem impl_Table_autocorrelation_ev {n w : Nat} (t : Tab n w) : Ev (fun k => impl_Table_autocorrelation.f k n w) (tab (2 ^ n) (acor n w)) := by
  have hn := t.hn
  have hs := t.size
  unfold impl_Table_autocorrelation.f
  simp only [impl_Table_size_eq (show n ≤ 62 by omega), Option.bind_some, Int.toNat_natCast]
  simp only [if_pos (Int.natCast_nonneg (2 ^ n)), if_pos (show 2 ^ n ≤ 35184372088832 by omega), List.length_replicate]
  have e0 := rwS_zero (2 ^ n) (acor n w)
  rw [← e0]
  refine ev_for (fun k u => impl_Table_autocorrelation.l0 k (rwS (2 ^ n) u (acor n w)) ((2 ^ n : Nat) : Int) (u : Int) n w) (2 ^ n) ?_ ?_
  · intro u hu h
    refine Ev.step (f := fun k => impl_Table_autocorrelation.l1 k (rwAt (2 ^ n) u (acor n w) 0) (u : Int) ((2 ^ n : Nat) : Int) (u : Int) ((2 ^ n : Nat) : Int) 0 n w) (fun k => ?_) ?_
    · simp only [impl_Table_autocorrelation.l0]
      rw [if_pos (Int.ofNat_lt.mpr hu), impl_Table_size_eq (by omega), Option.bind_some, rwS_at _ hu]
    refine ev_for (fun k x => impl_Table_autocorrelation.l1 k (rwAt (2 ^ n) u (acor n w) (sumI x fun x => chi (w.testBit x != w.testBit (x ^^^ u)))) (u : Int) ((2 ^ n : Nat) : Int) (u : Int) ((2 ^ n : Nat) : Int) (x : Int) n w) (2 ^ n) ?_ ?_
    · intro x hx h
      refine Ev.step (fun k => ?_) h
      have hb := sumI_abs (n := x) (f := fun x => chi (w.testBit x != w.testBit (x ^^^ u))) fun _ _ => chi_range _
      have hc := chi_range (w.testBit x != w.testBit (x ^^^ u))
      simp only [impl_Table_autocorrelation.l1]
      rw [if_pos (Int.ofNat_lt.mpr hx), if_pos (Int.natCast_nonneg _), rwAt_len _ _ hu, if_pos (Int.ofNat_lt.mpr hu), impl_Table_at_eq t, Option.bind_some, bxorN (by omega) (by omega), impl_Table_at_eq t, Option.bind_some, impl_sign_bits, Option.bind_some, rwAt_rd, Int.toNat_natCast, rwAt_set, w64 (by omega) (by omega), w64 (by omega) (by omega)]
      rfl
    · refine Ev.step (fun k => ?_) h
      simp only [impl_Table_autocorrelation.l1]
      rw [if_neg (by omega), w64 (by omega) (by omega), show (sumI (2 ^ n) fun x => chi (w.testBit x != w.testBit (x ^^^ u))) = acor n w u from rfl, rwAt_next _ hu]
      rfl
  · refine ev0 fun k => ?_
    simp only [impl_Table_autocorrelation.l0]
    rw [if_neg (by omega), rwS_full]

theorem spec_IsTable_eq (b W : Int) : spec_IsTable.f b W = some (isTab b W) := rfl

theorem spec_AutocorrelationOf_no {b W : Int} (h : ¬ isTab b W = true) : Ev (fun k => spec_AutocorrelationOf.f k b W) [] := by
  unfold spec_AutocorrelationOf.f
  refine Ev.step (f := fun k => spec_AutocorrelationOf.j1 k [] 0 false b W) (fun k => ?_) (ev0 fun k => ?_)
  · simp only [spec_AutocorrelationOf.l0, spec_IsTable_eq, Option.bind_some, if_neg h]
  · simp only [spec_AutocorrelationOf.j1, Bool.false_eq_true, if_false]
theorem spec_AutocorrelationOf_ev {n w : Nat} (t : Tab n w) : Ev (fun k => spec_AutocorrelationOf.f k n w) (tab (2 ^ n) (acor n w)) := by
  have hn := t.hn
  have hs := t.size
  unfold spec_AutocorrelationOf.f
  refine ev_for (fun k u => spec_AutocorrelationOf.l0 k (tab u (acor n w)) (u : Int) n w) (2 ^ n) ?_ ?_
  · intro u hu h
    refine Ev.step (f := fun k => spec_AutocorrelationOf.j1 k (tab u (acor n w)) (u : Int) true n w) (fun k => ?_) (Ev.step (f := fun k => spec_AutocorrelationOf.l1 k (tab u (acor n w)) (u : Int) 0 0 n w) (fun k => ?_) ?_)
    · simp only [spec_AutocorrelationOf.l0, spec_IsTable_eq, Option.bind_some, isTab_mk t, if_true]
      rw [if_pos (Int.natCast_nonneg _), shl1 (by omega), decide_eq_true (Int.ofNat_lt.mpr hu)]
    · simp only [spec_AutocorrelationOf.j1, if_true]
    refine ev_for (fun k x => spec_AutocorrelationOf.l1 k (tab u (acor n w)) (u : Int) (sumI x fun x => chi (w.testBit x != w.testBit (x ^^^ u))) (x : Int) n w) (2 ^ n) ?_ ?_
    · intro x hx h
      obtain ⟨K, hK⟩ := ev_two (spec_l12Sign_bit (w.testBit x)) (spec_l12Sign_bit (w.testBit (x ^^^ u)))
      obtain ⟨L, hL⟩ := h
      refine ⟨K + L + 1, fun k hk => ?_⟩
      obtain ⟨m, rfl⟩ : ∃ m, k = m + 1 := ⟨k - 1, by omega⟩
      obtain ⟨g1, g2⟩ := hK m (by omega)
      have hb := sumI_abs (n := x) (f := fun x => chi (w.testBit x != w.testBit (x ^^^ u))) fun _ _ => chi_range _
      have hc := chi_range (w.testBit x != w.testBit (x ^^^ u))
      refine Eq.trans ?_ (hL m (by omega))
      simp only [spec_AutocorrelationOf.l1]
      rw [if_pos (Int.natCast_nonneg _), shl1 (by omega), if_pos (Int.ofNat_lt.mpr hx), if_pos (Int.natCast_nonneg _), at1 t.w63, g1, Option.bind_some, bxorN (by omega) (by omega), if_pos (Int.natCast_nonneg _), at1 t.w63, g2, Option.bind_some, chi_mul, w64 (x := chi _) (by omega) (by omega), w64 (by omega) (by omega), w64 (by omega) (by omega)]
      rfl
    · refine Ev.step (fun k => ?_) h
      simp only [spec_AutocorrelationOf.l1]
      rw [if_pos (Int.natCast_nonneg _), shl1 (by omega), if_neg (by omega), if_pos (by rw [tab_len]; omega), tab_succ, w64 (by omega) (by omega)]
      rfl
  · refine Ev.step (f := fun k => spec_AutocorrelationOf.j1 k (tab (2 ^ n) (acor n w)) ((2 ^ n : Nat) : Int) false n w) (fun k => ?_) (ev0 fun k => ?_)
    · simp only [spec_AutocorrelationOf.l0, spec_IsTable_eq, Option.bind_some, isTab_mk t, if_true]
      rw [if_pos (Int.natCast_nonneg _), shl1 (by omega), decide_eq_false (by omega)]
    · simp only [spec_AutocorrelationOf.j1, Bool.false_eq_true, if_false]

theorem impl_size1_eq {x : Int} (h0 : -1000000 ≤ x) (h1 : x ≤ 1000000) : impl_size1.f x = some (mx x (-x)) := by
  unfold impl_size1.f
  rw [w64 (by omega) (by omega)]

theorem laws_toTable_eq (b W : Int) : laws_toTable.f b W = some (b, W) := rfl

theorem laws_eqIntS_ev (l : List Int) (h : l.length ≤ 1048576) : Ev (fun k => laws_eqIntS.f k l l) true := by
  unfold laws_eqIntS.f
  simp only [if_true]
  refine ev_for (fun k i => laws_eqIntS.l0 k l l (i : Int)) l.length ?_ ?_
  · intro i hi hh
    refine Ev.step (fun k => ?_) hh
    simp only [laws_eqIntS.l0]
    rw [if_pos (by omega), if_pos (by omega), if_pos (by omega), if_pos trivial, w64 (by omega) (by omega)]
    rfl
  · refine ev0 fun k => ?_
    simp only [laws_eqIntS.l0]
    rw [if_neg (by omega)]

def mk1 (i : Nat) : Int := (i : Int) + 1
theorem marks_ev (l : List Int) (h : l.length ≤ 1048576) : Ev (fun k => laws_markIntS.f k l 1) ((l.length : Int) + 1, tab l.length mk1) := by
  unfold laws_markIntS.f
  refine ev_for (fun k i => laws_markIntS.l0 k (tab i mk1 ++ l.drop i) ((i : Int) + 1) (i : Int)) l.length ?_ ?_
  · intro i hi hh
    refine Ev.step (fun k => ?_) hh
    have hlen : (tab i mk1 ++ l.drop i).length = l.length := by simp [tab_len]; omega
    simp only [laws_markIntS.l0]
    rw [hlen, if_pos (by omega), if_pos (by omega), w64 (by omega) (by omega), w64 (by omega) (by omega), Int.toNat_natCast]
    have e : (tab i mk1 ++ l.drop i).set i ((i : Int) + 1) = tab (i + 1) mk1 ++ l.drop (i + 1) := by
      rw [List.set_append_right _ _ (by rw [tab_len]; exact Nat.le_refl _), tab_len, Nat.sub_self, tab_succ, List.append_assoc, List.drop_eq_getElem_cons hi]
      rfl
    rw [e]
    rfl
  · refine ev0 fun k => ?_
    have hlen : (tab l.length mk1 ++ l.drop l.length).length = l.length := by simp [tab_len]
    simp only [laws_markIntS.l0]
    rw [hlen, if_neg (by omega), List.drop_length, List.append_nil]
theorem held_ev (N : Nat) (h : N ≤ 1048576) : Ev (fun k => laws_heldIntS.f k (tab N mk1) 1) ((N : Int) + 1) := by
  unfold laws_heldIntS.f
  refine ev_for (fun k i => laws_heldIntS.l0 k (tab N mk1) ((i : Int) + 1) (i : Int)) N ?_ ?_
  · intro i hi hh
    refine Ev.step (fun k => ?_) hh
    simp only [laws_heldIntS.l0]
    rw [tab_len, if_pos (by omega), if_pos (by omega), tab_rd _ hi, if_pos (show mk1 i = (i : Int) + 1 from rfl), w64 (by omega) (by omega), w64 (by omega) (by omega)]
    rfl
  · refine ev0 fun k => ?_
    simp only [laws_heldIntS.l0]
    rw [tab_len, if_neg (by omega)]

theorem impl_LinearStructures_ev {n w : Nat} (t : Tab n w) : Ev (fun k => impl_LinearStructures.f k n w) (lst n w (2 ^ n), true) := by
  have hn := t.hn
  have hs := t.size
  have h2 := Nat.two_pow_pos n
  unfold impl_LinearStructures.f
  simp only [impl_IsTable_eq, isTab_mk t, Option.bind_some, if_true]
  refine ev1 (impl_Table_autocorrelation_ev t) (G := fun k => impl_LinearStructures.l0 k [] (tab (2 ^ n) (acor n w)) ((2 ^ n : Nat) : Int) 0 n w) (fun k hk => by rw [hk, Option.bind_some, tab_len]) ?_
  refine ev_for (fun k s => impl_LinearStructures.l0 k (lst n w s) (tab (2 ^ n) (acor n w)) ((2 ^ n : Nat) : Int) (s : Int) n w) (2 ^ n) ?_ ?_
  · intro s hs' h
    refine Ev.step (fun k => ?_) h
    have hr := acor_range n w s
    have hl := lst_len n w s
    simp only [impl_LinearStructures.l0]
    rw [if_pos (Int.ofNat_lt.mpr hs'), if_pos (Int.natCast_nonneg _), tab_len, if_pos (Int.ofNat_lt.mpr hs'), tab_rd _ hs', impl_size1_eq (by omega) (by omega), Option.bind_some, impl_Table_size_eq (by omega), Option.bind_some, w64 (by omega) (by omega)]
    simp only [lst]
    by_cases e : acor n w s = ((2 ^ n : Nat) : Int) ∨ acor n w s = -((2 ^ n : Nat) : Int)
    · rw [if_pos e, if_pos (by unfold mx; split <;> omega), if_pos (by omega)]
      rfl
    · rw [if_neg e, if_neg (by unfold mx; split <;> omega)]
      rfl
  · refine ev0 fun k => ?_
    simp only [impl_LinearStructures.l0]
    rw [if_neg (by omega)]
theorem spec_LinearStructures_ev {n w : Nat} (t : Tab n w) : Ev (fun k => spec_LinearStructures.f k n w) (lst n w (2 ^ n), true) := by
  have hn := t.hn
  have hs := t.size
  have h2 := Nat.two_pow_pos n
  unfold spec_LinearStructures.f
  refine ev1 (spec_AutocorrelationOf_ev t) (G := fun k => spec_LinearStructures.l0 k [] (tab (2 ^ n) (acor n w)) 0) (fun k hk => by rw [hk, Option.bind_some]) ?_
  refine ev_for (fun k s => spec_LinearStructures.l0 k (lst n w s) (tab (2 ^ n) (acor n w)) (s : Int)) (2 ^ n) ?_ ?_
  · intro s hs' h
    refine Ev.step (fun k => ?_) h
    have hl := lst_len n w s
    simp only [spec_LinearStructures.l0]
    rw [tab_len, if_pos (Int.ofNat_lt.mpr hs'), if_pos (Int.natCast_nonneg _), tab_rd _ hs', w64 (x := (s : Int) + 1) (by omega) (by omega), w64 (by omega) (by omega)]
    simp only [lst]
    by_cases e1 : acor n w s = ((2 ^ n : Nat) : Int)
    · rw [if_pos e1, if_pos (by omega), if_pos (Or.inl e1)]
      rfl
    · rw [if_neg e1]
      by_cases e2 : acor n w s = -((2 ^ n : Nat) : Int)
      · rw [if_pos e2, if_pos (by omega), if_pos (Or.inr e2)]
        rfl
      · rw [if_neg e2, if_neg (by omega)]
        rfl
  · refine ev0 fun k => ?_
    simp only [spec_LinearStructures.l0]
    rw [tab_len, if_neg (by omega), decide_eq_true (by omega)]
theorem LinearStructures_key (b W : Int) : ∃ (l : List Int) (c : Bool), l.length ≤ 1048576 ∧ Ev (fun k => spec_LinearStructures.f k b W) (l, c) ∧ Ev (fun k => impl_LinearStructures.f k b W) (l, c) := by
  by_cases h : isTab b W = true
  · obtain ⟨n, w, rfl, rfl, t⟩ := isTab_yes h
    have hs := t.size
    have hl := lst_len n w (2 ^ n)
    exact ⟨_, _, by omega, spec_LinearStructures_ev t, impl_LinearStructures_ev t⟩
  · refine ⟨[], false, by simp, ?_, ?_⟩
    · unfold spec_LinearStructures.f
      refine ev1 (spec_AutocorrelationOf_no h) (G := fun k => spec_LinearStructures.l0 k [] [] 0) (fun k hk => by rw [hk, Option.bind_some]) (ev0 fun k => ?_)
      simp only [spec_LinearStructures.l0]
      rfl
    · unfold impl_LinearStructures.f
      simp only [impl_IsTable_eq, Option.bind_some, if_neg h]
      exact Ev.now _
theorem FnExactLinearStructures (b W : Int) (hb : (Lit.int .i64 b).wf = true) (hW : (Lit.int .i64 W).wf = true) : ∃ k, laws_FnExactLinearStructures.f k b W = some true := by
  obtain ⟨l, c, hl, h1, h2⟩ := LinearStructures_key b W
  obtain ⟨k, e1, e2, e3, e4, e5⟩ := ev_five h1 h2 (laws_eqIntS_ev l hl) (marks_ev l hl) (held_ev l.length hl)
  refine ⟨k + 2, ?_⟩
  have f1 := at_rounds (g := fun k => spec_LinearStructures.f k b W) (fun k => spec_LinearStructures.mono _ _ k) (show k ≤ k + 2 by omega) e1
  have f2 := at_rounds (g := fun k => impl_LinearStructures.f k b W) (fun k => impl_LinearStructures.mono _ _ k) (show k ≤ k + 2 by omega) e2
  have f3 := at_rounds (g := fun k => laws_eqIntS.f k l l) (fun k => laws_eqIntS.mono _ _ k) (show k ≤ k + 2 by omega) e3
  have g2 := at_rounds (g := fun k => impl_LinearStructures.f k b W) (fun k => impl_LinearStructures.mono _ _ k) (show k ≤ k + 1 by omega) e2
  have g3 := at_rounds (g := fun k => laws_eqIntS.f k l l) (fun k => laws_eqIntS.mono _ _ k) (show k ≤ k + 1 by omega) e3
  have g4 := at_rounds (g := fun k => laws_markIntS.f k l 1) (fun k => laws_markIntS.mono _ _ k) (show k ≤ k + 1 by omega) e4
  have g5 := at_rounds (g := fun k => laws_heldIntS.f k (tab l.length mk1) 1) (fun k => laws_heldIntS.mono _ _ k) (show k ≤ k + 1 by omega) e5
  unfold laws_FnExactLinearStructures.f
  simp only [laws_toTable_eq, Option.bind_some, f1, f2, f3, if_true, bne_self_eq_false]
  simp only [laws_FnExactLinearStructures.j0, Bool.false_eq_true, if_false, laws_toTable_eq, Option.bind_some, g2, g3, g4, g5, if_true, bne_self_eq_false, show ¬ ((l.length : Int) + 1 < 0) by omega]
  simp only [laws_FnExactLinearStructures.j1, Bool.false_eq_true, if_false, e5, Option.bind_some, if_true, show ¬ ((l.length : Int) + 1 < 0) by omega]

end Go.Proofs.Ytoacgiccpndbmaa.Pure
