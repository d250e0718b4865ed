/- What the law FnExactIsJunta comes to, over numbers and lists alone: at every input both sides tell the same. No conditions but the kinds of the numbers. -/
import Derived.Test.YtmnjhhlnnbadaaaMath
import Derived.Test.YtmnjhhlnnbadaaaWrd
import Derived.Test.YtmnjhhlnnbadaaaPx10
import Derived.Test.YtmnjhhlnnbadaaaPx11
import Derived.Test.YtmnjhhlnnbadaaaPx12
import Derived.Test.YtmnjhhlnnbadaaaPx13
import Derived.Test.YtmnjhhlnnbadaaaPx2
import Derived.Test.YtmnjhhlnnbadaaaPx4
import Derived.Test.YtmnjhhlnnbadaaaPx40
import Derived.Test.YtmnjhhlnnbadaaaPx5
import Derived.Test.YtmnjhhlnnbadaaaPx9
namespace Go.Proofs.Ytmnjhhlnnbadaaa.Pure
open Go.RowKit Go.Proofs.Ytmnjhhlnnbadaaa.P Go.Proofs.YtmnjhhlnnbadaaaW.PrintWords Go.Proofs.YtmnjhhlnnbadaaaW.PrintLast Go.Proofs.YtmnjhhlnnbadaaaW.PrintMore Go.Proofs.YtmnjhhlnnbadaaaMath
set_option linter.unusedVariables false
set_option linter.unusedSimpArgs false

theorem spec_IsTable_eq (b W : Int) : spec_IsTable.f b W = some (isTab b W) := rfl

/-- An input with a value put in at a place. -/
def ins (x i b : Nat) : Nat := (x / 2 ^ i * 2 ^ (i + 1) ||| b * 2 ^ i) ||| x % 2 ^ i
theorem spec_l3Insert_eq {x i b : Nat} (hx : x < 32) (hi : i ≤ 5) (hb : b ≤ 1) : spec_l3Insert.f x i b = some ((ins x i b : Nat) : Int) := by
  have hp : 2 ^ i ≤ 2 ^ 5 := Nat.pow_le_pow_right (by omega) hi
  have hp0 := Nat.two_pow_pos i
  have hbm : b * 2 ^ i ≤ 1 * 2 ^ i := Nat.mul_le_mul_right _ hb
  have hm := Nat.mod_le x (2 ^ i)
  have hq : x / 2 ^ i * 2 ^ (i + 1) ≤ 64 := by
    rw [Nat.pow_succ, ← Nat.mul_assoc]
    have := Nat.div_mul_le_self x (2 ^ i)
    omega
  have ho : (x / 2 ^ i * 2 ^ (i + 1) ||| b * 2 ^ i) < 2 ^ 7 := Nat.or_lt_two_pow (by omega) (by omega)
  unfold spec_l3Insert.f
  rw [if_pos (Int.natCast_nonneg _), w64 (x := (i : Int) + 1) (by omega) (by omega), if_pos (by omega), shrN (by omega), show (i : Int) + 1 = ((i + 1 : Nat) : Int) by omega, shlN (by omega), shlN (by omega), borN (by omega) (by omega), shl1m (by omega), show ((2 ^ i : Nat) : Int) - 1 = ((2 ^ i - 1 : Nat) : Int) by omega, bandN (by omega) (by omega), Nat.and_two_pow_sub_one_eq_mod, borN (by omega) (by omega)]
  rfl

theorem impl_makeTable_word_eq (g : Nat → Bool) : ∀ N, N ≤ 32 → impl_makeTable.word g N = ((wordN g N : Nat) : Int) := by
  intro N
  induction N with
  | zero => intro _; rfl
  | succ N ih =>
    intro hN
    simp only [impl_makeTable.word]
    rw [ih (by omega)]
    by_cases hg : g N = true
    · rw [if_pos hg, wordN_or (by omega) hg]
    · rw [if_neg hg]
      simp only [wordN]
      rw [if_neg hg]

theorem impl_Table_at_eq {n w : Nat} (t : Tab n w) (x : Nat) : impl_Table_at.f n w x = some (b2i (w.testBit x)) := by
  unfold impl_Table_at.f
  rw [if_pos (Int.natCast_nonneg _), at1 t.w63]

def resW (n w i b : Nat) : Nat := wordN (fun x => w.testBit (ins x i b)) (2 ^ (n - 1))
theorem impl_Table_restrict_low_eq {x i : Nat} (hx : x < 32) (hi : i ≤ 5) : impl_Table_restrict.low x i = ((x % 2 ^ i : Nat) : Int) := by
  have hp : 2 ^ i ≤ 2 ^ 5 := Nat.pow_le_pow_right (by omega) hi
  have hp0 := Nat.two_pow_pos i
  have e : ((2 : Int) ^ i) = ((2 ^ i : Nat) : Int) := by push_cast; rfl
  unfold impl_Table_restrict.low
  rw [Int.toNat_natCast, Nat.min_eq_left (by omega), e, w64 (x := ((2 ^ i : Nat) : Int)) (by omega) (by omega), w64 (by omega) (by omega), show ((2 ^ i : Nat) : Int) - 1 = ((2 ^ i - 1 : Nat) : Int) by omega, bandN (by omega) (by omega), Nat.and_two_pow_sub_one_eq_mod]
theorem impl_Table_restrict_spread_eq {x i b : Nat} (hx : x < 32) (hi : i ≤ 5) (hb : b ≤ 1) : impl_Table_restrict.spread x i b = ((ins x i b : Nat) : Int) := by
  have hp : 2 ^ i ≤ 2 ^ 5 := Nat.pow_le_pow_right (by omega) hi
  have hp0 := Nat.two_pow_pos i
  have hbm : b * 2 ^ i ≤ 1 * 2 ^ i := Nat.mul_le_mul_right _ hb
  have hd := Nat.div_add_mod x (2 ^ i)
  have ml : x % 2 ^ i < 2 ^ i := Nat.mod_lt _ hp0
  have hq2 : x / 2 ^ i * 2 ^ (i + 1) = 2 * (2 ^ i * (x / 2 ^ i)) := by rw [Nat.pow_succ, Nat.mul_comm (x / 2 ^ i), Nat.mul_comm (2 ^ i) 2, Nat.mul_assoc]
  have e : ((2 : Int) ^ i) = ((2 ^ i : Nat) : Int) := by push_cast; rfl
  have e2 : wrap64 ((b : Int) * (2 : Int) ^ min ((i : Int).toNat) 64) = ((b * 2 ^ i : Nat) : Int) := by
    rw [Int.toNat_natCast, Nat.min_eq_left (by omega), e, ← Int.natCast_mul]
    generalize b * 2 ^ i = y at *
    generalize 2 ^ i = z at *
    exact w64 (by omega) (by omega)
  unfold impl_Table_restrict.spread ins
  rw [impl_Table_restrict_low_eq hx hi, e2, hq2]
  generalize b * 2 ^ i = y at *
  generalize 2 ^ i * (x / 2 ^ i) = q at *
  generalize x % 2 ^ i = m at *
  generalize 2 ^ i = z at *
  have e1 : wrap64 (wrap64 ((x : Int) - (m : Int)) * 2) = ((2 * q : Nat) : Int) := by
    rw [show (x : Int) - (m : Int) = (q : Int) by omega, w64 (x := (q : Int)) (by omega) (by omega), w64 (x := (q : Int) * 2) (by omega) (by omega)]
    omega
  have ho : (2 * q ||| y) < 2 ^ 7 := Nat.or_lt_two_pow (by omega) (by omega)
  rw [e1, borN (by omega) (by omega), borN (by omega) (by omega)]
theorem impl_Table_restrict_eq {n w i b : Nat} (t : Tab n w) (hi : i < n) (hb : b ≤ 1) : impl_Table_restrict.f n w i b = some (((n - 1 : Nat) : Int), ((resW n w i b : Nat) : Int)) := by
  have hn := t.hn
  have hs : 2 ^ (n - 1) ≤ 32 := Nat.le_trans (Nat.pow_le_pow_right (by omega) (show n - 1 ≤ 5 by omega)) (by decide)
  have e : wrap64 ((n : Int) - 1) = ((n - 1 : Nat) : Int) := by rw [w64 (by omega) (by omega)]; omega
  have hall : ((List.range (2 ^ (n - 1))).all fun x => decide (0 ≤ impl_Table_restrict.spread (x : Int) i b)) = true := by
    rw [List.all_eq_true]
    intro x hx
    have := List.mem_range.mp hx
    exact decide_eq_true (by rw [impl_Table_restrict_spread_eq (by omega) (by omega) hb]; exact Int.natCast_nonneg _)
  have hon : wordN (impl_Table_restrict.on n w i b) (2 ^ (n - 1)) = resW n w i b := by
    unfold resW
    refine wordN_congr fun x hx => ?_
    unfold impl_Table_restrict.on
    rw [impl_Table_restrict_spread_eq (by omega) (by omega) hb, impl_Table_at_eq t, Option.getD_some]
    cases w.testBit (ins x i b) <;> rfl
  unfold impl_Table_restrict.f
  rw [e, Int.toNat_natCast, if_pos ⟨⟨by omega, by omega⟩, by omega, hall⟩, impl_makeTable_word_eq _ _ hs, hon]

theorem spec_l3Restrict_ev {n w i b : Nat} (t : Tab n w) (hi : i < n) (hb : b ≤ 1) : Ev (fun k => spec_l3Restrict.f k n w i b) (((n - 1 : Nat) : Int), ((resW n w i b : Nat) : Int)) := by
  have hn := t.hn
  have hs : 2 ^ (n - 1) ≤ 32 := Nat.le_trans (Nat.pow_le_pow_right (by omega) (show n - 1 ≤ 5 by omega)) (by decide)
  have e : wrap64 ((n : Int) - 1) = ((n - 1 : Nat) : Int) := by rw [w64 (by omega) (by omega)]; omega
  unfold spec_l3Restrict.f resW
  refine ev_for (fun k x => spec_l3Restrict.l0 k i b ((wordN (fun x => w.testBit (ins x i b)) x : Nat) : Int) (x : Int) n w) (2 ^ (n - 1)) ?_ ?_
  · intro x hx h
    refine Ev.step (fun k => ?_) h
    have hst := wordN_step (g := fun x => w.testBit (ins x i b)) (x := x) (by omega)
    simp only [spec_l3Restrict.l0]
    rw [e, if_pos (Int.natCast_nonneg _), shl1 (by omega), if_pos (Int.ofNat_lt.mpr hx), spec_l3Insert_eq (by omega) (by omega) hb, Option.bind_some, if_pos (Int.natCast_nonneg _), if_pos (Int.natCast_nonneg _), at1 t.w63, hst, w64 (by omega) (by omega)]
    rfl
  · refine ev0 fun k => ?_
    simp only [spec_l3Restrict.l0]
    rw [e, if_pos (Int.natCast_nonneg _), shl1 (by omega), if_neg (by omega)]

theorem impl_isBits_eq (b : Int) : impl_isBits.f b = some (decide (0 ≤ b ∧ b ≤ 5)) := by
  unfold impl_isBits.f
  by_cases h : b ≥ 0
  · rw [if_pos h]; simp [show 0 ≤ b from h]
  · rw [if_neg h]; simp [show ¬ 0 ≤ b from h]

theorem impl_Table_size_eq {n : Nat} (h : n ≤ 62) (W : Int) : impl_Table_size.f n W = some ((2 ^ n : Nat) : Int) := by
  unfold impl_Table_size.f
  rw [if_pos (Int.natCast_nonneg _), shl1 h]

theorem impl_IsTable_eq (b W : Int) : impl_IsTable.f b W = some (isTab b W) := by
  unfold impl_IsTable.f
  rw [impl_isBits_eq, Option.bind_some]
  by_cases h : 0 ≤ b ∧ b ≤ 5
  · obtain ⟨n, rfl⟩ := Int.eq_ofNat_of_zero_le h.1
    rw [if_pos (decide_eq_true h)]
    by_cases h2 : W ≥ 0
    · rw [if_pos h2]
      obtain ⟨w, rfl⟩ := Int.eq_ofNat_of_zero_le h2
      have hp : 2 ^ n ≤ 2 ^ 5 := Nat.pow_le_pow_right (by omega) (by omega)
      rw [impl_Table_size_eq (by omega), Option.bind_some, if_pos (Int.natCast_nonneg _), shrS (by omega)]
      congr 1
      unfold isTab
      rw [Bool.eq_iff_iff, decide_eq_true_iff, beq_iff_eq, Int.toNat_natCast]
      have e : ((2 : Int) ^ 2 ^ n) = ((2 ^ 2 ^ n : Nat) : Int) := by push_cast; rfl
      rw [e]
      have hd : w / 2 ^ 2 ^ n = 0 ↔ w < 2 ^ 2 ^ n := by rw [Nat.div_eq_zero_iff]; have := Nat.two_pow_pos (2 ^ n); omega
      constructor
      · intro h3
        have := hd.1 (by omega)
        omega
      · rintro ⟨_, _, _, h4⟩
        have := hd.2 (by omega)
        omega
    · rw [if_neg h2, show isTab n W = false from decide_eq_false fun h3 => h2 h3.2.2.1]
  · rw [if_neg (by rw [decide_eq_false h]; decide), show isTab b W = false from decide_eq_false fun h3 => h ⟨h3.1, h3.2.1⟩]

theorem laws_toTable_eq (b W : Int) : laws_toTable.f b W = some (b, W) := rfl

def dep (n w i : Nat) : Bool := resW n w i 0 != resW n w i 1
theorem cast_bne (a b : Nat) : ((a : Int) != (b : Int)) = (a != b) := by
  rw [Bool.eq_iff_iff, bne_iff_ne, bne_iff_ne]
  omega
theorem spec_l3Depends_ev {n w i : Nat} (t : Tab n w) (hi : i < n) : Ev (fun k => spec_l3Depends.f k n w i) (dep n w i) := by
  have h0 : Ev (fun k => spec_l3Restrict.f k n w i 0) (((n - 1 : Nat) : Int), ((resW n w i 0 : Nat) : Int)) := spec_l3Restrict_ev (b := 0) t hi (by omega)
  have h1 : Ev (fun k => spec_l3Restrict.f k n w i 1) (((n - 1 : Nat) : Int), ((resW n w i 1 : Nat) : Int)) := spec_l3Restrict_ev (b := 1) t hi (by omega)
  unfold spec_l3Depends.f dep
  refine ev1 h0 (G := fun k => (spec_l3Restrict.f k n w i 1).bind fun q => some (((resW n w i 0 : Nat) : Int) != q.2)) (fun k hk => by rw [hk]; rfl) ?_
  exact ev1' h1 fun k hk => by rw [hk, Option.bind_some, cast_bne]
theorem impl_Table_depends_eq {n w i : Nat} (t : Tab n w) (hi : i < n) : impl_Table_depends.f n w i = some (dep n w i) := by
  have h0 : impl_Table_restrict.f n w i 0 = some (((n - 1 : Nat) : Int), ((resW n w i 0 : Nat) : Int)) := impl_Table_restrict_eq (b := 0) t hi (by omega)
  have h1 : impl_Table_restrict.f n w i 1 = some (((n - 1 : Nat) : Int), ((resW n w i 1 : Nat) : Int)) := impl_Table_restrict_eq (b := 1) t hi (by omega)
  unfold impl_Table_depends.f dep
  rw [h0, Option.bind_some, h1, Option.bind_some]
  congr 1
  have e := cast_bne (resW n w i 0) (resW n w i 1)
  rw [← e]
  simp [bne]
def vl (n w : Nat) : Nat → List Int
  | 0 => []
  | i + 1 => if dep n w i = true then vl n w i ++ [(i : Int)] else vl n w i
theorem vl_len (n w i : Nat) : (vl n w i).length ≤ i := by
  induction i with
  | zero => exact Nat.le_refl _
  | succ i ih =>
    simp only [vl]
    split
    · rw [List.length_append]; simp; exact ih
    · omega
theorem spec_VariablesOf_ev {n w : Nat} (t : Tab n w) : Ev (fun k => spec_VariablesOf.f k n w) (vl n w n) := by
  have hn := t.hn
  unfold spec_VariablesOf.f
  refine ev_for (fun k i => spec_VariablesOf.l0 k (vl n w i) (i : Int) n w) n ?_ ?_
  · intro i hi h
    have hl := vl_len n w i
    refine Ev.step (f := fun k => spec_VariablesOf.j1 k (vl n w i) (i : Int) true n w) (fun k => ?_) ?_
    · simp only [spec_VariablesOf.l0]
      rw [spec_IsTable_eq, Option.bind_some, if_pos (isTab_mk t), decide_eq_true (Int.ofNat_lt.mpr hi)]
    refine evs1 (spec_l3Depends_ev t hi) (fun k hk => ?_) h
    simp only [spec_VariablesOf.j1, if_true]
    rw [hk, Option.bind_some, w64 (by omega) (by omega)]
    simp only [vl]
    by_cases hd : dep n w i = true
    · rw [if_pos hd, if_pos hd, if_pos (by omega)]
      rfl
    · rw [if_neg hd, if_neg hd]
      rfl
  · refine Ev.step (f := fun k => spec_VariablesOf.j1 k (vl n w n) (n : Int) false n w) (fun k => ?_) (ev0 fun k => ?_)
    · simp only [spec_VariablesOf.l0]
      rw [spec_IsTable_eq, Option.bind_some, if_pos (isTab_mk t), decide_eq_false (by omega)]
    · simp only [spec_VariablesOf.j1, Bool.false_eq_true, if_false]
theorem impl_VariablesOf_ev {n w : Nat} (t : Tab n w) : Ev (fun k => impl_VariablesOf.f k n w) (vl n w n) := by
  have hn := t.hn
  unfold impl_VariablesOf.f
  simp only [impl_IsTable_eq, isTab_mk t, Option.bind_some, if_true]
  refine ev_for (fun k i => impl_VariablesOf.l0 k (vl n w i) (n : Int) (i : Int) n w) n ?_ ?_
  · intro i hi h
    have hl := vl_len n w i
    refine Ev.step (fun k => ?_) h
    simp only [impl_VariablesOf.l0]
    rw [if_pos (Int.ofNat_lt.mpr hi), impl_Table_depends_eq t hi, Option.bind_some, w64 (by omega) (by omega)]
    simp only [vl]
    by_cases hd : dep n w i = true
    · rw [if_pos hd, if_pos hd, if_pos (by omega)]
      rfl
    · rw [if_neg hd, if_neg hd]
      rfl
  · refine ev0 fun k => ?_
    simp only [impl_VariablesOf.l0]
    rw [if_neg (by omega)]
theorem FnExactIsJunta (b W c : Int) (hb : (Lit.int .i64 b).wf = true) (hW : (Lit.int .i64 W).wf = true) (hc : (Lit.int .i64 c).wf = true) : ∃ k, laws_FnExactIsJunta.f k b W c = some true := by
  have key : ∃ r, Ev (fun k => spec_IsJunta.f k b W c) r ∧ Ev (fun k => impl_IsJunta.f k b W c) r := by
    by_cases h : isTab b W = true
    · have h' := h
      obtain ⟨n, w, rfl, rfl, t⟩ := isTab_yes h
      unfold spec_IsJunta.f impl_IsJunta.f
      simp only [spec_IsTable_eq, impl_IsTable_eq, Option.bind_some, h', if_true]
      by_cases h0 : c ≥ 0
      · simp only [if_pos h0]
        exact ⟨_, ev1' (spec_VariablesOf_ev t) fun k hk => by rw [hk]; rfl, ev1' (impl_VariablesOf_ev t) fun k hk => by rw [hk]; rfl⟩
      · simp only [if_neg h0]
        exact ⟨_, Ev.now _, Ev.now _⟩
    · unfold spec_IsJunta.f impl_IsJunta.f
      simp only [spec_IsTable_eq, impl_IsTable_eq, Option.bind_some, if_neg h]
      exact ⟨_, Ev.now _, Ev.now _⟩
  obtain ⟨r, h1, h2⟩ := key
  refine Ev.rounds ?_
  unfold laws_FnExactIsJunta.f
  simp only [laws_toTable_eq, Option.bind_some]
  refine ev1 h1 (G := fun k => (impl_IsJunta.f k b W c).bind fun t => if (t != r) = true then some false else some true) (fun k hk => by rw [hk]; rfl) ?_
  exact ev1' h2 fun k hk => by rw [hk]; simp

end Go.Proofs.Ytmnjhhlnnbadaaa.Pure
