/- What the law FnDegrees comes to, over numbers and lists alone: at every input both sides tell the same. No conditions but the kinds of the numbers. -/
import Derived.Test.YteljkpglgjjnlaaDoorMath
import Derived.Test.YteljkpglgjjnlaaDoorCof
import Derived.Test.YteljkpglgjjnlaaDoorPop
import Derived.Test.YteljkpglgjjnlaaDoorWrd
import Derived.Test.YteljkpglgjjnlaaDoorQ0
import Derived.Test.YteljkpglgjjnlaaDoorQ1
import Derived.Test.YteljkpglgjjnlaaDoorQ10
import Derived.Test.YteljkpglgjjnlaaDoorQ11
import Derived.Test.YteljkpglgjjnlaaDoorQ12
import Derived.Test.YteljkpglgjjnlaaDoorQ13
import Derived.Test.YteljkpglgjjnlaaDoorQ14
import Derived.Test.YteljkpglgjjnlaaDoorQ15
import Derived.Test.YteljkpglgjjnlaaDoorQ16
import Derived.Test.YteljkpglgjjnlaaDoorQ2
import Derived.Test.YteljkpglgjjnlaaDoorQ3
import Derived.Test.YteljkpglgjjnlaaDoorQ4
import Derived.Test.YteljkpglgjjnlaaDoorQ5
import Derived.Test.YteljkpglgjjnlaaDoorQ6
import Derived.Test.YteljkpglgjjnlaaDoorQ7
import Derived.Test.YteljkpglgjjnlaaDoorQ8
import Derived.Test.YteljkpglgjjnlaaDoorQ9
import Derived.Test.YteljkpglgjjnlaaDoorQLFnDegrees
namespace Go.Proofs.YteljkpglgjjnlaaDoor.Pure
open Go.RowKit Go.Proofs.YteljkpglgjjnlaaDoor.P Go.Proofs.YteljkpglgjjnlaaDoorW.PrintWords Go.Proofs.YteljkpglgjjnlaaDoorW.PrintLast Go.Proofs.YteljkpglgjjnlaaDoorW.PrintMore Go.Proofs.YteljkpglgjjnlaaDoorMath
set_option linter.unusedVariables false
set_option linter.unusedSimpArgs false

theorem spec_l2Count_l (j : Nat) : ∀ (x : Nat) (s : Nat), j ≤ 32 → x < 2 ^ j → s + j ≤ 64 → Ev (fun k => spec_l2Count.l0 k s x) ((s + pcf j x : Nat) : Int) := by
 induction j with
 | zero =>
  intro x s _ h _
  obtain rfl : x = 0 := by simpa using h
  refine ev0 fun k => ?_
  simp only [spec_l2Count.l0]
  rw [if_neg (by omega)]
  rfl
 | succ j ih =>
  intro x s hj h hs
  have hp : 2 ^ (j + 1) ≤ 2 ^ 32 := Nat.pow_le_pow_right (by omega) hj
  by_cases hx : x = 0
  ·subst hx
   refine ev0 fun k => ?_
   simp only [spec_l2Count.l0]
   rw [if_neg (by omega), pcf_zero]
   rfl
  ·have := ih (x / 2) (s + x % 2) (by omega) (by rw [Nat.pow_succ] at h; omega) (by omega)
   simp only [pcf]
   rw [← Nat.add_assoc]
   refine Ev.step (fun k => ?_) this
   simp only [spec_l2Count.l0]
   rw [if_pos (by omega), show (1 : Int) = ((1 : Nat) : Int) from rfl, bandN (by omega) (by omega), Nat.and_one_is_mod, ← Int.natCast_add, w64 (by omega) (by omega)]
   rfl
theorem spec_l2Count_ev {x : Nat} (h : x < 4294967296) : Ev (fun k => spec_l2Count.f k x) ((pc x : Nat) : Int) := by
 have := spec_l2Count_l 32 x 0 (by omega) (by omega) (by omega)
 rw [Nat.zero_add] at this
 exact this

theorem and255 (x : Int) : 0 ≤ Go.bits .and .i64 x 255 ∧ Go.bits .and .i64 x 255 ≤ 255 := by
 have h : (BitVec.ofInt 64 x &&& BitVec.ofInt 64 255).toNat ≤ 255 := by
  rw [BitVec.toNat_and]
  exact Nat.and_le_right
 have e : Go.bits .and .i64 x 255 = (((BitVec.ofInt 64 x &&& BitVec.ofInt 64 255).toNat : Nat) : Int) := by
  simp only [Go.bits, IntKind.bits]
  exact i64id (Int.natCast_nonneg _) (Int.lt_of_le_of_lt (Int.ofNat_le.mpr h) (by decide))
 omega
theorem evx_bind {A R : Type} {g : Nat → Option A} {P : A → Prop} {F : Nat → A → Option R} {Q : R → Prop} (h : ∃ a, Ev g a ∧ P a) (hF : ∀ a, P a → ∃ r, Ev (fun k => F k a) r ∧ Q r) : ∃ r, Ev (fun k => (g k).bind (F k)) r ∧ Q r := by
 obtain ⟨a, ha, hp⟩ := h
 obtain ⟨r, hr, hq⟩ := hF a hp
 exact ⟨r, ev1 ha (fun k hk => by rw [hk]; rfl) hr, hq⟩
/-- A reader of draws: how far it has read. -/
def Cur (l : List Int) (i : Int) : Prop := l.length ≤ 4611686018427387904 ∧ 0 ≤ i ∧ i ≤ l.length
theorem spec_l1Byte_ok {l : List Int} {i h : Int} (c : Cur l i) : ∃ r, spec_l1Byte.f l i h = some r ∧ (0 ≤ r.1 ∧ r.1 ≤ 255 ∧ Cur l r.2.1) := by
 obtain ⟨c0, c1, c2⟩ := c
 unfold spec_l1Byte.f
 by_cases hl : i < (l.length : Int)
 ·rw [if_pos hl, if_pos c1]
  refine ⟨_, rfl, (and255 _).1, (and255 _).2, c0, ?_⟩
  show 0 ≤ wrap64 (i + 1) ∧ wrap64 (i + 1) ≤ l.length
  rw [w64 (by omega) (by omega)]
  omega
 ·rw [if_neg hl]
  exact ⟨_, rfl, (and255 _).1, (and255 _).2, c0, c1, c2⟩
theorem spec_l1Below_ok {l : List Int} {i h n : Int} (c : Cur l i) (hn : n ≤ 256) : ∃ r, Ev (fun _ => spec_l1Below.f l i h n) r ∧ (0 ≤ r.1 ∧ (0 < n → r.1 < n) ∧ Cur l r.2.1) := by
 unfold spec_l1Below.f
 by_cases h0 : n ≤ 0
 ·rw [if_pos h0]
  exact ⟨_, Ev.now _, Int.le_refl _, fun h => absurd h (by omega), c⟩
 ·rw [if_neg h0, if_pos hn]
  obtain ⟨r, hr, h1, h2, h3⟩ := spec_l1Byte_ok (h := h) c
  rw [hr, Option.bind_some, if_neg (by omega)]
  exact ⟨_, Ev.now _, Int.tmod_nonneg _ h1, fun h => Int.tmod_lt_of_pos _ h, h3⟩
theorem spec_l1New_ok {l : List Int} (hl : l.length ≤ 4611686018427387904) : ∃ r, Ev (fun k => spec_l1New.f k l) r ∧ (r.1 = l ∧ Cur l r.2.1) := by
 have key : ∀ d (i : Nat) (h : Int), l.length - i ≤ d → ∃ r, Ev (fun k => spec_l1New.l0 k l h i) r ∧ (r.1 = l ∧ Cur l r.2.1) := by
  intro d
  induction d with
  | zero =>
   intro i h hd
   refine ⟨(l, 0, h), ev0 fun k => ?_, rfl, hl, by simp⟩
   simp only [spec_l1New.l0]
   rw [if_neg (by omega)]
  | succ d ih =>
   intro i h hd
   by_cases hi : i < l.length
   ·by_cases h4 : i < 4000
    ·obtain ⟨r, hr, hq⟩ := ih (i + 1) (Go.bits .and .i64 (wrap64 ((wrap64 ((wrap64 (h * 131)) + (wrap64 (rd l i)))) + 7)) 1073741823) (by omega)
     refine ⟨r, Ev.step (fun k => ?_) hr, hq⟩
     simp only [spec_l1New.l0]
     rw [if_pos (by omega), if_pos (by omega), if_pos (by omega), w64 (x := (i : Int) + 1) (by omega) (by omega)]
     rfl
    ·refine ⟨(l, 0, h), ev0 fun k => ?_, rfl, hl, by simp⟩
     simp only [spec_l1New.l0]
     rw [if_pos (by omega), if_neg (by omega)]
   ·refine ⟨(l, 0, h), ev0 fun k => ?_, rfl, hl, by simp⟩
    simp only [spec_l1New.l0]
    rw [if_neg (by omega)]
 exact key l.length 0 _ (by omega)
theorem spec_l2Variable_ok {n j : Nat} (hn : n ≤ 4) : ∃ r, Ev (fun k => spec_l2Variable.f k n j) r ∧ True := by
 have hs : 2 ^ n ≤ 2 ^ 4 := Nat.pow_le_pow_right (by omega) hn
 have key : ∀ d (i : Nat) (w : Int), 2 ^ n - i ≤ d → ∃ r, Ev (fun k => spec_l2Variable.l0 k n j w i) r ∧ True := by
  intro d
  induction d with
  | zero =>
   intro i w hd
   refine ⟨w, ev0 fun k => ?_, trivial⟩
   simp only [spec_l2Variable.l0]
   rw [if_pos (Int.natCast_nonneg _), shl1 (by omega), if_neg (by omega)]
  | succ d ih =>
   intro i w hd
   by_cases hi : i < 2 ^ n
   ·by_cases hb : Go.bits .and .i64 (shr .i64 i j) 1 = 1
    ·obtain ⟨r, hr, hq⟩ := ih (i + 1) (Go.bits .or .i64 w (shl .i64 1 i)) (by omega)
     refine ⟨r, Ev.step (fun k => ?_) hr, hq⟩
     simp only [spec_l2Variable.l0]
     rw [if_pos (Int.natCast_nonneg _), shl1 (by omega), if_pos (by omega), if_pos (Int.natCast_nonneg _), if_pos hb, if_pos (Int.natCast_nonneg _), w64 (x := (i : Int) + 1) (by omega) (by omega)]
     rfl
    ·obtain ⟨r, hr, hq⟩ := ih (i + 1) w (by omega)
     refine ⟨r, Ev.step (fun k => ?_) hr, hq⟩
     simp only [spec_l2Variable.l0]
     rw [if_pos (Int.natCast_nonneg _), shl1 (by omega), if_pos (by omega), if_pos (Int.natCast_nonneg _), if_neg hb, w64 (x := (i : Int) + 1) (by omega) (by omega)]
     rfl
   ·refine ⟨w, ev0 fun k => ?_, trivial⟩
    simp only [spec_l2Variable.l0]
    rw [if_pos (Int.natCast_nonneg _), shl1 (by omega), if_neg (by omega)]
 exact key (2 ^ n) 0 0 (Nat.sub_le _ _)
theorem spec_l2Full_some {n : Nat} (hn : n ≤ 4) : ∃ t, spec_l2Full.f n = some t := by
 unfold spec_l2Full.f
 rw [if_pos (by omega)]
 exact ⟨_, rfl⟩
theorem l2Draw_end {l : List Int} {i h : Int} {n : Nat} (hn : n ≤ 4) (c : Cur l i) (w : Int) : ∃ r, (if (n : Int) = 0 then ((spec_l2Full.f n).bind fun t => (some ((n : Int), Go.bits .and .i64 (Go.bits .and .i64 w 1) t, i, h))) else ((spec_l2Full.f n).bind fun t => (some ((n : Int), Go.bits .and .i64 w t, i, h)))) = some r ∧ (r.1 = (n : Int) ∧ Cur l r.2.2.1) := by
 obtain ⟨t, ht⟩ := spec_l2Full_some hn
 rw [ht, Option.bind_some, Option.bind_some]
 split
 ·exact ⟨_, rfl, rfl, c⟩
 ·exact ⟨_, rfl, rfl, c⟩
theorem spec_l2Draw_l0_ok {l : List Int} {cu h : Int} {n : Nat} (hn : n ≤ 4) (c : Cur l cu) : ∀ d (i : Nat) (w : Int), 2 ^ n - i ≤ d → ∃ r, Ev (fun k => spec_l2Draw.l0 k n w i l cu h) r ∧ (r.1 = (n : Int) ∧ Cur l r.2.2.1) := by
 have hs : 2 ^ n ≤ 2 ^ 4 := Nat.pow_le_pow_right (by omega) hn
 intro d
 induction d with
 | zero =>
  intro i w hd
  obtain ⟨r, hr, hq⟩ := l2Draw_end (h := h) hn c w
  refine ⟨r, ev0 fun k => ?_, hq⟩
  simp only [spec_l2Draw.l0]
  rw [if_pos (Int.natCast_nonneg _), shl1 (by omega), if_neg (by omega)]
  exact hr
 | succ d ih =>
  intro i w hd
  by_cases hi : i < 2 ^ n
  ·have hc := spec_l2Count_ev (x := i) (by omega)
   by_cases hb : wrap64 (2 * ((pc i : Nat) : Int)) > (n : Int)
   ·obtain ⟨r, hr, hq⟩ := ih (i + 1) (Go.bits .or .i64 w (shl .i64 1 i)) (by omega)
    refine ⟨r, evs1 hc (fun k hk => ?_) hr, hq⟩
    simp only [spec_l2Draw.l0]
    rw [if_pos (Int.natCast_nonneg _), shl1 (by omega), if_pos (by omega), hk, Option.bind_some, if_pos hb, if_pos (Int.natCast_nonneg _), w64 (x := (i : Int) + 1) (by omega) (by omega)]
    rfl
   ·obtain ⟨r, hr, hq⟩ := ih (i + 1) w (by omega)
    refine ⟨r, evs1 hc (fun k hk => ?_) hr, hq⟩
    simp only [spec_l2Draw.l0]
    rw [if_pos (Int.natCast_nonneg _), shl1 (by omega), if_pos (by omega), hk, Option.bind_some, if_neg hb, w64 (x := (i : Int) + 1) (by omega) (by omega)]
    rfl
  ·obtain ⟨r, hr, hq⟩ := l2Draw_end (h := h) hn c w
   refine ⟨r, ev0 fun k => ?_, hq⟩
   simp only [spec_l2Draw.l0]
   rw [if_pos (Int.natCast_nonneg _), shl1 (by omega), if_neg (by omega)]
   exact hr
theorem spec_l2Draw_l1_ok {l : List Int} {cu h : Int} {n : Nat} (hn : n ≤ 4) (c : Cur l cu) : ∀ d (i : Nat) (w : Int), 2 ^ n - i ≤ d → ∃ r, Ev (fun k => spec_l2Draw.l1 k n w i l cu h) r ∧ (r.1 = (n : Int) ∧ Cur l r.2.2.1) := by
 have hs : 2 ^ n ≤ 2 ^ 4 := Nat.pow_le_pow_right (by omega) hn
 intro d
 induction d with
 | zero =>
  intro i w hd
  obtain ⟨r, hr, hq⟩ := l2Draw_end (h := h) hn c w
  refine ⟨r, ev0 fun k => ?_, hq⟩
  simp only [spec_l2Draw.l1]
  rw [if_pos (Int.natCast_nonneg _), shl1 (by omega), if_neg (by omega)]
  exact hr
 | succ d ih =>
  intro i w hd
  by_cases hi : i < 2 ^ n
  ·have hc := spec_l2Count_ev (x := i) (by omega)
   by_cases hb : Int.tmod ((pc i : Nat) : Int) 2 = 1
   ·obtain ⟨r, hr, hq⟩ := ih (i + 1) (Go.bits .or .i64 w (shl .i64 1 i)) (by omega)
    refine ⟨r, evs1 hc (fun k hk => ?_) hr, hq⟩
    simp only [spec_l2Draw.l1]
    rw [if_pos (Int.natCast_nonneg _), shl1 (by omega), if_pos (by omega), hk, Option.bind_some, if_pos hb, if_pos (Int.natCast_nonneg _), w64 (x := (i : Int) + 1) (by omega) (by omega)]
    rfl
   ·obtain ⟨r, hr, hq⟩ := ih (i + 1) w (by omega)
    refine ⟨r, evs1 hc (fun k hk => ?_) hr, hq⟩
    simp only [spec_l2Draw.l1]
    rw [if_pos (Int.natCast_nonneg _), shl1 (by omega), if_pos (by omega), hk, Option.bind_some, if_neg hb, w64 (x := (i : Int) + 1) (by omega) (by omega)]
    rfl
  ·obtain ⟨r, hr, hq⟩ := l2Draw_end (h := h) hn c w
   refine ⟨r, ev0 fun k => ?_, hq⟩
   simp only [spec_l2Draw.l1]
   rw [if_pos (Int.natCast_nonneg _), shl1 (by omega), if_neg (by omega)]
   exact hr
theorem spec_l2Draw_l2_ok {l : List Int} {cu h m : Int} {n : Nat} (hn : n ≤ 4) (c : Cur l cu) : ∀ d (i : Nat) (w : Int), 2 ^ n - i ≤ d → ∃ r, Ev (fun k => spec_l2Draw.l2 k n w m i l cu h) r ∧ (r.1 = (n : Int) ∧ Cur l r.2.2.1) := by
 have hs : 2 ^ n ≤ 2 ^ 4 := Nat.pow_le_pow_right (by omega) hn
 intro d
 induction d with
 | zero =>
  intro i w hd
  obtain ⟨r, hr, hq⟩ := l2Draw_end (h := h) hn c w
  refine ⟨r, ev0 fun k => ?_, hq⟩
  simp only [spec_l2Draw.l2]
  rw [if_pos (Int.natCast_nonneg _), shl1 (by omega), if_neg (by omega)]
  exact hr
 | succ d ih =>
  intro i w hd
  by_cases hi : i < 2 ^ n
  ·by_cases hb : Go.bits .and .i64 i m = m
   ·obtain ⟨r, hr, hq⟩ := ih (i + 1) (Go.bits .or .i64 w (shl .i64 1 i)) (by omega)
    refine ⟨r, Ev.step (fun k => ?_) hr, hq⟩
    simp only [spec_l2Draw.l2]
    rw [if_pos (Int.natCast_nonneg _), shl1 (by omega), if_pos (by omega), if_pos hb, if_pos (Int.natCast_nonneg _), w64 (x := (i : Int) + 1) (by omega) (by omega)]
    rfl
   ·obtain ⟨r, hr, hq⟩ := ih (i + 1) w (by omega)
    refine ⟨r, Ev.step (fun k => ?_) hr, hq⟩
    simp only [spec_l2Draw.l2]
    rw [if_pos (Int.natCast_nonneg _), shl1 (by omega), if_pos (by omega), if_neg hb, w64 (x := (i : Int) + 1) (by omega) (by omega)]
    rfl
  ·obtain ⟨r, hr, hq⟩ := l2Draw_end (h := h) hn c w
   refine ⟨r, ev0 fun k => ?_, hq⟩
   simp only [spec_l2Draw.l2]
   rw [if_pos (Int.natCast_nonneg _), shl1 (by omega), if_neg (by omega)]
   exact hr
theorem spec_l2Draw_l3_ok {l : List Int} {n : Nat} (hn : n ≤ 4) : ∀ d (i : Nat) (w cu h : Int), 2 ^ n - i ≤ d → Cur l cu → ∃ r, Ev (fun k => spec_l2Draw.l3 k n w i l cu h) r ∧ (r.1 = (n : Int) ∧ Cur l r.2.2.1) := by
 have hs : 2 ^ n ≤ 2 ^ 4 := Nat.pow_le_pow_right (by omega) hn
 intro d
 induction d with
 | zero =>
  intro i w cu h hd c
  obtain ⟨r, hr, hq⟩ := l2Draw_end (h := h) hn c w
  refine ⟨r, ev0 fun k => ?_, hq⟩
  simp only [spec_l2Draw.l3]
  rw [if_pos (Int.natCast_nonneg _), shl1 (by omega), if_neg (by omega)]
  exact hr
 | succ d ih =>
  intro i w cu h hd c
  by_cases hi : i < 2 ^ n
  ·obtain ⟨b, hb, b1, b2, b3⟩ := spec_l1Below_ok (h := h) (n := 2) c (by omega)
   obtain ⟨r, hr, hq⟩ := ih (i + 1) (Go.bits .or .i64 w (shl .i64 b.1 i)) b.2.1 b.2.2 (by omega) b3
   refine ⟨r, evs1 hb (fun k hk => ?_) hr, hq⟩
   simp only [spec_l2Draw.l3]
   rw [if_pos (Int.natCast_nonneg _), shl1 (by omega), if_pos (by omega), hk, Option.bind_some, if_pos (Int.natCast_nonneg _), w64 (x := (i : Int) + 1) (by omega) (by omega)]
   rfl
  ·obtain ⟨r, hr, hq⟩ := l2Draw_end (h := h) hn c w
   refine ⟨r, ev0 fun k => ?_, hq⟩
   simp only [spec_l2Draw.l3]
   rw [if_pos (Int.natCast_nonneg _), shl1 (by omega), if_neg (by omega)]
   exact hr
theorem spec_l2Draw_ok {l : List Int} {i h : Int} {n : Nat} (hn : n ≤ 4) (c : Cur l i) : ∃ r, Ev (fun k => spec_l2Draw.f k l i h n) r ∧ (r.1 = (n : Int) ∧ Cur l r.2.2.1) := by
 have hs : 2 ^ n ≤ 2 ^ 4 := Nat.pow_le_pow_right (by omega) hn
 unfold spec_l2Draw.f
 refine evx_bind (spec_l1Below_ok c (by omega)) fun b hb => ?_
 obtain ⟨b1, b2, b3⟩ := hb
 by_cases h0 : b.1 = 0
 ·simp only [if_pos h0]
  refine evx_bind (spec_l1Below_ok b3 (by simp only [mx]; split <;> omega)) fun b' hb' => ?_
  obtain ⟨c1, c2, c3⟩ := hb'
  obtain ⟨j, hj⟩ := Int.eq_ofNat_of_zero_le c1
  refine evx_bind (P := fun _ => True) (by rw [hj]; exact spec_l2Variable_ok hn) fun t _ => ?_
  obtain ⟨r, hr, hq⟩ := l2Draw_end (h := b'.2.2) hn c3 t
  exact ⟨r, ev_const hr, hq⟩
 ·simp only [if_neg h0]
  by_cases h1 : b.1 = 1
  ·simp only [if_pos h1]
   exact spec_l2Draw_l0_ok hn b3 (2 ^ n) 0 0 (Nat.sub_le _ _)
  ·simp only [if_neg h1]
   by_cases h2 : b.1 = 2
   ·simp only [if_pos h2]
    exact spec_l2Draw_l1_ok hn b3 (2 ^ n) 0 0 (Nat.sub_le _ _)
   ·simp only [if_neg h2]
    by_cases h3 : b.1 = 3
    ·simp only [if_pos h3, if_pos (Int.natCast_nonneg n), shl1 (show n ≤ 62 by omega)]
     refine evx_bind (spec_l1Below_ok b3 (by omega)) fun b' hb' => ?_
     exact spec_l2Draw_l2_ok hn hb'.2.2 (2 ^ n) 0 0 (Nat.sub_le _ _)
    ·simp only [if_neg h3]
     exact spec_l2Draw_l3_ok hn (2 ^ n) 0 0 _ _ (Nat.sub_le _ _) b3
theorem spec_l1PickInt_ok {l : List Int} {i h : Int} (c : Cur l i) {L : List Int} (hL : 0 < L.length) (hL2 : L.length ≤ 256) : ∃ r, Ev (fun _ => spec_l1PickInt.f l i h L) r ∧ (r.1 ∈ L ∧ Cur l r.2.1) := by
 unfold spec_l1PickInt.f
 refine evx_bind (spec_l1Below_ok c (by omega)) fun b hb => ?_
 obtain ⟨b1, b2, b3⟩ := hb
 have b4 := b2 (by omega)
 simp only [if_pos b1, if_pos b4]
 refine ⟨_, Ev.now _, ?_, b3⟩
 obtain ⟨j, hj⟩ := Int.eq_ofNat_of_zero_le b1
 show rd L b.1 ∈ L
 rw [hj, rd_nat, List.getD_eq_getElem?_getD, List.getElem?_eq_getElem (by omega)]
 exact List.getElem_mem _
theorem wf_small {n : Nat} (h : n ≤ 16) : (Lit.int .i64 (n : Int)).wf = true := by
 have : ((List.range 17).all fun n => (Lit.int .i64 ((n : Nat) : Int)).wf) = true := by decide
 exact List.all_eq_true.mp this n (List.mem_range.2 (by omega))
theorem spec_l2Any_ok {l : List Int} {i h : Int} (c : Cur l i) : ∃ r, Ev (fun k => spec_l2Any.f k l i h) r ∧ ((Lit.int .i64 r.1).wf = true ∧ Cur l r.2.2.1) := by
 unfold spec_l2Any.f
 refine evx_bind (spec_l1Below_ok c (by omega)) fun b hb => ?_
 obtain ⟨b1, b2, b3⟩ := hb
 have b4 := b2 (by omega)
 obtain ⟨n, hn⟩ := Int.eq_ofNat_of_zero_le b1
 refine evx_bind (P := fun r => r.1 = (n : Int) ∧ Cur l r.2.2.1) (by rw [hn]; exact spec_l2Draw_ok (by omega) b3) fun d hd => ?_
 have hw : (Lit.int .i64 d.1).wf = true := by rw [hd.1]; exact wf_small (by omega)
 refine evx_bind (spec_l1Below_ok hd.2 (by omega)) fun e he => ?_
 obtain ⟨e1, e2, e3⟩ := he
 by_cases h0 : e.1 = 0
 ·simp only [if_pos h0]
  exact evx_bind (spec_l1PickInt_ok e3 (by decide) (by decide)) fun q hq => ⟨_, Ev.now _, (by decide : ∀ x ∈ ([(-1), 6, 5, 0, 9223372036854775807] : List Int), (Lit.int .i64 x).wf = true) _ hq.1, hq.2⟩
 ·simp only [if_neg h0]
  by_cases h1 : e.1 = 1
  ·simp only [if_pos h1]
   exact evx_bind (spec_l1PickInt_ok e3 (by decide) (by decide)) fun q hq => ⟨_, Ev.now _, hw, hq.2⟩
  ·simp only [if_neg h1]
   exact ⟨_, Ev.now _, hw, e3⟩
/-- A reader laid over what came in, then a table. -/
theorem new_any {R : Type} {l : List Int} (hl : l.length ≤ 4611686018427387904) {F : Nat → List Int × Int × Int → Int × Int × Int × Int → Option R} {Q : R → Prop} (hF : ∀ h d, (Lit.int .i64 d.1).wf = true → Cur l d.2.2.1 → ∃ r, Ev (fun k => F k (l, h) d) r ∧ Q r) :
  ∃ r, Ev (fun k => (spec_l1New.f k l).bind fun b => (spec_l2Any.f k b.1 b.2.1 b.2.2).bind fun d => F k b d) r ∧ Q r := by
 refine evx_bind (spec_l1New_ok hl) fun b hb => ?_
 obtain ⟨b0, b1⟩ := hb
 obtain ⟨b, i, h⟩ := b
 simp only at b0 b1
 subst b0
 exact evx_bind (spec_l2Any_ok b1) fun d hd => hF (i, h) d hd.1 hd.2

theorem spec_IsTable_eq (b W : Int) : spec_IsTable.f b W = some (isTab b W) := rfl

theorem impl_makeTable_word_eq (g : Nat → Bool) : ∀ N, N ≤ 32 → impl_makeTable.word g N = ((wordN g N : Nat) : Int) := by
 intro N
 induction N with
 | zero => intro _; rfl
 | succ N ih =>
  intro hN
  simp only [impl_makeTable.word]
  rw [ih (by omega)]
  by_cases hg : g N = true
  ·rw [if_pos hg, wordN_or (by omega) hg]
  ·rw [if_neg hg]
   simp only [wordN]
   rw [if_neg hg]

theorem impl_Table_anf_sum_eq {w m : Nat} (hw : w < 9223372036854775808) (hm : m < 32) : ∀ N, N ≤ 32 → impl_Table_anf.sum w m N = b2i (ap w m N) := by
 intro N
 induction N with
 | zero => intro _; rfl
 | succ N ih =>
  intro hN
  simp only [impl_Table_anf.sum, ap]
  rw [ih (by omega), bandnotN (by omega) (by omega), at1 hw]
  by_cases e : N &&& m = N
  ·rw [if_pos (by rw [e, Nat.xor_self]; rfl), if_pos e, b2i_xor]
  ·rw [if_neg (fun h => e (xor_zero (by omega)).symm), if_neg e]
def anfW (n w : Nat) : Nat := wordN (fun m => ap w m (m + 1)) (2 ^ n)
theorem impl_Table_anf_eq {n w : Nat} (t : Tab n w) : impl_Table_anf.f n w = some ((n : Int), ((anfW n w : Nat) : Int)) := by
 have hn := t.hn
 have hs := t.size
 unfold impl_Table_anf.f
 rw [if_pos (by omega), Int.toNat_natCast, impl_makeTable_word_eq _ _ hs]
 unfold anfW
 rw [wordN_congr fun m hm => ?_]
 unfold impl_Table_anf.on
 rw [Int.toNat_natCast, impl_Table_anf_sum_eq t.w63 (by omega) _ hs, show 2 ^ n = m + 1 + (2 ^ n - (m + 1)) by omega, ap_short]
 cases ap w m (m + 1) <;> rfl
theorem anfW_tab {n w : Nat} (t : Tab n w) : Tab n (anfW n w) := ⟨t.hn, wordN_lt _ _⟩

theorem spec_l11Anf_ev {n w : Nat} (t : Tab n w) : Ev (fun k => spec_l11Anf.f k n w) ((anfW n w : Nat) : Int) := by
 have hn := t.hn
 have hs := t.size
 unfold spec_l11Anf.f anfW
 refine ev_for (fun k m => spec_l11Anf.l0 k ((wordN (fun m => ap w m (m + 1)) m : Nat) : Int) (m : Int) n w) (2 ^ n) ?_ ?_
 ·intro m hm h
  refine Ev.step (f := fun k => spec_l11Anf.l1 k ((wordN (fun m => ap w m (m + 1)) m : Nat) : Int) (m : Int) 0 0 n w) (fun k => ?_) ?_
  ·simp only [spec_l11Anf.l0]
   rw [if_pos (Int.natCast_nonneg _), shl1 (by omega), if_pos (Int.ofNat_lt.mpr hm)]
  refine ev_for (fun k x => spec_l11Anf.l1 k ((wordN (fun m => ap w m (m + 1)) m : Nat) : Int) (m : Int) (apS w m x) (x : Int) n w) (m + 1) ?_ ?_
  ·intro x hx h
   refine Ev.step (fun k => ?_) h
   have hb := apS_range w m x
   have hb1 := b2i_range (w.testBit x)
   simp only [spec_l11Anf.l1]
   rw [if_pos (by omega), bandN (by omega) (by omega), w64 (x := (x : Int) + 1) (by omega) (by omega), at1 t.w63, w64 (x := apS w m x + _) (by omega) (by omega)]
   by_cases e : x &&& m = x
   ·rw [if_pos (by rw [e]), if_pos (Int.natCast_nonneg _), show apS w m (x + 1) = apS w m x + b2i (w.testBit x) by unfold apS; simp only [sumI]; rw [if_pos e]]
    rfl
   ·rw [if_neg (by omega), show apS w m (x + 1) = apS w m x by unfold apS; simp only [sumI]; rw [if_neg e, Int.add_zero]]
    rfl
  ·refine Ev.step (fun k => ?_) h
   have hb := apS_range w m (m + 1)
   simp only [spec_l11Anf.l1]
   rw [if_neg (by omega), if_pos (Int.natCast_nonneg _), Int.tmod_eq_emod_of_nonneg hb.1, apS_par, w64 (by omega) (by omega)]
   have := wordN_step (g := fun m => ap w m (m + 1)) (x := m) (by omega)
   rw [this]
   rfl
 ·refine ev0 fun k => ?_
  simp only [spec_l11Anf.l0]
  rw [if_pos (Int.natCast_nonneg _), shl1 (by omega), if_neg (by omega)]

theorem impl_isBits_eq (b : Int) : impl_isBits.f b = some (decide (0 ≤ b ∧ b ≤ 5)) := by
 unfold impl_isBits.f
 by_cases h : b ≥ 0
 ·rw [if_pos h]; simp [show 0 ≤ b from h]
 ·rw [if_neg h]; simp [show ¬ 0 ≤ b from h]

theorem impl_Table_size_eq {n : Nat} (h : n ≤ 62) (W : Int) : impl_Table_size.f n W = some ((2 ^ n : Nat) : Int) := by
 unfold impl_Table_size.f
 rw [if_pos (Int.natCast_nonneg _), shl1 h]

theorem impl_IsTable_eq (b W : Int) : impl_IsTable.f b W = some (isTab b W) := by
 unfold impl_IsTable.f
 rw [impl_isBits_eq, Option.bind_some]
 by_cases h : 0 ≤ b ∧ b ≤ 5
 ·obtain ⟨n, rfl⟩ := Int.eq_ofNat_of_zero_le h.1
  rw [if_pos (decide_eq_true h)]
  by_cases h2 : W ≥ 0
  ·rw [if_pos h2]
   obtain ⟨w, rfl⟩ := Int.eq_ofNat_of_zero_le h2
   have hp : 2 ^ n ≤ 2 ^ 5 := Nat.pow_le_pow_right (by omega) (by omega)
   rw [impl_Table_size_eq (by omega), Option.bind_some, if_pos (Int.natCast_nonneg _), shrS (by omega)]
   congr 1
   unfold isTab
   rw [Bool.eq_iff_iff, decide_eq_true_iff, beq_iff_eq, Int.toNat_natCast]
   have e : ((2 : Int) ^ 2 ^ n) = ((2 ^ 2 ^ n : Nat) : Int) := by push_cast; rfl
   rw [e]
   have hd : w / 2 ^ 2 ^ n = 0 ↔ w < 2 ^ 2 ^ n := by rw [Nat.div_eq_zero_iff]; have := Nat.two_pow_pos (2 ^ n); omega
   constructor
   ·intro h3
    have := hd.1 (by omega)
    omega
   ·rintro ⟨_, _, _, h4⟩
    have := hd.2 (by omega)
    omega
  ·rw [if_neg h2, show isTab n W = false from decide_eq_false fun h3 => h2 h3.2.2.1]
 ·rw [if_neg (by rw [decide_eq_false h]; decide), show isTab b W = false from decide_eq_false fun h3 => h ⟨h3.1, h3.2.1⟩]

theorem impl_Table_at_eq {n w : Nat} (t : Tab n w) (x : Nat) : impl_Table_at.f n w x = some (b2i (w.testBit x)) := by
 unfold impl_Table_at.f
 rw [if_pos (Int.natCast_nonneg _), at1 t.w63]

theorem impl_isInput_eq {n : Nat} (h : n ≤ 62) (x : Int) : impl_isInput.f n x = some (isInp n x) := by
 unfold impl_isInput.f
 by_cases h0 : x ≥ 0
 ·rw [if_pos h0, if_pos (Int.natCast_nonneg _), shl1 h, isInp_lt h0]
 ·rw [if_neg h0, show isInp n x = false from decide_eq_false fun h3 => h0 h3.1]

theorem ev_bd {A R : Type} {g : Nat → Option A} {a : A} {F : Nat → A → Option R} {r : R} (h : Ev g a) (hF : Ev (fun k => F k a) r) : Ev (fun k => (g k).bind (F k)) r := ev1 h (fun k hk => by rw [hk]; rfl) hF
theorem ev_if {R : Type} {c : Prop} [Decidable c] {f g : Nat → Option R} {r : R} (hc : c) (h : Ev f r) : Ev (fun k => if c then f k else g k) r := by simp only [if_pos hc]; exact h
theorem ev_ifn {R : Type} {c : Prop} [Decidable c] {f g : Nat → Option R} {r : R} (hc : ¬ c) (h : Ev g r) : Ev (fun k => if c then f k else g k) r := by simp only [if_neg hc]; exact h

/-- A text of these bytes. -/
def ofL (l : List UInt8) : ByteArray := ⟨l.toArray⟩
theorem ofL_append (a b : List UInt8) : ofL a ++ ofL b = ofL (a ++ b) := Go.ByteArray.mk_append_mk a b
theorem ofL_size (a : List UInt8) : (ofL a).size = a.length := by simp [ofL, ByteArray.size]
theorem ofL_list (a : List UInt8) : (ofL a).toList = a := by rw [Go.ByteArray.toList_eq]; rfl
theorem ofL_data (a : List UInt8) : (ofL a).data.toList = a := rfl
/-- The letters of a set's variables below i. -/
def tl (m : Nat) : Nat → List UInt8
 | 0 => []
 | i + 1 => if m.testBit i = true then tl m i ++ [UInt8.ofNat (97 + i)] else tl m i
def term (n m : Nat) : List UInt8 := if tl m n = [] then [49] else tl m n
theorem tl_len (m i : Nat) : (tl m i).length ≤ i := by
 induction i with
 | zero => exact Nat.le_refl _
 | succ i ih =>
  simp only [tl]
  split
  ·rw [List.length_append]; simp; omega
  ·omega
theorem term_len {n m : Nat} (hn : n ≤ 5) : 1 ≤ (term n m).length ∧ (term n m).length ≤ 5 := by
 have := tl_len m n
 unfold term
 split
 ·simp
 ·rename_i h
  have : (tl m n).length ≠ 0 := fun e => h (List.eq_nil_of_length_eq_zero e)
  omega
theorem term_ne {n m : Nat} (hn : n ≤ 5) : term n m ≠ [] := by
 have := (term_len (m := m) hn).1
 intro e
 rw [e] at this
 simp at this
theorem letter_ext {i : Nat} (h : i < 5) : (⟨#[97, 98, 99, 100, 101]⟩ : ByteArray).extract (i : Int).toNat (wrap64 ((i : Int) + 1)).toNat = ofL [UInt8.ofNat (97 + i)] := by
 rw [w64 (by omega) (by omega), Int.toNat_natCast, show ((i : Int) + 1).toNat = i + 1 by omega]
 rcases (by omega : i = 0 ∨ i = 1 ∨ i = 2 ∨ i = 3 ∨ i = 4) with rfl | rfl | rfl | rfl | rfl <;> rfl
/-- A term's letters below i, with exclamation marks. -/
def gl (m v : Nat) : Nat → List UInt8
 | 0 => []
 | i + 1 => if m.testBit i = true then (if v.testBit i = true then gl m v i ++ [UInt8.ofNat (97 + i)] else gl m v i ++ [33] ++ [UInt8.ofNat (97 + i)]) else gl m v i
def gterm (n m v : Nat) : List UInt8 := if gl m v n = [] then [49] else gl m v n
theorem gl_self (m i : Nat) : gl m m i = tl m i := by
 induction i with
 | zero => rfl
 | succ i ih =>
  simp only [gl, tl]
  rw [ih]
  by_cases h : m.testBit i = true
  ·rw [if_pos h, if_pos h, if_pos h]
  ·rw [if_neg h, if_neg h]
theorem gterm_self (n m : Nat) : gterm n m m = term n m := by unfold gterm term; rw [gl_self]
theorem gl_len (m v i : Nat) : (gl m v i).length ≤ 2 * i := by
 induction i with
 | zero => exact Nat.le_refl _
 | succ i ih =>
  simp only [gl]
  split
  ·split
   ·rw [List.length_append]; simp; omega
   ·rw [List.length_append, List.length_append]; simp; omega
  ·omega
theorem spec_IsTerm_eq {n m v : Nat} (hn : n ≤ 5) (hm : m < 2 ^ n) (hv : v &&& m = v) : spec_IsTerm.f n m v = some true := by
 have hp := pow62 hn
 have hle : v ≤ m := by rw [← hv]; exact Nat.and_le_right
 unfold spec_IsTerm.f
 rw [if_pos ⟨⟨by omega, by omega⟩, by omega, by rw [inp_size]; omega, by omega, by omega, by rw [bandN (by omega) (by omega), hv]⟩]
theorem spec_FormatTerm_evg {n m v : Nat} (hn : n ≤ 5) (hm : m < 2 ^ n) (hv : v &&& m = v) : Ev (fun k => spec_FormatTerm.f k n m v) (ofL (gterm n m v)) := by
 have hp := pow62 hn
 have hle : v ≤ m := by rw [← hv]; exact Nat.and_le_right
 have hT := spec_IsTerm_eq hn hm hv
 unfold spec_FormatTerm.f
 refine ev_for (fun k i => spec_FormatTerm.l0 k n (ofL (gl m v i)) (i : Int) m v) n ?_ ?_
 ·intro i hi h
  have hl := gl_len m v i
  refine Ev.step (f := fun k => spec_FormatTerm.j1 k n (ofL (gl m v i)) (i : Int) true m v) (fun k => ?_) ?_
  ·simp only [spec_FormatTerm.l0]
   rw [hT, Option.bind_some, if_pos rfl, decide_eq_true (Int.ofNat_lt.mpr hi)]
  refine Ev.step (fun k => ?_) h
  simp only [spec_FormatTerm.j1, if_true]
  rw [if_pos (Int.natCast_nonneg _), at1 (w := m) (by omega), at1 (w := v) (by omega)]
  simp only [gl]
  by_cases hb : m.testBit i = true
  ·by_cases hc : v.testBit i = true
   ·rw [hb, hc, if_neg (by decide), if_neg (by decide), if_pos rfl, if_pos rfl, letter_ext (by omega), ofL_size, ofL_size, ofL_append, w64 (x := (i : Int) + 1) (by omega) (by omega), if_pos (by omega), if_pos (by omega), if_pos (by simp; omega)]
    rfl
   ·rw [hb, Bool.eq_false_iff.mpr hc, if_neg (by decide), if_pos (by decide), if_pos rfl, if_neg Bool.false_ne_true, letter_ext (by omega), show (⟨#[33]⟩ : ByteArray) = ofL [33] from rfl, ofL_append, ofL_append, ofL_size, ofL_size, ofL_size, w64 (x := (i : Int) + 1) (by omega) (by omega), if_pos (by omega), if_pos (by omega), if_pos (by omega), if_pos (by simp; omega)]
    rfl
  ·rw [Bool.eq_false_iff.mpr hb, if_pos (by decide), if_neg Bool.false_ne_true, w64 (x := (i : Int) + 1) (by omega) (by omega)]
   rfl
 ·refine Ev.step (f := fun k => spec_FormatTerm.j1 k n (ofL (gl m v n)) (n : Int) false m v) (fun k => ?_) (ev0 fun k => ?_)
  ·simp only [spec_FormatTerm.l0]
   rw [hT, Option.bind_some, if_pos rfl, decide_eq_false (by omega)]
  ·simp only [spec_FormatTerm.j1, Bool.false_eq_true, if_false]
   rw [ofL_list, hT]
   unfold gterm
   by_cases he : gl m v n = []
   ·rw [if_pos he, if_pos he]
    rfl
   ·rw [if_neg he, if_neg he]
theorem spec_FormatTerm_ev {n m : Nat} (hn : n ≤ 5) (hm : m < 2 ^ n) : Ev (fun k => spec_FormatTerm.f k n m m) (ofL (term n m)) := by
 have := spec_FormatTerm_evg hn hm (Nat.and_self m)
 rwa [gterm_self] at this
/-- The same letters, as numbers. -/
def nl (m v : Nat) : Nat → List Int
 | 0 => []
 | i + 1 => if m.testBit i = true then (if v.testBit i = true then nl m v i ++ [((97 + i : Nat) : Int)] else nl m v i ++ [33] ++ [((97 + i : Nat) : Int)]) else nl m v i
theorem nl_map (m v i : Nat) : (nl m v i).map (fun n => UInt8.ofNat n.toNat) = gl m v i := by
 induction i with
 | zero => rfl
 | succ i ih =>
  simp only [nl, gl]
  split
  ·split
   ·rw [List.map_append, ih]; rfl
   ·rw [List.map_append, List.map_append, ih]; rfl
  ·exact ih
theorem nl_len (m v i : Nat) : (nl m v i).length = (gl m v i).length := by rw [← nl_map, List.length_map]
theorem nl_str (m v i : Nat) : strOfNums (nl m v i) = ofL (gl m v i) := by
 unfold strOfNums ofL
 rw [nl_map]
theorem impl_IsTerm_eq {n m v : Nat} (hn : n ≤ 5) (hm : m < 32) (hv : v &&& m = v) : impl_IsTerm.f n m v = some (decide (m < 2 ^ n)) := by
 have hle : v ≤ m := by rw [← hv]; exact Nat.and_le_right
 unfold impl_IsTerm.f
 rw [impl_isBits_eq, Option.bind_some, decide_eq_true (show (0 : Int) ≤ (n : Int) ∧ (n : Int) ≤ 5 by omega), if_pos rfl, impl_isInput_eq (by omega)]
 by_cases h : m < 2 ^ n
 ·rw [isInp_mk h, Option.bind_some, if_pos rfl, if_pos (by omega), bandnotN (by omega) (by omega), hv, Nat.xor_self, decide_eq_true h]
  rfl
 ·rw [show isInp n m = false from decide_eq_false (by rw [inp_size]; omega), Option.bind_some, if_neg Bool.false_ne_true, decide_eq_false h]
theorem impl_FormatTerm_any {n m v : Nat} (hn : n ≤ 5) (hm : m < 32) (hv : v &&& m = v) : Ev (fun k => impl_FormatTerm.f k n m v) (if m < 2 ^ n then ofL (gterm n m v) else ofL []) := by
 have hle : v ≤ m := by rw [← hv]; exact Nat.and_le_right
 unfold impl_FormatTerm.f
 rw [impl_IsTerm_eq hn hm hv]
 by_cases hin : m < 2 ^ n
 case neg =>
  rw [if_neg hin]
  simp only [Option.bind_some, decide_eq_false hin, Bool.false_eq_true, if_false]
  exact Ev.now _
 rw [if_pos hin]
 simp only [Option.bind_some, decide_eq_true hin, if_true]
 refine ev_for (fun k i => impl_FormatTerm.l0 k (nl m v i) n (i : Int) m v) n ?_ ?_
 ·intro i hi h
  have hl := gl_len m v i
  have hl2 := nl_len m v i
  refine Ev.step (fun k => ?_) h
  simp only [impl_FormatTerm.l0]
  rw [if_pos (by omega), if_pos (Int.natCast_nonneg _), at1 (w := m) (by omega), at1 (w := v) (by omega)]
  simp only [nl]
  by_cases hb : m.testBit i = true
  ·by_cases hc : v.testBit i = true
   ·rw [hb, hc, if_neg (by decide), if_neg (by decide), if_pos rfl, if_pos rfl, if_pos (by omega), w64 (x := (i : Int) + 1) (by omega) (by omega), show (97 + ((i : Int) % 256)) % 256 = ((97 + i : Nat) : Int) by omega]
    rfl
   ·rw [hb, Bool.eq_false_iff.mpr hc, if_neg (by decide), if_pos (by decide), if_pos rfl, if_neg Bool.false_ne_true, if_pos (by omega), Option.bind_some, if_pos (by simp; omega), w64 (x := (i : Int) + 1) (by omega) (by omega), show (97 + ((i : Int) % 256)) % 256 = ((97 + i : Nat) : Int) by omega]
    rfl
  ·rw [Bool.eq_false_iff.mpr hb, if_pos (by decide), if_neg Bool.false_ne_true, w64 (x := (i : Int) + 1) (by omega) (by omega)]
   rfl
 ·refine ev0 fun k => ?_
  simp only [impl_FormatTerm.l0]
  rw [if_neg (by omega), nl_len, nl_str]
  unfold gterm
  by_cases he : gl m v n = []
  ·rw [if_pos (by rw [he]; rfl), if_pos he]
   rfl
  ·rw [if_neg (fun h => he (List.eq_nil_of_length_eq_zero (by omega))), if_neg he]
theorem impl_FormatTerm_ev {n m : Nat} (hn : n ≤ 5) (hm : m < 2 ^ n) : Ev (fun k => impl_FormatTerm.f k n m m) (ofL (term n m)) := by
 have hp := pow62 hn
 have := impl_FormatTerm_any hn (show m < 32 by omega) (Nat.and_self m)
 rwa [if_pos hm, gterm_self] at this
/-- The sets of a word, in order. -/
def ml (g : Nat) : Nat → List Nat
 | 0 => []
 | i + 1 => if g.testBit i = true then ml g i ++ [i] else ml g i
theorem ml_len (g i : Nat) : (ml g i).length ≤ i := by
 induction i with
 | zero => exact Nat.le_refl _
 | succ i ih =>
  simp only [ml]
  split
  ·rw [List.length_append]; simp; omega
  ·omega
theorem ml_lt (g : Nat) : ∀ i x, x ∈ ml g i → x < i := by
 intro i
 induction i with
 | zero => intro x h; simp [ml] at h
 | succ i ih =>
  intro x h
  simp only [ml] at h
  split at h
  ·rcases List.mem_append.1 h with h | h
   ·have := ih x h; omega
   ·rw [List.mem_singleton.1 h]; omega
  ·have := ih x h; omega
def sj (n g i : Nat) : List UInt8 := Go.Lib.join ((ml g i).map (term n)) [43]
theorem join_snoc (xs : List (List UInt8)) (x sep : List UInt8) : Go.Lib.join (xs ++ [x]) sep = if xs = [] then x else Go.Lib.join xs sep ++ sep ++ x := by
 induction xs with
 | nil => rw [List.nil_append, Go.Lib.join_one, if_pos rfl]
 | cons y ys ih =>
  rw [if_neg (by simp)]
  cases ys with
  | nil => simp [Go.Lib.join, List.intercalate, List.intersperse]
  | cons z zs =>
   rw [if_neg (by simp)] at ih
   have e1 : Go.Lib.join (y :: (z :: zs ++ [x])) sep = y ++ sep ++ Go.Lib.join (z :: zs ++ [x]) sep := by simp [Go.Lib.join, List.intercalate, List.intersperse]
   have e2 : Go.Lib.join (y :: z :: zs) sep = y ++ sep ++ Go.Lib.join (z :: zs) sep := by simp [Go.Lib.join, List.intercalate, List.intersperse]
   rw [List.cons_append, e1, ih, e2]
   simp
theorem sj_nil {n g i : Nat} (hn : n ≤ 5) : sj n g i = [] ↔ ml g i = [] := by
 induction i with
 | zero => simp [sj, ml, Go.Lib.join_nil]
 | succ i ih =>
  unfold sj at ih ⊢
  simp only [ml]
  split
  ·rw [List.map_append, List.map_cons, List.map_nil, join_snoc]
   have h1 := term_ne (m := i) hn
   constructor
   ·intro h
    split at h
    ·exact absurd h h1
    ·simp at h
   ·intro h; simp at h
  ·exact ih
theorem sj_len {n : Nat} (hn : n ≤ 5) (g i : Nat) : (sj n g i).length ≤ 6 * i := by
 induction i with
 | zero => simp [sj, ml, Go.Lib.join_nil]
 | succ i ih =>
  have ht := (term_len (m := i) hn).2
  unfold sj at ih ⊢
  simp only [ml]
  split
  ·rw [List.map_append, List.map_cons, List.map_nil, join_snoc]
   split
   ·omega
   ·simp only [List.length_append, List.length_cons, List.length_nil]
    omega
  ·omega
theorem sj_step {n g i : Nat} (hn : n ≤ 5) (hb : g.testBit i = true) : sj n g (i + 1) = if sj n g i = [] then term n i else sj n g i ++ [43] ++ term n i := by
 have h0 := sj_nil (g := g) (i := i) hn
 have e : sj n g (i + 1) = if (ml g i).map (term n) = [] then term n i else sj n g i ++ [43] ++ term n i := by
  unfold sj
  simp only [ml]
  rw [if_pos hb, List.map_append, List.map_cons, List.map_nil, join_snoc]
 rw [e]
 by_cases h : sj n g i = []
 ·rw [if_pos h, if_pos (by rw [h0.1 h]; rfl)]
 ·rw [if_neg h, if_neg (fun hh => h (h0.2 (List.map_eq_nil_iff.1 hh)))]
theorem sj_same {n g i : Nat} (hb : g.testBit i = false) : sj n g (i + 1) = sj n g i := by
 unfold sj
 simp only [ml]
 rw [if_neg (by rw [hb]; decide)]
theorem spec_FormatAnf_ev {n w : Nat} (t : Tab n w) : Ev (fun k => spec_FormatAnf.f k n w) (ofL (if sj n (anfW n w) (2 ^ n) = [] then [48] else sj n (anfW n w) (2 ^ n))) := by
 have hn := t.hn
 have hs := t.size
 have hg := (anfW_tab t).w63
 generalize hgg : anfW n w = g at *
 have hA := spec_l11Anf_ev t
 rw [hgg] at hA
 unfold spec_FormatAnf.f
 simp only [spec_IsTable_eq, isTab_mk t, Option.bind_some, if_true]
 refine ev_bd hA ?_
 refine ev_for (fun k i => spec_FormatAnf.l0 k (ofL (sj n g i)) (g : Int) (i : Int) n w) (2 ^ n) ?_ ?_
 ·intro i hi h
  have hl := sj_len hn g i
  have ht := term_len (m := i) hn
  by_cases hb : g.testBit i = true
  ·rw [sj_step hn hb] at h
   have hF := spec_FormatTerm_ev (m := i) hn hi
   refine evs1 hF (fun k hk => ?_) h
   simp only [spec_FormatAnf.l0]
   rw [if_pos (Int.natCast_nonneg _), shl1 (by omega), if_pos (by omega), if_pos (Int.natCast_nonneg _), at1 hg, hb, if_neg (by decide), ofL_list, w64 (x := (i : Int) + 1) (by omega) (by omega), hk, Option.bind_some, Option.bind_some]
   by_cases he : sj n g i = []
   ·rw [if_pos he, if_pos he, ofL_size, ofL_size, if_pos (by omega), he, ofL_append]
    rfl
   ·rw [if_neg he, if_neg he, show (⟨#[43]⟩ : ByteArray) = ofL [43] from rfl, ofL_append, ofL_append, ofL_size, ofL_size, ofL_size, if_pos (by omega), if_pos (by simp; omega)]
    rfl
  ·rw [sj_same (Bool.eq_false_iff.mpr hb)] at h
   refine Ev.step (fun k => ?_) h
   simp only [spec_FormatAnf.l0]
   rw [if_pos (Int.natCast_nonneg _), shl1 (by omega), if_pos (by omega), if_pos (Int.natCast_nonneg _), at1 hg, Bool.eq_false_iff.mpr hb, if_pos (by decide), w64 (x := (i : Int) + 1) (by omega) (by omega)]
   rfl
 ·refine ev0 fun k => ?_
  simp only [spec_FormatAnf.l0]
  rw [if_pos (Int.natCast_nonneg _), shl1 (by omega), if_neg (by omega), ofL_list]
  by_cases he : sj n g (2 ^ n) = []
  ·rw [if_pos he, if_pos he]
   rfl
  ·rw [if_neg he, if_neg he]
def tms (l : List Nat) : List S44 := l.map fun m : Nat => (⟨(m : Int), (m : Int)⟩ : S44)
theorem tms_len (l : List Nat) : (tms l).length = l.length := by simp [tms]
theorem tms_rd {l : List Nat} {i : Nat} (h : i < l.length) : rd_T44 (tms l) (i : Int) = ⟨((l[i] : Nat) : Int), ((l[i] : Nat) : Int)⟩ := by
 unfold rd_T44 tms
 rw [Int.toNat_natCast, List.getD_eq_getElem?_getD, List.getElem?_map, List.getElem?_eq_getElem h]
 rfl
theorem impl_joinTerms_ev {n : Nat} (hn : n ≤ 5) {l : List Nat} (hl : l.length ≤ 32) (hm : ∀ m ∈ l, m < 2 ^ n) : Ev (fun k => impl_joinTerms.f k n (tms l) (ofL [43])) (ofL (Go.Lib.join (l.map (term n)) [43])) := by
 have hjl : ∀ l : List Nat, (Go.Lib.join (l.map (term n)) [43]).length ≤ 6 * l.length := by
  intro l
  induction l with
  | nil => simp [Go.Lib.join_nil]
  | cons x xs ih =>
   have ht := (term_len (m := x) hn).2
   cases xs with
   | nil => rw [List.map_cons, List.map_nil, Go.Lib.join_one]; simp; omega
   | cons y ys =>
    have e1 : Go.Lib.join ((x :: y :: ys).map (term n)) [43] = term n x ++ [43] ++ Go.Lib.join ((y :: ys).map (term n)) [43] := by simp [Go.Lib.join, List.intercalate, List.intersperse]
    rw [e1]
    simp only [List.length_append, List.length_cons, List.length_nil] at ih ⊢
    omega
 unfold impl_joinTerms.f
 simp only [tms_len, if_pos (Int.natCast_nonneg _), Int.toNat_natCast, if_pos (show l.length ≤ 17592186044416 by omega)]
 have hrep : List.replicate l.length (⟨#[]⟩ : ByteArray) = (l.take 0).map (fun m => ofL (term n m)) ++ List.replicate (l.length - 0) (⟨#[]⟩ : ByteArray) := by simp
 rw [hrep]
 refine ev_for (fun k i => impl_joinTerms.l0 k n (ofL [43]) ((l.take i).map (fun m => ofL (term n m)) ++ List.replicate (l.length - i) (⟨#[]⟩ : ByteArray)) (tms l) (l.length : Int) (i : Int)) l.length ?_ ?_
 ·intro i hi h
  have hF := impl_FormatTerm_ev (m := l[i]) hn (hm _ (List.getElem_mem hi))
  have hlen : ((l.take i).map (fun m => ofL (term n m)) ++ List.replicate (l.length - i) (⟨#[]⟩ : ByteArray)).length = l.length := by
   simp [List.length_take]
   omega
  have hset : ((l.take i).map (fun m => ofL (term n m)) ++ List.replicate (l.length - i) (⟨#[]⟩ : ByteArray)).set i (ofL (term n l[i])) = (l.take (i + 1)).map (fun m => ofL (term n m)) ++ List.replicate (l.length - (i + 1)) (⟨#[]⟩ : ByteArray) := by
   have h1 : ((l.take i).map (fun m => ofL (term n m))).length = i := by simp [List.length_take]; omega
   rw [List.set_append_right _ _ (by omega), h1, Nat.sub_self, show l.length - i = (l.length - (i + 1)) + 1 by omega, List.replicate_succ, List.take_succ_eq_append_getElem hi, List.map_append, List.append_assoc]
   rfl
  refine evs1 hF (fun k hk => ?_) h
  simp only [impl_joinTerms.l0]
  rw [if_pos (by omega), if_pos (Int.natCast_nonneg _), tms_len, if_pos (by omega), tms_rd hi, hk, Option.bind_some, hlen, if_pos (by omega), Int.toNat_natCast, hset, w64 (by omega) (by omega)]
  rfl
 ·refine ev0 fun k => ?_
  simp only [impl_joinTerms.l0]
  rw [if_neg (by omega), List.take_length, Nat.sub_self, List.replicate_zero, List.append_nil]
  unfold strings_Join.f
  have hmap : (l.map fun m => ofL (term n m)).map (·.data.toList) = l.map (term n) := by
   rw [List.map_map]
   rfl
  rw [hmap, ofL_data, if_pos ⟨by rw [List.length_map]; omega, by have := hjl l; omega⟩]
  rfl
theorem impl_FormatAnf_ev {n w : Nat} (t : Tab n w) : Ev (fun k => impl_FormatAnf.f k n w) (ofL (if sj n (anfW n w) (2 ^ n) = [] then [48] else sj n (anfW n w) (2 ^ n))) := by
 have hn := t.hn
 have hs := t.size
 have tg := anfW_tab t
 have hA := impl_Table_anf_eq t
 generalize anfW n w = g at *
 unfold impl_FormatAnf.f
 simp only [impl_IsTable_eq, isTab_mk t, Option.bind_some, if_true, hA, impl_Table_size_eq (show n ≤ 62 by omega)]
 refine ev_for (fun k i => impl_FormatAnf.l0 k (tms (ml g i)) ((2 ^ n : Nat) : Int) (i : Int) n w n (g : Int)) (2 ^ n) ?_ ?_
 ·intro i hi h
  have hl := ml_len g i
  have hl2 := tms_len (ml g i)
  refine Ev.step (fun k => ?_) h
  simp only [impl_FormatAnf.l0]
  rw [if_pos (by omega), impl_Table_at_eq tg, Option.bind_some, w64 (by omega) (by omega)]
  simp only [ml]
  by_cases hb : g.testBit i = true
  ·rw [hb, if_pos (by decide), if_pos (by omega), if_pos rfl]
   unfold tms
   rw [List.map_append]
   rfl
  ·rw [Bool.eq_false_iff.mpr hb, if_neg (by decide), if_neg (by decide)]
   rfl
 ·have hl := ml_len g (2 ^ n)
  have h0 := sj_nil (g := g) (i := 2 ^ n) hn
  by_cases he : ml g (2 ^ n) = []
  ·rw [if_pos (h0.2 he)]
   refine ev0 fun k => ?_
   simp only [impl_FormatAnf.l0]
   rw [if_neg (by omega), he, if_pos (by rfl)]
   rfl
  ·rw [if_neg (fun h => he (h0.1 h))]
   have hJ := impl_joinTerms_ev hn (l := ml g (2 ^ n)) (by omega) fun m hm => ml_lt g _ m hm
   refine evs1 hJ (fun k hk => ?_) (Ev.now _)
   simp only [impl_FormatAnf.l0]
   rw [if_neg (by omega), tms_len, if_neg (fun h => he (List.eq_nil_of_length_eq_zero (by omega))), show (⟨#[43]⟩ : ByteArray) = ofL [43] from rfl, hk]
   rfl

theorem bits_OnesCount64_eq {a : Nat} (h : a < 4294967296) : bits_OnesCount64.f a = some ((pc a : Nat) : Int) := by
 obtain ⟨c0, c1, c2, c3, g0, g1, g2, g3, hv, hp, l1, l2⟩ := n123 h
 have e1 : IntKind.u64.wrap ((Go.bits .and .u64 ((a : Int) / 2) 6148914691236517205) + (Go.bits .and .u64 (a : Int) 6148914691236517205)) = ((n1 a : Nat) : Int) := by
  rw [show (a : Int) / 2 = ((a / 2 : Nat) : Int) by omega, show (6148914691236517205 : Int) = ((6148914691236517205 : Nat) : Int) from rfl, uand (by omega) (by omega), uand (by omega) (by omega), ← Int.natCast_add]
  exact uwrap (by unfold n1 at l1; omega)
 have e2 : IntKind.u64.wrap ((Go.bits .and .u64 (((n1 a : Nat) : Int) / 4) 3689348814741910323) + (Go.bits .and .u64 ((n1 a : Nat) : Int) 3689348814741910323)) = ((n2 (n1 a) : Nat) : Int) := by
  rw [show ((n1 a : Nat) : Int) / 4 = ((n1 a / 4 : Nat) : Int) by omega, show (3689348814741910323 : Int) = ((3689348814741910323 : Nat) : Int) from rfl, uand (by omega) (by omega), uand (by omega) (by omega), ← Int.natCast_add]
  exact uwrap (by unfold n2 at l2; omega)
 have e3 : Go.bits .and .u64 (IntKind.u64.wrap ((((n2 (n1 a) : Nat) : Int) / 16) + ((n2 (n1 a) : Nat) : Int))) 1085102592571150095 = ((n3 (n2 (n1 a)) : Nat) : Int) := by
  rw [show ((n2 (n1 a) : Nat) : Int) / 16 = ((n2 (n1 a) / 16 : Nat) : Int) by omega, ← Int.natCast_add, uwrap (by omega), show (1085102592571150095 : Int) = ((1085102592571150095 : Nat) : Int) from rfl, uand (by omega) (by omega)]
  rfl
 unfold bits_OnesCount64.f
 rw [e1, e2, e3, hv]
 rw [fold4 g0 g1 g2 g3, fold5 g0 g1 g2 g3, fold6 g0 g1 g2 g3, fold7 g0 g1 g2 g3, hp]

theorem impl_ones_eq {a : Nat} (h : a < 4294967296) : impl_ones.f a = some ((pc a : Nat) : Int) := by
 unfold impl_ones.f
 rw [uwrap (by omega), bits_OnesCount64_eq h, Option.bind_some]

theorem impl_Table_coefficients_ev {n w : Nat} (t : Tab n w) : Ev (fun k => impl_Table_coefficients.f k n w) (tab (2 ^ n) (cof n w)) := by
 have hn := t.hn
 have hs := t.size
 unfold impl_Table_coefficients.f
 simp only [impl_Table_size_eq (show n ≤ 62 by omega), Option.bind_some, Int.toNat_natCast]
 simp only [if_pos (Int.natCast_nonneg (2 ^ n)), if_pos (show 2 ^ n ≤ 35184372088832 by omega), List.length_replicate]
 have e0 := rwS_zero (2 ^ n) (cof n w)
 rw [← e0]
 refine ev_for (fun k u => impl_Table_coefficients.l0 k (rwS (2 ^ n) u (cof n w)) ((2 ^ n : Nat) : Int) (u : Int) n w) (2 ^ n) ?_ ?_
 ·intro u hu h
  refine Ev.step (f := fun k => impl_Table_coefficients.l1 k (rwAt (2 ^ n) u (cof n w) 0) (u : Int) ((2 ^ n : Nat) : Int) (u : Int) ((2 ^ n : Nat) : Int) 0 n w) (fun k => ?_) ?_
  ·simp only [impl_Table_coefficients.l0]
   rw [if_pos (Int.ofNat_lt.mpr hu), impl_Table_size_eq (by omega), Option.bind_some, rwS_at _ hu]
  refine ev_for (fun k x => impl_Table_coefficients.l1 k (rwAt (2 ^ n) u (cof n w) (sumI x (cofT w u))) (u : Int) ((2 ^ n : Nat) : Int) (u : Int) ((2 ^ n : Nat) : Int) (x : Int) n w) (2 ^ n) ?_ ?_
  ·intro x hx h
   refine Ev.step (fun k => ?_) h
   have hb := sumI_abs (n := x) (f := cofT w u) fun _ _ => cofT_range _ _ _
   have hc := cofT_range w u x
   have hxor : u ^^^ x < 2 ^ n := Nat.xor_lt_two_pow hu hx
   simp only [impl_Table_coefficients.l1]
   rw [if_pos (Int.ofNat_lt.mpr hx), bandnotN (by omega) (by omega), w64 (x := (x : Int) + 1) (by omega) (by omega)]
   by_cases e : x &&& u = x
   ·rw [if_pos (by rw [e, Nat.xor_self]; rfl), bxorN (by omega) (by omega), impl_ones_eq (by omega), Option.bind_some, Int.tmod_eq_emod_of_nonneg (Int.natCast_nonneg _), if_pos (Int.natCast_nonneg _), rwAt_len _ _ hu, if_pos (Int.ofNat_lt.mpr hu), impl_Table_at_eq t, Option.bind_some, if_pos (Int.natCast_nonneg _), if_pos (Int.ofNat_lt.mpr hu), Option.bind_some, rwAt_rd, Int.toNat_natCast, rwAt_set, rwAt_set]
    have hd : cofT w u x = if par (u ^^^ x) = true then -b2i (w.testBit x) else b2i (w.testBit x) := by unfold cofT; rw [if_pos e]
    have hp : (((pc (u ^^^ x) : Nat) : Int) % 2 = 0) ↔ ¬ par (u ^^^ x) = true := by unfold par; rw [beq_iff_eq]; omega
    by_cases e2 : par (u ^^^ x) = true
    ·rw [if_pos e2] at hd
     rw [if_neg (fun h => hp.1 h e2), w64 (by omega) (by omega)]
     show _ = impl_Table_coefficients.l1 k (rwAt _ _ _ (sumI x (cofT w u) + cofT w u x)) _ _ _ _ _ _ _
     rw [hd, Int.sub_eq_add_neg]
     rfl
    ·rw [if_neg e2] at hd
     rw [if_pos (hp.2 e2), w64 (by omega) (by omega)]
     show _ = impl_Table_coefficients.l1 k (rwAt _ _ _ (sumI x (cofT w u) + cofT w u x)) _ _ _ _ _ _ _
     rw [hd]
     rfl
   ·rw [if_neg (fun h => e (xor_zero (by omega)).symm)]
    show _ = impl_Table_coefficients.l1 k (rwAt _ _ _ (sumI x (cofT w u) + cofT w u x)) _ _ _ _ _ _ _
    rw [show cofT w u x = 0 by unfold cofT; rw [if_neg e], Int.add_zero]
    rfl
  ·refine Ev.step (fun k => ?_) h
   simp only [impl_Table_coefficients.l1]
   rw [if_neg (by omega), w64 (by omega) (by omega), show sumI (2 ^ n) (cofT w u) = cof n w u from rfl, rwAt_next _ hu]
   rfl
 ·refine ev0 fun k => ?_
  simp only [impl_Table_coefficients.l0]
  rw [if_neg (by omega), rwS_full]

theorem spec_RealCoefficients_no {b W : Int} (h : ¬ isTab b W = true) : Ev (fun k => spec_RealCoefficients.f k b W) [] := by
 unfold spec_RealCoefficients.f
 refine Ev.step (f := fun k => spec_RealCoefficients.j1 k [] 0 false b W) (fun k => ?_) (ev0 fun k => ?_)
 ·simp only [spec_RealCoefficients.l0, spec_IsTable_eq, Option.bind_some, if_neg h]
 ·simp only [spec_RealCoefficients.j1, Bool.false_eq_true, if_false]
theorem spec_RealCoefficients_ev {n w : Nat} (t : Tab n w) : Ev (fun k => spec_RealCoefficients.f k n w) (tab (2 ^ n) (cof n w)) := by
 have hn := t.hn
 have hs := t.size
 unfold spec_RealCoefficients.f
 refine ev_for (fun k u => spec_RealCoefficients.l0 k (tab u (cof n w)) (u : Int) n w) (2 ^ n) ?_ ?_
 ·intro u hu h
  refine Ev.step (f := fun k => spec_RealCoefficients.j1 k (tab u (cof n w)) (u : Int) true n w) (fun k => ?_) (Ev.step (f := fun k => spec_RealCoefficients.l1 k (tab u (cof n w)) (u : Int) 0 0 n w) (fun k => ?_) ?_)
  ·simp only [spec_RealCoefficients.l0, spec_IsTable_eq, Option.bind_some, isTab_mk t, if_true]
   rw [if_pos (Int.natCast_nonneg _), shl1 (by omega), decide_eq_true (Int.ofNat_lt.mpr hu)]
  ·simp only [spec_RealCoefficients.j1, if_true]
  refine ev_eq (r := tab (2 ^ n) (cof n w)) ?_ rfl
  refine ev_for (fun k x => spec_RealCoefficients.l1 k (tab u (cof n w)) (u : Int) (sumI x (cofT w u)) (x : Int) n w) (u + 1) ?_ ?_
  ·intro x hx h
   have hb := sumI_abs (n := x) (f := cofT w u) fun _ _ => cofT_range _ _ _
   have hc := cofT_range w u x
   have hux : x &&& u ≤ u := Nat.and_le_right
   have hxor : u ^^^ x < 2 ^ n := Nat.xor_lt_two_pow hu (by omega)
   by_cases e : x &&& u = x
   ·refine evs1 (spec_l2Count_ev (x := u ^^^ x) (by omega)) (fun k hk => ?_) h
    simp only [spec_RealCoefficients.l1]
    rw [if_pos (by omega), bandN (by omega) (by omega), if_pos (by rw [e]), bxorN (by omega) (by omega), hk, Option.bind_some, Int.tmod_eq_emod_of_nonneg (Int.natCast_nonneg _), w64 (x := (x : Int) + 1) (by omega) (by omega), if_pos (Int.natCast_nonneg _), at1 t.w63, if_pos (Int.natCast_nonneg _)]
    have hd : cofT w u x = if par (u ^^^ x) = true then -b2i (w.testBit x) else b2i (w.testBit x) := by unfold cofT; rw [if_pos e]
    have hp : (((pc (u ^^^ x) : Nat) : Int) % 2 = 1) ↔ par (u ^^^ x) = true := by unfold par; rw [beq_iff_eq]; omega
    by_cases e2 : par (u ^^^ x) = true
    ·rw [if_pos e2] at hd
     rw [if_pos (hp.2 e2), w64 (by omega) (by omega)]
     show _ = spec_RealCoefficients.l1 k _ _ (sumI x (cofT w u) + cofT w u x) _ _ _
     rw [hd, Int.sub_eq_add_neg]
     rfl
    ·rw [if_neg e2] at hd
     rw [if_neg (fun h => e2 (hp.1 h)), w64 (by omega) (by omega)]
     show _ = spec_RealCoefficients.l1 k _ _ (sumI x (cofT w u) + cofT w u x) _ _ _
     rw [hd]
     rfl
   ·refine Ev.step (fun k => ?_) h
    simp only [spec_RealCoefficients.l1]
    rw [if_pos (by omega), bandN (by omega) (by omega), if_neg (by omega), w64 (x := (x : Int) + 1) (by omega) (by omega)]
    show _ = spec_RealCoefficients.l1 k _ _ (sumI x (cofT w u) + cofT w u x) _ _ _
    rw [show cofT w u x = 0 by unfold cofT; rw [if_neg e], Int.add_zero]
    rfl
  ·refine Ev.step (fun k => ?_) h
   simp only [spec_RealCoefficients.l1]
   rw [if_neg (by omega), if_pos (by rw [tab_len]; omega), tab_succ, w64 (by omega) (by omega), cof_short hu]
   rfl
 ·refine Ev.step (f := fun k => spec_RealCoefficients.j1 k (tab (2 ^ n) (cof n w)) ((2 ^ n : Nat) : Int) false n w) (fun k => ?_) (ev0 fun k => ?_)
  ·simp only [spec_RealCoefficients.l0, spec_IsTable_eq, Option.bind_some, isTab_mk t, if_true]
   rw [if_pos (Int.natCast_nonneg _), shl1 (by omega), decide_eq_false (by omega)]
  ·simp only [spec_RealCoefficients.j1, Bool.false_eq_true, if_false]

theorem RealCoefficients_key (b W : Int) : ∃ l : List Int, l.length ≤ 1048576 ∧ Ev (fun k => spec_RealCoefficients.f k b W) l ∧ Ev (fun k => impl_RealCoefficients.f k b W) l := by
 by_cases h : isTab b W = true
 ·obtain ⟨n, w, rfl, rfl, t⟩ := isTab_yes h
  have hs := t.size
  refine ⟨_, ?_, spec_RealCoefficients_ev t, ?_⟩
  ·rw [tab_len]; omega
  ·unfold impl_RealCoefficients.f
   simp only [impl_IsTable_eq, h, Option.bind_some, if_true]
   exact ev1' (impl_Table_coefficients_ev t) fun k hk => by rw [hk]; rfl
 ·refine ⟨[], by simp, spec_RealCoefficients_no h, ?_⟩
  unfold impl_RealCoefficients.f
  simp only [impl_IsTable_eq, Bool.eq_false_iff.mpr h, Option.bind_some, Bool.false_eq_true, if_false]
  exact Ev.now _

theorem l1Once_ok {l : List Int} {i h n : Int} (c : Cur l i) (hn : n ≤ 256) : ∃ r, Ev (fun _ => spec_l1Once.f l i h n) r ∧ Cur l r.2.1 := by
 unfold spec_l1Once.f
 exact evx_bind (spec_l1Below_ok c hn) fun b hb => ⟨_, Ev.now _, hb.2.2⟩
theorem l1Pick_ok {l : List Int} {i h : Int} (c : Cur l i) {L : List ByteArray} (hL : 0 < L.length) (hL2 : L.length ≤ 256) : ∃ r, Ev (fun _ => spec_l1Pick.f l i h L) r ∧ True := by
 unfold spec_l1Pick.f
 refine evx_bind (spec_l1Below_ok c (by omega)) fun b hb => ?_
 obtain ⟨b1, b2, b3⟩ := hb
 have b4 := b2 (by omega)
 simp only [if_pos b1, if_pos b4]
 exact ⟨_, Ev.now _, trivial⟩
theorem l1Text_l0_ok {l : List Int} (x6 : Int) : ∀ (d : Nat) (x5 : List Int) (x7 cu h : Int), x7 ≤ d → x5.length + d ≤ 1000 → Cur l cu → ∃ r, Ev (fun k => spec_l1Text.l0 k x5 x6 x7 l cu h) r ∧ True := by
 intro d
 induction d with
 | zero =>
  intro x5 x7 cu h h7 _ _
  refine ⟨(strOfNums x5, cu, h), ev0 fun k => ?_, trivial⟩
  ·simp only [spec_l1Text.l0]
   rw [if_neg (by omega)]
 | succ d ih =>
  intro x5 x7 cu h h7 h5 c
  by_cases hx : x7 > 0
  ·have hw : wrap64 (x7 - 1) = x7 - 1 := w64 (by omega) (by omega)
   have hb : x5.length < 140737488355328 := by omega
   obtain ⟨b, hb1, _, _, hb3⟩ := spec_l1Byte_ok (h := h) c
   have go := fun (e : Int) => ih (x5 ++ [e]) (x7 - 1) b.2.1 b.2.2 (by omega) (by simp; omega) hb3
   by_cases h1 : x6 = 1
   ·obtain ⟨r, hr, _⟩ := go ((Int.tmod b.1 2) % 256)
    refine ⟨r, Ev.step (fun k => ?_) hr, trivial⟩
    simp only [spec_l1Text.l0]
    rw [if_pos hx, hb1, Option.bind_some, if_pos h1, if_neg (by omega), if_pos hb, hw]
   ·by_cases h2 : x6 = 2
    ·obtain ⟨r, hr, _⟩ := go ((wrap64 (97 + (Int.tmod b.1 4))) % 256)
     refine ⟨r, Ev.step (fun k => ?_) hr, trivial⟩
     simp only [spec_l1Text.l0]
     rw [if_pos hx, hb1, Option.bind_some, if_neg h1, if_pos h2, if_pos hb, hw]
    ·obtain ⟨r, hr, _⟩ := go (b.1 % 256)
     refine ⟨r, Ev.step (fun k => ?_) hr, trivial⟩
     simp only [spec_l1Text.l0]
     rw [if_pos hx, hb1, Option.bind_some, if_neg h1, if_neg h2, if_pos hb, hw]
  ·refine ⟨(strOfNums x5, cu, h), ev0 fun k => ?_, trivial⟩
   ·simp only [spec_l1Text.l0]
    rw [if_neg hx]
theorem l1Text_ok {l : List Int} {i h : Int} (c : Cur l i) : ∃ r, Ev (fun k => spec_l1Text.f k l i h 3) r ∧ True := by
 unfold spec_l1Text.f
 refine evx_bind (spec_l1Below_ok c (by omega)) fun b hb => ?_
 rw [show wrap64 (3 + 1) = 4 from w64 (by omega) (by omega)]
 refine evx_bind (spec_l1Below_ok hb.2.2 (by omega)) fun d hd => ?_
 have := hd.2.1 (by omega)
 exact l1Text_l0_ok b.1 4 [] d.1 d.2.1 d.2.2 (by omega) (by simp) hd.2.2
theorem str1 (x : Int) : (strOfNums [x]).size = 1 := rfl
theorem l1Spoil_ok {l : List Int} {i h : Int} (c : Cur l i) {s : ByteArray} (hs : s.size ≤ 192) : ∃ r, Ev (fun k => spec_l1Spoil.f k l i h s) r ∧ True := by
 unfold spec_l1Spoil.f
 by_cases h0 : (s.size : Int) = 0
 ·simp only [if_pos h0]
  exact evx_bind (l1Text_ok c) fun b _ => ⟨_, Ev.now _, trivial⟩
 simp only [if_neg h0]
 refine evx_bind (spec_l1Below_ok c (by omega)) fun a ha => ?_
 obtain ⟨a1, a2, a3⟩ := ha
 have a4 := a2 (by omega)
 refine evx_bind (spec_l1Below_ok a3 (by omega)) fun b hb => ?_
 have hw : wrap64 (a.1 + 1) = a.1 + 1 := w64 (by omega) (by omega)
 have e1 : (s.extract 0 a.1.toNat).size = a.1.toNat := by rw [ByteArray.size_extract]; omega
 have e2 : (s.extract a.1.toNat s.size).size = s.size - a.1.toNat := by rw [ByteArray.size_extract, Nat.min_self]
 have e3 : (s.extract (a.1 + 1).toNat s.size).size = s.size - (a.1 + 1).toNat := by rw [ByteArray.size_extract, Nat.min_self]
 have p1 : 0 ≤ a.1 := a1
 have p2 : a.1 ≤ (s.size : Int) := by omega
 have p3 : 0 ≤ a.1 + 1 := by omega
 have p4 : a.1 + 1 ≤ (s.size : Int) := by omega
 simp only [hw, if_pos p1, if_pos p2, if_pos p3, if_pos p4, if_pos a4]
 by_cases b0 : b.1 = 0
 ·have q : (s.extract 0 a.1.toNat).size + (s.extract (a.1 + 1).toNat s.size).size ≤ 9223372036854775807 := by rw [e1, e3]; omega
  simp only [if_pos b0, if_pos q]
  exact ⟨_, Ev.now _, trivial⟩
 simp only [if_neg b0]
 by_cases b1 : b.1 = 1
 ·simp only [if_pos b1]
  obtain ⟨d, hd, _⟩ := spec_l1Byte_ok (h := b.2.2) hb.2.2
  have q1 : (s.extract 0 a.1.toNat).size + (strOfNums [d.1 % 256]).size ≤ 9223372036854775807 := by rw [e1, str1]; omega
  have q2 : ((s.extract 0 a.1.toNat) ++ (strOfNums [d.1 % 256])).size + (s.extract a.1.toNat s.size).size ≤ 9223372036854775807 := by rw [ByteArray.size_append, e1, str1, e2]; omega
  simp only [hd, Option.bind_some, if_pos q1, if_pos q2]
  exact ⟨_, Ev.now _, trivial⟩
 simp only [if_neg b1]
 by_cases b2 : b.1 = 2
 ·simp only [if_pos b2]
  exact ⟨_, Ev.now _, trivial⟩
 simp only [if_neg b2]
 refine evx_bind (spec_l1Below_ok hb.2.2 (by omega)) fun d hd => ?_
 have q1 : ∀ x : Int, (s.extract 0 a.1.toNat).size + (strOfNums [x]).size ≤ 9223372036854775807 := fun x => by rw [e1, str1]; omega
 have q2 : ∀ x : Int, ((s.extract 0 a.1.toNat) ++ (strOfNums [x])).size + (s.extract (a.1 + 1).toNat s.size).size ≤ 9223372036854775807 := fun x => by rw [ByteArray.size_append, e1, str1, e3]; omega
 simp only [Option.bind_some, if_pos (q1 _), if_pos (q2 _)]
 exact ⟨_, Ev.now _, trivial⟩
theorem FormatAnf_ok (b W : Int) : ∃ s : ByteArray, s.size ≤ 192 ∧ Ev (fun k => spec_FormatAnf.f k b W) s ∧ Ev (fun k => impl_FormatAnf.f k b W) s := by
 by_cases h : isTab b W = true
 ·obtain ⟨n, w, rfl, rfl, t⟩ := isTab_yes h
  refine ⟨_, ?_, spec_FormatAnf_ev t, impl_FormatAnf_ev t⟩
  have h1 := sj_len t.hn (anfW n w) (2 ^ n)
  have h2 := t.size
  rw [ofL_size]
  split
  ·simp
  ·omega
 ·refine ⟨⟨#[]⟩, by decide, ?_, ?_⟩
  ·unfold spec_FormatAnf.f
   simp only [spec_IsTable_eq, Option.bind_some, if_neg h]
   exact Ev.now _
  ·unfold impl_FormatAnf.f
   simp only [impl_IsTable_eq, Option.bind_some, if_neg h]
   exact Ev.now _
theorem DrawAnfOf_ok {l : List Int} (hl : l.length ≤ 4611686018427387904) : ∃ r, Ev (fun k => spec_DrawAnfOf.f k l) r ∧ True := by
 unfold spec_DrawAnfOf.f
 exact new_any hl fun h d _ _ => ⟨_, Ev.now _, trivial⟩
theorem DrawFormatAnf_ok {l : List Int} (hl : l.length ≤ 4611686018427387904) : ∃ r, Ev (fun k => spec_DrawFormatAnf.f k l) r ∧ True := by
 unfold spec_DrawFormatAnf.f
 exact new_any hl fun h d _ _ => ⟨_, Ev.now _, trivial⟩
theorem DrawParseAnf_ok {l : List Int} (hl : l.length ≤ 4611686018427387904) : ∃ r, Ev (fun k => spec_DrawParseAnf.f k l) r ∧ True := by
 unfold spec_DrawParseAnf.f
 refine new_any hl fun h d _ hd => ?_
 obtain ⟨s, hs, hE, _⟩ := FormatAnf_ok d.1 d.2.1
 refine evx_bind (P := fun s : ByteArray => s.size ≤ 192) ⟨s, hE, hs⟩ fun s hs => ?_
 refine evx_bind (spec_l1Below_ok hd (by omega)) fun b hb => ?_
 by_cases b0 : b.1 = 0
 ·simp only [if_pos b0]
  exact evx_bind (l1Spoil_ok hb.2.2 hs) fun e _ => ⟨_, Ev.now _, trivial⟩
 simp only [if_neg b0]
 by_cases b1 : b.1 = 1
 ·simp only [if_pos b1]
  exact evx_bind (l1Pick_ok hb.2.2 (by decide) (by decide)) fun e _ => ⟨_, Ev.now _, trivial⟩
 simp only [if_neg b1]
 exact ⟨_, Ev.now _, trivial⟩
theorem DrawToC_end {l : List Int} {cu h : Int} (c : Cur l cu) {t : List Int} (ht : t.length ≤ 32) : ∃ r : List Int, Ev (fun _ => (spec_l1Once.f l cu h 14).bind fun bt => if bt.1 = true then (if t.length < 17592186044416 then some (t ++ [0]) else none) else some t) r ∧ True := by
 refine evx_bind (l1Once_ok c (by omega)) fun b _ => ?_
 have q : t.length < 17592186044416 := by omega
 simp only [if_pos q]
 by_cases h1 : b.1 = true
 ·simp only [if_pos h1]
  exact ⟨_, Ev.now _, trivial⟩
 ·simp only [if_neg h1]
  exact ⟨_, Ev.now _, trivial⟩
theorem DrawToC_j0 {l : List Int} {cu h : Int} (c : Cur l cu) {t : List Int} (ht : t.length ≤ 32) (b : Bool) (hb : b = true → 0 < t.length) : ∃ r, Ev (fun k => spec_DrawTableOfCoefficients.j0 k t b l cu h) r ∧ True := by
 cases b with
 | false =>
  obtain ⟨r, hr, _⟩ := DrawToC_end (h := h) c ht
  refine ⟨r, Ev.step (fun k => ?_) hr, trivial⟩
  simp only [spec_DrawTableOfCoefficients.j0, Bool.false_eq_true, if_false]
 | true =>
  have h0 := hb rfl
  have key : ∃ r : List Int, Ev (fun k : Nat => (spec_l1Below.f l cu h (t.length : Int)).bind fun bt792 => (spec_l1PickInt.f l bt792.2.1 bt792.2.2 ([0, 1, (-1), 1001, (-9223372036854775808)] : List Int)).bind fun bt798 => if 0 ≤ bt792.1 then (if bt792.1 < (t.length : Int) then ((some (t.set (bt792.1 : Int).toNat bt798.1 : List Int)).bind fun y801 => ((spec_l1Once.f l bt798.2.1 bt798.2.2 14).bind fun bt802 => if bt802.1 = true then (if y801.length < 17592186044416 then some (y801 ++ [0]) else none) else some y801)) else none) else none) r ∧ True := by
   refine evx_bind (spec_l1Below_ok c (by omega)) fun a ha => ?_
   obtain ⟨a1, a2, a3⟩ := ha
   have a4 := a2 (by omega)
   refine evx_bind (spec_l1PickInt_ok a3 (by decide) (by decide)) fun p hp => ?_
   simp only [if_pos a1, if_pos a4, Option.bind_some]
   exact DrawToC_end hp.2 (by rw [List.length_set]; exact ht)
  obtain ⟨r, hr, _⟩ := key
  refine ⟨r, Ev.step (fun k => ?_) hr, trivial⟩
  simp only [spec_DrawTableOfCoefficients.j0, if_true]
theorem RealC_ok (b W : Int) : ∃ l : List Int, Ev (fun k => spec_RealCoefficients.f k b W) l ∧ l.length ≤ 32 := by
 by_cases h : isTab b W = true
 ·obtain ⟨n, w, rfl, rfl, t⟩ := isTab_yes h
  exact ⟨_, spec_RealCoefficients_ev t, by rw [tab_len]; exact t.size⟩
 ·exact ⟨[], spec_RealCoefficients_no h, by decide⟩
theorem DrawToC_ok {l : List Int} (hl : l.length ≤ 4611686018427387904) : ∃ r, Ev (fun k => spec_DrawTableOfCoefficients.f k l) r ∧ True := by
 unfold spec_DrawTableOfCoefficients.f
 refine new_any hl fun h d _ hd => ?_
 refine evx_bind (RealC_ok d.1 d.2.1) fun t ht => ?_
 by_cases h0 : (t.length : Int) > 0
 ·simp only [if_pos h0]
  exact evx_bind (l1Once_ok hd (by omega)) fun b hb => DrawToC_j0 hb ht b.1 fun _ => by omega
 ·simp only [if_neg h0]
  exact DrawToC_j0 hd ht false fun e => absurd e (by decide)

theorem ofL_back (a : ByteArray) : ofL a.data.toList = a := by cases a; rfl
theorem u8_ext {c d : UInt8} (h : c.toNat = d.toNat) : c = d := UInt8.toNat_inj.1 h
theorem bt_ofL {l : List UInt8} {i : Nat} (h : i < l.length) : bt (ofL l) (i : Int) = ((l[i].toNat : Nat) : Int) := by
 have h' : ((i : Int).toNat) < (ofL l).size := by rw [ofL_size, Int.toNat_natCast]; exact h
 unfold bt
 rw [dif_pos h']
 rfl
theorem ext_ofL {l : List UInt8} {i : Nat} (h : i < l.length) : (ofL l).extract i (i + 1) = ofL [l[i]] := by
 have h1 : l.toArray.extract i (i + 1) = #[l[i]] := by
  rw [List.extract_toArray]
  congr 1
  rw [List.extract_eq_take_drop, Nat.add_sub_cancel_left, List.drop_eq_getElem_cons h]
  rfl
 apply ByteArray.ext
 rw [ByteArray.data_extract]
 exact h1
theorem l1In_eq (a b c : Int) : spec_l1In.f a b c = some (decide (b ≤ a ∧ a ≤ c)) := by
 unfold spec_l1In.f
 by_cases h : a ≥ b
 ·rw [if_pos h]; simp [show b ≤ a from h]
 ·rw [if_neg h]; simp [show ¬ b ≤ a from h]
theorem isLetter_eq (c : Int) : impl_isLetter.f c = some (decide (97 ≤ c ∧ c < 102)) := by
 unfold impl_isLetter.f
 by_cases h : c ≥ 97
 ·rw [if_pos h]; simp [show 97 ≤ c from h]
 ·rw [if_neg h]; simp [show ¬ 97 ≤ c from h]
/-- A letter more: the mask, the value, whether the next letter stands for 1. -/
def stp (s : Nat × Nat × Bool) (c : UInt8) : Nat × Nat × Bool :=
 if c.toNat = 33 then (s.1, s.2.1, false) else if 97 ≤ c.toNat ∧ c.toNat < 102 then (s.1 ||| 2 ^ (c.toNat - 97), if s.2.2 = true then s.2.1 ||| 2 ^ (c.toNat - 97) else s.2.1, true) else s
def scn (l : List UInt8) (s : Nat × Nat × Bool) : Nat × Nat × Bool := l.foldl stp s
def sok (N : Nat) (s : Nat × Nat × Bool) : Prop := s.1 < 2 ^ N ∧ s.2.1 &&& s.1 = s.2.1
theorem or_sub {v m b : Nat} (h : v &&& m = v) : v &&& (m ||| b) = v := by
 apply Nat.eq_of_testBit_eq
 intro i
 have e := congrArg (fun x => x.testBit i) h
 simp only [Nat.testBit_and, Nat.testBit_or] at e ⊢
 revert e
 cases v.testBit i <;> cases m.testBit i <;> simp
theorem or_sub2 {v m b : Nat} (h : v &&& m = v) : (v ||| b) &&& (m ||| b) = v ||| b := by
 apply Nat.eq_of_testBit_eq
 intro i
 have e := congrArg (fun x => x.testBit i) h
 simp only [Nat.testBit_and, Nat.testBit_or] at e ⊢
 revert e
 cases v.testBit i <;> cases m.testBit i <;> cases b.testBit i <;> simp
theorem sok_step {N : Nat} {s : Nat × Nat × Bool} {c : UInt8} (h : sok N s) (hc : c.toNat = 33 ∨ ¬ (97 ≤ c.toNat ∧ c.toNat < 102) ∨ c.toNat < 97 + N) : sok N (stp s c) := by
 obtain ⟨h1, h2⟩ := h
 unfold stp
 split
 ·exact ⟨h1, h2⟩
 ·rename_i n33
  split
  ·rename_i hl
   have hlt : c.toNat - 97 < N := by omega
   have hp : 2 ^ (c.toNat - 97) < 2 ^ N := pow_lt_size hlt
   refine ⟨Nat.or_lt_two_pow h1 hp, ?_⟩
   show (if s.2.2 = true then s.2.1 ||| 2 ^ (c.toNat - 97) else s.2.1) &&& (s.1 ||| 2 ^ (c.toNat - 97)) = _
   split
   ·exact or_sub2 h2
   ·exact or_sub h2
  ·exact ⟨h1, h2⟩
theorem sok_scn {N : Nat} (l : List UInt8) : ∀ s, sok N s → (∀ c ∈ l, c.toNat = 33 ∨ ¬ (97 ≤ c.toNat ∧ c.toNat < 102) ∨ c.toNat < 97 + N) → sok N (scn l s) := by
 induction l with
 | nil => intro s h _; exact h
 | cons c l ih =>
  intro s h hc
  exact ih _ (sok_step h (hc c List.mem_cons_self)) fun d hd => hc d (List.mem_cons_of_mem _ hd)
theorem sok5 (l : List UInt8) : sok 5 (scn l (0, 0, true)) := sok_scn l _ ⟨by decide, rfl⟩ fun c _ => by omega
def val (n : Nat) (c : UInt8) : Bool := decide (c.toNat = 33 ∨ (97 ≤ c.toNat ∧ c.toNat < 97 + n))
theorem gl_val {n : Nat} (hn : n ≤ 5) (m v : Nat) : ∀ i, i ≤ n → ∀ c ∈ gl m v i, val n c = true := by
 have hv : ∀ i, i < n → val n (UInt8.ofNat (97 + i)) = true := by
  intro i hi
  refine decide_eq_true (.inr ?_)
  rw [UInt8.toNat_ofNat', Nat.mod_eq_of_lt (by omega)]
  omega
 intro i
 induction i with
 | zero => intro _ c hc; simp [gl] at hc
 | succ i ih =>
  intro hi c hc
  simp only [gl] at hc
  split at hc
  ·split at hc
   ·rcases List.mem_append.1 hc with h | h
    ·exact ih (by omega) c h
    ·rw [List.mem_singleton.1 h]; exact hv i (by omega)
   ·rcases List.mem_append.1 hc with h | h
    ·rcases List.mem_append.1 h with h | h
     ·exact ih (by omega) c h
     ·rw [List.mem_singleton.1 h]; exact decide_eq_true (.inl rfl)
    ·rw [List.mem_singleton.1 h]; exact hv i (by omega)
  ·exact ih (by omega) c hc
theorem gl_bang {m v i : Nat} (h1 : m.testBit i = true) (h2 : v.testBit i = false) : ∀ j, i < j → 33 ∈ gl m v j := by
 intro j
 induction j with
 | zero => intro h; omega
 | succ j ih =>
  intro hj
  simp only [gl]
  by_cases e : i = j
  ·subst e
   rw [if_pos h1, if_neg (by rw [h2]; decide)]
   simp
  ·have := ih (by omega)
   split
   ·split
    ·exact List.mem_append_left _ this
    ·exact List.mem_append_left _ (List.mem_append_left _ this)
   ·exact this
theorem gterm_bang {n m v : Nat} (hm : m < 2 ^ n) (hv : v &&& m = v) (hne : m ≠ v) : (33 : UInt8) ∈ gterm n m v := by
 have : ∃ i, m.testBit i = true ∧ v.testBit i = false := by
  refine Classical.byContradiction fun hno => hne (Nat.eq_of_testBit_eq fun i => ?_)
  have e := congrArg (fun x => x.testBit i) hv
  simp only [Nat.testBit_and] at e
  have h3 : ¬ (m.testBit i = true ∧ v.testBit i = false) := fun h => hno ⟨i, h⟩
  revert e h3
  cases v.testBit i <;> cases m.testBit i <;> simp
 obtain ⟨i, h1, h2⟩ := this
 have hi : i < n := by
  refine Nat.lt_of_not_le fun h => ?_
  rw [Nat.testBit_lt_two_pow (Nat.lt_of_lt_of_le hm (Nat.pow_le_pow_right (by omega) h))] at h1
  exact absurd h1 (by decide)
 have hb := gl_bang h1 h2 n hi
 unfold gterm
 rw [if_neg (fun e => by rw [e] at hb; simp at hb)]
 exact hb
/-- What a part's letters tell: the mask and the value. -/
def pt (l : List UInt8) : Nat × Nat := if l = [49] then (0, 0) else ((scn l (0, 0, true)).1, (scn l (0, 0, true)).2.1)
theorem pt_ok (l : List UInt8) : (pt l).1 < 32 ∧ (pt l).2 &&& (pt l).1 = (pt l).2 := by
 unfold pt
 split
 ·exact ⟨by decide, rfl⟩
 ·exact sok5 l
def ok (n : Nat) (l : List UInt8) (m v : Nat) : Bool := decide (l ≠ [] ∧ m < 2 ^ n ∧ gterm n m v = l)
def res (n : Nat) (l : List UInt8) (m v : Nat) : Int × Int × Bool := if ok n l m v = true then ((m : Int), (v : Int), true) else (0, 0, false)
def pres (n : Nat) (l : List UInt8) : Int × Int × Bool := res n l (pt l).1 (pt l).2
theorem spec_end {n : Nat} (hn : n ≤ 5) {l : List UInt8} {m v : Nat} (hm : m < 2 ^ n) (hv : v &&& m = v) : Ev (fun k => if (ofL l).toList = ([] : List UInt8) then some ((0 : Int), (0 : Int), false) else (spec_FormatTerm.f k n m v).bind fun t => if t.toList = (ofL l).toList then some ((m : Int), (v : Int), true) else some ((0 : Int), (0 : Int), false)) (res n l m v) := by
 simp only [ofL_list]
 by_cases h : l = []
 ·simp only [if_pos h]
  unfold res ok
  rw [if_neg (by simp [h])]
  exact Ev.now _
 simp only [if_neg h]
 refine ev_bd (spec_FormatTerm_evg hn hm hv) ?_
 simp only [ofL_list]
 unfold res ok
 by_cases he : gterm n m v = l
 ·simp only [if_pos he]
  rw [if_pos (decide_eq_true ⟨h, hm, he⟩)]
  exact Ev.now _
 ·simp only [if_neg he]
  rw [if_neg (by simp [he])]
  exact Ev.now _
theorem impl_end {n : Nat} (hn : n ≤ 5) {l : List UInt8} {m v : Nat} (hm : m < 32) (hv : v &&& m = v) : Ev (fun k => if (ofL l).toList = ([] : List UInt8) then some ((0 : Int), (0 : Int), false) else (impl_FormatTerm.f k n m v).bind fun t => if t.toList = (ofL l).toList then some ((m : Int), (v : Int), true) else some ((0 : Int), (0 : Int), false)) (res n l m v) := by
 simp only [ofL_list]
 by_cases h : l = []
 ·simp only [if_pos h]
  unfold res ok
  rw [if_neg (by simp [h])]
  exact Ev.now _
 simp only [if_neg h]
 refine ev_bd (impl_FormatTerm_any hn hm hv) ?_
 unfold res ok
 by_cases hin : m < 2 ^ n
 ·simp only [if_pos hin, ofL_list]
  by_cases he : gterm n m v = l
  ·simp only [if_pos he]
   rw [if_pos (decide_eq_true ⟨h, hin, he⟩)]
   exact Ev.now _
  ·simp only [if_neg he]
   rw [if_neg (by simp [he])]
   exact Ev.now _
 ·simp only [if_neg hin, ofL_list]
  have h' : ¬ ([] : List UInt8) = l := fun e => h e.symm
  simp only [if_neg h']
  rw [if_neg (by simp [hin])]
  exact Ev.now _
theorem spec_scan {n : Nat} (hn : n ≤ 5) {l : List UInt8} (hl : l.length ≤ 200) (h49 : l ≠ [49]) : ∀ (r pre : List UInt8) (s : Nat × Nat × Bool), l = pre ++ r → sok n s → Ev (fun k => spec_ParseTerm.l0 k n (ofL l) (!s.2.2) (pre.length : Int) s.1 s.2.1) (if r.all (val n) = true then res n l (scn r s).1 (scn r s).2.1 else (0, 0, false)) := by
 intro r
 have hbne : (l != ([49] : List UInt8)) = true := bne_iff_ne.mpr h49
 induction r with
 | nil =>
  intro pre s e hs
  have hlen : pre.length = l.length := by rw [e]; simp
  refine Ev.step (f := fun k => spec_ParseTerm.j1 k n (ofL l) (!s.2.2) (pre.length : Int) false s.1 s.2.1) (fun k => ?_) ?_
  ·simp only [spec_ParseTerm.l0]
   rw [if_neg (by rw [ofL_size]; omega)]
  refine Ev.step (fun k => ?_) (spec_end hn (l := l) hs.1 hs.2)
  simp only [spec_ParseTerm.j1, Bool.false_eq_true, if_false]
  rfl
 | cons c r ih =>
  intro pre s e hs
  have hlen : pre.length < l.length := by rw [e]; simp
  have hc : l[pre.length] = c := by simp [e]
  have hnext := fun s' hs' => ih (pre ++ [c]) s' (by rw [e]; simp) hs'
  simp only [List.length_append, List.length_cons, List.length_nil] at hnext
  have hsz := (ofL_size l)
  have hbt := bt_ofL hlen
  rw [hc] at hbt
  have hu := c.toNat_lt
  refine Ev.step (f := fun k => spec_ParseTerm.j1 k n (ofL l) (!s.2.2) (pre.length : Int) true s.1 s.2.1) (fun k => ?_) ?_
  ·simp only [spec_ParseTerm.l0]
   rw [if_pos (by rw [hsz]; omega), ofL_list, hbne]
  have hw : wrap64 ((pre.length : Int) + 1) = ((pre.length + 1 : Nat) : Int) := by rw [w64 (by omega) (by omega)]; rfl
  rw [List.all_cons]
  by_cases c33 : c.toNat = 33
  ·have hv : val n c = true := decide_eq_true (.inl c33)
   have hst : stp s c = (s.1, s.2.1, false) := by unfold stp; rw [if_pos c33]
   rw [hv, Bool.true_and]
   have := hnext (stp s c) (sok_step hs (.inl c33))
   rw [hst] at this
   show Ev _ (if _ then res n l (scn r (stp s c)).1 (scn r (stp s c)).2.1 else _)
   rw [hst]
   refine Ev.step (fun k => ?_) this
   simp only [spec_ParseTerm.j1, if_true]
   rw [if_pos (Int.natCast_nonneg _), if_pos (by rw [hsz]; omega), hbt, if_pos (by omega), hw]
   rfl
  ·have hk : wrap64 (wrap64 ((c.toNat : Nat) : Int) - 97) = ((c.toNat : Nat) : Int) - 97 := by rw [w64 (x := ((c.toNat : Nat) : Int)) (by omega) (by omega), w64 (by omega) (by omega)]
   have hn1 : wrap64 ((n : Int) - 1) = (n : Int) - 1 := w64 (by omega) (by omega)
   by_cases hv : 97 ≤ c.toNat ∧ c.toNat < 97 + n
   ·have hval : val n c = true := decide_eq_true (.inr hv)
    have hp : 2 ^ (c.toNat - 97) < 2 ^ n := pow_lt_size (by omega)
    have hp5 := pow62 hn
    have hs1 := hs.1
    have hs2 : s.2.1 ≤ s.1 := by rw [← hs.2]; exact Nat.and_le_right
    have hst : stp s c = (s.1 ||| 2 ^ (c.toNat - 97), if s.2.2 = true then s.2.1 ||| 2 ^ (c.toNat - 97) else s.2.1, true) := by unfold stp; rw [if_neg c33, if_pos (by omega)]
    rw [hval, Bool.true_and]
    have hN := hnext (stp s c) (sok_step hs (.inr (.inr (by omega))))
    rw [hst] at hN
    show Ev _ (if _ then res n l (scn r (stp s c)).1 (scn r (stp s c)).2.1 else _)
    rw [hst]
    refine Ev.step (f := fun k => spec_ParseTerm.j2 k n (ofL l) (!s.2.2) (pre.length : Int) (((c.toNat : Nat) : Int) - 97) false s.1 s.2.1) (fun k => ?_) ?_
    ·simp only [spec_ParseTerm.j1, if_true]
     rw [if_pos (Int.natCast_nonneg _), if_pos (by rw [hsz]; omega), hbt, if_neg (by omega), l1In_eq, Option.bind_some, if_pos (decide_eq_true (by omega)), hk, hn1, l1In_eq, Option.bind_some, decide_eq_true (by omega)]
     rfl
    refine Ev.step (fun k => ?_) hN
    simp only [spec_ParseTerm.j2, Bool.false_eq_true, if_false]
    have hsh : shl .i64 1 (((c.toNat : Nat) : Int) - 97) = ((2 ^ (c.toNat - 97) : Nat) : Int) := by rw [show ((c.toNat : Nat) : Int) - 97 = ((c.toNat - 97 : Nat) : Int) by omega, shl1 (by omega)]
    rw [if_pos (by omega), hsh, borN (by omega) (by omega), borN (by omega) (by omega), hw]
    cases s.2.2 <;> rfl
   ·have hval : val n c = false := decide_eq_false (by omega)
    rw [hval, Bool.false_and, if_neg Bool.false_ne_true]
    refine Ev.step (f := fun k => spec_ParseTerm.j2 k n (ofL l) (!s.2.2) (pre.length : Int) (((c.toNat : Nat) : Int) - 97) true s.1 s.2.1) (fun k => ?_) (ev0 fun k => ?_)
    ·simp only [spec_ParseTerm.j1, if_true]
     rw [if_pos (Int.natCast_nonneg _), if_pos (by rw [hsz]; omega), hbt, if_neg (by omega), l1In_eq, Option.bind_some, if_pos (decide_eq_true (by omega)), hk, hn1, l1In_eq, Option.bind_some, decide_eq_false (by omega)]
     rfl
    ·simp only [spec_ParseTerm.j2, if_true]
theorem val_mem {n : Nat} (hn : n ≤ 5) {l : List UInt8} {m v : Nat} (h49 : l ≠ [49]) (he : gterm n m v = l) : l.all (val n) = true := by
 rw [List.all_eq_true]
 intro c hc
 rw [← he] at hc h49
 unfold gterm at hc h49
 by_cases e : gl m v n = []
 ·rw [if_pos e] at h49
  exact absurd rfl h49
 ·rw [if_neg e] at hc
  exact gl_val hn m v n (Nat.le_refl _) c hc
theorem spec_ParseTerm_ev {n : Nat} (hn : n ≤ 5) {l : List UInt8} (hl : l.length ≤ 200) : Ev (fun k => spec_ParseTerm.f k n (ofL l)) (pres n l) := by
 have h0 : sok n (0, 0, true) := ⟨Nat.two_pow_pos n, rfl⟩
 by_cases h49 : l = [49]
 ·subst h49
  unfold pres pt
  rw [if_pos rfl]
  unfold spec_ParseTerm.f
  refine Ev.step (f := fun k => spec_ParseTerm.j1 k n (ofL [49]) false 0 false 0 0) (fun k => ?_) ?_
  ·simp only [spec_ParseTerm.l0]
   rw [ofL_list, if_pos (by rw [ofL_size]; decide)]
   rfl
  refine Ev.step (fun k => ?_) (spec_end hn (l := [49]) (m := 0) (v := 0) h0.1 rfl)
  simp only [spec_ParseTerm.j1, Bool.false_eq_true, if_false]
  rfl
 ·have := spec_scan hn hl h49 l [] (0, 0, true) rfl h0
  unfold pres pt
  rw [if_neg h49]
  refine ev_eq this ?_
  by_cases ha : l.all (val n) = true
  ·rw [if_pos ha]
  ·rw [if_neg ha]
   unfold res ok
   rw [if_neg]
   intro h
   exact ha (val_mem hn h49 (of_decide_eq_true h).2.2)
theorem impl_ParseTerm_ev {n : Nat} (hn : n ≤ 5) {l : List UInt8} (hl : l.length ≤ 200) : Ev (fun k => impl_ParseTerm.f k n (ofL l)) (pres n l) := by
 unfold impl_ParseTerm.f
 by_cases h49 : l = [49]
 ·subst h49
  simp only [ofL_list, if_true]
  have := impl_end hn (l := [49]) (m := 0) (v := 0) (by decide) rfl
  simp only [ofL_list] at this
  exact this
 have h49' : ¬ (ofL l).toList = [49] := by rw [ofL_list]; exact h49
 simp only [if_neg h49']
 have hpres : pres n l = res n l (scn l (0, 0, true)).1 (scn l (0, 0, true)).2.1 := by unfold pres pt; rw [if_neg h49]
 rw [hpres]
 have hsz := ofL_size l
 refine ev_for (fun k i => impl_ParseTerm.l0 k n (ofL l) (b2i (scn (l.take i) (0, 0, true)).2.2) ((ofL l).size : Int) (i : Int) (scn (l.take i) (0, 0, true)).1 (scn (l.take i) (0, 0, true)).2.1) l.length ?_ ?_
 ·intro i hi h
  have hstp : scn (l.take (i + 1)) (0, 0, true) = stp (scn (l.take i) (0, 0, true)) l[i] := by
   unfold scn
   rw [List.take_succ_eq_append_getElem hi, List.foldl_append]
   rfl
  rw [hstp] at h
  have hs := sok5 (l.take i)
  generalize scn (l.take i) (0, 0, true) = s at *
  have hbt := bt_ofL hi
  generalize l[i] = c at *
  have hu := c.toNat_lt
  have hs1 : s.1 < 32 := hs.1
  have hs2 : s.2.1 ≤ s.1 := by rw [← hs.2]; exact Nat.and_le_right
  have hw : wrap64 ((i : Int) + 1) = ((i + 1 : Nat) : Int) := by rw [w64 (by omega) (by omega)]; rfl
  refine Ev.step (fun k => ?_) h
  simp only [impl_ParseTerm.l0]
  rw [if_pos (by rw [hsz]; omega), if_pos (Int.natCast_nonneg _), if_pos (by rw [hsz]; omega), hbt, hw]
  unfold stp
  by_cases c33 : c.toNat = 33
  ·rw [if_pos (by omega), if_pos c33]
   rfl
  ·rw [if_neg (by omega), if_neg c33, isLetter_eq, Option.bind_some]
   by_cases hv : 97 ≤ c.toNat ∧ c.toNat < 102
   ·have hp : 2 ^ (c.toNat - 97) < 2 ^ 5 := pow_lt_size (by omega)
    have e1 : ((c.toNat : Nat) : Int) - 97 = ((c.toNat - 97 : Nat) : Int) := by omega
    have e2 : (((c.toNat : Nat) : Int) - 97) % 256 = ((c.toNat - 97 : Nat) : Int) := by omega
    have hsh : shl .i64 1 ((((c.toNat : Nat) : Int) - 97) % 256) = ((2 ^ (c.toNat - 97) : Nat) : Int) := by rw [e2, shl1 (by omega)]
    have hsh0 : shl .i64 0 ((((c.toNat : Nat) : Int) - 97) % 256) = ((0 : Nat) : Int) := by
     have := shlN (a := 0) (n := c.toNat - 97) (by omega)
     rw [e2]
     simpa using this
    rw [if_pos (decide_eq_true (by omega)), if_pos hv, hsh, borN (by omega) (by omega)]
    cases hb : s.2.2
    ·rw [show b2i false = 0 from rfl, hsh0, borN (by omega) (by omega), Nat.or_zero, if_neg Bool.false_ne_true]
     rfl
    ·rw [show b2i true = 1 from rfl, hsh, borN (by omega) (by omega), if_pos rfl]
   ·rw [if_neg (by rw [decide_eq_false (by omega)]; decide), if_neg hv]
 ·rw [List.take_length]
  have hs := sok5 l
  refine Ev.step (fun k => ?_) (impl_end hn (l := l) hs.1 hs.2)
  simp only [impl_ParseTerm.l0]
  rw [if_neg (by rw [hsz]; omega)]
/-- The parts between the plus signs, a part's beginning p read before. -/
def spg : List UInt8 → List UInt8 → List (List UInt8)
 | p, [] => [p]
 | p, c :: r => if c.toNat = 43 then p :: spg [] r else spg (p ++ [c]) r
theorem spg_len : ∀ (r p q : List UInt8), q ∈ spg p r → q.length ≤ p.length + r.length := by
 intro r
 induction r with
 | nil => intro p q h; rw [List.mem_singleton.1 h]; simp
 | cons c r ih =>
  intro p q h
  simp only [spg] at h
  split at h
  ·rcases List.mem_cons.1 h with h | h
   ·rw [h]; omega
   ·have := ih [] q h; simp at this ⊢; omega
  ·have := ih _ q h
   simp at this ⊢
   omega
theorem spg_count : ∀ (r p : List UInt8), (spg p r).length ≤ r.length + 1 := by
 intro r
 induction r with
 | nil => intro p; simp [spg]
 | cons c r ih =>
  intro p
  simp only [spg]
  split
  ·have := ih []; simp at this ⊢; omega
  ·have := ih (p ++ [c]); simp at this ⊢; omega
theorem spg_sub : ∀ (r p q : List UInt8), q ∈ spg p r → ∀ c ∈ q, c ∈ p ∨ c ∈ r := by
 intro r
 induction r with
 | nil => intro p q h c hc; rw [List.mem_singleton.1 h] at hc; exact .inl hc
 | cons d r ih =>
  intro p q h c hc
  simp only [spg] at h
  split at h
  ·rcases List.mem_cons.1 h with h | h
   ·rw [h] at hc; exact .inl hc
   ·rcases ih [] q h c hc with h | h
    ·simp at h
    ·exact .inr (List.mem_cons_of_mem _ h)
  ·rcases ih _ q h c hc with h | h
   ·rcases List.mem_append.1 h with h | h
    ·exact .inl h
    ·rw [List.mem_singleton.1 h]; exact .inr List.mem_cons_self
   ·exact .inr (List.mem_cons_of_mem _ h)
theorem plus_of {c : UInt8} (h : c.toNat = 43) : c = 43 := u8_ext h
theorem spg_none : ∀ (r p : List UInt8), (43 : UInt8) ∉ r → spg p r = [p ++ r] := by
 intro r
 induction r with
 | nil => intro p _; simp [spg]
 | cons c r ih =>
  intro p h
  have h1 : ¬ c.toNat = 43 := fun e => h (by rw [plus_of e]; exact List.mem_cons_self)
  simp only [spg]
  rw [if_neg h1, ih _ fun e => h (List.mem_cons_of_mem _ e)]
  simp
theorem spg_some : ∀ (a p b : List UInt8), (43 : UInt8) ∉ a → spg p (a ++ 43 :: b) = (p ++ a) :: spg [] b := by
 intro a
 induction a with
 | nil => intro p b _; simp [spg]
 | cons c a ih =>
  intro p b h
  have h1 : ¬ c.toNat = 43 := fun e => h (by rw [plus_of e]; exact List.mem_cons_self)
  rw [List.cons_append]
  simp only [spg]
  rw [if_neg h1, ih _ b fun e => h (List.mem_cons_of_mem _ e)]
  simp
theorem first_plus : ∀ l : List UInt8, (43 : UInt8) ∉ l ∨ ∃ a b, l = a ++ 43 :: b ∧ (43 : UInt8) ∉ a := by
 intro l
 induction l with
 | nil => exact .inl (by simp)
 | cons c l ih =>
  by_cases h : c = 43
  ·exact .inr ⟨[], l, by rw [h]; rfl, by simp⟩
  ·rcases ih with h2 | ⟨a, b, e, h2⟩
   ·exact .inl fun h3 => by rcases List.mem_cons.1 h3 with h3 | h3; exact h h3.symm; exact h2 h3
   ·exact .inr ⟨c :: a, b, by rw [e]; rfl, fun h3 => by rcases List.mem_cons.1 h3 with h3 | h3; exact h h3.symm; exact h2 h3⟩
theorem ib_some : ∀ a b : List UInt8, (43 : UInt8) ∉ a → Go.Lib.indexByte (a ++ 43 :: b) 43 = (a.length : Int) := by
 intro a
 induction a with
 | nil => intro b _; simp [Go.Lib.indexByte]
 | cons c a ih =>
  intro b h
  have h1 : ¬ c = 43 := fun e => h (by rw [e]; exact List.mem_cons_self)
  have := ih b fun e => h (List.mem_cons_of_mem _ e)
  rw [List.cons_append]
  simp only [Go.Lib.indexByte]
  rw [if_neg (by simpa using h1), this, if_neg (by rw [beq_iff_eq]; omega)]
  simp
theorem spg_split : ∀ (N : Nat) (l : List UInt8), l.length ≤ N → spg [] l = Go.Lib.splitK [43] 0 (l.count 43) l := by
 intro N
 induction N with
 | zero =>
  intro l h
  obtain rfl := List.eq_nil_of_length_eq_zero (Nat.le_zero.1 h)
  rfl
 | succ N ih =>
  intro l h
  rcases first_plus l with h2 | ⟨a, b, rfl, h2⟩
  ·rw [spg_none l [] h2, List.count_eq_zero.2 h2]
   rfl
  ·rw [spg_some a [] b h2, ih b (by simp at h; omega), List.count_append, List.count_eq_zero.2 h2, List.count_cons_self, Nat.zero_add]
   simp only [Go.Lib.splitK]
   rw [Go.Lib.index_one, ib_some a b h2, if_neg (by rw [beq_iff_eq]; omega)]
   have e1 : ((a.length : Int).toNat + 0) = a.length := by omega
   have e2 : ((a.length : Int).toNat + ([43] : List UInt8).length) = a.length + 1 := by simp
   rw [e1, e2]
   simp [List.drop_append]
   rw [List.drop_eq_nil_of_le (Nat.le_succ _)]
   rfl
theorem split_eq {l : List UInt8} (hl : l.length ≤ 200) : strings_Split.f (ofL l) ⟨#[43]⟩ = some ((spg [] l).map ofL) := by
 unfold strings_Split.f
 rw [if_pos ⟨by rw [ofL_size]; omega, rfl⟩]
 congr 1
 have h1 := Go.Lib.splitB_data ⟨#[43]⟩ 0 (Go.Lib.countB (ofL l) ⟨#[43]⟩) (ofL l)
 have hc : Go.Lib.countB (ofL l) ⟨#[43]⟩ = l.count 43 := Go.Lib.count_one 43 l
 have h2 : (Go.Lib.splitB ⟨#[43]⟩ 0 (Go.Lib.countB (ofL l) ⟨#[43]⟩) (ofL l)).map (·.data.toList) = spg [] l := by
  rw [h1, hc, spg_split l.length l (Nat.le_refl _)]
  rfl
 rw [← h2, List.map_map]
 conv => lhs; rw [← List.map_id (Go.Lib.splitB ⟨#[43]⟩ 0 (Go.Lib.countB (ofL l) ⟨#[43]⟩) (ofL l))]
 refine List.map_congr_left fun x _ => ?_
 exact (ofL_back x).symm
def goodP (n : Nat) (p : List UInt8) : Bool := ok n p (pt p).1 (pt p).2
theorem pres_good {n : Nat} {p : List UInt8} (h : goodP n p = true) : pres n p = (((pt p).1 : Int), ((pt p).2 : Int), true) := by unfold pres res; rw [if_pos (show ok n p (pt p).1 (pt p).2 = true from h)]
theorem pres_bad {n : Nat} {p : List UInt8} (h : ¬ goodP n p = true) : pres n p = (0, 0, false) := by unfold pres res; rw [if_neg (show ¬ ok n p (pt p).1 (pt p).2 = true from h)]
theorem good_lt {n : Nat} {p : List UInt8} (h : goodP n p = true) : (pt p).1 < 2 ^ n := (of_decide_eq_true h).2.1
def sgo (n : Nat) : List (List UInt8) → Nat → Option Nat
 | [], w => some w
 | p :: t, w => if goodP n p = true ∧ (pt p).1 = (pt p).2 then sgo n t (w ||| 2 ^ (pt p).1) else none
def igo (n : Nat) : List (List UInt8) → Nat → Option Nat
 | [], w => some w
 | p :: t, w => if goodP n p = true then igo n t (w ||| 2 ^ (pt p).1) else none
def fm (n w : Nat) : List UInt8 := if sj n (anfW n w) (2 ^ n) = [] then [48] else sj n (anfW n w) (2 ^ n)
def fin3 (n : Nat) (l : List UInt8) (w : Nat) : Int × Int × Bool := if fm n (anfW n w) = l then ((n : Int), ((anfW n w : Nat) : Int), true) else (0, 0, false)
def end3 (n : Nat) (l : List UInt8) : Option Nat → Int × Int × Bool
 | some w => fin3 n l w
 | none => (0, 0, false)
theorem tab_or {n w m : Nat} (t : Tab n w) (h : m < 2 ^ n) : Tab n (w ||| 2 ^ m) := ⟨t.hn, Nat.or_lt_two_pow t.hw (pow_lt_size h)⟩
theorem spec_fin {n w : Nat} (t : Tab n w) (l : List UInt8) : Ev (fun k => (spec_l11Anf.f k n w).bind fun t203 => (spec_FormatAnf.f k n t203).bind fun t205 => if t205.toList = (ofL l).toList then some ((n : Int), t203, true) else some ((0 : Int), (0 : Int), false)) (fin3 n l w) := by
 refine ev_bd (spec_l11Anf_ev t) (ev_bd (spec_FormatAnf_ev (anfW_tab t)) ?_)
 simp only [ofL_list]
 unfold fin3 fm
 by_cases h : (if sj n (anfW n (anfW n w)) (2 ^ n) = [] then [48] else sj n (anfW n (anfW n w)) (2 ^ n)) = l
 ·simp only [if_pos h]
  exact Ev.now _
 ·simp only [if_neg h]
  exact Ev.now _
theorem impl_fin {n w : Nat} (t : Tab n w) (l : List UInt8) : Ev (fun k => (impl_Table_anf.f n w).bind fun bt => (impl_FormatAnf.f k bt.1 bt.2).bind fun t443 => if t443.toList = (ofL l).toList then some (bt.1, bt.2, true) else some ((0 : Int), (0 : Int), false)) (fin3 n l w) := by
 simp only [impl_Table_anf_eq t, Option.bind_some]
 refine ev_bd (impl_FormatAnf_ev (anfW_tab t)) ?_
 simp only [ofL_list]
 unfold fin3 fm
 by_cases h : (if sj n (anfW n (anfW n w)) (2 ^ n) = [] then [48] else sj n (anfW n (anfW n w)) (2 ^ n)) = l
 ·simp only [if_pos h]
  exact Ev.now _
 ·simp only [if_neg h]
  exact Ev.now _
/-- A part's end: the test of the part, then on. -/
theorem spec_part {n w : Nat} (t : Tab n w) {l p : List UInt8} {i : Int} (hp : p.length ≤ 200) {R : Int × Int × Bool} (hbad : ¬ (goodP n p = true ∧ (pt p).1 = (pt p).2) → R = (0, 0, false)) (hgo : goodP n p = true → (pt p).1 = (pt p).2 → Ev (fun k => spec_ParseAnf.l0 k n (ofL l) ((w ||| 2 ^ (pt p).1 : Nat) : Int) (⟨#[]⟩ : ByteArray) (wrap64 (i + 1))) R) : Ev (fun k => spec_ParseAnf.j3 k n (ofL l) w (ofL p) i false) R := by
 have hn := t.hn
 have hP := spec_ParseTerm_ev hn hp
 by_cases hg : goodP n p = true
 ·rw [pres_good hg] at hP
  by_cases he : (pt p).1 = (pt p).2
  ·have hlt := good_lt hg
   have hsz := t.size
   refine evs1 hP (fun k hk => ?_) (hgo hg he)
   simp only [spec_ParseAnf.j3, Bool.false_eq_true, if_false]
   rw [hk, Option.bind_some]
   simp only [if_true]
   rw [if_pos (by omega), if_pos (Int.natCast_nonneg _), shl1 (by omega), borN t.w63 (Tab.w63 (tab_or ⟨hn, Nat.two_pow_pos _⟩ hlt |> fun x => by simpa using x))]
  ·rw [hbad fun h => he h.2]
   refine evs1 hP (fun k hk => ?_) (Ev.now _)
   simp only [spec_ParseAnf.j3, Bool.false_eq_true, if_false]
   rw [hk, Option.bind_some]
   simp only [if_true]
   rw [if_neg (by omega)]
 ·rw [pres_bad hg] at hP
  rw [hbad fun h => hg h.1]
  refine evs1 hP (fun k hk => ?_) (Ev.now _)
  simp only [spec_ParseAnf.j3, Bool.false_eq_true, if_false]
  rw [hk, Option.bind_some]
  simp only [Bool.false_eq_true, if_false]
theorem spec_go {n : Nat} {l : List UInt8} (hl : l.length ≤ 200) (h48 : l ≠ [48]) : ∀ (r pre p : List UInt8) (w : Nat), l = pre ++ r → p.length ≤ pre.length → Tab n w → Ev (fun k => spec_ParseAnf.l0 k n (ofL l) w (ofL p) (pre.length : Int)) (end3 n l (sgo n (spg p r) w)) := by
 intro r
 have hbne : (l != ([48] : List UInt8)) = true := bne_iff_ne.mpr h48
 have hsz := ofL_size l
 induction r with
 | nil =>
  intro pre p w e hp t
  have hlen : pre.length = l.length := by rw [e]; simp
  refine Ev.step (f := fun k => spec_ParseAnf.j2 k n (ofL l) w (ofL p) (pre.length : Int) true) (fun k => ?_) ?_
  ·simp only [spec_ParseAnf.l0]
   rw [if_pos (by rw [hsz]; omega), ofL_list, hbne]
  refine Ev.step (f := fun k => spec_ParseAnf.j3 k n (ofL l) w (ofL p) (pre.length : Int) false) (fun k => ?_) ?_
  ·simp only [spec_ParseAnf.j2, if_true]
   rw [if_neg (by rw [hsz]; omega)]
  refine spec_part t (by omega) ?_ ?_
  ·intro h
   simp only [spg, sgo]
   rw [if_neg h]
   rfl
  ·intro hg he
   simp only [spg, sgo]
   rw [if_pos ⟨hg, he⟩]
   have t' := tab_or t (good_lt hg)
   refine Ev.step (f := fun k => spec_ParseAnf.j2 k n (ofL l) ((w ||| 2 ^ (pt p).1 : Nat) : Int) (⟨#[]⟩ : ByteArray) (wrap64 ((pre.length : Int) + 1)) false) (fun k => ?_) ?_
   ·simp only [spec_ParseAnf.l0]
    rw [w64 (by omega) (by omega), if_neg (by rw [hsz]; omega)]
   refine Ev.step (fun k => ?_) (spec_fin t' l)
   simp only [spec_ParseAnf.j2, Bool.false_eq_true, if_false]
 | cons c r ih =>
  intro pre p w e hp t
  have hlen : pre.length < l.length := by rw [e]; simp
  have hc : l[pre.length] = c := by simp [e]
  have hbt := bt_ofL hlen
  rw [hc] at hbt
  have hw : wrap64 ((pre.length : Int) + 1) = ((pre.length + 1 : Nat) : Int) := by rw [w64 (by omega) (by omega)]; rfl
  have hnext := fun p' w' hp' t' => ih (pre ++ [c]) p' w' (by rw [e]; simp) hp' t'
  simp only [List.length_append, List.length_cons, List.length_nil] at hnext
  refine Ev.step (f := fun k => spec_ParseAnf.j2 k n (ofL l) w (ofL p) (pre.length : Int) true) (fun k => ?_) ?_
  ·simp only [spec_ParseAnf.l0]
   rw [if_pos (by rw [hsz]; omega), ofL_list, hbne]
  by_cases c43 : c.toNat = 43
  ·refine Ev.step (f := fun k => spec_ParseAnf.j3 k n (ofL l) w (ofL p) (pre.length : Int) false) (fun k => ?_) ?_
   ·simp only [spec_ParseAnf.j2, if_true]
    rw [if_pos (by rw [hsz]; omega), if_pos (Int.natCast_nonneg _), hbt, show (((c.toNat : Nat) : Int) != 43) = false from bne_eq_false_iff_eq.mpr (by omega)]
   simp only [spg]
   rw [if_pos c43]
   refine spec_part t (by omega) ?_ ?_
   ·intro h
    simp only [sgo]
    rw [if_neg h]
    rfl
   ·intro hg he
    simp only [sgo]
    rw [if_pos ⟨hg, he⟩, hw]
    exact hnext [] _ (by simp) (tab_or t (good_lt hg))
  ·refine Ev.step (f := fun k => spec_ParseAnf.j3 k n (ofL l) w (ofL p) (pre.length : Int) true) (fun k => ?_) ?_
   ·simp only [spec_ParseAnf.j2, if_true]
    rw [if_pos (by rw [hsz]; omega), if_pos (Int.natCast_nonneg _), hbt, show (((c.toNat : Nat) : Int) != 43) = true from bne_iff_ne.mpr (by omega)]
   simp only [spg]
   rw [if_neg c43]
   refine Ev.step (fun k => ?_) (hnext (p ++ [c]) w (by simp; omega) t)
   simp only [spec_ParseAnf.j3, if_true]
   rw [hw, Int.toNat_natCast, Int.toNat_natCast, ext_ofL hlen, hc, ofL_append, ofL_size p, ofL_size [c], hsz, if_pos (Int.natCast_nonneg _), if_pos (by omega), if_pos (by omega), if_pos (by simp; omega)]
theorem impl_go {n : Nat} {l : List UInt8} {P : List (List UInt8)} (hP : ∀ q ∈ P, q.length ≤ 200) (hN : P.length ≤ 201) : ∀ (t pre : List (List UInt8)) (w : Nat), P = pre ++ t → Tab n w → Ev (fun k => impl_ParseAnf.l0 k n (ofL l) (P.map ofL) (P.length : Int) (pre.length : Int) n w) (end3 n l (igo n t w)) := by
 intro t
 induction t with
 | nil =>
  intro pre w e tb
  have hlen : pre.length = P.length := by rw [e]; simp
  refine Ev.step (f := fun k => impl_ParseAnf.j2 k (ofL l) n w) (fun k => ?_) ?_
  ·simp only [impl_ParseAnf.l0]
   rw [if_neg (by omega)]
  refine Ev.step (fun k => ?_) (impl_fin tb l)
  simp only [impl_ParseAnf.j2]
 | cons p t ih =>
  intro pre w e tb
  have hlen : pre.length < P.length := by rw [e]; simp
  have hp : p.length ≤ 200 := hP p (by rw [e]; simp)
  have hn := tb.hn
  have hsz := tb.size
  have hrd : rdOf ByteArray.empty (P.map ofL) (pre.length : Int) = ofL p := by
   unfold rdOf
   rw [Int.toNat_natCast, List.getD_eq_getElem?_getD, List.getElem?_map, e]
   simp
  have hw : wrap64 ((pre.length : Int) + 1) = ((pre.length + 1 : Nat) : Int) := by rw [w64 (by omega) (by omega)]; rfl
  have hQ := impl_ParseTerm_ev hn hp
  simp only [igo]
  by_cases hg : goodP n p = true
  ·have hlt := good_lt hg
   have t2 : Tab n (2 ^ (pt p).1) := ⟨hn, pow_lt_size hlt⟩
   rw [pres_good hg] at hQ
   rw [if_pos hg]
   have hI := ih (pre ++ [p]) (w ||| 2 ^ (pt p).1) (by rw [e]; simp) (tab_or tb hlt)
   simp only [List.length_append, List.length_cons, List.length_nil] at hI
   refine evs1 hQ (fun k hk => ?_) hI
   simp only [impl_ParseAnf.l0]
   rw [if_pos (by omega), if_pos (Int.natCast_nonneg _), if_pos (by rw [List.length_map]; omega), hrd, hk, Option.bind_some]
   simp only [if_true]
   rw [if_pos (Int.natCast_nonneg _), shl1 (by omega), borN tb.w63 t2.w63, hw]
  ·rw [pres_bad hg] at hQ
   rw [if_neg hg]
   refine evs1 hQ (fun k hk => ?_) (Ev.now _)
   simp only [impl_ParseAnf.l0]
   rw [if_pos (by omega), if_pos (Int.natCast_nonneg _), if_pos (by rw [List.length_map]; omega), hrd, hk, Option.bind_some]
   simp only [Bool.false_eq_true, if_false]
   rfl
theorem tl_ne33 {m i : Nat} (hi : i ≤ 5) : (33 : UInt8) ∉ tl m i := by
 induction i with
 | zero => simp [tl]
 | succ i ih =>
  have h1 : ¬ (33 : UInt8) = UInt8.ofNat (97 + i) := by
   intro e
   have := congrArg UInt8.toNat e
   rw [UInt8.toNat_ofNat', Nat.mod_eq_of_lt (by omega)] at this
   simp at this
   omega
  simp only [tl]
  split
  ·intro h
   rcases List.mem_append.1 h with h | h
   ·exact ih (by omega) h
   ·exact h1 (List.mem_singleton.1 h)
  ·exact ih (by omega)
theorem term_ne33 {n m : Nat} (hn : n ≤ 5) : (33 : UInt8) ∉ term n m := by
 unfold term
 split
 ·decide
 ·exact tl_ne33 hn
theorem sj_ne33 {n g : Nat} (hn : n ≤ 5) (i : Nat) : (33 : UInt8) ∉ sj n g i := by
 induction i with
 | zero => simp [sj, ml, Go.Lib.join_nil]
 | succ i ih =>
  by_cases hb : g.testBit i = true
  ·rw [sj_step hn hb]
   split
   ·exact term_ne33 hn
   ·intro h
    rcases List.mem_append.1 h with h | h
    ·rcases List.mem_append.1 h with h | h
     ·exact ih h
     ·exact absurd (List.mem_singleton.1 h) (by decide)
    ·exact term_ne33 hn h
  ·rw [sj_same (Bool.eq_false_iff.mpr hb)]
   exact ih
theorem fm_ne33 {n w : Nat} (hn : n ≤ 5) : (33 : UInt8) ∉ fm n w := by
 unfold fm
 split
 ·decide
 ·exact sj_ne33 hn _
theorem go_same {n : Nat} : ∀ (P : List (List UInt8)) (w : Nat), sgo n P w = igo n P w ∨ (sgo n P w = none ∧ ∃ p ∈ P, goodP n p = true ∧ (pt p).1 ≠ (pt p).2) := by
 intro P
 induction P with
 | nil => intro w; exact .inl rfl
 | cons p P ih =>
  intro w
  simp only [sgo, igo]
  by_cases hg : goodP n p = true
  ·by_cases he : (pt p).1 = (pt p).2
   ·rw [if_pos ⟨hg, he⟩, if_pos hg]
    rcases ih (w ||| 2 ^ (pt p).1) with h | ⟨h, q, hq, h2⟩
    ·exact .inl h
    ·exact .inr ⟨h, q, List.mem_cons_of_mem _ hq, h2⟩
   ·exact .inr ⟨by rw [if_neg fun h => he h.2], p, List.mem_cons_self, hg, he⟩
  ·exact .inl (by rw [if_neg fun h => hg h.1, if_neg hg])
theorem end_same {n : Nat} (hn : n ≤ 5) (l : List UInt8) (w : Nat) : end3 n l (sgo n (spg [] l) w) = end3 n l (igo n (spg [] l) w) := by
 rcases go_same (n := n) (spg [] l) w with h | ⟨h, p, hp, hg, hne⟩
 ·rw [h]
 ·rw [h]
  have h33 : (33 : UInt8) ∈ l := by
   have h1 := of_decide_eq_true (show decide (p ≠ [] ∧ (pt p).1 < 2 ^ n ∧ gterm n (pt p).1 (pt p).2 = p) = true from hg)
   have h2 := gterm_bang h1.2.1 (pt_ok p).2 hne
   rw [h1.2.2] at h2
   rcases spg_sub l [] p hp _ h2 with h3 | h3
   ·simp at h3
   ·exact h3
  cases hi : igo n (spg [] l) w with
  | none => rfl
  | some w' =>
   show (0, 0, false) = fin3 n l w'
   unfold fin3
   rw [if_neg fun e => fm_ne33 hn (by rw [e]; exact h33)]
theorem parse_same (a0 : Int) (a1 : ByteArray) : ∃ r, Ev (fun k => spec_ParseAnf.f k a0 a1) r ∧ Ev (fun k => impl_ParseAnf.f k a0 a1) r := by
 unfold spec_ParseAnf.f impl_ParseAnf.f
 simp only [l1In_eq, impl_isBits_eq, Option.bind_some]
 have hout : Ev (fun k => spec_ParseAnf.j0 k a0 a1 true) (0, 0, false) ∧ Ev (fun k => impl_ParseAnf.j0 k a0 a1 true) (0, 0, false) := ⟨ev0 fun k => by simp only [spec_ParseAnf.j0, if_true], ev0 fun k => by simp only [impl_ParseAnf.j0, if_true]⟩
 by_cases hb : 0 ≤ a0 ∧ a0 ≤ 5
 case neg =>
  simp only [decide_eq_false hb, Bool.false_eq_true, if_false]
  exact ⟨_, hout⟩
 simp only [decide_eq_true hb, if_true]
 by_cases hs : (a1.size : Int) > 200
 ·simp only [decide_eq_true hs]
  exact ⟨_, hout⟩
 simp only [decide_eq_false hs]
 obtain ⟨n, rfl⟩ := Int.eq_ofNat_of_zero_le hb.1
 have hn : n ≤ 5 := by omega
 obtain ⟨l, rfl⟩ : ∃ l, a1 = ofL l := ⟨_, (ofL_back a1).symm⟩
 rw [ofL_size] at hs
 have hl : l.length ≤ 200 := by omega
 have t0 : Tab n 0 := ⟨hn, Nat.two_pow_pos _⟩
 by_cases h48 : l = [48]
 ·refine ⟨fin3 n l 0, ?_, ?_⟩
  ·refine Ev.step (f := fun k => spec_ParseAnf.l0 k n (ofL l) 0 (⟨#[]⟩ : ByteArray) 0) (fun k => by simp only [spec_ParseAnf.j0, Bool.false_eq_true, if_false]) ?_
   refine Ev.step (f := fun k => spec_ParseAnf.j2 k n (ofL l) 0 (⟨#[]⟩ : ByteArray) 0 false) (fun k => ?_) ?_
   ·simp only [spec_ParseAnf.l0]
    rw [if_pos (Int.natCast_nonneg _), ofL_list, h48]
    rfl
   refine Ev.step (fun k => ?_) (spec_fin t0 l)
   simp only [spec_ParseAnf.j2, Bool.false_eq_true, if_false]
   rfl
  ·refine Ev.step (f := fun k => impl_ParseAnf.j2 k (ofL l) n 0) (fun k => ?_) ?_
   ·simp only [impl_ParseAnf.j0, Bool.false_eq_true, if_false]
    rw [if_pos (by rw [ofL_list]; exact h48)]
   refine Ev.step (fun k => ?_) (impl_fin t0 l)
   simp only [impl_ParseAnf.j2]
   rfl
 ·refine ⟨end3 n l (sgo n (spg [] l) 0), ?_, ?_⟩
  ·refine Ev.step (fun k => ?_) (spec_go hl h48 l [] [] 0 rfl (Nat.le_refl _) t0)
   simp only [spec_ParseAnf.j0, Bool.false_eq_true, if_false]
   rfl
  ·rw [end_same hn]
   have hI := impl_go (n := n) (l := l) (P := spg [] l) (fun q hq => by have := spg_len l [] q hq; simp at this; omega) (by have := spg_count l []; omega) (spg [] l) [] 0 rfl t0
   refine Ev.step (fun k => ?_) hI
   simp only [impl_ParseAnf.j0, Bool.false_eq_true, if_false]
   rw [if_neg (by rw [ofL_list]; exact h48), split_eq hl, Option.bind_some, List.length_map]
   rfl

def mostN (g : Nat → Bool) : Nat → Int
 | 0 => -1
 | x + 1 => if g x = true then mx (mostN g x) ((pc x : Nat) : Int) else mostN g x
theorem impl_degree_most_eq (g : Nat → Bool) : ∀ N, N ≤ 32 → impl_degree.most g N = mostN g N := by
 intro N
 induction N with
 | zero => intro _; rfl
 | succ N ih =>
  intro hN
  simp only [impl_degree.most, mostN]
  rw [ih (by omega), impl_ones_eq (by omega), Option.getD_some]
theorem mostN_congr {g h : Nat → Bool} {N : Nat} (e : ∀ x, x < N → g x = h x) : mostN g N = mostN h N := by
 induction N with
 | zero => rfl
 | succ N ih => simp only [mostN]; rw [ih fun x hx => e x (by omega), e N (by omega)]

theorem dg_add (n : Nat) (f g : Nat → Int) : sumI n (fun i => f i + g i) = sumI n f + sumI n g := by
 induction n with
 | zero => rfl
 | succ n ih => simp only [sumI]; omega
theorem dg_zero (n : Nat) : sumI n (fun _ => 0) = 0 := by
 induction n with
 | zero => rfl
 | succ n ih => simp only [sumI]; omega
theorem dg_swap (N M : Nat) (f : Nat → Nat → Int) : sumI N (fun x => sumI M fun i => f x i) = sumI M fun i => sumI N fun x => f x i := by
 induction N with
 | zero => exact (dg_zero M).symm
 | succ N ih =>
  simp only [sumI]
  rw [ih, dg_add]
theorem dg_mul (n : Nat) (f : Nat → Int) (c : Int) : sumI n (fun i => c * f i) = c * sumI n f := by
 induction n with
 | zero => simp [sumI]
 | succ n ih => simp only [sumI]; rw [ih, Int.mul_add]
theorem dg_one (N x : Nat) (f : Nat → Int) : sumI N (fun y => f y * if x = y then 1 else 0) = if x < N then f x else 0 := by
 induction N with
 | zero => rfl
 | succ N ih =>
  simp only [sumI]
  rw [ih]
  by_cases e : x = N
  ·subst e
   rw [if_neg (by omega), if_pos rfl, if_pos (by omega)]
   omega
  ·rw [if_neg e]
   by_cases h : x < N
   ·rw [if_pos h, if_pos (by omega)]; omega
   ·rw [if_neg h, if_neg (by omega)]; omega
theorem dg_mod {n : Nat} {f g : Nat → Int} (h : ∀ i, i < n → (f i - g i) % 2 = 0) : (sumI n f - sumI n g) % 2 = 0 := by
 induction n with
 | zero => rfl
 | succ n ih =>
  have h1 := ih fun i hi => h i (by omega)
  have h2 := h n (by omega)
  simp only [sumI]
  omega
/-- The sign of an input in a set's coefficient. -/
def ker (x m y : Nat) : Int := if m &&& x = m then (if y &&& m = y then (if par (m ^^^ y) = true then -1 else 1) else 0) else 0
theorem ker_sum0 : ((List.range 32).all fun x => (List.range 32).all fun y => decide (sumI 32 (fun m => ker x m y) = if x = y then 1 else 0)) = true := by decide +kernel
theorem ker_sum {n x y : Nat} (hn : n ≤ 5) (hx : x < 2 ^ n) (hy : y < 2 ^ n) : sumI (2 ^ n) (fun m => ker x m y) = if x = y then 1 else 0 := by
 have hp := pow62 hn
 have := of_decide_eq_true (List.all_eq_true.mp (List.all_eq_true.mp ker_sum0 x (List.mem_range.2 (by omega))) y (List.mem_range.2 (by omega)))
 rw [show (32 : Nat) = 2 ^ n + (32 - 2 ^ n) by omega, sumI_tail (f := fun m => ker x m y) (a := 2 ^ n) (32 - 2 ^ n) fun m hm => by
  unfold ker
  rw [if_neg]
  intro e
  have : m &&& x ≤ x := Nat.and_le_right
  omega] at this
 exact this
theorem cof_inv {n w x : Nat} (hn : n ≤ 5) (hx : x < 2 ^ n) : sumI (2 ^ n) (fun m => if m &&& x = m then cof n w m else 0) = b2i (w.testBit x) := by
 have e1 : ∀ m, m < 2 ^ n → (if m &&& x = m then cof n w m else 0) = sumI (2 ^ n) fun y => b2i (w.testBit y) * ker x m y := by
  intro m _
  unfold ker
  by_cases e : m &&& x = m
  ·rw [if_pos e]
   refine sumI_congr fun y _ => ?_
   rw [if_pos e]
   unfold cofT
   by_cases e2 : y &&& m = y
   ·rw [if_pos e2, if_pos e2]
    by_cases e3 : par (m ^^^ y) = true
    ·rw [if_pos e3, if_pos e3]; omega
    ·rw [if_neg e3, if_neg e3]; omega
   ·rw [if_neg e2, if_neg e2]; omega
  ·rw [if_neg e]
   refine (dg_zero (2 ^ n)).symm.trans (sumI_congr fun y _ => ?_)
   show (0 : Int) = _
   rw [if_neg e]
   omega
 rw [sumI_congr e1, dg_swap, sumI_congr (g := fun y => b2i (w.testBit y) * if x = y then 1 else 0) fun y hy => by rw [dg_mul, ker_sum hn hx hy], dg_one, if_pos hx]
theorem cof_par {n w m : Nat} (hm : m < 2 ^ n) : (cof n w m - b2i (ap w m (m + 1))) % 2 = 0 := by
 have h1 := apS_par w m (2 ^ n)
 have h2 : (cof n w m - apS w m (2 ^ n)) % 2 = 0 := by
  unfold cof apS
  refine dg_mod fun x _ => ?_
  unfold cofT
  split
  ·split <;> omega
  ·rfl
 have h3 : ap w m (2 ^ n) = ap w m (m + 1) := by
  have := ap_short (w := w) (m := m) (2 ^ n - (m + 1))
  rwa [show m + 1 + (2 ^ n - (m + 1)) = 2 ^ n by omega] at this
 rw [h3] at h1
 omega
theorem wordN_at (g : Nat → Bool) : ∀ N x, (wordN g N).testBit x = (decide (x < N) && g x) := by
 intro N
 induction N with
 | zero => intro x; simp [wordN]
 | succ N ih =>
  intro x
  simp only [wordN]
  by_cases hg : g N = true
  ·rw [if_pos hg, Nat.testBit_or, ih, Nat.testBit_two_pow]
   by_cases e : N = x
   ·subst e
    simp [hg]
   ·simp only [e, decide_false, Bool.or_false]
    congr 1
    exact decide_eq_decide.mpr (by omega)
  ·rw [if_neg hg, ih]
   by_cases e : x = N
   ·subst e
    simp [hg]
   ·congr 1
    exact decide_eq_decide.mpr (by omega)
theorem anf_bit {n w m : Nat} (hm : m < 2 ^ n) : (anfW n w).testBit m = ap w m (m + 1) := by
 unfold anfW
 rw [wordN_at, decide_eq_true hm, Bool.true_and]
theorem cof_bit {n w m : Nat} (hm : m < 2 ^ n) : (cof n w m - b2i ((anfW n w).testBit m)) % 2 = 0 := by rw [anf_bit hm]; exact cof_par hm
theorem anf_inv {n w x : Nat} (hn : n ≤ 5) (hx : x < 2 ^ n) : ap (anfW n w) x (x + 1) = w.testBit x := by
 have h1 := apS_par (anfW n w) x (2 ^ n)
 have h2 : (apS (anfW n w) x (2 ^ n) - b2i (w.testBit x)) % 2 = 0 := by
  rw [← cof_inv hn hx]
  unfold apS
  refine dg_mod fun m hm => ?_
  by_cases e : m &&& x = m
  ·rw [if_pos e, if_pos e]
   have := cof_bit (w := w) hm
   omega
  ·rw [if_neg e, if_neg e]
   rfl
 have h3 : ap (anfW n w) x (2 ^ n) = ap (anfW n w) x (x + 1) := by
  have := ap_short (w := anfW n w) (m := x) (2 ^ n - (x + 1))
  rwa [show x + 1 + (2 ^ n - (x + 1)) = 2 ^ n by omega] at this
 rw [h3] at h1
 have h4 := b2i_range (w.testBit x)
 have h5 := b2i_range (ap (anfW n w) x (x + 1))
 exact b2i_eq.1 (by omega)
theorem anf_anf {n w : Nat} (t : Tab n w) : anfW n (anfW n w) = w := by
 apply Nat.eq_of_testBit_eq
 intro x
 by_cases hx : x < 2 ^ n
 ·rw [anf_bit hx, anf_inv t.hn hx]
 ·have h1 := Nat.pow_le_pow_right (show 0 < 2 by omega) (Nat.le_of_not_lt hx)
  rw [Nat.testBit_lt_two_pow (Nat.lt_of_lt_of_le (anfW_tab (anfW_tab t)).hw h1), Nat.testBit_lt_two_pow (Nat.lt_of_lt_of_le t.hw h1)]
theorem mostN_mono {g h : Nat → Bool} : ∀ N, (∀ x, x < N → g x = true → h x = true) → mostN g N ≤ mostN h N := by
 intro N
 induction N with
 | zero => intro _; exact Int.le_refl _
 | succ N ih =>
  intro e
  have h1 := ih fun x hx => e x (by omega)
  have h2 := e N (by omega)
  simp only [mostN, mx]
  by_cases hg : g N = true
  ·rw [if_pos hg, if_pos (h2 hg)]
   split <;> split <;> omega
  ·rw [if_neg hg]
   split
   ·split <;> omega
   ·exact h1
theorem pc_top0 : ((List.range 6).all fun n => (List.range (2 ^ n)).all fun m => decide (m + 1 < 2 ^ n → pc m < n) && decide (m + 1 = 2 ^ n → pc m = n)) = true := by decide +kernel
theorem pc_top {n m : Nat} (hn : n ≤ 5) (hm : m < 2 ^ n) : (m + 1 < 2 ^ n → pc m < n) ∧ (m + 1 = 2 ^ n → pc m = n) := by
 have := List.all_eq_true.mp (List.all_eq_true.mp pc_top0 n (List.mem_range.2 (by omega))) m (List.mem_range.2 hm)
 rw [Bool.and_eq_true] at this
 exact ⟨of_decide_eq_true this.1, of_decide_eq_true this.2⟩
theorem mostN_low {n : Nat} (hn : n ≤ 5) (g : Nat → Bool) : ∀ N, N < 2 ^ n → mostN g N < n := by
 intro N
 induction N with
 | zero => intro _; simp only [mostN]; omega
 | succ N ih =>
  intro h
  have h1 := ih (by omega)
  have h2 := (pc_top hn (show N < 2 ^ n by omega)).1 h
  simp only [mostN, mx]
  split
  ·split <;> omega
  ·exact h1
theorem mostN_top {n : Nat} (hn : n ≤ 5) (g : Nat → Bool) : (mostN g (2 ^ n) == (n : Int)) = g (2 ^ n - 1) := by
 have hp := Nat.two_pow_pos n
 have h1 := mostN_low hn g (2 ^ n - 1) (by omega)
 have h2 := (pc_top hn (show 2 ^ n - 1 < 2 ^ n by omega)).2 (by omega)
 rw [show mostN g (2 ^ n) = mostN g ((2 ^ n - 1) + 1) by rw [Nat.sub_add_cancel hp]]
 simp only [mostN, mx]
 cases hg : g (2 ^ n - 1)
 ·rw [if_neg Bool.false_ne_true, beq_eq_false_iff_ne]
  omega
 ·rw [if_pos rfl, beq_iff_eq, h2]
  split <;> omega
theorem dg_front (k : Nat) (f : Nat → Int) : sumI (k + 1) f = f 0 + sumI k fun i => f (i + 1) := by
 induction k with
 | zero => simp [sumI]
 | succ k ih =>
  rw [show sumI (k + 1 + 1) f = sumI (k + 1) f + f (k + 1) from rfl, ih]
  simp only [sumI]
  omega
theorem dg_pcf (k : Nat) : ∀ x, ((pcf k x : Nat) : Int) = sumI k fun i => b2i (x.testBit i) := by
 induction k with
 | zero => intro x; rfl
 | succ k ih =>
  intro x
  rw [dg_front, sumI_congr (g := fun r => b2i ((x / 2).testBit r)) fun r _ => by rw [Nat.testBit_succ], ← ih]
  simp only [pcf]
  have h0 : ((x % 2 : Nat) : Int) = b2i (x.testBit 0) := by
   rw [Nat.testBit_zero]
   rcases Nat.mod_two_eq_zero_or_one x with h | h <;> rw [h] <;> rfl
  push_cast at h0 ⊢
  omega
theorem ones_top {n w : Nat} (t : Tab n w) : ((pc w : Nat) : Int) % 2 = b2i ((anfW n w).testBit (2 ^ n - 1)) := by
 have hp := Nat.two_pow_pos n
 have hs := t.size
 rw [anf_bit (by omega), Nat.sub_add_cancel hp, ← apS_par, pc_small hs t.hw, dg_pcf]
 congr 1
 unfold apS
 refine sumI_congr fun x hx => ?_
 rw [if_pos]
 rw [Nat.and_two_pow_sub_one_eq_mod, Nat.mod_eq_of_lt hx]
theorem odd_tmod (c : Int) : (Int.tmod c 2 != 0) = decide (c % 2 = 1) := by
 rw [Bool.eq_iff_iff, bne_iff_ne, decide_eq_true_iff, Ne, ← Int.dvd_iff_tmod_eq_zero]
 omega

theorem impl_ParseAnf_ev {n : Nat} (hn : n ≤ 5) {l : List UInt8} (hl : l.length ≤ 200) : Ev (fun k => impl_ParseAnf.f k n (ofL l)) (if l = [48] then fin3 n l 0 else end3 n l (igo n (spg [] l) 0)) := by
 unfold impl_ParseAnf.f
 have hb : (0 : Int) ≤ (n : Int) ∧ (n : Int) ≤ 5 := by omega
 have hs : ¬ ((ofL l).size : Int) > 200 := by rw [ofL_size]; omega
 simp only [impl_isBits_eq, Option.bind_some, decide_eq_true hb, if_true, decide_eq_false hs]
 have t0 : Tab n 0 := ⟨hn, Nat.two_pow_pos _⟩
 by_cases h48 : l = [48]
 ·rw [if_pos h48]
  refine Ev.step (f := fun k => impl_ParseAnf.j2 k (ofL l) n 0) (fun k => ?_) ?_
  ·simp only [impl_ParseAnf.j0, Bool.false_eq_true, if_false]
   rw [if_pos (by rw [ofL_list]; exact h48)]
  refine Ev.step (fun k => ?_) (impl_fin t0 l)
  simp only [impl_ParseAnf.j2]
  rfl
 ·rw [if_neg h48]
  have hI := impl_go (n := n) (l := l) (P := spg [] l) (fun q hq => by have := spg_len l [] q hq; simp at this; omega) (by have := spg_count l []; omega) (spg [] l) [] 0 rfl t0
  refine Ev.step (fun k => ?_) hI
  simp only [impl_ParseAnf.j0, Bool.false_eq_true, if_false]
  rw [if_neg (by rw [ofL_list]; exact h48), split_eq hl, Option.bind_some, List.length_map]
  rfl
theorem spg_join : ∀ (xs : List (List UInt8)) (x p : List UInt8), (∀ q ∈ x :: xs, (43 : UInt8) ∉ q) → spg p (Go.Lib.join (x :: xs) [43]) = (p ++ x) :: xs := by
 intro xs
 induction xs with
 | nil =>
  intro x p h
  rw [Go.Lib.join_one, spg_none x p (h x List.mem_cons_self)]
 | cons y ys ih =>
  intro x p h
  have e : Go.Lib.join (x :: y :: ys) [43] = x ++ 43 :: Go.Lib.join (y :: ys) [43] := by simp [Go.Lib.join, List.intercalate, List.intersperse]
  rw [e, spg_some x p _ (h x List.mem_cons_self), ih y [] fun q hq => h q (List.mem_cons_of_mem _ hq)]
  rfl
theorem tl_ge {m i : Nat} (hi : i ≤ 5) : ∀ c ∈ tl m i, 97 ≤ c.toNat := by
 induction i with
 | zero => intro c hc; simp [tl] at hc
 | succ i ih =>
  intro c hc
  simp only [tl] at hc
  split at hc
  ·rcases List.mem_append.1 hc with h | h
   ·exact ih (by omega) c h
   ·rw [List.mem_singleton.1 h, UInt8.toNat_ofNat', Nat.mod_eq_of_lt (by omega)]
    omega
  ·exact ih (by omega) c hc
theorem term_no {n m : Nat} (hn : n ≤ 5) {c : UInt8} (h1 : c.toNat < 97) (h2 : c ≠ 49) : c ∉ term n m := by
 unfold term
 split
 ·intro h; exact h2 (List.mem_singleton.1 h)
 ·intro h; have := tl_ge hn c h; omega
theorem sj_no {n g : Nat} (hn : n ≤ 5) {c : UInt8} (h1 : c.toNat < 97) (h2 : c ≠ 49) (h3 : c ≠ 43) (i : Nat) : c ∉ sj n g i := by
 induction i with
 | zero => simp [sj, ml, Go.Lib.join_nil]
 | succ i ih =>
  by_cases hb : g.testBit i = true
  ·rw [sj_step hn hb]
   split
   ·exact term_no hn h1 h2
   ·intro h
    rcases List.mem_append.1 h with h | h
    ·rcases List.mem_append.1 h with h | h
     ·exact ih h
     ·exact h3 (List.mem_singleton.1 h)
    ·exact term_no hn h1 h2 h
  ·rw [sj_same (Bool.eq_false_iff.mpr hb)]
   exact ih
theorem wordN_self {m n : Nat} (h : m < 2 ^ n) : wordN (fun i => m.testBit i) n = m := by
 apply Nat.eq_of_testBit_eq
 intro x
 rw [wordN_at]
 by_cases hx : x < n
 ·rw [decide_eq_true hx, Bool.true_and]
 ·rw [decide_eq_false hx, Bool.false_and, Nat.testBit_lt_two_pow (Nat.lt_of_lt_of_le h (Nat.pow_le_pow_right (by omega) (Nat.le_of_not_lt hx)))]
theorem scn_tl (m : Nat) : ∀ i, i ≤ 5 → scn (tl m i) (0, 0, true) = (wordN (fun j => m.testBit j) i, wordN (fun j => m.testBit j) i, true) := by
 intro i
 induction i with
 | zero => intro _; rfl
 | succ i ih =>
  intro hi
  have h1 := ih (by omega)
  simp only [tl, wordN]
  by_cases hb : m.testBit i = true
  ·have hc : (UInt8.ofNat (97 + i)).toNat = 97 + i := by rw [UInt8.toNat_ofNat', Nat.mod_eq_of_lt (by omega)]
   rw [if_pos hb, if_pos hb]
   unfold scn at h1 ⊢
   rw [List.foldl_append, h1]
   show stp _ _ = _
   unfold stp
   rw [hc, if_neg (by omega), if_pos (by omega), if_pos rfl, Nat.add_sub_cancel_left]
  ·rw [if_neg hb, if_neg hb, h1]
theorem pt_term {n m : Nat} (hn : n ≤ 5) (hm : m < 2 ^ n) : pt (term n m) = (m, m) := by
 have h1 := scn_tl m n hn
 rw [wordN_self hm] at h1
 unfold pt term
 by_cases e : tl m n = []
 ·rw [if_pos e, if_pos rfl]
  rw [e] at h1
  have : (0, 0, true) = (m, m, true) := h1
  simp only [Prod.mk.injEq, and_true] at this
  rw [this.1]
 ·rw [if_neg e, if_neg, h1]
  intro e2
  have := tl_ge hn 49 (by rw [e2]; exact List.mem_cons_self)
  exact absurd this (by decide)
theorem good_term {n m : Nat} (hn : n ≤ 5) (hm : m < 2 ^ n) : goodP n (term n m) = true := by
 unfold goodP ok
 rw [pt_term hn hm]
 exact decide_eq_true ⟨term_ne hn, hm, gterm_self n m⟩
theorem igo_snoc {n : Nat} (P : List (List UInt8)) (p : List UInt8) : ∀ w, igo n (P ++ [p]) w = (igo n P w).bind fun v => if goodP n p = true then some (v ||| 2 ^ (pt p).1) else none := by
 induction P with
 | nil => intro w; rfl
 | cons q P ih =>
  intro w
  rw [List.cons_append]
  simp only [igo]
  split
  ·exact ih _
  ·rfl
theorem igo_ml {n g : Nat} (hn : n ≤ 5) : ∀ i, i ≤ 2 ^ n → igo n ((ml g i).map (term n)) 0 = some (wordN (fun j => g.testBit j) i) := by
 intro i
 induction i with
 | zero => intro _; rfl
 | succ i ih =>
  intro hi
  have h1 := ih (by omega)
  simp only [ml, wordN]
  by_cases hb : g.testBit i = true
  ·rw [if_pos hb, if_pos hb, List.map_append, List.map_cons, List.map_nil, igo_snoc, h1, Option.bind_some, if_pos (good_term hn (by omega)), pt_term hn (by omega)]
  ·rw [if_neg hb, if_neg hb, h1]
theorem fm_len {n w : Nat} (t : Tab n w) : (fm n w).length ≤ 200 := by
 have h1 := sj_len t.hn (anfW n w) (2 ^ n)
 have h2 := t.size
 unfold fm
 split
 ·simp
 ·omega
/-- A table's text is read back. -/
theorem parse_fmt {n w : Nat} (t : Tab n w) : Ev (fun k => impl_ParseAnf.f k n (ofL (fm n w))) ((n : Int), (w : Int), true) := by
 have hn := t.hn
 have hinv := anf_anf t
 have hg := (anfW_tab t).hw
 refine ev_eq (impl_ParseAnf_ev hn (fm_len t)) ?_
 have hfm : fm n w = if sj n (anfW n w) (2 ^ n) = [] then [48] else sj n (anfW n w) (2 ^ n) := rfl
 have hI := igo_ml (g := anfW n w) hn (2 ^ n) (Nat.le_refl _)
 rw [wordN_self hg] at hI
 by_cases e : sj n (anfW n w) (2 ^ n) = []
 ·rw [if_pos e] at hfm
  rw [if_pos hfm]
  rw [(sj_nil hn).1 e] at hI
  have h0 : anfW n w = 0 := (Option.some.inj hI).symm
  rw [h0] at hinv
  unfold fin3
  rw [hinv, if_pos rfl]
 ·rw [if_neg e] at hfm
  rw [if_neg (fun h => by rw [h] at hfm; exact sj_no (c := 48) hn (by decide) (by decide) (by decide) (2 ^ n) (by rw [← hfm]; exact List.mem_cons_self))]
  have hsp : spg [] (fm n w) = (ml (anfW n w) (2 ^ n)).map (term n) := by
   rw [hfm]
   unfold sj
   cases hm : ml (anfW n w) (2 ^ n) with
   | nil => exact absurd ((sj_nil hn).2 hm) e
   | cons x xs =>
    rw [List.map_cons]
    refine spg_join _ _ _ fun q hq => ?_
    rw [← List.map_cons] at hq
    obtain ⟨m, _, rfl⟩ := List.mem_map.1 hq
    exact term_no hn (by decide) (by decide)
  rw [hsp, hI]
  show fin3 n (fm n w) (anfW n w) = _
  unfold fin3
  rw [hinv, if_pos rfl]

theorem AnfOf_key (b W : Int) : ∃ r, Ev (fun k => spec_AnfOf.f k b W) r ∧ impl_AnfOf.f b W = some r := by
 by_cases h : isTab b W = true
 ·have h' := h
  obtain ⟨n, w, rfl, rfl, t⟩ := isTab_yes h
  refine ⟨((n : Int), ((anfW n w : Nat) : Int), true), ?_, ?_⟩
  ·unfold spec_AnfOf.f
   simp only [spec_IsTable_eq, Option.bind_some, h', if_true]
   exact ev1' (spec_l11Anf_ev t) fun k hk => by rw [hk]; rfl
  ·unfold impl_AnfOf.f
   rw [impl_IsTable_eq, Option.bind_some, if_pos h', impl_Table_anf_eq t]
   rfl
 ·unfold spec_AnfOf.f impl_AnfOf.f
  simp only [spec_IsTable_eq, impl_IsTable_eq, Option.bind_some, if_neg h]
  exact ⟨_, Ev.now _, rfl⟩

theorem spec_RealDegree_ev {n w : Nat} (t : Tab n w) : Ev (fun k => spec_RealDegree.f k n w) (mostN (fun m => cof n w m != 0) (2 ^ n)) := by
 have hn := t.hn
 have hs := t.size
 unfold spec_RealDegree.f
 simp only [spec_IsTable_eq, isTab_mk t, Option.bind_some, if_true]
 refine ev1 (spec_RealCoefficients_ev t) (G := fun k => spec_RealDegree.l0 k (tab (2 ^ n) (cof n w)) (-1) 0) (fun k hk => by rw [hk]; rfl) ?_
 refine ev_for (fun k m => spec_RealDegree.l0 k (tab (2 ^ n) (cof n w)) (mostN (fun m => cof n w m != 0) m) (m : Int)) (2 ^ n) ?_ ?_
 ·intro m hm h
  refine evs1 (spec_l2Count_ev (x := m) (by omega)) (fun k hk => ?_) h
  simp only [spec_RealDegree.l0]
  rw [tab_len, if_pos (Int.ofNat_lt.mpr hm), if_pos (Int.natCast_nonneg _), tab_rd _ hm, hk, Option.bind_some, w64 (by omega) (by omega)]
  simp only [mostN]
  by_cases e : cof n w m = 0
  ·rw [if_pos e, if_neg (by rw [e]; decide)]; rfl
  ·rw [if_neg e, if_pos (by rw [bne_iff_ne]; exact e)]; rfl
 ·refine ev0 fun k => ?_
  simp only [spec_RealDegree.l0]
  rw [tab_len, if_neg (by omega)]
theorem RealDegree_key (b W : Int) : ∃ r, Ev (fun k => spec_RealDegree.f k b W) r ∧ Ev (fun k => impl_RealDegree.f k b W) r := by
 by_cases h : isTab b W = true
 ·have h' := h
  obtain ⟨n, w, rfl, rfl, t⟩ := isTab_yes h
  have hn := t.hn
  have hs := t.size
  refine ⟨_, spec_RealDegree_ev t, ?_⟩
  unfold impl_RealDegree.f
  simp only [impl_IsTable_eq, Option.bind_some, h', if_true]
  refine ev1' (impl_Table_coefficients_ev t) fun k hk => ?_
  rw [hk, Option.bind_some, if_pos ⟨by omega, by rw [tab_len, Int.toNat_natCast]⟩, Int.toNat_natCast, impl_degree_most_eq _ _ hs]
  congr 1
  exact mostN_congr fun m hm => by rw [tab_rd _ hm]
 ·unfold spec_RealDegree.f impl_RealDegree.f
  simp only [spec_IsTable_eq, impl_IsTable_eq, Option.bind_some, if_neg h]
  exact ⟨_, Ev.now _, Ev.now _⟩

theorem spec_DegreeMod2_ev {n w : Nat} (t : Tab n w) : Ev (fun k => spec_DegreeMod2.f k n w) (mostN (fun m => (anfW n w).testBit m) (2 ^ n)) := by
 have hn := t.hn
 have hs := t.size
 have ta := anfW_tab t
 unfold spec_DegreeMod2.f
 simp only [spec_IsTable_eq, isTab_mk t, Option.bind_some, if_true]
 refine ev1 (spec_l11Anf_ev t) (G := fun k => spec_DegreeMod2.l0 k ((anfW n w : Nat) : Int) (-1) 0 n w) (fun k hk => by rw [hk]; rfl) ?_
 generalize anfW n w = v at ta ⊢
 refine ev_for (fun k m => spec_DegreeMod2.l0 k (v : Int) (mostN (fun m => v.testBit m) m) (m : Int) n w) (2 ^ n) ?_ ?_
 ·intro m hm h
  refine evs1 (spec_l2Count_ev (x := m) (by omega)) (fun k hk => ?_) h
  simp only [spec_DegreeMod2.l0]
  rw [if_pos (Int.natCast_nonneg _), shl1 (by omega), if_pos (Int.ofNat_lt.mpr hm), if_pos (Int.natCast_nonneg _), at1 ta.w63, hk, Option.bind_some, w64 (by omega) (by omega)]
  simp only [mostN]
  by_cases hv : v.testBit m = true
  ·rw [if_pos (by rw [hv]; rfl), if_pos hv]; rfl
  ·rw [if_neg (by rw [Bool.eq_false_iff.mpr hv]; decide), if_neg hv]; rfl
 ·refine ev0 fun k => ?_
  simp only [spec_DegreeMod2.l0]
  rw [if_pos (Int.natCast_nonneg _), shl1 (by omega), if_neg (by omega)]
theorem DegreeMod2_key (b W : Int) : ∃ r, Ev (fun k => spec_DegreeMod2.f k b W) r ∧ impl_DegreeMod2.f b W = some r := by
 by_cases h : isTab b W = true
 ·have h' := h
  obtain ⟨n, w, rfl, rfl, t⟩ := isTab_yes h
  have hn := t.hn
  have hs := t.size
  refine ⟨_, spec_DegreeMod2_ev t, ?_⟩
  unfold impl_DegreeMod2.f
  rw [impl_IsTable_eq, Option.bind_some, if_pos h', impl_Table_anf_eq t, Option.bind_some, if_pos (by omega), Int.toNat_natCast, impl_degree_most_eq _ _ hs]
  congr 1
  refine mostN_congr fun m hm => ?_
  unfold impl_DegreeMod2.on
  rw [impl_Table_at_eq (anfW_tab t), Option.getD_some]
  cases (anfW n w).testBit m <;> rfl
 ·unfold spec_DegreeMod2.f impl_DegreeMod2.f
  simp only [spec_IsTable_eq, impl_IsTable_eq, Option.bind_some, if_neg h]
  exact ⟨_, Ev.now _, rfl⟩

theorem spec_l1In_eq (a b c : Int) : spec_l1In.f a b c = some (decide (b ≤ a ∧ a ≤ c)) := by
 unfold spec_l1In.f
 by_cases h : b ≤ a
 ·rw [if_pos h]; simp [h]
 ·rw [if_neg h]; simp [h]

theorem impl_bitsOf_yes {n : Nat} (hn : n ≤ 5) : Ev (fun k => impl_bitsOf.f k ((2 ^ n : Nat) : Int)) ((n : Int), true) := by
 unfold impl_bitsOf.f
 refine ev_for (fun k i => impl_bitsOf.l0 k ((2 ^ n : Nat) : Int) (i : Int)) n ?_ ?_
 ·intro i hi h
  refine Ev.step (fun k => ?_) h
  have hlt := Nat.pow_lt_pow_right (show 1 < 2 by omega) hi
  simp only [impl_bitsOf.l0]
  rw [if_pos (by omega), if_pos (by omega), shl1 (by omega), if_neg (by omega), w64 (by omega) (by omega)]
  rfl
 ·refine ev0 fun k => ?_
  simp only [impl_bitsOf.l0]
  rw [if_pos (by omega), if_pos (by omega), shl1 (by omega), if_pos rfl]
theorem impl_bitsOf_no {m : Nat} (h : ∀ n, n ≤ 5 → m ≠ 2 ^ n) : Ev (fun k => impl_bitsOf.f k (m : Int)) (0, false) := by
 unfold impl_bitsOf.f
 refine ev_for (fun k i => impl_bitsOf.l0 k (m : Int) (i : Int)) 6 ?_ ?_
 ·intro i hi hh
  refine Ev.step (fun k => ?_) hh
  have := h i (by omega)
  simp only [impl_bitsOf.l0]
  rw [if_pos (by omega), if_pos (by omega), shl1 (by omega), if_neg (by omega), w64 (by omega) (by omega)]
  rfl
 ·refine ev0 fun k => ?_
  simp only [impl_bitsOf.l0]
  rw [if_neg (by omega)]

theorem impl_isBit_eq (a : Int) : impl_isBit.f a = some (decide (0 ≤ a ∧ a ≤ 1)) := by
 unfold impl_isBit.f
 by_cases h : a = 0
 ·rw [if_pos h, decide_eq_true (by omega)]
 ·rw [if_neg h]
  congr 1
  rw [Bool.eq_iff_iff, beq_iff_eq, decide_eq_true_eq]
  omega

/-- A coefficient, where its set is a part of an input. -/
def cpt (l : List Int) (x m : Nat) : Int := if m &&& x = m then rd l (m : Int) else 0
def cval (l : List Int) (x : Nat) : Int := sumI (x + 1) (cpt l x)
def cwd (l : List Int) : Nat → Nat
 | 0 => 0
 | x + 1 => cwd l x ||| (cval l x).toNat * 2 ^ x
def inR (l : List Int) (m : Nat) : Prop := -1000 ≤ rd l (m : Int) ∧ rd l (m : Int) ≤ 1000
def isB (v : Int) : Prop := 0 ≤ v ∧ v ≤ 1
theorem cwd_lt (l : List Int) (x : Nat) (h : ∀ y, y < x → isB (cval l y)) : cwd l x < 2 ^ x := by
 induction x with
 | zero => simp [cwd]
 | succ x ih =>
  have h1 := ih fun y hy => h y (by omega)
  have h2 := h x (by omega)
  unfold isB at h2
  simp only [cwd]
  have e : 2 ^ (x + 1) = 2 ^ x + 2 ^ x := by rw [Nat.pow_succ]; omega
  refine Nat.or_lt_two_pow (by omega) ?_
  have : (cval l x).toNat ≤ 1 := by omega
  have := Nat.mul_le_mul_right (2 ^ x) this
  have := Nat.two_pow_pos x
  omega
theorem cpt_sum {l : List Int} {x M : Nat} (hM : M ≤ 32) (h : ∀ m, m < M → m &&& x = m → inR l m) : -32000 ≤ sumI M (cpt l x) ∧ sumI M (cpt l x) ≤ 32000 := by
 have := sumI_bound (n := M) (f := cpt l x) (a := -1000) (b := 1000) fun m hm => by
  unfold cpt
  by_cases e : m &&& x = m
  ·rw [if_pos e]; exact h m hm e
  ·rw [if_neg e]; omega
 omega
/-- The word with one value more. -/
theorem word_step {l : List Int} {x : Nat} (hx : x < 32) (h : ∀ y, y < x → isB (cval l y)) (hb : isB (cval l x)) : Go.bits .or .i64 ((cwd l x : Nat) : Int) (shl .i64 (cval l x) (x : Int)) = ((cwd l (x + 1) : Nat) : Int) := by
 have h1 := cwd_lt l x h
 have hp : 2 ^ x ≤ 2 ^ 31 := Nat.pow_le_pow_right (by omega) (by omega)
 obtain ⟨v, hv⟩ := Int.eq_ofNat_of_zero_le hb.1
 have hv1 : v ≤ 1 := by have := hb.2; omega
 have := Nat.mul_le_mul_right (2 ^ x) hv1
 rw [hv, shlN (by omega), borN (by omega) (by omega)]
 simp only [cwd]
 rw [hv, Int.toNat_natCast]
theorem spec_inner (l : List Int) (n : Int) (W : Int) {x : Nat} (hx : x < l.length) (hl : l.length ≤ 32) (M : Nat) (hM : M ≤ x + 1) (h : ∀ m, m < M → m &&& x = m → inR l m) {r : Int × Int × Bool}
  (hr : Ev (fun k => spec_TableOfCoefficients.l2 k l n W x (sumI M (cpt l x)) M) r) : Ev (fun k => spec_TableOfCoefficients.l2 k l n W x 0 0) r := by
 refine ev_for (fun k m => spec_TableOfCoefficients.l2 k l n W x (sumI m (cpt l x)) (m : Int)) M ?_ hr
 intro m hm hh
 refine Ev.step (fun k => ?_) hh
 have hs := cpt_sum (l := l) (x := x) (M := m) (by omega) fun i hi => h i (by omega)
 simp only [spec_TableOfCoefficients.l2]
 rw [if_pos (by omega), bandN (by omega) (by omega), w64 (x := (m : Int) + 1) (by omega) (by omega)]
 by_cases e : m &&& x = m
 ·have hm2 := h m hm e
  have e2 : cpt l x m = rd l (m : Int) := by unfold cpt; rw [if_pos e]
  unfold inR at hm2
  rw [if_pos (by omega), if_pos (by omega), if_pos (by omega), spec_l1In_eq, Option.bind_some, if_pos (by rw [decide_eq_true]; exact hm2), w64 (by omega) (by omega)]
  simp only [sumI]
  rw [e2]
  rfl
 ·have e2 : cpt l x m = 0 := by unfold cpt; rw [if_neg e]
  rw [if_neg (by omega)]
  simp only [sumI]
  rw [e2, Int.add_zero]
  rfl
/-- One value of the reference: on to the next, or a failure. -/
theorem spec_value {l : List Int} {n : Int} {x : Nat} (hx : x < l.length) (hl : l.length ≤ 32) (h : ∀ m, m ≤ x → m &&& x = m → inR l m) (hw : ∀ y, y < x → isB (cval l y)) {r : Int × Int × Bool}
  (hyes : isB (cval l x) → Ev (fun k => spec_TableOfCoefficients.l1 k l n ((cwd l (x + 1) : Nat) : Int) ((x + 1 : Nat) : Int)) r) (hno : ¬ isB (cval l x) → r = (0, 0, false)) :
  Ev (fun k => spec_TableOfCoefficients.l1 k l n ((cwd l x : Nat) : Int) (x : Int)) r := by
 refine Ev.step (f := fun k => spec_TableOfCoefficients.l2 k l n ((cwd l x : Nat) : Int) x 0 0) (fun k => ?_) ?_
 ·simp only [spec_TableOfCoefficients.l1]
  rw [if_pos (Int.ofNat_lt.mpr hx)]
 refine spec_inner l n _ hx hl (x + 1) (by omega) (fun m hm => h m (by omega)) ?_
 show Ev (fun k => spec_TableOfCoefficients.l2 k l n ((cwd l x : Nat) : Int) x (cval l x) ((x + 1 : Nat) : Int)) r
 by_cases hb : isB (cval l x)
 ·refine Ev.step (fun k => ?_) (hyes hb)
  simp only [spec_TableOfCoefficients.l2]
  rw [if_neg (by omega), spec_l1In_eq, Option.bind_some, if_pos (by rw [decide_eq_true]; exact hb), if_pos (Int.natCast_nonneg _), word_step (by omega) hw hb, w64 (by omega) (by omega)]
  rfl
 ·rw [hno hb]
  refine ev0 fun k => ?_
  simp only [spec_TableOfCoefficients.l2]
  rw [if_neg (by omega), spec_l1In_eq, Option.bind_some, if_neg (by rw [decide_eq_false (show ¬ ((0 : Int) ≤ cval l x ∧ cval l x ≤ 1) from hb)]; decide)]
theorem spec_to {l : List Int} {n : Int} (hl : l.length ≤ 32) (X : Nat) (hX : X ≤ l.length) (h : ∀ m, m < X → inR l m) (hb : ∀ y, y < X → isB (cval l y)) {r : Int × Int × Bool}
  (hr : Ev (fun k => spec_TableOfCoefficients.l1 k l n ((cwd l X : Nat) : Int) (X : Int)) r) : Ev (fun k => spec_TableOfCoefficients.l1 k l n 0 0) r := by
 refine ev_for (fun k x => spec_TableOfCoefficients.l1 k l n ((cwd l x : Nat) : Int) (x : Int)) X ?_ hr
 intro x hx hh
 exact spec_value (by omega) hl (fun m hm _ => h m (by omega)) (fun y hy => hb y (by omega)) (fun _ => hh) fun hn => absurd (hb x hx) hn
theorem impl_inner (l : List Int) (n W : Int) {x : Nat} (hx : x < l.length) (hl : l.length ≤ 32) (h : ∀ m, m < l.length → inR l m) {r : Int × Int × Bool}
  (hr : Ev (fun k => impl_TableOfCoefficients.l2 k l x (cval l x) l.length x l l.length l.length n W) r) : Ev (fun k => impl_TableOfCoefficients.l2 k l x 0 l.length x l l.length 0 n W) r := by
 have e : cval l x = sumI l.length (cpt l x) := by
  unfold cval
  rw [show l.length = (x + 1) + (l.length - (x + 1)) by omega]
  refine (sumI_tail _ fun m hm => ?_).symm
  unfold cpt
  rw [if_neg]
  intro e
  have : m &&& x ≤ x := Nat.and_le_right
  omega
 rw [e] at hr
 refine ev_for (fun k m => impl_TableOfCoefficients.l2 k l x (sumI m (cpt l x)) l.length x l l.length (m : Int) n W) l.length ?_ hr
 intro m hm hh
 refine Ev.step (fun k => ?_) hh
 have hs := cpt_sum (l := l) (x := x) (M := m) (by omega) fun i hi _ => h i (by omega)
 have hm2 := h m hm
 unfold inR at hm2
 simp only [impl_TableOfCoefficients.l2]
 rw [if_pos (Int.ofNat_lt.mpr hm), if_pos (Int.natCast_nonneg _), if_pos (Int.ofNat_lt.mpr hm), bandnotN (by omega) (by omega), w64 (x := (m : Int) + 1) (by omega) (by omega)]
 by_cases e : m &&& x = m
 ·have e2 : cpt l x m = rd l (m : Int) := by unfold cpt; rw [if_pos e]
  rw [if_pos (by rw [e, Nat.xor_self]; rfl), w64 (by omega) (by omega)]
  simp only [sumI]
  rw [e2]
  rfl
 ·have e2 : cpt l x m = 0 := by unfold cpt; rw [if_neg e]
  rw [if_neg (fun h => e (xor_zero (by omega)).symm)]
  simp only [sumI]
  rw [e2, Int.add_zero]
  rfl
theorem impl_value {l : List Int} {n : Int} {x : Nat} (hx : x < l.length) (hl : l.length ≤ 32) (h : ∀ m, m < l.length → inR l m) (hw : ∀ y, y < x → isB (cval l y)) {r : Int × Int × Bool}
  (hyes : isB (cval l x) → Ev (fun k => impl_TableOfCoefficients.l1 k l l.length ((x + 1 : Nat) : Int) n ((cwd l (x + 1) : Nat) : Int)) r) (hno : ¬ isB (cval l x) → r = (0, 0, false)) :
  Ev (fun k => impl_TableOfCoefficients.l1 k l l.length (x : Int) n ((cwd l x : Nat) : Int)) r := by
 refine Ev.step (f := fun k => impl_TableOfCoefficients.l2 k l x 0 l.length x l l.length 0 n ((cwd l x : Nat) : Int)) (fun k => ?_) ?_
 ·simp only [impl_TableOfCoefficients.l1]
  rw [if_pos (Int.ofNat_lt.mpr hx)]
 refine impl_inner l n _ hx hl h ?_
 by_cases hb : isB (cval l x)
 ·refine Ev.step (fun k => ?_) (hyes hb)
  simp only [impl_TableOfCoefficients.l2]
  rw [if_neg (by omega), impl_isBit_eq, Option.bind_some, if_pos (by rw [decide_eq_true]; exact hb), if_pos (Int.natCast_nonneg _), word_step (by omega) hw hb, w64 (by omega) (by omega)]
  rfl
 ·rw [hno hb]
  refine ev0 fun k => ?_
  simp only [impl_TableOfCoefficients.l2]
  rw [if_neg (by omega), impl_isBit_eq, Option.bind_some, if_neg (by rw [decide_eq_false (show ¬ ((0 : Int) ≤ cval l x ∧ cval l x ≤ 1) from hb)]; decide)]
theorem impl_to {l : List Int} {n : Int} (hl : l.length ≤ 32) (h : ∀ m, m < l.length → inR l m) (X : Nat) (hX : X ≤ l.length) (hb : ∀ y, y < X → isB (cval l y)) {r : Int × Int × Bool}
  (hr : Ev (fun k => impl_TableOfCoefficients.l1 k l l.length (X : Int) n ((cwd l X : Nat) : Int)) r) : Ev (fun k => impl_TableOfCoefficients.l1 k l l.length 0 n 0) r := by
 refine ev_for (fun k x => impl_TableOfCoefficients.l1 k l l.length (x : Int) n ((cwd l x : Nat) : Int)) X ?_ hr
 intro x hx hh
 exact impl_value (by omega) hl h (fun y hy => hb y (by omega)) (fun _ => hh) fun hn => absurd (hb x hx) hn
/-- The first place where something does not hold. -/
theorem first_not (P : Nat → Prop) (N : Nat) : (∀ i, i < N → P i) ∨ ∃ j, j < N ∧ ¬ P j ∧ ∀ i, i < j → P i := by
 induction N with
 | zero => exact .inl fun i hi => absurd hi (by omega)
 | succ N ih =>
  rcases ih with h | ⟨j, h1, h2, h3⟩
  ·by_cases hN : P N
   ·refine .inl fun i hi => ?_
    by_cases e : i = N
    ·exact e ▸ hN
    ·exact h i (by omega)
   ·exact .inr ⟨N, by omega, hN, h⟩
  ·exact .inr ⟨j, by omega, h2, h3⟩
theorem impl_check {l : List Int} {n : Nat} (hn : n ≤ 5) (hl : l.length = 2 ^ n) {r : Int × Int × Bool} (X : Nat) (hX : X ≤ l.length) (h : ∀ m, m < X → inR l m)
  (hr : Ev (fun k => impl_TableOfCoefficients.l0 k l n l l.length (X : Int)) r) : Ev (fun k => impl_TableOfCoefficients.f k l) r := by
 have hs := pow62 hn
 unfold impl_TableOfCoefficients.f
 have hb := impl_bitsOf_yes hn
 rw [← hl] at hb
 refine ev1 hb (G := fun k => impl_TableOfCoefficients.l0 k l n l l.length 0) (fun k hk => by rw [hk]; rfl) ?_
 refine ev_for (fun k m => impl_TableOfCoefficients.l0 k l n l l.length (m : Int)) X ?_ hr
 intro m hm hh
 refine Ev.step (fun k => ?_) hh
 have hm2 := h m hm
 unfold inR at hm2
 simp only [impl_TableOfCoefficients.l0]
 rw [if_pos (by omega), if_pos (by omega), if_pos (by omega), if_neg (by omega), if_neg (by omega), w64 (by omega) (by omega)]
 rfl
theorem spec_start {l : List Int} {n : Nat} (hn : n ≤ 5) (hl : l.length = 2 ^ n) {r : Int × Int × Bool} (hr : Ev (fun k => spec_TableOfCoefficients.l1 k l n 0 0) r) : Ev (fun k => spec_TableOfCoefficients.f k l) r := by
 unfold spec_TableOfCoefficients.f
 refine ev_for (fun k i => spec_TableOfCoefficients.l0 k l (i : Int)) n ?_ ?_
 ·intro i hi h
  refine Ev.step (fun k => ?_) h
  have hlt := Nat.pow_lt_pow_right (show 1 < 2 by omega) hi
  simp only [spec_TableOfCoefficients.l0]
  rw [if_pos (by omega), if_pos (by omega), shl1 (by omega), if_neg (by omega), w64 (by omega) (by omega)]
  rfl
 ·refine Ev.step (fun k => ?_) hr
  simp only [spec_TableOfCoefficients.l0]
  rw [if_pos (by omega), if_pos (by omega), shl1 (by omega), if_pos (by omega)]
theorem TableOfCoefficients_key (l : List Int) : ∃ r, Ev (fun k => spec_TableOfCoefficients.f k l) r ∧ Ev (fun k => impl_TableOfCoefficients.f k l) r := by
 by_cases hN : ∃ n, n ≤ 5 ∧ l.length = 2 ^ n
 ·obtain ⟨n, hn, hl⟩ := hN
  have hs := pow62 hn
  have hs2 : l.length ≤ 32 := by omega
  rcases first_not (inR l) l.length with hall | ⟨j, hj, hnj, hlt⟩
  ·rcases first_not (fun x => isB (cval l x)) l.length with hb | ⟨x, hx, hnx, hbx⟩
   ·refine ⟨(n, ((cwd l l.length : Nat) : Int), true), spec_start hn hl (spec_to hs2 l.length (Nat.le_refl _) hall hb (ev0 fun k => ?_)), impl_check hn hl l.length (Nat.le_refl _) hall ?_⟩
    ·simp only [spec_TableOfCoefficients.l1]
     rw [if_neg (by omega)]
    ·refine Ev.step (f := fun k => impl_TableOfCoefficients.l1 k l l.length 0 n 0) (fun k => ?_) (impl_to hs2 hall l.length (Nat.le_refl _) hb (ev0 fun k => ?_))
     ·simp only [impl_TableOfCoefficients.l0]
      rw [if_neg (by omega), show impl_Table_size.f n 0 = some ((2 ^ n : Nat) : Int) from impl_Table_size_eq (by omega) 0, Option.bind_some, hl]
     ·simp only [impl_TableOfCoefficients.l1]
      rw [if_neg (by omega)]
   ·refine ⟨(0, 0, false), spec_start hn hl (spec_to hs2 x (by omega) (fun m hm => hall m (by omega)) hbx (spec_value hx hs2 (fun m hm _ => hall m (by omega)) hbx (fun h => absurd h hnx) fun _ => rfl)), impl_check hn hl l.length (Nat.le_refl _) hall ?_⟩
    refine Ev.step (f := fun k => impl_TableOfCoefficients.l1 k l l.length 0 n 0) (fun k => ?_) (impl_to hs2 hall x (by omega) hbx (impl_value hx hs2 hall hbx (fun h => absurd h hnx) fun _ => rfl))
    simp only [impl_TableOfCoefficients.l0]
    rw [if_neg (by omega), show impl_Table_size.f n 0 = some ((2 ^ n : Nat) : Int) from impl_Table_size_eq (by omega) 0, Option.bind_some, hl]
  ·refine ⟨(0, 0, false), spec_start hn hl ?_, impl_check hn hl j (by omega) hlt (ev0 fun k => ?_)⟩
   ·have out : ∀ {W : Int}, Ev (fun k => spec_TableOfCoefficients.l1 k l n W (j : Int)) (0, 0, false) := by
     intro W
     refine Ev.step (f := fun k => spec_TableOfCoefficients.l2 k l n W j 0 0) (fun k => ?_) ?_
     ·simp only [spec_TableOfCoefficients.l1]
      rw [if_pos (Int.ofNat_lt.mpr hj)]
     ·refine spec_inner l n W hj hs2 j (by omega) (fun m hm _ => hlt m hm) (ev0 fun k => ?_)
      simp only [spec_TableOfCoefficients.l2]
      rw [if_pos (by omega), bandN (by omega) (by omega), if_pos (by rw [Nat.and_self]), if_pos (by omega), if_pos (by omega), spec_l1In_eq, Option.bind_some, if_neg (by rw [decide_eq_false (show ¬ ((-1000 : Int) ≤ rd l (j : Int) ∧ rd l (j : Int) ≤ 1000) from hnj)]; decide)]
    rcases first_not (fun x => isB (cval l x)) j with hb | ⟨x, hx, hnx, hbx⟩
    ·exact spec_to hs2 j (by omega) hlt hb out
    ·exact spec_to hs2 x (by omega) (fun m hm => hlt m (by omega)) hbx (spec_value (by omega) hs2 (fun m hm _ => hlt m (by omega)) hbx (fun h => absurd h hnx) fun _ => rfl)
   ·simp only [impl_TableOfCoefficients.l0]
    unfold inR at hnj
    rw [if_pos (by omega), if_pos (by omega), if_pos (by omega)]
    by_cases e : rd l (j : Int) < -1000
    ·rw [if_pos e]
    ·rw [if_neg e, if_pos (by omega)]
 ·have hno : ∀ n, n ≤ 5 → l.length ≠ 2 ^ n := fun n hn e => hN ⟨n, hn, e⟩
  refine ⟨(0, 0, false), ?_, ?_⟩
  ·unfold spec_TableOfCoefficients.f
   refine ev_for (fun k i => spec_TableOfCoefficients.l0 k l (i : Int)) 6 ?_ ?_
   ·intro i hi h
    refine Ev.step (fun k => ?_) h
    have := hno i (by omega)
    simp only [spec_TableOfCoefficients.l0]
    rw [if_pos (by omega), if_pos (by omega), shl1 (by omega), if_neg (by omega), w64 (by omega) (by omega)]
    rfl
   ·refine ev0 fun k => ?_
    simp only [spec_TableOfCoefficients.l0]
    rw [if_neg (by omega)]
  ·unfold impl_TableOfCoefficients.f
   exact ev1' (impl_bitsOf_no hno) fun k hk => by rw [hk]; rfl

theorem impl_hasInput_eq (b W x : Int) : impl_hasInput.f b W x = some (isTab b W && isInp b x) := by
 unfold impl_hasInput.f
 rw [impl_IsTable_eq, Option.bind_some]
 by_cases h : isTab b W = true
 ·obtain ⟨n, w, rfl, rfl, t⟩ := isTab_yes h
  rw [if_pos h, impl_isInput_eq (by have := t.hn; omega), Option.bind_some, h, Bool.true_and]
 ·rw [if_neg h, Bool.eq_false_iff.mpr h, Bool.false_and]

theorem laws_sameInts_ev (l : List Int) (h : l.length ≤ 1048576) : Ev (fun k => laws_sameInts.f k l l) true := by
 unfold laws_sameInts.f
 simp only [if_true]
 refine ev_for (fun k i => laws_sameInts.l0 k l l (i : Int)) l.length ?_ ?_
 ·intro i hi hh
  refine Ev.step (fun k => ?_) hh
  simp only [laws_sameInts.l0]
  rw [if_pos (by omega), if_pos (by omega), if_pos (by omega), if_pos trivial, w64 (by omega) (by omega)]
  rfl
 ·refine ev0 fun k => ?_
  simp only [laws_sameInts.l0]
  rw [if_neg (by omega)]

theorem ev_same {A : Type} {g : Nat → Option A} {a b : A} (h1 : Ev g a) (h2 : Ev g b) : a = b := by
 obtain ⟨K, hK⟩ := ev_two h1 h2
 have := hK K (Nat.le_refl _)
 exact Option.some.inj (this.1.symm.trans this.2)
theorem cwd_word {l : List Int} {w : Nat} : ∀ x, (∀ y, y < x → cval l y = b2i (w.testBit y)) → cwd l x = wordN (fun j => w.testBit j) x := by
 intro x
 induction x with
 | zero => intro _; rfl
 | succ x ih =>
  intro h
  simp only [cwd, wordN]
  rw [ih fun y hy => h y (by omega), h x (by omega)]
  by_cases hb : w.testBit x = true
  ·rw [if_pos hb, hb]
   simp [b2i]
  ·rw [if_neg hb, Bool.eq_false_iff.mpr hb]
   simp [b2i]
theorem cval_cof {n w x : Nat} (hn : n ≤ 5) (hx : x < 2 ^ n) : cval (tab (2 ^ n) (cof n w)) x = b2i (w.testBit x) := by
 rw [← cof_inv hn hx]
 unfold cval
 have e1 : sumI (x + 1) (cpt (tab (2 ^ n) (cof n w)) x) = sumI (x + 1) fun m => if m &&& x = m then cof n w m else 0 := sumI_congr fun m hm => by
  unfold cpt
  by_cases e : m &&& x = m
  ·rw [if_pos e, if_pos e, tab_rd _ (by omega)]
  ·rw [if_neg e, if_neg e]
 rw [e1]
 have h := sumI_tail (f := fun m => if m &&& x = m then cof n w m else 0) (a := x + 1) (2 ^ n - (x + 1)) fun m hm => by
  rw [if_neg]
  intro e
  have : m &&& x ≤ x := Nat.and_le_right
  omega
 rw [show x + 1 + (2 ^ n - (x + 1)) = 2 ^ n by omega] at h
 exact h.symm
/-- A table's coefficients give it back. -/
theorem back_coef {n w : Nat} (t : Tab n w) : Ev (fun k => spec_TableOfCoefficients.f k (tab (2 ^ n) (cof n w))) ((n : Int), (w : Int), true) := by
 have hn := t.hn
 have hs := t.size
 have hl : (tab (2 ^ n) (cof n w)).length = 2 ^ n := tab_len _ _
 have hs2 : (tab (2 ^ n) (cof n w)).length ≤ 32 := by omega
 have hall : ∀ m, m < (tab (2 ^ n) (cof n w)).length → inR (tab (2 ^ n) (cof n w)) m := by
  intro m hm
  have := cof_range n w m
  unfold inR
  rw [tab_rd _ (by omega)]
  omega
 have hb : ∀ x, x < (tab (2 ^ n) (cof n w)).length → isB (cval (tab (2 ^ n) (cof n w)) x) := by
  intro x hx
  rw [cval_cof hn (by omega)]
  exact b2i_range _
 have hw : cwd (tab (2 ^ n) (cof n w)) (tab (2 ^ n) (cof n w)).length = w := by
  rw [hl, cwd_word (w := w) _ fun y hy => cval_cof hn hy, wordN_self t.hw]
 refine spec_start hn hl (spec_to hs2 _ (Nat.le_refl _) hall hb (ev0 fun k => ?_))
 simp only [spec_TableOfCoefficients.l1]
 rw [if_neg (by omega), hw]
theorem struct_same (r : Int × Int × Bool) : (r.1 == r.1 && (r.2.1 == r.2.1)) = true := by simp
theorem struct_no (a b : Int) : ¬ (!(a == a) || (!(b == b))) = true := by simp
theorem FnDegrees_l0 {l0 : List Int} (hl : l0.length ≤ 4611686018427387904) {n w : Nat} (t : Tab n w) : Ev (fun k => laws_FnDegrees.l0 k l0 (tab (2 ^ n) (cof n w)) 0 n ((anfW n w : Nat) : Int)) true := by
 have hn := t.hn
 have hs := t.size
 have ta := anfW_tab t
 refine ev_for (fun k m => laws_FnDegrees.l0 k l0 (tab (2 ^ n) (cof n w)) (m : Int) n ((anfW n w : Nat) : Int)) (2 ^ n) ?_ ?_
 ·intro m hm h
  have hv : impl_ValueAt.f n ((anfW n w : Nat) : Int) m = some (b2i ((anfW n w).testBit m)) := by
   unfold impl_ValueAt.f
   rw [impl_hasInput_eq, isTab_mk ta, isInp_mk hm, Option.bind_some, Bool.and_self, if_pos rfl, impl_Table_at_eq ta]
   rfl
  have hc := cof_bit (w := w) hm
  have hno : ¬ (((Int.tmod (rd (tab (2 ^ n) (cof n w)) (m : Int)) 2) != 0) != (b2i ((anfW n w).testBit m) == 1)) = true := by
   rw [tab_rd _ hm, odd_tmod]
   cases hb : (anfW n w).testBit m
   ·rw [hb] at hc
    rw [decide_eq_false (show ¬ cof n w m % 2 = 1 by simp only [b2i] at hc; simp at hc; omega)]
    decide
   ·rw [hb] at hc
    rw [decide_eq_true (show cof n w m % 2 = 1 by simp only [b2i] at hc; simp at hc; omega)]
    decide
  refine Ev.step (fun k => ?_) h
  simp only [laws_FnDegrees.l0]
  rw [tab_len, if_pos (by omega), if_pos (Int.natCast_nonneg _), hv, Option.bind_some, if_neg hno, w64 (by omega) (by omega)]
  rfl
 ·obtain ⟨L, hL, _⟩ := DrawToC_ok hl
  obtain ⟨r, s1, i1⟩ := TableOfCoefficients_key L
  obtain ⟨p, hP, _⟩ := DrawParseAnf_ok hl
  obtain ⟨q, s2, i2⟩ := parse_same p.1 p.2
  obtain ⟨f, hF, _⟩ := DrawFormatAnf_ok hl
  obtain ⟨s, _, s3, i3⟩ := FormatAnf_ok f.1 f.2
  refine Ev.step (fun k => laws_FnDegrees.l0.eq_2 ..) ?_
  refine ev_ifn (by rw [tab_len]; omega) (ev_bd hL (ev_bd i1 (ev_bd s1 (ev_bd hP (ev_bd i2 (ev_bd s2 (ev_bd hF (ev_if (struct_same r) (ev_if (by simp) (ev_if (struct_same q) (ev_if (by simp) (ev_bd i3 (ev_bd s3 (ev_const (by simp)))))))))))))))
theorem FnDegrees (l0 : List Int) (hm : l0.length ≤ maxLen) (hr : l0.length * 1 ≤ 140737488351232) (hw : ∀ x ∈ l0, (Lit.int .u8 x).wf = true) : ∃ k, laws_FnDegrees.f k l0 = some true := by
 have hl : l0.length ≤ 4611686018427387904 := by omega
 refine Ev.rounds ?_
 unfold laws_FnDegrees.f laws_big.f
 simp only [Option.bind_some]
 by_cases hb : decide ((l0.length : Int) > 1048576) = true
 ·exact ev_if hb (Ev.now _)
 refine ev_ifn hb ?_
 obtain ⟨⟨b, W⟩, hd, _⟩ := DrawAnfOf_ok hl
 refine ev_bd hd ?_
 obtain ⟨r2, sd, id⟩ := DegreeMod2_key b W
 obtain ⟨r3, sr, ir⟩ := RealDegree_key b W
 obtain ⟨c, hc, sc, ic⟩ := RealCoefficients_key b W
 obtain ⟨g, sa, ia⟩ := AnfOf_key b W
 obtain ⟨s, _, sf, jf⟩ := FormatAnf_ok b W
 refine ev_bd (ev_const ia) (ev_bd sa (ev_bd ic (ev_ifn (struct_no _ _) (ev_ifn (by simp) (ev_bd sc (ev_bd (laws_sameInts_ev c hc) (ev_if rfl (ev_bd (ev_const id) (ev_bd sd (ev_if rfl (ev_bd ir (ev_bd sr (ev_if rfl ?_)))))))))))))
 by_cases h : isTab b W = true
 ·obtain ⟨n, w, rfl, rfl, t⟩ := isTab_yes h
  have hn := t.hn
  have ta := anfW_tab t
  have eg : g = ((n : Int), ((anfW n w : Nat) : Int), true) := by
   unfold impl_AnfOf.f at ia
   rw [impl_IsTable_eq, isTab_mk t, Option.bind_some, if_pos rfl, impl_Table_anf_eq t] at ia
   exact (Option.some.inj ia).symm
  subst eg
  have ec := ev_same sc (spec_RealCoefficients_ev t)
  subst ec
  have e2 := ev_same sd (spec_DegreeMod2_ev t)
  have e3 := ev_same sr (spec_RealDegree_ev t)
  have es := ev_same sf (spec_FormatAnf_ev t)
  have hba : impl_AnfOf.f n ((anfW n w : Nat) : Int) = some ((n : Int), (w : Int), true) := by
   unfold impl_AnfOf.f
   rw [impl_IsTable_eq, isTab_mk ta, Option.bind_some, if_pos rfl, impl_Table_anf_eq ta, anf_anf t]
   rfl
  have hbt : Ev (fun k => impl_TableOfCoefficients.f k (tab (2 ^ n) (cof n w))) ((n : Int), (w : Int), true) := by
   obtain ⟨r, s1, i1⟩ := TableOfCoefficients_key (tab (2 ^ n) (cof n w))
   rw [ev_same s1 (back_coef t)] at i1
   exact i1
  have hpf : Ev (fun k => impl_ParseAnf.f k n s) ((n : Int), (w : Int), true) := by
   rw [es]
   exact parse_fmt t
  have hones : impl_CountOnes.f n w = some ((pc w : Nat) : Int) := by
   unfold impl_CountOnes.f
   rw [impl_IsTable_eq, isTab_mk t, Option.bind_some, if_pos rfl, impl_ones_eq t.w32]
   rfl
  have hle : ¬ r2 > r3 := by
   rw [e2, e3]
   have := mostN_mono (g := fun m => (anfW n w).testBit m) (h := fun m => cof n w m != 0) (2 ^ n) fun m hm hg => by
    have hcb := cof_bit (w := w) hm
    rw [hg] at hcb
    rw [bne_iff_ne]
    intro e0
    rw [e0] at hcb
    exact absurd hcb (by decide)
   omega
  have htop : ¬ ((r2 == (n : Int)) != ((Int.tmod ((pc w : Nat) : Int) 2) == 1)) = true := by
   have h1 := ones_top t
   have h2 := mostN_top hn fun m => (anfW n w).testBit m
   rw [e2, h2, Int.tmod_eq_emod_of_nonneg (Int.natCast_nonneg _), h1]
   cases (anfW n w).testBit (2 ^ n - 1) <;> decide
  refine ev_if rfl (ev_bd (ev_const hba) (ev_bd hbt (ev_bd jf (ev_bd hpf (ev_ifn (struct_no _ _) (ev_if rfl (ev_ifn (struct_no _ _) (ev_if rfl (ev_ifn (struct_no _ _) (ev_bd sf (ev_if rfl ?_)))))))))))
  refine ev_bd (ev_const id) (ev_bd ir (ev_ifn hle (ev_bd (ev_const id) (ev_bd (ev_const hones) (ev_ifn htop ?_)))))
  exact FnDegrees_l0 hl t
 ·have eg : g.2.2 = false := by
   unfold impl_AnfOf.f at ia
   rw [impl_IsTable_eq, Option.bind_some, if_neg h] at ia
   rw [← Option.some.inj ia]
  obtain ⟨L, hL, _⟩ := DrawToC_ok hl
  obtain ⟨r, s1, i1⟩ := TableOfCoefficients_key L
  obtain ⟨p, hP, _⟩ := DrawParseAnf_ok hl
  obtain ⟨q, s2, i2⟩ := parse_same p.1 p.2
  obtain ⟨f, hF, _⟩ := DrawFormatAnf_ok hl
  obtain ⟨s', _, s3, i3⟩ := FormatAnf_ok f.1 f.2
  refine ev_ifn (by rw [eg]; decide) (ev_bd hL (ev_bd i1 (ev_bd s1 (ev_bd hP (ev_bd i2 (ev_bd s2 (ev_bd hF (ev_if (struct_same r) (ev_if (by simp) (ev_if (struct_same q) (ev_if (by simp) (ev_bd i3 (ev_bd s3 (ev_const (by simp)))))))))))))))

end Go.Proofs.YteljkpglgjjnlaaDoor.Pure
