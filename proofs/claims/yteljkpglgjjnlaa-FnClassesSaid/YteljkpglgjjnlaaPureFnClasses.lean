/- What the law FnClasses comes to, over numbers and lists alone: at every input both sides tell the same. No conditions but the kinds of the numbers. -/
import Derived.Test.YteljkpglgjjnlaaMath
import Derived.Test.YteljkpglgjjnlaaCls
import Derived.Test.YteljkpglgjjnlaaCof
import Derived.Test.YteljkpglgjjnlaaCub
import Derived.Test.YteljkpglgjjnlaaPop
import Derived.Test.YteljkpglgjjnlaaQue
import Derived.Test.YteljkpglgjjnlaaWrd
import Derived.Test.YteljkpglgjjnlaaQ0
import Derived.Test.YteljkpglgjjnlaaQ1
import Derived.Test.YteljkpglgjjnlaaQ10
import Derived.Test.YteljkpglgjjnlaaQ11
import Derived.Test.YteljkpglgjjnlaaQ12
import Derived.Test.YteljkpglgjjnlaaQ13
import Derived.Test.YteljkpglgjjnlaaQ14
import Derived.Test.YteljkpglgjjnlaaQ2
import Derived.Test.YteljkpglgjjnlaaQ3
import Derived.Test.YteljkpglgjjnlaaQ4
import Derived.Test.YteljkpglgjjnlaaQ5
import Derived.Test.YteljkpglgjjnlaaQ6
import Derived.Test.YteljkpglgjjnlaaQ7
import Derived.Test.YteljkpglgjjnlaaQ8
import Derived.Test.YteljkpglgjjnlaaQ9
import Derived.Test.YteljkpglgjjnlaaQLFnClasses
namespace Go.Proofs.Yteljkpglgjjnlaa.Pure
open Go.RowKit Go.Proofs.Yteljkpglgjjnlaa.P Go.Proofs.YteljkpglgjjnlaaW.PrintWords Go.Proofs.YteljkpglgjjnlaaW.PrintLast Go.Proofs.YteljkpglgjjnlaaW.PrintMore Go.Proofs.YteljkpglgjjnlaaMath
set_option linter.unusedVariables false
set_option linter.unusedSimpArgs false

theorem impl_Table_size_eq {n : Nat} (h : n ≤ 62) (W : Int) : impl_Table_size.f n W = some ((2 ^ n : Nat) : Int) := by
  unfold impl_Table_size.f
  rw [if_pos (Int.natCast_nonneg _), shl1 h]

theorem impl_Table_at_eq {n w : Nat} (t : Tab n w) (x : Nat) : impl_Table_at.f n w x = some (b2i (w.testBit x)) := by
  unfold impl_Table_at.f
  rw [if_pos (Int.natCast_nonneg _), at1 t.w63]

theorem impl_makeTable_word_eq (g : Nat → Bool) : ∀ N, N ≤ 32 → impl_makeTable.word g N = ((wordN g N : Nat) : Int) := by
  intro N
  induction N with
  | zero => intro _; rfl
  | succ N ih =>
    intro hN
    simp only [impl_makeTable.word]
    rw [ih (by omega)]
    by_cases hg : g N = true
    · rw [if_pos hg, wordN_or (by omega) hg]
    · rw [if_neg hg]
      simp only [wordN]
      rw [if_neg hg]

theorem spec_IsTable_eq (b W : Int) : spec_IsTable.f b W = some (isTab b W) := rfl

theorem impl_isBits_eq (b : Int) : impl_isBits.f b = some (decide (0 ≤ b ∧ b ≤ 5)) := by
  unfold impl_isBits.f
  by_cases h : b ≥ 0
  · rw [if_pos h]; simp [show 0 ≤ b from h]
  · rw [if_neg h]; simp [show ¬ 0 ≤ b from h]

theorem impl_IsTable_eq (b W : Int) : impl_IsTable.f b W = some (isTab b W) := by
  unfold impl_IsTable.f
  rw [impl_isBits_eq, Option.bind_some]
  by_cases h : 0 ≤ b ∧ b ≤ 5
  · obtain ⟨n, rfl⟩ := Int.eq_ofNat_of_zero_le h.1
    rw [if_pos (decide_eq_true h)]
    by_cases h2 : W ≥ 0
    · rw [if_pos h2]
      obtain ⟨w, rfl⟩ := Int.eq_ofNat_of_zero_le h2
      have hp : 2 ^ n ≤ 2 ^ 5 := Nat.pow_le_pow_right (by omega) (by omega)
      rw [impl_Table_size_eq (by omega), Option.bind_some, if_pos (Int.natCast_nonneg _), shrS (by omega)]
      congr 1
      unfold isTab
      rw [Bool.eq_iff_iff, decide_eq_true_iff, beq_iff_eq, Int.toNat_natCast]
      have e : ((2 : Int) ^ 2 ^ n) = ((2 ^ 2 ^ n : Nat) : Int) := by push_cast; rfl
      rw [e]
      have hd : w / 2 ^ 2 ^ n = 0 ↔ w < 2 ^ 2 ^ n := by rw [Nat.div_eq_zero_iff]; have := Nat.two_pow_pos (2 ^ n); omega
      constructor
      · intro h3
        have := hd.1 (by omega)
        omega
      · rintro ⟨_, _, _, h4⟩
        have := hd.2 (by omega)
        omega
    · rw [if_neg h2, show isTab n W = false from decide_eq_false fun h3 => h2 h3.2.2.1]
  · rw [if_neg (by rw [decide_eq_false h]; decide), show isTab b W = false from decide_eq_false fun h3 => h ⟨h3.1, h3.2.1⟩]

theorem impl_isSmall_eq (b W a : Int) : impl_isSmall.f b W a = some (isTab b W && decide (b ≤ a)) := by
  unfold impl_isSmall.f
  rw [impl_IsTable_eq, Option.bind_some]
  cases isTab b W <;> rfl

theorem spec_l1In_eq (a b c : Int) : spec_l1In.f a b c = some (decide (b ≤ a ∧ a ≤ c)) := by
  unfold spec_l1In.f
  by_cases h : b ≤ a
  · rw [if_pos h]; simp [h]
  · rw [if_neg h]; simp [h]

theorem ev_mono {R : Type} {F : Nat → Option R} (hm : ∀ k, LeO (F k) (F (k + 1))) {K : Nat} {r : R} (h : F K = some r) : Ev F r := ⟨K, fun k hk => by
  obtain ⟨d, rfl⟩ : ∃ d, k = K + d := ⟨k - K, by omega⟩
  clear hk
  induction d with
  | zero => exact h
  | succ d ih => exact hm (K + d) r ih⟩
theorem orstep {a j : Nat} (b : Bool) (ha : a < 4294967296) (hj : j < 32) : Go.bits .or .i64 ((a : Nat) : Int) (shl .i64 (b2i b) (j : Int)) = (((if b = true then a ||| 2 ^ j else a : Nat)) : Int) := by
  have hp : 2 ^ j ≤ 2 ^ 31 := Nat.pow_le_pow_right (by omega) (by omega)
  cases b
  · rw [show b2i false = ((0 : Nat) : Int) from rfl, shlN (by omega), borN (by omega) (by omega), Nat.zero_mul, Nat.or_zero, if_neg (by decide)]
  · rw [show b2i true = ((1 : Nat) : Int) from rfl, shlN (by omega), borN (by omega) (by omega), Nat.one_mul, if_pos rfl]
theorem mv_part {n : Nat} {p : List Int} (hn : n ≤ 4) (hp : p ∈ c_PS n) (x : Nat) : ∀ i, i ≤ n → c_mv p x i < 2 ^ n
  | 0, _ => Nat.two_pow_pos n
  | i + 1, hi => by
    have ih := mv_part hn hp x i (by omega)
    simp only [c_mv]
    split
    · exact Nat.or_lt_two_pow ih (Nat.pow_lt_pow_right (by omega) (c_pl_lt hn hp (by omega)))
    · exact ih
theorem pow16 {n : Nat} (hn : n ≤ 4) : 2 ^ n ≤ 16 := Nat.pow_le_pow_right (by omega) hn
theorem rd_pl {n i : Nat} {p : List Int} (hn : n ≤ 4) (hp : p ∈ c_PS n) (hi : i < n) : rd p (i : Int) = ((c_pl p i : Nat) : Int) := by
  have h := ((c_pl_all (i := i) hn hp).2 hi).1
  rw [rd_nat]
  unfold c_pl
  omega
theorem impl_moved_at {n x : Nat} {p : List Int} (hn : n ≤ 4) (hp : p ∈ c_PS n) (hx : x < 2 ^ n) {k : Nat} (hk : n < k) : impl_moved.f k x p = some ((c_mv p x n : Nat) : Int) := by
  have h16 := pow16 hn
  have hl := (c_pl_all (i := 0) hn hp).1
  have key : ∀ d i k : Nat, i + d = n → d < k → impl_moved.l0 k x ((c_mv p x i : Nat) : Int) p (n : Int) (i : Int) = some ((c_mv p x n : Nat) : Int) := by
    intro d
    induction d with
    | zero =>
      intro i k hi hk
      obtain ⟨k, rfl⟩ : ∃ j, k = j + 1 := ⟨k - 1, by omega⟩
      obtain rfl : i = n := by omega
      simp only [impl_moved.l0]
      rw [if_neg (by omega)]
    | succ d ih =>
      intro i k hi hk
      obtain ⟨k, rfl⟩ : ∃ j, k = j + 1 := ⟨k - 1, by omega⟩
      have hm := mv_part hn hp x i (by omega)
      have hpl := c_pl_lt hn hp (show i < n by omega)
      have h := ih (i + 1) k (by omega) (by omega)
      simp only [impl_moved.l0]
      rw [if_pos (by omega), if_pos (by omega), hl, if_pos (by omega), rd_pl hn hp (by omega), if_pos (by omega), at1 (by omega), orstep _ (by omega) (by omega), w64 (by omega) (by omega)]
      exact h
  unfold impl_moved.f
  rw [hl]
  exact key n 0 k (by omega) hk
theorem orw_lt {n : Nat} (hn : n ≤ 4) (g : Nat → Bool) (m : Nat → Nat) (x : Nat) (h : ∀ y, y < x → m y < 2 ^ n) : c_orN g m x < 4294967296 := by
  have h1 := c_orN_lt g m (2 ^ n) x h
  have h2 : 2 ^ 2 ^ n ≤ 2 ^ 16 := Nat.pow_le_pow_right (by omega) (pow16 hn)
  omega
theorem impl_Table_permute_at {n w : Nat} {p : List Int} (t : Tab n w) (hn : n ≤ 4) (hp : p ∈ c_PS n) : impl_Table_permute.f 100 n w p = some ((n : Int), ((c_pw n w p : Nat) : Int)) := by
  have h16 := pow16 hn
  have key : ∀ d x k : Nat, x + d = 2 ^ n → d + n + 1 < k → impl_Table_permute.l0 k p ((2 ^ n : Nat) : Int) (x : Int) n w n ((c_orN w.testBit (fun x => c_mv p x n) x : Nat) : Int) = some ((n : Int), ((c_pw n w p : Nat) : Int)) := by
    intro d
    induction d with
    | zero =>
      intro x k hx hk
      obtain ⟨k, rfl⟩ : ∃ j, k = j + 1 := ⟨k - 1, by omega⟩
      obtain rfl : x = 2 ^ n := by omega
      simp only [impl_Table_permute.l0]
      rw [if_neg (by omega)]
      rfl
    | succ d ih =>
      intro x k hx hk
      obtain ⟨k, rfl⟩ : ∃ j, k = j + 1 := ⟨k - 1, by omega⟩
      have hx2 : x < 2 ^ n := by omega
      have hm := (c_mv_all (y := 0) hn hp hx2).1
      have h := ih (x + 1) k (by omega) (by omega)
      simp only [impl_Table_permute.l0]
      rw [if_pos (by omega), impl_Table_at_eq t, Option.bind_some, impl_moved_at hn hp hx2 (by omega), Option.bind_some, if_pos (by omega), orstep _ (orw_lt hn _ _ _ fun y hy => (c_mv_all (y := 0) hn hp (by omega)).1) (by omega), w64 (by omega) (by omega)]
      exact h
  unfold impl_Table_permute.f
  rw [impl_Table_size_eq (show n ≤ 62 by omega), Option.bind_some]
  exact key (2 ^ n) 0 100 (by omega) (by omega)
theorem impl_Table_shift_eq {n w s : Nat} (t : Tab n w) (hs : s < 2 ^ n) : impl_Table_shift.f n w s = some ((n : Int), ((c_sw n w s : Nat) : Int)) := by
  have hn := t.hn
  have h32 := t.size
  have hb : ∀ x : Nat, x < 2 ^ n → Go.bits .xor .i64 (x : Int) (s : Int) = ((x ^^^ s : Nat) : Int) := fun x hx => bxorN (by omega) (by omega)
  unfold impl_Table_shift.f
  rw [Int.toNat_natCast, if_pos ⟨by omega, List.all_eq_true.mpr fun x hx => decide_eq_true (by rw [hb x (List.mem_range.mp hx)]; exact Int.natCast_nonneg _)⟩, impl_makeTable_word_eq _ _ h32]
  congr 3
  unfold c_sw
  refine wordN_congr fun x hx => ?_
  unfold impl_Table_shift.on
  rw [hb x hx, impl_Table_at_eq t, Option.getD_some]
  cases w.testBit (x ^^^ s) <;> rfl
theorem xor_full {N w : Nat} (hw : w < 2 ^ N) : w ^^^ (2 ^ N - 1) = 2 ^ N - 1 - w := by
  refine c_word_ext (N := N) (Nat.xor_lt_two_pow hw (by have := Nat.two_pow_pos N; omega)) (by have := Nat.two_pow_pos N; omega) fun y hy => ?_
  rw [Nat.testBit_xor, Nat.testBit_two_pow_sub_one, show 2 ^ N - 1 - w = 2 ^ N - (w + 1) by omega, Nat.testBit_two_pow_sub_succ hw, decide_eq_true hy]
  cases w.testBit y <;> rfl
theorem w16 {n w : Nat} (hn : n ≤ 4) (hw : w < 2 ^ 2 ^ n) : w < 65536 := Nat.lt_of_lt_of_le hw (Nat.pow_le_pow_right (by omega) (pow16 hn))
theorem impl_Table_not_eq {n w : Nat} (hn : n ≤ 4) (hw : w < 2 ^ 2 ^ n) : impl_Table_not.f n w = some ((n : Int), ((c_nw n w : Nat) : Int)) := by
  have h16 := pow16 hn
  have hp := Nat.two_pow_pos (2 ^ n)
  have hq : 2 ^ 2 ^ n ≤ 2 ^ 16 := Nat.pow_le_pow_right (by omega) h16
  unfold impl_Table_not.f
  rw [impl_Table_size_eq (by omega), Option.bind_some, if_pos (Int.natCast_nonneg _), shl1m (by omega), show ((2 ^ 2 ^ n : Nat) : Int) - 1 = ((2 ^ 2 ^ n - 1 : Nat) : Int) by omega, bxorN (by omega) (by omega), xor_full hw]
  rfl
theorem tab_of {n w : Nat} (hn : n ≤ 4) (hw : w < 2 ^ 2 ^ n) : Tab n w := ⟨by omega, hw⟩
def perms_chk (n : Nat) : Bool := (impl_permutations.f n == some (c_PS n)) && (spec_l4Perms.f 400 n [] == some (c_PS n)) && ((c_PS n).all fun p => (spec_l3Perm.f 60 p n == some true) && decide (p.length = n)) && (laws_sameLists.f 60 (c_PS n) (c_PS n) == some true) && decide ((c_PS n).length ≠ 0)
theorem perms_chk_ok : c_five perms_chk = true := by decide +kernel
theorem perms_all {n : Nat} (hn : n ≤ 4) : impl_permutations.f n = some (c_PS n) ∧ Ev (fun k => spec_l4Perms.f k n []) (c_PS n) ∧ (∀ p ∈ c_PS n, Ev (fun k => spec_l3Perm.f k p n) true) ∧ Ev (fun k => laws_sameLists.f k (c_PS n) (c_PS n)) true ∧ (c_PS n).length ≠ 0 := by
  have h := c_five_at perms_chk_ok hn
  simp only [perms_chk, Bool.and_eq_true, beq_iff_eq, decide_eq_true_eq] at h
  obtain ⟨⟨⟨⟨h1, h2⟩, h3⟩, h4⟩, h5⟩ := h
  refine ⟨h1, ev_mono (spec_l4Perms.mono _ _) h2, fun p hp => ?_, ev_mono (laws_sameLists.mono _ _) h4, h5⟩
  have h6 := List.all_eq_true.mp h3 p hp
  rw [Bool.and_eq_true, beq_iff_eq] at h6
  exact ev_mono (spec_l3Perm.mono _ _) h6.1
/-! ### The images as the program lists them -/
def ints' (l : List Nat) : List Int := l.map fun v : Nat => (v : Int)
theorem row_flat (H NH : Nat → Int) : ∀ N, impl_Table_images.row H NH N = (List.range N).flatMap fun x => [H x, NH x]
  | 0 => rfl
  | N + 1 => by rw [List.range_succ, List.flatMap_append]; simp only [impl_Table_images.row]; rw [row_flat H NH N]; rfl
theorem all_flat (N : Nat) (H NH : Nat → Nat → Int) : ∀ M, impl_Table_images.all N H NH M = (List.range M).flatMap fun j => (List.range N).flatMap fun x => [H j x, NH j x]
  | 0 => rfl
  | M + 1 => by rw [List.range_succ, List.flatMap_append]; simp only [impl_Table_images.all]; rw [all_flat N H NH M, row_flat]; simp
theorem range_flat {β : Type} (ps : List (List Int)) (g : List Int → List β) : ((List.range ps.length).flatMap fun j => g (ps.getD j [])) = ps.flatMap g := by
  have e : ps = (List.range ps.length).map fun j => ps.getD j [] := by
    apply List.ext_getElem
    · simp
    · intro i h1 h2
      rw [List.getElem_map, List.getElem_range, List.getD_eq_getElem?_getD, List.getElem?_eq_getElem h1, Option.getD_some]
  conv => rhs; rw [e, List.flatMap_map]
theorem ints_L (n w : Nat) : ints' (c_L n w) = (c_PS n).flatMap fun p => (List.range (2 ^ n)).flatMap fun s => [((c_sw n (c_pw n w p) s : Nat) : Int), ((c_nw n (c_sw n (c_pw n w p) s) : Nat) : Int)] := by
  unfold ints' c_L c_R
  rw [List.map_flatMap]
  refine c_flat_congr fun p _ => ?_
  rw [List.map_flatMap]
  rfl
theorem all_L {n w : Nat} {H NH : Nat → Nat → Int} (h : ∀ j x, j < (c_PS n).length → x < 2 ^ n → H j x = ((c_sw n (c_pw n w ((c_PS n).getD j [])) x : Nat) : Int) ∧ NH j x = ((c_nw n (c_sw n (c_pw n w ((c_PS n).getD j [])) x) : Nat) : Int)) : impl_Table_images.all (2 ^ n) H NH (c_PS n).length = ints' (c_L n w) := by
  rw [all_flat, ints_L, ← range_flat]
  refine c_flat_congr fun j hj => c_flat_congr fun x hx => ?_
  have h1 := h j x (List.mem_range.mp hj) (List.mem_range.mp hx)
  rw [h1.1, h1.2]
theorem el_nat (ps : List (List Int)) (j : Nat) : impl_Table_images.el ps (j : Int) = ps.getD j [] := by unfold impl_Table_images.el; rw [Int.toNat_natCast]
theorem getD_mem {ps : List (List Int)} {j : Nat} (h : j < ps.length) : ps.getD j [] ∈ ps := by
  rw [List.getD_eq_getElem?_getD, List.getElem?_eq_getElem h, Option.getD_some]
  exact List.getElem_mem h
theorem images_eq {n w : Nat} (hn : n ≤ 4) (hw : w < 2 ^ 2 ^ n) : impl_Table_images.f n w = some (ints' (c_L n w)) := by
  have t := tab_of hn hw
  have h16 := pow16 hn
  have hG : ∀ j, j < (c_PS n).length → impl_Table_images.G n w (c_PS n) j = ((c_pw n w ((c_PS n).getD j []) : Nat) : Int) := fun j hj => by
    unfold impl_Table_images.G
    rw [el_nat, impl_Table_permute_at t hn (getD_mem hj)]
    rfl
  have hH : ∀ j x, j < (c_PS n).length → x < 2 ^ n → impl_Table_images.H n w (c_PS n) j x = ((c_sw n (c_pw n w ((c_PS n).getD j [])) x : Nat) : Int) := fun j x hj hx => by
    unfold impl_Table_images.H
    rw [hG j hj, impl_Table_shift_eq (tab_of hn (c_pw_lt hn (getD_mem hj))) hx]
    rfl
  have hN : ∀ j x, j < (c_PS n).length → x < 2 ^ n → impl_Table_images.NH n w (c_PS n) j x = ((c_nw n (c_sw n (c_pw n w ((c_PS n).getD j [])) x) : Nat) : Int) := fun j x hj hx => by
    unfold impl_Table_images.NH
    rw [hH j x hj hx, impl_Table_not_eq hn (c_sw_lt _ _ _)]
    rfl
  have hW : impl_Table_images.ws n w (c_PS n) (2 ^ n) = ints' (c_L n w) := all_L fun j x hj hx => ⟨hH j x hj hx, hN j x hj hx⟩
  have hg : impl_Table_images.good n w (c_PS n) (2 ^ n) = true := by
    refine decide_eq_true ⟨by omega, by have := (c_tot_le hn).2; omega, fun j hj => ?_, fun j hj x hx => ?_, fun j hj x hx => ?_, ?_, fun b hb => ?_⟩
    · rw [hG j hj, el_nat, impl_Table_permute_at t hn (getD_mem hj)]
    · rw [hG j hj, hH j x hj hx, impl_Table_shift_eq (tab_of hn (c_pw_lt hn (getD_mem hj))) hx]
    · rw [hH j x hj hx, hN j x hj hx, impl_Table_not_eq hn (c_sw_lt _ _ _)]
    · rw [hW]
      unfold ints'
      rw [List.length_map, c_L_len]
      have := (c_tot_le hn).1
      unfold c_tot at this
      omega
    · rw [hW] at hb
      obtain ⟨v, hv, rfl⟩ := List.mem_map.mp hb
      have := w16 hn (c_L_lt hv)
      simp [Lit.wf, IntKind.min, IntKind.max, IntKind.signed, IntKind.bits]
      omega
  unfold impl_Table_images.f
  rw [(perms_all hn).1, Option.bind_some, impl_Table_size_eq (by omega), Option.bind_some, Int.toNat_natCast, if_pos ⟨Int.natCast_nonneg _, hg⟩, hW]
/-! ### What the program makes of them -/
theorem fold_mn : ∀ (l : List Nat) (a : Nat), (ints' l).foldl mn (a : Int) = ((l.foldl min a : Nat) : Int)
  | [], _ => rfl
  | b :: l, a => by
    show (ints' l).foldl mn (mn (a : Int) (b : Int)) = _
    rw [show mn (a : Int) (b : Int) = ((min a b : Nat) : Int) by rw [mn_min]; omega, fold_mn l]
    rfl
theorem fold_cnt (w : Nat) : ∀ (l : List Nat) (a : Nat), a + l.length < 1000000 → (ints' l).foldl (fun s b => if b = (w : Int) then wrap64 (s + 1) else s) (a : Int) = ((a + l.count w : Nat) : Int)
  | [], _, _ => rfl
  | b :: l, a, h => by
    rw [List.length_cons] at h
    show (ints' l).foldl _ (if (b : Int) = (w : Int) then wrap64 ((a : Int) + 1) else (a : Int)) = _
    rw [List.count_cons]
    by_cases e : b = w
    · subst e
      rw [if_pos rfl, w64 (by omega) (by omega), show (a : Int) + 1 = ((a + 1 : Nat) : Int) by omega, fold_cnt b l (a + 1) (by omega)]
      simp; omega
    · rw [if_neg (by omega), fold_cnt w l a (by omega)]
      simp [e]
theorem impl_Table_canonical_eq {n w : Nat} (hn : n ≤ 4) (hw : w < 2 ^ 2 ^ n) : impl_Table_canonical.f n w = some ((n : Int), ((c_cn n w : Nat) : Int)) := by
  unfold impl_Table_canonical.f
  rw [images_eq hn hw, Option.bind_some, fold_mn]
  rfl
theorem small_mk {n w : Nat} (hn : n ≤ 4) (hw : w < 2 ^ 2 ^ n) : impl_isSmall.f n w 4 = some true := by
  rw [impl_isSmall_eq, isTab_mk (tab_of hn hw), decide_eq_true (by omega)]
  rfl
theorem L_len_le {n w : Nat} (hn : n ≤ 4) : (c_L n w).length ≤ 768 := by
  have := (c_tot_le hn).1
  rw [c_L_len]
  exact this
theorem impl_SymmetriesOf_eq {n w : Nat} (hn : n ≤ 4) (hw : w < 2 ^ 2 ^ n) : impl_SymmetriesOf.f n w = some ((c_sy n w : Nat) : Int) := by
  have hl := L_len_le (w := w) hn
  unfold impl_SymmetriesOf.f
  rw [small_mk hn hw, Option.bind_some, if_pos rfl, images_eq hn hw, Option.bind_some]
  have h := fold_cnt w (c_L n w) 0 (by omega)
  rw [Nat.zero_add] at h
  rw [show (0 : Int) = ((0 : Nat) : Int) from rfl, h]
  rfl
theorem ins_fold : ∀ (l s : List Int), s.Nodup → (l.foldl impl_ClassSize.ins s).Nodup ∧ ∀ x, x ∈ l.foldl impl_ClassSize.ins s ↔ x ∈ s ∨ x ∈ l
  | [], s, h => ⟨h, fun x => by simp⟩
  | b :: l, s, h => by
    obtain ⟨h1, h2⟩ := ins_fold l (impl_ClassSize.ins s b) (impl_ClassSize.ins_nodup h b)
    refine ⟨h1, fun x => ?_⟩
    rw [List.foldl_cons, h2]
    unfold impl_ClassSize.ins
    by_cases hm : b ∈ s
    · rw [if_pos hm, List.mem_cons]
      constructor
      · rintro (h | h)
        · exact .inl h
        · exact .inr (.inr h)
      · rintro (h | rfl | h)
        · exact .inl h
        · exact .inl hm
        · exact .inr h
    · rw [if_neg hm, List.mem_cons, List.mem_cons]
      constructor
      · rintro ((rfl | h) | h)
        · exact .inr (.inl rfl)
        · exact .inl h
        · exact .inr (.inr h)
      · rintro (h | rfl | h)
        · exact .inl (.inr h)
        · exact .inl (.inl rfl)
        · exact .inr h
theorem impl_ClassSize_eq {n w : Nat} (hn : n ≤ 4) (hw : w < 2 ^ 2 ^ n) : ∃ c : Nat, impl_ClassSize.f n w = some (c : Int) ∧ c * c_sy n w = c_tot n ∧ c ≤ 768 := by
  obtain ⟨h1, h2⟩ := ins_fold (ints' (c_L n w)) [] List.nodup_nil
  have h3 := c_len_count (c_sy n w) _ (ints' (c_L n w)) h1 (fun x => by rw [h2]; simp) (fun x hx => by
    rw [h2] at hx
    have hx2 := hx.resolve_left (by simp)
    obtain ⟨v, hv, rfl⟩ := List.mem_map.mp hx2
    unfold ints'
    rw [c_count_map (fun v : Nat => (v : Int)) v (c_L n w) (fun b _ e => by exact Int.ofNat.inj e)]
    exact c_count_L hn hw hv)
  have hp := c_sy_pos hn hw
  have ht := (c_tot_le hn).1
  have h4 : (ints' (c_L n w)).length = c_tot n := by unfold ints'; rw [List.length_map, c_L_len]; rfl
  refine ⟨((ints' (c_L n w)).foldl impl_ClassSize.ins []).length, ?_, by rw [← h3, h4], ?_⟩
  · unfold impl_ClassSize.f
    rw [small_mk hn hw, Option.bind_some, if_pos rfl, images_eq hn hw]
    rfl
  · have := Nat.le_mul_of_pos_right ((ints' (c_L n w)).foldl impl_ClassSize.ins []).length hp.1
    omega
theorem impl_CanonicalTable_eq {n w : Nat} (hn : n ≤ 4) (hw : w < 2 ^ 2 ^ n) : impl_CanonicalTable.f n w = some ((n : Int), ((c_cn n w : Nat) : Int), true) := by
  unfold impl_CanonicalTable.f
  rw [small_mk hn hw, Option.bind_some, if_pos rfl, impl_Table_canonical_eq hn hw]
  rfl

theorem ev_bd {A R : Type} {g : Nat → Option A} {a : A} {F : Nat → A → Option R} {r : R} (h : Ev g a) (hF : Ev (fun k => F k a) r) : Ev (fun k => (g k).bind (F k)) r := ev1 h (fun k hk => by rw [hk]; rfl) hF
theorem ev_if {R : Type} {c : Prop} [Decidable c] {f g : Nat → Option R} {r : R} (hc : c) (h : Ev f r) : Ev (fun k => if c then f k else g k) r := by simp only [if_pos hc]; exact h
theorem ev_ifn {R : Type} {c : Prop} [Decidable c] {f g : Nat → Option R} {r : R} (hc : ¬ c) (h : Ev g r) : Ev (fun k => if c then f k else g k) r := by simp only [if_neg hc]; exact h

theorem spec_l2Count_l (j : Nat) : ∀ (x : Nat) (s : Nat), j ≤ 32 → x < 2 ^ j → s + j ≤ 64 → Ev (fun k => spec_l2Count.l0 k s x) ((s + pcf j x : Nat) : Int) := by
  induction j with
  | zero =>
    intro x s _ h _
    obtain rfl : x = 0 := by simpa using h
    refine ev0 fun k => ?_
    simp only [spec_l2Count.l0]
    rw [if_neg (by omega)]
    rfl
  | succ j ih =>
    intro x s hj h hs
    have hp : 2 ^ (j + 1) ≤ 2 ^ 32 := Nat.pow_le_pow_right (by omega) hj
    by_cases hx : x = 0
    · subst hx
      refine ev0 fun k => ?_
      simp only [spec_l2Count.l0]
      rw [if_neg (by omega), pcf_zero]
      rfl
    · have := ih (x / 2) (s + x % 2) (by omega) (by rw [Nat.pow_succ] at h; omega) (by omega)
      simp only [pcf]
      rw [← Nat.add_assoc]
      refine Ev.step (fun k => ?_) this
      simp only [spec_l2Count.l0]
      rw [if_pos (by omega), show (1 : Int) = ((1 : Nat) : Int) from rfl, bandN (by omega) (by omega), Nat.and_one_is_mod, ← Int.natCast_add, w64 (by omega) (by omega)]
      rfl
theorem spec_l2Count_ev {x : Nat} (h : x < 4294967296) : Ev (fun k => spec_l2Count.f k x) ((pc x : Nat) : Int) := by
  have := spec_l2Count_l 32 x 0 (by omega) (by omega) (by omega)
  rw [Nat.zero_add] at this
  exact this

theorem and255 (x : Int) : 0 ≤ Go.bits .and .i64 x 255 ∧ Go.bits .and .i64 x 255 ≤ 255 := by
  have h : (BitVec.ofInt 64 x &&& BitVec.ofInt 64 255).toNat ≤ 255 := by
    rw [BitVec.toNat_and]
    exact Nat.and_le_right
  have e : Go.bits .and .i64 x 255 = (((BitVec.ofInt 64 x &&& BitVec.ofInt 64 255).toNat : Nat) : Int) := by
    simp only [Go.bits, IntKind.bits]
    exact i64id (Int.natCast_nonneg _) (Int.lt_of_le_of_lt (Int.ofNat_le.mpr h) (by decide))
  omega
theorem evx_bind {A R : Type} {g : Nat → Option A} {P : A → Prop} {F : Nat → A → Option R} {Q : R → Prop} (h : ∃ a, Ev g a ∧ P a) (hF : ∀ a, P a → ∃ r, Ev (fun k => F k a) r ∧ Q r) : ∃ r, Ev (fun k => (g k).bind (F k)) r ∧ Q r := by
  obtain ⟨a, ha, hp⟩ := h
  obtain ⟨r, hr, hq⟩ := hF a hp
  exact ⟨r, ev1 ha (fun k hk => by rw [hk]; rfl) hr, hq⟩
/-- A reader of draws: how far it has read. -/
def Cur (l : List Int) (i : Int) : Prop := l.length ≤ 4611686018427387904 ∧ 0 ≤ i ∧ i ≤ l.length
theorem spec_l1Byte_ok {l : List Int} {i h : Int} (c : Cur l i) : ∃ r, spec_l1Byte.f l i h = some r ∧ (0 ≤ r.1 ∧ r.1 ≤ 255 ∧ Cur l r.2.1) := by
  obtain ⟨c0, c1, c2⟩ := c
  unfold spec_l1Byte.f
  by_cases hl : i < (l.length : Int)
  · rw [if_pos hl, if_pos c1]
    refine ⟨_, rfl, (and255 _).1, (and255 _).2, c0, ?_⟩
    show 0 ≤ wrap64 (i + 1) ∧ wrap64 (i + 1) ≤ l.length
    rw [w64 (by omega) (by omega)]
    omega
  · rw [if_neg hl]
    exact ⟨_, rfl, (and255 _).1, (and255 _).2, c0, c1, c2⟩
theorem spec_l1Below_ok {l : List Int} {i h n : Int} (c : Cur l i) (hn : n ≤ 256) : ∃ r, Ev (fun _ => spec_l1Below.f l i h n) r ∧ (0 ≤ r.1 ∧ (0 < n → r.1 < n) ∧ Cur l r.2.1) := by
  unfold spec_l1Below.f
  by_cases h0 : n ≤ 0
  · rw [if_pos h0]
    exact ⟨_, Ev.now _, Int.le_refl _, fun h => absurd h (by omega), c⟩
  · rw [if_neg h0, if_pos hn]
    obtain ⟨r, hr, h1, h2, h3⟩ := spec_l1Byte_ok (h := h) c
    rw [hr, Option.bind_some, if_neg (by omega)]
    exact ⟨_, Ev.now _, Int.tmod_nonneg _ h1, fun h => Int.tmod_lt_of_pos _ h, h3⟩
theorem spec_l1New_ok {l : List Int} (hl : l.length ≤ 4611686018427387904) : ∃ r, Ev (fun k => spec_l1New.f k l) r ∧ (r.1 = l ∧ Cur l r.2.1) := by
  have key : ∀ d (i : Nat) (h : Int), l.length - i ≤ d → ∃ r, Ev (fun k => spec_l1New.l0 k l h i) r ∧ (r.1 = l ∧ Cur l r.2.1) := by
    intro d
    induction d with
    | zero =>
      intro i h hd
      refine ⟨(l, 0, h), ev0 fun k => ?_, rfl, hl, by simp⟩
      simp only [spec_l1New.l0]
      rw [if_neg (by omega)]
    | succ d ih =>
      intro i h hd
      by_cases hi : i < l.length
      · by_cases h4 : i < 4000
        · obtain ⟨r, hr, hq⟩ := ih (i + 1) (Go.bits .and .i64 (wrap64 ((wrap64 ((wrap64 (h * 131)) + (wrap64 (rd l i)))) + 7)) 1073741823) (by omega)
          refine ⟨r, Ev.step (fun k => ?_) hr, hq⟩
          simp only [spec_l1New.l0]
          rw [if_pos (by omega), if_pos (by omega), if_pos (by omega), w64 (x := (i : Int) + 1) (by omega) (by omega)]
          rfl
        · refine ⟨(l, 0, h), ev0 fun k => ?_, rfl, hl, by simp⟩
          simp only [spec_l1New.l0]
          rw [if_pos (by omega), if_neg (by omega)]
      · refine ⟨(l, 0, h), ev0 fun k => ?_, rfl, hl, by simp⟩
        simp only [spec_l1New.l0]
        rw [if_neg (by omega)]
  exact key l.length 0 _ (by omega)
theorem spec_l2Variable_ok {n j : Nat} (hn : n ≤ 4) : ∃ r, Ev (fun k => spec_l2Variable.f k n j) r ∧ True := by
  have hs : 2 ^ n ≤ 2 ^ 4 := Nat.pow_le_pow_right (by omega) hn
  have key : ∀ d (i : Nat) (w : Int), 2 ^ n - i ≤ d → ∃ r, Ev (fun k => spec_l2Variable.l0 k n j w i) r ∧ True := by
    intro d
    induction d with
    | zero =>
      intro i w hd
      refine ⟨w, ev0 fun k => ?_, trivial⟩
      simp only [spec_l2Variable.l0]
      rw [if_pos (Int.natCast_nonneg _), shl1 (by omega), if_neg (by omega)]
    | succ d ih =>
      intro i w hd
      by_cases hi : i < 2 ^ n
      · by_cases hb : Go.bits .and .i64 (shr .i64 i j) 1 = 1
        · obtain ⟨r, hr, hq⟩ := ih (i + 1) (Go.bits .or .i64 w (shl .i64 1 i)) (by omega)
          refine ⟨r, Ev.step (fun k => ?_) hr, hq⟩
          simp only [spec_l2Variable.l0]
          rw [if_pos (Int.natCast_nonneg _), shl1 (by omega), if_pos (by omega), if_pos (Int.natCast_nonneg _), if_pos hb, if_pos (Int.natCast_nonneg _), w64 (x := (i : Int) + 1) (by omega) (by omega)]
          rfl
        · obtain ⟨r, hr, hq⟩ := ih (i + 1) w (by omega)
          refine ⟨r, Ev.step (fun k => ?_) hr, hq⟩
          simp only [spec_l2Variable.l0]
          rw [if_pos (Int.natCast_nonneg _), shl1 (by omega), if_pos (by omega), if_pos (Int.natCast_nonneg _), if_neg hb, w64 (x := (i : Int) + 1) (by omega) (by omega)]
          rfl
      · refine ⟨w, ev0 fun k => ?_, trivial⟩
        simp only [spec_l2Variable.l0]
        rw [if_pos (Int.natCast_nonneg _), shl1 (by omega), if_neg (by omega)]
  exact key (2 ^ n) 0 0 (Nat.sub_le _ _)
theorem spec_l2Full_some {n : Nat} (hn : n ≤ 4) : ∃ t, spec_l2Full.f n = some t := by
  unfold spec_l2Full.f
  rw [if_pos (by omega)]
  exact ⟨_, rfl⟩
theorem l2Draw_end {l : List Int} {i h : Int} {n : Nat} (hn : n ≤ 4) (c : Cur l i) (w : Int) : ∃ r, (if (n : Int) = 0 then ((spec_l2Full.f n).bind fun t => (some ((n : Int), Go.bits .and .i64 (Go.bits .and .i64 w 1) t, i, h))) else ((spec_l2Full.f n).bind fun t => (some ((n : Int), Go.bits .and .i64 w t, i, h)))) = some r ∧ (r.1 = (n : Int) ∧ Cur l r.2.2.1) := by
  obtain ⟨t, ht⟩ := spec_l2Full_some hn
  rw [ht, Option.bind_some, Option.bind_some]
  split
  · exact ⟨_, rfl, rfl, c⟩
  · exact ⟨_, rfl, rfl, c⟩
theorem spec_l2Draw_l0_ok {l : List Int} {cu h : Int} {n : Nat} (hn : n ≤ 4) (c : Cur l cu) : ∀ d (i : Nat) (w : Int), 2 ^ n - i ≤ d → ∃ r, Ev (fun k => spec_l2Draw.l0 k n w i l cu h) r ∧ (r.1 = (n : Int) ∧ Cur l r.2.2.1) := by
  have hs : 2 ^ n ≤ 2 ^ 4 := Nat.pow_le_pow_right (by omega) hn
  intro d
  induction d with
  | zero =>
    intro i w hd
    obtain ⟨r, hr, hq⟩ := l2Draw_end (h := h) hn c w
    refine ⟨r, ev0 fun k => ?_, hq⟩
    simp only [spec_l2Draw.l0]
    rw [if_pos (Int.natCast_nonneg _), shl1 (by omega), if_neg (by omega)]
    exact hr
  | succ d ih =>
    intro i w hd
    by_cases hi : i < 2 ^ n
    · have hc := spec_l2Count_ev (x := i) (by omega)
      by_cases hb : wrap64 (2 * ((pc i : Nat) : Int)) > (n : Int)
      · obtain ⟨r, hr, hq⟩ := ih (i + 1) (Go.bits .or .i64 w (shl .i64 1 i)) (by omega)
        refine ⟨r, evs1 hc (fun k hk => ?_) hr, hq⟩
        simp only [spec_l2Draw.l0]
        rw [if_pos (Int.natCast_nonneg _), shl1 (by omega), if_pos (by omega), hk, Option.bind_some, if_pos hb, if_pos (Int.natCast_nonneg _), w64 (x := (i : Int) + 1) (by omega) (by omega)]
        rfl
      · obtain ⟨r, hr, hq⟩ := ih (i + 1) w (by omega)
        refine ⟨r, evs1 hc (fun k hk => ?_) hr, hq⟩
        simp only [spec_l2Draw.l0]
        rw [if_pos (Int.natCast_nonneg _), shl1 (by omega), if_pos (by omega), hk, Option.bind_some, if_neg hb, w64 (x := (i : Int) + 1) (by omega) (by omega)]
        rfl
    · obtain ⟨r, hr, hq⟩ := l2Draw_end (h := h) hn c w
      refine ⟨r, ev0 fun k => ?_, hq⟩
      simp only [spec_l2Draw.l0]
      rw [if_pos (Int.natCast_nonneg _), shl1 (by omega), if_neg (by omega)]
      exact hr
theorem spec_l2Draw_l1_ok {l : List Int} {cu h : Int} {n : Nat} (hn : n ≤ 4) (c : Cur l cu) : ∀ d (i : Nat) (w : Int), 2 ^ n - i ≤ d → ∃ r, Ev (fun k => spec_l2Draw.l1 k n w i l cu h) r ∧ (r.1 = (n : Int) ∧ Cur l r.2.2.1) := by
  have hs : 2 ^ n ≤ 2 ^ 4 := Nat.pow_le_pow_right (by omega) hn
  intro d
  induction d with
  | zero =>
    intro i w hd
    obtain ⟨r, hr, hq⟩ := l2Draw_end (h := h) hn c w
    refine ⟨r, ev0 fun k => ?_, hq⟩
    simp only [spec_l2Draw.l1]
    rw [if_pos (Int.natCast_nonneg _), shl1 (by omega), if_neg (by omega)]
    exact hr
  | succ d ih =>
    intro i w hd
    by_cases hi : i < 2 ^ n
    · have hc := spec_l2Count_ev (x := i) (by omega)
      by_cases hb : Int.tmod ((pc i : Nat) : Int) 2 = 1
      · obtain ⟨r, hr, hq⟩ := ih (i + 1) (Go.bits .or .i64 w (shl .i64 1 i)) (by omega)
        refine ⟨r, evs1 hc (fun k hk => ?_) hr, hq⟩
        simp only [spec_l2Draw.l1]
        rw [if_pos (Int.natCast_nonneg _), shl1 (by omega), if_pos (by omega), hk, Option.bind_some, if_pos hb, if_pos (Int.natCast_nonneg _), w64 (x := (i : Int) + 1) (by omega) (by omega)]
        rfl
      · obtain ⟨r, hr, hq⟩ := ih (i + 1) w (by omega)
        refine ⟨r, evs1 hc (fun k hk => ?_) hr, hq⟩
        simp only [spec_l2Draw.l1]
        rw [if_pos (Int.natCast_nonneg _), shl1 (by omega), if_pos (by omega), hk, Option.bind_some, if_neg hb, w64 (x := (i : Int) + 1) (by omega) (by omega)]
        rfl
    · obtain ⟨r, hr, hq⟩ := l2Draw_end (h := h) hn c w
      refine ⟨r, ev0 fun k => ?_, hq⟩
      simp only [spec_l2Draw.l1]
      rw [if_pos (Int.natCast_nonneg _), shl1 (by omega), if_neg (by omega)]
      exact hr
theorem spec_l2Draw_l2_ok {l : List Int} {cu h m : Int} {n : Nat} (hn : n ≤ 4) (c : Cur l cu) : ∀ d (i : Nat) (w : Int), 2 ^ n - i ≤ d → ∃ r, Ev (fun k => spec_l2Draw.l2 k n w m i l cu h) r ∧ (r.1 = (n : Int) ∧ Cur l r.2.2.1) := by
  have hs : 2 ^ n ≤ 2 ^ 4 := Nat.pow_le_pow_right (by omega) hn
  intro d
  induction d with
  | zero =>
    intro i w hd
    obtain ⟨r, hr, hq⟩ := l2Draw_end (h := h) hn c w
    refine ⟨r, ev0 fun k => ?_, hq⟩
    simp only [spec_l2Draw.l2]
    rw [if_pos (Int.natCast_nonneg _), shl1 (by omega), if_neg (by omega)]
    exact hr
  | succ d ih =>
    intro i w hd
    by_cases hi : i < 2 ^ n
    · by_cases hb : Go.bits .and .i64 i m = m
      · obtain ⟨r, hr, hq⟩ := ih (i + 1) (Go.bits .or .i64 w (shl .i64 1 i)) (by omega)
        refine ⟨r, Ev.step (fun k => ?_) hr, hq⟩
        simp only [spec_l2Draw.l2]
        rw [if_pos (Int.natCast_nonneg _), shl1 (by omega), if_pos (by omega), if_pos hb, if_pos (Int.natCast_nonneg _), w64 (x := (i : Int) + 1) (by omega) (by omega)]
        rfl
      · obtain ⟨r, hr, hq⟩ := ih (i + 1) w (by omega)
        refine ⟨r, Ev.step (fun k => ?_) hr, hq⟩
        simp only [spec_l2Draw.l2]
        rw [if_pos (Int.natCast_nonneg _), shl1 (by omega), if_pos (by omega), if_neg hb, w64 (x := (i : Int) + 1) (by omega) (by omega)]
        rfl
    · obtain ⟨r, hr, hq⟩ := l2Draw_end (h := h) hn c w
      refine ⟨r, ev0 fun k => ?_, hq⟩
      simp only [spec_l2Draw.l2]
      rw [if_pos (Int.natCast_nonneg _), shl1 (by omega), if_neg (by omega)]
      exact hr
theorem spec_l2Draw_l3_ok {l : List Int} {n : Nat} (hn : n ≤ 4) : ∀ d (i : Nat) (w cu h : Int), 2 ^ n - i ≤ d → Cur l cu → ∃ r, Ev (fun k => spec_l2Draw.l3 k n w i l cu h) r ∧ (r.1 = (n : Int) ∧ Cur l r.2.2.1) := by
  have hs : 2 ^ n ≤ 2 ^ 4 := Nat.pow_le_pow_right (by omega) hn
  intro d
  induction d with
  | zero =>
    intro i w cu h hd c
    obtain ⟨r, hr, hq⟩ := l2Draw_end (h := h) hn c w
    refine ⟨r, ev0 fun k => ?_, hq⟩
    simp only [spec_l2Draw.l3]
    rw [if_pos (Int.natCast_nonneg _), shl1 (by omega), if_neg (by omega)]
    exact hr
  | succ d ih =>
    intro i w cu h hd c
    by_cases hi : i < 2 ^ n
    · obtain ⟨b, hb, b1, b2, b3⟩ := spec_l1Below_ok (h := h) (n := 2) c (by omega)
      obtain ⟨r, hr, hq⟩ := ih (i + 1) (Go.bits .or .i64 w (shl .i64 b.1 i)) b.2.1 b.2.2 (by omega) b3
      refine ⟨r, evs1 hb (fun k hk => ?_) hr, hq⟩
      simp only [spec_l2Draw.l3]
      rw [if_pos (Int.natCast_nonneg _), shl1 (by omega), if_pos (by omega), hk, Option.bind_some, if_pos (Int.natCast_nonneg _), w64 (x := (i : Int) + 1) (by omega) (by omega)]
      rfl
    · obtain ⟨r, hr, hq⟩ := l2Draw_end (h := h) hn c w
      refine ⟨r, ev0 fun k => ?_, hq⟩
      simp only [spec_l2Draw.l3]
      rw [if_pos (Int.natCast_nonneg _), shl1 (by omega), if_neg (by omega)]
      exact hr
theorem spec_l2Draw_ok {l : List Int} {i h : Int} {n : Nat} (hn : n ≤ 4) (c : Cur l i) : ∃ r, Ev (fun k => spec_l2Draw.f k l i h n) r ∧ (r.1 = (n : Int) ∧ Cur l r.2.2.1) := by
  have hs : 2 ^ n ≤ 2 ^ 4 := Nat.pow_le_pow_right (by omega) hn
  unfold spec_l2Draw.f
  refine evx_bind (spec_l1Below_ok c (by omega)) fun b hb => ?_
  obtain ⟨b1, b2, b3⟩ := hb
  by_cases h0 : b.1 = 0
  · simp only [if_pos h0]
    refine evx_bind (spec_l1Below_ok b3 (by simp only [mx]; split <;> omega)) fun b' hb' => ?_
    obtain ⟨c1, c2, c3⟩ := hb'
    obtain ⟨j, hj⟩ := Int.eq_ofNat_of_zero_le c1
    refine evx_bind (P := fun _ => True) (by rw [hj]; exact spec_l2Variable_ok hn) fun t _ => ?_
    obtain ⟨r, hr, hq⟩ := l2Draw_end (h := b'.2.2) hn c3 t
    exact ⟨r, ev_const hr, hq⟩
  · simp only [if_neg h0]
    by_cases h1 : b.1 = 1
    · simp only [if_pos h1]
      exact spec_l2Draw_l0_ok hn b3 (2 ^ n) 0 0 (Nat.sub_le _ _)
    · simp only [if_neg h1]
      by_cases h2 : b.1 = 2
      · simp only [if_pos h2]
        exact spec_l2Draw_l1_ok hn b3 (2 ^ n) 0 0 (Nat.sub_le _ _)
      · simp only [if_neg h2]
        by_cases h3 : b.1 = 3
        · simp only [if_pos h3, if_pos (Int.natCast_nonneg n), shl1 (show n ≤ 62 by omega)]
          refine evx_bind (spec_l1Below_ok b3 (by omega)) fun b' hb' => ?_
          exact spec_l2Draw_l2_ok hn hb'.2.2 (2 ^ n) 0 0 (Nat.sub_le _ _)
        · simp only [if_neg h3]
          exact spec_l2Draw_l3_ok hn (2 ^ n) 0 0 _ _ (Nat.sub_le _ _) b3
theorem spec_l1PickInt_ok {l : List Int} {i h : Int} (c : Cur l i) {L : List Int} (hL : 0 < L.length) (hL2 : L.length ≤ 256) : ∃ r, Ev (fun _ => spec_l1PickInt.f l i h L) r ∧ (r.1 ∈ L ∧ Cur l r.2.1) := by
  unfold spec_l1PickInt.f
  refine evx_bind (spec_l1Below_ok c (by omega)) fun b hb => ?_
  obtain ⟨b1, b2, b3⟩ := hb
  have b4 := b2 (by omega)
  simp only [if_pos b1, if_pos b4]
  refine ⟨_, Ev.now _, ?_, b3⟩
  obtain ⟨j, hj⟩ := Int.eq_ofNat_of_zero_le b1
  show rd L b.1 ∈ L
  rw [hj, rd_nat, List.getD_eq_getElem?_getD, List.getElem?_eq_getElem (by omega)]
  exact List.getElem_mem _
theorem wf_small {n : Nat} (h : n ≤ 16) : (Lit.int .i64 (n : Int)).wf = true := by
  have : ((List.range 17).all fun n => (Lit.int .i64 ((n : Nat) : Int)).wf) = true := by decide
  exact List.all_eq_true.mp this n (List.mem_range.2 (by omega))
theorem spec_l2Any_ok {l : List Int} {i h : Int} (c : Cur l i) : ∃ r, Ev (fun k => spec_l2Any.f k l i h) r ∧ ((Lit.int .i64 r.1).wf = true ∧ Cur l r.2.2.1) := by
  unfold spec_l2Any.f
  refine evx_bind (spec_l1Below_ok c (by omega)) fun b hb => ?_
  obtain ⟨b1, b2, b3⟩ := hb
  have b4 := b2 (by omega)
  obtain ⟨n, hn⟩ := Int.eq_ofNat_of_zero_le b1
  refine evx_bind (P := fun r => r.1 = (n : Int) ∧ Cur l r.2.2.1) (by rw [hn]; exact spec_l2Draw_ok (by omega) b3) fun d hd => ?_
  have hw : (Lit.int .i64 d.1).wf = true := by rw [hd.1]; exact wf_small (by omega)
  refine evx_bind (spec_l1Below_ok hd.2 (by omega)) fun e he => ?_
  obtain ⟨e1, e2, e3⟩ := he
  by_cases h0 : e.1 = 0
  · simp only [if_pos h0]
    exact evx_bind (spec_l1PickInt_ok e3 (by decide) (by decide)) fun q hq => ⟨_, Ev.now _, (by decide : ∀ x ∈ ([(-1), 6, 5, 0, 9223372036854775807] : List Int), (Lit.int .i64 x).wf = true) _ hq.1, hq.2⟩
  · simp only [if_neg h0]
    by_cases h1 : e.1 = 1
    · simp only [if_pos h1]
      exact evx_bind (spec_l1PickInt_ok e3 (by decide) (by decide)) fun q hq => ⟨_, Ev.now _, hw, hq.2⟩
    · simp only [if_neg h1]
      exact ⟨_, Ev.now _, hw, e3⟩
/-- A reader laid over what came in, then a table. -/
theorem new_any {R : Type} {l : List Int} (hl : l.length ≤ 4611686018427387904) {F : Nat → List Int × Int × Int → Int × Int × Int × Int → Option R} {Q : R → Prop} (hF : ∀ h d, (Lit.int .i64 d.1).wf = true → Cur l d.2.2.1 → ∃ r, Ev (fun k => F k (l, h) d) r ∧ Q r) :
    ∃ r, Ev (fun k => (spec_l1New.f k l).bind fun b => (spec_l2Any.f k b.1 b.2.1 b.2.2).bind fun d => F k b d) r ∧ Q r := by
  refine evx_bind (spec_l1New_ok hl) fun b hb => ?_
  obtain ⟨b0, b1⟩ := hb
  obtain ⟨b, i, h⟩ := b
  simp only at b0 b1
  subst b0
  exact evx_bind (spec_l2Any_ok b1) fun d hd => hF (i, h) d hd.1 hd.2

theorem and_pow (m i : Nat) : m &&& 2 ^ i = if m.testBit i = true then 2 ^ i else 0 := by
  apply Nat.eq_of_testBit_eq
  intro j
  rw [Nat.testBit_and, Nat.testBit_two_pow]
  by_cases h : i = j
  · subst h
    cases hb : m.testBit i <;> simp
  · rw [decide_eq_false h, Bool.and_false]
    split
    · rw [Nat.testBit_two_pow, decide_eq_false h]
    · rw [Nat.zero_testBit]
theorem and_pow_no {m i : Nat} (h : m.testBit i = false) : m &&& 2 ^ i = 0 := by rw [and_pow, h]; rfl
theorem and_pow_yes {m i : Nat} (h : m.testBit i = true) : m &&& 2 ^ i = 2 ^ i := by rw [and_pow, h]; rfl
theorem impl_known_with_zero {m v i : Nat} (hm : m < 32) (hv : v < 32) (hi : i ≤ 5) : impl_known_with.f m v i 0 = some (((m ||| 2 ^ i : Nat) : Int), (v : Int)) := by
  unfold impl_known_with.f
  have hp : 2 ^ i ≤ 2 ^ 5 := Nat.pow_le_pow_right (by omega) hi
  have hl : m ||| 2 ^ i < 2 ^ 6 := Nat.or_lt_two_pow (by omega) (by omega)
  rw [if_pos (Int.natCast_nonneg _), shl1 (by omega), borN (by omega) (by omega), show (0 : Int) = ((0 : Nat) : Int) from rfl, shlN (by omega), Nat.zero_mul, borN (by omega) (by omega), Nat.or_zero]
theorem impl_known_with_one {m v i : Nat} (hm : m < 32) (hv : v < 32) (hi : i ≤ 5) : impl_known_with.f m v i 1 = some (((m ||| 2 ^ i : Nat) : Int), ((v ||| 2 ^ i : Nat) : Int)) := by
  unfold impl_known_with.f
  have hp : 2 ^ i ≤ 2 ^ 5 := Nat.pow_le_pow_right (by omega) hi
  rw [if_pos (Int.natCast_nonneg _), shl1 (by omega), borN (by omega) (by omega), borN (by omega) (by omega)]

theorem impl_Table_cube_seen_eq {w m v : Nat} (hw : w < 9223372036854775808) (hm : m < 32) (b : Bool) : ∀ N, N ≤ 32 → impl_Table_cube.seen w m v (b2i b) N = seenB w m v b N := by
  intro N
  induction N with
  | zero => intro _; rfl
  | succ N ih =>
    intro hN
    simp only [impl_Table_cube.seen, seenB]
    rw [ih (by omega), bandN (by omega) (by omega), at1 hw, b2i_beq]
    congr 2
    rw [Bool.eq_iff_iff, beq_iff_eq, beq_iff_eq]
    omega
theorem impl_Table_cube_eq {n w m v : Nat} (t : Tab n w) (hm : m < 32) : impl_Table_cube.f n w m v = some (cubeV n w m v) := by
  have hn := t.hn
  have hs := t.size
  unfold impl_Table_cube.f
  rw [if_pos (by omega), Int.toNat_natCast, show (1 : Int) = b2i true from rfl, show (0 : Int) = b2i false from rfl, impl_Table_cube_seen_eq t.w63 hm true _ hs, impl_Table_cube_seen_eq t.w63 hm false _ hs]
  rfl

theorem bits_OnesCount64_eq {a : Nat} (h : a < 4294967296) : bits_OnesCount64.f a = some ((pc a : Nat) : Int) := by
  obtain ⟨c0, c1, c2, c3, g0, g1, g2, g3, hv, hp, l1, l2⟩ := n123 h
  have e1 : IntKind.u64.wrap ((Go.bits .and .u64 ((a : Int) / 2) 6148914691236517205) + (Go.bits .and .u64 (a : Int) 6148914691236517205)) = ((n1 a : Nat) : Int) := by
    rw [show (a : Int) / 2 = ((a / 2 : Nat) : Int) by omega, show (6148914691236517205 : Int) = ((6148914691236517205 : Nat) : Int) from rfl, uand (by omega) (by omega), uand (by omega) (by omega), ← Int.natCast_add]
    exact uwrap (by unfold n1 at l1; omega)
  have e2 : IntKind.u64.wrap ((Go.bits .and .u64 (((n1 a : Nat) : Int) / 4) 3689348814741910323) + (Go.bits .and .u64 ((n1 a : Nat) : Int) 3689348814741910323)) = ((n2 (n1 a) : Nat) : Int) := by
    rw [show ((n1 a : Nat) : Int) / 4 = ((n1 a / 4 : Nat) : Int) by omega, show (3689348814741910323 : Int) = ((3689348814741910323 : Nat) : Int) from rfl, uand (by omega) (by omega), uand (by omega) (by omega), ← Int.natCast_add]
    exact uwrap (by unfold n2 at l2; omega)
  have e3 : Go.bits .and .u64 (IntKind.u64.wrap ((((n2 (n1 a) : Nat) : Int) / 16) + ((n2 (n1 a) : Nat) : Int))) 1085102592571150095 = ((n3 (n2 (n1 a)) : Nat) : Int) := by
    rw [show ((n2 (n1 a) : Nat) : Int) / 16 = ((n2 (n1 a) / 16 : Nat) : Int) by omega, ← Int.natCast_add, uwrap (by omega), show (1085102592571150095 : Int) = ((1085102592571150095 : Nat) : Int) from rfl, uand (by omega) (by omega)]
    rfl
  unfold bits_OnesCount64.f
  rw [e1, e2, e3, hv]
  rw [fold4 g0 g1 g2 g3, fold5 g0 g1 g2 g3, fold6 g0 g1 g2 g3, fold7 g0 g1 g2 g3, hp]

theorem impl_ones_eq {a : Nat} (h : a < 4294967296) : impl_ones.f a = some ((pc a : Nat) : Int) := by
  unfold impl_ones.f
  rw [uwrap (by omega), bits_OnesCount64_eq h, Option.bind_some]

theorem bit_zero {m i : Nat} (hm : m < 9223372036854775808) : Go.bits .and .i64 (shr .i64 (m : Int) (i : Int)) 1 = 0 ↔ m.testBit i = false := by
  rw [at1 hm]
  cases m.testBit i <;> simp [b2i]
theorem frees_pc {m n : Nat} (hn : n ≤ 4) (hm : m < 2 ^ n) : frees m n + pc m = n := by
  have h : ∀ n, n < 5 → ∀ m, m < 2 ^ n → frees m n + pc m = n := by decide
  exact h n (by omega) m hm
theorem impl_asker_all_fold {n m v d w : Nat} (hn : n ≤ 4) (hm : m < 2 ^ n) (hv : v < 2 ^ n)
    (ih : ∀ i, i < n → opens m i = true → impl_asker_all.f n w d ((m ||| 2 ^ i : Nat) : Int) v = some (avg n w (m ||| 2 ^ i) v) ∧ impl_asker_all.f n w d ((m ||| 2 ^ i : Nat) : Int) ((v ||| 2 ^ i : Nat) : Int) = some (avg n w (m ||| 2 ^ i) (v ||| 2 ^ i))) :
    ∀ i, i ≤ n → impl_asker_all.fold (impl_asker_all.f n w d) m v ((2 ^ frees m n : Nat) : Int) (((2 ^ frees m n : Nat) : Int) * n) i = some (leastI (opens m) (avgS n w m v) (((2 ^ frees m n : Nat) : Int) * n) i) := by
  have hp : 2 ^ n ≤ 2 ^ 4 := Nat.pow_le_pow_right (by omega) hn
  have hq : 2 ^ frees m n ≤ 2 ^ 4 := Nat.pow_le_pow_right (by omega) (by have := frees_le m n; omega)
  intro i
  induction i with
  | zero => intro _; rfl
  | succ i ih2 =>
    intro hi
    rw [impl_asker_all.fold, ih2 (by omega), Option.bind_some]
    simp only [leastI]
    cases hb : m.testBit i with
    | false =>
      have ho := opens_yes.2 hb
      obtain ⟨e0, e1⟩ := ih i (by omega) ho
      have h0 := avg_range hn w (m ||| 2 ^ i) v
      have h1 := avg_range hn w (m ||| 2 ^ i) (v ||| 2 ^ i)
      have hq0 := Nat.two_pow_pos (frees m n)
      rw [if_pos ((bit_zero (by omega)).2 hb), if_pos ho, impl_known_with_zero (by omega) (by omega) (by omega), Option.bind_some, e0, Option.bind_some, impl_known_with_one (by omega) (by omega) (by omega), Option.bind_some, e1, Option.bind_some, w64 (x := ((2 ^ frees m n : Nat) : Int) + _) (by omega) (by omega), w64 (by omega) (by omega)]
      rfl
    | true =>
      rw [if_neg (fun h => by rw [(bit_zero (by omega)).1 h] at hb; exact Bool.noConfusion hb), if_neg (fun h => by rw [opens_yes.1 h] at hb; exact Bool.noConfusion hb)]
theorem impl_asker_all_eq {n w : Nat} (t : Tab n w) (hn : n ≤ 4) : ∀ (d m v : Nat), frees m n < d → m < 2 ^ n → v < 2 ^ n → impl_asker_all.f n w d m v = some (avg n w m v) := by
  have hp : 2 ^ n ≤ 2 ^ 4 := Nat.pow_le_pow_right (by omega) hn
  intro d
  induction d with
  | zero => intro m v h; omega
  | succ d ih =>
    intro m v h hm hv
    rw [impl_asker_all.f, impl_Table_cube_eq t (by omega), Option.bind_some, avg_eq]
    by_cases hc : cubeV n w m v = 2
    · have hf := frees_pc hn hm
      have hl := frees_le m n
      have h64 := pow_mul_le hl hn
      have e1 : ((2 ^ frees m n : Nat) : Int) * (n : Int) = ((2 ^ frees m n * n : Nat) : Int) := by push_cast; rfl
      rw [if_pos hc, if_pos hc, impl_ones_eq (by omega), Option.bind_some, Int.toNat_natCast, show wrap64 ((n : Int) - (pc m : Nat)) = ((frees m n : Nat) : Int) by rw [w64 (by omega) (by omega)]; omega, if_pos (Int.natCast_nonneg _), shl1 (by omega), w64 (by omega) (by omega)]
      refine impl_asker_all_fold hn hm hv (fun i hi ho => ?_) n (Nat.le_refl _)
      have hf := frees_or hi (opens_yes.1 ho)
      exact ⟨ih _ _ (by omega) (or_lt hm hi) hv, ih _ _ (by omega) (or_lt hm hi) (or_lt hv hi)⟩
    · rw [if_neg hc, if_neg hc]

theorem small_yes {b W : Int} (h : (isTab b W && decide (b ≤ 4)) = true) : ∃ n w : Nat, b = n ∧ W = w ∧ Tab n w ∧ n ≤ 4 := by
  rw [Bool.and_eq_true, decide_eq_true_eq] at h
  obtain ⟨n, w, rfl, rfl, t⟩ := isTab_yes h.1
  exact ⟨n, w, rfl, rfl, t, by omega⟩
theorem frees_zero (n : Nat) : frees 0 n = n := by
  induction n with
  | zero => rfl
  | succ n ih => simp only [frees]; rw [Nat.zero_testBit, ih]; rfl
theorem impl_LeastAverage_eq {n w : Nat} (t : Tab n w) (hn : n ≤ 4) : impl_LeastAverage.f n w = some (avg n w 0 0) := by
  have h : (isTab (n : Int) (w : Int) && decide ((n : Int) ≤ 4)) = true := by rw [isTab_mk t, decide_eq_true (by omega)]; rfl
  unfold impl_LeastAverage.f
  rw [impl_isSmall_eq, h, Option.bind_some, if_pos rfl]
  exact impl_asker_all_eq (m := 0) (v := 0) t hn 6 (by rw [frees_zero]; omega) (Nat.two_pow_pos n) (Nat.two_pow_pos n)

theorem spec_l3Permute_ev {n w : Nat} {p : List Int} (t : Tab n w) (hn : n ≤ 4) (hp : p ∈ c_PS n) : Ev (fun k => spec_l3Permute.f k n w p) ((n : Int), ((c_pw n w p : Nat) : Int)) := by
  have h16 := pow16 hn
  have hl := (c_pl_all (i := 0) hn hp).1
  unfold spec_l3Permute.f
  refine ev_for (fun k x => spec_l3Permute.l0 k p ((c_orN w.testBit (fun x => c_mv p x n) x : Nat) : Int) (x : Int) n w) (2 ^ n) ?_ ?_
  · intro x hx hh
    have hm := (c_mv_all (y := 0) hn hp hx).1
    refine Ev.step (f := fun k => spec_l3Permute.l1 k p ((c_orN w.testBit (fun x => c_mv p x n) x : Nat) : Int) (x : Int) 0 0 n w) (fun k => ?_) ?_
    · simp only [spec_l3Permute.l0]
      rw [if_pos (by omega), shl1 (by omega), if_pos (by omega)]
    refine ev_for (fun k i => spec_l3Permute.l1 k p ((c_orN w.testBit (fun x => c_mv p x n) x : Nat) : Int) (x : Int) ((c_mv p x i : Nat) : Int) (i : Int) n w) n ?_ ?_
    · intro i hi hh2
      refine Ev.step (fun k => ?_) hh2
      have hm2 := mv_part hn hp x i (by omega)
      have hpl := c_pl_lt hn hp hi
      simp only [spec_l3Permute.l1]
      rw [if_pos (by omega), if_pos (by omega), hl, if_pos (by omega), rd_pl hn hp hi, if_pos (by omega), at1 (by omega), orstep _ (by omega) (by omega), w64 (by omega) (by omega)]
      rfl
    · refine Ev.step (fun k => ?_) hh
      simp only [spec_l3Permute.l1]
      rw [if_neg (by omega), if_pos (by omega), if_pos (by omega), at1 t.w63, orstep _ (orw_lt hn _ _ _ fun y hy => (c_mv_all (y := 0) hn hp (by omega)).1) (by omega), w64 (by omega) (by omega)]
      rfl
  · refine ev0 fun k => ?_
    simp only [spec_l3Permute.l0]
    rw [if_pos (by omega), shl1 (by omega), if_neg (by omega)]
    rfl
theorem sw_or {n w s : Nat} (hs : s < 2 ^ n) : c_orN w.testBit (fun x => x ^^^ s) (2 ^ n) = c_sw n w s := by
  refine c_word_ext (c_orN_lt _ _ _ _ fun x hx => c_xlt hx hs) (c_sw_lt _ _ _) fun y hy => ?_
  rw [c_sw_bit hy, Bool.eq_iff_iff, c_orN_bit]
  constructor
  · rintro ⟨x, _, h1, h2⟩
    rw [← h2, Nat.xor_assoc, Nat.xor_self, Nat.xor_zero]
    exact h1
  · intro h
    exact ⟨y ^^^ s, c_xlt hy hs, h, by rw [Nat.xor_assoc, Nat.xor_self, Nat.xor_zero]⟩
theorem spec_l3Shift_ev {n w s : Nat} (t : Tab n w) (hs : s < 2 ^ n) : Ev (fun k => spec_l3Shift.f k n w s) ((n : Int), ((c_sw n w s : Nat) : Int)) := by
  have hn := t.hn
  have h32 := t.size
  have h5 : 2 ^ 2 ^ n ≤ 2 ^ 32 := Nat.pow_le_pow_right (by omega) h32
  unfold spec_l3Shift.f
  refine ev_for (fun k x => spec_l3Shift.l0 k s ((c_orN w.testBit (fun x => x ^^^ s) x : Nat) : Int) (x : Int) n w) (2 ^ n) ?_ ?_
  · intro x hx hh
    refine Ev.step (fun k => ?_) hh
    have h1 := c_orN_lt w.testBit (fun x => x ^^^ s) (2 ^ n) x fun y hy => c_xlt (by omega) hs
    have h2 := c_xlt hx hs
    simp only [spec_l3Shift.l0]
    rw [if_pos (by omega), shl1 (by omega), if_pos (by omega), if_pos (by omega), bxorN (by omega) (by omega), if_pos (by omega), at1 t.w63, orstep _ (by omega) (by omega), w64 (by omega) (by omega)]
    rfl
  · refine ev0 fun k => ?_
    simp only [spec_l3Shift.l0]
    rw [if_pos (by omega), shl1 (by omega), if_neg (by omega), sw_or hs]
theorem spec_l2Full_eq {n : Nat} (hn : n ≤ 5) : spec_l2Full.f n = some (((2 ^ 2 ^ n : Nat) : Int) - 1) := by
  unfold spec_l2Full.f
  rw [if_pos (by omega), Int.toNat_natCast]
  congr 2
theorem el_rd (ps : List (List Int)) (j : Nat) : rd_L2 ps (j : Int) = ps.getD j [] := by unfold rd_L2; rw [Int.toNat_natCast]
def preJ (n w : Nat) (j : Nat) : List Nat := (List.range j).flatMap fun i => c_R n (c_pw n w ((c_PS n).getD i []))
def preS (n g : Nat) (s : Nat) : List Nat := (List.range s).flatMap fun x => [c_sw n g x, c_nw n (c_sw n g x)]
theorem preS_succ (n g s : Nat) : preS n g (s + 1) = preS n g s ++ [c_sw n g s, c_nw n (c_sw n g s)] := by unfold preS; rw [List.range_succ, List.flatMap_append]; simp
theorem preJ_succ (n w j : Nat) : preJ n w (j + 1) = preJ n w j ++ preS n (c_pw n w ((c_PS n).getD j [])) (2 ^ n) := by unfold preJ preS; rw [List.range_succ, List.flatMap_append]; simp [c_R]
theorem pre_len (n w : Nat) : ∀ j s, (preJ n w j).length = j * (2 ^ n * 2) ∧ ∀ g, (preS n g s).length = s * 2 := by
  intro j s
  have h : ∀ g s, (preS n g s).length = s * 2 := fun g s => by
    have := c_flat_len (l := List.range s) (f := fun x => [c_sw n g x, c_nw n (c_sw n g x)]) (c := 2) fun _ _ => rfl
    rwa [List.length_range] at this
  refine ⟨?_, fun g => h g s⟩
  have := c_flat_len (l := List.range j) (f := fun i => c_R n (c_pw n w ((c_PS n).getD i []))) (c := 2 ^ n * 2) fun i _ => h _ _
  rwa [List.length_range] at this
theorem preJ_all (n w : Nat) : preJ n w (c_PS n).length = c_L n w := range_flat (c_PS n) fun p => c_R n (c_pw n w p)
theorem mn_nat (a b : Nat) : mn (a : Int) (b : Int) = ((min a b : Nat) : Int) := by rw [mn_min]; omega
theorem fold2 (l : List Nat) (a h k : Nat) : (l ++ [h, k]).foldl min a = min (l.foldl min a) (min h k) := by
  rw [List.foldl_append]
  simp only [List.foldl_cons, List.foldl_nil]
  omega
theorem spec_l4Least_ev {n w : Nat} (hn : n ≤ 4) (hw : w < 2 ^ 2 ^ n) : Ev (fun k => spec_l4Least.f k n w) (((c_cn n w : Nat) : Int), ((c_sy n w : Nat) : Int)) := by
  have t := tab_of hn hw
  have h16 := pow16 hn
  have hps := (c_tot_le hn).2
  unfold spec_l4Least.f
  refine ev_bd (perms_all hn).2.1 ?_
  have hE : c_cn n w = (preJ n w (c_PS n).length).foldl min w ∧ c_sy n w = (preJ n w (c_PS n).length).count w := by rw [preJ_all]; exact ⟨rfl, rfl⟩
  rw [hE.1, hE.2]
  refine ev_for (fun k j => spec_l4Least.l0 k (((preJ n w j).foldl min w : Nat) : Int) (((preJ n w j).count w : Nat) : Int) (c_PS n) (j : Int) n w) (c_PS n).length ?_ ?_
  · intro j hj hh
    have hp := getD_mem hj
    have hg := c_pw_lt (w := w) hn hp
    refine evs1 (G := fun k => spec_l4Least.l1 k (((preJ n w j).foldl min w : Nat) : Int) (((preJ n w j).count w : Nat) : Int) (c_PS n) (j : Int) 0 n w n ((c_pw n w ((c_PS n).getD j []) : Nat) : Int)) (spec_l3Permute_ev t hn hp) (fun k hk => ?_) ?_
    · simp only [spec_l4Least.l0]
      rw [if_pos (by omega), if_pos (by omega), el_rd, hk]
      rfl
    have hs0 := preJ_succ n w j
    generalize c_pw n w ((c_PS n).getD j []) = g at hg hs0 ⊢
    have key := ev_for (fun k s => spec_l4Least.l1 k (((preJ n w j ++ preS n g s).foldl min w : Nat) : Int) (((preJ n w j ++ preS n g s).count w : Nat) : Int) (c_PS n) (j : Int) (s : Int) n w n (g : Int)) (2 ^ n) (r := ((((preJ n w (c_PS n).length).foldl min w : Nat) : Int), (((preJ n w (c_PS n).length).count w : Nat) : Int))) ?_ ?_
    · simpa [preS] using key
    · intro s hs hh2
      refine evs1 (spec_l3Shift_ev (tab_of hn hg) hs) (fun k hk => ?_) hh2
      have hc := List.count_le_length (a := w) (l := preJ n w j ++ preS n g s)
      have hl := pre_len n w j s
      rw [List.length_append, hl.1, hl.2] at hc
      have hj2 : j * (2 ^ n * 2) ≤ 24 * (16 * 2) := Nat.mul_le_mul (by omega) (Nat.mul_le_mul_right 2 h16)
      have hv := w16 hn (c_sw_lt n g s)
      have hv2 := w16 hn (c_nw_lt n (c_sw n g s))
      have hnw : ((2 ^ 2 ^ n : Nat) : Int) - 1 - ((c_sw n g s : Nat) : Int) = ((c_nw n (c_sw n g s) : Nat) : Int) := by
        have := c_sw_lt n g s
        unfold c_nw
        omega
      simp only [spec_l4Least.l1]
      rw [if_pos (by omega), shl1 (by omega), if_pos (by omega), hk, Option.bind_some, spec_l2Full_eq (by omega), Option.bind_some]
      dsimp only
      rw [hnw, w64 (x := ((c_nw n (c_sw n g s) : Nat) : Int)) (by omega) (by omega), mn_nat, mn_nat, preS_succ, ← List.append_assoc]
      generalize preJ n w j ++ preS n g s = q at *
      rw [fold2, show (q ++ [c_sw n g s, c_nw n (c_sw n g s)]).count w = q.count w + [c_sw n g s, c_nw n (c_sw n g s)].count w from List.count_append]
      generalize c_nw n (c_sw n g s) = b at *
      generalize c_sw n g s = a at *
      rw [w64 (x := (s : Int) + 1) (by omega) (by omega), List.count_cons, List.count_cons, List.count_nil]
      rw [w64 (x := ((q.count w : Nat) : Int) + 1) (by omega) (by omega), w64 (x := ((q.count w : Nat) : Int) + 1 + 1) (by omega) (by omega)]
      by_cases h1 : a = w
      · rw [if_pos (show (a : Int) = (w : Int) by omega), if_pos (show (a == w) = true from beq_iff_eq.mpr h1)]
        by_cases h2 : b = w
        · rw [if_pos (show (b : Int) = (w : Int) by omega), if_pos (show (b == w) = true from beq_iff_eq.mpr h2)]
          rfl
        · rw [if_neg (show ¬ (b : Int) = (w : Int) by omega), if_neg (show ¬ (b == w) = true from fun h => h2 (beq_iff_eq.mp h))]
          rfl
      · rw [if_neg (show ¬ (a : Int) = (w : Int) by omega), if_neg (show ¬ (a == w) = true from fun h => h1 (beq_iff_eq.mp h))]
        by_cases h2 : b = w
        · rw [if_pos (show (b : Int) = (w : Int) by omega), if_pos (show (b == w) = true from beq_iff_eq.mpr h2)]
          rfl
        · rw [if_neg (show ¬ (b : Int) = (w : Int) by omega), if_neg (show ¬ (b == w) = true from fun h => h2 (beq_iff_eq.mp h))]
          rfl
    · refine Ev.step (fun k => ?_) hh
      simp only [spec_l4Least.l1]
      rw [if_pos (by omega), shl1 (by omega), if_neg (by omega), w64 (by omega) (by omega), hs0]
      rfl
  · refine ev0 fun k => ?_
    simp only [spec_l4Least.l0]
    rw [if_neg (by omega)]
/-! ### What both sides tell, at whatever drawn values -/
theorem table_cases (b W : Int) : (∃ n w : Nat, b = n ∧ W = w ∧ n ≤ 4 ∧ w < 2 ^ 2 ^ n) ∨ ((isTab b W && decide (b ≤ 4)) = false) := by
  by_cases h : (isTab b W && decide (b ≤ 4)) = true
  · obtain ⟨n, w, rfl, rfl, t, hn⟩ := small_yes h
    exact .inl ⟨n, w, rfl, rfl, hn, t.hw⟩
  · exact .inr (Bool.eq_false_iff.mpr h)
theorem not_small {b W : Int} (h : (isTab b W && decide (b ≤ 4)) = false) : impl_isSmall.f b W 4 = some false := by rw [impl_isSmall_eq, h]
theorem spec_off {R : Type} {b W : Int} (h : (isTab b W && decide (b ≤ 4)) = false) (x : R) (g : Nat → Option R) : Ev (fun k => (spec_IsTable.f b W).bind fun t => if t = true then (if b > 4 then some x else g k) else some x) x := by
  refine ev_bd (ev_const (spec_IsTable_eq b W)) ?_
  by_cases h1 : isTab b W = true
  · rw [h1, Bool.true_and, decide_eq_false_iff_not] at h
    exact ev_if h1 (ev_if (by omega) (Ev.now _))
  · exact ev_ifn h1 (Ev.now _)
theorem spec_on {R : Type} {n w : Nat} (hn : n ≤ 4) (hw : w < 2 ^ 2 ^ n) (x : R) {g : Nat → Option R} {r : R} (h : Ev g r) : Ev (fun k => (spec_IsTable.f n w).bind fun t => if t = true then (if (n : Int) > 4 then some x else g k) else some x) r :=
  ev_bd (ev_const ((spec_IsTable_eq n w).trans (congrArg some (isTab_mk (tab_of hn hw))))) (ev_if rfl (ev_ifn (by omega) h))
theorem can_on {n w : Nat} (hn : n ≤ 4) (hw : w < 2 ^ 2 ^ n) : Ev (fun k => spec_CanonicalTable.f k n w) ((n : Int), ((c_cn n w : Nat) : Int), true) := by
  unfold spec_CanonicalTable.f
  exact spec_on hn hw _ (ev_bd (spec_l4Least_ev hn hw) (Ev.now _))
theorem can_key (b W : Int) : ∃ r, Ev (fun k => spec_CanonicalTable.f k b W) r ∧ impl_CanonicalTable.f b W = some r ∧ ((∃ n w : Nat, b = n ∧ W = w ∧ n ≤ 4 ∧ w < 2 ^ 2 ^ n ∧ r = ((n : Int), ((c_cn n w : Nat) : Int), true)) ∨ r.2.2 = false) := by
  rcases table_cases b W with ⟨n, w, rfl, rfl, hn, hw⟩ | h
  · exact ⟨_, can_on hn hw, impl_CanonicalTable_eq hn hw, .inl ⟨n, w, rfl, rfl, hn, hw, rfl⟩⟩
  · refine ⟨(0, 0, false), ?_, ?_, .inr rfl⟩
    · unfold spec_CanonicalTable.f
      exact spec_off h _ _
    · unfold impl_CanonicalTable.f
      rw [not_small h]
      rfl
theorem sym_on {n w : Nat} (hn : n ≤ 4) (hw : w < 2 ^ 2 ^ n) : Ev (fun k => spec_SymmetriesOf.f k n w) ((c_sy n w : Nat) : Int) := by
  unfold spec_SymmetriesOf.f
  exact spec_on hn hw _ (ev_bd (spec_l4Least_ev hn hw) (Ev.now _))
theorem sym_key (b W : Int) : ∃ r, Ev (fun k => spec_SymmetriesOf.f k b W) r ∧ impl_SymmetriesOf.f b W = some r := by
  rcases table_cases b W with ⟨n, w, rfl, rfl, hn, hw⟩ | h
  · exact ⟨_, sym_on hn hw, impl_SymmetriesOf_eq hn hw⟩
  · refine ⟨-1, ?_, ?_⟩
    · unfold spec_SymmetriesOf.f
      exact spec_off h _ _
    · unfold impl_SymmetriesOf.f
      rw [not_small h]
      rfl
def ways : Nat → Nat
  | 0 => 2
  | i + 1 => ways i * 2 * (i + 1)
theorem ways_all {n : Nat} (hn : n ≤ 4) : ways n = c_tot n ∧ ∀ i, i ≤ n → ways i ≤ 768 := by
  have h2 : ∀ i, i ≤ 4 → ways i ≤ 768 := by decide
  refine ⟨?_, fun i hi => h2 i (by omega)⟩
  rcases (by omega : n = 0 ∨ n = 1 ∨ n = 2 ∨ n = 3 ∨ n = 4) with rfl | rfl | rfl | rfl | rfl <;> decide +kernel
theorem cls_on {n w c : Nat} (hn : n ≤ 4) (hw : w < 2 ^ 2 ^ n) (hc : c * c_sy n w = c_tot n) (h768 : c ≤ 768) : Ev (fun k => spec_ClassSize.f k n w) (c : Int) := by
  have hp := (c_sy_pos hn hw).1
  have hA := ways_all hn
  unfold spec_ClassSize.f
  refine ev_bd (sym_on hn hw) (ev_ifn (by omega) ?_)
  generalize c_sy n w = y at hc hp
  have key := ev_for (fun k i => spec_ClassSize.l0 k (y : Int) ((ways i : Nat) : Int) ((i : Int) + 1) n w) n (r := (c : Int)) ?_ ?_
  · exact key
  · intro i hi hh
    refine Ev.step (fun k => ?_) hh
    have h1 := hA.2 i (by omega)
    have h2 := hA.2 (i + 1) (by omega)
    have h3 : ((ways (i + 1) : Nat) : Int) = ((ways i : Nat) : Int) * 2 * ((i : Int) + 1) := by simp only [ways]; push_cast; rfl
    simp only [spec_ClassSize.l0]
    rw [if_pos (by omega), w64 (x := ((ways i : Nat) : Int) * 2) (by omega) (by omega), ← h3, w64 (by omega) (by omega), w64 (by omega) (by omega)]
    rfl
  · refine ev0 fun k => ?_
    simp only [spec_ClassSize.l0]
    have h4 : Int.tdiv ((c_tot n : Nat) : Int) (y : Int) = (c : Int) := by
      rw [← hc, Int.natCast_mul]
      exact Int.mul_tdiv_cancel _ (by omega)
    rw [if_neg (by omega), if_neg (by omega), hA.1, h4, w64 (by omega) (by omega)]
theorem cls_key (b W : Int) : ∃ r, Ev (fun k => spec_ClassSize.f k b W) r ∧ impl_ClassSize.f b W = some r := by
  rcases table_cases b W with ⟨n, w, rfl, rfl, hn, hw⟩ | h
  · obtain ⟨c, h1, h2, h3⟩ := impl_ClassSize_eq hn hw
    exact ⟨_, cls_on hn hw h2 h3, h1⟩
  · refine ⟨-1, ?_, ?_⟩
    · unfold spec_ClassSize.f
      refine ev_bd (a := -1) ?_ (ev_if (by omega) (Ev.now _))
      unfold spec_SymmetriesOf.f
      exact spec_off h _ _
    · unfold impl_ClassSize.f
      rw [not_small h]
      rfl
theorem alike_key (b W c V : Int) : ∃ r, Ev (fun k => spec_AreAlike.f k b W c V) r ∧ impl_AreAlike.f b W c V = some r := by
  obtain ⟨x, h1, h2, -⟩ := can_key b W
  obtain ⟨y, h3, h4, -⟩ := can_key c V
  refine ⟨if x.2.2 = true then (if y.2.2 = true then (x.1 == y.1 && (x.2.1 == y.2.1)) else false) else false, ?_, ?_⟩
  · unfold spec_AreAlike.f
    refine ev_bd h1 (ev_bd h3 ?_)
    by_cases hx : x.2.2 = true
    · refine ev_if hx ?_
      rw [if_pos hx]
      by_cases hy : y.2.2 = true
      · refine ev_if hy ?_
        rw [if_pos hy]
        exact Ev.now _
      · refine ev_ifn hy ?_
        rw [if_neg hy]
        exact Ev.now _
    · refine ev_ifn hx ?_
      rw [if_neg hx]
      exact Ev.now _
  · unfold impl_AreAlike.f
    rw [h2, Option.bind_some, h4, Option.bind_some]
    by_cases hx : x.2.2 = true
    · rw [if_pos hx, if_pos hx]
      by_cases hy : y.2.2 = true
      · rw [if_pos hy, if_pos hy]
      · rw [if_neg hy, if_neg hy]
    · rw [if_neg hx, if_neg hx]
theorem perm_key (a : Int) : ∃ l o, impl_PermutationsOf.f a = some (l, o) ∧ Ev (fun k => spec_PermutationsOf.f k a) (l, o) ∧ Ev (fun k => laws_sameLists.f k l l) true := by
  by_cases h : 0 ≤ a ∧ a ≤ 4
  · obtain ⟨n, rfl⟩ := Int.eq_ofNat_of_zero_le h.1
    have hn : n ≤ 4 := by omega
    have hp := perms_all hn
    refine ⟨c_PS n, true, ?_, ?_, hp.2.2.2.1⟩
    · unfold impl_PermutationsOf.f
      rw [if_neg (by omega), if_neg (by omega), hp.1]
      rfl
    · unfold spec_PermutationsOf.f
      exact ev_bd (ev_const (spec_l1In_eq _ _ _)) (ev_if (decide_eq_true h) (ev_bd hp.2.1 (Ev.now _)))
  · refine ⟨[], false, ?_, ?_, ?_⟩
    · unfold impl_PermutationsOf.f
      by_cases h0 : a < 0
      · rw [if_pos h0]
      · rw [if_neg h0, if_pos (by omega)]
    · unfold spec_PermutationsOf.f
      exact ev_bd (ev_const (spec_l1In_eq _ _ _)) (ev_ifn (by rw [decide_eq_false h]; decide) (Ev.now _))
    · unfold laws_sameLists.f
      refine ev_if rfl (ev0 fun k => ?_)
      simp only [laws_sameLists.l0]
      rw [if_neg (by simp)]
def kc (n : Nat) : Nat → Nat
  | 0 => 0
  | x + 1 => if c_cn n x = x then kc n x + 1 else kc n x
theorem kc_le (n : Nat) : ∀ x, kc n x ≤ x
  | 0 => Nat.le_refl _
  | x + 1 => by have := kc_le n x; simp only [kc]; split <;> omega
theorem cnt_key (a : Int) : ∃ r, Ev (fun k => spec_CountTableClasses.f k a) r ∧ impl_CountTableClasses.f a = some r := by
  by_cases h : 0 ≤ a ∧ a ≤ 3
  · obtain ⟨n, rfl⟩ := Int.eq_ofNat_of_zero_le h.1
    have hn : n ≤ 4 := by omega
    have hN : 2 ^ 2 ^ n ≤ 256 := by
      have h3 : 2 ^ n ≤ 2 ^ 3 := Nat.pow_le_pow_right (by omega) (by omega)
      exact Nat.le_trans (Nat.pow_le_pow_right (n := 2) (by omega) (show 2 ^ n ≤ 8 by omega)) (by decide)
    refine ⟨((kc n (2 ^ 2 ^ n) : Nat) : Int), ?_, ?_⟩
    · unfold spec_CountTableClasses.f
      refine ev_bd (ev_const (spec_l1In_eq _ _ _)) (ev_if (decide_eq_true h) ?_)
      refine ev_for (fun k x => spec_CountTableClasses.l0 k n ((kc n x : Nat) : Int) (x : Int)) (2 ^ 2 ^ n) ?_ ?_
      · intro x hx hh
        have hk := kc_le n x
        refine evs1 (spec_l4Least_ev hn hx) (fun k hk => ?_) hh
        simp only [spec_CountTableClasses.l0]
        rw [spec_l2Full_eq (by omega), Option.bind_some, if_pos (by omega), hk, Option.bind_some]
        simp only [kc]
        by_cases e : c_cn n x = x
        · rw [if_pos (show ((c_cn n x : Nat) : Int) = (x : Int) by omega), if_pos e, w64 (by omega) (by omega), w64 (by omega) (by omega)]
          rfl
        · rw [if_neg (show ¬ ((c_cn n x : Nat) : Int) = (x : Int) by omega), if_neg e, w64 (by omega) (by omega)]
          rfl
      · refine ev0 fun k => ?_
        simp only [spec_CountTableClasses.l0]
        rw [spec_l2Full_eq (by omega), Option.bind_some, if_neg (by omega)]
    · have hto : ∀ x, x ≤ 2 ^ 2 ^ n → impl_allTables.to (fun (c : Int) (x : Nat) => if decide (((impl_Table_canonical.f n (x : Int)).getD ((n : Int) + 1, 0)).2 = (x : Int)) = true then wrap64 (c + 1) else c) 0 x = ((kc n x : Nat) : Int) := by
        intro x
        induction x with
        | zero => intro _; rfl
        | succ x ih =>
          intro hx
          have hk := kc_le n x
          simp only [impl_allTables.to, kc]
          rw [ih (by omega), impl_Table_canonical_eq hn (by omega), Option.getD_some]
          by_cases e : c_cn n x = x
          · rw [if_pos (decide_eq_true (show ((c_cn n x : Nat) : Int) = (x : Int) by omega)), if_pos e, w64 (by omega) (by omega)]
            rfl
          · rw [if_neg (by rw [decide_eq_false (show ¬ ((c_cn n x : Nat) : Int) = (x : Int) by omega)]; decide), if_neg e]
      unfold impl_CountTableClasses.f
      rw [if_neg (by omega), Int.toNat_natCast, if_pos (List.all_eq_true.mpr fun x hx => decide_eq_true (by rw [impl_Table_canonical_eq hn (List.mem_range.mp hx)]; rfl)), hto _ (Nat.le_refl _)]
  · refine ⟨-1, ?_, ?_⟩
    · unfold spec_CountTableClasses.f
      exact ev_bd (ev_const (spec_l1In_eq _ _ _)) (ev_ifn (by rw [decide_eq_false h]; decide) (Ev.now _))
    · unfold impl_CountTableClasses.f
      rw [if_pos (by omega)]
/-! ### The draws -/
theorem spec_DrawCanonicalTable_ok {l : List Int} (hl : l.length ≤ 4611686018427387904) : ∃ r, Ev (fun k => spec_DrawCanonicalTable.f k l) r ∧ True := by
  unfold spec_DrawCanonicalTable.f
  exact new_any hl fun h d _ _ => ⟨_, Ev.now _, trivial⟩
theorem new_below {l : List Int} (hl : l.length ≤ 4611686018427387904) {n : Int} (hn : n ≤ 256) {F : Int → Int} : ∃ r, Ev (fun k => (spec_l1New.f k l).bind fun b => (spec_l1Below.f b.1 b.2.1 b.2.2 n).bind fun c => some (F c.1)) r ∧ True := by
  refine evx_bind (spec_l1New_ok hl) fun b hb => ?_
  obtain ⟨b0, b1⟩ := hb
  obtain ⟨b, i, h⟩ := b
  simp only at b0 b1
  subst b0
  exact evx_bind (spec_l1Below_ok b1 hn) fun d hd => ⟨_, Ev.now _, trivial⟩
theorem spec_DrawCountTableClasses_ok {l : List Int} (hl : l.length ≤ 4611686018427387904) : ∃ r, Ev (fun k => spec_DrawCountTableClasses.f k l) r ∧ True := by
  unfold spec_DrawCountTableClasses.f
  exact new_below hl (n := 6) (by omega) (F := fun c => wrap64 (c - 1))
theorem spec_DrawPermutationsOf_ok {l : List Int} (hl : l.length ≤ 4611686018427387904) : ∃ r, Ev (fun k => spec_DrawPermutationsOf.f k l) r ∧ True := by
  unfold spec_DrawPermutationsOf.f
  exact new_below hl (n := 7) (by omega) (F := fun c => wrap64 (c - 1))
theorem shift_on {n w s : Nat} (t : Tab n w) (hs : s < 2 ^ n) : Ev (fun k => spec_ShiftTable.f k n w s) ((n : Int), ((c_sw n w s : Nat) : Int), true) := by
  have hn := t.hn
  have h32 := t.size
  unfold spec_ShiftTable.f
  refine ev_bd (ev_const ((spec_IsTable_eq n w).trans (congrArg some (isTab_mk t)))) (ev_if rfl (ev_if (by omega) ?_))
  refine ev_bd (ev_const (spec_l1In_eq _ _ _)) (ev_if ?_ (ev_bd (spec_l3Shift_ev t hs) (Ev.now _)))
  rw [shl1 (by omega), w64 (by omega) (by omega)]
  exact decide_eq_true (by omega)
theorem shift_any (b W s : Int) : ∃ r, Ev (fun k => spec_ShiftTable.f k b W s) r ∧ True := by
  by_cases h : isTab b W = true
  · obtain ⟨n, w, rfl, rfl, t⟩ := isTab_yes h
    have hn := t.hn
    have h32 := t.size
    by_cases hs : 0 ≤ s ∧ s ≤ ((2 ^ n : Nat) : Int) - 1
    · obtain ⟨s, rfl⟩ := Int.eq_ofNat_of_zero_le hs.1
      exact ⟨_, shift_on t (by omega), trivial⟩
    · refine ⟨(0, 0, false), ?_, trivial⟩
      unfold spec_ShiftTable.f
      refine ev_bd (ev_const (spec_IsTable_eq n w)) (ev_if h (ev_if (by omega) (ev_bd (ev_const (spec_l1In_eq _ _ _)) (ev_ifn ?_ (Ev.now _)))))
      have h0 := Nat.two_pow_pos n
      rw [shl1 (by omega), w64 (by omega) (by omega), decide_eq_false hs]
      decide
  · refine ⟨(0, 0, false), ?_, trivial⟩
    unfold spec_ShiftTable.f
    exact ev_bd (ev_const (spec_IsTable_eq b W)) (ev_ifn h (Ev.now _))
theorem spec_DrawAreAlike_ok {l : List Int} (hl : l.length ≤ 4611686018427387904) : ∃ r, Ev (fun k => spec_DrawAreAlike.f k l) r ∧ True := by
  unfold spec_DrawAreAlike.f
  refine evx_bind (P := fun _ => True) ?_ fun d _ => ⟨_, Ev.now _, trivial⟩
  unfold spec_l4Pair.f
  refine new_any hl fun h d _ hd => ?_
  refine evx_bind (spec_l1Below_ok hd (by omega)) fun b hb => ?_
  refine evx_bind (shift_any _ _ _) fun c _ => ?_
  by_cases h1 : c.2.2 = true
  · simp only [if_pos h1]
    unfold spec_l1Once.f
    refine evx_bind (P := fun e : Bool × Int × Int => Cur l e.2.1) (evx_bind (spec_l1Below_ok hb.2.2 (by omega)) fun e he => ⟨_, Ev.now _, he.2.2⟩) fun e he => ?_
    by_cases h2 : e.1 = true
    · simp only [if_pos h2]
      exact ⟨_, Ev.now _, trivial⟩
    · simp only [if_neg h2]
      exact evx_bind (spec_l2Any_ok he) fun q _ => ⟨_, Ev.now _, trivial⟩
  · simp only [if_neg h1]
    exact evx_bind (spec_l2Any_ok hb.2.2) fun q _ => ⟨_, Ev.now _, trivial⟩
theorem perm_on {n w : Nat} {p : List Int} (hn : n ≤ 4) (hw : w < 2 ^ 2 ^ n) (hp : p ∈ c_PS n) : Ev (fun k => spec_PermuteTable.f k n w p) ((n : Int), ((c_pw n w p : Nat) : Int), true) := by
  have t := tab_of hn hw
  unfold spec_PermuteTable.f
  exact ev_bd (ev_const ((spec_IsTable_eq n w).trans (congrArg some (isTab_mk t)))) (ev_if rfl (ev_bd ((perms_all hn).2.2.1 p hp) (ev_if rfl (ev_bd (spec_l3Permute_ev t hn hp) (Ev.now _)))))
theorem not_on {n w : Nat} (hn : n ≤ 4) (hw : w < 2 ^ 2 ^ n) : spec_NotTable.f n w = some ((n : Int), ((c_nw n w : Nat) : Int), true) := by
  have h16 := w16 hn hw
  have hq := w16 hn (c_nw_lt n w)
  have e : ((2 ^ 2 ^ n : Nat) : Int) - 1 - (w : Int) = ((c_nw n w : Nat) : Int) := by unfold c_nw; omega
  unfold spec_NotTable.f
  rw [spec_IsTable_eq, isTab_mk (tab_of hn hw), Option.bind_some, if_pos rfl, spec_l2Full_eq (by omega), Option.bind_some, e, w64 (by omega) (by omega)]
theorem at_ok {l : List Int} (hl : l.length ≤ 1048576) (hw : ∀ x ∈ l, (Lit.int .u8 x).wf = true) {i : Nat} (hi : i ≤ 4) : ∃ a : Nat, laws_at.f l (i : Int) = some (a : Int) := by
  unfold laws_at.f
  by_cases h : (i : Int) < (l.length : Int)
  · rw [if_pos h, if_pos (by omega)]
    have hm : rd l (i : Int) ∈ l := by
      rw [rd_nat, List.getD_eq_getElem?_getD, List.getElem?_eq_getElem (by omega), Option.getD_some]
      exact List.getElem_mem _
    have h2 := hw _ hm
    have h3 : 0 ≤ rd l (i : Int) ∧ rd l (i : Int) ≤ 255 := by
      simp [Lit.wf, IntKind.min, IntKind.max, IntKind.signed, IntKind.bits] at h2
      omega
    rw [w64 (by omega) (by omega)]
    exact ⟨(rd l (i : Int)).toNat, by congr 1; omega⟩
  · rw [if_neg h, w64 (x := (i : Int) * 37) (by omega) (by omega), w64 (x := (l.length : Int) * 11) (by omega) (by omega), w64 (by omega) (by omega)]
    refine ⟨(Int.tmod ((i : Int) * 37 + (l.length : Int) * 11) 256).toNat, ?_⟩
    rw [Int.toNat_of_nonneg (Int.tmod_nonneg _ (by omega))]
theorem tmod_nat (a b : Nat) : Int.tmod (a : Int) (b : Int) = ((a % b : Nat) : Int) := by
  rw [Int.tmod_eq_emod_of_nonneg (Int.natCast_nonneg a)]
  rfl
theorem bool_ne (b : Bool) : ¬ ((b != b) = true) := by cases b <;> decide
theorem pair_ne (a b : Int) : ¬ ((!(a == a) || (!(b == b))) = true) := by simp
theorem FnClasses_tail {l0 : List Int} (hl : l0.length ≤ 4611686018427387904) : Ev (fun k => ((spec_DrawAreAlike.f k l0).bind fun bt1185 => ((spec_DrawCountTableClasses.f k l0).bind fun t1191 => ((spec_DrawPermutationsOf.f k l0).bind fun t1192 => ((impl_PermutationsOf.f t1192).bind fun bt1193 => ((spec_PermutationsOf.f k t1192).bind fun bt1197 => ((impl_AreAlike.f bt1185.1 bt1185.2.1 bt1185.2.2.1 bt1185.2.2.2).bind fun t1201 => ((spec_AreAlike.f k bt1185.1 bt1185.2.1 bt1185.2.2.1 bt1185.2.2.2).bind fun t1202 => (if (t1201 == t1202) = true then ((impl_CountTableClasses.f t1191).bind fun t1203 => ((spec_CountTableClasses.f k t1191).bind fun t1204 => (if t1203 = t1204 then (if (bt1193.2 == bt1197.2) = true then ((laws_sameLists.f k bt1193.1 bt1197.1).bind fun t1205 => (some t1205)) else (none)) else (none)))) else (none)))))))))) true := by
  obtain ⟨d, hd, -⟩ := spec_DrawAreAlike_ok hl
  obtain ⟨n, hn, -⟩ := spec_DrawCountTableClasses_ok hl
  obtain ⟨a, ha, -⟩ := spec_DrawPermutationsOf_ok hl
  obtain ⟨l, o, p1, p2, p3⟩ := perm_key a
  obtain ⟨x, x1, x2⟩ := alike_key d.1 d.2.1 d.2.2.1 d.2.2.2
  obtain ⟨y, y1, y2⟩ := cnt_key n
  refine ev_bd hd (ev_bd hn (ev_bd ha (ev_bd (ev_const p1) (ev_bd p2 (ev_bd (ev_const x2) (ev_bd x1 (ev_if (beq_self_eq_true x) ?_)))))))
  exact ev_bd (ev_const y2) (ev_bd y1 (ev_if rfl (ev_if (beq_self_eq_true o) (ev_bd p3 (Ev.now _)))))
theorem cn_same {n w s : Nat} {p : List Int} (hn : n ≤ 4) (hw : w < 2 ^ 2 ^ n) (hp : p ∈ c_PS n) (hs : s < 2 ^ n) : c_cn n (c_sw n (c_pw n w p) s) = c_cn n w ∧ c_cn n (c_nw n (c_sw n (c_pw n w p) s)) = c_cn n w := by
  have h1 := (c_L_sw (w := c_pw n w p) hn hs).trans (c_L_pw (w := w) hn hp)
  exact ⟨c_cn_perm hn (c_sw_lt _ _ _) hw h1, c_cn_perm hn (c_nw_lt _ _) hw ((c_L_nw hn (c_sw_lt _ _ _)).trans h1)⟩
theorem FnClasses (l0 : List Int) (hm : l0.length ≤ maxLen) (hr : l0.length * 1 ≤ 140737488351232) (hw : ∀ x ∈ l0, (Lit.int .u8 x).wf = true) : ∃ k, laws_FnClasses.f k l0 = some true := by
  have hl : l0.length ≤ 4611686018427387904 := by omega
  refine Ev.rounds ?_
  unfold laws_FnClasses.f laws_big.f
  simp only [Option.bind_some]
  by_cases hb : decide ((l0.length : Int) > 1048576) = true
  · exact ev_if hb (Ev.now _)
  refine ev_ifn hb ?_
  have hb2 : l0.length ≤ 1048576 := by
    have h_ : ¬ ((l0.length : Int) > 1048576) := fun h => hb (decide_eq_true h)
    omega
  obtain ⟨⟨b, W⟩, hd, -⟩ := spec_DrawCanonicalTable_ok hl
  obtain ⟨r, r1, r2, r3⟩ := can_key b W
  obtain ⟨y, y1, y2⟩ := sym_key b W
  obtain ⟨c, c1, c2⟩ := cls_key b W
  refine ev_bd hd (ev_bd (ev_const r2) (ev_bd r1 (ev_ifn (pair_ne _ _) (ev_ifn (bool_ne _) ?_))))
  refine ev_bd (ev_const y2) (ev_bd y1 (ev_if rfl (ev_bd (ev_const c2) (ev_bd c1 (ev_if rfl ?_)))))
  rcases r3 with ⟨n, w, rfl, rfl, hn, hw2, rfl⟩ | r3
  case inr => exact ev_ifn (by rw [r3]; decide) (FnClasses_tail hl)
  refine ev_if rfl ?_
  have h16 := pow16 hn
  have h0 := Nat.two_pow_pos n
  have hps := perms_all hn
  have h24 := (c_tot_le hn).2
  have h768 := (c_tot_le hn).1
  have t := tab_of hn hw2
  obtain ⟨a, ha⟩ := at_ok hb2 hw (i := 3) (by omega)
  obtain ⟨e, he⟩ := at_ok hb2 hw (i := 4) (by omega)
  have hpk : impl_PermutationsOf.f (n : Int) = some (c_PS n, true) := by
    unfold impl_PermutationsOf.f
    rw [if_neg (by omega), if_neg (by omega), hps.1]
    rfl
  have hidx : a % (c_PS n).length < (c_PS n).length := Nat.mod_lt _ (by have := hps.2.2.2.2; omega)
  have hp := getD_mem hidx
  have hs : e % 2 ^ n < 2 ^ n := Nat.mod_lt _ h0
  have hsame := cn_same hn hw2 hp hs
  have hsh := shift_on (tab_of hn (c_pw_lt (w := w) hn hp)) hs
  have havg : impl_LeastAverage.f (n : Int) ((c_sw n (c_pw n w ((c_PS n).getD (a % (c_PS n).length) [])) (e % 2 ^ n) : Nat) : Int) = some (avg n w 0 0) := by
    rw [impl_LeastAverage_eq (tab_of hn (c_sw_lt _ _ _)) hn, c_avg_same hn hp hs]
  have hone := perm_on hn hw2 hp
  obtain ⟨c', d1, d2, d3⟩ := impl_ClassSize_eq hn hw2
  have hsy := impl_SymmetriesOf_eq hn hw2
  have hcn := (c_cn_all hn hw2).1
  have hal : impl_AreAlike.f (n : Int) (w : Int) (n : Int) ((c_nw n (c_sw n (c_pw n w ((c_PS n).getD (a % (c_PS n).length) [])) (e % 2 ^ n)) : Nat) : Int) = some true := by
    unfold impl_AreAlike.f
    rw [impl_CanonicalTable_eq hn hw2, Option.bind_some, impl_CanonicalTable_eq hn (c_nw_lt _ _), Option.bind_some, hsame.2, if_pos rfl, if_pos rfl]
    simp
  have hone' : Ev (fun k => if 0 ≤ Int.tmod (a : Int) ((c_PS n).length : Int) then spec_PermuteTable.f k n w (rd_L2 (c_PS n) (Int.tmod (a : Int) ((c_PS n).length : Int))) else none) ((n : Int), ((c_pw n w ((c_PS n).getD (a % (c_PS n).length) []) : Nat) : Int), true) := by
    simp only [tmod_nat, el_rd]
    exact ev_if (Int.natCast_nonneg _) hone
  have hmul : wrap64 ((c' : Int) * ((c_sy n w : Nat) : Int)) = wrap64 (shl .i64 2 (n : Int) * ((c_PS n).length : Int)) := by
    have e1 : shl .i64 2 (n : Int) = ((2 * 2 ^ n : Nat) : Int) := shlN (a := 2) (by omega)
    have e2 : c' * c_sy n w = (2 * 2 ^ n) * (c_PS n).length := by rw [d2]; unfold c_tot; rw [Nat.mul_comm, Nat.mul_comm (2 ^ n) 2]
    rw [e1, ← Int.natCast_mul, ← Int.natCast_mul, e2]
  have hcz := impl_CanonicalTable_eq (w := c_sw n (c_pw n w ((c_PS n).getD (a % (c_PS n).length) [])) (e % 2 ^ n)) hn (c_sw_lt _ _ _)
  have hcn2 := impl_CanonicalTable_eq (w := c_nw n (c_sw n (c_pw n w ((c_PS n).getD (a % (c_PS n).length) [])) (e % 2 ^ n))) hn (c_nw_lt _ _)
  have hnt := not_on (w := c_sw n (c_pw n w ((c_PS n).getD (a % (c_PS n).length) [])) (e % 2 ^ n)) hn (c_sw_lt _ _ _)
  rw [hsame.1] at hcz
  rw [hsame.2] at hcn2
  clear hone hsame hp
  generalize (c_PS n).getD (a % (c_PS n).length) [] = p at *
  generalize c_pw n w p = x at *
  generalize c_sw n x (e % 2 ^ n) = z at *
  have hsh' : Ev (fun k => spec_ShiftTable.f k n x (Int.tmod (e : Int) (shl .i64 1 (n : Int)))) ((n : Int), (z : Int), true) := by
    rw [shl1 (by omega), tmod_nat]
    exact hsh
  have hlen := hps.2.2.2.2
  refine ev_bd (ev_const hpk) (ev_bd (ev_const ha) (ev_ifn (by simp only; omega) (ev_bd hone' (ev_bd (ev_const he) (ev_if (by simp only; omega) (ev_ifn (by simp only; rw [shl1 (by omega)]; omega) (ev_bd hsh' (ev_bd (ev_const hnt) ?_))))))))
  refine ev_bd (ev_const hcz) (ev_bd (ev_const hcn2) (ev_ifn (pair_ne _ _) (ev_ifn (pair_ne _ _) (ev_bd (ev_const hal) (ev_if rfl (ev_bd (ev_const d1) (ev_bd (ev_const hsy) (ev_if hmul ?_))))))))
  exact ev_bd (ev_const (impl_LeastAverage_eq t hn)) (ev_bd (ev_const havg) (ev_if rfl (ev_ifn (by simp only; omega) (FnClasses_tail hl))))

end Go.Proofs.Yteljkpglgjjnlaa.Pure
