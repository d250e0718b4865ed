-- Out of the translation, by this session's program over the printer's; Lean checks it.
import Derived.Test.YteljkpglgjjnlaaSh
import Derived.Test.YteljkpglgjjnlaaQ0
import Derived.Test.YteljkpglgjjnlaaQ4
namespace Go.Proofs.Yteljkpglgjjnlaa.P
open Go.RowKit Go.Proofs.YteljkpglgjjnlaaW.PrintWords Go.Proofs.YteljkpglgjjnlaaW.PrintLast Go.Proofs.YteljkpglgjjnlaaW.PrintMore
attribute [local go_sem] max2_int min2_int max_two min_two max_three min_three max_four min_four
set_option linter.unusedVariables false
set_option linter.unusedSimpArgs false

/-! ### impl_Table_permute: function 70 -/
def impl_Table_permute.l0 : Nat → List Int → Int → Int → Int → Int → Int → Int → Option (Int × Int)
 | 0, _, _, _, _, _, _, _ => none
 | k + 1, x1, x11, x12, x335000, x335001, x337000, x337001 => if x12 < x11 then ((impl_Table_at.f x335000 x335001 x12).bind fun t338 => ((impl_moved.f k x12 x1).bind fun t339 => (if 0 ≤ t339 then (impl_Table_permute.l0 k x1 x11 (wrap64 (x12 + 1)) x335000 x335001 x337000 (Go.bits .or .i64 x337001 (shl .i64 t338 t339))) else (none)))) else (some (x337000, x337001))
def impl_Table_permute.f (k : Nat) (a0_0 : Int) (a0_1 : Int) (l1 : List Int) : Option (Int × Int) := (impl_Table_size.f a0_0 a0_1).bind fun t337 => (impl_Table_permute.l0 k l1 t337 0 a0_0 a0_1 a0_0 0)
theorem impl_Table_permute.mono_l : ∀ k, (∀ y0 y1 y2 y3 y4 y5 y6, LeO (impl_Table_permute.l0 k y0 y1 y2 y3 y4 y5 y6) (impl_Table_permute.l0 (k + 1) y0 y1 y2 y3 y4 y5 y6))
 | 0 => fun _ _ _ _ _ _ _ r h => by simp [impl_Table_permute.l0] at h
 | k + 1 => by
  have ih0 := impl_Table_permute.mono_l k
  ·intro y0 y1 y2 y3 y4 y5 y6
   unfold impl_Table_permute.l0
   repeat' first
   | (with_reducible exact ih0 _ _ _ _ _ _ _)
   | (with_reducible exact impl_moved.mono _ _ _)
   | (with_reducible exact LeO.refl _)
   | (with_reducible exact LeO.none _)
   | (with_reducible refine LeO.ite ?_ ?_)
   | (with_reducible refine LeO.bind ?_ (fun _ => ?_))
   | exact ih0 _ _ _ _ _ _ _
   | exact impl_moved.mono _ _ _
   | exact LeO.none _
   | refine LeO.ite ?_ ?_
   | refine LeO.bind ?_ (fun _ => ?_)
theorem impl_Table_permute.mono : ∀ a0 a1 a2 k, LeO (impl_Table_permute.f k a0 a1 a2) (impl_Table_permute.f (k + 1) a0 a1 a2) := by
 intro a0 a1 a2 k
 have ih0 := impl_Table_permute.mono_l k
 unfold impl_Table_permute.f
 repeat' first
   | (with_reducible exact ih0 _ _ _ _ _ _ _)
   | (with_reducible exact impl_moved.mono _ _ _)
   | (with_reducible exact LeO.refl _)
   | (with_reducible exact LeO.none _)
   | (with_reducible refine LeO.ite ?_ ?_)
   | (with_reducible refine LeO.bind ?_ (fun _ => ?_))
   | exact ih0 _ _ _ _ _ _ _
   | exact impl_moved.mono _ _ _
   | exact LeO.none _
   | refine LeO.ite ?_ ?_
   | refine LeO.bind ?_ (fun _ => ?_)
def impl_Table_permute.T5 : Bool × List (List Nat × List Nat) := (true, [([], []), ([0], [0]), ([], []), ([], []), ([2, 3], [2, 3]), ([], []), ([], []), ([5, 6, 4], [5, 6]), ([4, 7], [4, 7]), ([1, 8], [1, 8]), ([0, 1, 2, 3, 4, 5, 6, 7, 8, 9], []), ([10, 9, 7, 0, 1, 2, 3, 4, 5, 6, 7, 8, 9], [9, 10])])
def impl_Table_permute.B5 : List Nat := [0, 1, 0, 0, 12, 0, 0, 124, 252, 511, 1023, 2047]
theorem impl_Table_permute.tab5 : rtab .any (opsOf Try.f70 5) = impl_Table_permute.T5 := by kernel_rfl
theorem impl_Table_permute.bits5 : waitsOk impl_Table_permute.T5.2 impl_Table_permute.B5 = true := by kernel_rfl
set_option maxHeartbeats 8000000 in
set_option maxRecDepth 100000 in
theorem impl_Table_permute.calls (k : Nat) (a0_0 : Int) (a0_1 : Int) (A1 : Option Addr) (c1 : Nat) (l1 : List Int) (r1 : Int) (r2 : Int) (w : World) (hr1 : Kd.C (Kd.int .i64) w A1 l1.length l1) (hc1 : l1.length ≤ c1) (h : impl_Table_permute.f k a0_0 a0_1 l1 = some (r1, r2)) :
  Calls Try.prog 70 #[.agg #[.int .i64 a0_0, .int .i64 a0_1], .slice A1 l1.length c1] w fun e w' => e = .returned (.agg #[.int .i64 r1, .int .i64 r2]) ∧ Below w.heap.size w w' := by
 have hu25 := Try.underlying25
 have HR1 := Aside0.mk hr1
 have HC1 := Aside0.mk hc1
 clear hr1 hc1
 have HB := Aside0.mk (Below.refl w.heap.size w)
 have H : ((impl_Table_size.f a0_0 a0_1).bind fun t337 => (impl_Table_permute.l0 k l1 t337 0 a0_0 a0_1 a0_0 0)) = some (r1, r2) := h
 clear h
 replace H := Option.bind_eq_some_iff.mp H
 obtain ⟨t337, A30, H⟩ := H
 have A3 := Aside0.mk A30
 clear A30
 have H' := Aside0.mk H
 clear H
 go_enter Try.func70, Try.ntmps70
 go_wp2_with (first | ((with_reducible refine gate_dst (N := 2) rfl ?_); refine bx_ 2 #[.int .i64 a0_0, .int .i64 a0_1] 25 ?_; intro gb334 hg w4 hbox hb; have BK334 := Aside0.mk (hbox); have GW334 := gw_ hg (below_size (bv_ HB)); have GE334 := GW334; replace HB := Aside0.mk (below_step (bv_ HB) hb); clear hb hbox hg) | ((with_reducible refine gate_dst (N := 4) rfl ?_); refine bx_ 4 #[.int .i64 0, .int .i64 0] 25 ?_; intro gb335 hg w5 hbox hb; have BK335 := Aside0.mk (hbox); have GW335 := gw_ hg (below_size (bv1_ HB GE334)); have GE335 := GW335; replace HB := Aside0.mk (below_step (bv1_ HB GE334) hb); have NB334_335 := nb_ hg (blk_lt (g := gb334) (o := .cells #[.int .i64 a0_0, .int .i64 a0_1] 25 (0, 0)) (kv_ BK334)); have NB335_334 := nc_ hg (blk_lt (g := gb334) (o := .cells #[.int .i64 a0_0, .int .i64 a0_1] 25 (0, 0)) (kv_ BK334)); replace BK334 := kb_ BK334 hb; clear hb hbox hg; have hnb6 := NB334_335.out; have hnc6 := NB335_334.out; obtain ⟨hcz7_0, hcz7_1, hfz7_0, hfz7_1⟩ := c2_ BK334) | ((with_reducible refine gate_dst (N := 5) rfl ?_); refine bx_ 5 #[.int .i64 0, .int .i64 0] 25 ?_; intro gb336 hg w8 hbox hb; have BK336 := Aside0.mk (hbox); have GW336 := gw_ hg (below_size (bv2_ HB GE334 GE335)); have GE336 := GW336; replace HB := Aside0.mk (below_step (bv2_ HB GE334 GE335) hb); have NB334_336 := nb_ hg (blk_lt (g := gb334) (o := .cells #[.int .i64 a0_0, .int .i64 a0_1] 25 (0, 0)) (kv_ BK334)); have NB336_334 := nc_ hg (blk_lt (g := gb334) (o := .cells #[.int .i64 a0_0, .int .i64 a0_1] 25 (0, 0)) (kv_ BK334)); replace BK334 := kb_ BK334 hb; have NB335_336 := nb_ hg (blk_lt (g := gb335) (o := .cells #[.int .i64 0, .int .i64 0] 25 (0, 0)) (kv_ BK335)); have NB336_335 := nc_ hg (blk_lt (g := gb335) (o := .cells #[.int .i64 0, .int .i64 0] 25 (0, 0)) (kv_ BK335)); replace BK335 := kb_ BK335 hb; clear hb hbox hg; have hnb9 := NB336_334.out; have hnc9 := NB334_336.out; have hnb10 := NB336_335.out; have hnc10 := NB335_336.out; obtain ⟨hcz11_0, hcz11_1, hfz11_0, hfz11_1⟩ := c2_ BK336; obtain ⟨hcz12_0, hcz12_1, hfz12_0, hfz12_1⟩ := c2_ BK334) | ((with_reducible refine gate_callee (f := 36) rfl ?_); refine gl_ 11 Try.func36 #[.agg #[.int .i64 a0_0, .int .i64 a0_1]] rfl mp_ ?_; (with_reducible refine (impl_Table_size.calls a0_0 a0_1 t337 _ A3.out).mono ?_); rintro e w13 ⟨rfl, hb⟩; refine ⟨_, rfl, ?_⟩; replace BK334 := Aside0.mk (blk_below (g := gb334) (o := .cells #[.int .i64 a0_0, .int .i64 a0_1] 25 (0, 0)) (by (with_reducible repeat (first | refine blk_drewN ?_ _ | refine blk_drew ?_ | refine blk_alloc ?_ _)); refine blk_far ?_ NB334_336.out _; (with_reducible repeat (first | refine blk_drewN ?_ _ | refine blk_drew ?_ | refine blk_alloc ?_ _)); refine blk_far ?_ NB334_336.out _; (with_reducible repeat (first | refine blk_drewN ?_ _ | refine blk_drew ?_ | refine blk_alloc ?_ _)); exact BK334.out) hb); replace BK335 := Aside0.mk (blk_below (g := gb335) (o := .cells #[.int .i64 0, .int .i64 0] 25 (0, 0)) (by (with_reducible repeat (first | refine blk_drewN ?_ _ | refine blk_drew ?_ | refine blk_alloc ?_ _)); refine blk_far ?_ NB335_336.out _; (with_reducible repeat (first | refine blk_drewN ?_ _ | refine blk_drew ?_ | refine blk_alloc ?_ _)); refine blk_far ?_ NB335_336.out _; (with_reducible repeat (first | refine blk_drewN ?_ _ | refine blk_drew ?_ | refine blk_alloc ?_ _)); exact BK335.out) hb); replace BK336 := Aside0.mk (blk_below (g := gb336) (o := .cells #[.int .i64 a0_0, .int .i64 0] 25 (0, 0)) (by (with_reducible repeat (first | refine blk_drewN ?_ _ | refine blk_drew ?_ | refine blk_alloc ?_ _)); refine blk_put (cs := #[.int .i64 a0_0, .int .i64 0]) ?_ 1 _ rfl; (with_reducible repeat (first | refine blk_drewN ?_ _ | refine blk_drew ?_ | refine blk_alloc ?_ _)); refine blk_put (cs := #[.int .i64 0, .int .i64 0]) ?_ 0 _ rfl; (with_reducible repeat (first | refine blk_drewN ?_ _ | refine blk_drew ?_ | refine blk_alloc ?_ _)); exact BK336.out) hb); replace HB := Aside0.mk (below_step (bv3_ HB GE334 GE335 GE336) hb); (try clear hb); (try clear hb2); (try clear hk); (try clear hi)))
 go_loopg [12] k (fun kq v12 w' => ∃ (x12_1 : Int) (x337001_1 : Int), v12 = .int .i64 x12_1 ∧ Aside0 (impl_Table_permute.l0 kq l1 t337 x12_1 a0_0 a0_1 a0_0 x337001_1 = some (r1, r2)) ∧ Aside0 (kq ≤ k) ∧ Aside0 (w'.heap[gb334]? = some (.cells #[.int .i64 a0_0, .int .i64 a0_1] 25 (0, 0))) ∧ Aside0 (w'.heap[gb335]? = some (.cells #[.int .i64 0, .int .i64 0] 25 (0, 0))) ∧ Aside0 (w'.heap[gb336]? = some (.cells #[.int .i64 a0_0, .int .i64 x337001_1] 25 (0, 0))) ∧ Aside0 (Below w.heap.size w w'))
 case atStart => exact ⟨(0), (0), (by first | rfl | (simp; done) | (simp [*]; done)), H', ⟨Nat.le_refl _⟩, ⟨by (with_reducible repeat (first | refine blk_drewN ?_ _ | refine blk_drew ?_ | refine blk_alloc ?_ _)); exact BK334.out⟩, ⟨by (with_reducible repeat (first | refine blk_drewN ?_ _ | refine blk_drew ?_ | refine blk_alloc ?_ _)); exact BK335.out⟩, ⟨by (with_reducible repeat (first | refine blk_drewN ?_ _ | refine blk_drew ?_ | refine blk_alloc ?_ _)); exact BK336.out⟩, ⟨bv3_ HB GE334 GE335 GE336⟩⟩
 case round =>
  clear H'
  try clear c1
  try clear p2
  try clear c3
  try clear c6
  try clear c7
  try clear c9
  try clear c10
  try clear hcz11_0
  try clear hcz11_1
  try clear hcz12_0
  try clear hcz12_1
  try clear hcz7_0
  try clear hcz7_1
  try clear hfz11_0
  try clear hfz11_1
  try clear hfz12_0
  try clear hfz12_1
  try clear hfz7_0
  try clear hfz7_1
  obtain ⟨x12_1, x337001_1, rfl, HA, HK1, BK334, BK335, BK336, HB⟩ := hrel
  cases gk with
  | zero => exact absurd HA.out (by simp [impl_Table_permute.l0])
  | succ k1 =>
   have H := HA.out
   clear HA
   simp only [impl_Table_permute.l0] at H
   by_cases c14 : x12_1 < t337
   ·rw [if_pos c14] at H
    have c14b0 : decide (x12_1 < t337) = true := decide_eq_true c14
    clear c14
    replace H := Option.bind_eq_some_iff.mp H
    obtain ⟨t338, A150, H⟩ := H
    have A15 := Aside0.mk A150
    clear A150
    replace H := Option.bind_eq_some_iff.mp H
    obtain ⟨t339, A160, H⟩ := H
    have A16 := Aside0.mk A160
    clear A160
    by_cases c17 : 0 ≤ t339
    ·rw [if_pos c17] at H
     have c17b0 := eq_true c17
     have c17b1 : decide (0 ≤ t339) = true := decide_eq_true c17
     clear c17
     obtain ⟨ji18, hji18⟩ : ∃ j_ : Int, (shl .i64 t338 t339) = j_ := ⟨_, rfl⟩
     replace H : (impl_Table_permute.l0 k1 l1 t337 (wrap64 (x12_1 + 1)) a0_0 a0_1 a0_0 (Go.bits .or .i64 x337001_1 (ji18))) = some (r1, r2) := by first | (rw [hji18] at H; exact H) | (simp only [hji18] at H ⊢; exact H)
     (try rw [hji18] at A15)
     (try rw [hji18] at A16)
     have hji18_ : (IntKind.i64.wrap (t338 * 2 ^ min t339.toNat 64)) = ji18 := hji18
     have hji18z : t339 ≤ 64 → (IntKind.i64.wrap (t338 * 2 ^ t339.toNat)) = ji18 := shl_small hji18
     have hji18y : (wrap64 (t338 * 2 ^ min t339.toNat 64)) = ji18 := (i64_w _).symm.trans hji18_
     have hji18x : t339 ≤ 64 → (wrap64 (t338 * 2 ^ t339.toNat)) = ji18 := fun h_ => (i64_w _).symm.trans (hji18z h_)
     have H' := Aside0.mk H
     clear H
     try go_wp2
     replace BK334 := Aside0.mk (blk_drew BK334.out)
     replace BK335 := Aside0.mk (blk_drew BK335.out)
     replace BK336 := Aside0.mk (blk_drew BK336.out)
     replace HB := Aside0.mk (below_drew1 HB.out)
     refine start_ (n := 12) (S := fun w' => w'.cell? ⟨gb336, 0, none⟩ = some (.int .i64 a0_0) ∧ w'.cell? ⟨gb336, 1, none⟩ = some (.int .i64 x337001_1) ∧ w'.cell? ⟨gb334, 0, none⟩ = some (.int .i64 a0_0) ∧ w'.cell? ⟨gb334, 1, none⟩ = some (.int .i64 a0_1)) (ds := [11]) (bs 12 0) (by kernel_rfl) rfl (by kernel_rfl) ⟨(blk_cell BK336.out 0).trans rfl, (blk_cell BK336.out 1).trans rfl, (blk_cell BK334.out 0).trans rfl, (blk_cell BK334.out 1).trans rfl⟩ (fun hHeld => ?_); refine with_tabW impl_Table_permute.tab5 impl_Table_permute.bits5 (fun HT_ HW_ => ?_)
     generalize wr.drew = w19 at BK334 BK335 BK336 HB hHeld ⊢
     refine pu_ HT_ 0 15 (bs 12 1) ?_
     refine pu_ HT_ 3 18 (bs 12 9) ?_
     refine pu_ HT_ 5 20 (bs 12 41) ?_
     refine pu_ HT_ 6 21 (bs 12 105) ?_
     refine ta4_ HT_ HW_ 1 16 (bs 12 107) hHeld ?_
     refine ta4_ HT_ HW_ 2 17 (bs 12 111) hHeld ?_
     refine on_ HT_ 4 19 (bs 12 127) (fun K hK => ?_)
     refine goes_ Try.func37 (by kernel_rfl) rfl #[.agg #[.int .i64 a0_0, .int .i64 a0_1], .int .i64 x12_1] (by rfl) rfl rfl mp_ ?_
     with_reducible refine (impl_Table_at.calls a0_0 a0_1 x12_1 t338 _ A15.out).mono ?_
     rintro e w20 ⟨rfl, hb⟩
     refine ⟨_, rfl, ?_⟩
     replace BK334 := kb_ BK334 hb
     replace BK335 := kb_ BK335 hb
     replace BK336 := kb_ BK336 hb
     replace HB := Aside0.mk (below_step (bv3_ HB GE334 GE335 GE336) hb)
     (try clear hb)
     (try clear hb2)
     (try clear hk)
     (try clear hi)
     refine hK.out _ _ ⟨(blk_cell BK336.out 0).trans rfl, (blk_cell BK336.out 1).trans rfl, (blk_cell BK334.out 0).trans rfl, (blk_cell BK334.out 1).trans rfl⟩ (fun hHeld => ?_)
     clear hK K
     refine no_ 19 ?_
     refine on_ HT_ 7 22 (bs 12 255) (fun K hK => ?_)
     refine goes_ Try.func87 (by kernel_rfl) rfl #[.int .i64 x12_1, .slice A1 l1.length c1] (by rfl) rfl rfl mp_ ?_
     with_reducible refine (impl_moved.calls k1 x12_1 _ _ l1 t339 _ ?side1 ?side2 A16.out).mono ?_
     (case side1 => exact cv_ (Kd.C_below HR1.out HB.out))
     (case side2 => exact HC1.out)
     rintro e w' ⟨rfl, ⟨nd, rfl⟩⟩
     refine ⟨_, rfl, ?_⟩
     refine hK.out _ _ ⟨(blk_cell BK336.out 0).trans rfl, (blk_cell BK336.out 1).trans rfl, (blk_cell BK334.out 0).trans rfl, (blk_cell BK334.out 1).trans rfl⟩ (fun hHeld => ?_)
     clear hK K
     refine no_ 22 ?_
     refine pu_ HT_ 8 23 (bs 12 511) ?_
     refine pu_ HT_ 9 24 (bs 12 1023) ?_
     refine pu_ HT_ 10 25 (bs 12 2047) ?_
     refine last_ (i := 11) (N := none) (bs 12 4095) rfl rfl (one_of HT_.out (by kernel_rfl)) (by decide) (fun K hK => ?_)
     have hs21 : w20.cell? ⟨gb336, 1, none⟩ = some (.int .i64 x337001_1) := (blk_cell BK336.out 1).trans rfl
     have hfs21 := blk_frozen BK336.out 1
     have hns21_0 := NB334_336.out
     have hns21_1 := NB335_336.out
     have hms21_0 := NB336_334.out
     have hms21_1 := NB336_335.out
     refine skip_ (w1 := ?_) (by rfl) rfl ?_ ?_
     rotate_left
     ·go_simp
      rfl
     refine hK.out _ _ ?_
     clear hK K
     refine done_ (done_of HT_.out (by kernel_rfl)) ?_
     try go_wp2
     go_roundg k1
     case measure => have := HK1.out; omega
     case rel => exact ⟨(wrap64 (x12_1 + 1)), (Go.bits .or .i64 x337001_1 (ji18)), (by first | rfl | (simp; done) | (simp [*]; done)), H', ⟨by have := HK1.out; omega⟩, ⟨by (with_reducible repeat (first | refine blk_drewN ?_ _ | refine blk_drew ?_ | refine blk_alloc ?_ _)); refine blk_far ?_ NB334_336.out _; (with_reducible repeat (first | refine blk_drewN ?_ _ | refine blk_drew ?_ | refine blk_alloc ?_ _)); exact BK334.out⟩, ⟨by (with_reducible repeat (first | refine blk_drewN ?_ _ | refine blk_drew ?_ | refine blk_alloc ?_ _)); refine blk_far ?_ NB335_336.out _; (with_reducible repeat (first | refine blk_drewN ?_ _ | refine blk_drew ?_ | refine blk_alloc ?_ _)); exact BK335.out⟩, ⟨by (with_reducible repeat (first | refine blk_drewN ?_ _ | refine blk_drew ?_ | refine blk_alloc ?_ _)); refine blk_put (cs := #[.int .i64 a0_0, .int .i64 x337001_1]) ?_ 1 _ rfl; (with_reducible repeat (first | refine blk_drewN ?_ _ | refine blk_drew ?_ | refine blk_alloc ?_ _)); exact BK336.out⟩, ⟨bv3_ HB GE334 GE335 GE336⟩⟩
    ·rw [if_neg c17] at H
     exact absurd H (by simp)
   ·rw [if_neg c14] at H
    have c14b0 : decide (x12_1 < t337) = false := decide_eq_false c14
    clear c14
    simp only [Option.some.injEq, Prod.mk.injEq] at H
    obtain ⟨rfl, rfl⟩ := H
    have hnb22 := NB336_334.out
    have hnc22 := NB334_336.out
    have hnb23 := NB336_335.out
    have hnc23 := NB335_336.out
    obtain ⟨hcz24_0, hcz24_1, hfz24_0, hfz24_1⟩ := c2_ BK336
    have hnb25 := NB335_334.out
    have hnc25 := NB334_335.out
    obtain ⟨hcz26_0, hcz26_1, hfz26_0, hfz26_1⟩ := c2_ BK335
    go_wp2
    refine bodyPost_ret (results_cell_row rfl _ _ gb335 25 #[.int .i64 a0_0, .int .i64 x337001_1] (0, 0) _ rfl (by (with_reducible repeat (first | refine blk_drewN ?_ _ | refine blk_drew ?_ | refine blk_alloc ?_ _)); refine blk_put (cs := #[.int .i64 a0_0, .int .i64 0]) ?_ 1 _ rfl; (with_reducible repeat (first | refine blk_drewN ?_ _ | refine blk_drew ?_ | refine blk_alloc ?_ _)); refine blk_put (cs := #[.int .i64 0, .int .i64 0]) ?_ 0 _ rfl; (with_reducible repeat (first | refine blk_drewN ?_ _ | refine blk_drew ?_ | refine blk_alloc ?_ _)); exact BK335.out) Try.underlying25 rfl (by kernel_rfl)) rfl ?_
    exact ⟨er_, bv3_ HB GE334 GE335 GE336⟩


/-! ### impl_makeTable: function 63 -/
/-- The word whose values a function tells. -/
def impl_makeTable.word (g : Nat → Bool) : Nat → Int
  | 0 => 0
  | x + 1 => if g x = true then Go.bits .or .i64 (impl_makeTable.word g x) (wrap64 ((2 : Int) ^ x)) else impl_makeTable.word g x
theorem impl_makeTable.w (x : Int) (h0 : 0 ≤ x) (h1 : x ≤ 32) : wrap64 x = x := by unfold wrap64; omega
theorem impl_makeTable.size {a : Int} (h : 0 ≤ a ∧ a ≤ 5) : ∃ N : Nat, wrap64 ((2 : Int) ^ a.toNat) = (N : Int) ∧ 2 ^ a.toNat = N ∧ N ≤ 32 := by
  rcases (by omega : a = 0 ∨ a = 1 ∨ a = 2 ∨ a = 3 ∨ a = 4 ∨ a = 5) with rfl | rfl | rfl | rfl | rfl | rfl
  · exact ⟨1, (congrArg wrap64 (show ((2 : Int) ^ (0 : Int).toNat) = 1 by decide)).trans (impl_makeTable.w _ (by omega) (by omega)), by decide, by omega⟩
  · exact ⟨2, (congrArg wrap64 (show ((2 : Int) ^ (1 : Int).toNat) = 2 by decide)).trans (impl_makeTable.w _ (by omega) (by omega)), by decide, by omega⟩
  · exact ⟨4, (congrArg wrap64 (show ((2 : Int) ^ (2 : Int).toNat) = 4 by decide)).trans (impl_makeTable.w _ (by omega) (by omega)), by decide, by omega⟩
  · exact ⟨8, (congrArg wrap64 (show ((2 : Int) ^ (3 : Int).toNat) = 8 by decide)).trans (impl_makeTable.w _ (by omega) (by omega)), by decide, by omega⟩
  · exact ⟨16, (congrArg wrap64 (show ((2 : Int) ^ (4 : Int).toNat) = 16 by decide)).trans (impl_makeTable.w _ (by omega) (by omega)), by decide, by omega⟩
  · exact ⟨32, (congrArg wrap64 (show ((2 : Int) ^ (5 : Int).toNat) = 32 by decide)).trans (impl_makeTable.w _ (by omega) (by omega)), by decide, by omega⟩
-- EACH closure's number
set_option maxHeartbeats 4000000 in
set_option maxRecDepth 100000 in
theorem impl_makeTable.calls88 (n : Int) (hn : 0 ≤ n ∧ n ≤ 5) (caps : Array Value) (g : Nat → Bool) (w : World)
    (hp : ∀ (W : World) (x : Nat), Below w.heap.size w W → x < 2 ^ n.toNat → Calls Try.prog 88 (#[.int .i64 (x : Int)] ++ caps) W fun e w' => e = .returned (.bool (g x)) ∧ Below W.heap.size W w') :
    Calls Try.prog 63 #[.int .i64 n, .func (.func 88) #[] caps] w fun e w' => e = .returned (.agg #[.int .i64 n, .int .i64 (impl_makeTable.word g (2 ^ n.toNat))]) ∧ Below w.heap.size w w' := by
  obtain ⟨N, hN, hN2, hN32⟩ := impl_makeTable.size hn
  rw [hN2] at hp ⊢
  have hu := Try.underlying25
  have HP := Aside0.mk hp
  clear hN2 hp
  go_enter Try.func63, Try.ntmps63
  go_wp2_with fail
  rw [hN]
  have HB := Aside0.mk ((((Below.refl w.heap.size w).alloc (Nat.le_refl _) (Obj.cells #[Value.int IntKind.i64 0, Value.int IntKind.i64 0] 25)).alloc (by simp) (Obj.cells #[Value.int IntKind.i64 n, Value.int IntKind.i64 0] 25)))
  have RK := Aside0.mk (blk_alloc (blk_new w (Obj.cells #[Value.int IntKind.i64 0, Value.int IntKind.i64 0] 25)) (Obj.cells #[Value.int IntKind.i64 n, Value.int IntKind.i64 0] 25))
  have BK := Aside0.mk (blk_new (w.alloc (Obj.cells #[Value.int IntKind.i64 0, Value.int IntKind.i64 0] 25)) (Obj.cells #[Value.int IntKind.i64 n, Value.int IntKind.i64 0] 25))
  rw [show (w.alloc (Obj.cells #[Value.int IntKind.i64 0, Value.int IntKind.i64 0] 25)).heap.size = w.heap.size + 1 by simp] at BK
  go_loopw [11] (fun v wr => ∃ i : Nat, i ≤ N ∧ v = .int .i64 (i : Int) ∧ Aside0 (wr.heap[w.heap.size]? = some (.cells #[.int .i64 0, .int .i64 0] 25 (0, 0))) ∧ Aside0 (wr.heap[w.heap.size + 1]? = some (.cells #[.int .i64 n, .int .i64 (impl_makeTable.word g i)] 25 (0, 0))) ∧ Aside0 (Below w.heap.size w wr)) (fun v _ => N - (intOf v).toNat)
  case atStart => exact ⟨0, Nat.zero_le _, rfl, RK, BK, HB⟩
  case round =>
    obtain ⟨i, hi, rfl, RK, BK, HB⟩ := hrel
    by_cases hlt : i < N
    · have hcall := HP.out wr i HB.out hlt
      replace hcall : Calls Try.prog 88 (#[.int .i64 (i : Int)] ++ caps) wr fun e w' => e = .returned (.bool (g i)) ∧ Below wr.heap.size wr w' := hcall
      cases hg : g i with
      | true =>
        rw [hg] at hcall
        have S1 := Aside0.mk (show impl_makeTable.word g (i + 1) = Go.bits .or .i64 (impl_makeTable.word g i) (wrap64 ((2 : Int) ^ i)) by simp only [impl_makeTable.word]; rw [if_pos hg])
        clear hg
        go_wp2_with (go_at_call 88; refine hcall.mono ?_; rintro e w2 ⟨rfl, hb2⟩)
        have RK2 := Aside0.mk (blk_below RK.out hb2)
        have BK2 := Aside0.mk (blk_below BK.out hb2)
        have HB2 := Aside0.mk (below_step HB.out hb2)
        clear hb2 RK BK HB hcall
        have k1 := (blk_cell BK2.out 1).trans rfl
        have f1 := blk_frozen BK2.out 1
        have hi0 : (0 : Int) ≤ (i : Int) := Int.natCast_nonneg i
        have hid : decide ((i : Int) < 0) = false := by simp
        go_region
        all_goals go_wp2
        all_goals go_roundw
        case rel => exact ⟨i + 1, by omega, by go_num, ⟨blk_drew (blk_far RK2.out (by simp) _)⟩, ⟨by rw [S1.out]; exact blk_drew (blk_put BK2.out 1 _ rfl)⟩, ⟨below_drew1 (below_set HB2.out (by omega))⟩⟩
        case measure => simp [intOf]; omega
      | false =>
        rw [hg] at hcall
        have S1 := Aside0.mk (show impl_makeTable.word g (i + 1) = impl_makeTable.word g i by simp only [impl_makeTable.word]; rw [if_neg (by rw [hg]; decide)])
        clear hg
        go_wp2_with (go_at_call 88; refine hcall.mono ?_; rintro e w2 ⟨rfl, hb2⟩)
        go_roundw
        case rel => exact ⟨i + 1, by omega, by go_num, ⟨blk_below RK.out hb2⟩, ⟨by rw [S1.out]; exact blk_below BK.out hb2⟩, ⟨below_step HB.out hb2⟩⟩
        case measure => simp [intOf]; omega
    · obtain rfl : i = N := by omega
      have k0 := (blk_cell BK.out 0).trans rfl
      have k1 := (blk_cell BK.out 1).trans rfl
      have r0 := (blk_cell RK.out 0).trans rfl
      have r1 := (blk_cell RK.out 1).trans rfl
      have f0 := blk_frozen RK.out 0
      have f1 := blk_frozen RK.out 1
      go_wp2
      refine bodyPost_ret (results_cell_row rfl _ _ w.heap.size 25 #[.int .i64 n, .int .i64 (impl_makeTable.word g i)] (0, 0) _ rfl (blk_put (cs := #[.int .i64 n, .int .i64 0]) (blk_put (cs := #[.int .i64 0, .int .i64 0]) RK.out 0 _ rfl) 1 _ rfl) hu rfl (by kernel_rfl)) rfl ?_
      exact ⟨rfl, below_set (below_set HB.out (by omega)) (by omega)⟩


/-! ### impl_Table_shift: function 71 -/
def impl_Table_shift.on (n W s : Int) (x : Nat) : Bool := (impl_Table_at.f n W (Go.bits .xor .i64 (x : Int) s)).getD 0 == 1
def impl_Table_shift.f (a0_0 a0_1 a1 : Int) : Option (Int × Int) :=
  if (0 ≤ a0_0 ∧ a0_0 ≤ 5) ∧ ((List.range (2 ^ a0_0.toNat)).all fun x => decide (0 ≤ Go.bits .xor .i64 (x : Int) a1)) = true then some (a0_0, impl_makeTable.word (impl_Table_shift.on a0_0 a0_1 a1) (2 ^ a0_0.toNat)) else none
set_option maxHeartbeats 4000000 in
set_option maxRecDepth 100000 in
theorem impl_Table_shift.in_calls (a0_0 a0_1 a1 : Int) (B1 B2 : Nat) (x : Nat) (hs : 0 ≤ Go.bits .xor .i64 (x : Int) a1) (W : World) (h1 : W.heap[B1]? = some (.cells #[.int .i64 a0_0, .int .i64 a0_1] 25 (0, 0))) (h2 : W.cell? ⟨B2, 0, none⟩ = some (.int .i64 a1)) :
    Calls Try.prog 88 #[.int .i64 (x : Int), .pointer (some ⟨B1, 0, none⟩), .pointer (some ⟨B2, 0, none⟩)] W fun e w' => e = .returned (.bool (impl_Table_shift.on a0_0 a0_1 a1 x)) ∧ Below W.heap.size W w' := by
  unfold impl_Table_shift.on
  obtain ⟨t, ht⟩ : ∃ t, impl_Table_at.f a0_0 a0_1 (Go.bits .xor .i64 (x : Int) a1) = some t := ⟨Go.bits .and .i64 (shr .i64 a0_1 (Go.bits .xor .i64 (x : Int) a1)) 1, by unfold impl_Table_at.f; rw [if_pos hs]⟩
  have A1 := Aside0.mk ht
  rw [ht, Option.getD_some]
  clear ht hs
  have hu := Try.underlying25
  have hc0 := blk_cell h1 0
  have hc1 := blk_cell h1 1
  replace hc0 : W.cell? ⟨B1, 0, none⟩ = some (.int .i64 a0_0) := hc0
  replace hc1 : W.cell? ⟨B1, 1, none⟩ = some (.int .i64 a0_1) := hc1
  clear h1
  go_enter Try.func88, Try.ntmps88
  go_wp2_with (first | (go_at_call 37; (with_reducible refine (impl_Table_at.calls a0_0 a0_1 _ _ _ A1.out).mono ?_); rintro e w2 ⟨rfl, hb2⟩))
  go_ret
  exact ⟨rfl, hb2⟩
set_option maxHeartbeats 4000000 in
set_option maxRecDepth 100000 in
theorem impl_Table_shift.calls (a0_0 a0_1 a1 r1 r2 : Int) (w : World) (h : impl_Table_shift.f a0_0 a0_1 a1 = some (r1, r2)) :
    Calls Try.prog 71 #[.agg #[.int .i64 a0_0, .int .i64 a0_1], .int .i64 a1] w fun e w' => e = .returned (.agg #[.int .i64 r1, .int .i64 r2]) ∧ Below w.heap.size w w' := by
  unfold impl_Table_shift.f at h
  by_cases hb : (0 ≤ a0_0 ∧ a0_0 ≤ 5) ∧ ((List.range (2 ^ a0_0.toNat)).all fun x => decide (0 ≤ Go.bits .xor .i64 (x : Int) a1)) = true
  case neg => rw [if_neg hb] at h; exact absurd h (by simp)
  rw [if_pos hb] at h
  simp only [Option.some.injEq, Prod.mk.injEq] at h
  obtain ⟨rfl, rfl⟩ := h
  obtain ⟨hb, hall⟩ := hb
  have hu := Try.underlying25
  have s1 : (w.alloc (Obj.cells #[Value.int IntKind.i64 a0_0, Value.int IntKind.i64 a0_1] 25)).heap.size = w.heap.size + 1 := by simp
  have F1 := blk_alloc (blk_alloc (blk_new w (Obj.cells #[Value.int IntKind.i64 a0_0, Value.int IntKind.i64 a0_1] 25)) (Obj.cells #[Value.int IntKind.i64 a1] 3)) (Obj.cells #[Value.int IntKind.i64 0, Value.int IntKind.i64 0] 25)
  have F2 := blk_alloc (blk_new (w.alloc (Obj.cells #[Value.int IntKind.i64 a0_0, Value.int IntKind.i64 a0_1] 25)) (Obj.cells #[Value.int IntKind.i64 a1] 3)) (Obj.cells #[Value.int IntKind.i64 0, Value.int IntKind.i64 0] 25)
  rw [s1] at F2
  have hcall := impl_makeTable.calls88 a0_0 hb #[.pointer (some ⟨w.heap.size, 0, none⟩), .pointer (some ⟨w.heap.size + 1, 0, none⟩)] (impl_Table_shift.on a0_0 a0_1 a1) (((w.alloc (Obj.cells #[Value.int IntKind.i64 a0_0, Value.int IntKind.i64 a0_1] 25)).alloc (Obj.cells #[Value.int IntKind.i64 a1] 3)).alloc (Obj.cells #[Value.int IntKind.i64 0, Value.int IntKind.i64 0] 25))
    (fun W x hW hx => impl_Table_shift.in_calls a0_0 a0_1 a1 w.heap.size (w.heap.size + 1) x (of_decide_eq_true (List.all_eq_true.mp hall x (List.mem_range.mpr hx))) W (blk_below F1 hW) ((blk_cell (blk_below F2 hW) 0).trans rfl))
  generalize impl_makeTable.word (impl_Table_shift.on a0_0 a0_1 a1) (2 ^ a0_0.toNat) = r at hcall ⊢
  clear F1 F2 s1 hall hb
  go_enter Try.func71, Try.ntmps71
  go_wp2_with (go_at_call 63; refine hcall.mono ?_; rintro e w1 ⟨rfl, hb1⟩; have RK := Aside0.mk (blk_below (blk_new ((w.alloc (Obj.cells #[Value.int IntKind.i64 a0_0, Value.int IntKind.i64 a0_1] 25)).alloc (Obj.cells #[Value.int IntKind.i64 a1] 3)) (Obj.cells #[Value.int IntKind.i64 0, Value.int IntKind.i64 0] 25)) hb1); rw [show ((w.alloc (Obj.cells #[Value.int IntKind.i64 a0_0, Value.int IntKind.i64 a0_1] 25)).alloc (Obj.cells #[Value.int IntKind.i64 a1] 3)).heap.size = w.heap.size + 2 by simp] at RK; have k0 := (blk_cell RK.out 0).trans rfl; have k1 := (blk_cell RK.out 1).trans rfl; have f0 := blk_frozen RK.out 0; have f1 := blk_frozen RK.out 1)
  refine bodyPost_ret (results_cell_row rfl _ _ (w.heap.size + 2) 25 #[.int .i64 a0_0, .int .i64 r] (0, 0) _ rfl (blk_put (cs := #[.int .i64 a0_0, .int .i64 0]) (blk_put (cs := #[.int .i64 0, .int .i64 0]) RK.out 0 _ rfl) 1 _ rfl) hu rfl (by kernel_rfl)) rfl ?_
  exact ⟨rfl, below_set (below_set (((((Below.refl w.heap.size w).alloc (Nat.le_refl _) (Obj.cells #[Value.int IntKind.i64 a0_0, Value.int IntKind.i64 a0_1] 25)).alloc (by first | (simp; done) | (simp; omega)) (Obj.cells #[Value.int IntKind.i64 a1] 3)).alloc (by first | (simp; done) | (simp; omega)) (Obj.cells #[Value.int IntKind.i64 0, Value.int IntKind.i64 0] 25)).trans (hb1.mono (by simp; omega))) (by omega)) (by omega)⟩


/-! ### impl_Table_not: function 72 -/
def impl_Table_not.f (a0_0 : Int) (a0_1 : Int) : Option (Int × Int) := (impl_Table_size.f a0_0 a0_1).bind fun t442 => (if 0 ≤ t442 then (some (a0_0, Go.bits .xor .i64 a0_1 (wrap64 ((shl .i64 1 t442) - 1)))) else (none))
def impl_Table_not.T1 : Bool × List (List Nat × List Nat) := (true, [([], []), ([0], [0]), ([], []), ([2], [2]), ([], []), ([4], [4]), ([5], [5]), ([6], [6]), ([3, 7], [3, 7]), ([1, 8], [1, 8]), ([9, 5, 0, 1, 2, 3, 4, 5, 6, 7, 8, 9], [9])])
def impl_Table_not.B1 : List Nat := [0, 1, 0, 4, 0, 16, 48, 112, 252, 511, 1023]
theorem impl_Table_not.tab1 : rtab .any (opsOf Try.f72 1) = impl_Table_not.T1 := by kernel_rfl
theorem impl_Table_not.bits1 : waitsOk impl_Table_not.T1.2 impl_Table_not.B1 = true := by kernel_rfl
set_option maxHeartbeats 8000000 in
set_option maxRecDepth 100000 in
theorem impl_Table_not.calls (a0_0 : Int) (a0_1 : Int) (r1 : Int) (r2 : Int) (w : World) (h : impl_Table_not.f a0_0 a0_1 = some (r1, r2)) :
  Calls Try.prog 72 #[.agg #[.int .i64 a0_0, .int .i64 a0_1]] w fun e w' => e = .returned (.agg #[.int .i64 r1, .int .i64 r2]) ∧ Below w.heap.size w w' := by
 have hu25 := Try.underlying25
 have HB := Aside0.mk (Below.refl w.heap.size w)
 have H : ((impl_Table_size.f a0_0 a0_1).bind fun t442 => (if 0 ≤ t442 then (some (a0_0, Go.bits .xor .i64 a0_1 (wrap64 ((shl .i64 1 t442) - 1)))) else (none))) = some (r1, r2) := h
 clear h
 replace H := Option.bind_eq_some_iff.mp H
 obtain ⟨t442, A20, H⟩ := H
 have A2 := Aside0.mk A20
 clear A20
 by_cases c3 : 0 ≤ t442
 ·rw [if_pos c3] at H
  have c3b0 := eq_true c3
  have c3b1 : decide (0 ≤ t442) = true := decide_eq_true c3
  clear c3
  obtain ⟨ji4, hji4⟩ : ∃ j_ : Int, (shl .i64 1 t442) = j_ := ⟨_, rfl⟩
  replace H : (some (a0_0, Go.bits .xor .i64 a0_1 (wrap64 ((ji4) - 1)))) = some (r1, r2) := by first | (rw [hji4] at H; exact H) | (simp only [hji4] at H ⊢; exact H)
  (try rw [hji4] at A2)
  have hji4_ : (IntKind.i64.wrap (1 * 2 ^ min t442.toNat 64)) = ji4 := hji4
  have hji4z : t442 ≤ 64 → (IntKind.i64.wrap (1 * 2 ^ t442.toNat)) = ji4 := shl_small hji4
  have hji4u : (IntKind.i64.wrap (2 ^ min t442.toNat 64)) = ji4 := by have h_ := hji4_; rw [Int.one_mul] at h_; exact h_
  have hji4v : t442 ≤ 64 → (IntKind.i64.wrap (2 ^ t442.toNat)) = ji4 := fun hle_ => by have h_ := hji4z hle_; rw [Int.one_mul] at h_; exact h_
  have hji4y : (wrap64 (1 * 2 ^ min t442.toNat 64)) = ji4 := (i64_w _).symm.trans hji4_
  have hji4x : t442 ≤ 64 → (wrap64 (1 * 2 ^ t442.toNat)) = ji4 := fun h_ => (i64_w _).symm.trans (hji4z h_)
  simp only [Option.some.injEq, Prod.mk.injEq] at H
  obtain ⟨rfl, rfl⟩ := H
  go_enter Try.func72, Try.ntmps72
  try go_wp2_with (first | ((with_reducible refine gate_dst (N := 1) rfl ?_); refine bx_ 1 #[.int .i64 a0_0, .int .i64 a0_1] 25 ?_; intro gb440 hg w5 hbox hb; have BK440 := Aside0.mk (hbox); have GW440 := gw_ hg (below_size (bv_ HB)); have GE440 := GW440; replace HB := Aside0.mk (below_step (bv_ HB) hb); clear hb hbox hg) | ((with_reducible refine gate_dst (N := 2) rfl ?_); refine bx_ 2 #[.int .i64 0, .int .i64 0] 25 ?_; intro gb441 hg w6 hbox hb; have BK441 := Aside0.mk (hbox); have GW441 := gw_ hg (below_size (bv1_ HB GE440)); have GE441 := GW441; replace HB := Aside0.mk (below_step (bv1_ HB GE440) hb); have NB440_441 := nb_ hg (blk_lt (g := gb440) (o := .cells #[.int .i64 a0_0, .int .i64 a0_1] 25 (0, 0)) (kv_ BK440)); have NB441_440 := nc_ hg (blk_lt (g := gb440) (o := .cells #[.int .i64 a0_0, .int .i64 a0_1] 25 (0, 0)) (kv_ BK440)); replace BK440 := kb_ BK440 hb; clear hb hbox hg))
  replace BK440 := Aside0.mk (blk_drew BK440.out)
  replace BK441 := Aside0.mk (blk_drew BK441.out)
  replace HB := Aside0.mk (below_drew1 HB.out)
  refine start_ (n := 11) (S := fun w' => w'.cell? ⟨gb440, 0, none⟩ = some (.int .i64 a0_0) ∧ w'.cell? ⟨gb440, 1, none⟩ = some (.int .i64 a0_1)) (ds := []) (bs 11 0) (by kernel_rfl) rfl (by kernel_rfl) ⟨(blk_cell BK440.out 0).trans rfl, (blk_cell BK440.out 1).trans rfl⟩ (fun hHeld => ?_); refine with_tabW impl_Table_not.tab1 impl_Table_not.bits1 (fun HT_ HW_ => ?_)
  generalize w6.drew = w7 at BK440 BK441 HB hHeld ⊢
  refine pu_ HT_ 0 3 (bs 11 1) ?_
  refine pu_ HT_ 2 5 (bs 11 5) ?_
  refine ta2_ HT_ HW_ 1 4 (bs 11 7) hHeld ?_
  refine ta2_ HT_ HW_ 3 6 (bs 11 15) hHeld ?_
  refine ta2_ HT_ HW_ 4 7 (bs 11 31) hHeld ?_
  refine on_ HT_ 5 8 (bs 11 63) (fun K hK => ?_)
  refine goes_ Try.func36 (by kernel_rfl) rfl #[.agg #[.int .i64 a0_0, .int .i64 a0_1]] (by rfl) rfl rfl mp_ ?_
  with_reducible refine (impl_Table_size.calls a0_0 a0_1 t442 _ A2.out).mono ?_
  rintro e w8 ⟨rfl, hb⟩
  refine ⟨_, rfl, ?_⟩
  replace BK440 := kb_ BK440 hb
  replace BK441 := kb_ BK441 hb
  replace HB := Aside0.mk (below_step (bv2_ HB GE440 GE441) hb)
  (try clear hb)
  (try clear hb2)
  (try clear hk)
  (try clear hi)
  refine hK.out _ _ ⟨(blk_cell BK440.out 0).trans rfl, (blk_cell BK440.out 1).trans rfl⟩ (fun hHeld => ?_)
  clear hK K
  refine no_ 8 ?_
  refine pu_ HT_ 6 9 (bs 11 127) ?_
  refine pu_ HT_ 7 10 (bs 11 255) ?_
  refine pu_ HT_ 8 11 (bs 11 511) ?_
  refine pu_ HT_ 9 12 (bs 11 1023) ?_
  refine one_ (i := 10) (N := none) (bs 11 2047) rfl rfl (one_of HT_.out (by kernel_rfl)) (by decide) (fun K hK => ?_)
  have hs9 : w8.cell? ⟨gb441, 0, none⟩ = some (.int .i64 0) := (blk_cell BK441.out 0).trans rfl
  have hfs9 := blk_frozen BK441.out 0
  have hns9_0 := NB440_441.out
  have hms9_0 := NB441_440.out
  have hs10 : w8.cell? ⟨gb441, 1, none⟩ = some (.int .i64 0) := (blk_cell BK441.out 1).trans rfl
  have hfs10 := blk_frozen BK441.out 1
  have hns10_0 := NB440_441.out
  have hms10_0 := NB441_440.out
  refine skip_ (w1 := ?_) (by rfl) rfl ?_ ?_
  rotate_left
  ·go_simp
   rfl
  refine hK.out _ _ ⟨((cell_far (p := ⟨gb441, _, none⟩) NB440_441.out _).trans (((cell_far (p := ⟨gb441, _, none⟩) NB440_441.out _).trans (hHeld.1)))), ((cell_far (p := ⟨gb441, _, none⟩) NB440_441.out _).trans (((cell_far (p := ⟨gb441, _, none⟩) NB440_441.out _).trans (hHeld.2))))⟩ (fun hHeld => ?_)
  clear hK K
  refine done_ (done_of HT_.out (by kernel_rfl)) ?_
  try go_wp2
  refine bodyPost_ret (results_cell_row rfl _ _ gb441 25 #[.int .i64 a0_0, .int .i64 (Go.bits .xor .i64 a0_1 (wrap64 ((ji4) - 1)))] (0, 0) _ rfl (by (with_reducible repeat (first | refine blk_drewN ?_ _ | refine blk_drew ?_ | refine blk_alloc ?_ _)); refine blk_put (cs := #[.int .i64 a0_0, .int .i64 0]) ?_ 1 _ rfl; (with_reducible repeat (first | refine blk_drewN ?_ _ | refine blk_drew ?_ | refine blk_alloc ?_ _)); refine blk_put (cs := #[.int .i64 0, .int .i64 0]) ?_ 0 _ rfl; (with_reducible repeat (first | refine blk_drewN ?_ _ | refine blk_drew ?_ | refine blk_alloc ?_ _)); exact BK441.out) Try.underlying25 rfl (by kernel_rfl)) rfl ?_
  exact ⟨by first | rfl | (simp [errW_none, errW_some] <;> rfl) | (simp only [← hji4]; first | rfl | (simp [errW_none, errW_some] <;> rfl)) | (simp [*, errW_none, errW_some] <;> rfl), bv2_ HB GE440 GE441⟩
 ·rw [if_neg c3] at H
  exact absurd H (by simp)


end Go.Proofs.Yteljkpglgjjnlaa.P
