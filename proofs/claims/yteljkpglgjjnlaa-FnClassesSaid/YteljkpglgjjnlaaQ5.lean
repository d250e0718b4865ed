-- Out of the translation, by this session's program over the printer's; Lean checks it.
import Derived.Test.YteljkpglgjjnlaaSh
import Derived.Test.YteljkpglgjjnlaaQ0
import Derived.Test.YteljkpglgjjnlaaQ4
namespace Go.Proofs.Yteljkpglgjjnlaa.P
open Go.RowKit Go.Proofs.YteljkpglgjjnlaaW.PrintWords Go.Proofs.YteljkpglgjjnlaaW.PrintLast Go.Proofs.YteljkpglgjjnlaaW.PrintMore
attribute [local go_sem] max2_int min2_int max_two min_two max_three min_three max_four min_four
set_option linter.unusedVariables false
set_option linter.unusedSimpArgs false

/-! ### impl_Table_permute: function 70 -/
def impl_Table_permute.l0 : Nat → List Int → Int → Int → Int → Int → Int → Int → Option (Int × Int)
 | 0, _, _, _, _, _, _, _ => none
 | k + 1, x1, x11, x12, x335000, x335001, x337000, x337001 => if x12 < x11 then ((impl_Table_at.f x335000 x335001 x12).bind fun t338 => ((impl_moved.f k x12 x1).bind fun t339 => (if 0 ≤ t339 then (impl_Table_permute.l0 k x1 x11 (wrap64 (x12 + 1)) x335000 x335001 x337000 (Go.bits .or .i64 x337001 (shl .i64 t338 t339))) else (none)))) else (some (x337000, x337001))
def impl_Table_permute.f (k : Nat) (a0_0 : Int) (a0_1 : Int) (l1 : List Int) : Option (Int × Int) := (impl_Table_size.f a0_0 a0_1).bind fun t337 => (impl_Table_permute.l0 k l1 t337 0 a0_0 a0_1 a0_0 0)
theorem impl_Table_permute.mono_l : ∀ k, (∀ y0 y1 y2 y3 y4 y5 y6, LeO (impl_Table_permute.l0 k y0 y1 y2 y3 y4 y5 y6) (impl_Table_permute.l0 (k + 1) y0 y1 y2 y3 y4 y5 y6))
 | 0 => fun _ _ _ _ _ _ _ r h => by simp [impl_Table_permute.l0] at h
 | k + 1 => by
  have ih0 := impl_Table_permute.mono_l k
  ·intro y0 y1 y2 y3 y4 y5 y6
   unfold impl_Table_permute.l0
   repeat' first
   | (with_reducible exact ih0 _ _ _ _ _ _ _)
   | (with_reducible exact impl_moved.mono _ _ _)
   | (with_reducible exact LeO.refl _)
   | (with_reducible exact LeO.none _)
   | (with_reducible refine LeO.ite ?_ ?_)
   | (with_reducible refine LeO.bind ?_ (fun _ => ?_))
   | exact ih0 _ _ _ _ _ _ _
   | exact impl_moved.mono _ _ _
   | exact LeO.none _
   | refine LeO.ite ?_ ?_
   | refine LeO.bind ?_ (fun _ => ?_)
theorem impl_Table_permute.mono : ∀ a0 a1 a2 k, LeO (impl_Table_permute.f k a0 a1 a2) (impl_Table_permute.f (k + 1) a0 a1 a2) := by
 intro a0 a1 a2 k
 have ih0 := impl_Table_permute.mono_l k
 unfold impl_Table_permute.f
 repeat' first
   | (with_reducible exact ih0 _ _ _ _ _ _ _)
   | (with_reducible exact impl_moved.mono _ _ _)
   | (with_reducible exact LeO.refl _)
   | (with_reducible exact LeO.none _)
   | (with_reducible refine LeO.ite ?_ ?_)
   | (with_reducible refine LeO.bind ?_ (fun _ => ?_))
   | exact ih0 _ _ _ _ _ _ _
   | exact impl_moved.mono _ _ _
   | exact LeO.none _
   | refine LeO.ite ?_ ?_
   | refine LeO.bind ?_ (fun _ => ?_)
def impl_Table_permute.T5 : Bool × List (List Nat × List Nat) := (true, [([], []), ([0], [0]), ([], []), ([], []), ([2, 3], [2, 3]), ([], []), ([], []), ([5, 6, 4], [5, 6]), ([4, 7], [4, 7]), ([1, 8], [1, 8]), ([0, 1, 2, 3, 4, 5, 6, 7, 8, 9], []), ([10, 9, 7, 0, 1, 2, 3, 4, 5, 6, 7, 8, 9], [9, 10])])
def impl_Table_permute.B5 : List Nat := [0, 1, 0, 0, 12, 0, 0, 124, 252, 511, 1023, 2047]
theorem impl_Table_permute.tab5 : rtab .any (opsOf Try.f70 5) = impl_Table_permute.T5 := by kernel_rfl
theorem impl_Table_permute.bits5 : waitsOk impl_Table_permute.T5.2 impl_Table_permute.B5 = true := by kernel_rfl
set_option maxHeartbeats 8000000 in
set_option maxRecDepth 100000 in
theorem impl_Table_permute.calls (k : Nat) (a0_0 : Int) (a0_1 : Int) (A1 : Option Addr) (c1 : Nat) (l1 : List Int) (r1 : Int) (r2 : Int) (w : World) (hr1 : Kd.C (Kd.int .i64) w A1 l1.length l1) (hc1 : l1.length ≤ c1) (h : impl_Table_permute.f k a0_0 a0_1 l1 = some (r1, r2)) :
  Calls Try.prog 70 #[.agg #[.int .i64 a0_0, .int .i64 a0_1], .slice A1 l1.length c1] w fun e w' => e = .returned (.agg #[.int .i64 r1, .int .i64 r2]) ∧ Below w.heap.size w w' := by
 have hu25 := Try.underlying25
 have HR1 := Aside0.mk hr1
 have HC1 := Aside0.mk hc1
 clear hr1 hc1
 have HB := Aside0.mk (Below.refl w.heap.size w)
 have H : ((impl_Table_size.f a0_0 a0_1).bind fun t337 => (impl_Table_permute.l0 k l1 t337 0 a0_0 a0_1 a0_0 0)) = some (r1, r2) := h
 clear h
 replace H := Option.bind_eq_some_iff.mp H
 obtain ⟨t337, A30, H⟩ := H
 have A3 := Aside0.mk A30
 clear A30
 have H' := Aside0.mk H
 clear H
 go_enter Try.func70, Try.ntmps70
 go_wp2_with (first | ((with_reducible refine gate_dst (N := 2) rfl ?_); refine bx_ 2 #[.int .i64 a0_0, .int .i64 a0_1] 25 ?_; intro gb334 hg w4 hbox hb; have BK334 := Aside0.mk (hbox); have GW334 := gw_ hg (below_size (bv_ HB)); have GE334 := GW334; replace HB := Aside0.mk (below_step (bv_ HB) hb); clear hb hbox hg) | ((with_reducible refine gate_dst (N := 4) rfl ?_); refine bx_ 4 #[.int .i64 0, .int .i64 0] 25 ?_; intro gb335 hg w5 hbox hb; have BK335 := Aside0.mk (hbox); have GW335 := gw_ hg (below_size (bv1_ HB GE334)); have GE335 := GW335; replace HB := Aside0.mk (below_step (bv1_ HB GE334) hb); have NB334_335 := nb_ hg (blk_lt (g := gb334) (o := .cells #[.int .i64 a0_0, .int .i64 a0_1] 25 (0, 0)) (kv_ BK334)); have NB335_334 := nc_ hg (blk_lt (g := gb334) (o := .cells #[.int .i64 a0_0, .int .i64 a0_1] 25 (0, 0)) (kv_ BK334)); replace BK334 := kb_ BK334 hb; clear hb hbox hg; have hnb6 := NB334_335.out; have hnc6 := NB335_334.out; obtain ⟨hcz7_0, hcz7_1, hfz7_0, hfz7_1⟩ := c2_ BK334) | ((with_reducible refine gate_dst (N := 5) rfl ?_); refine bx_ 5 #[.int .i64 0, .int .i64 0] 25 ?_; intro gb336 hg w8 hbox hb; have BK336 := Aside0.mk (hbox); have GW336 := gw_ hg (below_size (bv2_ HB GE334 GE335)); have GE336 := GW336; replace HB := Aside0.mk (below_step (bv2_ HB GE334 GE335) hb); have NB334_336 := nb_ hg (blk_lt (g := gb334) (o := .cells #[.int .i64 a0_0, .int .i64 a0_1] 25 (0, 0)) (kv_ BK334)); have NB336_334 := nc_ hg (blk_lt (g := gb334) (o := .cells #[.int .i64 a0_0, .int .i64 a0_1] 25 (0, 0)) (kv_ BK334)); replace BK334 := kb_ BK334 hb; have NB335_336 := nb_ hg (blk_lt (g := gb335) (o := .cells #[.int .i64 0, .int .i64 0] 25 (0, 0)) (kv_ BK335)); have NB336_335 := nc_ hg (blk_lt (g := gb335) (o := .cells #[.int .i64 0, .int .i64 0] 25 (0, 0)) (kv_ BK335)); replace BK335 := kb_ BK335 hb; clear hb hbox hg; have hnb9 := NB336_334.out; have hnc9 := NB334_336.out; have hnb10 := NB336_335.out; have hnc10 := NB335_336.out; obtain ⟨hcz11_0, hcz11_1, hfz11_0, hfz11_1⟩ := c2_ BK336; obtain ⟨hcz12_0, hcz12_1, hfz12_0, hfz12_1⟩ := c2_ BK334) | ((with_reducible refine gate_callee (f := 36) rfl ?_); refine gl_ 11 Try.func36 #[.agg #[.int .i64 a0_0, .int .i64 a0_1]] rfl mp_ ?_; (with_reducible refine (impl_Table_size.calls a0_0 a0_1 t337 _ A3.out).mono ?_); rintro e w13 ⟨rfl, hb⟩; refine ⟨_, rfl, ?_⟩; replace BK334 := Aside0.mk (blk_below (g := gb334) (o := .cells #[.int .i64 a0_0, .int .i64 a0_1] 25 (0, 0)) (by (with_reducible repeat (first | refine blk_drewN ?_ _ | refine blk_drew ?_ | refine blk_alloc ?_ _)); refine blk_far ?_ NB334_336.out _; (with_reducible repeat (first | refine blk_drewN ?_ _ | refine blk_drew ?_ | refine blk_alloc ?_ _)); refine blk_far ?_ NB334_336.out _; (with_reducible repeat (first | refine blk_drewN ?_ _ | refine blk_drew ?_ | refine blk_alloc ?_ _)); exact BK334.out) hb); replace BK335 := Aside0.mk (blk_below (g := gb335) (o := .cells #[.int .i64 0, .int .i64 0] 25 (0, 0)) (by (with_reducible repeat (first | refine blk_drewN ?_ _ | refine blk_drew ?_ | refine blk_alloc ?_ _)); refine blk_far ?_ NB335_336.out _; (with_reducible repeat (first | refine blk_drewN ?_ _ | refine blk_drew ?_ | refine blk_alloc ?_ _)); refine blk_far ?_ NB335_336.out _; (with_reducible repeat (first | refine blk_drewN ?_ _ | refine blk_drew ?_ | refine blk_alloc ?_ _)); exact BK335.out) hb); replace BK336 := Aside0.mk (blk_below (g := gb336) (o := .cells #[.int .i64 a0_0, .int .i64 0] 25 (0, 0)) (by (with_reducible repeat (first | refine blk_drewN ?_ _ | refine blk_drew ?_ | refine blk_alloc ?_ _)); refine blk_put (cs := #[.int .i64 a0_0, .int .i64 0]) ?_ 1 _ rfl; (with_reducible repeat (first | refine blk_drewN ?_ _ | refine blk_drew ?_ | refine blk_alloc ?_ _)); refine blk_put (cs := #[.int .i64 0, .int .i64 0]) ?_ 0 _ rfl; (with_reducible repeat (first | refine blk_drewN ?_ _ | refine blk_drew ?_ | refine blk_alloc ?_ _)); exact BK336.out) hb); replace HB := Aside0.mk (below_step (bv3_ HB GE334 GE335 GE336) hb); (try clear hb); (try clear hb2); (try clear hk); (try clear hi)))
 go_loopg [12] k (fun kq v12 w' => ∃ (x12_1 : Int) (x337001_1 : Int), v12 = .int .i64 x12_1 ∧ Aside0 (impl_Table_permute.l0 kq l1 t337 x12_1 a0_0 a0_1 a0_0 x337001_1 = some (r1, r2)) ∧ Aside0 (kq ≤ k) ∧ Aside0 (w'.heap[gb334]? = some (.cells #[.int .i64 a0_0, .int .i64 a0_1] 25 (0, 0))) ∧ Aside0 (w'.heap[gb335]? = some (.cells #[.int .i64 0, .int .i64 0] 25 (0, 0))) ∧ Aside0 (w'.heap[gb336]? = some (.cells #[.int .i64 a0_0, .int .i64 x337001_1] 25 (0, 0))) ∧ Aside0 (Below w.heap.size w w'))
 case atStart => exact ⟨(0), (0), (by first | rfl | (simp; done) | (simp [*]; done)), H', ⟨Nat.le_refl _⟩, ⟨by (with_reducible repeat (first | refine blk_drewN ?_ _ | refine blk_drew ?_ | refine blk_alloc ?_ _)); exact BK334.out⟩, ⟨by (with_reducible repeat (first | refine blk_drewN ?_ _ | refine blk_drew ?_ | refine blk_alloc ?_ _)); exact BK335.out⟩, ⟨by (with_reducible repeat (first | refine blk_drewN ?_ _ | refine blk_drew ?_ | refine blk_alloc ?_ _)); exact BK336.out⟩, ⟨bv3_ HB GE334 GE335 GE336⟩⟩
 case round =>
  clear H'
  try clear c1
  try clear p2
  try clear c3
  try clear c6
  try clear c7
  try clear c9
  try clear c10
  try clear hcz11_0
  try clear hcz11_1
  try clear hcz12_0
  try clear hcz12_1
  try clear hcz7_0
  try clear hcz7_1
  try clear hfz11_0
  try clear hfz11_1
  try clear hfz12_0
  try clear hfz12_1
  try clear hfz7_0
  try clear hfz7_1
  obtain ⟨x12_1, x337001_1, rfl, HA, HK1, BK334, BK335, BK336, HB⟩ := hrel
  cases gk with
  | zero => exact absurd HA.out (by simp [impl_Table_permute.l0])
  | succ k1 =>
   have H := HA.out
   clear HA
   simp only [impl_Table_permute.l0] at H
   by_cases c14 : x12_1 < t337
   ·rw [if_pos c14] at H
    have c14b0 : decide (x12_1 < t337) = true := decide_eq_true c14
    clear c14
    replace H := Option.bind_eq_some_iff.mp H
    obtain ⟨t338, A150, H⟩ := H
    have A15 := Aside0.mk A150
    clear A150
    replace H := Option.bind_eq_some_iff.mp H
    obtain ⟨t339, A160, H⟩ := H
    have A16 := Aside0.mk A160
    clear A160
    by_cases c17 : 0 ≤ t339
    ·rw [if_pos c17] at H
     have c17b0 := eq_true c17
     have c17b1 : decide (0 ≤ t339) = true := decide_eq_true c17
     clear c17
     obtain ⟨ji18, hji18⟩ : ∃ j_ : Int, (shl .i64 t338 t339) = j_ := ⟨_, rfl⟩
     replace H : (impl_Table_permute.l0 k1 l1 t337 (wrap64 (x12_1 + 1)) a0_0 a0_1 a0_0 (Go.bits .or .i64 x337001_1 (ji18))) = some (r1, r2) := by first | (rw [hji18] at H; exact H) | (simp only [hji18] at H ⊢; exact H)
     (try rw [hji18] at A15)
     (try rw [hji18] at A16)
     have hji18_ : (IntKind.i64.wrap (t338 * 2 ^ min t339.toNat 64)) = ji18 := hji18
     have hji18z : t339 ≤ 64 → (IntKind.i64.wrap (t338 * 2 ^ t339.toNat)) = ji18 := shl_small hji18
     have hji18y : (wrap64 (t338 * 2 ^ min t339.toNat 64)) = ji18 := (i64_w _).symm.trans hji18_
     have hji18x : t339 ≤ 64 → (wrap64 (t338 * 2 ^ t339.toNat)) = ji18 := fun h_ => (i64_w _).symm.trans (hji18z h_)
     have H' := Aside0.mk H
     clear H
     try go_wp2
     replace BK334 := Aside0.mk (blk_drew BK334.out)
     replace BK335 := Aside0.mk (blk_drew BK335.out)
     replace BK336 := Aside0.mk (blk_drew BK336.out)
     replace HB := Aside0.mk (below_drew1 HB.out)
     refine start_ (n := 12) (S := fun w' => w'.cell? ⟨gb336, 0, none⟩ = some (.int .i64 a0_0) ∧ w'.cell? ⟨gb336, 1, none⟩ = some (.int .i64 x337001_1) ∧ w'.cell? ⟨gb334, 0, none⟩ = some (.int .i64 a0_0) ∧ w'.cell? ⟨gb334, 1, none⟩ = some (.int .i64 a0_1)) (ds := [11]) (bs 12 0) (by kernel_rfl) rfl (by kernel_rfl) ⟨(blk_cell BK336.out 0).trans rfl, (blk_cell BK336.out 1).trans rfl, (blk_cell BK334.out 0).trans rfl, (blk_cell BK334.out 1).trans rfl⟩ (fun hHeld => ?_); refine with_tabW impl_Table_permute.tab5 impl_Table_permute.bits5 (fun HT_ HW_ => ?_)
     generalize wr.drew = w19 at BK334 BK335 BK336 HB hHeld ⊢
     refine pu_ HT_ 0 15 (bs 12 1) ?_
     refine pu_ HT_ 3 18 (bs 12 9) ?_
     refine pu_ HT_ 5 20 (bs 12 41) ?_
     refine pu_ HT_ 6 21 (bs 12 105) ?_
     refine ta4_ HT_ HW_ 1 16 (bs 12 107) hHeld ?_
     refine ta4_ HT_ HW_ 2 17 (bs 12 111) hHeld ?_
     refine on_ HT_ 4 19 (bs 12 127) (fun K hK => ?_)
     refine goes_ Try.func37 (by kernel_rfl) rfl #[.agg #[.int .i64 a0_0, .int .i64 a0_1], .int .i64 x12_1] (by rfl) rfl rfl mp_ ?_
     with_reducible refine (impl_Table_at.calls a0_0 a0_1 x12_1 t338 _ A15.out).mono ?_
     rintro e w20 ⟨rfl, hb⟩
     refine ⟨_, rfl, ?_⟩
     replace BK334 := kb_ BK334 hb
     replace BK335 := kb_ BK335 hb
     replace BK336 := kb_ BK336 hb
     replace HB := Aside0.mk (below_step (bv3_ HB GE334 GE335 GE336) hb)
     (try clear hb)
     (try clear hb2)
     (try clear hk)
     (try clear hi)
     refine hK.out _ _ ⟨(blk_cell BK336.out 0).trans rfl, (blk_cell BK336.out 1).trans rfl, (blk_cell BK334.out 0).trans rfl, (blk_cell BK334.out 1).trans rfl⟩ (fun hHeld => ?_)
     clear hK K
     refine no_ 19 ?_
     refine on_ HT_ 7 22 (bs 12 255) (fun K hK => ?_)
     refine goes_ Try.func87 (by kernel_rfl) rfl #[.int .i64 x12_1, .slice A1 l1.length c1] (by rfl) rfl rfl mp_ ?_
     with_reducible refine (impl_moved.calls k1 x12_1 _ _ l1 t339 _ ?side1 ?side2 A16.out).mono ?_
     (case side1 => exact cv_ (Kd.C_below HR1.out HB.out))
     (case side2 => exact HC1.out)
     rintro e w' ⟨rfl, ⟨nd, rfl⟩⟩
     refine ⟨_, rfl, ?_⟩
     refine hK.out _ _ ⟨(blk_cell BK336.out 0).trans rfl, (blk_cell BK336.out 1).trans rfl, (blk_cell BK334.out 0).trans rfl, (blk_cell BK334.out 1).trans rfl⟩ (fun hHeld => ?_)
     clear hK K
     refine no_ 22 ?_
     refine pu_ HT_ 8 23 (bs 12 511) ?_
     refine pu_ HT_ 9 24 (bs 12 1023) ?_
     refine pu_ HT_ 10 25 (bs 12 2047) ?_
     refine last_ (i := 11) (N := none) (bs 12 4095) rfl rfl (one_of HT_.out (by kernel_rfl)) (by decide) (fun K hK => ?_)
     have hs21 : w20.cell? ⟨gb336, 1, none⟩ = some (.int .i64 x337001_1) := (blk_cell BK336.out 1).trans rfl
     have hfs21 := blk_frozen BK336.out 1
     have hns21_0 := NB334_336.out
     have hns21_1 := NB335_336.out
     have hms21_0 := NB336_334.out
     have hms21_1 := NB336_335.out
     refine skip_ (w1 := ?_) (by rfl) rfl ?_ ?_
     rotate_left
     ·go_simp
      rfl
     refine hK.out _ _ ?_
     clear hK K
     refine done_ (done_of HT_.out (by kernel_rfl)) ?_
     try go_wp2
     go_roundg k1
     case measure => have := HK1.out; omega
     case rel => exact ⟨(wrap64 (x12_1 + 1)), (Go.bits .or .i64 x337001_1 (ji18)), (by first | rfl | (simp; done) | (simp [*]; done)), H', ⟨by have := HK1.out; omega⟩, ⟨by (with_reducible repeat (first | refine blk_drewN ?_ _ | refine blk_drew ?_ | refine blk_alloc ?_ _)); refine blk_far ?_ NB334_336.out _; (with_reducible repeat (first | refine blk_drewN ?_ _ | refine blk_drew ?_ | refine blk_alloc ?_ _)); exact BK334.out⟩, ⟨by (with_reducible repeat (first | refine blk_drewN ?_ _ | refine blk_drew ?_ | refine blk_alloc ?_ _)); refine blk_far ?_ NB335_336.out _; (with_reducible repeat (first | refine blk_drewN ?_ _ | refine blk_drew ?_ | refine blk_alloc ?_ _)); exact BK335.out⟩, ⟨by (with_reducible repeat (first | refine blk_drewN ?_ _ | refine blk_drew ?_ | refine blk_alloc ?_ _)); refine blk_put (cs := #[.int .i64 a0_0, .int .i64 x337001_1]) ?_ 1 _ rfl; (with_reducible repeat (first | refine blk_drewN ?_ _ | refine blk_drew ?_ | refine blk_alloc ?_ _)); exact BK336.out⟩, ⟨bv3_ HB GE334 GE335 GE336⟩⟩
    ·rw [if_neg c17] at H
     exact absurd H (by simp)
   ·rw [if_neg c14] at H
    have c14b0 : decide (x12_1 < t337) = false := decide_eq_false c14
    clear c14
    simp only [Option.some.injEq, Prod.mk.injEq] at H
    obtain ⟨rfl, rfl⟩ := H
    have hnb22 := NB336_334.out
    have hnc22 := NB334_336.out
    have hnb23 := NB336_335.out
    have hnc23 := NB335_336.out
    obtain ⟨hcz24_0, hcz24_1, hfz24_0, hfz24_1⟩ := c2_ BK336
    have hnb25 := NB335_334.out
    have hnc25 := NB334_335.out
    obtain ⟨hcz26_0, hcz26_1, hfz26_0, hfz26_1⟩ := c2_ BK335
    go_wp2
    refine bodyPost_ret (results_cell_row rfl _ _ gb335 25 #[.int .i64 a0_0, .int .i64 x337001_1] (0, 0) _ rfl (by (with_reducible repeat (first | refine blk_drewN ?_ _ | refine blk_drew ?_ | refine blk_alloc ?_ _)); refine blk_put (cs := #[.int .i64 a0_0, .int .i64 0]) ?_ 1 _ rfl; (with_reducible repeat (first | refine blk_drewN ?_ _ | refine blk_drew ?_ | refine blk_alloc ?_ _)); refine blk_put (cs := #[.int .i64 0, .int .i64 0]) ?_ 0 _ rfl; (with_reducible repeat (first | refine blk_drewN ?_ _ | refine blk_drew ?_ | refine blk_alloc ?_ _)); exact BK335.out) Try.underlying25 rfl (by kernel_rfl)) rfl ?_
    exact ⟨er_, bv3_ HB GE334 GE335 GE336⟩


/-! ### impl_makeTable: function 63 -/
/-- The word whose values a function tells. -/
def impl_makeTable.word (g : Nat → Bool) : Nat → Int
  | 0 => 0
  | x + 1 => if g x = true then Go.bits .or .i64 (impl_makeTable.word g x) (wrap64 ((2 : Int) ^ x)) else impl_makeTable.word g x
theorem impl_makeTable.w (x : Int) (h0 : 0 ≤ x) (h1 : x ≤ 32) : wrap64 x = x := by unfold wrap64; omega
theorem impl_makeTable.size {a : Int} (h : 0 ≤ a ∧ a ≤ 5) : ∃ N : Nat, wrap64 ((2 : Int) ^ a.toNat) = (N : Int) ∧ 2 ^ a.toNat = N ∧ N ≤ 32 := by
  rcases (by omega : a = 0 ∨ a = 1 ∨ a = 2 ∨ a = 3 ∨ a = 4 ∨ a = 5) with rfl | rfl | rfl | rfl | rfl | rfl
  · exact ⟨1, (congrArg wrap64 (show ((2 : Int) ^ (0 : Int).toNat) = 1 by decide)).trans (impl_makeTable.w _ (by omega) (by omega)), by decide, by omega⟩
  · exact ⟨2, (congrArg wrap64 (show ((2 : Int) ^ (1 : Int).toNat) = 2 by decide)).trans (impl_makeTable.w _ (by omega) (by omega)), by decide, by omega⟩
  · exact ⟨4, (congrArg wrap64 (show ((2 : Int) ^ (2 : Int).toNat) = 4 by decide)).trans (impl_makeTable.w _ (by omega) (by omega)), by decide, by omega⟩
  · exact ⟨8, (congrArg wrap64 (show ((2 : Int) ^ (3 : Int).toNat) = 8 by decide)).trans (impl_makeTable.w _ (by omega) (by omega)), by decide, by omega⟩
  · exact ⟨16, (congrArg wrap64 (show ((2 : Int) ^ (4 : Int).toNat) = 16 by decide)).trans (impl_makeTable.w _ (by omega) (by omega)), by decide, by omega⟩
  · exact ⟨32, (congrArg wrap64 (show ((2 : Int) ^ (5 : Int).toNat) = 32 by decide)).trans (impl_makeTable.w _ (by omega) (by omega)), by decide, by omega⟩
-- EACH closure's number
set_option maxHeartbeats 4000000 in
set_option maxRecDepth 100000 in
theorem impl_makeTable.calls88 (n : Int) (hn : 0 ≤ n ∧ n ≤ 5) (caps : Array Value) (g : Nat → Bool) (w : World)
    (hp : ∀ (W : World) (x : Nat), Below w.heap.size w W → x < 2 ^ n.toNat → Calls Try.prog 88 (#[.int .i64 (x : Int)] ++ caps) W fun e w' => e = .returned (.bool (g x)) ∧ Below W.heap.size W w') :
    Calls Try.prog 63 #[.int .i64 n, .func (.func 88) #[] caps] w fun e w' => e = .returned (.agg #[.int .i64 n, .int .i64 (impl_makeTable.word g (2 ^ n.toNat))]) ∧ Below w.heap.size w w' := by
  obtain ⟨N, hN, hN2, hN32⟩ := impl_makeTable.size hn
  rw [hN2] at hp ⊢
  have hu := Try.underlying25
  have HP := Aside0.mk hp
  clear hN2 hp
  go_enter Try.func63, Try.ntmps63
  go_wp2_with fail
  rw [hN]
  have HB := Aside0.mk ((((Below.refl w.heap.size w).alloc (Nat.le_refl _) (Obj.cells #[Value.int IntKind.i64 0, Value.int IntKind.i64 0] 25)).alloc (by simp) (Obj.cells #[Value.int IntKind.i64 n, Value.int IntKind.i64 0] 25)))
  have RK := Aside0.mk (blk_alloc (blk_new w (Obj.cells #[Value.int IntKind.i64 0, Value.int IntKind.i64 0] 25)) (Obj.cells #[Value.int IntKind.i64 n, Value.int IntKind.i64 0] 25))
  have BK := Aside0.mk (blk_new (w.alloc (Obj.cells #[Value.int IntKind.i64 0, Value.int IntKind.i64 0] 25)) (Obj.cells #[Value.int IntKind.i64 n, Value.int IntKind.i64 0] 25))
  rw [show (w.alloc (Obj.cells #[Value.int IntKind.i64 0, Value.int IntKind.i64 0] 25)).heap.size = w.heap.size + 1 by simp] at BK
  go_loopw [11] (fun v wr => ∃ i : Nat, i ≤ N ∧ v = .int .i64 (i : Int) ∧ Aside0 (wr.heap[w.heap.size]? = some (.cells #[.int .i64 0, .int .i64 0] 25 (0, 0))) ∧ Aside0 (wr.heap[w.heap.size + 1]? = some (.cells #[.int .i64 n, .int .i64 (impl_makeTable.word g i)] 25 (0, 0))) ∧ Aside0 (Below w.heap.size w wr)) (fun v _ => N - (intOf v).toNat)
  case atStart => exact ⟨0, Nat.zero_le _, rfl, RK, BK, HB⟩
  case round =>
    obtain ⟨i, hi, rfl, RK, BK, HB⟩ := hrel
    by_cases hlt : i < N
    · have hcall := HP.out wr i HB.out hlt
      replace hcall : Calls Try.prog 88 (#[.int .i64 (i : Int)] ++ caps) wr fun e w' => e = .returned (.bool (g i)) ∧ Below wr.heap.size wr w' := hcall
      cases hg : g i with
      | true =>
        rw [hg] at hcall
        have S1 := Aside0.mk (show impl_makeTable.word g (i + 1) = Go.bits .or .i64 (impl_makeTable.word g i) (wrap64 ((2 : Int) ^ i)) by simp only [impl_makeTable.word]; rw [if_pos hg])
        clear hg
        go_wp2_with (go_at_call 88; refine hcall.mono ?_; rintro e w2 ⟨rfl, hb2⟩)
        have RK2 := Aside0.mk (blk_below RK.out hb2)
        have BK2 := Aside0.mk (blk_below BK.out hb2)
        have HB2 := Aside0.mk (below_step HB.out hb2)
        clear hb2 RK BK HB hcall
        have k1 := (blk_cell BK2.out 1).trans rfl
        have f1 := blk_frozen BK2.out 1
        have hi0 : (0 : Int) ≤ (i : Int) := Int.natCast_nonneg i
        have hid : decide ((i : Int) < 0) = false := by simp
        go_region
        all_goals go_wp2
        all_goals go_roundw
        case rel => exact ⟨i + 1, by omega, by go_num, ⟨blk_drew (blk_far RK2.out (by simp) _)⟩, ⟨by rw [S1.out]; exact blk_drew (blk_put BK2.out 1 _ rfl)⟩, ⟨below_drew1 (below_set HB2.out (by omega))⟩⟩
        case measure => simp [intOf]; omega
      | false =>
        rw [hg] at hcall
        have S1 := Aside0.mk (show impl_makeTable.word g (i + 1) = impl_makeTable.word g i by simp only [impl_makeTable.word]; rw [if_neg (by rw [hg]; decide)])
        clear hg
        go_wp2_with (go_at_call 88; refine hcall.mono ?_; rintro e w2 ⟨rfl, hb2⟩)
        go_roundw
        case rel => exact ⟨i + 1, by omega, by go_num, ⟨blk_below RK.out hb2⟩, ⟨by rw [S1.out]; exact blk_below BK.out hb2⟩, ⟨below_step HB.out hb2⟩⟩
        case measure => simp [intOf]; omega
    · obtain rfl : i = N := by omega
      have k0 := (blk_cell BK.out 0).trans rfl
      have k1 := (blk_cell BK.out 1).trans rfl
      have r0 := (blk_cell RK.out 0).trans rfl
      have r1 := (blk_cell RK.out 1).trans rfl
      have f0 := blk_frozen RK.out 0
      have f1 := blk_frozen RK.out 1
      go_wp2
      refine bodyPost_ret (results_cell_row rfl _ _ w.heap.size 25 #[.int .i64 n, .int .i64 (impl_makeTable.word g i)] (0, 0) _ rfl (blk_put (cs := #[.int .i64 n, .int .i64 0]) (blk_put (cs := #[.int .i64 0, .int .i64 0]) RK.out 0 _ rfl) 1 _ rfl) hu rfl (by kernel_rfl)) rfl ?_
      exact ⟨rfl, below_set (below_set HB.out (by omega)) (by omega)⟩


/-! ### impl_Table_shift: function 71 -/
def impl_Table_shift.on (n W s : Int) (x : Nat) : Bool := (impl_Table_at.f n W (Go.bits .xor .i64 (x : Int) s)).getD 0 == 1
def impl_Table_shift.f (a0_0 a0_1 a1 : Int) : Option (Int × Int) :=
  if (0 ≤ a0_0 ∧ a0_0 ≤ 5) ∧ ((List.range (2 ^ a0_0.toNat)).all fun x => decide (0 ≤ Go.bits .xor .i64 (x : Int) a1)) = true then some (a0_0, impl_makeTable.word (impl_Table_shift.on a0_0 a0_1 a1) (2 ^ a0_0.toNat)) else none
set_option maxHeartbeats 4000000 in
set_option maxRecDepth 100000 in
theorem impl_Table_shift.in_calls (a0_0 a0_1 a1 : Int) (B1 B2 : Nat) (x : Nat) (hs : 0 ≤ Go.bits .xor .i64 (x : Int) a1) (W : World) (h1 : W.heap[B1]? = some (.cells #[.int .i64 a0_0, .int .i64 a0_1] 25 (0, 0))) (h2 : W.cell? ⟨B2, 0, none⟩ = some (.int .i64 a1)) :
    Calls Try.prog 88 #[.int .i64 (x : Int), .pointer (some ⟨B1, 0, none⟩), .pointer (some ⟨B2, 0, none⟩)] W fun e w' => e = .returned (.bool (impl_Table_shift.on a0_0 a0_1 a1 x)) ∧ Below W.heap.size W w' := by
  unfold impl_Table_shift.on
  obtain ⟨t, ht⟩ : ∃ t, impl_Table_at.f a0_0 a0_1 (Go.bits .xor .i64 (x : Int) a1) = some t := ⟨Go.bits .and .i64 (shr .i64 a0_1 (Go.bits .xor .i64 (x : Int) a1)) 1, by unfold impl_Table_at.f; rw [if_pos hs]⟩
  have A1 := Aside0.mk ht
  rw [ht, Option.getD_some]
  clear ht hs
  have hu := Try.underlying25
  have hc0 := blk_cell h1 0
  have hc1 := blk_cell h1 1
  replace hc0 : W.cell? ⟨B1, 0, none⟩ = some (.int .i64 a0_0) := hc0
  replace hc1 : W.cell? ⟨B1, 1, none⟩ = some (.int .i64 a0_1) := hc1
  clear h1
  go_enter Try.func88, Try.ntmps88
  go_wp2_with (first | (go_at_call 37; (with_reducible refine (impl_Table_at.calls a0_0 a0_1 _ _ _ A1.out).mono ?_); rintro e w2 ⟨rfl, hb2⟩))
  go_ret
  exact ⟨rfl, hb2⟩
set_option maxHeartbeats 4000000 in
set_option maxRecDepth 100000 in
theorem impl_Table_shift.calls (a0_0 a0_1 a1 r1 r2 : Int) (w : World) (h : impl_Table_shift.f a0_0 a0_1 a1 = some (r1, r2)) :
    Calls Try.prog 71 #[.agg #[.int .i64 a0_0, .int .i64 a0_1], .int .i64 a1] w fun e w' => e = .returned (.agg #[.int .i64 r1, .int .i64 r2]) ∧ Below w.heap.size w w' := by
  unfold impl_Table_shift.f at h
  by_cases hb : (0 ≤ a0_0 ∧ a0_0 ≤ 5) ∧ ((List.range (2 ^ a0_0.toNat)).all fun x => decide (0 ≤ Go.bits .xor .i64 (x : Int) a1)) = true
  case neg => rw [if_neg hb] at h; exact absurd h (by simp)
  rw [if_pos hb] at h
  simp only [Option.some.injEq, Prod.mk.injEq] at h
  obtain ⟨rfl, rfl⟩ := h
  obtain ⟨hb, hall⟩ := hb
  have hu := Try.underlying25
  have s1 : (w.alloc (Obj.cells #[Value.int IntKind.i64 a0_0, Value.int IntKind.i64 a0_1] 25)).heap.size = w.heap.size + 1 := by simp
  have F1 := blk_alloc (blk_alloc (blk_new w (Obj.cells #[Value.int IntKind.i64 a0_0, Value.int IntKind.i64 a0_1] 25)) (Obj.cells #[Value.int IntKind.i64 a1] 3)) (Obj.cells #[Value.int IntKind.i64 0, Value.int IntKind.i64 0] 25)
  have F2 := blk_alloc (blk_new (w.alloc (Obj.cells #[Value.int IntKind.i64 a0_0, Value.int IntKind.i64 a0_1] 25)) (Obj.cells #[Value.int IntKind.i64 a1] 3)) (Obj.cells #[Value.int IntKind.i64 0, Value.int IntKind.i64 0] 25)
  rw [s1] at F2
  have hcall := impl_makeTable.calls88 a0_0 hb #[.pointer (some ⟨w.heap.size, 0, none⟩), .pointer (some ⟨w.heap.size + 1, 0, none⟩)] (impl_Table_shift.on a0_0 a0_1 a1) (((w.alloc (Obj.cells #[Value.int IntKind.i64 a0_0, Value.int IntKind.i64 a0_1] 25)).alloc (Obj.cells #[Value.int IntKind.i64 a1] 3)).alloc (Obj.cells #[Value.int IntKind.i64 0, Value.int IntKind.i64 0] 25))
    (fun W x hW hx => impl_Table_shift.in_calls a0_0 a0_1 a1 w.heap.size (w.heap.size + 1) x (of_decide_eq_true (List.all_eq_true.mp hall x (List.mem_range.mpr hx))) W (blk_below F1 hW) ((blk_cell (blk_below F2 hW) 0).trans rfl))
  generalize impl_makeTable.word (impl_Table_shift.on a0_0 a0_1 a1) (2 ^ a0_0.toNat) = r at hcall ⊢
  clear F1 F2 s1 hall hb
  go_enter Try.func71, Try.ntmps71
  go_wp2_with (go_at_call 63; refine hcall.mono ?_; rintro e w1 ⟨rfl, hb1⟩; have RK := Aside0.mk (blk_below (blk_new ((w.alloc (Obj.cells #[Value.int IntKind.i64 a0_0, Value.int IntKind.i64 a0_1] 25)).alloc (Obj.cells #[Value.int IntKind.i64 a1] 3)) (Obj.cells #[Value.int IntKind.i64 0, Value.int IntKind.i64 0] 25)) hb1); rw [show ((w.alloc (Obj.cells #[Value.int IntKind.i64 a0_0, Value.int IntKind.i64 a0_1] 25)).alloc (Obj.cells #[Value.int IntKind.i64 a1] 3)).heap.size = w.heap.size + 2 by simp] at RK; have k0 := (blk_cell RK.out 0).trans rfl; have k1 := (blk_cell RK.out 1).trans rfl; have f0 := blk_frozen RK.out 0; have f1 := blk_frozen RK.out 1)
  refine bodyPost_ret (results_cell_row rfl _ _ (w.heap.size + 2) 25 #[.int .i64 a0_0, .int .i64 r] (0, 0) _ rfl (blk_put (cs := #[.int .i64 a0_0, .int .i64 0]) (blk_put (cs := #[.int .i64 0, .int .i64 0]) RK.out 0 _ rfl) 1 _ rfl) hu rfl (by kernel_rfl)) rfl ?_
  exact ⟨rfl, below_set (below_set (((((Below.refl w.heap.size w).alloc (Nat.le_refl _) (Obj.cells #[Value.int IntKind.i64 a0_0, Value.int IntKind.i64 a0_1] 25)).alloc (by first | (simp; done) | (simp; omega)) (Obj.cells #[Value.int IntKind.i64 a1] 3)).alloc (by first | (simp; done) | (simp; omega)) (Obj.cells #[Value.int IntKind.i64 0, Value.int IntKind.i64 0] 25)).trans (hb1.mono (by simp; omega))) (by omega)) (by omega)⟩


/-! ### impl_Table_not: function 72 -/
def impl_Table_not.f (a0_0 : Int) (a0_1 : Int) : Option (Int × Int) := (impl_Table_size.f a0_0 a0_1).bind fun t442 => (if 0 ≤ t442 then (some (a0_0, Go.bits .xor .i64 a0_1 (wrap64 ((shl .i64 1 t442) - 1)))) else (none))
def impl_Table_not.T1 : Bool × List (List Nat × List Nat) := (true, [([], []), ([0], [0]), ([], []), ([2], [2]), ([], []), ([4], [4]), ([5], [5]), ([6], [6]), ([3, 7], [3, 7]), ([1, 8], [1, 8]), ([9, 5, 0, 1, 2, 3, 4, 5, 6, 7, 8, 9], [9])])
def impl_Table_not.B1 : List Nat := [0, 1, 0, 4, 0, 16, 48, 112, 252, 511, 1023]
theorem impl_Table_not.tab1 : rtab .any (opsOf Try.f72 1) = impl_Table_not.T1 := by kernel_rfl
theorem impl_Table_not.bits1 : waitsOk impl_Table_not.T1.2 impl_Table_not.B1 = true := by kernel_rfl
set_option maxHeartbeats 8000000 in
set_option maxRecDepth 100000 in
theorem impl_Table_not.calls (a0_0 : Int) (a0_1 : Int) (r1 : Int) (r2 : Int) (w : World) (h : impl_Table_not.f a0_0 a0_1 = some (r1, r2)) :
  Calls Try.prog 72 #[.agg #[.int .i64 a0_0, .int .i64 a0_1]] w fun e w' => e = .returned (.agg #[.int .i64 r1, .int .i64 r2]) ∧ Below w.heap.size w w' := by
 have hu25 := Try.underlying25
 have HB := Aside0.mk (Below.refl w.heap.size w)
 have H : ((impl_Table_size.f a0_0 a0_1).bind fun t442 => (if 0 ≤ t442 then (some (a0_0, Go.bits .xor .i64 a0_1 (wrap64 ((shl .i64 1 t442) - 1)))) else (none))) = some (r1, r2) := h
 clear h
 replace H := Option.bind_eq_some_iff.mp H
 obtain ⟨t442, A20, H⟩ := H
 have A2 := Aside0.mk A20
 clear A20
 by_cases c3 : 0 ≤ t442
 ·rw [if_pos c3] at H
  have c3b0 := eq_true c3
  have c3b1 : decide (0 ≤ t442) = true := decide_eq_true c3
  clear c3
  obtain ⟨ji4, hji4⟩ : ∃ j_ : Int, (shl .i64 1 t442) = j_ := ⟨_, rfl⟩
  replace H : (some (a0_0, Go.bits .xor .i64 a0_1 (wrap64 ((ji4) - 1)))) = some (r1, r2) := by first | (rw [hji4] at H; exact H) | (simp only [hji4] at H ⊢; exact H)
  (try rw [hji4] at A2)
  have hji4_ : (IntKind.i64.wrap (1 * 2 ^ min t442.toNat 64)) = ji4 := hji4
  have hji4z : t442 ≤ 64 → (IntKind.i64.wrap (1 * 2 ^ t442.toNat)) = ji4 := shl_small hji4
  have hji4u : (IntKind.i64.wrap (2 ^ min t442.toNat 64)) = ji4 := by have h_ := hji4_; rw [Int.one_mul] at h_; exact h_
  have hji4v : t442 ≤ 64 → (IntKind.i64.wrap (2 ^ t442.toNat)) = ji4 := fun hle_ => by have h_ := hji4z hle_; rw [Int.one_mul] at h_; exact h_
  have hji4y : (wrap64 (1 * 2 ^ min t442.toNat 64)) = ji4 := (i64_w _).symm.trans hji4_
  have hji4x : t442 ≤ 64 → (wrap64 (1 * 2 ^ t442.toNat)) = ji4 := fun h_ => (i64_w _).symm.trans (hji4z h_)
  simp only [Option.some.injEq, Prod.mk.injEq] at H
  obtain ⟨rfl, rfl⟩ := H
  go_enter Try.func72, Try.ntmps72
  try go_wp2_with (first | ((with_reducible refine gate_dst (N := 1) rfl ?_); refine bx_ 1 #[.int .i64 a0_0, .int .i64 a0_1] 25 ?_; intro gb440 hg w5 hbox hb; have BK440 := Aside0.mk (hbox); have GW440 := gw_ hg (below_size (bv_ HB)); have GE440 := GW440; replace HB := Aside0.mk (below_step (bv_ HB) hb); clear hb hbox hg) | ((with_reducible refine gate_dst (N := 2) rfl ?_); refine bx_ 2 #[.int .i64 0, .int .i64 0] 25 ?_; intro gb441 hg w6 hbox hb; have BK441 := Aside0.mk (hbox); have GW441 := gw_ hg (below_size (bv1_ HB GE440)); have GE441 := GW441; replace HB := Aside0.mk (below_step (bv1_ HB GE440) hb); have NB440_441 := nb_ hg (blk_lt (g := gb440) (o := .cells #[.int .i64 a0_0, .int .i64 a0_1] 25 (0, 0)) (kv_ BK440)); have NB441_440 := nc_ hg (blk_lt (g := gb440) (o := .cells #[.int .i64 a0_0, .int .i64 a0_1] 25 (0, 0)) (kv_ BK440)); replace BK440 := kb_ BK440 hb; clear hb hbox hg))
  replace BK440 := Aside0.mk (blk_drew BK440.out)
  replace BK441 := Aside0.mk (blk_drew BK441.out)
  replace HB := Aside0.mk (below_drew1 HB.out)
  refine start_ (n := 11) (S := fun w' => w'.cell? ⟨gb440, 0, none⟩ = some (.int .i64 a0_0) ∧ w'.cell? ⟨gb440, 1, none⟩ = some (.int .i64 a0_1)) (ds := []) (bs 11 0) (by kernel_rfl) rfl (by kernel_rfl) ⟨(blk_cell BK440.out 0).trans rfl, (blk_cell BK440.out 1).trans rfl⟩ (fun hHeld => ?_); refine with_tabW impl_Table_not.tab1 impl_Table_not.bits1 (fun HT_ HW_ => ?_)
  generalize w6.drew = w7 at BK440 BK441 HB hHeld ⊢
  refine pu_ HT_ 0 3 (bs 11 1) ?_
  refine pu_ HT_ 2 5 (bs 11 5) ?_
  refine ta2_ HT_ HW_ 1 4 (bs 11 7) hHeld ?_
  refine ta2_ HT_ HW_ 3 6 (bs 11 15) hHeld ?_
  refine ta2_ HT_ HW_ 4 7 (bs 11 31) hHeld ?_
  refine on_ HT_ 5 8 (bs 11 63) (fun K hK => ?_)
  refine goes_ Try.func36 (by kernel_rfl) rfl #[.agg #[.int .i64 a0_0, .int .i64 a0_1]] (by rfl) rfl rfl mp_ ?_
  with_reducible refine (impl_Table_size.calls a0_0 a0_1 t442 _ A2.out).mono ?_
  rintro e w8 ⟨rfl, hb⟩
  refine ⟨_, rfl, ?_⟩
  replace BK440 := kb_ BK440 hb
  replace BK441 := kb_ BK441 hb
  replace HB := Aside0.mk (below_step (bv2_ HB GE440 GE441) hb)
  (try clear hb)
  (try clear hb2)
  (try clear hk)
  (try clear hi)
  refine hK.out _ _ ⟨(blk_cell BK440.out 0).trans rfl, (blk_cell BK440.out 1).trans rfl⟩ (fun hHeld => ?_)
  clear hK K
  refine no_ 8 ?_
  refine pu_ HT_ 6 9 (bs 11 127) ?_
  refine pu_ HT_ 7 10 (bs 11 255) ?_
  refine pu_ HT_ 8 11 (bs 11 511) ?_
  refine pu_ HT_ 9 12 (bs 11 1023) ?_
  refine one_ (i := 10) (N := none) (bs 11 2047) rfl rfl (one_of HT_.out (by kernel_rfl)) (by decide) (fun K hK => ?_)
  have hs9 : w8.cell? ⟨gb441, 0, none⟩ = some (.int .i64 0) := (blk_cell BK441.out 0).trans rfl
  have hfs9 := blk_frozen BK441.out 0
  have hns9_0 := NB440_441.out
  have hms9_0 := NB441_440.out
  have hs10 : w8.cell? ⟨gb441, 1, none⟩ = some (.int .i64 0) := (blk_cell BK441.out 1).trans rfl
  have hfs10 := blk_frozen BK441.out 1
  have hns10_0 := NB440_441.out
  have hms10_0 := NB441_440.out
  refine skip_ (w1 := ?_) (by rfl) rfl ?_ ?_
  rotate_left
  ·go_simp
   rfl
  refine hK.out _ _ ⟨((cell_far (p := ⟨gb441, _, none⟩) NB440_441.out _).trans (((cell_far (p := ⟨gb441, _, none⟩) NB440_441.out _).trans (hHeld.1)))), ((cell_far (p := ⟨gb441, _, none⟩) NB440_441.out _).trans (((cell_far (p := ⟨gb441, _, none⟩) NB440_441.out _).trans (hHeld.2))))⟩ (fun hHeld => ?_)
  clear hK K
  refine done_ (done_of HT_.out (by kernel_rfl)) ?_
  try go_wp2
  refine bodyPost_ret (results_cell_row rfl _ _ gb441 25 #[.int .i64 a0_0, .int .i64 (Go.bits .xor .i64 a0_1 (wrap64 ((ji4) - 1)))] (0, 0) _ rfl (by (with_reducible repeat (first | refine blk_drewN ?_ _ | refine blk_drew ?_ | refine blk_alloc ?_ _)); refine blk_put (cs := #[.int .i64 a0_0, .int .i64 0]) ?_ 1 _ rfl; (with_reducible repeat (first | refine blk_drewN ?_ _ | refine blk_drew ?_ | refine blk_alloc ?_ _)); refine blk_put (cs := #[.int .i64 0, .int .i64 0]) ?_ 0 _ rfl; (with_reducible repeat (first | refine blk_drewN ?_ _ | refine blk_drew ?_ | refine blk_alloc ?_ _)); exact BK441.out) Try.underlying25 rfl (by kernel_rfl)) rfl ?_
  exact ⟨by first | rfl | (simp [errW_none, errW_some] <;> rfl) | (simp only [← hji4]; first | rfl | (simp [errW_none, errW_some] <;> rfl)) | (simp [*, errW_none, errW_some] <;> rfl), bv2_ HB GE440 GE441⟩
 ·rw [if_neg c3] at H
  exact absurd H (by simp)


/-! ### impl_Table_images: function 44 -/
/-- All blocks but one stand, and nothing was read or written outside. -/
def KeepO (W w' : World) (B : Nat) : Prop := KeepBut W w' B none ∧ w'.os = W.os ∧ w'.tape = W.tape ∧ w'.output = W.output
theorem KeepO.of_below {W w' : World} (h : Below W.heap.size W w') (B : Nat) : KeepO W w' B := ⟨KeepBut.of_below h B none, h.os, h.tape, h.output⟩
theorem KeepO.trans {a b c : World} {B : Nat} (h : KeepO a b B) (k : KeepO b c B) : KeepO a c B := ⟨KeepBut.trans h.1 k.1 (.inl rfl), k.2.1.trans h.2.1, k.2.2.1.trans h.2.2.1, k.2.2.2.trans h.2.2.2⟩
theorem KeepO.set_ {w w1 : World} {g : Nat} (h : KeepO w w1 g) (j : Nat) (u : Value) : KeepO w (w1.setCell ⟨g, j, none⟩ u) g := ⟨KeepBut.set_ h.1 j u, by simpa [World.setCell] using h.2.1, by simpa [World.setCell] using h.2.2.1, by simpa [World.setCell] using h.2.2.2⟩
theorem KeepO.below {w w1 : World} {g : Nat} (h : KeepO w w1 g) {B : Nat} (hg : B ≤ g) (hB : B ≤ w.heap.size) : Below B w w1 := ⟨h.2.1, h.2.2.1, h.2.2.2, h.1.1, fun k hk => h.1.2 k (by omega) (by omega) (by simp)⟩
def impl_Table_images.el (xs : List (List Int)) (i : Int) : List Int := xs.getD i.toNat []
theorem impl_Table_images.el_at {w : World} {A : Option Addr} {n : Nat} {xs : List (List Int)} (h : Kd.C (Kd.slice 3 (Kd.int .i64)) w A n xs) (i : Int) (h0 : 0 ≤ i) (h1 : i < n) : ∃ ad A0 c0, A = some ad ∧ w.cell? (ad.add i.toNat) = some (.slice A0 (impl_Table_images.el xs i).length c0) ∧ (impl_Table_images.el xs i).length ≤ c0 ∧ (Kd.int .i64).C w A0 (impl_Table_images.el xs i).length (impl_Table_images.el xs i) := by
 obtain ⟨ad, c, e, _, hK, hc0⟩ := Kd.C_get h ([] : List Int) i h0 h1
 have hc : ∀ j u, c[j]? = some u → w.cell? (ad.add (i.toNat * 1 + j)) = some u := hc0
 obtain ⟨A0, c0, rfl, l0, g0⟩ := hK
 exact ⟨ad, A0, c0, e, by have hq := hc 0 _ rfl; rwa [Nat.mul_one, Nat.add_zero] at hq, l0, g0⟩
def impl_Table_images.row (H NH : Nat → Int) : Nat → List Int
  | 0 => []
  | x + 1 => impl_Table_images.row H NH x ++ [H x, NH x]
/-- The words of all images, way by way. -/
def impl_Table_images.all (N : Nat) (H NH : Nat → Nat → Int) : Nat → List Int
  | 0 => []
  | j + 1 => impl_Table_images.all N H NH j ++ impl_Table_images.row (H j) (NH j) N
theorem impl_Table_images.mem_row (H NH : Nat → Int) : ∀ N x, x < N → H x ∈ impl_Table_images.row H NH N ∧ NH x ∈ impl_Table_images.row H NH N
  | 0, x, h => absurd h (by omega)
  | N + 1, x, h => by
    simp only [impl_Table_images.row]
    by_cases e : x = N
    · subst e; simp
    · have := impl_Table_images.mem_row H NH N x (by omega)
      exact ⟨List.mem_append_left _ this.1, List.mem_append_left _ this.2⟩
theorem impl_Table_images.mem_all (N : Nat) (H NH : Nat → Nat → Int) : ∀ M j, j < M → ∀ b, b ∈ impl_Table_images.row (H j) (NH j) N → b ∈ impl_Table_images.all N H NH M
  | 0, j, h => absurd h (by omega)
  | M + 1, j, h => fun b hb => by
    simp only [impl_Table_images.all]
    by_cases e : j = M
    · subst e; exact List.mem_append_right _ hb
    · exact List.mem_append_left _ (impl_Table_images.mem_all N H NH M j (by omega) b hb)
/-- The images of a table are these words. -/
def impl_Table_images.Is (n0 W0 : Int) (ws : List Int) : Prop := ∃ (ps : List (List Int)) (N : Nat) (G : Nat → Int) (H NH : Nat → Nat → Int),
  impl_permutations.f n0 = some ps ∧ N ≤ 32 ∧ ps.length ≤ 100 ∧ impl_Table_size.f n0 W0 = some (N : Int) ∧
    (∀ j, j < ps.length → ∃ kq, impl_Table_permute.f kq n0 W0 (impl_Table_images.el ps (j : Int)) = some (n0, G j)) ∧
    (∀ j x, j < ps.length → x < N → impl_Table_shift.f n0 (G j) (x : Int) = some (n0, H j x)) ∧
    (∀ j x, j < ps.length → x < N → impl_Table_not.f n0 (H j x) = some (n0, NH j x)) ∧
    ws = impl_Table_images.all N H NH ps.length ∧ ws.length ≤ 6400 ∧ ∀ b ∈ ws, (Lit.int .i64 b).wf = true
open Classical in
noncomputable def impl_Table_images.f (n0 W0 : Int) : Option (List Int) := if h : ∃ ws, impl_Table_images.Is n0 W0 ws then some h.choose else none
theorem impl_Table_images.f_is {n0 W0 : Int} {ws : List Int} (h : impl_Table_images.f n0 W0 = some ws) : impl_Table_images.Is n0 W0 ws := by
  unfold impl_Table_images.f at h
  by_cases hx : ∃ ws, impl_Table_images.Is n0 W0 ws
  · rw [dif_pos hx] at h
    rw [← Option.some.inj h]
    exact hx.choose_spec
  · rw [dif_neg hx] at h
    exact absurd h (by simp)
theorem impl_Table_images.f_some {n0 W0 : Int} {ws : List Int} (h : impl_Table_images.Is n0 W0 ws) : ∃ ws', impl_Table_images.f n0 W0 = some ws' := by
  unfold impl_Table_images.f
  rw [dif_pos ⟨ws, h⟩]
  exact ⟨_, rfl⟩
-- EACH closure's number
set_option maxHeartbeats 4000000 in
set_option maxRecDepth 100000 in
theorem impl_Table_images.calls45 {σ : Type} (n0 W0 : Int) (caps : Array Value) (Inv : World → σ → Prop) (B : Nat) (step : σ → Int → σ) (ws : List Int) (s0 : σ) (w : World)
    (hB : B < w.heap.size) (h0 : Inv w s0)
    (hst : ∀ (W W' : World) s, Inv W s → W.heap.size ≤ W'.heap.size → (∀ i, i < w.heap.size → W'.heap[i]? = W.heap[i]?) → Inv W' s)
    (hp : ∀ (W : World) (s : σ) (b : Int), b ∈ ws → Inv W s → Calls Try.prog 45 (#[.agg #[.int .i64 n0, .int .i64 b]] ++ caps) W fun e w' => e = .returned (.tuple #[]) ∧ Inv w' (step s b) ∧ KeepO W w' B)
    (hws : impl_Table_images.f n0 W0 = some ws) :
    Calls Try.prog 44 #[.agg #[.int .i64 n0, .int .i64 W0], .func (.func 45) #[] caps] w fun e w' => e = .returned (.tuple #[]) ∧ Inv w' (ws.foldl step s0) ∧ KeepO w w' B := by
  have hu := Try.underlying25
  obtain ⟨ps, N, G, H, NH, hperm, hN32, hps, hS, hG, hH, hNH, rfl, -, -⟩ := impl_Table_images.f_is hws
  clear hws
  have HP := Aside0.mk hp
  have HPM := Aside0.mk (fun W : World => impl_permutations.callsR n0 ps W hperm)
  have HG := Aside0.mk hG
  have HS := Aside0.mk hS
  have HH := Aside0.mk hH
  have HNH := Aside0.mk hNH
  have HST := Aside0.mk hst
  have H0 := Aside0.mk h0
  clear hp hperm hG hS hH hNH hst h0
  go_enter Try.func44, Try.ntmps44
  go_wp2_with (first | ((with_reducible refine gate_dst (N := 2) rfl ?_); refine box_event ?hg (N := 2) ?hd (cs := #[.int .i64 n0, .int .i64 W0]) (t := 25) ?hr ?_; (case hd => rfl); (case hg => rfl); (case hr => first | (go_simp; done) | (go_simp; rfl)); intro gb hg w1 hbox hb; have HB1 := Aside0.mk hb; have RK := Aside0.mk hbox; have hgb := (show w.heap.size ≤ gb by omega); have hgbB : gb ≠ B := (by omega); clear hg hbox hb; have k0 := (blk_cell RK.out 0).trans rfl; have k1 := (blk_cell RK.out 1).trans rfl) | (go_at_call 47; refine (HPM.out _).mono ?_; rintro e w2 ⟨v11, rfl, hr2, hb2⟩; have HR2 := Aside0.mk hr2; have HB2 := Aside0.mk hb2; obtain ⟨A11, c11, rfl⟩ := Kd.R_slice hr2; clear hr2 hb2))
  have hz1 : w.heap.size ≤ w1.heap.size := HB1.out.size
  have hz2 : w1.heap.size ≤ w2.heap.size := HB2.out.size
  have hRe := Kd.R_mono (Kd.R_bound HR2.out) (ok' := fun k => k ≠ B) (fun k hk => by have := hk.2.1; omega)
  have HRe := Aside0.mk hRe
  have RK2 := Aside0.mk (blk_below RK.out HB2.out)
  have HI2 := Aside0.mk (HST.out w w2 s0 H0.out (by omega) (fun i hi => (HB2.out.block i (by omega)).trans (HB1.out.block i hi)))
  have HK2 := Aside0.mk (KeepO.trans (KeepO.of_below HB1.out B) (KeepO.of_below HB2.out B))
  clear hRe HR2 RK k0 k1 H0 HB1 HB2
  go_loopw [13] (fun v wr => ∃ j : Nat, j ≤ ps.length ∧ v = .int .i64 (j : Int) ∧ Aside0 ((Kd.slice 3 (Kd.int .i64)).R 38 wr w1.heap.size (fun k => k ≠ B) (.slice A11 ps.length c11) ps) ∧ Aside0 (wr.heap[gb]? = some (.cells #[.int .i64 n0, .int .i64 W0] 25 (0, 0))) ∧ Aside0 (Inv wr ((impl_Table_images.all N H NH j).foldl step s0)) ∧ Aside0 (KeepO w wr B) ∧ w2.heap.size ≤ wr.heap.size) (fun v _ => ps.length - (intOf v).toNat)
  case atStart => exact ⟨0, Nat.zero_le _, rfl, HRe, RK2, HI2, HK2, Nat.le_refl _⟩
  case round =>
    clear HRe RK2 HI2 HK2
    obtain ⟨j, hj, rfl, HR, RK, HI, HK, hz⟩ := hrel
    by_cases hlt : j < ps.length
    · obtain ⟨ad, A0, c0, eA, hx, hl, hC⟩ := impl_Table_images.el_at (Kd.R_reads' HR.out).2.2 (j : Int) (Int.natCast_nonneg _) (by omega)
      subst eA
      have HC := Aside0.mk hC
      obtain ⟨kq, hkq⟩ := HG.out j hlt
      have HKQ := Aside0.mk hkq
      clear hkq
      have HL := Aside0.mk hl
      clear hC hl
      rw [Int.toNat_natCast] at hx
      have k0 := (blk_cell RK.out 0).trans rfl
      have k1 := (blk_cell RK.out 1).trans rfl
      have hjd : decide ((j : Int) < (ps.length : Int)) = true := decide_eq_true (by omega)
      go_wp2_with (first | (go_at_call 70; (with_reducible refine (impl_Table_permute.calls kq n0 W0 A0 c0 (impl_Table_images.el ps (j : Int)) n0 (G j) _ ?s1 ?s2 HKQ.out).mono ?_); (case s1 => exact HC.out); (case s2 => exact HL.out); rintro e w3 ⟨rfl, hb3⟩; have HB3 := Aside0.mk hb3; have RK3 := Aside0.mk (blk_below RK.out hb3); clear hb3) | ((with_reducible refine gate_dst (N := 6) rfl ?_); refine box_event ?hg (N := 6) ?hd (cs := #[.int .i64 0, .int .i64 0]) (t := 25) ?hr ?_; (case hd => rfl); (case hg => rfl); (case hr => first | (go_simp; done) | (go_simp; rfl)); intro g6 hg w4 hbox hb; have HB4 := Aside0.mk hb; have R6 := Aside0.mk hbox; have RK4 := Aside0.mk (blk_below RK3.out hb); have h6z : w3.heap.size ≤ g6 := (by omega); have h63 := HB3.out.size; have h6a : g6 ≠ gb := (by have := blk_lt RK3.out; omega); have h6b : gb ≠ g6 := (fun e => h6a e.symm); clear hg hbox hb; have m0 := (blk_cell R6.out 0).trans rfl; have m1 := (blk_cell R6.out 1).trans rfl; have mf0 := blk_frozen R6.out 0; have mf1 := blk_frozen R6.out 1; have q0 := (blk_cell RK4.out 0).trans rfl; have q1 := (blk_cell RK4.out 1).trans rfl) | (go_at_call 36; (with_reducible refine (impl_Table_size.calls n0 W0 _ _ HS.out).mono ?_); rintro e w5 ⟨rfl, hb5⟩; have HB5 := Aside0.mk hb5; clear hb5))
      have hg6 : g6 ≠ B := by omega
      have BS := Aside0.mk (below_set (j := 1) (v := .int .i64 (G j)) (below_set (j := 0) (v := .int .i64 n0) (below_step HB3.out HB4.out) (show wr.heap.size ≤ g6 by omega)) (show wr.heap.size ≤ g6 by omega))
      have B5 := Aside0.mk (below_step BS.out HB5.out)
      have HR5 := Aside0.mk (Kd.R_below HR.out B5.out)
      have RK5 := Aside0.mk (blk_below RK.out B5.out)
      have R65 := Aside0.mk (blk_below (blk_put (cs := #[.int .i64 n0, .int .i64 0]) (blk_put (cs := #[.int .i64 0, .int .i64 0]) R6.out 0 (.int .i64 n0) rfl) 1 (.int .i64 (G j)) rfl) HB5.out)
      have HI5 := Aside0.mk (HST.out wr w5 _ HI.out B5.out.size (fun i hi => B5.out.block i (by omega)))
      have HK5 := Aside0.mk (KeepO.trans HK.out (KeepO.of_below B5.out B))
      have hz5 : w2.heap.size ≤ w5.heap.size := Nat.le_trans hz B5.out.size
      clear k0 k1 m0 m1 mf0 mf1 q0 q1 HR RK HI HK HC HL hx HB3 HB4 HB5 RK3 RK4 R6 BS B5 hjd
      go_loopw [22] (fun v wi => ∃ x : Nat, x ≤ N ∧ v = .int .i64 (x : Int) ∧ Aside0 ((Kd.slice 3 (Kd.int .i64)).R 38 wi w1.heap.size (fun k => k ≠ B) (.slice (some ad) ps.length c11) ps) ∧ Aside0 (wi.heap[gb]? = some (.cells #[.int .i64 n0, .int .i64 W0] 25 (0, 0))) ∧ Aside0 (wi.heap[g6]? = some (.cells #[.int .i64 n0, .int .i64 (G j)] 25 (0, 0))) ∧ Aside0 (Inv wi ((impl_Table_images.row (H j) (NH j) x).foldl step ((impl_Table_images.all N H NH j).foldl step s0))) ∧ Aside0 (KeepO w wi B) ∧ w2.heap.size ≤ wi.heap.size) (fun v _ => N - (intOf v).toNat)
      case atStart => exact ⟨0, Nat.zero_le _, rfl, HR5, RK5, R65, HI5, HK5, hz5⟩
      case round =>
        clear HR5 RK5 R65 HI5 HK5 hz5
        obtain ⟨x, hx, rfl, HR, RK, R6, HI, HK, hzi⟩ := hrel
        by_cases hxl : x < N
        · have A7 := Aside0.mk (HH.out j x hlt hxl)
          have A8 := Aside0.mk (HNH.out j x hlt hxl)
          have m0 := (blk_cell R6.out 0).trans rfl
          have m1 := (blk_cell R6.out 1).trans rfl
          have hxd : decide ((x : Int) < (N : Int)) = true := decide_eq_true (by omega)
          have tk1 : Aside0 True := ⟨True.intro⟩
          have hzw : w.heap.size ≤ wr.heap.size := by omega
          go_wp2_with (first | (go_at_call 71; (with_reducible refine (impl_Table_shift.calls n0 (G j) (x : Int) n0 (H j x) _ A7.out).mono ?_); rintro e w6 ⟨rfl, hb6⟩; have HB6 := Aside0.mk hb6; have hs6 := hb6.size; clear hb6) | (go_at_call 45; have tk_ := tk1; refine (HP.out _ _ (H j x) (impl_Table_images.mem_all N H NH _ j hlt _ (impl_Table_images.mem_row (H j) (NH j) N x hxl).1) (HST.out wr _ _ HI.out (below_alloc HB6.out _).size (fun i hi => (below_alloc HB6.out _).block i (by omega)))).mono ?_; rintro e w9 ⟨rfl, hi9, hk9⟩; have HI9 := Aside0.mk hi9; have HK9 := Aside0.mk (KeepO.trans (KeepO.of_below (below_alloc HB6.out _) B) hk9); have R9 := Aside0.mk (KeepBut.blk hk9.1 (blk_new w6 _) (by omega) (by simp)); have n0_ := (blk_cell R9.out 0).trans rfl; have n1_ := (blk_cell R9.out 1).trans rfl; clear hi9 hk9 tk_ tk1) | (go_at_call 72; (with_reducible refine (impl_Table_not.calls n0 (H j x) n0 (NH j x) _ A8.out).mono ?_); rintro e w10 ⟨rfl, hb10⟩; have HB10 := Aside0.mk hb10; clear hb10) | (go_at_call 45; refine (HP.out _ _ (NH j x) (impl_Table_images.mem_all N H NH _ j hlt _ (impl_Table_images.mem_row (H j) (NH j) N x hxl).2) (HST.out w9 _ _ HI9.out HB10.out.size (fun i hi => HB10.out.block i (by have := HK9.out.1.1; omega)))).mono ?_; rintro e w11 ⟨rfl, hi11, hk11⟩; have HI11 := Aside0.mk hi11; have HKt := Aside0.mk (KeepO.trans (KeepO.trans HK9.out (KeepO.of_below HB10.out B)) hk11); clear hi11 hk11))
          go_roundw
          case rel => exact ⟨x + 1, by omega, by go_num, ⟨Kd.R_keep HR.out HKt.out.1 (fun k hk => hk)⟩, ⟨KeepBut.blk HKt.out.1 RK.out hgbB (by simp)⟩, ⟨KeepBut.blk HKt.out.1 R6.out hg6 (by simp)⟩, ⟨by simp only [impl_Table_images.row, List.foldl_append, List.foldl_cons, List.foldl_nil]; exact HI11.out⟩, ⟨KeepO.trans HK.out HKt.out⟩, Nat.le_trans hzi HKt.out.1.1⟩
          case measure => simp [intOf]; omega
        · obtain rfl : x = N := by omega
          have hxd : decide ((x : Int) < (x : Int)) = false := decide_eq_false (by omega)
          go_wp2
          go_roundw
          case rel => exact ⟨j + 1, by omega, by go_num, HR, RK, ⟨by simp only [impl_Table_images.all, List.foldl_append]; exact HI.out⟩, HK, hzi⟩
          case measure => simp [intOf]; omega
    · obtain rfl : j = ps.length := by omega
      have hjd : decide ((ps.length : Int) < (ps.length : Int)) = false := decide_eq_false (by omega)
      go_wp2
      exact Go.Great.bodyPost_end0 (by kernel_rfl) rfl ⟨rfl, HI.out, HK.out⟩
-- EACH closure's number
set_option maxHeartbeats 4000000 in
set_option maxRecDepth 100000 in
theorem impl_Table_images.calls46 {σ : Type} (n0 W0 : Int) (caps : Array Value) (Inv : World → σ → Prop) (B : Nat) (step : σ → Int → σ) (ws : List Int) (s0 : σ) (w : World)
    (hB : B < w.heap.size) (h0 : Inv w s0)
    (hst : ∀ (W W' : World) s, Inv W s → W.heap.size ≤ W'.heap.size → (∀ i, i < w.heap.size → W'.heap[i]? = W.heap[i]?) → Inv W' s)
    (hp : ∀ (W : World) (s : σ) (b : Int), b ∈ ws → Inv W s → Calls Try.prog 46 (#[.agg #[.int .i64 n0, .int .i64 b]] ++ caps) W fun e w' => e = .returned (.tuple #[]) ∧ Inv w' (step s b) ∧ KeepO W w' B)
    (hws : impl_Table_images.f n0 W0 = some ws) :
    Calls Try.prog 44 #[.agg #[.int .i64 n0, .int .i64 W0], .func (.func 46) #[] caps] w fun e w' => e = .returned (.tuple #[]) ∧ Inv w' (ws.foldl step s0) ∧ KeepO w w' B := by
  have hu := Try.underlying25
  obtain ⟨ps, N, G, H, NH, hperm, hN32, hps, hS, hG, hH, hNH, rfl, -, -⟩ := impl_Table_images.f_is hws
  clear hws
  have HP := Aside0.mk hp
  have HPM := Aside0.mk (fun W : World => impl_permutations.callsR n0 ps W hperm)
  have HG := Aside0.mk hG
  have HS := Aside0.mk hS
  have HH := Aside0.mk hH
  have HNH := Aside0.mk hNH
  have HST := Aside0.mk hst
  have H0 := Aside0.mk h0
  clear hp hperm hG hS hH hNH hst h0
  go_enter Try.func44, Try.ntmps44
  go_wp2_with (first | ((with_reducible refine gate_dst (N := 2) rfl ?_); refine box_event ?hg (N := 2) ?hd (cs := #[.int .i64 n0, .int .i64 W0]) (t := 25) ?hr ?_; (case hd => rfl); (case hg => rfl); (case hr => first | (go_simp; done) | (go_simp; rfl)); intro gb hg w1 hbox hb; have HB1 := Aside0.mk hb; have RK := Aside0.mk hbox; have hgb := (show w.heap.size ≤ gb by omega); have hgbB : gb ≠ B := (by omega); clear hg hbox hb; have k0 := (blk_cell RK.out 0).trans rfl; have k1 := (blk_cell RK.out 1).trans rfl) | (go_at_call 47; refine (HPM.out _).mono ?_; rintro e w2 ⟨v11, rfl, hr2, hb2⟩; have HR2 := Aside0.mk hr2; have HB2 := Aside0.mk hb2; obtain ⟨A11, c11, rfl⟩ := Kd.R_slice hr2; clear hr2 hb2))
  have hz1 : w.heap.size ≤ w1.heap.size := HB1.out.size
  have hz2 : w1.heap.size ≤ w2.heap.size := HB2.out.size
  have hRe := Kd.R_mono (Kd.R_bound HR2.out) (ok' := fun k => k ≠ B) (fun k hk => by have := hk.2.1; omega)
  have HRe := Aside0.mk hRe
  have RK2 := Aside0.mk (blk_below RK.out HB2.out)
  have HI2 := Aside0.mk (HST.out w w2 s0 H0.out (by omega) (fun i hi => (HB2.out.block i (by omega)).trans (HB1.out.block i hi)))
  have HK2 := Aside0.mk (KeepO.trans (KeepO.of_below HB1.out B) (KeepO.of_below HB2.out B))
  clear hRe HR2 RK k0 k1 H0 HB1 HB2
  go_loopw [13] (fun v wr => ∃ j : Nat, j ≤ ps.length ∧ v = .int .i64 (j : Int) ∧ Aside0 ((Kd.slice 3 (Kd.int .i64)).R 38 wr w1.heap.size (fun k => k ≠ B) (.slice A11 ps.length c11) ps) ∧ Aside0 (wr.heap[gb]? = some (.cells #[.int .i64 n0, .int .i64 W0] 25 (0, 0))) ∧ Aside0 (Inv wr ((impl_Table_images.all N H NH j).foldl step s0)) ∧ Aside0 (KeepO w wr B) ∧ w2.heap.size ≤ wr.heap.size) (fun v _ => ps.length - (intOf v).toNat)
  case atStart => exact ⟨0, Nat.zero_le _, rfl, HRe, RK2, HI2, HK2, Nat.le_refl _⟩
  case round =>
    clear HRe RK2 HI2 HK2
    obtain ⟨j, hj, rfl, HR, RK, HI, HK, hz⟩ := hrel
    by_cases hlt : j < ps.length
    · obtain ⟨ad, A0, c0, eA, hx, hl, hC⟩ := impl_Table_images.el_at (Kd.R_reads' HR.out).2.2 (j : Int) (Int.natCast_nonneg _) (by omega)
      subst eA
      have HC := Aside0.mk hC
      obtain ⟨kq, hkq⟩ := HG.out j hlt
      have HKQ := Aside0.mk hkq
      clear hkq
      have HL := Aside0.mk hl
      clear hC hl
      rw [Int.toNat_natCast] at hx
      have k0 := (blk_cell RK.out 0).trans rfl
      have k1 := (blk_cell RK.out 1).trans rfl
      have hjd : decide ((j : Int) < (ps.length : Int)) = true := decide_eq_true (by omega)
      go_wp2_with (first | (go_at_call 70; (with_reducible refine (impl_Table_permute.calls kq n0 W0 A0 c0 (impl_Table_images.el ps (j : Int)) n0 (G j) _ ?s1 ?s2 HKQ.out).mono ?_); (case s1 => exact HC.out); (case s2 => exact HL.out); rintro e w3 ⟨rfl, hb3⟩; have HB3 := Aside0.mk hb3; have RK3 := Aside0.mk (blk_below RK.out hb3); clear hb3) | ((with_reducible refine gate_dst (N := 6) rfl ?_); refine box_event ?hg (N := 6) ?hd (cs := #[.int .i64 0, .int .i64 0]) (t := 25) ?hr ?_; (case hd => rfl); (case hg => rfl); (case hr => first | (go_simp; done) | (go_simp; rfl)); intro g6 hg w4 hbox hb; have HB4 := Aside0.mk hb; have R6 := Aside0.mk hbox; have RK4 := Aside0.mk (blk_below RK3.out hb); have h6z : w3.heap.size ≤ g6 := (by omega); have h63 := HB3.out.size; have h6a : g6 ≠ gb := (by have := blk_lt RK3.out; omega); have h6b : gb ≠ g6 := (fun e => h6a e.symm); clear hg hbox hb; have m0 := (blk_cell R6.out 0).trans rfl; have m1 := (blk_cell R6.out 1).trans rfl; have mf0 := blk_frozen R6.out 0; have mf1 := blk_frozen R6.out 1; have q0 := (blk_cell RK4.out 0).trans rfl; have q1 := (blk_cell RK4.out 1).trans rfl) | (go_at_call 36; (with_reducible refine (impl_Table_size.calls n0 W0 _ _ HS.out).mono ?_); rintro e w5 ⟨rfl, hb5⟩; have HB5 := Aside0.mk hb5; clear hb5))
      have hg6 : g6 ≠ B := by omega
      have BS := Aside0.mk (below_set (j := 1) (v := .int .i64 (G j)) (below_set (j := 0) (v := .int .i64 n0) (below_step HB3.out HB4.out) (show wr.heap.size ≤ g6 by omega)) (show wr.heap.size ≤ g6 by omega))
      have B5 := Aside0.mk (below_step BS.out HB5.out)
      have HR5 := Aside0.mk (Kd.R_below HR.out B5.out)
      have RK5 := Aside0.mk (blk_below RK.out B5.out)
      have R65 := Aside0.mk (blk_below (blk_put (cs := #[.int .i64 n0, .int .i64 0]) (blk_put (cs := #[.int .i64 0, .int .i64 0]) R6.out 0 (.int .i64 n0) rfl) 1 (.int .i64 (G j)) rfl) HB5.out)
      have HI5 := Aside0.mk (HST.out wr w5 _ HI.out B5.out.size (fun i hi => B5.out.block i (by omega)))
      have HK5 := Aside0.mk (KeepO.trans HK.out (KeepO.of_below B5.out B))
      have hz5 : w2.heap.size ≤ w5.heap.size := Nat.le_trans hz B5.out.size
      clear k0 k1 m0 m1 mf0 mf1 q0 q1 HR RK HI HK HC HL hx HB3 HB4 HB5 RK3 RK4 R6 BS B5 hjd
      go_loopw [22] (fun v wi => ∃ x : Nat, x ≤ N ∧ v = .int .i64 (x : Int) ∧ Aside0 ((Kd.slice 3 (Kd.int .i64)).R 38 wi w1.heap.size (fun k => k ≠ B) (.slice (some ad) ps.length c11) ps) ∧ Aside0 (wi.heap[gb]? = some (.cells #[.int .i64 n0, .int .i64 W0] 25 (0, 0))) ∧ Aside0 (wi.heap[g6]? = some (.cells #[.int .i64 n0, .int .i64 (G j)] 25 (0, 0))) ∧ Aside0 (Inv wi ((impl_Table_images.row (H j) (NH j) x).foldl step ((impl_Table_images.all N H NH j).foldl step s0))) ∧ Aside0 (KeepO w wi B) ∧ w2.heap.size ≤ wi.heap.size) (fun v _ => N - (intOf v).toNat)
      case atStart => exact ⟨0, Nat.zero_le _, rfl, HR5, RK5, R65, HI5, HK5, hz5⟩
      case round =>
        clear HR5 RK5 R65 HI5 HK5 hz5
        obtain ⟨x, hx, rfl, HR, RK, R6, HI, HK, hzi⟩ := hrel
        by_cases hxl : x < N
        · have A7 := Aside0.mk (HH.out j x hlt hxl)
          have A8 := Aside0.mk (HNH.out j x hlt hxl)
          have m0 := (blk_cell R6.out 0).trans rfl
          have m1 := (blk_cell R6.out 1).trans rfl
          have hxd : decide ((x : Int) < (N : Int)) = true := decide_eq_true (by omega)
          have tk1 : Aside0 True := ⟨True.intro⟩
          have hzw : w.heap.size ≤ wr.heap.size := by omega
          go_wp2_with (first | (go_at_call 71; (with_reducible refine (impl_Table_shift.calls n0 (G j) (x : Int) n0 (H j x) _ A7.out).mono ?_); rintro e w6 ⟨rfl, hb6⟩; have HB6 := Aside0.mk hb6; have hs6 := hb6.size; clear hb6) | (go_at_call 46; have tk_ := tk1; refine (HP.out _ _ (H j x) (impl_Table_images.mem_all N H NH _ j hlt _ (impl_Table_images.mem_row (H j) (NH j) N x hxl).1) (HST.out wr _ _ HI.out (below_alloc HB6.out _).size (fun i hi => (below_alloc HB6.out _).block i (by omega)))).mono ?_; rintro e w9 ⟨rfl, hi9, hk9⟩; have HI9 := Aside0.mk hi9; have HK9 := Aside0.mk (KeepO.trans (KeepO.of_below (below_alloc HB6.out _) B) hk9); have R9 := Aside0.mk (KeepBut.blk hk9.1 (blk_new w6 _) (by omega) (by simp)); have n0_ := (blk_cell R9.out 0).trans rfl; have n1_ := (blk_cell R9.out 1).trans rfl; clear hi9 hk9 tk_ tk1) | (go_at_call 72; (with_reducible refine (impl_Table_not.calls n0 (H j x) n0 (NH j x) _ A8.out).mono ?_); rintro e w10 ⟨rfl, hb10⟩; have HB10 := Aside0.mk hb10; clear hb10) | (go_at_call 46; refine (HP.out _ _ (NH j x) (impl_Table_images.mem_all N H NH _ j hlt _ (impl_Table_images.mem_row (H j) (NH j) N x hxl).2) (HST.out w9 _ _ HI9.out HB10.out.size (fun i hi => HB10.out.block i (by have := HK9.out.1.1; omega)))).mono ?_; rintro e w11 ⟨rfl, hi11, hk11⟩; have HI11 := Aside0.mk hi11; have HKt := Aside0.mk (KeepO.trans (KeepO.trans HK9.out (KeepO.of_below HB10.out B)) hk11); clear hi11 hk11))
          go_roundw
          case rel => exact ⟨x + 1, by omega, by go_num, ⟨Kd.R_keep HR.out HKt.out.1 (fun k hk => hk)⟩, ⟨KeepBut.blk HKt.out.1 RK.out hgbB (by simp)⟩, ⟨KeepBut.blk HKt.out.1 R6.out hg6 (by simp)⟩, ⟨by simp only [impl_Table_images.row, List.foldl_append, List.foldl_cons, List.foldl_nil]; exact HI11.out⟩, ⟨KeepO.trans HK.out HKt.out⟩, Nat.le_trans hzi HKt.out.1.1⟩
          case measure => simp [intOf]; omega
        · obtain rfl : x = N := by omega
          have hxd : decide ((x : Int) < (x : Int)) = false := decide_eq_false (by omega)
          go_wp2
          go_roundw
          case rel => exact ⟨j + 1, by omega, by go_num, HR, RK, ⟨by simp only [impl_Table_images.all, List.foldl_append]; exact HI.out⟩, HK, hzi⟩
          case measure => simp [intOf]; omega
    · obtain rfl : j = ps.length := by omega
      have hjd : decide ((ps.length : Int) < (ps.length : Int)) = false := decide_eq_false (by omega)
      go_wp2
      exact Go.Great.bodyPost_end0 (by kernel_rfl) rfl ⟨rfl, HI.out, HK.out⟩
-- EACH closure's number
set_option maxHeartbeats 4000000 in
set_option maxRecDepth 100000 in
theorem impl_Table_images.calls69 {σ : Type} (n0 W0 : Int) (caps : Array Value) (Inv : World → σ → Prop) (B : Nat) (step : σ → Int → σ) (ws : List Int) (s0 : σ) (w : World)
    (hB : B < w.heap.size) (h0 : Inv w s0)
    (hst : ∀ (W W' : World) s, Inv W s → W.heap.size ≤ W'.heap.size → (∀ i, i < w.heap.size → W'.heap[i]? = W.heap[i]?) → Inv W' s)
    (hp : ∀ (W : World) (s : σ) (b : Int), b ∈ ws → Inv W s → Calls Try.prog 69 (#[.agg #[.int .i64 n0, .int .i64 b]] ++ caps) W fun e w' => e = .returned (.tuple #[]) ∧ Inv w' (step s b) ∧ KeepO W w' B)
    (hws : impl_Table_images.f n0 W0 = some ws) :
    Calls Try.prog 44 #[.agg #[.int .i64 n0, .int .i64 W0], .func (.func 69) #[] caps] w fun e w' => e = .returned (.tuple #[]) ∧ Inv w' (ws.foldl step s0) ∧ KeepO w w' B := by
  have hu := Try.underlying25
  obtain ⟨ps, N, G, H, NH, hperm, hN32, hps, hS, hG, hH, hNH, rfl, -, -⟩ := impl_Table_images.f_is hws
  clear hws
  have HP := Aside0.mk hp
  have HPM := Aside0.mk (fun W : World => impl_permutations.callsR n0 ps W hperm)
  have HG := Aside0.mk hG
  have HS := Aside0.mk hS
  have HH := Aside0.mk hH
  have HNH := Aside0.mk hNH
  have HST := Aside0.mk hst
  have H0 := Aside0.mk h0
  clear hp hperm hG hS hH hNH hst h0
  go_enter Try.func44, Try.ntmps44
  go_wp2_with (first | ((with_reducible refine gate_dst (N := 2) rfl ?_); refine box_event ?hg (N := 2) ?hd (cs := #[.int .i64 n0, .int .i64 W0]) (t := 25) ?hr ?_; (case hd => rfl); (case hg => rfl); (case hr => first | (go_simp; done) | (go_simp; rfl)); intro gb hg w1 hbox hb; have HB1 := Aside0.mk hb; have RK := Aside0.mk hbox; have hgb := (show w.heap.size ≤ gb by omega); have hgbB : gb ≠ B := (by omega); clear hg hbox hb; have k0 := (blk_cell RK.out 0).trans rfl; have k1 := (blk_cell RK.out 1).trans rfl) | (go_at_call 47; refine (HPM.out _).mono ?_; rintro e w2 ⟨v11, rfl, hr2, hb2⟩; have HR2 := Aside0.mk hr2; have HB2 := Aside0.mk hb2; obtain ⟨A11, c11, rfl⟩ := Kd.R_slice hr2; clear hr2 hb2))
  have hz1 : w.heap.size ≤ w1.heap.size := HB1.out.size
  have hz2 : w1.heap.size ≤ w2.heap.size := HB2.out.size
  have hRe := Kd.R_mono (Kd.R_bound HR2.out) (ok' := fun k => k ≠ B) (fun k hk => by have := hk.2.1; omega)
  have HRe := Aside0.mk hRe
  have RK2 := Aside0.mk (blk_below RK.out HB2.out)
  have HI2 := Aside0.mk (HST.out w w2 s0 H0.out (by omega) (fun i hi => (HB2.out.block i (by omega)).trans (HB1.out.block i hi)))
  have HK2 := Aside0.mk (KeepO.trans (KeepO.of_below HB1.out B) (KeepO.of_below HB2.out B))
  clear hRe HR2 RK k0 k1 H0 HB1 HB2
  go_loopw [13] (fun v wr => ∃ j : Nat, j ≤ ps.length ∧ v = .int .i64 (j : Int) ∧ Aside0 ((Kd.slice 3 (Kd.int .i64)).R 38 wr w1.heap.size (fun k => k ≠ B) (.slice A11 ps.length c11) ps) ∧ Aside0 (wr.heap[gb]? = some (.cells #[.int .i64 n0, .int .i64 W0] 25 (0, 0))) ∧ Aside0 (Inv wr ((impl_Table_images.all N H NH j).foldl step s0)) ∧ Aside0 (KeepO w wr B) ∧ w2.heap.size ≤ wr.heap.size) (fun v _ => ps.length - (intOf v).toNat)
  case atStart => exact ⟨0, Nat.zero_le _, rfl, HRe, RK2, HI2, HK2, Nat.le_refl _⟩
  case round =>
    clear HRe RK2 HI2 HK2
    obtain ⟨j, hj, rfl, HR, RK, HI, HK, hz⟩ := hrel
    by_cases hlt : j < ps.length
    · obtain ⟨ad, A0, c0, eA, hx, hl, hC⟩ := impl_Table_images.el_at (Kd.R_reads' HR.out).2.2 (j : Int) (Int.natCast_nonneg _) (by omega)
      subst eA
      have HC := Aside0.mk hC
      obtain ⟨kq, hkq⟩ := HG.out j hlt
      have HKQ := Aside0.mk hkq
      clear hkq
      have HL := Aside0.mk hl
      clear hC hl
      rw [Int.toNat_natCast] at hx
      have k0 := (blk_cell RK.out 0).trans rfl
      have k1 := (blk_cell RK.out 1).trans rfl
      have hjd : decide ((j : Int) < (ps.length : Int)) = true := decide_eq_true (by omega)
      go_wp2_with (first | (go_at_call 70; (with_reducible refine (impl_Table_permute.calls kq n0 W0 A0 c0 (impl_Table_images.el ps (j : Int)) n0 (G j) _ ?s1 ?s2 HKQ.out).mono ?_); (case s1 => exact HC.out); (case s2 => exact HL.out); rintro e w3 ⟨rfl, hb3⟩; have HB3 := Aside0.mk hb3; have RK3 := Aside0.mk (blk_below RK.out hb3); clear hb3) | ((with_reducible refine gate_dst (N := 6) rfl ?_); refine box_event ?hg (N := 6) ?hd (cs := #[.int .i64 0, .int .i64 0]) (t := 25) ?hr ?_; (case hd => rfl); (case hg => rfl); (case hr => first | (go_simp; done) | (go_simp; rfl)); intro g6 hg w4 hbox hb; have HB4 := Aside0.mk hb; have R6 := Aside0.mk hbox; have RK4 := Aside0.mk (blk_below RK3.out hb); have h6z : w3.heap.size ≤ g6 := (by omega); have h63 := HB3.out.size; have h6a : g6 ≠ gb := (by have := blk_lt RK3.out; omega); have h6b : gb ≠ g6 := (fun e => h6a e.symm); clear hg hbox hb; have m0 := (blk_cell R6.out 0).trans rfl; have m1 := (blk_cell R6.out 1).trans rfl; have mf0 := blk_frozen R6.out 0; have mf1 := blk_frozen R6.out 1; have q0 := (blk_cell RK4.out 0).trans rfl; have q1 := (blk_cell RK4.out 1).trans rfl) | (go_at_call 36; (with_reducible refine (impl_Table_size.calls n0 W0 _ _ HS.out).mono ?_); rintro e w5 ⟨rfl, hb5⟩; have HB5 := Aside0.mk hb5; clear hb5))
      have hg6 : g6 ≠ B := by omega
      have BS := Aside0.mk (below_set (j := 1) (v := .int .i64 (G j)) (below_set (j := 0) (v := .int .i64 n0) (below_step HB3.out HB4.out) (show wr.heap.size ≤ g6 by omega)) (show wr.heap.size ≤ g6 by omega))
      have B5 := Aside0.mk (below_step BS.out HB5.out)
      have HR5 := Aside0.mk (Kd.R_below HR.out B5.out)
      have RK5 := Aside0.mk (blk_below RK.out B5.out)
      have R65 := Aside0.mk (blk_below (blk_put (cs := #[.int .i64 n0, .int .i64 0]) (blk_put (cs := #[.int .i64 0, .int .i64 0]) R6.out 0 (.int .i64 n0) rfl) 1 (.int .i64 (G j)) rfl) HB5.out)
      have HI5 := Aside0.mk (HST.out wr w5 _ HI.out B5.out.size (fun i hi => B5.out.block i (by omega)))
      have HK5 := Aside0.mk (KeepO.trans HK.out (KeepO.of_below B5.out B))
      have hz5 : w2.heap.size ≤ w5.heap.size := Nat.le_trans hz B5.out.size
      clear k0 k1 m0 m1 mf0 mf1 q0 q1 HR RK HI HK HC HL hx HB3 HB4 HB5 RK3 RK4 R6 BS B5 hjd
      go_loopw [22] (fun v wi => ∃ x : Nat, x ≤ N ∧ v = .int .i64 (x : Int) ∧ Aside0 ((Kd.slice 3 (Kd.int .i64)).R 38 wi w1.heap.size (fun k => k ≠ B) (.slice (some ad) ps.length c11) ps) ∧ Aside0 (wi.heap[gb]? = some (.cells #[.int .i64 n0, .int .i64 W0] 25 (0, 0))) ∧ Aside0 (wi.heap[g6]? = some (.cells #[.int .i64 n0, .int .i64 (G j)] 25 (0, 0))) ∧ Aside0 (Inv wi ((impl_Table_images.row (H j) (NH j) x).foldl step ((impl_Table_images.all N H NH j).foldl step s0))) ∧ Aside0 (KeepO w wi B) ∧ w2.heap.size ≤ wi.heap.size) (fun v _ => N - (intOf v).toNat)
      case atStart => exact ⟨0, Nat.zero_le _, rfl, HR5, RK5, R65, HI5, HK5, hz5⟩
      case round =>
        clear HR5 RK5 R65 HI5 HK5 hz5
        obtain ⟨x, hx, rfl, HR, RK, R6, HI, HK, hzi⟩ := hrel
        by_cases hxl : x < N
        · have A7 := Aside0.mk (HH.out j x hlt hxl)
          have A8 := Aside0.mk (HNH.out j x hlt hxl)
          have m0 := (blk_cell R6.out 0).trans rfl
          have m1 := (blk_cell R6.out 1).trans rfl
          have hxd : decide ((x : Int) < (N : Int)) = true := decide_eq_true (by omega)
          have tk1 : Aside0 True := ⟨True.intro⟩
          have hzw : w.heap.size ≤ wr.heap.size := by omega
          go_wp2_with (first | (go_at_call 71; (with_reducible refine (impl_Table_shift.calls n0 (G j) (x : Int) n0 (H j x) _ A7.out).mono ?_); rintro e w6 ⟨rfl, hb6⟩; have HB6 := Aside0.mk hb6; have hs6 := hb6.size; clear hb6) | (go_at_call 69; have tk_ := tk1; refine (HP.out _ _ (H j x) (impl_Table_images.mem_all N H NH _ j hlt _ (impl_Table_images.mem_row (H j) (NH j) N x hxl).1) (HST.out wr _ _ HI.out (below_alloc HB6.out _).size (fun i hi => (below_alloc HB6.out _).block i (by omega)))).mono ?_; rintro e w9 ⟨rfl, hi9, hk9⟩; have HI9 := Aside0.mk hi9; have HK9 := Aside0.mk (KeepO.trans (KeepO.of_below (below_alloc HB6.out _) B) hk9); have R9 := Aside0.mk (KeepBut.blk hk9.1 (blk_new w6 _) (by omega) (by simp)); have n0_ := (blk_cell R9.out 0).trans rfl; have n1_ := (blk_cell R9.out 1).trans rfl; clear hi9 hk9 tk_ tk1) | (go_at_call 72; (with_reducible refine (impl_Table_not.calls n0 (H j x) n0 (NH j x) _ A8.out).mono ?_); rintro e w10 ⟨rfl, hb10⟩; have HB10 := Aside0.mk hb10; clear hb10) | (go_at_call 69; refine (HP.out _ _ (NH j x) (impl_Table_images.mem_all N H NH _ j hlt _ (impl_Table_images.mem_row (H j) (NH j) N x hxl).2) (HST.out w9 _ _ HI9.out HB10.out.size (fun i hi => HB10.out.block i (by have := HK9.out.1.1; omega)))).mono ?_; rintro e w11 ⟨rfl, hi11, hk11⟩; have HI11 := Aside0.mk hi11; have HKt := Aside0.mk (KeepO.trans (KeepO.trans HK9.out (KeepO.of_below HB10.out B)) hk11); clear hi11 hk11))
          go_roundw
          case rel => exact ⟨x + 1, by omega, by go_num, ⟨Kd.R_keep HR.out HKt.out.1 (fun k hk => hk)⟩, ⟨KeepBut.blk HKt.out.1 RK.out hgbB (by simp)⟩, ⟨KeepBut.blk HKt.out.1 R6.out hg6 (by simp)⟩, ⟨by simp only [impl_Table_images.row, List.foldl_append, List.foldl_cons, List.foldl_nil]; exact HI11.out⟩, ⟨KeepO.trans HK.out HKt.out⟩, Nat.le_trans hzi HKt.out.1.1⟩
          case measure => simp [intOf]; omega
        · obtain rfl : x = N := by omega
          have hxd : decide ((x : Int) < (x : Int)) = false := decide_eq_false (by omega)
          go_wp2
          go_roundw
          case rel => exact ⟨j + 1, by omega, by go_num, HR, RK, ⟨by simp only [impl_Table_images.all, List.foldl_append]; exact HI.out⟩, HK, hzi⟩
          case measure => simp [intOf]; omega
    · obtain rfl : j = ps.length := by omega
      have hjd : decide ((ps.length : Int) < (ps.length : Int)) = false := decide_eq_false (by omega)
      go_wp2
      exact Go.Great.bodyPost_end0 (by kernel_rfl) rfl ⟨rfl, HI.out, HK.out⟩


end Go.Proofs.Yteljkpglgjjnlaa.P
