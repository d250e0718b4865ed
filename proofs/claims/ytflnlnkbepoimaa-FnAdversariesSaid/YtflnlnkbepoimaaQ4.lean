-- Out of the translation, by this session's program over the printer's; Lean checks it.
import Derived.Test.YtflnlnkbepoimaaSh
import Derived.Test.YtflnlnkbepoimaaQ0
import Derived.Test.YtflnlnkbepoimaaQ3
namespace Go.Proofs.Ytflnlnkbepoimaa.P
open Go.RowKit Go.Proofs.YtflnlnkbepoimaaW.PrintWords Go.Proofs.YtflnlnkbepoimaaW.PrintLast Go.Proofs.YtflnlnkbepoimaaW.PrintMore
attribute [local go_sem] max2_int min2_int max_two min_two max_three min_three max_four min_four
set_option linter.unusedVariables false
set_option linter.unusedSimpArgs false

/-! ### spec_DrawPlayAgainst: function 5 -/
def spec_DrawPlayAgainst.f (k : Nat) (l0 : List Int) : Option (Int × Int × List Int) := (spec_DrawPermuteTable.f k l0).bind fun bt320 => (some (bt320.1, bt320.2.1, bt320.2.2))
theorem spec_DrawPlayAgainst.mono : ∀ a0 k, LeO (spec_DrawPlayAgainst.f k a0) (spec_DrawPlayAgainst.f (k + 1) a0) := by
 intro a0 k
 unfold spec_DrawPlayAgainst.f
 repeat' first
   | (with_reducible exact spec_DrawPermuteTable.mono _ _)
   | (with_reducible exact LeO.refl _)
   | (with_reducible exact LeO.none _)
   | (with_reducible refine LeO.ite ?_ ?_)
   | (with_reducible refine LeO.bind ?_ (fun _ => ?_))
   | exact spec_DrawPermuteTable.mono _ _
   | exact LeO.none _
   | refine LeO.ite ?_ ?_
   | refine LeO.bind ?_ (fun _ => ?_)
set_option maxHeartbeats 8000000 in
set_option maxRecDepth 100000 in
theorem spec_DrawPlayAgainst.calls (k : Nat) (A0 : Option Addr) (c0 : Nat) (l0 : List Int) (r1 : Int) (r2 : Int) (r3 : List Int) (w : World) (hr0 : Kd.C (Kd.int .u8) w A0 l0.length l0) (hc0 : l0.length ≤ c0) (h : spec_DrawPlayAgainst.f k l0 = some (r1, r2, r3)) :
  Calls Try.prog 5 #[.slice A0 l0.length c0] w fun e w' => ∃ v2_ : Value, e = .returned (.tuple #[.agg #[.int .i64 r1, .int .i64 r2], v2_]) ∧ Kd.R (Kd.int .i64) 3 w' w.heap.size (fun _ => True) v2_ r3 ∧ Below w.heap.size w w' := by
 have hu25 := Try.underlying25
 have HR0 := Aside0.mk hr0
 have HC0 := Aside0.mk hc0
 clear hr0 hc0
 have HB := Aside0.mk (Below.refl w.heap.size w)
 have H : ((spec_DrawPermuteTable.f k l0).bind fun bt320 => (some (bt320.1, bt320.2.1, bt320.2.2))) = some (r1, r2, r3) := h
 clear h
 replace H := Option.bind_eq_some_iff.mp H
 obtain ⟨⟨t320, t321, t322⟩, A20, H⟩ := H
 replace H : (some (t320, t321, t322)) = some (r1, r2, r3) := H
 have A2 := Aside0.mk A20
 clear A20
 simp only [Option.some.injEq, Prod.mk.injEq] at H
 obtain ⟨rfl, rfl, rfl⟩ := H
 go_enter Try.func5, Try.ntmps5
 go_wp2_with (first | ((with_reducible refine gate_dst (N := 2) rfl ?_); refine bx_ 2 #[.int .i64 0, .int .i64 0] 25 ?_; intro gb319 hg w3 hbox hb; have BK319 := Aside0.mk (hbox); have GW319 := gw_ hg (below_size (bv_ HB)); have GE319 := GW319; replace HB := Aside0.mk (below_step (bv_ HB) hb); clear hb hbox hg) | ((with_reducible refine gate_callee (f := 21) rfl ?_); refine gl_ 8 Try.func21 #[.slice A0 l0.length c0] rfl mp_ ?_; (with_reducible refine (spec_DrawPermuteTable.calls k _ _ l0 t320 t321 t322 _ ?side1 ?side2 A2.out).mono ?_); (case side1 => exact cv_ (Kd.C_below HR0.out HB.out)); (case side2 => exact HC0.out); rintro e w4 ⟨v323, rfl, ho0, hb⟩; refine ⟨_, rfl, ?_⟩; have HO324 := Aside0.mk (Kd.R_lower ho0 (below_size (bv1_ HB GE319))); replace BK319 := kb_ BK319 hb; replace HB := Aside0.mk (below_step (bv1_ HB GE319) hb); (try clear hb); (try clear hb2); (try clear hk); (try clear hi); (try clear ho0)) | ((with_reducible refine gate_dst (N := 4) rfl ?_); refine bx_ 4 #[.int .i64 0, .int .i64 0] 25 ?_; intro gb325 hg w5 hbox hb; replace HO324 := Aside0.mk (Kd.R_below (rv_ HO324) hb); have BK325 := Aside0.mk (hbox); have GW325 := gw_ hg (below_size (bv1_ HB GE319)); have GE325 := GW325; replace HB := Aside0.mk (below_step (bv1_ HB GE319) hb); have NB319_325 := nb_ hg (blk_lt (g := gb319) (o := .cells #[.int .i64 0, .int .i64 0] 25 (0, 0)) (kv_ BK319)); have NB325_319 := nc_ hg (blk_lt (g := gb319) (o := .cells #[.int .i64 0, .int .i64 0] 25 (0, 0)) (kv_ BK319)); replace BK319 := kb_ BK319 hb; clear hb hbox hg; have hnb6 := NB325_319.out; have hnc6 := NB319_325.out; obtain ⟨hcz7_0, hcz7_1, hfz7_0, hfz7_1⟩ := c2_ BK325; obtain ⟨hcz8_0, hcz8_1, hfz8_0, hfz8_1⟩ := c2_ BK319))
 refine bodyPost_ret (results_ct rfl _ _ gb319 25 #[.int .i64 t320, .int .i64 t321] (0, 0) _ rfl (by (with_reducible repeat (first | refine blk_drewN ?_ _ | refine blk_drew ?_ | refine blk_alloc ?_ _)); refine blk_put (cs := #[.int .i64 t320, .int .i64 0]) ?_ 1 _ rfl; (with_reducible repeat (first | refine blk_drewN ?_ _ | refine blk_drew ?_ | refine blk_alloc ?_ _)); refine blk_put (cs := #[.int .i64 0, .int .i64 0]) ?_ 0 _ rfl; (with_reducible repeat (first | refine blk_drewN ?_ _ | refine blk_drew ?_ | refine blk_alloc ?_ _)); refine blk_far ?_ NB319_325.out _; (with_reducible repeat (first | refine blk_drewN ?_ _ | refine blk_drew ?_ | refine blk_alloc ?_ _)); refine blk_far ?_ NB319_325.out _; (with_reducible repeat (first | refine blk_drewN ?_ _ | refine blk_drew ?_ | refine blk_alloc ?_ _)); exact BK319.out) Try.underlying25 rfl (by kernel_rfl)) rfl ?_
 exact ⟨_, by first | rfl | (simp [errW_none, errW_some] <;> rfl) | (simp [*, errW_none, errW_some] <;> rfl), by (with_reducible repeat (first | apply Kd.R_alloc | apply Kd.R_drewN | apply Kd.R_drew)); exact Kd.R_mono (Kd.R_far (p := ⟨gb319, 1, none⟩) (Kd.R_far (p := ⟨gb319, 0, none⟩) (Kd.R_far (p := ⟨gb325, 1, none⟩) (Kd.R_far (p := ⟨gb325, 0, none⟩) (Kd.R_types (Kd.R_types HO324.out BK325.out (by decide)) BK319.out (by decide)) (fun _ hk => hk.1.2) (.int .i64 t320)) (fun _ hk => hk.1.2) (.int .i64 t321)) (fun _ hk => hk.2) (.int .i64 t320)) (fun _ hk => hk.2) (.int .i64 t321)) (fun _ hk => trivial), bv2_ HB GE319 GE325⟩


/-! ### impl_Table_size: function 46 -/
def impl_Table_size.f (a0_0 : Int) (a0_1 : Int) : Option (Int) := if 0 ≤ a0_0 then (some (shl .i64 1 a0_0)) else (none)
set_option maxHeartbeats 8000000 in
set_option maxRecDepth 100000 in
theorem impl_Table_size.calls (a0_0 : Int) (a0_1 : Int) (r : Int) (w : World) (h : impl_Table_size.f a0_0 a0_1 = some r) :
  Calls Try.prog 46 #[.agg #[.int .i64 a0_0, .int .i64 a0_1]] w fun e w' => e = .returned (.int .i64 r) ∧ Below w.heap.size w w' := by
 have hu25 := Try.underlying25
 have HB := Aside0.mk (Below.refl w.heap.size w)
 have H : (if 0 ≤ a0_0 then (some (shl .i64 1 a0_0)) else (none)) = some r := h
 clear h
 by_cases c2 : 0 ≤ a0_0
 ·rw [if_pos c2] at H
  have c2b0 := eq_true c2
  have c2b1 : decide (0 ≤ a0_0) = true := decide_eq_true c2
  clear c2
  obtain ⟨ji3, hji3⟩ : ∃ j_ : Int, (shl .i64 1 a0_0) = j_ := ⟨_, rfl⟩
  replace H : (some ji3) = some r := by first | (rw [hji3] at H; exact H) | (simp only [hji3] at H ⊢; exact H)
  have hji3_ : (IntKind.i64.wrap (1 * 2 ^ min a0_0.toNat 64)) = ji3 := hji3
  have hji3z : a0_0 ≤ 64 → (IntKind.i64.wrap (1 * 2 ^ a0_0.toNat)) = ji3 := shl_small hji3
  have hji3u : (IntKind.i64.wrap (2 ^ min a0_0.toNat 64)) = ji3 := by have h_ := hji3_; rw [Int.one_mul] at h_; exact h_
  have hji3v : a0_0 ≤ 64 → (IntKind.i64.wrap (2 ^ a0_0.toNat)) = ji3 := fun hle_ => by have h_ := hji3z hle_; rw [Int.one_mul] at h_; exact h_
  have hji3y : (wrap64 (1 * 2 ^ min a0_0.toNat 64)) = ji3 := (i64_w _).symm.trans hji3_
  have hji3x : a0_0 ≤ 64 → (wrap64 (1 * 2 ^ a0_0.toNat)) = ji3 := fun h_ => (i64_w _).symm.trans (hji3z h_)
  obtain rfl := Option.some.inj H
  go_enter Try.func46, Try.ntmps46
  go_wp2_with (first | ((with_reducible refine gate_dst (N := 1) rfl ?_); refine bx_ 1 #[.int .i64 a0_0, .int .i64 a0_1] 25 ?_; intro gb326 hg w4 hbox hb; have BK326 := Aside0.mk (hbox); have GW326 := gw_ hg (below_size (bv_ HB)); have GE326 := GW326; replace HB := Aside0.mk (below_step (bv_ HB) hb); clear hb hbox hg; obtain ⟨hcz5_0, hcz5_1, hfz5_0, hfz5_1⟩ := c2_ BK326))
  go_ret
  exact ⟨by first | rfl | (simp [errW_none, errW_some] <;> rfl) | (simp only [← hji3]; first | rfl | (simp [errW_none, errW_some] <;> rfl)) | (simp [*, errW_none, errW_some] <;> rfl), bv1_ HB GE326⟩
 ·rw [if_neg c2] at H
  exact absurd H (by simp)


/-! ### impl_isBits: function 51 -/
def impl_isBits.f (a0 : Int) : Option (Bool) := if a0 ≥ 0 then (some (decide (a0 ≤ 5))) else (some false)
set_option maxHeartbeats 8000000 in
set_option maxRecDepth 100000 in
theorem impl_isBits.calls (a0 : Int) (r : Bool) (w : World) (h : impl_isBits.f a0 = some r) :
  Calls Try.prog 51 #[.int .i64 a0] w fun e w' => e = .returned (.bool r) ∧ Drawn0 w w' := by
 have H : (if a0 ≥ 0 then (some (decide (a0 ≤ 5))) else (some false)) = some r := h
 clear h
 by_cases c2 : a0 ≥ 0
 ·rw [if_pos c2] at H
  have c2b0 : decide (0 ≤ a0) = true := decide_eq_true c2
  clear c2
  obtain rfl := Option.some.inj H
  go_enter Try.func51, Try.ntmps51
  go_wp2
  go_ret
  exact ⟨by first | rfl | (simp; done) | (simp [*]; done), by repeat (first | exact Drawn0.refl _ | apply Drawn0.step)⟩
 ·rw [if_neg c2] at H
  have c2b0 : decide (0 ≤ a0) = false := decide_eq_false c2
  clear c2
  obtain rfl := Option.some.inj H
  go_enter Try.func51, Try.ntmps51
  go_wp2
  go_ret
  exact ⟨by first | rfl | (simp; done) | (simp [*]; done), by repeat (first | exact Drawn0.refl _ | apply Drawn0.step)⟩


/-! ### impl_IsTable: function 44 -/
def impl_IsTable.f (a0_0 : Int) (a0_1 : Int) : Option (Bool) := (impl_isBits.f a0_0).bind fun t328 => (if t328 = true then (if a0_1 ≥ 0 then ((impl_Table_size.f a0_0 a0_1).bind fun t329 => (if 0 ≤ t329 then (some ((shr .i64 a0_1 t329) == 0)) else (none))) else (some false)) else (some false))
def impl_IsTable.T1 : Bool × List (List Nat × List Nat) := (true, [([], []), ([0], [0]), ([1], [1]), ([2, 2], [2]), ([3], [3]), ([4, 3], [3, 4]), ([5, 3], [3, 5]), ([3, 6], [3, 6]), ([7, 3], [7]), ([8], [8]), ([9, 8], [8, 9]), ([8], [8]), ([11, 8, 8], [8, 11]), ([10, 12, 8], [8, 10, 12]), ([13, 8], [8, 13]), ([8, 14], [8, 14]), ([15, 12, 0, 1, 2, 3, 4, 5, 6, 7, 8, 9, 10, 11, 12, 13, 14, 15], [15])])
def impl_IsTable.B1 : List Nat := [0, 1, 3, 7, 15, 31, 63, 127, 255, 511, 1023, 511, 2559, 8191, 16383, 32767, 65535]
theorem impl_IsTable.tab1 : rtab .any (opsOf Try.f44 1) = impl_IsTable.T1 := by kernel_rfl
theorem impl_IsTable.bits1 : waitsOk impl_IsTable.T1.2 impl_IsTable.B1 = true := by kernel_rfl
set_option maxHeartbeats 8000000 in
set_option maxRecDepth 100000 in
theorem impl_IsTable.calls (a0_0 : Int) (a0_1 : Int) (r : Bool) (w : World) (h : impl_IsTable.f a0_0 a0_1 = some r) :
  Calls Try.prog 44 #[.agg #[.int .i64 a0_0, .int .i64 a0_1]] w fun e w' => e = .returned (.bool r) ∧ Below w.heap.size w w' := by
 have hu25 := Try.underlying25
 have HB := Aside0.mk (Below.refl w.heap.size w)
 have H : ((impl_isBits.f a0_0).bind fun t328 => (if t328 = true then (if a0_1 ≥ 0 then ((impl_Table_size.f a0_0 a0_1).bind fun t329 => (if 0 ≤ t329 then (some ((shr .i64 a0_1 t329) == 0)) else (none))) else (some false)) else (some false))) = some r := h
 clear h
 replace H := Option.bind_eq_some_iff.mp H
 obtain ⟨t328, A20, H⟩ := H
 have A2 := Aside0.mk A20
 clear A20
 by_cases c3 : t328 = true
 ·subst c3
  rw [if_pos rfl] at H
  by_cases c4 : a0_1 ≥ 0
  ·rw [if_pos c4] at H
   have c4b0 : decide (0 ≤ a0_1) = true := decide_eq_true c4
   clear c4
   replace H := Option.bind_eq_some_iff.mp H
   obtain ⟨t329, A50, H⟩ := H
   have A5 := Aside0.mk A50
   clear A50
   by_cases c6 : 0 ≤ t329
   ·rw [if_pos c6] at H
    have c6b0 := eq_true c6
    have c6b1 : decide (0 ≤ t329) = true := decide_eq_true c6
    clear c6
    obtain ⟨ji7, hji7⟩ : ∃ j_ : Int, (shr .i64 a0_1 t329) = j_ := ⟨_, rfl⟩
    replace H : (some ((ji7) == 0)) = some r := by first | (rw [hji7] at H; exact H) | (simp only [hji7] at H ⊢; exact H)
    (try rw [hji7] at A2)
    (try rw [hji7] at A5)
    have hji7_ : (a0_1 / 2 ^ min t329.toNat 64) = ji7 := hji7
    have hji7z : t329 ≤ 64 → (a0_1 / 2 ^ t329.toNat) = ji7 := shr_small hji7
    obtain rfl := Option.some.inj H
    go_enter Try.func44, Try.ntmps44
    try go_wp2_with (first | ((with_reducible refine gate_dst (N := 1) rfl ?_); refine bx_ 1 #[.int .i64 a0_0, .int .i64 a0_1] 25 ?_; intro gb327 hg w8 hbox hb; have BK327 := Aside0.mk (hbox); have GW327 := gw_ hg (below_size (bv_ HB)); have GE327 := GW327; replace HB := Aside0.mk (below_step (bv_ HB) hb); clear hb hbox hg))
    replace BK327 := Aside0.mk (blk_drew BK327.out)
    replace HB := Aside0.mk (below_drew1 HB.out)
    refine start_ (n := 17) (S := fun w' => w'.cell? ⟨gb327, 0, none⟩ = some (.int .i64 a0_0) ∧ w'.cell? ⟨gb327, 1, none⟩ = some (.int .i64 a0_1)) (ds := []) (bs 17 0) (by kernel_rfl) rfl (by kernel_rfl) ⟨(blk_cell BK327.out 0).trans rfl, (blk_cell BK327.out 1).trans rfl⟩ (fun hHeld => ?_); refine with_tabW impl_IsTable.tab1 impl_IsTable.bits1 (fun HT_ HW_ => ?_)
    generalize w8.drew = w9 at BK327 HB hHeld ⊢
    refine pu_ HT_ 0 3 (bs 17 1) ?_
    refine ta2_ HT_ HW_ 1 4 (bs 17 3) hHeld ?_
    refine on_ HT_ 2 5 (bs 17 7) (fun K hK => ?_)
    refine goes_ Try.func51 (by kernel_rfl) rfl #[.int .i64 a0_0] (by rfl) rfl rfl mp_ ?_
    with_reducible refine (impl_isBits.calls a0_0 true _ A2.out).mono ?_
    rintro e w' ⟨rfl, ⟨nd, rfl⟩⟩
    refine ⟨_, rfl, ?_⟩
    refine hK.out _ _ ⟨(blk_cell BK327.out 0).trans rfl, (blk_cell BK327.out 1).trans rfl⟩ (fun hHeld => ?_)
    clear hK K
    refine no_ 5 ?_
    refine pu_ HT_ 3 6 (bs 17 15) ?_
    refine pu_ HT_ 4 7 (bs 17 31) ?_
    refine ta2_ HT_ HW_ 5 8 (bs 17 63) hHeld ?_
    refine pu_ HT_ 6 9 (bs 17 127) ?_
    refine pu_ HT_ 7 10 (bs 17 255) ?_
    refine pu_ HT_ 8 11 (bs 17 511) ?_
    refine pu_ HT_ 9 12 (bs 17 1023) ?_
    refine ta2_ HT_ HW_ 10 13 (bs 17 2047) hHeld ?_
    refine ta2_ HT_ HW_ 11 14 (bs 17 4095) hHeld ?_
    refine on_ HT_ 12 15 (bs 17 8191) (fun K hK => ?_)
    refine goes_ Try.func46 (by kernel_rfl) rfl #[.agg #[.int .i64 a0_0, .int .i64 a0_1]] (by rfl) rfl rfl mp_ ?_
    with_reducible refine (impl_Table_size.calls a0_0 a0_1 t329 _ A5.out).mono ?_
    rintro e w10 ⟨rfl, hb⟩
    refine ⟨_, rfl, ?_⟩
    replace BK327 := kb_ BK327 hb
    replace HB := Aside0.mk (below_step (bv1_ HB GE327) hb)
    (try clear hb)
    (try clear hb2)
    (try clear hk)
    (try clear hi)
    refine hK.out _ _ ⟨(blk_cell BK327.out 0).trans rfl, (blk_cell BK327.out 1).trans rfl⟩ (fun hHeld => ?_)
    clear hK K
    refine no_ 15 ?_
    refine pu_ HT_ 13 16 (bs 17 16383) ?_
    refine pu_ HT_ 14 17 (bs 17 32767) ?_
    refine pu_ HT_ 15 18 (bs 17 65535) ?_
    refine pu_ HT_ 16 2 (bs 17 131071) ?_
    refine done_ (done_of HT_.out (by kernel_rfl)) ?_
    try go_wp2
    go_ret
    exact ⟨by first | rfl | (simp [errW_none, errW_some] <;> rfl) | (simp only [← hji7]; first | rfl | (simp [errW_none, errW_some] <;> rfl)) | (simp [*, errW_none, errW_some] <;> rfl), bv1_ HB GE327⟩
   ·rw [if_neg c6] at H
    exact absurd H (by simp)
  ·rw [if_neg c4] at H
   have c4b0 : decide (0 ≤ a0_1) = false := decide_eq_false c4
   clear c4
   obtain rfl := Option.some.inj H
   go_enter Try.func44, Try.ntmps44
   try go_wp2_with (first | ((with_reducible refine gate_dst (N := 1) rfl ?_); refine bx_ 1 #[.int .i64 a0_0, .int .i64 a0_1] 25 ?_; intro gb327 hg w11 hbox hb; have BK327 := Aside0.mk (hbox); have GW327 := gw_ hg (below_size (bv_ HB)); have GE327 := GW327; replace HB := Aside0.mk (below_step (bv_ HB) hb); clear hb hbox hg))
   replace BK327 := Aside0.mk (blk_drew BK327.out)
   replace HB := Aside0.mk (below_drew1 HB.out)
   refine start_ (n := 17) (S := fun w' => w'.cell? ⟨gb327, 0, none⟩ = some (.int .i64 a0_0) ∧ w'.cell? ⟨gb327, 1, none⟩ = some (.int .i64 a0_1)) (ds := []) (bs 17 0) (by kernel_rfl) rfl (by kernel_rfl) ⟨(blk_cell BK327.out 0).trans rfl, (blk_cell BK327.out 1).trans rfl⟩ (fun hHeld => ?_); refine with_tabW impl_IsTable.tab1 impl_IsTable.bits1 (fun HT_ HW_ => ?_)
   generalize w11.drew = w12 at BK327 HB hHeld ⊢
   refine pu_ HT_ 0 3 (bs 17 1) ?_
   refine ta2_ HT_ HW_ 1 4 (bs 17 3) hHeld ?_
   refine on_ HT_ 2 5 (bs 17 7) (fun K hK => ?_)
   refine goes_ Try.func51 (by kernel_rfl) rfl #[.int .i64 a0_0] (by rfl) rfl rfl mp_ ?_
   with_reducible refine (impl_isBits.calls a0_0 true _ A2.out).mono ?_
   rintro e w' ⟨rfl, ⟨nd, rfl⟩⟩
   refine ⟨_, rfl, ?_⟩
   refine hK.out _ _ ⟨(blk_cell BK327.out 0).trans rfl, (blk_cell BK327.out 1).trans rfl⟩ (fun hHeld => ?_)
   clear hK K
   refine no_ 5 ?_
   refine pu_ HT_ 3 6 (bs 17 15) ?_
   refine pu_ HT_ 4 7 (bs 17 31) ?_
   refine ta2_ HT_ HW_ 5 8 (bs 17 63) hHeld ?_
   refine pu_ HT_ 6 9 (bs 17 127) ?_
   refine pu_ HT_ 7 10 (bs 17 255) ?_
   refine pu_ HT_ 8 11 (bs 17 511) ?_
   refine pure_ (i := 9) (N := some 12) (v := undef) (a' := ?_) (bs 17 1023) rfl rfl (any_of HT_.out (by kernel_rfl)) (fun _ _ _ h => h) (Or.inr ⟨by rfl, rfl⟩) ?_ ?_
   rotate_left
   ·simp only [Act.put, List.setIfInBounds_toArray, List.set_cons_zero, List.set_cons_succ, i64_w, i32_w]
    rfl
   refine pure_ (i := 10) (N := some 13) (v := undef) (a' := ?_) (bs 17 2047) rfl rfl (any_of HT_.out (by kernel_rfl)) (fun _ _ _ h => h) (Or.inr ⟨by rfl, rfl⟩) ?_ ?_
   rotate_left
   ·simp only [Act.put, List.setIfInBounds_toArray, List.set_cons_zero, List.set_cons_succ, i64_w, i32_w]
    rfl
   refine pure_ (i := 11) (N := some 14) (v := undef) (a' := ?_) (bs 17 4095) rfl rfl (any_of HT_.out (by kernel_rfl)) (fun _ _ _ h => h) (Or.inr ⟨by rfl, rfl⟩) ?_ ?_
   rotate_left
   ·simp only [Act.put, List.setIfInBounds_toArray, List.set_cons_zero, List.set_cons_succ, i64_w, i32_w]
    rfl
   refine pure_ (i := 12) (N := some 15) (v := undef) (a' := ?_) (bs 17 8191) rfl rfl (any_of HT_.out (by kernel_rfl)) (fun _ _ _ h => h) (Or.inr ⟨by rfl, rfl⟩) ?_ ?_
   rotate_left
   ·simp only [Act.put, List.setIfInBounds_toArray, List.set_cons_zero, List.set_cons_succ, i64_w, i32_w]
    rfl
   refine pure_ (i := 13) (N := some 16) (v := undef) (a' := ?_) (bs 17 16383) rfl rfl (any_of HT_.out (by kernel_rfl)) (fun _ _ _ h => h) (Or.inr ⟨by rfl, rfl⟩) ?_ ?_
   rotate_left
   ·simp only [Act.put, List.setIfInBounds_toArray, List.set_cons_zero, List.set_cons_succ, i64_w, i32_w]
    rfl
   refine pure_ (i := 14) (N := some 17) (v := undef) (a' := ?_) (bs 17 32767) rfl rfl (any_of HT_.out (by kernel_rfl)) (fun _ _ _ h => h) (Or.inr ⟨by rfl, rfl⟩) ?_ ?_
   rotate_left
   ·simp only [Act.put, List.setIfInBounds_toArray, List.set_cons_zero, List.set_cons_succ, i64_w, i32_w]
    rfl
   refine pu_ HT_ 15 18 (bs 17 65535) ?_
   refine pu_ HT_ 16 2 (bs 17 131071) ?_
   refine done_ (done_of HT_.out (by kernel_rfl)) ?_
   try go_wp2
   go_ret
   exact ⟨by first | rfl | (simp [errW_none, errW_some] <;> rfl) | (simp [*, errW_none, errW_some] <;> rfl), bv1_ HB GE327⟩
 ·replace c3 := Bool.eq_false_iff.mpr c3
  subst c3
  rw [if_neg (show ¬ (false = true) by decide)] at H
  obtain rfl := Option.some.inj H
  go_enter Try.func44, Try.ntmps44
  try go_wp2_with (first | ((with_reducible refine gate_dst (N := 1) rfl ?_); refine bx_ 1 #[.int .i64 a0_0, .int .i64 a0_1] 25 ?_; intro gb327 hg w13 hbox hb; have BK327 := Aside0.mk (hbox); have GW327 := gw_ hg (below_size (bv_ HB)); have GE327 := GW327; replace HB := Aside0.mk (below_step (bv_ HB) hb); clear hb hbox hg))
  replace BK327 := Aside0.mk (blk_drew BK327.out)
  replace HB := Aside0.mk (below_drew1 HB.out)
  refine start_ (n := 17) (S := fun w' => w'.cell? ⟨gb327, 0, none⟩ = some (.int .i64 a0_0) ∧ w'.cell? ⟨gb327, 1, none⟩ = some (.int .i64 a0_1)) (ds := []) (bs 17 0) (by kernel_rfl) rfl (by kernel_rfl) ⟨(blk_cell BK327.out 0).trans rfl, (blk_cell BK327.out 1).trans rfl⟩ (fun hHeld => ?_); refine with_tabW impl_IsTable.tab1 impl_IsTable.bits1 (fun HT_ HW_ => ?_)
  generalize w13.drew = w14 at BK327 HB hHeld ⊢
  refine pu_ HT_ 0 3 (bs 17 1) ?_
  refine ta2_ HT_ HW_ 1 4 (bs 17 3) hHeld ?_
  refine on_ HT_ 2 5 (bs 17 7) (fun K hK => ?_)
  refine goes_ Try.func51 (by kernel_rfl) rfl #[.int .i64 a0_0] (by rfl) rfl rfl mp_ ?_
  with_reducible refine (impl_isBits.calls a0_0 false _ A2.out).mono ?_
  rintro e w' ⟨rfl, ⟨nd, rfl⟩⟩
  refine ⟨_, rfl, ?_⟩
  refine hK.out _ _ ⟨(blk_cell BK327.out 0).trans rfl, (blk_cell BK327.out 1).trans rfl⟩ (fun hHeld => ?_)
  clear hK K
  refine no_ 5 ?_
  refine pu_ HT_ 3 6 (bs 17 15) ?_
  refine pure_ (i := 4) (N := some 7) (v := undef) (a' := ?_) (bs 17 31) rfl rfl (any_of HT_.out (by kernel_rfl)) (fun _ _ _ h => h) (Or.inr ⟨by rfl, rfl⟩) ?_ ?_
  rotate_left
  ·simp only [Act.put, List.setIfInBounds_toArray, List.set_cons_zero, List.set_cons_succ, i64_w, i32_w]
   rfl
  refine pure_ (i := 5) (N := some 8) (v := undef) (a' := ?_) (bs 17 63) rfl rfl (any_of HT_.out (by kernel_rfl)) (fun _ _ _ h => h) (Or.inr ⟨by rfl, rfl⟩) ?_ ?_
  rotate_left
  ·simp only [Act.put, List.setIfInBounds_toArray, List.set_cons_zero, List.set_cons_succ, i64_w, i32_w]
   rfl
  refine pure_ (i := 6) (N := some 9) (v := undef) (a' := ?_) (bs 17 127) rfl rfl (any_of HT_.out (by kernel_rfl)) (fun _ _ _ h => h) (Or.inr ⟨by rfl, rfl⟩) ?_ ?_
  rotate_left
  ·simp only [Act.put, List.setIfInBounds_toArray, List.set_cons_zero, List.set_cons_succ, i64_w, i32_w]
   rfl
  refine pu_ HT_ 7 10 (bs 17 255) ?_
  refine pu_ HT_ 8 11 (bs 17 511) ?_
  refine pure_ (i := 9) (N := some 12) (v := undef) (a' := ?_) (bs 17 1023) rfl rfl (any_of HT_.out (by kernel_rfl)) (fun _ _ _ h => h) (Or.inr ⟨by rfl, rfl⟩) ?_ ?_
  rotate_left
  ·simp only [Act.put, List.setIfInBounds_toArray, List.set_cons_zero, List.set_cons_succ, i64_w, i32_w]
   rfl
  refine pure_ (i := 10) (N := some 13) (v := undef) (a' := ?_) (bs 17 2047) rfl rfl (any_of HT_.out (by kernel_rfl)) (fun _ _ _ h => h) (Or.inr ⟨by rfl, rfl⟩) ?_ ?_
  rotate_left
  ·simp only [Act.put, List.setIfInBounds_toArray, List.set_cons_zero, List.set_cons_succ, i64_w, i32_w]
   rfl
  refine pure_ (i := 11) (N := some 14) (v := undef) (a' := ?_) (bs 17 4095) rfl rfl (any_of HT_.out (by kernel_rfl)) (fun _ _ _ h => h) (Or.inr ⟨by rfl, rfl⟩) ?_ ?_
  rotate_left
  ·simp only [Act.put, List.setIfInBounds_toArray, List.set_cons_zero, List.set_cons_succ, i64_w, i32_w]
   rfl
  refine pure_ (i := 12) (N := some 15) (v := undef) (a' := ?_) (bs 17 8191) rfl rfl (any_of HT_.out (by kernel_rfl)) (fun _ _ _ h => h) (Or.inr ⟨by rfl, rfl⟩) ?_ ?_
  rotate_left
  ·simp only [Act.put, List.setIfInBounds_toArray, List.set_cons_zero, List.set_cons_succ, i64_w, i32_w]
   rfl
  refine pure_ (i := 13) (N := some 16) (v := undef) (a' := ?_) (bs 17 16383) rfl rfl (any_of HT_.out (by kernel_rfl)) (fun _ _ _ h => h) (Or.inr ⟨by rfl, rfl⟩) ?_ ?_
  rotate_left
  ·simp only [Act.put, List.setIfInBounds_toArray, List.set_cons_zero, List.set_cons_succ, i64_w, i32_w]
   rfl
  refine pure_ (i := 14) (N := some 17) (v := undef) (a' := ?_) (bs 17 32767) rfl rfl (any_of HT_.out (by kernel_rfl)) (fun _ _ _ h => h) (Or.inr ⟨by rfl, rfl⟩) ?_ ?_
  rotate_left
  ·simp only [Act.put, List.setIfInBounds_toArray, List.set_cons_zero, List.set_cons_succ, i64_w, i32_w]
   rfl
  refine pu_ HT_ 15 18 (bs 17 65535) ?_
  refine pu_ HT_ 16 2 (bs 17 131071) ?_
  refine done_ (done_of HT_.out (by kernel_rfl)) ?_
  try go_wp2
  go_ret
  exact ⟨by first | rfl | (simp [errW_none, errW_some] <;> rfl) | (simp [*, errW_none, errW_some] <;> rfl), bv1_ HB GE327⟩


/-! ### impl_isSmall: function 22 -/
def impl_isSmall.f (a0_0 : Int) (a0_1 : Int) (a1 : Int) : Option (Bool) := (impl_IsTable.f a0_0 a0_1).bind fun t331 => (if t331 = true then (some (decide (a0_0 ≤ a1))) else (some false))
set_option maxHeartbeats 8000000 in
set_option maxRecDepth 100000 in
theorem impl_isSmall.calls (a0_0 : Int) (a0_1 : Int) (a1 : Int) (r : Bool) (w : World) (h : impl_isSmall.f a0_0 a0_1 a1 = some r) :
  Calls Try.prog 22 #[.agg #[.int .i64 a0_0, .int .i64 a0_1], .int .i64 a1] w fun e w' => e = .returned (.bool r) ∧ Below w.heap.size w w' := by
 have hu25 := Try.underlying25
 have HB := Aside0.mk (Below.refl w.heap.size w)
 have H : ((impl_IsTable.f a0_0 a0_1).bind fun t331 => (if t331 = true then (some (decide (a0_0 ≤ a1))) else (some false))) = some r := h
 clear h
 replace H := Option.bind_eq_some_iff.mp H
 obtain ⟨t331, A30, H⟩ := H
 have A3 := Aside0.mk A30
 clear A30
 by_cases c4 : t331 = true
 ·subst c4
  rw [if_pos rfl] at H
  obtain rfl := Option.some.inj H
  go_enter Try.func22, Try.ntmps22
  go_wp2_with (first | ((with_reducible refine gate_dst (N := 2) rfl ?_); refine bx_ 2 #[.int .i64 a0_0, .int .i64 a0_1] 25 ?_; intro gb330 hg w5 hbox hb; have BK330 := Aside0.mk (hbox); have GW330 := gw_ hg (below_size (bv_ HB)); have GE330 := GW330; replace HB := Aside0.mk (below_step (bv_ HB) hb); clear hb hbox hg; obtain ⟨hcz6_0, hcz6_1, hfz6_0, hfz6_1⟩ := c2_ BK330) | ((with_reducible refine gate_callee (f := 44) rfl ?_); refine gl_ 6 Try.func44 #[.agg #[.int .i64 a0_0, .int .i64 a0_1]] rfl mp_ ?_; (with_reducible refine (impl_IsTable.calls a0_0 a0_1 true _ A3.out).mono ?_); rintro e w7 ⟨rfl, hb⟩; refine ⟨_, rfl, ?_⟩; replace BK330 := kb_ BK330 hb; replace HB := Aside0.mk (below_step (bv1_ HB GE330) hb); (try clear hb); (try clear hb2); (try clear hk); (try clear hi); obtain ⟨hcz8_0, hcz8_1, hfz8_0, hfz8_1⟩ := c2_ BK330))
  go_ret
  exact ⟨by first | rfl | (simp [errW_none, errW_some] <;> rfl) | (simp [*, errW_none, errW_some] <;> rfl), bv1_ HB GE330⟩
 ·replace c4 := Bool.eq_false_iff.mpr c4
  subst c4
  rw [if_neg (show ¬ (false = true) by decide)] at H
  obtain rfl := Option.some.inj H
  go_enter Try.func22, Try.ntmps22
  go_wp2_with (first | ((with_reducible refine gate_dst (N := 2) rfl ?_); refine bx_ 2 #[.int .i64 a0_0, .int .i64 a0_1] 25 ?_; intro gb330 hg w9 hbox hb; have BK330 := Aside0.mk (hbox); have GW330 := gw_ hg (below_size (bv_ HB)); have GE330 := GW330; replace HB := Aside0.mk (below_step (bv_ HB) hb); clear hb hbox hg; obtain ⟨hcz10_0, hcz10_1, hfz10_0, hfz10_1⟩ := c2_ BK330) | ((with_reducible refine gate_callee (f := 44) rfl ?_); refine gl_ 6 Try.func44 #[.agg #[.int .i64 a0_0, .int .i64 a0_1]] rfl mp_ ?_; (with_reducible refine (impl_IsTable.calls a0_0 a0_1 false _ A3.out).mono ?_); rintro e w11 ⟨rfl, hb⟩; refine ⟨_, rfl, ?_⟩; replace BK330 := kb_ BK330 hb; replace HB := Aside0.mk (below_step (bv1_ HB GE330) hb); (try clear hb); (try clear hb2); (try clear hk); (try clear hi)))
  go_ret
  exact ⟨by first | rfl | (simp [errW_none, errW_some] <;> rfl) | (simp [*, errW_none, errW_some] <;> rfl), bv1_ HB GE330⟩


/-! ### slices_Index_int_int: function 52 -/
def slices_Index_int_int.l0 : Nat → List Int → Int → Int → Int → Option (Int)
 | 0, _, _, _, _ => none
 | k + 1, x0, x1, x7, x8 => if x8 < x7 then (if 0 ≤ x8 then (if x8 < (x0.length : Int) then (if x1 = (rd x0 x8) then (some x8) else (slices_Index_int_int.l0 k x0 x1 x7 (wrap64 (x8 + 1)))) else (none)) else (none)) else (some (-1))
def slices_Index_int_int.f (k : Nat) (l0 : List Int) (a1 : Int) : Option (Int) := slices_Index_int_int.l0 k l0 a1 (l0.length : Int) 0
theorem slices_Index_int_int.mono_l : ∀ k, (∀ y0 y1 y2 y3, LeO (slices_Index_int_int.l0 k y0 y1 y2 y3) (slices_Index_int_int.l0 (k + 1) y0 y1 y2 y3))
 | 0 => fun _ _ _ _ r h => by simp [slices_Index_int_int.l0] at h
 | k + 1 => by
  have ih0 := slices_Index_int_int.mono_l k
  ·intro y0 y1 y2 y3
   unfold slices_Index_int_int.l0
   repeat' first
   | (with_reducible exact ih0 _ _ _ _)
   | (with_reducible exact LeO.refl _)
   | (with_reducible exact LeO.none _)
   | (with_reducible refine LeO.ite ?_ ?_)
   | (with_reducible refine LeO.bind ?_ (fun _ => ?_))
   | exact ih0 _ _ _ _
   | exact LeO.none _
   | refine LeO.ite ?_ ?_
   | refine LeO.bind ?_ (fun _ => ?_)
theorem slices_Index_int_int.mono : ∀ a0 a1 k, LeO (slices_Index_int_int.f k a0 a1) (slices_Index_int_int.f (k + 1) a0 a1) := by
 intro a0 a1 k
 have ih0 := slices_Index_int_int.mono_l k
 unfold slices_Index_int_int.f
 repeat' first
   | (with_reducible exact ih0 _ _ _ _)
   | (with_reducible exact LeO.refl _)
   | (with_reducible exact LeO.none _)
   | (with_reducible refine LeO.ite ?_ ?_)
   | (with_reducible refine LeO.bind ?_ (fun _ => ?_))
   | exact ih0 _ _ _ _
   | exact LeO.none _
   | refine LeO.ite ?_ ?_
   | refine LeO.bind ?_ (fun _ => ?_)
set_option maxHeartbeats 8000000 in
set_option maxRecDepth 100000 in
theorem slices_Index_int_int.calls (k : Nat) (A0 : Option Addr) (c0 : Nat) (l0 : List Int) (a1 : Int) (r : Int) (w : World) (hr0 : Kd.C (Kd.int .i64) w A0 l0.length l0) (hc0 : l0.length ≤ c0) (h : slices_Index_int_int.f k l0 a1 = some r) :
  Calls Try.prog 52 #[.slice A0 l0.length c0, .int .i64 a1] w fun e w' => e = .returned (.int .i64 r) ∧ Drawn0 w w' := by
 have HR0 := Aside0.mk hr0
 have HC0 := Aside0.mk hc0
 clear hr0 hc0
 have H : (slices_Index_int_int.l0 k l0 a1 (l0.length : Int) 0) = some r := h
 clear h
 have H' := Aside0.mk H
 clear H
 go_enter Try.func52, Try.ntmps52
 go_wp2
 go_loopg [8] k (fun kq v8 w' => ∃ (x8_1 : Int), v8 = .int .i64 x8_1 ∧ Aside0 (slices_Index_int_int.l0 kq l0 a1 (l0.length : Int) x8_1 = some r) ∧ Aside0 (kq ≤ k) ∧ Drawn0 w w')
 case atStart => exact ⟨(0), (by first | rfl | (simp; done) | (simp [*]; done)), H', ⟨Nat.le_refl _⟩, by repeat (first | exact Drawn0.refl _ | apply Drawn0.step)⟩
 case round =>
  clear H'
  try clear p2
  obtain ⟨x8_1, rfl, HA, HK1, ⟨m1, rfl⟩⟩ := hrel
  cases gk with
  | zero => exact absurd HA.out (by simp [slices_Index_int_int.l0])
  | succ k1 =>
   have H := HA.out
   clear HA
   simp only [slices_Index_int_int.l0] at H
   by_cases c3 : x8_1 < (l0.length : Int)
   ·rw [if_pos c3] at H
    have c3b0 : decide (x8_1 < (l0.length : Int)) = true := decide_eq_true c3
    clear c3
    by_cases c4 : 0 ≤ x8_1
    ·rw [if_pos c4] at H
     have c4b0 : decide (0 ≤ x8_1) = true := decide_eq_true c4
     clear c4
     by_cases c5 : x8_1 < (l0.length : Int)
     ·rw [if_pos c5] at H
      have c5b0 : decide (x8_1 < (l0.length : Int)) = true := decide_eq_true c5
      clear c5
      by_cases c6 : a1 = (rd l0 x8_1)
      ·rw [if_pos c6] at H
       have c6b0 : (a1 == (rd l0 x8_1)) = true := beq_iff_eq.mpr c6
       have c6b1 : (a1 != (rd l0 x8_1)) = false := bne_eq_false_iff_eq.mpr c6
       clear c6
       obtain rfl := Option.some.inj H
       have p332 : 0 ≤ (x8_1 : Int) := of_decide_eq_true (by first | (with_reducible assumption) | assumption)
       have q332 : x8_1 < (l0.length : Int) := of_decide_eq_true (by first | (with_reducible assumption) | assumption)
       obtain ⟨ad332, e332, hx332_0⟩ := Kd.at_int HR0.out x8_1 p332 q332
       cases e332
       replace p332 := eq_true p332
       replace q332 := eq_true q332
       go_wp2
       go_ret
       exact ⟨by first | rfl | (simp; done) | (simp [*]; done), by repeat (first | exact Drawn0.refl _ | apply Drawn0.step)⟩
      ·rw [if_neg c6] at H
       have c6b0 : (a1 == (rd l0 x8_1)) = false := beq_eq_false_iff_ne.mpr c6
       have c6b1 : (a1 != (rd l0 x8_1)) = true := bne_iff_ne.mpr c6
       have H' := Aside0.mk H
       clear H
       have p332 : 0 ≤ (x8_1 : Int) := of_decide_eq_true (by first | (with_reducible assumption) | assumption)
       have q332 : x8_1 < (l0.length : Int) := of_decide_eq_true (by first | (with_reducible assumption) | assumption)
       obtain ⟨ad332, e332, hx332_0⟩ := Kd.at_int HR0.out x8_1 p332 q332
       cases e332
       replace p332 := eq_true p332
       replace q332 := eq_true q332
       go_wp2
       go_roundg k1
       case measure => have := HK1.out; omega
       case rel => exact ⟨(wrap64 (x8_1 + 1)), (by first | rfl | (simp; done) | (simp [*]; done)), H', ⟨by have := HK1.out; omega⟩, by repeat (first | exact Drawn0.refl _ | apply Drawn0.step)⟩
     ·rw [if_neg c5] at H
      exact absurd H (by simp)
    ·rw [if_neg c4] at H
     exact absurd H (by simp)
   ·rw [if_neg c3] at H
    have c3b0 : decide (x8_1 < (l0.length : Int)) = false := decide_eq_false c3
    clear c3
    obtain rfl := Option.some.inj H
    go_wp2
    go_ret
    exact ⟨by first | rfl | (simp; done) | (simp [*]; done), by repeat (first | exact Drawn0.refl _ | apply Drawn0.step)⟩


/-! ### slices_Contains_int_int: function 45 -/
def slices_Contains_int_int.f (k : Nat) (l0 : List Int) (a1 : Int) : Option (Bool) := (slices_Index_int_int.f k l0 a1).bind fun t333 => (some (decide (t333 ≥ 0)))
theorem slices_Contains_int_int.mono : ∀ a0 a1 k, LeO (slices_Contains_int_int.f k a0 a1) (slices_Contains_int_int.f (k + 1) a0 a1) := by
 intro a0 a1 k
 unfold slices_Contains_int_int.f
 repeat' first
   | (with_reducible exact slices_Index_int_int.mono _ _ _)
   | (with_reducible exact LeO.refl _)
   | (with_reducible exact LeO.none _)
   | (with_reducible refine LeO.ite ?_ ?_)
   | (with_reducible refine LeO.bind ?_ (fun _ => ?_))
   | exact slices_Index_int_int.mono _ _ _
   | exact LeO.none _
   | refine LeO.ite ?_ ?_
   | refine LeO.bind ?_ (fun _ => ?_)
set_option maxHeartbeats 8000000 in
set_option maxRecDepth 100000 in
theorem slices_Contains_int_int.calls (k : Nat) (A0 : Option Addr) (c0 : Nat) (l0 : List Int) (a1 : Int) (r : Bool) (w : World) (hr0 : Kd.C (Kd.int .i64) w A0 l0.length l0) (hc0 : l0.length ≤ c0) (h : slices_Contains_int_int.f k l0 a1 = some r) :
  Calls Try.prog 45 #[.slice A0 l0.length c0, .int .i64 a1] w fun e w' => e = .returned (.bool r) ∧ Drawn0 w w' := by
 have HR0 := Aside0.mk hr0
 have HC0 := Aside0.mk hc0
 clear hr0 hc0
 have H : ((slices_Index_int_int.f k l0 a1).bind fun t333 => (some (decide (t333 ≥ 0)))) = some r := h
 clear h
 replace H := Option.bind_eq_some_iff.mp H
 obtain ⟨t333, A30, H⟩ := H
 have A3 := Aside0.mk A30
 clear A30
 obtain rfl := Option.some.inj H
 go_enter Try.func45, Try.ntmps45
 go_wp2_with (first | ((with_reducible refine gate_callee (f := 52) rfl ?_); refine gl_ 7 Try.func52 #[.slice A0 l0.length c0, .int .i64 a1] rfl mp_ ?_; (with_reducible refine (slices_Index_int_int.calls k _ _ l0 a1 t333 _ ?side1 ?side2 A3.out).mono ?_); (case side1 => exact cv_ HR0.out); (case side2 => exact HC0.out); rintro e w' ⟨rfl, ⟨nd, rfl⟩⟩; refine ⟨_, rfl, ?_⟩))
 go_ret
 exact ⟨by first | rfl | (simp; done) | (simp [*]; done), by repeat (first | exact Drawn0.refl _ | apply Drawn0.step)⟩


/-! ### impl_isOrder: function 23 -/
def impl_isOrder.l0 : Nat → List Int → Int → Int → Option (Bool)
 | 0, _, _, _ => none
 | k + 1, x0, x10, x11 => if x11 < x10 then ((slices_Contains_int_int.f k x0 x11).bind fun t334 => (if t334 = true then (impl_isOrder.l0 k x0 x10 (wrap64 (x11 + 1))) else (some false))) else (some true)
def impl_isOrder.f (k : Nat) (l0 : List Int) (a1 : Int) : Option (Bool) := if (l0.length : Int) = a1 then (impl_isOrder.l0 k l0 a1 0) else (some false)
theorem impl_isOrder.mono_l : ∀ k, (∀ y0 y1 y2, LeO (impl_isOrder.l0 k y0 y1 y2) (impl_isOrder.l0 (k + 1) y0 y1 y2))
 | 0 => fun _ _ _ r h => by simp [impl_isOrder.l0] at h
 | k + 1 => by
  have ih0 := impl_isOrder.mono_l k
  ·intro y0 y1 y2
   unfold impl_isOrder.l0
   repeat' first
   | (with_reducible exact ih0 _ _ _)
   | (with_reducible exact slices_Contains_int_int.mono _ _ _)
   | (with_reducible exact LeO.refl _)
   | (with_reducible exact LeO.none _)
   | (with_reducible refine LeO.ite ?_ ?_)
   | (with_reducible refine LeO.bind ?_ (fun _ => ?_))
   | exact ih0 _ _ _
   | exact slices_Contains_int_int.mono _ _ _
   | exact LeO.none _
   | refine LeO.ite ?_ ?_
   | refine LeO.bind ?_ (fun _ => ?_)
theorem impl_isOrder.mono : ∀ a0 a1 k, LeO (impl_isOrder.f k a0 a1) (impl_isOrder.f (k + 1) a0 a1) := by
 intro a0 a1 k
 have ih0 := impl_isOrder.mono_l k
 unfold impl_isOrder.f
 repeat' first
   | (with_reducible exact ih0 _ _ _)
   | (with_reducible exact slices_Contains_int_int.mono _ _ _)
   | (with_reducible exact LeO.refl _)
   | (with_reducible exact LeO.none _)
   | (with_reducible refine LeO.ite ?_ ?_)
   | (with_reducible refine LeO.bind ?_ (fun _ => ?_))
   | exact ih0 _ _ _
   | exact slices_Contains_int_int.mono _ _ _
   | exact LeO.none _
   | refine LeO.ite ?_ ?_
   | refine LeO.bind ?_ (fun _ => ?_)
set_option maxHeartbeats 8000000 in
set_option maxRecDepth 100000 in
theorem impl_isOrder.calls (k : Nat) (A0 : Option Addr) (c0 : Nat) (l0 : List Int) (a1 : Int) (r : Bool) (w : World) (hr0 : Kd.C (Kd.int .i64) w A0 l0.length l0) (hc0 : l0.length ≤ c0) (h : impl_isOrder.f k l0 a1 = some r) :
  Calls Try.prog 23 #[.slice A0 l0.length c0, .int .i64 a1] w fun e w' => e = .returned (.bool r) ∧ Drawn0 w w' := by
 have HR0 := Aside0.mk hr0
 have HC0 := Aside0.mk hc0
 clear hr0 hc0
 have H : (if (l0.length : Int) = a1 then (impl_isOrder.l0 k l0 a1 0) else (some false)) = some r := h
 clear h
 by_cases c3 : (l0.length : Int) = a1
 ·rw [if_pos c3] at H
  have c3b0 : ((l0.length : Int) == a1) = true := beq_iff_eq.mpr c3
  have c3b1 : ((l0.length : Int) != a1) = false := bne_eq_false_iff_eq.mpr c3
  clear c3
  have H' := Aside0.mk H
  clear H
  go_enter Try.func23, Try.ntmps23
  go_wp2
  go_loopg [11] k (fun kq v11 w' => ∃ (x11_1 : Int), v11 = .int .i64 x11_1 ∧ Aside0 (impl_isOrder.l0 kq l0 a1 x11_1 = some r) ∧ Aside0 (kq ≤ k) ∧ Drawn0 w w')
  case atStart => exact ⟨(0), (by first | rfl | (simp; done) | (simp [*]; done)), H', ⟨Nat.le_refl _⟩, by repeat (first | exact Drawn0.refl _ | apply Drawn0.step)⟩
  case round =>
   clear H'
   try clear c2
   try clear p2
   try clear c3
   try clear c3b0
   try clear c3b1
   obtain ⟨x11_1, rfl, HA, HK1, ⟨m1, rfl⟩⟩ := hrel
   cases gk with
   | zero => exact absurd HA.out (by simp [impl_isOrder.l0])
   | succ k1 =>
    have H := HA.out
    clear HA
    simp only [impl_isOrder.l0] at H
    by_cases c4 : x11_1 < a1
    ·rw [if_pos c4] at H
     have c4b0 : decide (x11_1 < a1) = true := decide_eq_true c4
     clear c4
     replace H := Option.bind_eq_some_iff.mp H
     obtain ⟨t334, A50, H⟩ := H
     have A5 := Aside0.mk A50
     clear A50
     by_cases c6 : t334 = true
     ·subst c6
      rw [if_pos rfl] at H
      have H' := Aside0.mk H
      clear H
      go_wp2_with (first | ((with_reducible refine gate_callee (f := 45) rfl ?_); refine gl_ 16 Try.func45 #[.slice A0 l0.length c0, .int .i64 x11_1] rfl mp_ ?_; (with_reducible refine (slices_Contains_int_int.calls k1 _ _ l0 x11_1 true _ ?side1 ?side2 A5.out).mono ?_); (case side1 => exact cv_ HR0.out); (case side2 => exact HC0.out); rintro e w' ⟨rfl, ⟨nd, rfl⟩⟩; refine ⟨_, rfl, ?_⟩))
      go_roundg k1
      case measure => have := HK1.out; omega
      case rel => exact ⟨(wrap64 (x11_1 + 1)), (by first | rfl | (simp; done) | (simp [*]; done)), H', ⟨by have := HK1.out; omega⟩, by repeat (first | exact Drawn0.refl _ | apply Drawn0.step)⟩
     ·replace c6 := Bool.eq_false_iff.mpr c6
      subst c6
      rw [if_neg (show ¬ (false = true) by decide)] at H
      obtain rfl := Option.some.inj H
      go_wp2_with (first | ((with_reducible refine gate_callee (f := 45) rfl ?_); refine gl_ 16 Try.func45 #[.slice A0 l0.length c0, .int .i64 x11_1] rfl mp_ ?_; (with_reducible refine (slices_Contains_int_int.calls k1 _ _ l0 x11_1 false _ ?side1 ?side2 A5.out).mono ?_); (case side1 => exact cv_ HR0.out); (case side2 => exact HC0.out); rintro e w' ⟨rfl, ⟨nd, rfl⟩⟩; refine ⟨_, rfl, ?_⟩))
      go_ret
      exact ⟨by first | rfl | (simp; done) | (simp [*]; done), by repeat (first | exact Drawn0.refl _ | apply Drawn0.step)⟩
    ·rw [if_neg c4] at H
     have c4b0 : decide (x11_1 < a1) = false := decide_eq_false c4
     clear c4
     obtain rfl := Option.some.inj H
     go_wp2
     go_ret
     exact ⟨by first | rfl | (simp; done) | (simp [*]; done), by repeat (first | exact Drawn0.refl _ | apply Drawn0.step)⟩
 ·rw [if_neg c3] at H
  have c3b0 : ((l0.length : Int) == a1) = false := beq_eq_false_iff_ne.mpr c3
  have c3b1 : ((l0.length : Int) != a1) = true := bne_iff_ne.mpr c3
  obtain rfl := Option.some.inj H
  go_enter Try.func23, Try.ntmps23
  go_wp2
  go_ret
  exact ⟨by first | rfl | (simp; done) | (simp [*]; done), by repeat (first | exact Drawn0.refl _ | apply Drawn0.step)⟩


/-! ### impl_Table_at: function 47 -/
def impl_Table_at.f (a0_0 : Int) (a0_1 : Int) (a1 : Int) : Option (Int) := if 0 ≤ a1 then (some (Go.bits .and .i64 (shr .i64 a0_1 a1) 1)) else (none)
set_option maxHeartbeats 8000000 in
set_option maxRecDepth 100000 in
theorem impl_Table_at.calls (a0_0 : Int) (a0_1 : Int) (a1 : Int) (r : Int) (w : World) (h : impl_Table_at.f a0_0 a0_1 a1 = some r) :
  Calls Try.prog 47 #[.agg #[.int .i64 a0_0, .int .i64 a0_1], .int .i64 a1] w fun e w' => e = .returned (.int .i64 r) ∧ Below w.heap.size w w' := by
 have hu25 := Try.underlying25
 have HB := Aside0.mk (Below.refl w.heap.size w)
 have H : (if 0 ≤ a1 then (some (Go.bits .and .i64 (shr .i64 a0_1 a1) 1)) else (none)) = some r := h
 clear h
 by_cases c3 : 0 ≤ a1
 ·rw [if_pos c3] at H
  have c3b0 := eq_true c3
  have c3b1 : decide (0 ≤ a1) = true := decide_eq_true c3
  clear c3
  obtain ⟨ji4, hji4⟩ : ∃ j_ : Int, (shr .i64 a0_1 a1) = j_ := ⟨_, rfl⟩
  replace H : (some (Go.bits .and .i64 (ji4) 1)) = some r := by first | (rw [hji4] at H; exact H) | (simp only [hji4] at H ⊢; exact H)
  have hji4_ : (a0_1 / 2 ^ min a1.toNat 64) = ji4 := hji4
  have hji4z : a1 ≤ 64 → (a0_1 / 2 ^ a1.toNat) = ji4 := shr_small hji4
  obtain rfl := Option.some.inj H
  go_enter Try.func47, Try.ntmps47
  go_wp2_with (first | ((with_reducible refine gate_dst (N := 2) rfl ?_); refine bx_ 2 #[.int .i64 a0_0, .int .i64 a0_1] 25 ?_; intro gb335 hg w5 hbox hb; have BK335 := Aside0.mk (hbox); have GW335 := gw_ hg (below_size (bv_ HB)); have GE335 := GW335; replace HB := Aside0.mk (below_step (bv_ HB) hb); clear hb hbox hg; obtain ⟨hcz6_0, hcz6_1, hfz6_0, hfz6_1⟩ := c2_ BK335))
  go_ret
  exact ⟨by first | rfl | (simp [errW_none, errW_some] <;> rfl) | (simp only [← hji4]; first | rfl | (simp [errW_none, errW_some] <;> rfl)) | (simp [*, errW_none, errW_some] <;> rfl), bv1_ HB GE335⟩
 ·rw [if_neg c3] at H
  exact absurd H (by simp)


/-! ### impl_Table_cube: function 25 -/
/-- Does a value occur in a cube among the first inputs? -/
def impl_Table_cube.seen (W mask value b : Int) : Nat → Bool
  | 0 => false
  | x + 1 => impl_Table_cube.seen W mask value b x || ((Go.bits .and .i64 (x : Int) mask == value) && (Go.bits .and .i64 (shr .i64 W (x : Int)) 1 == b))
def impl_Table_cube.f (a0_0 a0_1 a1 a2 : Int) : Option Int :=
  if 0 ≤ a0_0 ∧ a0_0 ≤ 5 then some (if impl_Table_cube.seen a0_1 a1 a2 1 (2 ^ a0_0.toNat) = true then (if impl_Table_cube.seen a0_1 a1 a2 0 (2 ^ a0_0.toNat) = true then 2 else 1) else 0) else none
theorem impl_Table_cube.size {a : Int} (h : 0 ≤ a ∧ a ≤ 5) : ∃ N : Nat, shl .i64 1 a = (N : Int) ∧ 2 ^ a.toNat = N ∧ N ≤ 32 := by
  rcases (by omega : a = 0 ∨ a = 1 ∨ a = 2 ∨ a = 3 ∨ a = 4 ∨ a = 5) with rfl | rfl | rfl | rfl | rfl | rfl
  · exact ⟨1, by simp [shl, IntKind.wrap_i64], rfl, by omega⟩
  · exact ⟨2, by simp [shl, IntKind.wrap_i64, IntKind.bits], rfl, by omega⟩
  · exact ⟨4, by simp [shl, IntKind.wrap_i64, IntKind.bits], rfl, by omega⟩
  · exact ⟨8, by simp [shl, IntKind.wrap_i64, IntKind.bits], rfl, by omega⟩
  · exact ⟨16, by simp [shl, IntKind.wrap_i64, IntKind.bits], rfl, by omega⟩
  · exact ⟨32, by simp [shl, IntKind.wrap_i64, IntKind.bits], rfl, by omega⟩
theorem impl_Table_cube.bit (y : Int) : Go.bits .and .i64 y 1 = 0 ∨ Go.bits .and .i64 y 1 = 1 := by
  have h : ((BitVec.ofInt 64 y) &&& 1#64).toNat = (BitVec.ofInt 64 y).toNat % 2 := by
    rw [BitVec.toNat_and]
    exact Nat.and_one_is_mod _
  have h2 : Go.bits .and .i64 y 1 = IntKind.i64.wrap (((BitVec.ofInt 64 y).toNat % 2 : Nat) : Int) := by
    rw [← h]
    rfl
  rw [h2, IntKind.wrap_i64]
  rcases Nat.mod_two_eq_zero_or_one (BitVec.ofInt 64 y).toNat with e | e <;> rw [e]
  · exact .inl (by omega)
  · exact .inr (by omega)
set_option maxHeartbeats 4000000 in
set_option maxRecDepth 100000 in
theorem impl_Table_cube.calls (a0_0 a0_1 a1 a2 r : Int) (w : World) (h : impl_Table_cube.f a0_0 a0_1 a1 a2 = some r) :
    Calls Try.prog 25 #[.agg #[.int .i64 a0_0, .int .i64 a0_1], .int .i64 a1, .int .i64 a2] w fun e w' => e = .returned (.int .i64 r) ∧ Below w.heap.size w w' := by
  unfold impl_Table_cube.f at h
  by_cases hb : 0 ≤ a0_0 ∧ a0_0 ≤ 5
  case neg => rw [if_neg hb] at h; exact absurd h (by simp)
  rw [if_pos hb] at h
  have hr := Aside0.mk (Option.some.inj h)
  clear h
  obtain ⟨N, hN, hN2, hN32⟩ := impl_Table_cube.size hb
  rw [hN2] at hr
  have hu := Try.underlying25
  have hua := Try.underlying61
  have A2 := Aside0.mk (show impl_Table_size.f a0_0 a0_1 = some (N : Int) by unfold impl_Table_size.f; rw [if_pos hb.1, hN])
  clear hN hN2 hb
  go_enter Try.func25, Try.ntmps25
  go_wp2_with fail
  (with_reducible refine (impl_Table_size.calls a0_0 a0_1 _ _ A2.out).mono ?_)
  rintro e w1 ⟨rfl, hb1⟩
  have HB := Aside0.mk (((((Below.refl w.heap.size w).alloc (Nat.le_refl _) (Obj.cells #[Value.int IntKind.i64 a0_0, Value.int IntKind.i64 a0_1] 25)).alloc (by simp) (Obj.cells #[Value.bool false, Value.bool false] 61)).trans (hb1.mono (by simp; omega))))
  have BK := Aside0.mk (blk_below (blk_alloc (blk_new w (Obj.cells #[Value.int IntKind.i64 a0_0, Value.int IntKind.i64 a0_1] 25)) (Obj.cells #[Value.bool false, Value.bool false] 61)) hb1)
  have AR := Aside0.mk (blk_below (blk_new (w.alloc (Obj.cells #[Value.int IntKind.i64 a0_0, Value.int IntKind.i64 a0_1] 25)) (Obj.cells #[Value.bool false, Value.bool false] 61)) hb1)
  clear hb1 A2
  rw [show (w.alloc (Obj.cells #[Value.int IntKind.i64 a0_0, Value.int IntKind.i64 a0_1] 25)).heap.size = w.heap.size + 1 by simp] at AR
  go_wp2_with fail
  go_loopw [12] (fun v wr => ∃ i : Nat, i ≤ N ∧ v = .int .i64 (i : Int) ∧ Aside0 (wr.heap[w.heap.size]? = some (.cells #[.int .i64 a0_0, .int .i64 a0_1] 25 (0, 0))) ∧ Aside0 (wr.heap[w.heap.size + 1]? = some (.cells #[.bool (impl_Table_cube.seen a0_1 a1 a2 0 i), .bool (impl_Table_cube.seen a0_1 a1 a2 1 i)] 61 (0, 0))) ∧ Aside0 (Below w.heap.size w wr)) (fun v _ => N - (intOf v).toNat)
  case atStart => exact ⟨0, Nat.zero_le _, rfl, BK, AR, HB⟩
  case round =>
    obtain ⟨i, hi, rfl, BK, AR, HB⟩ := hrel
    by_cases hlt : i < N
    · have hc0 := blk_cell BK.out 0
      have hc1 := blk_cell BK.out 1
      replace hc0 : wr.cell? ⟨w.heap.size, 0, none⟩ = some (.int .i64 a0_0) := hc0
      replace hc1 : wr.cell? ⟨w.heap.size, 1, none⟩ = some (.int .i64 a0_1) := hc1
      by_cases hc : (Go.bits .and .i64 (i : Int) a1 == a2) = true
      · rcases impl_Table_cube.bit (shr .i64 a0_1 (i : Int)) with hat | hat
        · skip
          have A4 := Aside0.mk (show impl_Table_at.f a0_0 a0_1 (i : Int) = some 0 by unfold impl_Table_at.f; rw [if_pos (Int.natCast_nonneg _), hat])
          have S0 := Aside0.mk (show impl_Table_cube.seen a0_1 a1 a2 0 (i + 1) = true by simp only [impl_Table_cube.seen]; rw [hc, hat]; simp)
          have S1 := Aside0.mk (show impl_Table_cube.seen a0_1 a1 a2 1 (i + 1) = impl_Table_cube.seen a0_1 a1 a2 1 i by simp only [impl_Table_cube.seen]; rw [hc, hat]; simp)
          clear hat
          go_wp2_with fail
          (with_reducible refine (impl_Table_at.calls a0_0 a0_1 _ _ _ A4.out).mono ?_)
          rintro e w2 ⟨rfl, hb2⟩
          have HB2 := Aside0.mk (below_step HB.out hb2)
          have BK2 := Aside0.mk (blk_below BK.out hb2)
          have AR2 := Aside0.mk (blk_below AR.out hb2)
          clear hb2 HB BK AR A4
          have k0 := (blk_cell AR2.out 0).trans rfl
          have k1 := (blk_cell AR2.out 1).trans rfl
          have f0 := blk_frozen AR2.out 0
          have f1 := blk_frozen AR2.out 1
          go_wp2
          go_roundw
          case rel => exact ⟨i + 1, by omega, by go_num, ⟨blk_far BK2.out (by simp) _⟩, ⟨by rw [S0.out, S1.out]; exact blk_put AR2.out 0 _ rfl⟩, ⟨below_set HB2.out (by omega)⟩⟩
          case measure => simp [intOf]; omega
        · skip
          have A4 := Aside0.mk (show impl_Table_at.f a0_0 a0_1 (i : Int) = some 1 by unfold impl_Table_at.f; rw [if_pos (Int.natCast_nonneg _), hat])
          have S0 := Aside0.mk (show impl_Table_cube.seen a0_1 a1 a2 0 (i + 1) = impl_Table_cube.seen a0_1 a1 a2 0 i by simp only [impl_Table_cube.seen]; rw [hc, hat]; simp)
          have S1 := Aside0.mk (show impl_Table_cube.seen a0_1 a1 a2 1 (i + 1) = true by simp only [impl_Table_cube.seen]; rw [hc, hat]; simp)
          clear hat
          go_wp2_with fail
          (with_reducible refine (impl_Table_at.calls a0_0 a0_1 _ _ _ A4.out).mono ?_)
          rintro e w2 ⟨rfl, hb2⟩
          have HB2 := Aside0.mk (below_step HB.out hb2)
          have BK2 := Aside0.mk (blk_below BK.out hb2)
          have AR2 := Aside0.mk (blk_below AR.out hb2)
          clear hb2 HB BK AR A4
          have k0 := (blk_cell AR2.out 0).trans rfl
          have k1 := (blk_cell AR2.out 1).trans rfl
          have f0 := blk_frozen AR2.out 0
          have f1 := blk_frozen AR2.out 1
          go_wp2
          go_roundw
          case rel => exact ⟨i + 1, by omega, by go_num, ⟨blk_far BK2.out (by simp) _⟩, ⟨by rw [S0.out, S1.out]; exact blk_put AR2.out 1 _ rfl⟩, ⟨below_set HB2.out (by omega)⟩⟩
          case measure => simp [intOf]; omega
      · have hc2 : (Go.bits .and .i64 (i : Int) a1 == a2) = false := by simpa using hc
        clear hc
        have S0 := Aside0.mk (show impl_Table_cube.seen a0_1 a1 a2 0 (i + 1) = impl_Table_cube.seen a0_1 a1 a2 0 i by simp only [impl_Table_cube.seen]; rw [hc2]; simp)
        have S1 := Aside0.mk (show impl_Table_cube.seen a0_1 a1 a2 1 (i + 1) = impl_Table_cube.seen a0_1 a1 a2 1 i by simp only [impl_Table_cube.seen]; rw [hc2]; simp)
        go_wp2
        go_roundw
        case rel => exact ⟨i + 1, by omega, by go_num, BK, ⟨by rw [S0.out, S1.out]; exact AR.out⟩, HB⟩
        case measure => simp [intOf]; omega
    · obtain rfl : i = N := by omega
      have k0 := (blk_cell AR.out 0).trans rfl
      have k1 := (blk_cell AR.out 1).trans rfl
      replace hr := hr.out
      cases h0 : impl_Table_cube.seen a0_1 a1 a2 0 i <;> cases h1 : impl_Table_cube.seen a0_1 a1 a2 1 i <;> rw [h0] at k0 <;> rw [h1] at k1 <;> simp only [h0, h1, if_true, Bool.false_eq_true, if_false] at hr <;> subst hr
      all_goals
        clear h0 h1
        go_wp2
        go_ret
        exact ⟨rfl, HB.out⟩


/-! ### impl_asker_left: function 31 -/
/-- The least of the numbers that the first variables give. -/
def impl_asker_left.fold (g : Int → Int → Option Int) (m v best : Int) : Nat → Option Int
  | 0 => some best
  | i + 1 => (impl_asker_left.fold g m v best i).bind fun b =>
      if Go.bits .and .i64 (shr .i64 m (i : Int)) 1 = 0 then
        (impl_known_with.f m v (i : Int) 0).bind fun k0 => (g k0.1 k0.2).bind fun x => (impl_known_with.f m v (i : Int) 1).bind fun k1 => (g k1.1 k1.2).bind fun y => some (mn b (wrap64 (1 + mx x y)))
      else some b
def impl_asker_left.f (n W : Int) : Nat → Int → Int → Option Int
  | 0, _, _ => none
  | d + 1, m, v => (impl_Table_cube.f n W m v).bind fun c => if c = 2 then impl_asker_left.fold (impl_asker_left.f n W d) m v n n.toNat else some 0
theorem impl_asker_left.fold_mono {g g' : Int → Int → Option Int} (hg : ∀ m v, LeO (g m v) (g' m v)) (m v best : Int) : ∀ i, LeO (impl_asker_left.fold g m v best i) (impl_asker_left.fold g' m v best i)
  | 0 => LeO.refl _
  | i + 1 => by
    unfold impl_asker_left.fold
    refine LeO.bind (impl_asker_left.fold_mono hg m v best i) fun b => ?_
    split
    · exact LeO.bind (LeO.refl _) fun k0 => LeO.bind (hg _ _) fun x => LeO.bind (LeO.refl _) fun k1 => LeO.bind (hg _ _) fun y => LeO.refl _
    · exact LeO.refl _
theorem impl_asker_left.mono (n W : Int) : ∀ d m v, LeO (impl_asker_left.f n W d m v) (impl_asker_left.f n W (d + 1) m v)
  | 0, m, v => fun r h => by simp [impl_asker_left.f] at h
  | d + 1, m, v => by
    rw [impl_asker_left.f, impl_asker_left.f]
    refine LeO.bind (LeO.refl _) fun c => ?_
    split
    · exact impl_asker_left.fold_mono (impl_asker_left.mono n W d) m v n _
    · exact LeO.refl _
theorem impl_asker_left.mono_add (n W m v : Int) (d : Nat) : ∀ e, LeO (impl_asker_left.f n W d m v) (impl_asker_left.f n W (d + e) m v)
  | 0 => LeO.refl _
  | e + 1 => fun r h => impl_asker_left.mono n W (d + e) m v r (impl_asker_left.mono_add n W m v d e r h)
theorem impl_asker_left.uniq {n W m v r r' : Int} {d d' : Nat} (h : impl_asker_left.f n W d m v = some r) (h' : impl_asker_left.f n W d' m v = some r') : r = r' := by
  have h1 := impl_asker_left.mono_add n W m v d d' r h
  have h2 := impl_asker_left.mono_add n W m v d' d r' h'
  rw [Nat.add_comm] at h2
  exact Option.some.inj (h1.symm.trans h2)
theorem impl_asker_left.fold_prefix {g : Int → Int → Option Int} {m v best r : Int} {N : Nat} (h : impl_asker_left.fold g m v best N = some r) : ∀ j, j ≤ N → ∃ b, impl_asker_left.fold g m v best j = some b := by
  induction N generalizing r with
  | zero => intro j hj; obtain rfl : j = 0 := by omega
            exact ⟨_, h⟩
  | succ N ih =>
    intro j hj
    by_cases e : j = N + 1
    · subst e; exact ⟨_, h⟩
    · obtain ⟨b, hb, _⟩ := Option.bind_eq_some_iff.mp h
      exact ih hb j (by omega)
/-- What the memo of depths holds. -/
def impl_asker_left.R (n W m v c : Int) : Prop := ∃ d, impl_asker_left.f n W d m v = some c
/-- So many entries come at most. -/
def impl_asker_left.cost : Nat → Nat
  | 0 => 1
  | d + 1 => 10 * impl_asker_left.cost d + 1
theorem impl_asker_left.wrap_wf (x : Int) : (Lit.int .i64 (IntKind.i64.wrap x)).wf = true := by rw [IntKind.wrap_i64]; exact WalkArith.wf_i64 (by omega)
theorem impl_asker_left.with_wf {m v i b r1 r2 : Int} (h : impl_known_with.f m v i b = some (r1, r2)) : (Lit.int .i64 r1).wf = true ∧ (Lit.int .i64 r2).wf = true := by
  unfold impl_known_with.f at h
  split at h
  · cases h
    exact ⟨impl_asker_left.wrap_wf _, impl_asker_left.wrap_wf _⟩
  · cases h
theorem impl_asker_left.fold_wf {g : Int → Int → Option Int} {m v best r : Int} (hb : (Lit.int .i64 best).wf = true) : ∀ {j : Nat}, impl_asker_left.fold g m v best j = some r → (Lit.int .i64 r).wf = true := by
  intro j
  induction j generalizing r with
  | zero => intro h; cases h; exact hb
  | succ j ih =>
    intro h
    rw [impl_asker_left.fold] at h
    obtain ⟨b, h1, h⟩ := Option.bind_eq_some_iff.mp h
    have hb1 := ih h1
    split at h
    · obtain ⟨_, _, h⟩ := Option.bind_eq_some_iff.mp h
      obtain ⟨_, _, h⟩ := Option.bind_eq_some_iff.mp h
      obtain ⟨_, _, h⟩ := Option.bind_eq_some_iff.mp h
      obtain ⟨_, _, h⟩ := Option.bind_eq_some_iff.mp h
      cases h
      unfold mn
      split
      · exact wrap64_wf _
      · exact hb1
    · cases h; exact hb1
theorem impl_asker_left.wf {n W m v r : Int} {d : Nat} (h : impl_asker_left.f n W d m v = some r) : (Lit.int .i64 r).wf = true := by
  cases d with
  | zero => simp [impl_asker_left.f] at h
  | succ d =>
    rw [impl_asker_left.f] at h
    obtain ⟨c, hc, h⟩ := Option.bind_eq_some_iff.mp h
    have hn : 0 ≤ n ∧ n ≤ 5 := by
      unfold impl_Table_cube.f at hc
      split at hc
      · assumption
      · cases hc
    split at h
    · exact impl_asker_left.fold_wf (WalkArith.wf_i64 (by omega)) h
    · cases h; decide
set_option maxHeartbeats 4000000 in
set_option maxRecDepth 100000 in
theorem impl_asker_left.calls (n W : Int) (hn : 0 ≤ n ∧ n ≤ 5) (RS : Int → Int → Int → Prop) (g BD BS : Nat) : ∀ (d : Nat) (m v r : Int) (k : Nat) (w : World), impl_asker_left.f n W d m v = some r → (Lit.int .i64 m).wf = true → (Lit.int .i64 v).wf = true →
    impl_Table_asking.S n W (impl_asker_left.R n W) RS g BD BS k w → k + impl_asker_left.cost d < 4294967296 →
    Calls Try.prog 31 #[.pointer (some ⟨g, 0, none⟩), .agg #[.int .i64 m, .int .i64 v]] w fun e w' => e = .returned (.int .i64 r) ∧ impl_Table_asking.S n W (impl_asker_left.R n W) RS g BD BS (k + impl_asker_left.cost d) w' ∧ w.grownBy w' (some BD) := by
  intro d
  induction d with
  | zero => intro m v r k w h; simp [impl_asker_left.f] at h
  | succ d ih =>
    intro m v r k w h wm wv hS hk
    have IH := Aside0.mk ih
    have A := Aside0.mk h
    have HS := Aside0.mk hS
    have hu := Try.underlying44
    have hua := Try.underlying60
    have hut := Try.underlying25
    clear ih h hS
    go_enter Try.func31, Try.ntmps31
    go_wp2_with ((with_reducible refine gate_dst (N := 3) rfl ?_); refine box_event ?hg (N := 3) ?hd (cs := #[.int .i64 m, .int .i64 v]) (t := 44) ?hr ?_; (case hd => rfl); (case hg => rfl); (case hr => first | (go_simp; done) | (go_simp; rfl)); intro gb hg w1 hbox hb; have S1 := Aside0.mk (HS.out.kept hb); have RK := Aside0.mk hbox; have GE := Aside0.mk (Nat.le_of_eq hg.symm); have G1 := Aside0.mk (grown_of_below hb (some BD)); clear hg hbox hb; obtain ⟨c, b, hrun, hR⟩ := (S1.out.kept (below_drew1 (Below.refl w1.heap.size w1))).depth.look wm wv; have HR := Aside0.mk hR; clear hR; have c0 := (blk_cell S1.out.blk 0).trans rfl; have c1 := (blk_cell S1.out.blk 1).trans rfl; have c2 := (blk_cell S1.out.blk 2).trans rfl; have c3 := (blk_cell S1.out.blk 3).trans rfl; have k0 := (blk_cell RK.out 0).trans rfl; have k1 := (blk_cell RK.out 1).trans rfl)
    go_region
    have S2 := Aside0.mk (S1.out.kept (below_drew1 (Below.refl w1.heap.size w1)))
    have RK2 := Aside0.mk (blk_drew RK.out)
    have G2 := Aside0.mk (show w.grownBy w1.drew (some BD) from ⟨G1.out.os, G1.out.tape, G1.out.output, G1.out.size, G1.out.block⟩)
    clear S1 RK G1 hrun c0 c1 c2 c3 k0 k1
    generalize w1.drew = w2 at S2 RK2 G2 ⊢
    have c0 := (blk_cell S2.out.blk 0).trans rfl
    have c1 := (blk_cell S2.out.blk 1).trans rfl
    have c2 := (blk_cell S2.out.blk 2).trans rfl
    have c3 := (blk_cell S2.out.blk 3).trans rfl
    have k0 := (blk_cell RK2.out 0).trans rfl
    have k1 := (blk_cell RK2.out 1).trans rfl
    cases b with
    | true =>
      have hcr : c = r := by
        obtain ⟨d', h'⟩ := HR.out rfl
        exact impl_asker_left.uniq h' A.out
      subst hcr
      go_wp2_with fail
      go_ret
      exact ⟨rfl, S2.out.mono (by omega), G2.out⟩
    | false =>
      obtain ⟨t, ht, h2⟩ := Option.bind_eq_some_iff.mp A.out
      have AT := Aside0.mk ht
      have A2 := Aside0.mk h2
      clear ht h2 HR
      by_cases h2 : t = 2
      · subst h2
        have h2 := A2.out
        rw [if_pos rfl] at h2
        have AF := Aside0.mk h2
        clear h2 A2
        go_wp2_with fail
        go_region_held3 (fun w' => w'.cell? ⟨g, 0, none⟩ = some (.int .i64 n) ∧ w'.cell? ⟨g, 1, none⟩ = some (.int .i64 W) ∧ w'.cell? ⟨gb, 0, none⟩ = some (.int .i64 m) ∧ w'.cell? ⟨gb, 1, none⟩ = some (.int .i64 v)) (first | go_keep | exact ⟨pw_cell_below hb3 c0, pw_cell_below hb3 c1, pw_cell_below hb3 k0, pw_cell_below hb3 k1⟩) (first | (go_at_call 25; (with_reducible refine (impl_Table_cube.calls n W _ _ _ _ AT.out).mono ?_); rintro e w3 ⟨rfl, hb3⟩))
        have S3 := Aside0.mk (S2.out.kept (below_step (below_drew1 (Below.refl w2.heap.size w2)) hb3))
        have RK3 := Aside0.mk (blk_below (blk_drew RK2.out) hb3)
        have G3 := Aside0.mk (G2.out.trans (grown_of_below (below_step (below_drew1 (Below.refl w2.heap.size w2)) hb3) (some BD)))
        clear S2 RK2 G2 c0 c1 c2 c3 k0 k1 hb3
        have c0 := (blk_cell S3.out.blk 0).trans rfl
        go_wp2_with fail
        obtain ⟨N, rfl⟩ := Int.eq_ofNat_of_zero_le hn.1
        replace AF : Aside0 (impl_asker_left.fold (impl_asker_left.f N W d) m v N N = some r) := AF
        go_loopw [7, 40] (fun x7 x40 wr => ∃ (j : Nat) (b : Int), j ≤ N ∧ x7 = .int .i64 b ∧ x40 = .int .i64 (j : Int) ∧ Aside0 (impl_asker_left.fold (impl_asker_left.f N W d) m v N j = some b) ∧ Aside0 (impl_Table_asking.S N W (impl_asker_left.R N W) RS g BD BS (k + 2 * j * impl_asker_left.cost d) wr) ∧ Aside0 (wr.heap[gb]? = some (.cells #[.int .i64 m, .int .i64 v] 44 (0, 0))) ∧ Aside0 (w.grownBy wr (some BD))) (fun _ x40 _ => N - (intOf x40).toNat)
        case atStart => exact ⟨0, _, Nat.zero_le _, rfl, rfl, ⟨rfl⟩, ⟨by simpa using S3.out⟩, RK3, G3⟩
        case round =>
          obtain ⟨j, b, hj, rfl, rfl, AJ, SJ, RJ, GJ⟩ := hrel
          have k0 := (blk_cell RJ.out 0).trans rfl
          have k1 := (blk_cell RJ.out 1).trans rfl
          by_cases hlt : j < N
          · obtain ⟨b2, hb2⟩ := impl_asker_left.fold_prefix AF.out (j + 1) hlt
            have hb3 := hb2
            rw [impl_asker_left.fold, AJ.out, Option.bind_some] at hb3
            have AN := Aside0.mk hb2
            have hsh : shr .i64 m (j : Int) = m / 2 ^ j := by
              unfold shr
              rw [Int.toNat_natCast, Nat.min_eq_left (show j ≤ IntKind.i64.bits by show j ≤ 64; omega)]
            by_cases hq : Go.bits .and .i64 (shr .i64 m (j : Int)) 1 = 0
            · rw [if_pos hq] at hb3
              obtain ⟨⟨m0, v0⟩, e0, hb3⟩ := Option.bind_eq_some_iff.mp hb3
              obtain ⟨x, ex, hb3⟩ := Option.bind_eq_some_iff.mp hb3
              obtain ⟨⟨m1, v1⟩, e1, hb3⟩ := Option.bind_eq_some_iff.mp hb3
              obtain ⟨y, ey, hb3⟩ := Option.bind_eq_some_iff.mp hb3
              have A0 := Aside0.mk e0
              have A1 := Aside0.mk e1
              have AX : Aside0 (impl_asker_left.f N W d m0 v0 = some x) := ⟨ex⟩
              have AY : Aside0 (impl_asker_left.f N W d m1 v1 = some y) := ⟨ey⟩
              have hb4 := Option.some.inj hb3
              have AB := Aside0.mk hb4
              have hne : some gb ≠ some BD := by have := SJ.out.depth.ne RJ.out; simp [this]
              have hqb : (Go.bits .and .i64 (m / 2 ^ j) 1 == 0) = true := by rw [← hsh]; exact beq_iff_eq.mpr hq
              have hc2 : k + 2 * j * impl_asker_left.cost d + impl_asker_left.cost d + impl_asker_left.cost d = k + 2 * (j + 1) * impl_asker_left.cost d := by
                rw [Nat.mul_add, Nat.add_mul]; omega
              have hcj : k + 2 * j * impl_asker_left.cost d + impl_asker_left.cost d + impl_asker_left.cost d < 4294967296 := by
                have h1 : 2 * (j + 1) * impl_asker_left.cost d ≤ 10 * impl_asker_left.cost d := Nat.mul_le_mul_right _ (by omega)
                have h2 : k + (10 * impl_asker_left.cost d + 1) < 4294967296 := hk
                omega
              have HC2 := Aside0.mk hc2
              clear hc2
              clear e0 e1 ex ey hb2 hb3 hb4 hq hsh
              go_wp2_with fail
              go_region_held3 (fun w' => w'.cell? ⟨gb, 0, none⟩ = some (.int .i64 m) ∧ w'.cell? ⟨gb, 1, none⟩ = some (.int .i64 v))
                (first | go_keep | exact ⟨(blk_cell Rd.out 0).trans rfl, (blk_cell Rd.out 1).trans rfl⟩ | exact ⟨(blk_cell Rc.out 0).trans rfl, (blk_cell Rc.out 1).trans rfl⟩ | exact ⟨(blk_cell Rb.out 0).trans rfl, (blk_cell Rb.out 1).trans rfl⟩ | exact ⟨(blk_cell Ra.out 0).trans rfl, (blk_cell Ra.out 1).trans rfl⟩)
                (first
                  | (go_at_call 26; (with_reducible refine (impl_known_with.calls m v _ 0 _ _ _ A0.out).mono ?_); rintro e wa ⟨rfl, hba⟩; have Sa := Aside0.mk (SJ.out.kept (below_step (below_drew1 (Below.refl wr.heap.size wr)) hba)); have Ra := Aside0.mk (blk_below (blk_drew RJ.out) hba); have Ga := Aside0.mk (GJ.out.trans (grown_of_below (below_step (below_drew1 (Below.refl wr.heap.size wr)) hba) (some BD))))
                  | (go_at_call 31; (with_reducible refine (IH.out m0 v0 x _ _ AX.out (impl_asker_left.with_wf A0.out).1 (impl_asker_left.with_wf A0.out).2 Sa.out (by omega)).mono ?_); rintro e wb ⟨rfl, hsb, hgb⟩; have Sb := Aside0.mk hsb; have Rb := Aside0.mk (blk_grown Ra.out hgb hne); have Gb := Aside0.mk (Ga.out.trans hgb); clear hsb hgb)
                  | (go_at_call 26; (with_reducible refine (impl_known_with.calls m v _ 1 _ _ _ A1.out).mono ?_); rintro e wc ⟨rfl, hbc⟩; have Sc := Aside0.mk (Sb.out.kept hbc); have Rc := Aside0.mk (blk_below Rb.out hbc); have Gc := Aside0.mk (Gb.out.trans (grown_of_below hbc (some BD))))
                  | (go_at_call 31; (with_reducible refine (IH.out m1 v1 y _ _ AY.out (impl_asker_left.with_wf A1.out).1 (impl_asker_left.with_wf A1.out).2 Sc.out (by omega)).mono ?_); rintro e wd ⟨rfl, hsd, hgd⟩; have Sd := Aside0.mk hsd; have Rd := Aside0.mk (blk_grown Rc.out hgd hne); have Gd := Aside0.mk (Gc.out.trans hgd); clear hsd hgd))
              go_wp2_with fail
              go_roundw
              case rel => exact ⟨j + 1, b2, by omega, by rw [← AB.out]; simp only [i64_w]; rfl, by go_num, AN, ⟨HC2.out ▸ Sd.out⟩, Rd, Gd⟩
              case measure => simp [intOf]; omega
            · rw [if_neg hq] at hb3
              have hqb : (Go.bits .and .i64 (m / 2 ^ j) 1 == 0) = false := by rw [← hsh]; simpa using hq
              obtain rfl := Option.some.inj hb3
              clear hb2 hb3 hq hsh
              have SJ2 : Aside0 (impl_Table_asking.S N W (impl_asker_left.R N W) RS g BD BS (k + 2 * (j + 1) * impl_asker_left.cost d) wr) := ⟨SJ.out.mono (Nat.add_le_add_left (Nat.mul_le_mul_right _ (by omega)) _)⟩
              go_wp2_with fail
              go_roundw
              case rel => exact ⟨j + 1, b, by omega, rfl, by go_num, AN, SJ2, RJ, GJ⟩
              case measure => simp [intOf]; omega
          · obtain rfl : j = N := by omega
            have hbr : b = r := Option.some.inj (AJ.out.symm.trans AF.out)
            subst hbr
            have hk2 : k + 2 * j * impl_asker_left.cost d + 1 ≤ k + impl_asker_left.cost (d + 1) := by
              have h1 : 2 * j * impl_asker_left.cost d ≤ 10 * impl_asker_left.cost d := Nat.mul_le_mul_right _ (by omega)
              show _ ≤ k + (10 * impl_asker_left.cost d + 1)
              omega
            have HK2 := Aside0.mk hk2
            have c2 := (blk_cell SJ.out.blk 2).trans rfl
            have S4 := Aside0.mk (SJ.out.kept (below_drew1 (Below.refl wr.heap.size wr)))
            obtain ⟨w5, hrun, hm5, ht5⟩ := S4.out.depth.store (by unfold maxLen; omega) wm wv (c := b) (impl_asker_left.wf A.out) ⟨_, A.out⟩
            have M5 := Aside0.mk hm5
            have T5 := Aside0.mk ht5
            clear hm5 ht5 hk2
            go_wp2_with fail
            go_region
            go_wp2_with fail
            go_ret
            exact ⟨rfl, (S4.out.stored M5.out T5.out).mono HK2.out, GJ.out.trans (World.grownBy.trans (grown_of_below (below_drew1 (Below.refl wr.heap.size wr)) (some BD)) T5.out.grown)⟩
      · have hr : r = 0 := by
          have := A2.out
          rw [if_neg h2] at this
          exact (Option.some.inj this).symm
        subst hr
        have hb2 : (t == 2) = false := by simpa using h2
        go_wp2_with fail
        go_region_held3 (fun w' => w'.cell? ⟨g, 0, none⟩ = some (.int .i64 n) ∧ w'.cell? ⟨g, 1, none⟩ = some (.int .i64 W) ∧ w'.cell? ⟨gb, 0, none⟩ = some (.int .i64 m) ∧ w'.cell? ⟨gb, 1, none⟩ = some (.int .i64 v)) (first | go_keep | exact ⟨pw_cell_below hb3 c0, pw_cell_below hb3 c1, pw_cell_below hb3 k0, pw_cell_below hb3 k1⟩) (first | (go_at_call 25; (with_reducible refine (impl_Table_cube.calls n W _ _ _ _ AT.out).mono ?_); rintro e w3 ⟨rfl, hb3⟩))
        go_wp2_with fail
        have S3 := Aside0.mk (S2.out.kept (below_step (below_drew1 (Below.refl w2.heap.size w2)) hb3))
        have RK3 := Aside0.mk (blk_below (blk_drew RK2.out) hb3)
        have G3 := Aside0.mk (G2.out.trans (grown_of_below (below_step (below_drew1 (Below.refl w2.heap.size w2)) hb3) (some BD)))
        clear S2 RK2 G2 c0 c1 c2 c3 k0 k1 hb3
        have c2 := (blk_cell S3.out.blk 2).trans rfl
        have k0 := (blk_cell RK3.out 0).trans rfl
        have k1 := (blk_cell RK3.out 1).trans rfl
        have S4 := Aside0.mk (S3.out.kept (below_drew1 (Below.refl w3.heap.size w3)))
        obtain ⟨w5, hrun, hm5, ht5⟩ := S4.out.depth.store (by unfold maxLen; omega) wm wv (c := 0) (by decide) ⟨_, A.out⟩
        have M5 := Aside0.mk hm5
        have T5 := Aside0.mk ht5
        clear hm5 ht5
        go_region
        go_wp2_with fail
        go_ret
        exact ⟨rfl, (S4.out.stored M5.out T5.out).mono (by show k + 1 ≤ k + (10 * impl_asker_left.cost d + 1); omega), G3.out.trans (World.grownBy.trans (grown_of_below (below_drew1 (Below.refl w3.heap.size w3)) (some BD)) T5.out.grown)⟩
theorem impl_asker_left.range {n W m v r : Int} {d : Nat} (h : impl_asker_left.f n W d m v = some r) : 0 ≤ n ∧ n ≤ 5 := by
  cases d with
  | zero => simp [impl_asker_left.f] at h
  | succ d =>
    rw [impl_asker_left.f] at h
    obtain ⟨c, hc, h⟩ := Option.bind_eq_some_iff.mp h
    unfold impl_Table_cube.f at hc
    split at hc
    · assumption
    · cases hc


end Go.Proofs.Ytflnlnkbepoimaa.P
