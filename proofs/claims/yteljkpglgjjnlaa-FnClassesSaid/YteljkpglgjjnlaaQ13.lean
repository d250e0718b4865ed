-- Out of the translation, by this session's program over the printer's; Lean checks it.
import Derived.Test.YteljkpglgjjnlaaSh
import Derived.Test.YteljkpglgjjnlaaQ0
import Derived.Test.YteljkpglgjjnlaaQ3
import Derived.Test.YteljkpglgjjnlaaQ6
import Derived.Test.YteljkpglgjjnlaaQ7
import Derived.Test.YteljkpglgjjnlaaQ9
import Derived.Test.YteljkpglgjjnlaaQ12
namespace Go.Proofs.Yteljkpglgjjnlaa.P
open Go.RowKit Go.Proofs.YteljkpglgjjnlaaW.PrintWords Go.Proofs.YteljkpglgjjnlaaW.PrintLast Go.Proofs.YteljkpglgjjnlaaW.PrintMore
attribute [local go_sem] max2_int min2_int max_two min_two max_three min_three max_four min_four
set_option linter.unusedVariables false
set_option linter.unusedSimpArgs false

/-! ### spec_DrawAreAlike: function 23 -/
def spec_DrawAreAlike.f (k : Nat) (l0 : List Int) : Option (Int × Int × Int × Int) := (spec_l4Pair.f k l0).bind fun bt929 => (some (bt929.1, bt929.2.1, bt929.2.2.1, bt929.2.2.2))
theorem spec_DrawAreAlike.mono : ∀ a0 k, LeO (spec_DrawAreAlike.f k a0) (spec_DrawAreAlike.f (k + 1) a0) := by
 intro a0 k
 unfold spec_DrawAreAlike.f
 repeat' first
   | (with_reducible exact spec_l4Pair.mono _ _)
   | (with_reducible exact LeO.refl _)
   | (with_reducible exact LeO.none _)
   | (with_reducible refine LeO.ite ?_ ?_)
   | (with_reducible refine LeO.bind ?_ (fun _ => ?_))
   | exact spec_l4Pair.mono _ _
   | exact LeO.none _
   | refine LeO.ite ?_ ?_
   | refine LeO.bind ?_ (fun _ => ?_)
set_option maxHeartbeats 8000000 in
set_option maxRecDepth 100000 in
theorem spec_DrawAreAlike.calls (k : Nat) (A0 : Option Addr) (c0 : Nat) (l0 : List Int) (r1 : Int) (r2 : Int) (r3 : Int) (r4 : Int) (w : World) (hr0 : Kd.C (Kd.int .u8) w A0 l0.length l0) (hc0 : l0.length ≤ c0) (h : spec_DrawAreAlike.f k l0 = some (r1, r2, r3, r4)) :
  Calls Try.prog 23 #[.slice A0 l0.length c0] w fun e w' => e = .returned (.tuple #[.agg #[.int .i64 r1, .int .i64 r2], .agg #[.int .i64 r3, .int .i64 r4]]) ∧ Below w.heap.size w w' := by
 have hu25 := Try.underlying25
 have HR0 := Aside0.mk hr0
 have HC0 := Aside0.mk hc0
 clear hr0 hc0
 have HB := Aside0.mk (Below.refl w.heap.size w)
 have H : ((spec_l4Pair.f k l0).bind fun bt929 => (some (bt929.1, bt929.2.1, bt929.2.2.1, bt929.2.2.2))) = some (r1, r2, r3, r4) := h
 clear h
 replace H := Option.bind_eq_some_iff.mp H
 obtain ⟨⟨t929, t930, t931, t932⟩, A20, H⟩ := H
 replace H : (some (t929, t930, t931, t932)) = some (r1, r2, r3, r4) := H
 have A2 := Aside0.mk A20
 clear A20
 simp only [Option.some.injEq, Prod.mk.injEq] at H
 obtain ⟨rfl, rfl, rfl, rfl⟩ := H
 go_enter Try.func23, Try.ntmps23
 try go_wp2_with (first | ((with_reducible refine gate_dst (N := 2) rfl ?_); refine bx_ 2 #[.int .i64 0, .int .i64 0] 25 ?_; intro gb927 hg w3 hbox hb; have BK927 := Aside0.mk (hbox); have GW927 := gw_ hg (below_size (bv_ HB)); have GE927 := GW927; replace HB := Aside0.mk (below_step (bv_ HB) hb); clear hb hbox hg) | ((with_reducible refine gate_dst (N := 3) rfl ?_); refine bx_ 3 #[.int .i64 0, .int .i64 0] 25 ?_; intro gb928 hg w4 hbox hb; have BK928 := Aside0.mk (hbox); have GW928 := gw_ hg (below_size (bv1_ HB GE927)); have GE928 := GW928; replace HB := Aside0.mk (below_step (bv1_ HB GE927) hb); have NB927_928 := nb_ hg (blk_lt (g := gb927) (o := .cells #[.int .i64 0, .int .i64 0] 25 (0, 0)) (kv_ BK927)); have NB928_927 := nc_ hg (blk_lt (g := gb927) (o := .cells #[.int .i64 0, .int .i64 0] 25 (0, 0)) (kv_ BK927)); replace BK927 := kb_ BK927 hb; clear hb hbox hg) | ((with_reducible refine gate_callee (f := 55) rfl ?_); refine gl_ 8 Try.func55 #[.slice A0 l0.length c0] rfl mp_ ?_; (with_reducible refine (spec_l4Pair.calls k _ _ l0 t929 t930 t931 t932 _ ?side1 ?side2 A2.out).mono ?_); (case side1 => exact cv_ (Kd.C_below HR0.out HB.out)); (case side2 => exact HC0.out); rintro e w5 ⟨rfl, hb⟩; refine ⟨_, rfl, ?_⟩; replace BK927 := kb_ BK927 hb; replace BK928 := kb_ BK928 hb; replace HB := Aside0.mk (below_step (bv2_ HB GE927 GE928) hb); (try clear hb); (try clear hb2); (try clear hk); (try clear hi)) | ((with_reducible refine gate_dst (N := 4) rfl ?_); refine bx_ 4 #[.int .i64 0, .int .i64 0] 25 ?_; intro gb933 hg w6 hbox hb; have BK933 := Aside0.mk (hbox); have GW933 := gw_ hg (below_size (bv2_ HB GE927 GE928)); have GE933 := GW933; replace HB := Aside0.mk (below_step (bv2_ HB GE927 GE928) hb); have NB927_933 := nb_ hg (blk_lt (g := gb927) (o := .cells #[.int .i64 0, .int .i64 0] 25 (0, 0)) (kv_ BK927)); have NB933_927 := nc_ hg (blk_lt (g := gb927) (o := .cells #[.int .i64 0, .int .i64 0] 25 (0, 0)) (kv_ BK927)); replace BK927 := kb_ BK927 hb; have NB928_933 := nb_ hg (blk_lt (g := gb928) (o := .cells #[.int .i64 0, .int .i64 0] 25 (0, 0)) (kv_ BK928)); have NB933_928 := nc_ hg (blk_lt (g := gb928) (o := .cells #[.int .i64 0, .int .i64 0] 25 (0, 0)) (kv_ BK928)); replace BK928 := kb_ BK928 hb; clear hb hbox hg) | ((with_reducible refine gate_dst (N := 5) rfl ?_); refine bx_ 5 #[.int .i64 0, .int .i64 0] 25 ?_; intro gb934 hg w7 hbox hb; have BK934 := Aside0.mk (hbox); have GW934 := gw_ hg (below_size (bv3_ HB GE927 GE928 GE933)); have GE934 := GW934; replace HB := Aside0.mk (below_step (bv3_ HB GE927 GE928 GE933) hb); have NB927_934 := nb_ hg (blk_lt (g := gb927) (o := .cells #[.int .i64 0, .int .i64 0] 25 (0, 0)) (kv_ BK927)); have NB934_927 := nc_ hg (blk_lt (g := gb927) (o := .cells #[.int .i64 0, .int .i64 0] 25 (0, 0)) (kv_ BK927)); replace BK927 := kb_ BK927 hb; have NB928_934 := nb_ hg (blk_lt (g := gb928) (o := .cells #[.int .i64 0, .int .i64 0] 25 (0, 0)) (kv_ BK928)); have NB934_928 := nc_ hg (blk_lt (g := gb928) (o := .cells #[.int .i64 0, .int .i64 0] 25 (0, 0)) (kv_ BK928)); replace BK928 := kb_ BK928 hb; have NB933_934 := nb_ hg (blk_lt (g := gb933) (o := .cells #[.int .i64 0, .int .i64 0] 25 (0, 0)) (kv_ BK933)); have NB934_933 := nc_ hg (blk_lt (g := gb933) (o := .cells #[.int .i64 0, .int .i64 0] 25 (0, 0)) (kv_ BK933)); replace BK933 := kb_ BK933 hb; clear hb hbox hg; have hnb8 := NB933_927.out; have hnc8 := NB927_933.out; have hnb9 := NB933_928.out; have hnc9 := NB928_933.out; have hnb10 := NB933_934.out; have hnc10 := NB934_933.out; obtain ⟨hcz11_0, hcz11_1, hfz11_0, hfz11_1⟩ := c2_ BK933; have hnb12 := NB934_927.out; have hnc12 := NB927_934.out; have hnb13 := NB934_928.out; have hnc13 := NB928_934.out; obtain ⟨hcz14_0, hcz14_1, hfz14_0, hfz14_1⟩ := c2_ BK934))
 have n0_ : Aside0 (((((w7.setCell ⟨gb933, 0, none⟩ (.int .i64 t929)).setCell ⟨gb933, 1, none⟩ (.int .i64 t930)).setCell ⟨gb934, 0, none⟩ (.int .i64 t931)).setCell ⟨gb934, 1, none⟩ (.int .i64 t932)).heap[gb927]? = some (.cells #[.int .i64 0, .int .i64 0] 25 (0, 0))) := ⟨by (with_reducible repeat (first | refine blk_drewN ?_ _ | refine blk_drew ?_ | refine blk_alloc ?_ _)); refine blk_far ?_ NB927_934.out _; (with_reducible repeat (first | refine blk_drewN ?_ _ | refine blk_drew ?_ | refine blk_alloc ?_ _)); refine blk_far ?_ NB927_934.out _; (with_reducible repeat (first | refine blk_drewN ?_ _ | refine blk_drew ?_ | refine blk_alloc ?_ _)); refine blk_far ?_ NB927_933.out _; (with_reducible repeat (first | refine blk_drewN ?_ _ | refine blk_drew ?_ | refine blk_alloc ?_ _)); refine blk_far ?_ NB927_933.out _; (with_reducible repeat (first | refine blk_drewN ?_ _ | refine blk_drew ?_ | refine blk_alloc ?_ _)); exact BK927.out⟩
 have n1_ : Aside0 (((((w7.setCell ⟨gb933, 0, none⟩ (.int .i64 t929)).setCell ⟨gb933, 1, none⟩ (.int .i64 t930)).setCell ⟨gb934, 0, none⟩ (.int .i64 t931)).setCell ⟨gb934, 1, none⟩ (.int .i64 t932)).heap[gb928]? = some (.cells #[.int .i64 0, .int .i64 0] 25 (0, 0))) := ⟨by (with_reducible repeat (first | refine blk_drewN ?_ _ | refine blk_drew ?_ | refine blk_alloc ?_ _)); refine blk_far ?_ NB928_934.out _; (with_reducible repeat (first | refine blk_drewN ?_ _ | refine blk_drew ?_ | refine blk_alloc ?_ _)); refine blk_far ?_ NB928_934.out _; (with_reducible repeat (first | refine blk_drewN ?_ _ | refine blk_drew ?_ | refine blk_alloc ?_ _)); refine blk_far ?_ NB928_933.out _; (with_reducible repeat (first | refine blk_drewN ?_ _ | refine blk_drew ?_ | refine blk_alloc ?_ _)); refine blk_far ?_ NB928_933.out _; (with_reducible repeat (first | refine blk_drewN ?_ _ | refine blk_drew ?_ | refine blk_alloc ?_ _)); exact BK928.out⟩
 have n2_ : Aside0 (((((w7.setCell ⟨gb933, 0, none⟩ (.int .i64 t929)).setCell ⟨gb933, 1, none⟩ (.int .i64 t930)).setCell ⟨gb934, 0, none⟩ (.int .i64 t931)).setCell ⟨gb934, 1, none⟩ (.int .i64 t932)).heap[gb933]? = some (.cells #[.int .i64 t929, .int .i64 t930] 25 (0, 0))) := ⟨by (with_reducible repeat (first | refine blk_drewN ?_ _ | refine blk_drew ?_ | refine blk_alloc ?_ _)); refine blk_far ?_ NB933_934.out _; (with_reducible repeat (first | refine blk_drewN ?_ _ | refine blk_drew ?_ | refine blk_alloc ?_ _)); refine blk_far ?_ NB933_934.out _; (with_reducible repeat (first | refine blk_drewN ?_ _ | refine blk_drew ?_ | refine blk_alloc ?_ _)); refine blk_put (cs := #[.int .i64 t929, .int .i64 0]) ?_ 1 _ rfl; (with_reducible repeat (first | refine blk_drewN ?_ _ | refine blk_drew ?_ | refine blk_alloc ?_ _)); refine blk_put (cs := #[.int .i64 0, .int .i64 0]) ?_ 0 _ rfl; (with_reducible repeat (first | refine blk_drewN ?_ _ | refine blk_drew ?_ | refine blk_alloc ?_ _)); exact BK933.out⟩
 have n3_ : Aside0 (((((w7.setCell ⟨gb933, 0, none⟩ (.int .i64 t929)).setCell ⟨gb933, 1, none⟩ (.int .i64 t930)).setCell ⟨gb934, 0, none⟩ (.int .i64 t931)).setCell ⟨gb934, 1, none⟩ (.int .i64 t932)).heap[gb934]? = some (.cells #[.int .i64 t931, .int .i64 t932] 25 (0, 0))) := ⟨by (with_reducible repeat (first | refine blk_drewN ?_ _ | refine blk_drew ?_ | refine blk_alloc ?_ _)); refine blk_put (cs := #[.int .i64 t931, .int .i64 0]) ?_ 1 _ rfl; (with_reducible repeat (first | refine blk_drewN ?_ _ | refine blk_drew ?_ | refine blk_alloc ?_ _)); refine blk_put (cs := #[.int .i64 0, .int .i64 0]) ?_ 0 _ rfl; (with_reducible repeat (first | refine blk_drewN ?_ _ | refine blk_drew ?_ | refine blk_alloc ?_ _)); refine blk_far ?_ NB934_933.out _; (with_reducible repeat (first | refine blk_drewN ?_ _ | refine blk_drew ?_ | refine blk_alloc ?_ _)); refine blk_far ?_ NB934_933.out _; (with_reducible repeat (first | refine blk_drewN ?_ _ | refine blk_drew ?_ | refine blk_alloc ?_ _)); exact BK934.out⟩
 have n4_ : Aside0 (Below w.heap.size w ((((w7.setCell ⟨gb933, 0, none⟩ (.int .i64 t929)).setCell ⟨gb933, 1, none⟩ (.int .i64 t930)).setCell ⟨gb934, 0, none⟩ (.int .i64 t931)).setCell ⟨gb934, 1, none⟩ (.int .i64 t932))) := ⟨bv4_ HB GE927 GE928 GE933 GE934⟩
 (try clear BK927)
 (try clear BK928)
 (try clear BK933)
 (try clear BK934)
 (try clear HB)
 generalize ((((w7.setCell ⟨gb933, 0, none⟩ (.int .i64 t929)).setCell ⟨gb933, 1, none⟩ (.int .i64 t930)).setCell ⟨gb934, 0, none⟩ (.int .i64 t931)).setCell ⟨gb934, 1, none⟩ (.int .i64 t932)) = w15 at n0_ n1_ n2_ n3_ n4_ ⊢
 have BK927 := n0_
 have BK928 := n1_
 have BK933 := n2_
 have BK934 := n3_
 have HB := n4_
 clear n0_ n1_ n2_ n3_ n4_
 replace BK927 := Aside0.mk (blk_drew BK927.out)
 replace BK928 := Aside0.mk (blk_drew BK928.out)
 replace BK933 := Aside0.mk (blk_drew BK933.out)
 replace BK934 := Aside0.mk (blk_drew BK934.out)
 replace HB := Aside0.mk (below_drew1 HB.out)
 refine start_ (n := 4) (S := fun w' => w'.cell? ⟨gb933, 0, none⟩ = some (.int .i64 t929) ∧ w'.cell? ⟨gb933, 1, none⟩ = some (.int .i64 t930) ∧ w'.cell? ⟨gb934, 0, none⟩ = some (.int .i64 t931) ∧ w'.cell? ⟨gb934, 1, none⟩ = some (.int .i64 t932)) (ds := []) (bs 4 0) (by kernel_rfl) rfl (by kernel_rfl) ⟨(blk_cell BK933.out 0).trans rfl, (blk_cell BK933.out 1).trans rfl, (blk_cell BK934.out 0).trans rfl, (blk_cell BK934.out 1).trans rfl⟩ (fun hHeld => ?_)
 generalize w15.drew = w16 at BK927 BK928 BK933 BK934 HB hHeld ⊢
 refine take_ (i := 0) (N := some 11) (v := ?_) (a' := ?_) (bs 4 1) rfl rfl (by kernel_rfl) (fun _ _ _ h => h) (Or.inl ⟨by rfl, ?_⟩) hHeld ?_ ?_
 rotate_left
 ·rintro w' ⟨s0, s1, s2, s3⟩
  go_simp
  with_reducible rfl
 rotate_left
 ·simp only [Act.put, List.setIfInBounds_toArray, List.set_cons_zero, List.set_cons_succ, i64_w, i32_w]
  rfl
 refine take_ (i := 1) (N := some 12) (v := ?_) (a' := ?_) (bs 4 3) rfl rfl (by kernel_rfl) (fun _ _ _ h => h) (Or.inl ⟨by rfl, ?_⟩) hHeld ?_ ?_
 rotate_left
 ·rintro w' ⟨s0, s1, s2, s3⟩
  go_simp
  with_reducible rfl
 rotate_left
 ·simp only [Act.put, List.setIfInBounds_toArray, List.set_cons_zero, List.set_cons_succ, i64_w, i32_w]
  rfl
 refine one_ (i := 2) (N := none) (bs 4 7) rfl rfl (by kernel_rfl) (by decide) (fun K hK => ?_)
 have hs17 : w16.cell? ⟨gb927, 0, none⟩ = some (.int .i64 0) := (blk_cell BK927.out 0).trans rfl
 have hfs17 := blk_frozen BK927.out 0
 have hns17_1 := NB928_927.out
 have hns17_2 := NB933_927.out
 have hns17_3 := NB934_927.out
 have hms17_1 := NB927_928.out
 have hms17_2 := NB927_933.out
 have hms17_3 := NB927_934.out
 have hs18 : w16.cell? ⟨gb927, 1, none⟩ = some (.int .i64 0) := (blk_cell BK927.out 1).trans rfl
 have hfs18 := blk_frozen BK927.out 1
 have hns18_1 := NB928_927.out
 have hns18_2 := NB933_927.out
 have hns18_3 := NB934_927.out
 have hms18_1 := NB927_928.out
 have hms18_2 := NB927_933.out
 have hms18_3 := NB927_934.out
 refine skip_ (w1 := ?_) (by rfl) rfl ?_ ?_
 rotate_left
 ·go_simp
  rfl
 refine hK.out _ _ ⟨((cell_far (p := ⟨gb927, _, none⟩) NB933_927.out _).trans (((cell_far (p := ⟨gb927, _, none⟩) NB933_927.out _).trans (hHeld.1)))), ((cell_far (p := ⟨gb927, _, none⟩) NB933_927.out _).trans (((cell_far (p := ⟨gb927, _, none⟩) NB933_927.out _).trans (hHeld.2.1)))), ((cell_far (p := ⟨gb927, _, none⟩) NB934_927.out _).trans (((cell_far (p := ⟨gb927, _, none⟩) NB934_927.out _).trans (hHeld.2.2.1)))), ((cell_far (p := ⟨gb927, _, none⟩) NB934_927.out _).trans (((cell_far (p := ⟨gb927, _, none⟩) NB934_927.out _).trans (hHeld.2.2.2))))⟩ (fun hHeld => ?_)
 clear hK K
 refine one_ (i := 3) (N := none) (bs 4 15) rfl rfl (by kernel_rfl) (by decide) (fun K hK => ?_)
 have hs19 : w16.cell? ⟨gb928, 0, none⟩ = some (.int .i64 0) := (blk_cell BK928.out 0).trans rfl
 have hfs19 := blk_frozen BK928.out 0
 have hns19_0 := NB927_928.out
 have hns19_2 := NB933_928.out
 have hns19_3 := NB934_928.out
 have hms19_0 := NB928_927.out
 have hms19_2 := NB928_933.out
 have hms19_3 := NB928_934.out
 have hs20 : w16.cell? ⟨gb928, 1, none⟩ = some (.int .i64 0) := (blk_cell BK928.out 1).trans rfl
 have hfs20 := blk_frozen BK928.out 1
 have hns20_0 := NB927_928.out
 have hns20_2 := NB933_928.out
 have hns20_3 := NB934_928.out
 have hms20_0 := NB928_927.out
 have hms20_2 := NB928_933.out
 have hms20_3 := NB928_934.out
 refine skip_ (w1 := ?_) (by rfl) rfl ?_ ?_
 rotate_left
 ·go_simp
  rfl
 refine hK.out _ _ ⟨((cell_far (p := ⟨gb928, _, none⟩) NB933_928.out _).trans (((cell_far (p := ⟨gb928, _, none⟩) NB933_928.out _).trans (hHeld.1)))), ((cell_far (p := ⟨gb928, _, none⟩) NB933_928.out _).trans (((cell_far (p := ⟨gb928, _, none⟩) NB933_928.out _).trans (hHeld.2.1)))), ((cell_far (p := ⟨gb928, _, none⟩) NB934_928.out _).trans (((cell_far (p := ⟨gb928, _, none⟩) NB934_928.out _).trans (hHeld.2.2.1)))), ((cell_far (p := ⟨gb928, _, none⟩) NB934_928.out _).trans (((cell_far (p := ⟨gb928, _, none⟩) NB934_928.out _).trans (hHeld.2.2.2))))⟩ (fun hHeld => ?_)
 clear hK K
 refine done_ (by kernel_rfl) ?_
 try go_wp2
 refine bodyPost_ret (results_cc rfl _ _ gb927 gb928 25 25 #[.int .i64 t929, .int .i64 t930] #[.int .i64 t931, .int .i64 t932] (0, 0) (0, 0) _ _ rfl (by (with_reducible repeat (first | refine blk_drewN ?_ _ | refine blk_drew ?_ | refine blk_alloc ?_ _)); refine blk_far ?_ NB927_928.out _; (with_reducible repeat (first | refine blk_drewN ?_ _ | refine blk_drew ?_ | refine blk_alloc ?_ _)); refine blk_far ?_ NB927_928.out _; (with_reducible repeat (first | refine blk_drewN ?_ _ | refine blk_drew ?_ | refine blk_alloc ?_ _)); refine blk_put (cs := #[.int .i64 t929, .int .i64 0]) ?_ 1 _ rfl; (with_reducible repeat (first | refine blk_drewN ?_ _ | refine blk_drew ?_ | refine blk_alloc ?_ _)); refine blk_put (cs := #[.int .i64 0, .int .i64 0]) ?_ 0 _ rfl; (with_reducible repeat (first | refine blk_drewN ?_ _ | refine blk_drew ?_ | refine blk_alloc ?_ _)); exact BK927.out) Try.underlying25 rfl (by kernel_rfl) rfl (by (with_reducible repeat (first | refine blk_drewN ?_ _ | refine blk_drew ?_ | refine blk_alloc ?_ _)); refine blk_put (cs := #[.int .i64 t931, .int .i64 0]) ?_ 1 _ rfl; (with_reducible repeat (first | refine blk_drewN ?_ _ | refine blk_drew ?_ | refine blk_alloc ?_ _)); refine blk_put (cs := #[.int .i64 0, .int .i64 0]) ?_ 0 _ rfl; (with_reducible repeat (first | refine blk_drewN ?_ _ | refine blk_drew ?_ | refine blk_alloc ?_ _)); refine blk_far ?_ NB928_927.out _; (with_reducible repeat (first | refine blk_drewN ?_ _ | refine blk_drew ?_ | refine blk_alloc ?_ _)); refine blk_far ?_ NB928_927.out _; (with_reducible repeat (first | refine blk_drewN ?_ _ | refine blk_drew ?_ | refine blk_alloc ?_ _)); exact BK928.out) Try.underlying25 rfl (by kernel_rfl)) rfl ?_
 exact ⟨er_, bv4_ HB GE927 GE928 GE933 GE934⟩


/-! ### spec_DrawCountTableClasses: function 24 -/
def spec_DrawCountTableClasses.f (k : Nat) (l0 : List Int) : Option (Int) := (spec_l1New.f k l0).bind fun bt935 => ((spec_l1Below.f bt935.1 bt935.2.1 bt935.2.2 6).bind fun bt939 => (some (wrap64 (bt939.1 - 1))))
theorem spec_DrawCountTableClasses.mono : ∀ a0 k, LeO (spec_DrawCountTableClasses.f k a0) (spec_DrawCountTableClasses.f (k + 1) a0) := by
 intro a0 k
 unfold spec_DrawCountTableClasses.f
 repeat' first
   | (with_reducible exact spec_l1New.mono _ _)
   | (with_reducible exact LeO.refl _)
   | (with_reducible exact LeO.none _)
   | (with_reducible refine LeO.ite ?_ ?_)
   | (with_reducible refine LeO.bind ?_ (fun _ => ?_))
   | exact spec_l1New.mono _ _
   | exact LeO.none _
   | refine LeO.ite ?_ ?_
   | refine LeO.bind ?_ (fun _ => ?_)
set_option maxHeartbeats 8000000 in
set_option maxRecDepth 100000 in
theorem spec_DrawCountTableClasses.calls (k : Nat) (A0 : Option Addr) (c0 : Nat) (l0 : List Int) (r : Int) (w : World) (hr0 : Kd.C (Kd.int .u8) w A0 l0.length l0) (hc0 : l0.length ≤ c0) (h : spec_DrawCountTableClasses.f k l0 = some r) :
  Calls Try.prog 24 #[.slice A0 l0.length c0] w fun e w' => e = .returned (.int .i64 r) ∧ Below w.heap.size w w' := by
 have HR0 := Aside0.mk hr0
 have HC0 := Aside0.mk hc0
 clear hr0 hc0
 have HB := Aside0.mk (Below.refl w.heap.size w)
 have H : ((spec_l1New.f k l0).bind fun bt935 => ((spec_l1Below.f bt935.1 bt935.2.1 bt935.2.2 6).bind fun bt939 => (some (wrap64 (bt939.1 - 1))))) = some r := h
 clear h
 replace H := Option.bind_eq_some_iff.mp H
 obtain ⟨⟨t935, t936, t937⟩, A20, H⟩ := H
 replace H : ((spec_l1Below.f t935 t936 t937 6).bind fun bt939 => (some (wrap64 (bt939.1 - 1)))) = some r := H
 have A2 := Aside0.mk A20
 clear A20
 replace H := Option.bind_eq_some_iff.mp H
 obtain ⟨⟨t939, t940, t941⟩, A30, H⟩ := H
 replace H : (some (wrap64 (t939 - 1))) = some r := H
 have A3 := Aside0.mk A30
 clear A30
 obtain rfl := Option.some.inj H
 go_enter Try.func24, Try.ntmps24
 go_wp2_with (first | ((with_reducible refine gate_callee (f := 40) rfl ?_); refine gl_ 4 Try.func40 #[.slice A0 l0.length c0] rfl mp_ ?_; (with_reducible refine (spec_l1New.calls k _ _ l0 t935 t936 t937 w _ ?side1 ?side2 ?side3 A2.out).mono ?_); (case side1 => repeat (first | (with_reducible first | exact HB.out | apply below_alloc | apply pw_below_drewN | apply below_drew1) | exact HB.out)); (case side2 => exact HR0.out); (case side3 => exact HC0.out); rintro e w4 ⟨g938, rfl, hi, hb, hb2⟩; refine ⟨_, rfl, ?_⟩; replace HB := Aside0.mk (hb); have HI938 := Aside0.mk (hi); (try clear hb); (try clear hb2); (try clear hk); (try clear hi)) | ((with_reducible refine gate_callee (f := 56) rfl ?_); refine gl_ 5 Try.func56 #[.pointer (some ⟨g938, 0, none⟩), .int .i64 6] rfl mp_ ?_; (with_reducible refine (spec_l1Below.calls g938 t935 t936 t937 6 t939 t940 t941 w _ ?side1 ?side2 A3.out).mono ?_); (case side1 => exact ia_ HI938); (case side2 => exact bi_ HB HI938); rintro e w5 ⟨rfl, hi, hb, hk⟩; refine ⟨_, rfl, ?_⟩; replace HB := Aside0.mk (hb); replace HI938 := Aside0.mk (hi); (try clear hb); (try clear hb2); (try clear hk); (try clear hi)))
 go_ret
 exact ⟨er_, bi_ HB HI938⟩


/-! ### spec_DrawPermutationsOf: function 25 -/
def spec_DrawPermutationsOf.f (k : Nat) (l0 : List Int) : Option (Int) := (spec_l1New.f k l0).bind fun bt942 => ((spec_l1Below.f bt942.1 bt942.2.1 bt942.2.2 7).bind fun bt946 => (some (wrap64 (bt946.1 - 1))))
theorem spec_DrawPermutationsOf.mono : ∀ a0 k, LeO (spec_DrawPermutationsOf.f k a0) (spec_DrawPermutationsOf.f (k + 1) a0) := by
 intro a0 k
 unfold spec_DrawPermutationsOf.f
 repeat' first
   | (with_reducible exact spec_l1New.mono _ _)
   | (with_reducible exact LeO.refl _)
   | (with_reducible exact LeO.none _)
   | (with_reducible refine LeO.ite ?_ ?_)
   | (with_reducible refine LeO.bind ?_ (fun _ => ?_))
   | exact spec_l1New.mono _ _
   | exact LeO.none _
   | refine LeO.ite ?_ ?_
   | refine LeO.bind ?_ (fun _ => ?_)
set_option maxHeartbeats 8000000 in
set_option maxRecDepth 100000 in
theorem spec_DrawPermutationsOf.calls (k : Nat) (A0 : Option Addr) (c0 : Nat) (l0 : List Int) (r : Int) (w : World) (hr0 : Kd.C (Kd.int .u8) w A0 l0.length l0) (hc0 : l0.length ≤ c0) (h : spec_DrawPermutationsOf.f k l0 = some r) :
  Calls Try.prog 25 #[.slice A0 l0.length c0] w fun e w' => e = .returned (.int .i64 r) ∧ Below w.heap.size w w' := by
 have HR0 := Aside0.mk hr0
 have HC0 := Aside0.mk hc0
 clear hr0 hc0
 have HB := Aside0.mk (Below.refl w.heap.size w)
 have H : ((spec_l1New.f k l0).bind fun bt942 => ((spec_l1Below.f bt942.1 bt942.2.1 bt942.2.2 7).bind fun bt946 => (some (wrap64 (bt946.1 - 1))))) = some r := h
 clear h
 replace H := Option.bind_eq_some_iff.mp H
 obtain ⟨⟨t942, t943, t944⟩, A20, H⟩ := H
 replace H : ((spec_l1Below.f t942 t943 t944 7).bind fun bt946 => (some (wrap64 (bt946.1 - 1)))) = some r := H
 have A2 := Aside0.mk A20
 clear A20
 replace H := Option.bind_eq_some_iff.mp H
 obtain ⟨⟨t946, t947, t948⟩, A30, H⟩ := H
 replace H : (some (wrap64 (t946 - 1))) = some r := H
 have A3 := Aside0.mk A30
 clear A30
 obtain rfl := Option.some.inj H
 go_enter Try.func25, Try.ntmps25
 go_wp2_with (first | ((with_reducible refine gate_callee (f := 40) rfl ?_); refine gl_ 4 Try.func40 #[.slice A0 l0.length c0] rfl mp_ ?_; (with_reducible refine (spec_l1New.calls k _ _ l0 t942 t943 t944 w _ ?side1 ?side2 ?side3 A2.out).mono ?_); (case side1 => repeat (first | (with_reducible first | exact HB.out | apply below_alloc | apply pw_below_drewN | apply below_drew1) | exact HB.out)); (case side2 => exact HR0.out); (case side3 => exact HC0.out); rintro e w4 ⟨g945, rfl, hi, hb, hb2⟩; refine ⟨_, rfl, ?_⟩; replace HB := Aside0.mk (hb); have HI945 := Aside0.mk (hi); (try clear hb); (try clear hb2); (try clear hk); (try clear hi)) | ((with_reducible refine gate_callee (f := 56) rfl ?_); refine gl_ 5 Try.func56 #[.pointer (some ⟨g945, 0, none⟩), .int .i64 7] rfl mp_ ?_; (with_reducible refine (spec_l1Below.calls g945 t942 t943 t944 7 t946 t947 t948 w _ ?side1 ?side2 A3.out).mono ?_); (case side1 => exact ia_ HI945); (case side2 => exact bi_ HB HI945); rintro e w5 ⟨rfl, hi, hb, hk⟩; refine ⟨_, rfl, ?_⟩; replace HB := Aside0.mk (hb); replace HI945 := Aside0.mk (hi); (try clear hb); (try clear hb2); (try clear hk); (try clear hi)))
 go_ret
 exact ⟨er_, bi_ HB HI945⟩


/-! ### spec_PermutationsOf: function 26 -/
def spec_PermutationsOf.f (k : Nat) (a0 : Int) : Option ((List (List Int)) × Bool) := (spec_l1In.f a0 0 4).bind fun t949 => (if t949 = true then ((spec_l4Perms.f k a0 (([] : List Int))).bind fun t953 => (some (t953, true))) else (some ((([] : List (List Int))), false)))
theorem spec_PermutationsOf.mono : ∀ a0 k, LeO (spec_PermutationsOf.f k a0) (spec_PermutationsOf.f (k + 1) a0) := by
 intro a0 k
 unfold spec_PermutationsOf.f
 repeat' first
   | (with_reducible exact spec_l4Perms.mono _ _ _)
   | (with_reducible exact LeO.refl _)
   | (with_reducible exact LeO.none _)
   | (with_reducible refine LeO.ite ?_ ?_)
   | (with_reducible refine LeO.bind ?_ (fun _ => ?_))
   | exact spec_l4Perms.mono _ _ _
   | exact LeO.none _
   | refine LeO.ite ?_ ?_
   | refine LeO.bind ?_ (fun _ => ?_)
set_option maxHeartbeats 8000000 in
set_option maxRecDepth 100000 in
theorem spec_PermutationsOf.calls (k : Nat) (a0 : Int) (r1 : List (List Int)) (r2 : Bool) (w : World) (h : spec_PermutationsOf.f k a0 = some (r1, r2)) :
  Calls Try.prog 26 #[.int .i64 a0] w fun e w' => ∃ v0_ : Value, e = .returned (.tuple #[v0_, .bool r2]) ∧ Kd.N (Kd.slice 3 (Kd.int .i64)) 38 w' w.heap.size (fun k_ => (w.heap.size ≤ k_)) v0_ r1 ∧ Below w.heap.size w w' := by
 have HB := Aside0.mk (Below.refl w.heap.size w)
 have H : ((spec_l1In.f a0 0 4).bind fun t949 => (if t949 = true then ((spec_l4Perms.f k a0 (([] : List Int))).bind fun t953 => (some (t953, true))) else (some ((([] : List (List Int))), false)))) = some (r1, r2) := h
 clear h
 replace H := Option.bind_eq_some_iff.mp H
 obtain ⟨t949, A20, H⟩ := H
 have A2 := Aside0.mk A20
 clear A20
 by_cases c3 : t949 = true
 ·subst c3
  rw [if_pos rfl] at H
  obtain ⟨y950, hy950⟩ : ∃ y_ : List Int, y_ = (([] : List Int)) := ⟨_, rfl⟩
  replace H : ((spec_l4Perms.f k a0 y950).bind fun t953 => (some (t953, true))) = some (r1, r2) := by first | (rw [hy950]; with_reducible exact H) | (have H2_ := (Option.bind_some _ _).symm.trans H; rw [hy950]; with_reducible exact H2_) | (have H2_ := (Option.bind_some _ _).symm.trans H; with_reducible exact H2_) | with_reducible exact H | (rw [hy950]; exact H) | exact H
  have Ny950 := Aside0.mk hy950
  clear hy950
  replace H := Option.bind_eq_some_iff.mp H
  obtain ⟨t953, A40, H⟩ := H
  have A4 := Aside0.mk A40
  clear A40
  simp only [Option.some.injEq, Prod.mk.injEq] at H
  obtain ⟨rfl, rfl⟩ := H
  go_enter Try.func26, Try.ntmps26
  go_wp2_with (first | ((with_reducible refine gate_callee (f := 50) rfl ?_); refine gl_ 5 Try.func50 #[.int .i64 a0, .int .i64 0, .int .i64 4] rfl mp_ ?_; (with_reducible refine (spec_l1In.calls a0 0 4 true _ A2.out).mono ?_); rintro e w' ⟨rfl, ⟨nd, rfl⟩⟩; refine ⟨_, rfl, ?_⟩) | ((with_reducible refine gate_dst (N := 9) rfl ?_); refine Kd.R_lit (Kd.int .i64) _ 3 ?hg (N := 9) ?hd (xs := ([] : List Int)) (inner := []) (ok := fun _ => True) (okp := fun _ => True) ?hr ?hp (fun _ hk => hk) trivial (Below.refl _ _) (Nat.le_refl _) (by simp) ?_; (case hd => rfl); (case hg => rfl); (case hr => first | (go_simp; done) | (go_simp; rfl)); (case hp => exact (Reps.none _ _)); intro v951 w5 ho6 hb hg_ hnew_; clear hg_ hnew_; (first | rw [← Ny950.out] at ho6 | (simp only [Int.reduceToNat] at ho6; rw [← Ny950.out] at ho6)); have HO952 := Aside0.mk (Kd.R_lower (Kd.R_newM (M := fun k_ => (w.heap.size ≤ k_)) ho6 (below_size (bv_ HB)) (fun k_ h_ => h_)) (below_size (bv_ HB))); replace HB := Aside0.mk (below_step (bv_ HB) hb); clear hb ho6; obtain ⟨Ao7, co7, eo7⟩ := Kd.R_slice HO952.out; subst eo7) | ((with_reducible refine gate_callee (f := 57) rfl ?_); refine gl_ 10 Try.func57 #[.int .i64 a0, .slice Ao7 y950.length co7] rfl mp_ ?_; (with_reducible refine (spec_l4Perms.calls k a0 (fun k_ => some k_ = (.slice Ao7 y950.length co7 : Value).ownBlock) _ _ y950 t953 _ ?side1 A4.out).mono ?_); (case side1 => exact Kd.R_V (Kd.R_tight rfl (HO952.out))); rintro e w8 ⟨v954, rfl, ho0, hb⟩; refine ⟨_, rfl, ?_⟩; have HO955 := Aside0.mk (Kd.N_lower (Kd.N_mono (ok' := fun k_ => (w.heap.size ≤ k_)) ho0 (fun k_ hk_ => Or.elim hk_ (fun hs_ => ((HO952.out).1 k_ hs_.symm).1) (fun hn_ => (Nat.le_trans (below_size (bv_ HB)) hn_)))) (below_size (bv_ HB))); replace HO952 := Aside0.mk (Kd.R_below (rv_ HO952) hb); replace HB := Aside0.mk (below_step (bv_ HB) hb); (try clear hb); (try clear hb2); (try clear hk); (try clear hi); (try clear ho0)))
  go_ret2
  exact ⟨_, er_, by (with_reducible repeat (first | apply Kd.N_alloc | apply Kd.N_drewN | apply Kd.N_drew)); exact HO955.out, bv_ HB⟩
 ·replace c3 := Bool.eq_false_iff.mpr c3
  subst c3
  rw [if_neg (show ¬ (false = true) by decide)] at H
  obtain ⟨y956, hy956⟩ : ∃ y_ : List (List Int), y_ = (([] : List (List Int))) := ⟨_, rfl⟩
  replace H : (some (y956, false)) = some (r1, r2) := by first | (rw [hy956]; with_reducible exact H) | (have H2_ := (Option.bind_some _ _).symm.trans H; rw [hy956]; with_reducible exact H2_) | (have H2_ := (Option.bind_some _ _).symm.trans H; with_reducible exact H2_) | with_reducible exact H | (rw [hy956]; exact H) | exact H
  have Ny956 := Aside0.mk hy956
  clear hy956
  simp only [Option.some.injEq, Prod.mk.injEq] at H
  obtain ⟨rfl, rfl⟩ := H
  go_enter Try.func26, Try.ntmps26
  go_wp2_with (first | ((with_reducible refine gate_callee (f := 50) rfl ?_); refine gl_ 5 Try.func50 #[.int .i64 a0, .int .i64 0, .int .i64 4] rfl mp_ ?_; (with_reducible refine (spec_l1In.calls a0 0 4 false _ A2.out).mono ?_); rintro e w' ⟨rfl, ⟨nd, rfl⟩⟩; refine ⟨_, rfl, ?_⟩) | ((with_reducible refine gate_dst (N := 7) rfl ?_); refine Kd.N_lit (Kd.slice 3 (Kd.int .i64)) _ 38 ?hg (N' := 7) ?hd (xs := ([] : List (List Int))) (inner := []) (ok := (fun k_ => (w.heap.size ≤ k_))) (okp := (fun k_ => (w.heap.size ≤ k_))) ?hr ?hp (fun _ hk => hk) ((show ∀ k_, w.heap.size ≤ k_ → (fun k_ => (w.heap.size ≤ k_)) k_ from fun k_ hk => (Nat.le_trans (below_size (bv_ HB)) hk)) _ (Nat.le_refl _)) (Below.refl _ _) (Nat.le_refl _) (by simp) ?_; (case hd => rfl); (case hg => rfl); (case hr => first | (go_simp; done) | (go_simp; rfl)); (case hp => exact (Reps.none _ _)); intro v957 w9 ho10 hb hg_ hnew_; clear hg_ hnew_; (first | rw [← Ny956.out] at ho10 | (simp only [Int.reduceToNat] at ho10; rw [← Ny956.out] at ho10)); have HO958 := Aside0.mk (Kd.N_lower ho10 (below_size (bv_ HB))); replace HB := Aside0.mk (below_step (bv_ HB) hb); clear hb ho10))
  go_ret2
  exact ⟨_, er_, by (with_reducible repeat (first | apply Kd.N_alloc | apply Kd.N_drewN | apply Kd.N_drew)); exact HO958.out, bv_ HB⟩


section
attribute [local go_sem high] eqA25
/-! ### spec_AreAlike: function 27 -/
def spec_AreAlike.f (k : Nat) (a0_0 : Int) (a0_1 : Int) (a1_0 : Int) (a1_1 : Int) : Option (Bool) := (spec_CanonicalTable.f k a0_0 a0_1).bind fun bt961 => ((spec_CanonicalTable.f k a1_0 a1_1).bind fun bt965 => (if bt961.2.2 = true then (if bt965.2.2 = true then (some (bt961.1 == bt965.1 && (bt961.2.1 == bt965.2.1))) else (some false)) else (some false)))
theorem spec_AreAlike.mono : ∀ a0 a1 a2 a3 k, LeO (spec_AreAlike.f k a0 a1 a2 a3) (spec_AreAlike.f (k + 1) a0 a1 a2 a3) := by
 intro a0 a1 a2 a3 k
 unfold spec_AreAlike.f
 repeat' first
   | (with_reducible exact spec_CanonicalTable.mono _ _ _)
   | (with_reducible exact LeO.refl _)
   | (with_reducible exact LeO.none _)
   | (with_reducible refine LeO.ite ?_ ?_)
   | (with_reducible refine LeO.bind ?_ (fun _ => ?_))
   | exact spec_CanonicalTable.mono _ _ _
   | exact LeO.none _
   | refine LeO.ite ?_ ?_
   | refine LeO.bind ?_ (fun _ => ?_)
set_option maxHeartbeats 8000000 in
set_option maxRecDepth 100000 in
theorem spec_AreAlike.calls (k : Nat) (a0_0 : Int) (a0_1 : Int) (a1_0 : Int) (a1_1 : Int) (r : Bool) (w : World) (h : spec_AreAlike.f k a0_0 a0_1 a1_0 a1_1 = some r) :
  Calls Try.prog 27 #[.agg #[.int .i64 a0_0, .int .i64 a0_1], .agg #[.int .i64 a1_0, .int .i64 a1_1]] w fun e w' => e = .returned (.bool r) ∧ Below w.heap.size w w' := by
 have hu25 := Try.underlying25
 have HB := Aside0.mk (Below.refl w.heap.size w)
 have H : ((spec_CanonicalTable.f k a0_0 a0_1).bind fun bt961 => ((spec_CanonicalTable.f k a1_0 a1_1).bind fun bt965 => (if bt961.2.2 = true then (if bt965.2.2 = true then (some (bt961.1 == bt965.1 && (bt961.2.1 == bt965.2.1))) else (some false)) else (some false)))) = some r := h
 clear h
 replace H := Option.bind_eq_some_iff.mp H
 obtain ⟨⟨t961, t962, t963⟩, A30, H⟩ := H
 dsimp only at H
 have A3 := Aside0.mk A30
 clear A30
 replace H := Option.bind_eq_some_iff.mp H
 obtain ⟨⟨t965, t966, t967⟩, A40, H⟩ := H
 replace H : (if t963 = true then (if t967 = true then (some (t961 == t965 && (t962 == t966))) else (some false)) else (some false)) = some r := H
 have A4 := Aside0.mk A40
 clear A40
 by_cases c5 : t963 = true
 ·subst c5
  rw [if_pos rfl] at H
  by_cases c6 : t967 = true
  ·subst c6
   rw [if_pos rfl] at H
   obtain rfl := Option.some.inj H
   go_enter Try.func27, Try.ntmps27
   go_wp2_with (first | ((with_reducible refine gate_dst (N := 2) rfl ?_); refine bx_ 2 #[.int .i64 a0_0, .int .i64 a0_1] 25 ?_; intro gb959 hg w7 hbox hb; have BK959 := Aside0.mk (hbox); have GW959 := gw_ hg (below_size (bv_ HB)); have GE959 := GW959; replace HB := Aside0.mk (below_step (bv_ HB) hb); clear hb hbox hg) | ((with_reducible refine gate_dst (N := 3) rfl ?_); refine bx_ 3 #[.int .i64 a1_0, .int .i64 a1_1] 25 ?_; intro gb960 hg w8 hbox hb; have BK960 := Aside0.mk (hbox); have GW960 := gw_ hg (below_size (bv1_ HB GE959)); have GE960 := GW960; replace HB := Aside0.mk (below_step (bv1_ HB GE959) hb); have NB959_960 := nb_ hg (blk_lt (g := gb959) (o := .cells #[.int .i64 a0_0, .int .i64 a0_1] 25 (0, 0)) (kv_ BK959)); have NB960_959 := nc_ hg (blk_lt (g := gb959) (o := .cells #[.int .i64 a0_0, .int .i64 a0_1] 25 (0, 0)) (kv_ BK959)); replace BK959 := kb_ BK959 hb; clear hb hbox hg; have hnb9 := NB959_960.out; have hnc9 := NB960_959.out; obtain ⟨hcz10_0, hcz10_1, hfz10_0, hfz10_1⟩ := c2_ BK959) | ((with_reducible refine gate_callee (f := 11) rfl ?_); refine gl_ 11 Try.func11 #[.agg #[.int .i64 a0_0, .int .i64 a0_1]] rfl mp_ ?_; (with_reducible refine (spec_CanonicalTable.calls k a0_0 a0_1 t961 t962 true _ A3.out).mono ?_); rintro e w11 ⟨rfl, hb⟩; refine ⟨_, rfl, ?_⟩; replace BK959 := kb_ BK959 hb; replace BK960 := kb_ BK960 hb; replace HB := Aside0.mk (below_step (bv2_ HB GE959 GE960) hb); (try clear hb); (try clear hb2); (try clear hk); (try clear hi)) | ((with_reducible refine gate_dst (N := 5) rfl ?_); refine bx_ 5 #[.int .i64 0, .int .i64 0] 25 ?_; intro gb964 hg w12 hbox hb; have BK964 := Aside0.mk (hbox); have GW964 := gw_ hg (below_size (bv2_ HB GE959 GE960)); have GE964 := GW964; replace HB := Aside0.mk (below_step (bv2_ HB GE959 GE960) hb); have NB959_964 := nb_ hg (blk_lt (g := gb959) (o := .cells #[.int .i64 a0_0, .int .i64 a0_1] 25 (0, 0)) (kv_ BK959)); have NB964_959 := nc_ hg (blk_lt (g := gb959) (o := .cells #[.int .i64 a0_0, .int .i64 a0_1] 25 (0, 0)) (kv_ BK959)); replace BK959 := kb_ BK959 hb; have NB960_964 := nb_ hg (blk_lt (g := gb960) (o := .cells #[.int .i64 a1_0, .int .i64 a1_1] 25 (0, 0)) (kv_ BK960)); have NB964_960 := nc_ hg (blk_lt (g := gb960) (o := .cells #[.int .i64 a1_0, .int .i64 a1_1] 25 (0, 0)) (kv_ BK960)); replace BK960 := kb_ BK960 hb; clear hb hbox hg; have hnb13 := NB964_959.out; have hnc13 := NB959_964.out; have hnb14 := NB964_960.out; have hnc14 := NB960_964.out; obtain ⟨hcz15_0, hcz15_1, hfz15_0, hfz15_1⟩ := c2_ BK964; obtain ⟨hcz16_0, hcz16_1, hfz16_0, hfz16_1⟩ := c2_ BK960) | ((with_reducible refine gate_callee (f := 11) rfl ?_); refine gl_ 16 Try.func11 #[.agg #[.int .i64 a1_0, .int .i64 a1_1]] rfl mp_ ?_; (with_reducible refine (spec_CanonicalTable.calls k a1_0 a1_1 t965 t966 true _ A4.out).mono ?_); rintro e w17 ⟨rfl, hb⟩; refine ⟨_, rfl, ?_⟩; replace BK959 := Aside0.mk (blk_below (g := gb959) (o := .cells #[.int .i64 a0_0, .int .i64 a0_1] 25 (0, 0)) (by (with_reducible repeat (first | refine blk_drewN ?_ _ | refine blk_drew ?_ | refine blk_alloc ?_ _)); refine blk_far ?_ NB959_964.out _; (with_reducible repeat (first | refine blk_drewN ?_ _ | refine blk_drew ?_ | refine blk_alloc ?_ _)); refine blk_far ?_ NB959_964.out _; (with_reducible repeat (first | refine blk_drewN ?_ _ | refine blk_drew ?_ | refine blk_alloc ?_ _)); exact BK959.out) hb); replace BK960 := Aside0.mk (blk_below (g := gb960) (o := .cells #[.int .i64 a1_0, .int .i64 a1_1] 25 (0, 0)) (by (with_reducible repeat (first | refine blk_drewN ?_ _ | refine blk_drew ?_ | refine blk_alloc ?_ _)); refine blk_far ?_ NB960_964.out _; (with_reducible repeat (first | refine blk_drewN ?_ _ | refine blk_drew ?_ | refine blk_alloc ?_ _)); refine blk_far ?_ NB960_964.out _; (with_reducible repeat (first | refine blk_drewN ?_ _ | refine blk_drew ?_ | refine blk_alloc ?_ _)); exact BK960.out) hb); replace BK964 := Aside0.mk (blk_below (g := gb964) (o := .cells #[.int .i64 t961, .int .i64 t962] 25 (0, 0)) (by (with_reducible repeat (first | refine blk_drewN ?_ _ | refine blk_drew ?_ | refine blk_alloc ?_ _)); refine blk_put (cs := #[.int .i64 t961, .int .i64 0]) ?_ 1 _ rfl; (with_reducible repeat (first | refine blk_drewN ?_ _ | refine blk_drew ?_ | refine blk_alloc ?_ _)); refine blk_put (cs := #[.int .i64 0, .int .i64 0]) ?_ 0 _ rfl; (with_reducible repeat (first | refine blk_drewN ?_ _ | refine blk_drew ?_ | refine blk_alloc ?_ _)); exact BK964.out) hb); replace HB := Aside0.mk (below_step (bv3_ HB GE959 GE960 GE964) hb); (try clear hb); (try clear hb2); (try clear hk); (try clear hi)) | ((with_reducible refine gate_dst (N := 7) rfl ?_); refine bx_ 7 #[.int .i64 0, .int .i64 0] 25 ?_; intro gb968 hg w18 hbox hb; have BK968 := Aside0.mk (hbox); have GW968 := gw_ hg (below_size (bv3_ HB GE959 GE960 GE964)); have GE968 := GW968; replace HB := Aside0.mk (below_step (bv3_ HB GE959 GE960 GE964) hb); have NB959_968 := nb_ hg (blk_lt (g := gb959) (o := .cells #[.int .i64 a0_0, .int .i64 a0_1] 25 (0, 0)) (kv_ BK959)); have NB968_959 := nc_ hg (blk_lt (g := gb959) (o := .cells #[.int .i64 a0_0, .int .i64 a0_1] 25 (0, 0)) (kv_ BK959)); replace BK959 := kb_ BK959 hb; have NB960_968 := nb_ hg (blk_lt (g := gb960) (o := .cells #[.int .i64 a1_0, .int .i64 a1_1] 25 (0, 0)) (kv_ BK960)); have NB968_960 := nc_ hg (blk_lt (g := gb960) (o := .cells #[.int .i64 a1_0, .int .i64 a1_1] 25 (0, 0)) (kv_ BK960)); replace BK960 := kb_ BK960 hb; have NB964_968 := nb_ hg (blk_lt (g := gb964) (o := .cells #[.int .i64 t961, .int .i64 t962] 25 (0, 0)) (kv_ BK964)); have NB968_964 := nc_ hg (blk_lt (g := gb964) (o := .cells #[.int .i64 t961, .int .i64 t962] 25 (0, 0)) (kv_ BK964)); replace BK964 := kb_ BK964 hb; clear hb hbox hg; have hnb19 := NB968_959.out; have hnc19 := NB959_968.out; have hnb20 := NB968_960.out; have hnc20 := NB960_968.out; have hnb21 := NB968_964.out; have hnc21 := NB964_968.out; obtain ⟨hcz22_0, hcz22_1, hfz22_0, hfz22_1⟩ := c2_ BK968; obtain ⟨hcz23_0, hcz23_1, hfz23_0, hfz23_1⟩ := c2_ BK964))
   go_ret
   exact ⟨er_, bv4_ HB GE959 GE960 GE964 GE968⟩
  ·replace c6 := Bool.eq_false_iff.mpr c6
   subst c6
   rw [if_neg (show ¬ (false = true) by decide)] at H
   obtain rfl := Option.some.inj H
   go_enter Try.func27, Try.ntmps27
   go_wp2_with (first | ((with_reducible refine gate_dst (N := 2) rfl ?_); refine bx_ 2 #[.int .i64 a0_0, .int .i64 a0_1] 25 ?_; intro gb959 hg w24 hbox hb; have BK959 := Aside0.mk (hbox); have GW959 := gw_ hg (below_size (bv_ HB)); have GE959 := GW959; replace HB := Aside0.mk (below_step (bv_ HB) hb); clear hb hbox hg) | ((with_reducible refine gate_dst (N := 3) rfl ?_); refine bx_ 3 #[.int .i64 a1_0, .int .i64 a1_1] 25 ?_; intro gb960 hg w25 hbox hb; have BK960 := Aside0.mk (hbox); have GW960 := gw_ hg (below_size (bv1_ HB GE959)); have GE960 := GW960; replace HB := Aside0.mk (below_step (bv1_ HB GE959) hb); have NB959_960 := nb_ hg (blk_lt (g := gb959) (o := .cells #[.int .i64 a0_0, .int .i64 a0_1] 25 (0, 0)) (kv_ BK959)); have NB960_959 := nc_ hg (blk_lt (g := gb959) (o := .cells #[.int .i64 a0_0, .int .i64 a0_1] 25 (0, 0)) (kv_ BK959)); replace BK959 := kb_ BK959 hb; clear hb hbox hg; have hnb26 := NB959_960.out; have hnc26 := NB960_959.out; obtain ⟨hcz27_0, hcz27_1, hfz27_0, hfz27_1⟩ := c2_ BK959) | ((with_reducible refine gate_callee (f := 11) rfl ?_); refine gl_ 11 Try.func11 #[.agg #[.int .i64 a0_0, .int .i64 a0_1]] rfl mp_ ?_; (with_reducible refine (spec_CanonicalTable.calls k a0_0 a0_1 t961 t962 true _ A3.out).mono ?_); rintro e w28 ⟨rfl, hb⟩; refine ⟨_, rfl, ?_⟩; replace BK959 := kb_ BK959 hb; replace BK960 := kb_ BK960 hb; replace HB := Aside0.mk (below_step (bv2_ HB GE959 GE960) hb); (try clear hb); (try clear hb2); (try clear hk); (try clear hi)) | ((with_reducible refine gate_dst (N := 5) rfl ?_); refine bx_ 5 #[.int .i64 0, .int .i64 0] 25 ?_; intro gb964 hg w29 hbox hb; have BK964 := Aside0.mk (hbox); have GW964 := gw_ hg (below_size (bv2_ HB GE959 GE960)); have GE964 := GW964; replace HB := Aside0.mk (below_step (bv2_ HB GE959 GE960) hb); have NB959_964 := nb_ hg (blk_lt (g := gb959) (o := .cells #[.int .i64 a0_0, .int .i64 a0_1] 25 (0, 0)) (kv_ BK959)); have NB964_959 := nc_ hg (blk_lt (g := gb959) (o := .cells #[.int .i64 a0_0, .int .i64 a0_1] 25 (0, 0)) (kv_ BK959)); replace BK959 := kb_ BK959 hb; have NB960_964 := nb_ hg (blk_lt (g := gb960) (o := .cells #[.int .i64 a1_0, .int .i64 a1_1] 25 (0, 0)) (kv_ BK960)); have NB964_960 := nc_ hg (blk_lt (g := gb960) (o := .cells #[.int .i64 a1_0, .int .i64 a1_1] 25 (0, 0)) (kv_ BK960)); replace BK960 := kb_ BK960 hb; clear hb hbox hg; have hnb30 := NB964_959.out; have hnc30 := NB959_964.out; have hnb31 := NB964_960.out; have hnc31 := NB960_964.out; obtain ⟨hcz32_0, hcz32_1, hfz32_0, hfz32_1⟩ := c2_ BK964; obtain ⟨hcz33_0, hcz33_1, hfz33_0, hfz33_1⟩ := c2_ BK960) | ((with_reducible refine gate_callee (f := 11) rfl ?_); refine gl_ 16 Try.func11 #[.agg #[.int .i64 a1_0, .int .i64 a1_1]] rfl mp_ ?_; (with_reducible refine (spec_CanonicalTable.calls k a1_0 a1_1 t965 t966 false _ A4.out).mono ?_); rintro e w34 ⟨rfl, hb⟩; refine ⟨_, rfl, ?_⟩; replace BK959 := Aside0.mk (blk_below (g := gb959) (o := .cells #[.int .i64 a0_0, .int .i64 a0_1] 25 (0, 0)) (by (with_reducible repeat (first | refine blk_drewN ?_ _ | refine blk_drew ?_ | refine blk_alloc ?_ _)); refine blk_far ?_ NB959_964.out _; (with_reducible repeat (first | refine blk_drewN ?_ _ | refine blk_drew ?_ | refine blk_alloc ?_ _)); refine blk_far ?_ NB959_964.out _; (with_reducible repeat (first | refine blk_drewN ?_ _ | refine blk_drew ?_ | refine blk_alloc ?_ _)); exact BK959.out) hb); replace BK960 := Aside0.mk (blk_below (g := gb960) (o := .cells #[.int .i64 a1_0, .int .i64 a1_1] 25 (0, 0)) (by (with_reducible repeat (first | refine blk_drewN ?_ _ | refine blk_drew ?_ | refine blk_alloc ?_ _)); refine blk_far ?_ NB960_964.out _; (with_reducible repeat (first | refine blk_drewN ?_ _ | refine blk_drew ?_ | refine blk_alloc ?_ _)); refine blk_far ?_ NB960_964.out _; (with_reducible repeat (first | refine blk_drewN ?_ _ | refine blk_drew ?_ | refine blk_alloc ?_ _)); exact BK960.out) hb); replace BK964 := Aside0.mk (blk_below (g := gb964) (o := .cells #[.int .i64 t961, .int .i64 t962] 25 (0, 0)) (by (with_reducible repeat (first | refine blk_drewN ?_ _ | refine blk_drew ?_ | refine blk_alloc ?_ _)); refine blk_put (cs := #[.int .i64 t961, .int .i64 0]) ?_ 1 _ rfl; (with_reducible repeat (first | refine blk_drewN ?_ _ | refine blk_drew ?_ | refine blk_alloc ?_ _)); refine blk_put (cs := #[.int .i64 0, .int .i64 0]) ?_ 0 _ rfl; (with_reducible repeat (first | refine blk_drewN ?_ _ | refine blk_drew ?_ | refine blk_alloc ?_ _)); exact BK964.out) hb); replace HB := Aside0.mk (below_step (bv3_ HB GE959 GE960 GE964) hb); (try clear hb); (try clear hb2); (try clear hk); (try clear hi)) | ((with_reducible refine gate_dst (N := 7) rfl ?_); refine bx_ 7 #[.int .i64 0, .int .i64 0] 25 ?_; intro gb968 hg w35 hbox hb; have BK968 := Aside0.mk (hbox); have GW968 := gw_ hg (below_size (bv3_ HB GE959 GE960 GE964)); have GE968 := GW968; replace HB := Aside0.mk (below_step (bv3_ HB GE959 GE960 GE964) hb); have NB959_968 := nb_ hg (blk_lt (g := gb959) (o := .cells #[.int .i64 a0_0, .int .i64 a0_1] 25 (0, 0)) (kv_ BK959)); have NB968_959 := nc_ hg (blk_lt (g := gb959) (o := .cells #[.int .i64 a0_0, .int .i64 a0_1] 25 (0, 0)) (kv_ BK959)); replace BK959 := kb_ BK959 hb; have NB960_968 := nb_ hg (blk_lt (g := gb960) (o := .cells #[.int .i64 a1_0, .int .i64 a1_1] 25 (0, 0)) (kv_ BK960)); have NB968_960 := nc_ hg (blk_lt (g := gb960) (o := .cells #[.int .i64 a1_0, .int .i64 a1_1] 25 (0, 0)) (kv_ BK960)); replace BK960 := kb_ BK960 hb; have NB964_968 := nb_ hg (blk_lt (g := gb964) (o := .cells #[.int .i64 t961, .int .i64 t962] 25 (0, 0)) (kv_ BK964)); have NB968_964 := nc_ hg (blk_lt (g := gb964) (o := .cells #[.int .i64 t961, .int .i64 t962] 25 (0, 0)) (kv_ BK964)); replace BK964 := kb_ BK964 hb; clear hb hbox hg; have hnb36 := NB968_959.out; have hnc36 := NB959_968.out; have hnb37 := NB968_960.out; have hnc37 := NB960_968.out; have hnb38 := NB968_964.out; have hnc38 := NB964_968.out; obtain ⟨hcz39_0, hcz39_1, hfz39_0, hfz39_1⟩ := c2_ BK968))
   go_ret
   exact ⟨er_, bv4_ HB GE959 GE960 GE964 GE968⟩
 ·replace c5 := Bool.eq_false_iff.mpr c5
  subst c5
  rw [if_neg (show ¬ (false = true) by decide)] at H
  obtain rfl := Option.some.inj H
  go_enter Try.func27, Try.ntmps27
  go_wp2_with (first | ((with_reducible refine gate_dst (N := 2) rfl ?_); refine bx_ 2 #[.int .i64 a0_0, .int .i64 a0_1] 25 ?_; intro gb959 hg w40 hbox hb; have BK959 := Aside0.mk (hbox); have GW959 := gw_ hg (below_size (bv_ HB)); have GE959 := GW959; replace HB := Aside0.mk (below_step (bv_ HB) hb); clear hb hbox hg) | ((with_reducible refine gate_dst (N := 3) rfl ?_); refine bx_ 3 #[.int .i64 a1_0, .int .i64 a1_1] 25 ?_; intro gb960 hg w41 hbox hb; have BK960 := Aside0.mk (hbox); have GW960 := gw_ hg (below_size (bv1_ HB GE959)); have GE960 := GW960; replace HB := Aside0.mk (below_step (bv1_ HB GE959) hb); have NB959_960 := nb_ hg (blk_lt (g := gb959) (o := .cells #[.int .i64 a0_0, .int .i64 a0_1] 25 (0, 0)) (kv_ BK959)); have NB960_959 := nc_ hg (blk_lt (g := gb959) (o := .cells #[.int .i64 a0_0, .int .i64 a0_1] 25 (0, 0)) (kv_ BK959)); replace BK959 := kb_ BK959 hb; clear hb hbox hg; have hnb42 := NB959_960.out; have hnc42 := NB960_959.out; obtain ⟨hcz43_0, hcz43_1, hfz43_0, hfz43_1⟩ := c2_ BK959) | ((with_reducible refine gate_callee (f := 11) rfl ?_); refine gl_ 11 Try.func11 #[.agg #[.int .i64 a0_0, .int .i64 a0_1]] rfl mp_ ?_; (with_reducible refine (spec_CanonicalTable.calls k a0_0 a0_1 t961 t962 false _ A3.out).mono ?_); rintro e w44 ⟨rfl, hb⟩; refine ⟨_, rfl, ?_⟩; replace BK959 := kb_ BK959 hb; replace BK960 := kb_ BK960 hb; replace HB := Aside0.mk (below_step (bv2_ HB GE959 GE960) hb); (try clear hb); (try clear hb2); (try clear hk); (try clear hi)) | ((with_reducible refine gate_dst (N := 5) rfl ?_); refine bx_ 5 #[.int .i64 0, .int .i64 0] 25 ?_; intro gb964 hg w45 hbox hb; have BK964 := Aside0.mk (hbox); have GW964 := gw_ hg (below_size (bv2_ HB GE959 GE960)); have GE964 := GW964; replace HB := Aside0.mk (below_step (bv2_ HB GE959 GE960) hb); have NB959_964 := nb_ hg (blk_lt (g := gb959) (o := .cells #[.int .i64 a0_0, .int .i64 a0_1] 25 (0, 0)) (kv_ BK959)); have NB964_959 := nc_ hg (blk_lt (g := gb959) (o := .cells #[.int .i64 a0_0, .int .i64 a0_1] 25 (0, 0)) (kv_ BK959)); replace BK959 := kb_ BK959 hb; have NB960_964 := nb_ hg (blk_lt (g := gb960) (o := .cells #[.int .i64 a1_0, .int .i64 a1_1] 25 (0, 0)) (kv_ BK960)); have NB964_960 := nc_ hg (blk_lt (g := gb960) (o := .cells #[.int .i64 a1_0, .int .i64 a1_1] 25 (0, 0)) (kv_ BK960)); replace BK960 := kb_ BK960 hb; clear hb hbox hg; have hnb46 := NB964_959.out; have hnc46 := NB959_964.out; have hnb47 := NB964_960.out; have hnc47 := NB960_964.out; obtain ⟨hcz48_0, hcz48_1, hfz48_0, hfz48_1⟩ := c2_ BK964; obtain ⟨hcz49_0, hcz49_1, hfz49_0, hfz49_1⟩ := c2_ BK960) | ((with_reducible refine gate_callee (f := 11) rfl ?_); refine gl_ 16 Try.func11 #[.agg #[.int .i64 a1_0, .int .i64 a1_1]] rfl mp_ ?_; (with_reducible refine (spec_CanonicalTable.calls k a1_0 a1_1 t965 t966 t967 _ A4.out).mono ?_); rintro e w50 ⟨rfl, hb⟩; refine ⟨_, rfl, ?_⟩; replace BK959 := Aside0.mk (blk_below (g := gb959) (o := .cells #[.int .i64 a0_0, .int .i64 a0_1] 25 (0, 0)) (by (with_reducible repeat (first | refine blk_drewN ?_ _ | refine blk_drew ?_ | refine blk_alloc ?_ _)); refine blk_far ?_ NB959_964.out _; (with_reducible repeat (first | refine blk_drewN ?_ _ | refine blk_drew ?_ | refine blk_alloc ?_ _)); refine blk_far ?_ NB959_964.out _; (with_reducible repeat (first | refine blk_drewN ?_ _ | refine blk_drew ?_ | refine blk_alloc ?_ _)); exact BK959.out) hb); replace BK960 := Aside0.mk (blk_below (g := gb960) (o := .cells #[.int .i64 a1_0, .int .i64 a1_1] 25 (0, 0)) (by (with_reducible repeat (first | refine blk_drewN ?_ _ | refine blk_drew ?_ | refine blk_alloc ?_ _)); refine blk_far ?_ NB960_964.out _; (with_reducible repeat (first | refine blk_drewN ?_ _ | refine blk_drew ?_ | refine blk_alloc ?_ _)); refine blk_far ?_ NB960_964.out _; (with_reducible repeat (first | refine blk_drewN ?_ _ | refine blk_drew ?_ | refine blk_alloc ?_ _)); exact BK960.out) hb); replace BK964 := Aside0.mk (blk_below (g := gb964) (o := .cells #[.int .i64 t961, .int .i64 t962] 25 (0, 0)) (by (with_reducible repeat (first | refine blk_drewN ?_ _ | refine blk_drew ?_ | refine blk_alloc ?_ _)); refine blk_put (cs := #[.int .i64 t961, .int .i64 0]) ?_ 1 _ rfl; (with_reducible repeat (first | refine blk_drewN ?_ _ | refine blk_drew ?_ | refine blk_alloc ?_ _)); refine blk_put (cs := #[.int .i64 0, .int .i64 0]) ?_ 0 _ rfl; (with_reducible repeat (first | refine blk_drewN ?_ _ | refine blk_drew ?_ | refine blk_alloc ?_ _)); exact BK964.out) hb); replace HB := Aside0.mk (below_step (bv3_ HB GE959 GE960 GE964) hb); (try clear hb); (try clear hb2); (try clear hk); (try clear hi)) | ((with_reducible refine gate_dst (N := 7) rfl ?_); refine bx_ 7 #[.int .i64 0, .int .i64 0] 25 ?_; intro gb968 hg w51 hbox hb; have BK968 := Aside0.mk (hbox); have GW968 := gw_ hg (below_size (bv3_ HB GE959 GE960 GE964)); have GE968 := GW968; replace HB := Aside0.mk (below_step (bv3_ HB GE959 GE960 GE964) hb); have NB959_968 := nb_ hg (blk_lt (g := gb959) (o := .cells #[.int .i64 a0_0, .int .i64 a0_1] 25 (0, 0)) (kv_ BK959)); have NB968_959 := nc_ hg (blk_lt (g := gb959) (o := .cells #[.int .i64 a0_0, .int .i64 a0_1] 25 (0, 0)) (kv_ BK959)); replace BK959 := kb_ BK959 hb; have NB960_968 := nb_ hg (blk_lt (g := gb960) (o := .cells #[.int .i64 a1_0, .int .i64 a1_1] 25 (0, 0)) (kv_ BK960)); have NB968_960 := nc_ hg (blk_lt (g := gb960) (o := .cells #[.int .i64 a1_0, .int .i64 a1_1] 25 (0, 0)) (kv_ BK960)); replace BK960 := kb_ BK960 hb; have NB964_968 := nb_ hg (blk_lt (g := gb964) (o := .cells #[.int .i64 t961, .int .i64 t962] 25 (0, 0)) (kv_ BK964)); have NB968_964 := nc_ hg (blk_lt (g := gb964) (o := .cells #[.int .i64 t961, .int .i64 t962] 25 (0, 0)) (kv_ BK964)); replace BK964 := kb_ BK964 hb; clear hb hbox hg; have hnb52 := NB968_959.out; have hnc52 := NB959_968.out; have hnb53 := NB968_960.out; have hnc53 := NB960_968.out; have hnb54 := NB968_964.out; have hnc54 := NB964_968.out; obtain ⟨hcz55_0, hcz55_1, hfz55_0, hfz55_1⟩ := c2_ BK968))
  go_ret
  exact ⟨er_, bv4_ HB GE959 GE960 GE964 GE968⟩

end

section
attribute [local go_sem high] eqA25
/-! ### impl_allTables: function 79 -/
/-- A state that is stepped on by the words below a number. -/
def impl_allTables.to {σ : Type} (step : σ → Nat → σ) (s0 : σ) : Nat → σ
  | 0 => s0
  | x + 1 => step (impl_allTables.to step s0 x) x
-- EACH closure's number
set_option maxHeartbeats 4000000 in
set_option maxRecDepth 100000 in
theorem impl_allTables.calls80 {σ : Type} (n : Int) (N : Nat) (hn : n = 0 ∧ N = 2 ∨ n = 1 ∧ N = 4 ∨ n = 2 ∧ N = 16 ∨ n = 3 ∧ N = 256) (caps : Array Value) (Inv : World → σ → Prop) (step : σ → Nat → σ) (s0 : σ) (w : World) (h0 : Inv w s0)
    (hdr : ∀ W s, Inv W s → Inv W.drew s)
    (hp : ∀ (W : World) (s : σ) (x : Nat), x < N → Inv W s → Calls Try.prog 80 (#[.agg #[.int .i64 n, .int .i64 (x : Int)]] ++ caps) W fun e w' => e = .returned (.tuple #[]) ∧ Inv w' (step s x)) :
    Calls Try.prog 79 #[.int .i64 n, .func (.func 80) #[] caps] w fun e w' => e = .returned (.tuple #[]) ∧ Inv w' (impl_allTables.to step s0 N) := by
  have hN : wrap64 ((2 : Int) ^ min (IntKind.u64.wrap ((2 : Int) ^ n.toNat)).toNat 64) = (N : Int) := by
    rcases hn with ⟨rfl, rfl⟩ | ⟨rfl, rfl⟩ | ⟨rfl, rfl⟩ | ⟨rfl, rfl⟩ <;> kernel_rfl
  have hn0 : decide (n < 0) = false := by
    rcases hn with ⟨rfl, rfl⟩ | ⟨rfl, rfl⟩ | ⟨rfl, rfl⟩ | ⟨rfl, rfl⟩ <;> decide
  have HP := Aside0.mk hp
  have H0 := Aside0.mk h0
  clear hp h0
  go_enter Try.func79, Try.ntmps79
  go_wp2_with fail
  rw [hN]
  have hN256 : N ≤ 256 := by rcases hn with ⟨_, rfl⟩ | ⟨_, rfl⟩ | ⟨_, rfl⟩ | ⟨_, rfl⟩ <;> decide
  clear hN hn hn0
  go_loopw [8] (fun v wr => ∃ i : Nat, i ≤ N ∧ v = .int .i64 (i : Int) ∧ Aside0 (Inv wr (impl_allTables.to step s0 i))) (fun v _ => N - (intOf v).toNat)
  case atStart => exact ⟨0, Nat.zero_le _, rfl, H0⟩
  case round =>
    obtain ⟨i, hi, rfl, HI⟩ := hrel
    by_cases hlt : i < N
    · have hcall := HP.out wr _ i hlt HI.out
      clear HI
      go_wp2_with (go_at_call 80; refine hcall.mono ?_; rintro e w2 ⟨rfl, hb2⟩)
      go_roundw
      case rel => exact ⟨i + 1, by omega, by go_num, ⟨hb2⟩⟩
      case measure => simp [intOf]; omega
    · obtain rfl : i = N := by omega
      go_wp2
      exact Go.Great.bodyPost_end0 (by kernel_rfl) rfl ⟨rfl, HI.out⟩

end

section
attribute [local go_sem high] eqA25
/-! ### impl_countTables: function 58 -/
set_option maxHeartbeats 4000000 in
set_option maxRecDepth 100000 in
theorem impl_countTables.in_calls59 (c g0 g1 : Int) (b : Bool) (B1 B2 : Nat) (hne : B1 ≠ B2) (W : World) (h1 : W.heap[B1]? = some (.cells #[.func (.func 59) #[] #[]] 47 (0, 0))) (h2 : W.heap[B2]? = some (.cells #[.int .i64 c] 3 (0, 0)))
    (hp : ∀ W' : World, Calls Try.prog 59 #[.agg #[.int .i64 g0, .int .i64 g1]] W' fun e w' => e = .returned (.bool b) ∧ Below W'.heap.size W' w') :
    Calls Try.prog 80 #[.agg #[.int .i64 g0, .int .i64 g1], .pointer (some ⟨B1, 0, none⟩), .pointer (some ⟨B2, 0, none⟩)] W fun e w' => e = .returned (.tuple #[]) ∧ w'.heap[B2]? = some (.cells #[.int .i64 (if b = true then wrap64 (c + 1) else c)] 3 (0, 0)) ∧ KeepO W w' B2 := by
  have hu := Try.underlying25
  have HP := Aside0.mk hp
  have BK := Aside0.mk h1
  have CK := Aside0.mk h2
  have hlt := blk_lt h1
  have hlt2 := blk_lt h2
  have hne2 : B2 ≠ B1 := fun e => hne e.symm
  clear h1 h2 hp
  go_enter Try.func80, Try.ntmps80
  cases b <;>
  go_wp2_with (first | ((with_reducible refine gate_dst (N := 3) rfl ?_); refine box_event ?hg (N := 3) ?hd (cs := #[.int .i64 g0, .int .i64 g1]) (t := 25) ?hr ?_; (case hd => rfl); (case hg => rfl); (case hr => first | (go_simp; done) | (go_simp; rfl)); intro gb hg w1 hbox hb; have HB1 := Aside0.mk hb; have RK := Aside0.mk hbox; have BK1 := Aside0.mk (blk_below BK.out hb); have CK1 := Aside0.mk (blk_below CK.out hb); clear hg hbox hb; have k0 := (blk_cell RK.out 0).trans rfl; have k1 := (blk_cell RK.out 1).trans rfl; have b_0 := (blk_cell BK1.out 0).trans rfl) | (go_at_call 59; refine (HP.out _).mono ?_; rintro e w2 ⟨rfl, hb2⟩; have HB2 := Aside0.mk hb2; have CK2 := Aside0.mk (blk_below CK1.out hb2); clear hb2; have c_0 := (blk_cell CK2.out 0).trans rfl; have f_0 := blk_frozen CK2.out 0))
  all_goals first
    | exact Go.Great.bodyPost_end0 (by kernel_rfl) rfl ⟨rfl, blk_put (cs := #[.int .i64 c]) CK2.out 0 _ rfl, KeepO.set_ (KeepO.of_below (below_step HB1.out HB2.out) B2) _ _⟩
    | exact Go.Great.bodyPost_end0 (by kernel_rfl) rfl ⟨rfl, CK2.out, KeepO.of_below (below_step HB1.out HB2.out) B2⟩
set_option maxHeartbeats 4000000 in
set_option maxRecDepth 100000 in
theorem impl_countTables.calls59 (n : Int) (N : Nat) (hn : n = 0 ∧ N = 2 ∨ n = 1 ∧ N = 4 ∨ n = 2 ∧ N = 16 ∨ n = 3 ∧ N = 256) (p : Nat → Bool) (w : World)
    (hp : ∀ (x : Nat) (W' : World), x < N → Calls Try.prog 59 #[.agg #[.int .i64 n, .int .i64 (x : Int)]] W' fun e w' => e = .returned (.bool (p x)) ∧ Below W'.heap.size W' w') :
    Calls Try.prog 58 #[.int .i64 n, .int .i64 3, .func (.func 59) #[] #[]] w fun e w' => e = .returned (.int .i64 (impl_allTables.to (fun (c : Int) x => if p x = true then wrap64 (c + 1) else c) 0 N)) ∧ Below w.heap.size w w' := by
  have hn0 : decide (n < 0) = false := by rcases hn with ⟨rfl, rfl⟩ | ⟨rfl, rfl⟩ | ⟨rfl, rfl⟩ | ⟨rfl, rfl⟩ <;> decide
  have hn3 : decide (3 < n) = false := by rcases hn with ⟨rfl, rfl⟩ | ⟨rfl, rfl⟩ | ⟨rfl, rfl⟩ | ⟨rfl, rfl⟩ <;> decide
  have hcall := fun (B1 B2 : Nat) (hne : B1 ≠ B2) (h2z : w.heap.size ≤ B2) (W : World) (h1 : W.heap[B1]? = some (.cells #[.func (.func 59) #[] #[]] 47 (0, 0))) (h2 : W.heap[B2]? = some (.cells #[.int .i64 0] 3 (0, 0))) (hb : Below w.heap.size w W) =>
    impl_allTables.calls80 n N hn #[.pointer (some ⟨B1, 0, none⟩), .pointer (some ⟨B2, 0, none⟩)] (fun W' s => W'.heap[B1]? = some (.cells #[.func (.func 59) #[] #[]] 47 (0, 0)) ∧ W'.heap[B2]? = some (.cells #[.int .i64 s] 3 (0, 0)) ∧ Below w.heap.size w W') (fun (c : Int) x => if p x = true then wrap64 (c + 1) else c) 0 W ⟨h1, h2, hb⟩ (fun W s h => ⟨h.1, h.2.1, below_drew1 h.2.2⟩)
      (fun W s x hx h => (impl_countTables.in_calls59 s n (x : Int) (p x) B1 B2 hne W h.1 h.2.1 (fun W' => hp x W' hx)).mono fun e w' ⟨he, hc, hk⟩ => ⟨he, KeepBut.blk hk.1 h.1 hne (by simp), hc, h.2.2.trans (KeepO.below hk h2z h.2.2.size)⟩)
  generalize impl_allTables.to (fun (c : Int) x => if p x = true then wrap64 (c + 1) else c) 0 N = r at hcall ⊢
  clear hp hn
  have HC := Aside0.mk hcall
  clear hcall
  go_enter Try.func58, Try.ntmps58
  go_wp2_with (first | ((with_reducible refine gate_dst (N := 5) rfl ?_); refine box_event ?hg (N := 5) ?hd (cs := #[.func (.func 59) #[] #[]]) (t := 47) ?hr ?_; (case hd => rfl); (case hg => rfl); (case hr => first | (go_simp; done) | (go_simp; rfl)); intro g1 hg w1 hbox hb; have HB1 := Aside0.mk hb; have R1 := Aside0.mk hbox; have h1z : w.heap.size ≤ g1 := (by omega); clear hg hbox hb) | ((with_reducible refine gate_dst (N := 7) rfl ?_); refine box_event ?hg (N := 7) ?hd (cs := #[.int .i64 0]) (t := 3) ?hr ?_; (case hd => rfl); (case hg => rfl); (case hr => first | (go_simp; done) | (go_simp; rfl)); intro g3 hg w3 hbox hb; have HB3 := Aside0.mk (below_step HB1.out hb); have R3 := Aside0.mk hbox; have R13 := Aside0.mk (blk_below R1.out hb); have h3z : w.heap.size ≤ g3 := (by have := HB1.out.size; omega); have h31 : g3 ≠ g1 := (by have := blk_lt R1.out; omega); have h13 : g1 ≠ g3 := (fun e => h31 e.symm); clear hg hbox hb; have m0 := (blk_cell R3.out 0).trans rfl; have mf0 := blk_frozen R3.out 0) | (go_at_call 79; refine (HC.out g1 g3 h13 h3z _ (blk_far R13.out (by first | exact h13 | exact h31) _) (blk_put (cs := #[.int .i64 0]) R3.out 0 (.int .i64 0) rfl) (below_set (j := 0) (v := .int .i64 0) HB3.out h3z)).mono ?_; rintro e w5 ⟨rfl, -, hr5, hb5⟩; have R35 := Aside0.mk hr5; have HB5 := Aside0.mk hb5; have z0 := (blk_cell R35.out 0).trans rfl; clear hr5 hb5))
  go_ret
  exact ⟨rfl, HB5.out⟩
set_option maxHeartbeats 4000000 in
set_option maxRecDepth 100000 in
theorem impl_countTables.no59 (n : Int) (hn : n < 0 ∨ 3 < n) (w : World) :
    Calls Try.prog 58 #[.int .i64 n, .int .i64 3, .func (.func 59) #[] #[]] w fun e w' => e = .returned (.int .i64 (-1)) ∧ Below w.heap.size w w' := by
  have HB := Aside0.mk (Below.refl w.heap.size w)
  by_cases h0 : n < 0
  · have hn0 : decide (n < 0) = true := decide_eq_true h0
    clear hn h0
    go_enter Try.func58, Try.ntmps58
    go_wp2_with (first | ((with_reducible refine gate_dst (N := 5) rfl ?_); refine box_event ?hg (N := 5) ?hd (cs := #[.func (.func 59) #[] #[]]) (t := 47) ?hr ?_; (case hd => rfl); (case hg => rfl); (case hr => first | (go_simp; done) | (go_simp; rfl)); intro g1 hg w1 hbox hb; have HB1 := Aside0.mk hb; clear hg hbox hb))
    go_ret
    exact ⟨rfl, HB1.out⟩
  · have hn0 : decide (n < 0) = false := decide_eq_false h0
    have hn3 : decide (3 < n) = true := decide_eq_true (by omega)
    clear hn h0
    go_enter Try.func58, Try.ntmps58
    go_wp2_with (first | ((with_reducible refine gate_dst (N := 5) rfl ?_); refine box_event ?hg (N := 5) ?hd (cs := #[.func (.func 59) #[] #[]]) (t := 47) ?hr ?_; (case hd => rfl); (case hg => rfl); (case hr => first | (go_simp; done) | (go_simp; rfl)); intro g1 hg w1 hbox hb; have HB1 := Aside0.mk hb; clear hg hbox hb))
    go_ret
    exact ⟨rfl, HB1.out⟩

end

section
attribute [local go_sem high] eqA25
/-! ### impl_CountTableClasses: function 28 -/
set_option maxHeartbeats 4000000 in
set_option maxRecDepth 100000 in
theorem impl_CountTableClasses.in_calls (g0 g1 r2 : Int) (W : World) (h : impl_Table_canonical.f g0 g1 = some (g0, r2)) :
    Calls Try.prog 59 #[.agg #[.int .i64 g0, .int .i64 g1]] W fun e w' => e = .returned (.bool (decide (r2 = g1))) ∧ Below W.heap.size W w' := by
  have hu := Try.underlying25
  have AC := Aside0.mk h
  have e0 : (g0 == g0) = true := beq_self_eq_true g0
  by_cases e : r2 = g1
  · subst e
    rw [decide_eq_true rfl]
    have e1 : (r2 == r2) = true := beq_self_eq_true r2
    clear h
    go_enter Try.func59, Try.ntmps59
    go_wp2_with (first | ((with_reducible refine gate_dst (N := 1) rfl ?_); refine box_event ?hg (N := 1) ?hd (cs := #[.int .i64 g0, .int .i64 r2]) (t := 25) ?hr ?_; (case hd => rfl); (case hg => rfl); (case hr => first | (go_simp; done) | (go_simp; rfl)); intro gb hg w1 hbox hb; have HB1 := Aside0.mk hb; have RK := Aside0.mk hbox; clear hg hbox hb; have k0 := (blk_cell RK.out 0).trans rfl; have k1 := (blk_cell RK.out 1).trans rfl))
    go_region_held3 (fun w' => w'.cell? ⟨gb, 0, none⟩ = some (.int .i64 g0) ∧ w'.cell? ⟨gb, 1, none⟩ = some (.int .i64 r2)) (first | go_keep | exact ⟨pw_cell_below hb3 k0, pw_cell_below hb3 k1⟩) (first | (go_at_call 42; (with_reducible refine (impl_Table_canonical.calls g0 r2 g0 r2 _ AC.out).mono ?_); rintro e w3 ⟨rfl, hb3⟩))
    have HB3 := Aside0.mk (below_step (below_drew1 HB1.out) hb3)
    clear hb3
    go_wp2_with fail
    go_ret
    exact ⟨rfl, HB3.out⟩
  · rw [decide_eq_false e]
    have e1 : (r2 == g1) = false := beq_eq_false_iff_ne.mpr e
    clear h
    go_enter Try.func59, Try.ntmps59
    go_wp2_with (first | ((with_reducible refine gate_dst (N := 1) rfl ?_); refine box_event ?hg (N := 1) ?hd (cs := #[.int .i64 g0, .int .i64 g1]) (t := 25) ?hr ?_; (case hd => rfl); (case hg => rfl); (case hr => first | (go_simp; done) | (go_simp; rfl)); intro gb hg w1 hbox hb; have HB1 := Aside0.mk hb; have RK := Aside0.mk hbox; clear hg hbox hb; have k0 := (blk_cell RK.out 0).trans rfl; have k1 := (blk_cell RK.out 1).trans rfl))
    go_region_held3 (fun w' => w'.cell? ⟨gb, 0, none⟩ = some (.int .i64 g0) ∧ w'.cell? ⟨gb, 1, none⟩ = some (.int .i64 g1)) (first | go_keep | exact ⟨pw_cell_below hb3 k0, pw_cell_below hb3 k1⟩) (first | (go_at_call 42; (with_reducible refine (impl_Table_canonical.calls g0 g1 g0 r2 _ AC.out).mono ?_); rintro e w3 ⟨rfl, hb3⟩))
    have HB3 := Aside0.mk (below_step (below_drew1 HB1.out) hb3)
    clear hb3
    go_wp2_with fail
    go_ret
    exact ⟨rfl, HB3.out⟩
/-- How many words are the least of their images. -/
def impl_CountTableClasses.f (n : Int) : Option Int :=
  if n < 0 ∨ 3 < n then some (-1) else if ((List.range (2 ^ 2 ^ n.toNat)).all fun (x : Nat) => decide (((impl_Table_canonical.f n (x : Int)).getD (n + 1, 0)).1 = n)) = true then
    some (impl_allTables.to (fun (c : Int) (x : Nat) => if decide (((impl_Table_canonical.f n (x : Int)).getD (n + 1, 0)).2 = (x : Int)) = true then wrap64 (c + 1) else c) 0 (2 ^ 2 ^ n.toNat)) else none
set_option maxHeartbeats 4000000 in
set_option maxRecDepth 100000 in
theorem impl_CountTableClasses.pass (n r : Int) (w : World) (h : Calls Try.prog 58 #[.int .i64 n, .int .i64 3, .func (.func 59) #[] #[]] w fun e w' => e = .returned (.int .i64 r) ∧ Below w.heap.size w w') :
    Calls Try.prog 28 #[.int .i64 n] w fun e w' => e = .returned (.int .i64 r) ∧ Below w.heap.size w w' := by
  have HC := Aside0.mk h
  clear h
  go_enter Try.func28, Try.ntmps28
  go_wp2_with (first | (go_at_call 58; refine HC.out.mono ?_; rintro e w2 ⟨rfl, hb2⟩; have HB2 := Aside0.mk hb2; clear hb2))
  go_ret
  exact ⟨rfl, HB2.out⟩
theorem impl_CountTableClasses.calls (n r : Int) (w : World) (h : impl_CountTableClasses.f n = some r) :
    Calls Try.prog 28 #[.int .i64 n] w fun e w' => e = .returned (.int .i64 r) ∧ Below w.heap.size w w' := by
  unfold impl_CountTableClasses.f at h
  by_cases hn : n < 0 ∨ 3 < n
  · rw [if_pos hn] at h
    obtain rfl := Option.some.inj h
    exact impl_CountTableClasses.pass n _ w (impl_countTables.no59 n hn w)
  · rw [if_neg hn] at h
    by_cases ha : ((List.range (2 ^ 2 ^ n.toNat)).all fun (x : Nat) => decide (((impl_Table_canonical.f n (x : Int)).getD (n + 1, 0)).1 = n)) = true
    · rw [if_pos ha] at h
      obtain rfl := Option.some.inj h
      refine impl_CountTableClasses.pass n _ w (impl_countTables.calls59 n (2 ^ 2 ^ n.toNat) ?_ _ w fun x W' hx => ?_)
      · rcases (by omega : n = 0 ∨ n = 1 ∨ n = 2 ∨ n = 3) with rfl | rfl | rfl | rfl <;> decide
      · have h1 := of_decide_eq_true (List.all_eq_true.mp ha x (List.mem_range.mpr hx))
        cases hc : impl_Table_canonical.f n (x : Int) with
        | none => rw [hc] at h1; exact absurd (show n + 1 = n from h1) (by omega)
        | some q =>
          obtain ⟨q1, q2⟩ := q
          rw [hc] at h1
          have h2 : q1 = n := h1
          subst h2
          exact impl_CountTableClasses.in_calls q1 (x : Int) q2 W' hc
    · rw [if_neg ha] at h
      exact absurd h (by simp)

end

end Go.Proofs.Yteljkpglgjjnlaa.P
