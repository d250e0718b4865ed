-- Out of the translation, by this session's program over the printer's; Lean checks it.
import Derived.Test.YtplnffhjpmnifaaSh
import Derived.Test.YtplnffhjpmnifaaQ0
import Derived.Test.YtplnffhjpmnifaaQ2
import Derived.Test.YtplnffhjpmnifaaQ8
namespace Go.Proofs.Ytplnffhjpmnifaa.P
open Go.RowKit Go.Proofs.YtplnffhjpmnifaaW.PrintWords Go.Proofs.YtplnffhjpmnifaaW.PrintLast Go.Proofs.YtplnffhjpmnifaaW.PrintMore
attribute [local go_sem] max2_int min2_int max_two min_two max_three min_three max_four min_four
set_option linter.unusedVariables false
set_option linter.unusedSimpArgs false

/-! ### impl_makeTable: function 104 -/
/-- The word whose values a function tells. -/
def impl_makeTable.word (g : Nat → Bool) : Nat → Int
 | 0 => 0
 | x + 1 => if g x = true then Go.bits .or .i64 (impl_makeTable.word g x) (wrap64 ((2 : Int) ^ x)) else impl_makeTable.word g x
theorem impl_makeTable.w (x : Int) (h0 : 0 ≤ x) (h1 : x ≤ 32) : wrap64 x = x := by unfold wrap64; omega
theorem impl_makeTable.size {a : Int} (h : 0 ≤ a ∧ a ≤ 5) : ∃ N : Nat, wrap64 ((2 : Int) ^ a.toNat) = (N : Int) ∧ 2 ^ a.toNat = N ∧ N ≤ 32 := by
 rcases (by omega : a = 0 ∨ a = 1 ∨ a = 2 ∨ a = 3 ∨ a = 4 ∨ a = 5) with rfl | rfl | rfl | rfl | rfl | rfl
 ·exact ⟨1, (congrArg wrap64 (show ((2 : Int) ^ (0 : Int).toNat) = 1 by decide)).trans (impl_makeTable.w _ (by omega) (by omega)), by decide, by omega⟩
 ·exact ⟨2, (congrArg wrap64 (show ((2 : Int) ^ (1 : Int).toNat) = 2 by decide)).trans (impl_makeTable.w _ (by omega) (by omega)), by decide, by omega⟩
 ·exact ⟨4, (congrArg wrap64 (show ((2 : Int) ^ (2 : Int).toNat) = 4 by decide)).trans (impl_makeTable.w _ (by omega) (by omega)), by decide, by omega⟩
 ·exact ⟨8, (congrArg wrap64 (show ((2 : Int) ^ (3 : Int).toNat) = 8 by decide)).trans (impl_makeTable.w _ (by omega) (by omega)), by decide, by omega⟩
 ·exact ⟨16, (congrArg wrap64 (show ((2 : Int) ^ (4 : Int).toNat) = 16 by decide)).trans (impl_makeTable.w _ (by omega) (by omega)), by decide, by omega⟩
 ·exact ⟨32, (congrArg wrap64 (show ((2 : Int) ^ (5 : Int).toNat) = 32 by decide)).trans (impl_makeTable.w _ (by omega) (by omega)), by decide, by omega⟩
-- EACH closure's number
set_option maxHeartbeats 4000000 in
set_option maxRecDepth 100000 in
theorem impl_makeTable.calls105 (n : Int) (hn : 0 ≤ n ∧ n ≤ 5) (caps : Array Value) (g : Nat → Bool) (w : World)
  (hp : ∀ (W : World) (x : Nat), Below w.heap.size w W → x < 2 ^ n.toNat → Calls Try.prog 105 (#[.int .i64 (x : Int)] ++ caps) W fun e w' => e = .returned (.bool (g x)) ∧ Below W.heap.size W w') :
  Calls Try.prog 104 #[.int .i64 n, .func (.func 105) #[] caps] w fun e w' => e = .returned (.agg #[.int .i64 n, .int .i64 (impl_makeTable.word g (2 ^ n.toNat))]) ∧ Below w.heap.size w w' := by
 obtain ⟨N, hN, hN2, hN32⟩ := impl_makeTable.size hn
 rw [hN2] at hp ⊢
 have hu := Try.underlying25
 have HP := Aside0.mk hp
 clear hN2 hp
 go_enter Try.func104, Try.ntmps104
 go_wp2_with fail
 rw [hN]
 have HB := Aside0.mk ((((Below.refl w.heap.size w).alloc (Nat.le_refl _) (Obj.cells #[Value.int IntKind.i64 0, Value.int IntKind.i64 0] 25)).alloc (by simp) (Obj.cells #[Value.int IntKind.i64 n, Value.int IntKind.i64 0] 25)))
 have RK := Aside0.mk (blk_alloc (blk_new w (Obj.cells #[Value.int IntKind.i64 0, Value.int IntKind.i64 0] 25)) (Obj.cells #[Value.int IntKind.i64 n, Value.int IntKind.i64 0] 25))
 have BK := Aside0.mk (blk_new (w.alloc (Obj.cells #[Value.int IntKind.i64 0, Value.int IntKind.i64 0] 25)) (Obj.cells #[Value.int IntKind.i64 n, Value.int IntKind.i64 0] 25))
 rw [show (w.alloc (Obj.cells #[Value.int IntKind.i64 0, Value.int IntKind.i64 0] 25)).heap.size = w.heap.size + 1 by simp] at BK
 go_loopw [11] (fun v wr => ∃ i : Nat, i ≤ N ∧ v = .int .i64 (i : Int) ∧ Aside0 (wr.heap[w.heap.size]? = some (.cells #[.int .i64 0, .int .i64 0] 25 (0, 0))) ∧ Aside0 (wr.heap[w.heap.size + 1]? = some (.cells #[.int .i64 n, .int .i64 (impl_makeTable.word g i)] 25 (0, 0))) ∧ Aside0 (Below w.heap.size w wr)) (fun v _ => N - (intOf v).toNat)
 case atStart => exact ⟨0, Nat.zero_le _, rfl, RK, BK, HB⟩
 case round =>
  obtain ⟨i, hi, rfl, RK, BK, HB⟩ := hrel
  by_cases hlt : i < N
  ·have hcall := HP.out wr i HB.out hlt
   replace hcall : Calls Try.prog 105 (#[.int .i64 (i : Int)] ++ caps) wr fun e w' => e = .returned (.bool (g i)) ∧ Below wr.heap.size wr w' := hcall
   cases hg : g i with
   | true =>
    rw [hg] at hcall
    have S1 := Aside0.mk (show impl_makeTable.word g (i + 1) = Go.bits .or .i64 (impl_makeTable.word g i) (wrap64 ((2 : Int) ^ i)) by simp only [impl_makeTable.word]; rw [if_pos hg])
    clear hg
    go_wp2_with (go_at_call 105; refine hcall.mono ?_; rintro e w2 ⟨rfl, hb2⟩)
    have RK2 := Aside0.mk (blk_below RK.out hb2)
    have BK2 := Aside0.mk (blk_below BK.out hb2)
    have HB2 := Aside0.mk (below_step HB.out hb2)
    clear hb2 RK BK HB hcall
    have k1 := (blk_cell BK2.out 1).trans rfl
    have f1 := blk_frozen BK2.out 1
    have hi0 : (0 : Int) ≤ (i : Int) := Int.natCast_nonneg i
    have hid : decide ((i : Int) < 0) = false := by simp
    go_region
    all_goals go_wp2
    all_goals go_roundw
    case rel => exact ⟨i + 1, by omega, by go_num, ⟨blk_drew (blk_far RK2.out (by simp) _)⟩, ⟨by rw [S1.out]; exact blk_drew (blk_put BK2.out 1 _ rfl)⟩, ⟨below_drew1 (below_set HB2.out (by omega))⟩⟩
    case measure => simp [intOf]; omega
   | false =>
    rw [hg] at hcall
    have S1 := Aside0.mk (show impl_makeTable.word g (i + 1) = impl_makeTable.word g i by simp only [impl_makeTable.word]; rw [if_neg (by rw [hg]; decide)])
    clear hg
    go_wp2_with (go_at_call 105; refine hcall.mono ?_; rintro e w2 ⟨rfl, hb2⟩)
    go_roundw
    case rel => exact ⟨i + 1, by omega, by go_num, ⟨blk_below RK.out hb2⟩, ⟨by rw [S1.out]; exact blk_below BK.out hb2⟩, ⟨below_step HB.out hb2⟩⟩
    case measure => simp [intOf]; omega
  ·obtain rfl : i = N := by omega
   have k0 := (blk_cell BK.out 0).trans rfl
   have k1 := (blk_cell BK.out 1).trans rfl
   have r0 := (blk_cell RK.out 0).trans rfl
   have r1 := (blk_cell RK.out 1).trans rfl
   have f0 := blk_frozen RK.out 0
   have f1 := blk_frozen RK.out 1
   go_wp2
   refine bodyPost_ret (results_cell_row rfl _ _ w.heap.size 25 #[.int .i64 n, .int .i64 (impl_makeTable.word g i)] (0, 0) _ rfl (blk_put (cs := #[.int .i64 n, .int .i64 0]) (blk_put (cs := #[.int .i64 0, .int .i64 0]) RK.out 0 _ rfl) 1 _ rfl) hu rfl (by kernel_rfl)) rfl ?_
   exact ⟨rfl, below_set (below_set HB.out (by omega)) (by omega)⟩


/-! ### impl_Table_restrict: function 99 -/
def impl_Table_restrict.low (x i : Int) : Int := Go.bits .and .i64 x (wrap64 (wrap64 ((2 : Int) ^ min i.toNat 64) - 1))
def impl_Table_restrict.spread (x i b : Int) : Int :=
 Go.bits .or .i64 (Go.bits .or .i64 (wrap64 (wrap64 (x - impl_Table_restrict.low x i) * 2)) (wrap64 (b * (2 : Int) ^ min i.toNat 64))) (impl_Table_restrict.low x i)
def impl_Table_restrict.on (n W i b : Int) (x : Nat) : Bool := (impl_Table_at.f n W (impl_Table_restrict.spread (x : Int) i b)).getD 0 == 1
def impl_Table_restrict.f (a0_0 a0_1 a1 a2 : Int) : Option (Int × Int) :=
 if (0 ≤ wrap64 (a0_0 - 1) ∧ wrap64 (a0_0 - 1) ≤ 5) ∧ 0 ≤ a1 ∧ ((List.range (2 ^ (wrap64 (a0_0 - 1)).toNat)).all fun x => decide (0 ≤ impl_Table_restrict.spread (x : Int) a1 a2)) = true then some (wrap64 (a0_0 - 1), impl_makeTable.word (impl_Table_restrict.on a0_0 a0_1 a1 a2) (2 ^ (wrap64 (a0_0 - 1)).toNat)) else none
set_option maxRecDepth 100000 in
theorem impl_Table_restrict.spread_calls (x i b : Int) (hi : 0 ≤ i) (w : World) : Calls Try.prog 106 #[.int .i64 x, .int .i64 i, .int .i64 b] w fun e w' => e = .returned (.int .i64 (impl_Table_restrict.spread x i b)) ∧ Drawn0 w w' := by
 go_enter Try.func106, Try.ntmps106
 go_wp2
 go_ret
 exact ⟨rfl, by repeat (first | exact Drawn0.refl _ | apply Drawn0.step)⟩
set_option maxHeartbeats 4000000 in
set_option maxRecDepth 100000 in
theorem impl_Table_restrict.in_calls (a0_0 a0_1 a1 a2 : Int) (hi : 0 ≤ a1) (B1 B2 B3 : Nat) (x : Nat) (hs : 0 ≤ impl_Table_restrict.spread (x : Int) a1 a2) (W : World) (h1 : W.heap[B1]? = some (.cells #[.int .i64 a0_0, .int .i64 a0_1] 25 (0, 0))) (h2 : W.cell? ⟨B2, 0, none⟩ = some (.int .i64 a1)) (h3 : W.cell? ⟨B3, 0, none⟩ = some (.int .i64 a2)) :
  Calls Try.prog 105 #[.int .i64 (x : Int), .pointer (some ⟨B1, 0, none⟩), .pointer (some ⟨B2, 0, none⟩), .pointer (some ⟨B3, 0, none⟩)] W fun e w' => e = .returned (.bool (impl_Table_restrict.on a0_0 a0_1 a1 a2 x)) ∧ Below W.heap.size W w' := by
 have AS := Aside0.mk (fun w => impl_Table_restrict.spread_calls (x : Int) a1 a2 hi w)
 unfold impl_Table_restrict.on
 generalize impl_Table_restrict.spread (x : Int) a1 a2 = s at hs AS ⊢
 obtain ⟨t, ht⟩ : ∃ t, impl_Table_at.f a0_0 a0_1 s = some t := ⟨Go.bits .and .i64 (shr .i64 a0_1 s) 1, by unfold impl_Table_at.f; rw [if_pos hs]⟩
 have A1 := Aside0.mk ht
 rw [ht, Option.getD_some]
 clear ht hs
 have hu := Try.underlying25
 have hc0 := blk_cell h1 0
 have hc1 := blk_cell h1 1
 replace hc0 : W.cell? ⟨B1, 0, none⟩ = some (.int .i64 a0_0) := hc0
 replace hc1 : W.cell? ⟨B1, 1, none⟩ = some (.int .i64 a0_1) := hc1
 clear h1 hi
 go_enter Try.func105, Try.ntmps105
 go_wp2_with fail
 go_region_with (first | (go_at_call 106; (with_reducible refine (AS.out _).mono ?_); rintro e w1 ⟨rfl, ⟨n1, rfl⟩⟩) | (go_at_call 66; (with_reducible refine (impl_Table_at.calls a0_0 a0_1 _ _ _ A1.out).mono ?_); rintro e w2 ⟨rfl, hb2⟩))
 all_goals go_wp2
 all_goals go_ret
 all_goals exact ⟨rfl, (by repeat (first | exact Below.refl _ W | apply pw_below_drewN) : Below W.heap.size W _).trans hb2⟩
set_option maxHeartbeats 4000000 in
set_option maxRecDepth 100000 in
theorem impl_Table_restrict.calls (a0_0 a0_1 a1 a2 r1 r2 : Int) (w : World) (h : impl_Table_restrict.f a0_0 a0_1 a1 a2 = some (r1, r2)) :
  Calls Try.prog 99 #[.agg #[.int .i64 a0_0, .int .i64 a0_1], .int .i64 a1, .int .i64 a2] w fun e w' => e = .returned (.agg #[.int .i64 r1, .int .i64 r2]) ∧ Below w.heap.size w w' := by
 unfold impl_Table_restrict.f at h
 by_cases hb : (0 ≤ wrap64 (a0_0 - 1) ∧ wrap64 (a0_0 - 1) ≤ 5) ∧ 0 ≤ a1 ∧ ((List.range (2 ^ (wrap64 (a0_0 - 1)).toNat)).all fun x => decide (0 ≤ impl_Table_restrict.spread (x : Int) a1 a2)) = true
 case neg => rw [if_neg hb] at h; exact absurd h (by simp)
 rw [if_pos hb] at h
 simp only [Option.some.injEq, Prod.mk.injEq] at h
 obtain ⟨rfl, rfl⟩ := h
 obtain ⟨hb, hi, hall⟩ := hb
 have hu := Try.underlying25
 have s1 : (w.alloc (Obj.cells #[Value.int IntKind.i64 a0_0, Value.int IntKind.i64 a0_1] 25)).heap.size = w.heap.size + 1 := by simp
 have s2 : ((w.alloc (Obj.cells #[Value.int IntKind.i64 a0_0, Value.int IntKind.i64 a0_1] 25)).alloc (Obj.cells #[Value.int IntKind.i64 a1] 3)).heap.size = w.heap.size + 2 := by simp
 have F1 := blk_alloc (blk_alloc (blk_alloc (blk_new w (Obj.cells #[Value.int IntKind.i64 a0_0, Value.int IntKind.i64 a0_1] 25)) (Obj.cells #[Value.int IntKind.i64 a1] 3)) (Obj.cells #[Value.int IntKind.i64 a2] 3)) (Obj.cells #[Value.int IntKind.i64 0, Value.int IntKind.i64 0] 25)
 have F2 := blk_alloc (blk_alloc (blk_new (w.alloc (Obj.cells #[Value.int IntKind.i64 a0_0, Value.int IntKind.i64 a0_1] 25)) (Obj.cells #[Value.int IntKind.i64 a1] 3)) (Obj.cells #[Value.int IntKind.i64 a2] 3)) (Obj.cells #[Value.int IntKind.i64 0, Value.int IntKind.i64 0] 25)
 have F3 := blk_alloc (blk_new ((w.alloc (Obj.cells #[Value.int IntKind.i64 a0_0, Value.int IntKind.i64 a0_1] 25)).alloc (Obj.cells #[Value.int IntKind.i64 a1] 3)) (Obj.cells #[Value.int IntKind.i64 a2] 3)) (Obj.cells #[Value.int IntKind.i64 0, Value.int IntKind.i64 0] 25)
 rw [s1] at F2
 rw [s2] at F3
 have hcall := impl_makeTable.calls105 (wrap64 (a0_0 - 1)) hb #[.pointer (some ⟨w.heap.size, 0, none⟩), .pointer (some ⟨w.heap.size + 1, 0, none⟩), .pointer (some ⟨w.heap.size + 2, 0, none⟩)] (impl_Table_restrict.on a0_0 a0_1 a1 a2) ((((w.alloc (Obj.cells #[Value.int IntKind.i64 a0_0, Value.int IntKind.i64 a0_1] 25)).alloc (Obj.cells #[Value.int IntKind.i64 a1] 3)).alloc (Obj.cells #[Value.int IntKind.i64 a2] 3)).alloc (Obj.cells #[Value.int IntKind.i64 0, Value.int IntKind.i64 0] 25))
  (fun W x hW hx => impl_Table_restrict.in_calls a0_0 a0_1 a1 a2 hi w.heap.size (w.heap.size + 1) (w.heap.size + 2) x (of_decide_eq_true (List.all_eq_true.mp hall x (List.mem_range.mpr hx))) W (blk_below F1 hW) ((blk_cell (blk_below F2 hW) 0).trans rfl) ((blk_cell (blk_below F3 hW) 0).trans rfl))
 generalize impl_makeTable.word (impl_Table_restrict.on a0_0 a0_1 a1 a2) (2 ^ (wrap64 (a0_0 - 1)).toNat) = r at hcall ⊢
 clear F1 F2 F3 s1 s2 hall hb hi
 go_enter Try.func99, Try.ntmps99
 go_wp2_with (go_at_call 104; refine hcall.mono ?_; rintro e w1 ⟨rfl, hb1⟩; have RK := Aside0.mk (blk_below (blk_new (((w.alloc (Obj.cells #[Value.int IntKind.i64 a0_0, Value.int IntKind.i64 a0_1] 25)).alloc (Obj.cells #[Value.int IntKind.i64 a1] 3)).alloc (Obj.cells #[Value.int IntKind.i64 a2] 3)) (Obj.cells #[Value.int IntKind.i64 0, Value.int IntKind.i64 0] 25)) hb1); rw [show (((w.alloc (Obj.cells #[Value.int IntKind.i64 a0_0, Value.int IntKind.i64 a0_1] 25)).alloc (Obj.cells #[Value.int IntKind.i64 a1] 3)).alloc (Obj.cells #[Value.int IntKind.i64 a2] 3)).heap.size = w.heap.size + 3 by simp] at RK; have k0 := (blk_cell RK.out 0).trans rfl; have k1 := (blk_cell RK.out 1).trans rfl; have f0 := blk_frozen RK.out 0; have f1 := blk_frozen RK.out 1)
 refine bodyPost_ret (results_cell_row rfl _ _ (w.heap.size + 3) 25 #[.int .i64 (wrap64 (a0_0 - 1)), .int .i64 r] (0, 0) _ rfl (blk_put (cs := #[.int .i64 (wrap64 (a0_0 - 1)), .int .i64 0]) (blk_put (cs := #[.int .i64 0, .int .i64 0]) RK.out 0 _ rfl) 1 _ rfl) hu rfl (by kernel_rfl)) rfl ?_
 exact ⟨rfl, below_set (below_set ((((((Below.refl w.heap.size w).alloc (Nat.le_refl _) (Obj.cells #[Value.int IntKind.i64 a0_0, Value.int IntKind.i64 a0_1] 25)).alloc (by first | (simp; done) | (simp; omega)) (Obj.cells #[Value.int IntKind.i64 a1] 3)).alloc (by first | (simp; done) | (simp; omega)) (Obj.cells #[Value.int IntKind.i64 a2] 3)).alloc (by first | (simp; done) | (simp; omega)) (Obj.cells #[Value.int IntKind.i64 0, Value.int IntKind.i64 0] 25)).trans (hb1.mono (by simp; omega))) (by omega)) (by omega)⟩


section
attribute [local go_sem high] eqA25
/-! ### impl_Table_depends: function 73 -/
def impl_Table_depends.f (a0_0 : Int) (a0_1 : Int) (a1 : Int) : Option (Bool) := (impl_Table_restrict.f a0_0 a0_1 a1 0).bind fun bt500 => ((impl_Table_restrict.f a0_0 a0_1 a1 1).bind fun bt502 => (some (!(bt500.1 == bt502.1) || (!(bt500.2 == bt502.2)))))
def impl_Table_depends.T1 : Bool × List (List Nat × List Nat) := (true, [([], []), ([], []), ([0, 1], [0, 1]), ([], []), ([], []), ([3, 4, 2], [3, 4]), ([2, 5], [2, 5]), ([6, 5, 0, 1, 2, 3, 4, 5, 6], [6])])
def impl_Table_depends.B1 : List Nat := [0, 0, 3, 0, 0, 31, 63, 127]
theorem impl_Table_depends.tab1 : rtab .any (opsOf Try.f73 1) = impl_Table_depends.T1 := by kernel_rfl
theorem impl_Table_depends.bits1 : waitsOk impl_Table_depends.T1.2 impl_Table_depends.B1 = true := by kernel_rfl
set_option maxHeartbeats 8000000 in
set_option maxRecDepth 100000 in
theorem impl_Table_depends.calls (a0_0 : Int) (a0_1 : Int) (a1 : Int) (r : Bool) (w : World) (h : impl_Table_depends.f a0_0 a0_1 a1 = some r) :
  Calls Try.prog 73 #[.agg #[.int .i64 a0_0, .int .i64 a0_1], .int .i64 a1] w fun e w' => e = .returned (.bool r) ∧ Below w.heap.size w w' := by
 have hu25 := Try.underlying25
 have HB := Aside0.mk (Below.refl w.heap.size w)
 have H : ((impl_Table_restrict.f a0_0 a0_1 a1 0).bind fun bt500 => ((impl_Table_restrict.f a0_0 a0_1 a1 1).bind fun bt502 => (some (!(bt500.1 == bt502.1) || (!(bt500.2 == bt502.2)))))) = some r := h
 clear h
 replace H := Option.bind_eq_some_iff.mp H
 obtain ⟨⟨t500, t501⟩, A30, H⟩ := H
 replace H : ((impl_Table_restrict.f a0_0 a0_1 a1 1).bind fun bt502 => (some (!(t500 == bt502.1) || (!(t501 == bt502.2))))) = some r := H
 have A3 := Aside0.mk A30
 clear A30
 replace H := Option.bind_eq_some_iff.mp H
 obtain ⟨⟨t502, t503⟩, A40, H⟩ := H
 replace H : (some (!(t500 == t502) || (!(t501 == t503)))) = some r := H
 have A4 := Aside0.mk A40
 clear A40
 obtain rfl := Option.some.inj H
 go_enter Try.func73, Try.ntmps73
 try go_wp2_with (first | ((with_reducible refine gate_dst (N := 2) rfl ?_); refine bx_ 2 #[.int .i64 a0_0, .int .i64 a0_1] 25 ?_; intro gb499 hg w5 hbox hb; have BK499 := Aside0.mk (hbox); have GW499 := gw_ hg (below_size (bv_ HB)); have GE499 := GW499; replace HB := Aside0.mk (below_step (bv_ HB) hb); clear hb hbox hg))
 replace BK499 := Aside0.mk (blk_drew BK499.out)
 replace HB := Aside0.mk (below_drew1 HB.out)
 refine start_ (n := 8) (S := fun w' => w'.cell? ⟨gb499, 0, none⟩ = some (.int .i64 a0_0) ∧ w'.cell? ⟨gb499, 1, none⟩ = some (.int .i64 a0_1)) (ds := []) (bs 8 0) (by kernel_rfl) rfl (by kernel_rfl) ⟨(blk_cell BK499.out 0).trans rfl, (blk_cell BK499.out 1).trans rfl⟩ (fun hHeld => ?_); refine with_tabW impl_Table_depends.tab1 impl_Table_depends.bits1 (fun HT_ HW_ => ?_)
 generalize w5.drew = w6 at BK499 HB hHeld ⊢
 refine pu_ HT_ 1 6 (bs 8 2) ?_
 refine pu_ HT_ 4 9 (bs 8 18) ?_
 refine ta2_ HT_ HW_ 0 5 (bs 8 19) hHeld ?_
 refine ta2_ HT_ HW_ 3 8 (bs 8 27) hHeld ?_
 refine on_ HT_ 2 7 (bs 8 31) (fun K hK => ?_)
 refine goes_ Try.func99 (by kernel_rfl) rfl #[.agg #[.int .i64 a0_0, .int .i64 a0_1], .int .i64 a1, .int .i64 0] (by rfl) rfl rfl mp_ ?_
 with_reducible refine (impl_Table_restrict.calls a0_0 a0_1 a1 0 t500 t501 _ A3.out).mono ?_
 rintro e w7 ⟨rfl, hb⟩
 refine ⟨_, rfl, ?_⟩
 replace BK499 := Aside0.mk (blk_below (g := gb499) (o := .cells #[.int .i64 a0_0, .int .i64 a0_1] 25 (0, 0)) (kv_ BK499) hb)
 replace HB := Aside0.mk (below_step (bv1_ HB GE499) hb)
 (try clear hb)
 (try clear hb2)
 (try clear hk)
 (try clear hi)
 refine hK.out _ _ ⟨(blk_cell BK499.out 0).trans rfl, (blk_cell BK499.out 1).trans rfl⟩ (fun hHeld => ?_)
 clear hK K
 refine no_ 7 ?_
 refine on_ HT_ 5 10 (bs 8 63) (fun K hK => ?_)
 refine goes_ Try.func99 (by kernel_rfl) rfl #[.agg #[.int .i64 a0_0, .int .i64 a0_1], .int .i64 a1, .int .i64 1] (by rfl) rfl rfl mp_ ?_
 with_reducible refine (impl_Table_restrict.calls a0_0 a0_1 a1 1 t502 t503 _ A4.out).mono ?_
 rintro e w8 ⟨rfl, hb⟩
 refine ⟨_, rfl, ?_⟩
 replace BK499 := Aside0.mk (blk_below (g := gb499) (o := .cells #[.int .i64 a0_0, .int .i64 a0_1] 25 (0, 0)) (kv_ BK499) hb)
 replace HB := Aside0.mk (below_step (bv1_ HB GE499) hb)
 (try clear hb)
 (try clear hb2)
 (try clear hk)
 (try clear hi)
 refine hK.out _ _ ⟨(blk_cell BK499.out 0).trans rfl, (blk_cell BK499.out 1).trans rfl⟩ (fun hHeld => ?_)
 clear hK K
 refine no_ 10 ?_
 refine pu_ HT_ 6 11 (bs 8 127) ?_
 refine pu_ HT_ 7 4 (bs 8 255) ?_
 refine done_ (done_of HT_.out (by kernel_rfl)) ?_
 try go_wp2
 go_ret
 exact ⟨by first | rfl | (simp [errW_none, errW_some] <;> rfl) | (simp [*, errW_none, errW_some] <;> rfl), bv1_ HB GE499⟩

end

section
attribute [local go_sem high] eqA25
/-! ### impl_DependsOn: function 19 -/
def impl_DependsOn.f (a0_0 : Int) (a0_1 : Int) (a1 : Int) : Option (Bool) := (impl_hasVariable.f a0_0 a0_1 a1).bind fun t505 => (if t505 = true then ((impl_Table_depends.f a0_0 a0_1 a1).bind fun t506 => (some t506)) else (some false))
set_option maxHeartbeats 8000000 in
set_option maxRecDepth 100000 in
theorem impl_DependsOn.calls (a0_0 : Int) (a0_1 : Int) (a1 : Int) (r : Bool) (w : World) (h : impl_DependsOn.f a0_0 a0_1 a1 = some r) :
  Calls Try.prog 19 #[.agg #[.int .i64 a0_0, .int .i64 a0_1], .int .i64 a1] w fun e w' => e = .returned (.bool r) ∧ Below w.heap.size w w' := by
 have hu25 := Try.underlying25
 have HB := Aside0.mk (Below.refl w.heap.size w)
 have H : ((impl_hasVariable.f a0_0 a0_1 a1).bind fun t505 => (if t505 = true then ((impl_Table_depends.f a0_0 a0_1 a1).bind fun t506 => (some t506)) else (some false))) = some r := h
 clear h
 replace H := Option.bind_eq_some_iff.mp H
 obtain ⟨t505, A30, H⟩ := H
 have A3 := Aside0.mk A30
 clear A30
 by_cases c4 : t505 = true
 ·subst c4
  have H1 : ((impl_Table_depends.f a0_0 a0_1 a1).bind fun t506 => (some t506)) = some r := by rw [if_pos rfl] at H; exact H
  clear H
  have H := H1
  clear H1
  replace H := Option.bind_eq_some_iff.mp H
  obtain ⟨t506, A50, H⟩ := H
  have A5 := Aside0.mk A50
  clear A50
  obtain rfl := Option.some.inj H
  go_enter Try.func19, Try.ntmps19
  go_wp2_with (first | ((with_reducible refine gate_dst (N := 2) rfl ?_); refine bx_ 2 #[.int .i64 a0_0, .int .i64 a0_1] 25 ?_; intro gb504 hg w6 hbox hb; have BK504 := Aside0.mk (hbox); have GW504 := gw_ hg (below_size (bv_ HB)); have GE504 := GW504; replace HB := Aside0.mk (below_step (bv_ HB) hb); clear hb hbox hg; obtain ⟨hcz7_0, hcz7_1, hfz7_0, hfz7_1⟩ := c2_ BK504) | ((with_reducible refine gate_callee (f := 71) rfl ?_); refine gl_ 7 Try.func71 #[.agg #[.int .i64 a0_0, .int .i64 a0_1], .int .i64 a1] rfl mp_ ?_; (with_reducible refine (impl_hasVariable.calls a0_0 a0_1 a1 true _ A3.out).mono ?_); rintro e w8 ⟨rfl, hb⟩; refine ⟨_, rfl, ?_⟩; replace BK504 := Aside0.mk (blk_below (g := gb504) (o := .cells #[.int .i64 a0_0, .int .i64 a0_1] 25 (0, 0)) (kv_ BK504) hb); replace HB := Aside0.mk (below_step (bv1_ HB GE504) hb); (try clear hb); (try clear hb2); (try clear hk); (try clear hi); obtain ⟨hcz9_0, hcz9_1, hfz9_0, hfz9_1⟩ := c2_ BK504) | (go_at_call 73; (with_reducible refine (impl_Table_depends.calls a0_0 a0_1 a1 t506 _ A5.out).mono ?_); rintro e w10 ⟨rfl, hb⟩; replace BK504 := Aside0.mk (blk_below (g := gb504) (o := .cells #[.int .i64 a0_0, .int .i64 a0_1] 25 (0, 0)) (kv_ BK504) hb); replace HB := Aside0.mk (below_step (bv1_ HB GE504) hb); (try clear hb); (try clear hb2); (try clear hk); (try clear hi)))
  go_ret
  exact ⟨by first | rfl | (simp [errW_none, errW_some] <;> rfl) | (simp [*, errW_none, errW_some] <;> rfl), bv1_ HB GE504⟩
 ·replace c4 := Bool.eq_false_iff.mpr c4
  subst c4
  have H1 : (some false) = some r := by rw [if_neg (show ¬ (false = true) by decide)] at H; exact H
  clear H
  have H := H1
  clear H1
  obtain rfl := Option.some.inj H
  go_enter Try.func19, Try.ntmps19
  go_wp2_with (first | ((with_reducible refine gate_dst (N := 2) rfl ?_); refine bx_ 2 #[.int .i64 a0_0, .int .i64 a0_1] 25 ?_; intro gb504 hg w11 hbox hb; have BK504 := Aside0.mk (hbox); have GW504 := gw_ hg (below_size (bv_ HB)); have GE504 := GW504; replace HB := Aside0.mk (below_step (bv_ HB) hb); clear hb hbox hg; obtain ⟨hcz12_0, hcz12_1, hfz12_0, hfz12_1⟩ := c2_ BK504) | ((with_reducible refine gate_callee (f := 71) rfl ?_); refine gl_ 7 Try.func71 #[.agg #[.int .i64 a0_0, .int .i64 a0_1], .int .i64 a1] rfl mp_ ?_; (with_reducible refine (impl_hasVariable.calls a0_0 a0_1 a1 false _ A3.out).mono ?_); rintro e w13 ⟨rfl, hb⟩; refine ⟨_, rfl, ?_⟩; replace BK504 := Aside0.mk (blk_below (g := gb504) (o := .cells #[.int .i64 a0_0, .int .i64 a0_1] 25 (0, 0)) (kv_ BK504) hb); replace HB := Aside0.mk (below_step (bv1_ HB GE504) hb); (try clear hb); (try clear hb2); (try clear hk); (try clear hi)))
  go_ret
  exact ⟨by first | rfl | (simp [errW_none, errW_some] <;> rfl) | (simp [*, errW_none, errW_some] <;> rfl), bv1_ HB GE504⟩

end

section
attribute [local go_sem high] eqA25
/-! ### laws_total: function 20 -/
def laws_total.l0 : Nat → List Int → Int → Int → Option (Int)
 | 0, _, _, _ => none
 | k + 1, x0, x3, x4 => if x4 < (x0.length : Int) then (if 0 ≤ x4 then (laws_total.l0 k x0 (wrap64 (x3 + (rd x0 x4))) (wrap64 (x4 + 1))) else (none)) else (some x3)
def laws_total.f (k : Nat) (l0 : List Int) : Option (Int) := laws_total.l0 k l0 0 0
theorem laws_total.mono_l : ∀ k, (∀ y0 y1 y2, LeO (laws_total.l0 k y0 y1 y2) (laws_total.l0 (k + 1) y0 y1 y2))
 | 0 => fun _ _ _ r h => by simp [laws_total.l0] at h
 | k + 1 => by
  have ih0 := laws_total.mono_l k
  ·intro y0 y1 y2
   unfold laws_total.l0
   repeat' first
   | (with_reducible exact ih0 _ _ _)
   | (with_reducible exact LeO.refl _)
   | (with_reducible exact LeO.none _)
   | (with_reducible refine LeO.ite ?_ ?_)
   | (with_reducible refine LeO.bind ?_ (fun _ => ?_))
   | exact ih0 _ _ _
   | exact LeO.none _
   | refine LeO.ite ?_ ?_
   | refine LeO.bind ?_ (fun _ => ?_)
theorem laws_total.mono : ∀ a0 k, LeO (laws_total.f k a0) (laws_total.f (k + 1) a0) := by
 intro a0 k
 have ih0 := laws_total.mono_l k
 unfold laws_total.f
 repeat' first
   | (with_reducible exact ih0 _ _ _)
   | (with_reducible exact LeO.refl _)
   | (with_reducible exact LeO.none _)
   | (with_reducible refine LeO.ite ?_ ?_)
   | (with_reducible refine LeO.bind ?_ (fun _ => ?_))
   | exact ih0 _ _ _
   | exact LeO.none _
   | refine LeO.ite ?_ ?_
   | refine LeO.bind ?_ (fun _ => ?_)
set_option maxHeartbeats 8000000 in
set_option maxRecDepth 100000 in
theorem laws_total.calls (k : Nat) (A0 : Option Addr) (c0 : Nat) (l0 : List Int) (r : Int) (w : World) (hr0 : Kd.C (Kd.int .i64) w A0 l0.length l0) (hc0 : l0.length ≤ c0) (h : laws_total.f k l0 = some r) :
  Calls Try.prog 20 #[.slice A0 l0.length c0] w fun e w' => e = .returned (.int .i64 r) ∧ Drawn0 w w' := by
 have HR0 := Aside0.mk hr0
 have HC0 := Aside0.mk hc0
 clear hr0 hc0
 have H : (laws_total.l0 k l0 0 0) = some r := h
 clear h
 have H' := Aside0.mk H
 clear H
 go_enter Try.func20, Try.ntmps20
 go_wp2
 go_loopg [3, 4] k (fun kq v3 v4 w' => ∃ (x3_1 : Int) (x4_1 : Int), v3 = .int .i64 x3_1 ∧ v4 = .int .i64 x4_1 ∧ Aside0 (laws_total.l0 kq l0 x3_1 x4_1 = some r) ∧ Aside0 (kq ≤ k) ∧ Drawn0 w w')
 case atStart => exact ⟨(0), (0), (by first | rfl | (simp; done) | (simp [*]; done)), (by first | rfl | (simp; done) | (simp [*]; done)), H', ⟨Nat.le_refl _⟩, by repeat (first | exact Drawn0.refl _ | apply Drawn0.step)⟩
 case round =>
  clear H'
  obtain ⟨x3_1, x4_1, rfl, rfl, HA, HK1, ⟨m1, rfl⟩⟩ := hrel
  cases gk with
  | zero => exact absurd HA.out (by simp [laws_total.l0])
  | succ k1 =>
   have H := HA.out
   clear HA
   simp only [laws_total.l0] at H
   by_cases c2 : x4_1 < (l0.length : Int)
   ·rw [if_pos c2] at H
    have c2b0 : decide (x4_1 < (l0.length : Int)) = true := decide_eq_true c2
    clear c2
    by_cases c3 : 0 ≤ x4_1
    ·rw [if_pos c3] at H
     have c3b0 : decide (0 ≤ x4_1) = true := decide_eq_true c3
     clear c3
     have H' := Aside0.mk H
     clear H
     have p507 : 0 ≤ (x4_1 : Int) := of_decide_eq_true (by first | (with_reducible assumption) | assumption)
     have q507 : x4_1 < (l0.length : Int) := of_decide_eq_true (by first | (with_reducible assumption) | assumption)
     obtain ⟨ad507, e507, hx507_0⟩ := Kd.at_int HR0.out x4_1 p507 q507
     cases e507
     replace p507 := eq_true p507
     replace q507 := eq_true q507
     go_wp2
     go_roundg k1
     case measure => have := HK1.out; omega
     case rel => exact ⟨(wrap64 (x3_1 + (rd l0 x4_1))), (wrap64 (x4_1 + 1)), (by first | rfl | (simp; done) | (simp [*]; done)), (by first | rfl | (simp; done) | (simp [*]; done)), H', ⟨by have := HK1.out; omega⟩, by repeat (first | exact Drawn0.refl _ | apply Drawn0.step)⟩
    ·rw [if_neg c3] at H
     exact absurd H (by simp)
   ·rw [if_neg c2] at H
    have c2b0 : decide (x4_1 < (l0.length : Int)) = false := decide_eq_false c2
    clear c2
    obtain rfl := Option.some.inj H
    go_wp2
    go_ret
    exact ⟨by first | rfl | (simp; done) | (simp [*]; done), by repeat (first | exact Drawn0.refl _ | apply Drawn0.step)⟩

end

/-! ### spec_l3Var: function 74 -/
def spec_l3Var.f (k : Nat) (l0 : List Int) : Option (Int × Int × Int) := (spec_l1New.f k l0).bind fun bt509 => ((spec_l2Any.f k bt509.1 bt509.2.1 bt509.2.2).bind fun bt513 => ((spec_l1Below.f bt509.1 bt513.2.2.1 bt513.2.2.2 7).bind fun bt518 => (some (bt513.1, bt513.2.1, wrap64 (bt518.1 - 1)))))
theorem spec_l3Var.mono : ∀ a0 k, LeO (spec_l3Var.f k a0) (spec_l3Var.f (k + 1) a0) := by
 intro a0 k
 unfold spec_l3Var.f
 repeat' first
   | (with_reducible exact spec_l1New.mono _ _)
   | (with_reducible exact spec_l2Any.mono _ _ _ _)
   | (with_reducible exact LeO.refl _)
   | (with_reducible exact LeO.none _)
   | (with_reducible refine LeO.ite ?_ ?_)
   | (with_reducible refine LeO.bind ?_ (fun _ => ?_))
   | exact spec_l1New.mono _ _
   | exact spec_l2Any.mono _ _ _ _
   | exact LeO.none _
   | refine LeO.ite ?_ ?_
   | refine LeO.bind ?_ (fun _ => ?_)
set_option maxHeartbeats 8000000 in
set_option maxRecDepth 100000 in
theorem spec_l3Var.calls (k : Nat) (A0 : Option Addr) (c0 : Nat) (l0 : List Int) (r1 : Int) (r2 : Int) (r3 : Int) (w : World) (hr0 : Kd.C (Kd.int .u8) w A0 l0.length l0) (hc0 : l0.length ≤ c0) (h : spec_l3Var.f k l0 = some (r1, r2, r3)) :
  Calls Try.prog 74 #[.slice A0 l0.length c0] w fun e w' => e = .returned (.tuple #[.agg #[.int .i64 r1, .int .i64 r2], .int .i64 r3]) ∧ Below w.heap.size w w' := by
 have hu25 := Try.underlying25
 have HR0 := Aside0.mk hr0
 have HC0 := Aside0.mk hc0
 clear hr0 hc0
 have HB := Aside0.mk (Below.refl w.heap.size w)
 have H : ((spec_l1New.f k l0).bind fun bt509 => ((spec_l2Any.f k bt509.1 bt509.2.1 bt509.2.2).bind fun bt513 => ((spec_l1Below.f bt509.1 bt513.2.2.1 bt513.2.2.2 7).bind fun bt518 => (some (bt513.1, bt513.2.1, wrap64 (bt518.1 - 1)))))) = some (r1, r2, r3) := h
 clear h
 replace H := Option.bind_eq_some_iff.mp H
 obtain ⟨⟨t509, t510, t511⟩, A20, H⟩ := H
 replace H : ((spec_l2Any.f k t509 t510 t511).bind fun bt513 => ((spec_l1Below.f t509 bt513.2.2.1 bt513.2.2.2 7).bind fun bt518 => (some (bt513.1, bt513.2.1, wrap64 (bt518.1 - 1))))) = some (r1, r2, r3) := H
 have A2 := Aside0.mk A20
 clear A20
 replace H := Option.bind_eq_some_iff.mp H
 obtain ⟨⟨t513, t514, t515, t516⟩, A30, H⟩ := H
 replace H : ((spec_l1Below.f t509 t515 t516 7).bind fun bt518 => (some (t513, t514, wrap64 (bt518.1 - 1)))) = some (r1, r2, r3) := H
 have A3 := Aside0.mk A30
 clear A30
 replace H := Option.bind_eq_some_iff.mp H
 obtain ⟨⟨t518, t519, t520⟩, A40, H⟩ := H
 replace H : (some (t513, t514, wrap64 (t518 - 1))) = some (r1, r2, r3) := H
 have A4 := Aside0.mk A40
 clear A40
 simp only [Option.some.injEq, Prod.mk.injEq] at H
 obtain ⟨rfl, rfl, rfl⟩ := H
 go_enter Try.func74, Try.ntmps74
 try go_wp2_with (first | ((with_reducible refine gate_dst (N := 2) rfl ?_); refine bx_ 2 #[.int .i64 0, .int .i64 0] 25 ?_; intro gb508 hg w5 hbox hb; have BK508 := Aside0.mk (hbox); have GW508 := gw_ hg (below_size (bv_ HB)); have GE508 := GW508; replace HB := Aside0.mk (below_step (bv_ HB) hb); clear hb hbox hg) | ((with_reducible refine gate_callee (f := 60) rfl ?_); refine gl_ 7 Try.func60 #[.slice A0 l0.length c0] rfl mp_ ?_; (with_reducible refine (spec_l1New.calls k _ _ l0 t509 t510 t511 w _ ?side1 ?side2 ?side3 A2.out).mono ?_); (case side1 => repeat (first | (with_reducible first | exact HB.out | apply below_alloc | apply pw_below_drewN | apply below_drew1 | refine below_set ?_ GE508.out) | exact HB.out)); (case side2 => exact HR0.out); (case side3 => exact HC0.out); rintro e w6 ⟨g512, rfl, hi, hb, hb2⟩; refine ⟨_, rfl, ?_⟩; replace HB := Aside0.mk (hb); have HI512 := Aside0.mk (hi); have NB512_508 := Aside0.mk (IsS61.ne_blk hi (blk_below (g := gb508) (o := .cells #[.int .i64 0, .int .i64 0] 25 (0, 0)) (kv_ BK508) hb2) (by decide)); have NB508_512 := Aside0.mk (Ne.symm (IsS61.ne_blk hi (blk_below (g := gb508) (o := .cells #[.int .i64 0, .int .i64 0] 25 (0, 0)) (kv_ BK508) hb2) (by decide))); replace BK508 := Aside0.mk (blk_below (g := gb508) (o := .cells #[.int .i64 0, .int .i64 0] 25 (0, 0)) (kv_ BK508) hb2); (try clear hb); (try clear hb2); (try clear hk); (try clear hi)) | ((with_reducible refine gate_callee (f := 59) rfl ?_); refine gl_ 9 Try.func59 #[.pointer (some ⟨g512, 0, none⟩)] rfl mp_ ?_; (with_reducible refine (spec_l2Any.calls k g512 t509 t510 t511 t513 t514 t515 t516 w _ ?side1 ?side2 A3.out).mono ?_); (case side1 => repeat (first | (with_reducible first | exact HI512.out | apply IsS61.alloc | apply IsS61.drewN | apply IsS61.drew | apply IsS61.set_1 | apply IsS61.set_2 | refine IsS61.far ?_ NB512_508.out _) | exact HI512.out)); (case side2 => repeat (first | (with_reducible first | exact HB.out | apply below_alloc | apply pw_below_drewN | apply below_drew1 | refine below_set ?_ (IsS61.ge HI512.out) | refine below_set ?_ GE508.out) | exact HB.out)); rintro e w7 ⟨rfl, hi, hb, hk⟩; refine ⟨_, rfl, ?_⟩; replace BK508 := Aside0.mk (KeepBut.blk hk (g' := gb508) (o := .cells #[.int .i64 0, .int .i64 0] 25 (0, 0)) (kv_ BK508) NB508_512.out (by simp)); replace HB := Aside0.mk (hb); replace HI512 := Aside0.mk (hi); (try clear hb); (try clear hb2); (try clear hk); (try clear hi)) | ((with_reducible refine gate_dst (N := 5) rfl ?_); refine bx_ 5 #[.int .i64 0, .int .i64 0] 25 ?_; intro gb517 hg w8 hbox hb; have BK517 := Aside0.mk (hbox); have GW517 := Aside0.mk ((by rw [hg]; exact (below_size (by repeat (first | (with_reducible first | exact HB.out | apply below_alloc | apply pw_below_drewN | apply below_drew1 | refine below_set ?_ (IsS61.ge HI512.out) | refine below_set ?_ GE508.out) | exact HB.out))) : w.heap.size ≤ gb517)); have GE517 := GW517; replace HB := Aside0.mk (below_step (by repeat (first | (with_reducible first | exact HB.out | apply below_alloc | apply pw_below_drewN | apply below_drew1 | refine below_set ?_ (IsS61.ge HI512.out) | refine below_set ?_ GE508.out) | exact HB.out)) hb); have NB508_517 := nb_ hg (blk_lt (g := gb508) (o := .cells #[.int .i64 0, .int .i64 0] 25 (0, 0)) (kv_ BK508)); have NB517_508 := nc_ hg (blk_lt (g := gb508) (o := .cells #[.int .i64 0, .int .i64 0] 25 (0, 0)) (kv_ BK508)); replace BK508 := Aside0.mk (blk_below (g := gb508) (o := .cells #[.int .i64 0, .int .i64 0] 25 (0, 0)) (kv_ BK508) hb); have NB512_517 := Aside0.mk ((by rw [hg]; exact Nat.ne_of_lt (IsS61.lt (show IsS61 w _ g512 t509 t515 t516 from by repeat (first | (with_reducible first | exact HI512.out | apply IsS61.alloc | apply IsS61.drewN | apply IsS61.drew | apply IsS61.set_1 | apply IsS61.set_2 | refine IsS61.far ?_ NB512_508.out _) | exact HI512.out))) : g512 ≠ gb517)); have NB517_512 := Aside0.mk ((by rw [hg]; exact Nat.ne_of_gt (IsS61.lt (show IsS61 w _ g512 t509 t515 t516 from by repeat (first | (with_reducible first | exact HI512.out | apply IsS61.alloc | apply IsS61.drewN | apply IsS61.drew | apply IsS61.set_1 | apply IsS61.set_2 | refine IsS61.far ?_ NB512_508.out _) | exact HI512.out))) : gb517 ≠ g512)); replace HI512 := Aside0.mk (IsS61.below (by repeat (first | (with_reducible first | exact HI512.out | apply IsS61.alloc | apply IsS61.drewN | apply IsS61.drew | apply IsS61.set_1 | apply IsS61.set_2 | refine IsS61.far ?_ NB512_508.out _) | exact HI512.out)) hb); clear hb hbox hg; have hnb9 := NB517_508.out; have hnc9 := NB508_517.out; have hnb10 := NB517_512.out; have hnc10 := NB512_517.out; obtain ⟨hcz11_0, hcz11_1, hfz11_0, hfz11_1⟩ := c2_ BK517))
 have n0_ : Aside0 (((w8.setCell ⟨gb517, 0, none⟩ (.int .i64 t513)).setCell ⟨gb517, 1, none⟩ (.int .i64 t514)).heap[gb508]? = some (.cells #[.int .i64 0, .int .i64 0] 25 (0, 0))) := ⟨by (with_reducible repeat (first | refine blk_drewN ?_ _ | refine blk_drew ?_ | refine blk_alloc ?_ _)); refine blk_far ?_ NB508_517.out _; (with_reducible repeat (first | refine blk_drewN ?_ _ | refine blk_drew ?_ | refine blk_alloc ?_ _)); refine blk_far ?_ NB508_517.out _; (with_reducible repeat (first | refine blk_drewN ?_ _ | refine blk_drew ?_ | refine blk_alloc ?_ _)); exact BK508.out⟩
 have n1_ : Aside0 (((w8.setCell ⟨gb517, 0, none⟩ (.int .i64 t513)).setCell ⟨gb517, 1, none⟩ (.int .i64 t514)).heap[gb517]? = some (.cells #[.int .i64 t513, .int .i64 t514] 25 (0, 0))) := ⟨by (with_reducible repeat (first | refine blk_drewN ?_ _ | refine blk_drew ?_ | refine blk_alloc ?_ _)); refine blk_put (cs := #[.int .i64 t513, .int .i64 0]) ?_ 1 _ rfl; (with_reducible repeat (first | refine blk_drewN ?_ _ | refine blk_drew ?_ | refine blk_alloc ?_ _)); refine blk_put (cs := #[.int .i64 0, .int .i64 0]) ?_ 0 _ rfl; (with_reducible repeat (first | refine blk_drewN ?_ _ | refine blk_drew ?_ | refine blk_alloc ?_ _)); exact BK517.out⟩
 have n2_ : Aside0 (IsS61 w ((w8.setCell ⟨gb517, 0, none⟩ (.int .i64 t513)).setCell ⟨gb517, 1, none⟩ (.int .i64 t514)) g512 t509 t515 t516) := ⟨by repeat (first | (with_reducible first | exact HI512.out | apply IsS61.alloc | apply IsS61.drewN | apply IsS61.drew | apply IsS61.set_1 | apply IsS61.set_2 | refine IsS61.far ?_ NB512_508.out _ | refine IsS61.far ?_ NB512_517.out _) | exact HI512.out)⟩
 have n3_ : Aside0 (Below w.heap.size w ((w8.setCell ⟨gb517, 0, none⟩ (.int .i64 t513)).setCell ⟨gb517, 1, none⟩ (.int .i64 t514))) := ⟨by repeat (first | (with_reducible first | exact HB.out | apply below_alloc | apply pw_below_drewN | apply below_drew1 | refine below_set ?_ (IsS61.ge HI512.out) | refine below_set ?_ GE508.out | refine below_set ?_ GE517.out) | exact HB.out)⟩
 (try clear BK508)
 (try clear BK517)
 (try clear HI512)
 (try clear HB)
 generalize ((w8.setCell ⟨gb517, 0, none⟩ (.int .i64 t513)).setCell ⟨gb517, 1, none⟩ (.int .i64 t514)) = w12 at n0_ n1_ n2_ n3_ ⊢
 have BK508 := n0_
 have BK517 := n1_
 have HI512 := n2_
 have HB := n3_
 clear n0_ n1_ n2_ n3_
 replace BK508 := Aside0.mk (blk_drew BK508.out)
 replace BK517 := Aside0.mk (blk_drew BK517.out)
 replace HI512 := Aside0.mk (IsS61.drew HI512.out)
 replace HB := Aside0.mk (below_drew1 HB.out)
 refine start_ (n := 6) (S := fun w' => w'.cell? ⟨gb517, 0, none⟩ = some (.int .i64 t513) ∧ w'.cell? ⟨gb517, 1, none⟩ = some (.int .i64 t514)) (ds := []) (bs 6 0) (by kernel_rfl) rfl (by kernel_rfl) ⟨(blk_cell BK517.out 0).trans rfl, (blk_cell BK517.out 1).trans rfl⟩ (fun hHeld => ?_)
 generalize w12.drew = w13 at BK508 BK517 HI512 HB hHeld ⊢
 refine pure_ (i := 1) (N := some 11) (v := ?_) (a' := ?_) (bs 6 2) rfl rfl (by kernel_rfl) (fun _ _ _ h => h) (Or.inl ⟨by rfl, ?_⟩) ?_ ?_
 rotate_left
 ·intro w'
  go_simp
  with_reducible rfl
 rotate_left
 ·simp only [Act.put, List.setIfInBounds_toArray, List.set_cons_zero, List.set_cons_succ, i64_w, i32_w]
  rfl
 refine take_ (i := 0) (N := some 10) (v := ?_) (a' := ?_) (bs 6 3) rfl rfl (by kernel_rfl) (fun _ _ _ h => h) (Or.inl ⟨by rfl, ?_⟩) hHeld ?_ ?_
 rotate_left
 ·rintro w' ⟨s0, s1⟩
  go_simp
  with_reducible rfl
 rotate_left
 ·simp only [Act.put, List.setIfInBounds_toArray, List.set_cons_zero, List.set_cons_succ, i64_w, i32_w]
  rfl
 refine one_ (i := 2) (N := some 12) (bs 6 7) rfl rfl (by kernel_rfl) (by decide) (fun K hK => ?_)
 refine goes_ Try.func93 (by kernel_rfl) rfl #[.pointer (some ⟨g512, 0, none⟩), .int .i64 7] (by rfl) rfl rfl mp_ ?_
 with_reducible refine (spec_l1Below.calls g512 t509 t515 t516 7 t518 t519 t520 w _ ?side1 ?side2 A4.out).mono ?_
 (case side1 => repeat (first | (with_reducible first | exact HI512.out | apply IsS61.alloc | apply IsS61.drewN | apply IsS61.drew | apply IsS61.set_1 | apply IsS61.set_2 | refine IsS61.far ?_ NB512_508.out _ | refine IsS61.far ?_ NB512_517.out _) | exact HI512.out))
 (case side2 => repeat (first | (with_reducible first | exact HB.out | apply below_alloc | apply pw_below_drewN | apply below_drew1 | refine below_set ?_ (IsS61.ge HI512.out) | refine below_set ?_ GE508.out | refine below_set ?_ GE517.out) | exact HB.out))
 rintro e w14 ⟨rfl, hi, hb, hk⟩
 refine ⟨_, rfl, ?_⟩
 replace BK508 := Aside0.mk (KeepBut.blk hk (g' := gb508) (o := .cells #[.int .i64 0, .int .i64 0] 25 (0, 0)) (kv_ BK508) NB508_512.out (by simp))
 replace BK517 := Aside0.mk (KeepBut.blk hk (g' := gb517) (o := .cells #[.int .i64 t513, .int .i64 t514] 25 (0, 0)) (kv_ BK517) NB517_512.out (by simp))
 replace HB := Aside0.mk (hb)
 replace HI512 := Aside0.mk (hi)
 (try clear hb)
 (try clear hb2)
 (try clear hk)
 (try clear hi)
 refine hK.out _ _ ⟨(blk_cell BK517.out 0).trans rfl, (blk_cell BK517.out 1).trans rfl⟩ (fun hHeld => ?_)
 clear hK K
 refine no_ 12 ?_
 refine pure_ (i := 3) (N := some 13) (v := ?_) (a' := ?_) (bs 6 15) rfl rfl (by kernel_rfl) (fun _ _ _ h => h) (Or.inl ⟨by rfl, ?_⟩) ?_ ?_
 rotate_left
 ·intro w'
  go_simp
  with_reducible rfl
 rotate_left
 ·simp only [Act.put, List.setIfInBounds_toArray, List.set_cons_zero, List.set_cons_succ, i64_w, i32_w]
  rfl
 refine one_ (i := 4) (N := none) (bs 6 31) rfl rfl (by kernel_rfl) (by decide) (fun K hK => ?_)
 have hs15 : w14.cell? ⟨gb508, 0, none⟩ = some (.int .i64 0) := (blk_cell BK508.out 0).trans rfl
 have hfs15 := blk_frozen BK508.out 0
 have hns15_1 := NB517_508.out
 have hms15_1 := NB508_517.out
 have hs16 : w14.cell? ⟨gb508, 1, none⟩ = some (.int .i64 0) := (blk_cell BK508.out 1).trans rfl
 have hfs16 := blk_frozen BK508.out 1
 have hns16_1 := NB517_508.out
 have hms16_1 := NB508_517.out
 refine skip_ (w1 := ?_) (by rfl) rfl ?_ ?_
 rotate_left
 ·go_simp
  rfl
 refine hK.out _ _ ⟨((cell_far (p := ⟨gb508, _, none⟩) NB517_508.out _).trans (((cell_far (p := ⟨gb508, _, none⟩) NB517_508.out _).trans (hHeld.1)))), ((cell_far (p := ⟨gb508, _, none⟩) NB517_508.out _).trans (((cell_far (p := ⟨gb508, _, none⟩) NB517_508.out _).trans (hHeld.2))))⟩ (fun hHeld => ?_)
 clear hK K
 refine pure_ (i := 5) (N := some 3) (v := ?_) (a' := ?_) (bs 6 63) rfl rfl (by kernel_rfl) (fun _ _ _ h => h) (Or.inl ⟨by rfl, ?_⟩) ?_ ?_
 rotate_left
 ·intro w'
  go_simp
  with_reducible rfl
 rotate_left
 ·simp only [Act.put, List.setIfInBounds_toArray, List.set_cons_zero, List.set_cons_succ, i64_w, i32_w]
  rfl
 refine done_ (by kernel_rfl) ?_
 try go_wp2
 refine bodyPost_ret (results_ct rfl _ _ gb508 25 #[.int .i64 t513, .int .i64 t514] (0, 0) _ rfl (by (with_reducible repeat (first | refine blk_drewN ?_ _ | refine blk_drew ?_ | refine blk_alloc ?_ _)); refine blk_put (cs := #[.int .i64 t513, .int .i64 0]) ?_ 1 _ rfl; (with_reducible repeat (first | refine blk_drewN ?_ _ | refine blk_drew ?_ | refine blk_alloc ?_ _)); refine blk_put (cs := #[.int .i64 0, .int .i64 0]) ?_ 0 _ rfl; (with_reducible repeat (first | refine blk_drewN ?_ _ | refine blk_drew ?_ | refine blk_alloc ?_ _)); exact BK508.out) Try.underlying25 rfl (by kernel_rfl)) rfl ?_
 exact ⟨by first | rfl | (simp [errW_none, errW_some] <;> rfl) | (simp [*, errW_none, errW_some] <;> rfl), by repeat (first | (with_reducible first | exact HB.out | apply below_alloc | apply pw_below_drewN | apply below_drew1 | refine below_set ?_ (IsS61.ge HI512.out) | refine below_set ?_ GE508.out | refine below_set ?_ GE517.out) | exact HB.out)⟩


/-! ### spec_DrawInfluenceOf: function 21 -/
def spec_DrawInfluenceOf.f (k : Nat) (l0 : List Int) : Option (Int × Int × Int) := (spec_l3Var.f k l0).bind fun bt522 => (some (bt522.1, bt522.2.1, bt522.2.2))
theorem spec_DrawInfluenceOf.mono : ∀ a0 k, LeO (spec_DrawInfluenceOf.f k a0) (spec_DrawInfluenceOf.f (k + 1) a0) := by
 intro a0 k
 unfold spec_DrawInfluenceOf.f
 repeat' first
   | (with_reducible exact spec_l3Var.mono _ _)
   | (with_reducible exact LeO.refl _)
   | (with_reducible exact LeO.none _)
   | (with_reducible refine LeO.ite ?_ ?_)
   | (with_reducible refine LeO.bind ?_ (fun _ => ?_))
   | exact spec_l3Var.mono _ _
   | exact LeO.none _
   | refine LeO.ite ?_ ?_
   | refine LeO.bind ?_ (fun _ => ?_)
set_option maxHeartbeats 8000000 in
set_option maxRecDepth 100000 in
theorem spec_DrawInfluenceOf.calls (k : Nat) (A0 : Option Addr) (c0 : Nat) (l0 : List Int) (r1 : Int) (r2 : Int) (r3 : Int) (w : World) (hr0 : Kd.C (Kd.int .u8) w A0 l0.length l0) (hc0 : l0.length ≤ c0) (h : spec_DrawInfluenceOf.f k l0 = some (r1, r2, r3)) :
  Calls Try.prog 21 #[.slice A0 l0.length c0] w fun e w' => e = .returned (.tuple #[.agg #[.int .i64 r1, .int .i64 r2], .int .i64 r3]) ∧ Below w.heap.size w w' := by
 have hu25 := Try.underlying25
 have HR0 := Aside0.mk hr0
 have HC0 := Aside0.mk hc0
 clear hr0 hc0
 have HB := Aside0.mk (Below.refl w.heap.size w)
 have H : ((spec_l3Var.f k l0).bind fun bt522 => (some (bt522.1, bt522.2.1, bt522.2.2))) = some (r1, r2, r3) := h
 clear h
 replace H := Option.bind_eq_some_iff.mp H
 obtain ⟨⟨t522, t523, t524⟩, A20, H⟩ := H
 replace H : (some (t522, t523, t524)) = some (r1, r2, r3) := H
 have A2 := Aside0.mk A20
 clear A20
 simp only [Option.some.injEq, Prod.mk.injEq] at H
 obtain ⟨rfl, rfl, rfl⟩ := H
 go_enter Try.func21, Try.ntmps21
 go_wp2_with (first | ((with_reducible refine gate_dst (N := 2) rfl ?_); refine bx_ 2 #[.int .i64 0, .int .i64 0] 25 ?_; intro gb521 hg w3 hbox hb; have BK521 := Aside0.mk (hbox); have GW521 := gw_ hg (below_size (bv_ HB)); have GE521 := GW521; replace HB := Aside0.mk (below_step (bv_ HB) hb); clear hb hbox hg) | ((with_reducible refine gate_callee (f := 74) rfl ?_); refine gl_ 8 Try.func74 #[.slice A0 l0.length c0] rfl mp_ ?_; (with_reducible refine (spec_l3Var.calls k _ _ l0 t522 t523 t524 _ ?side1 ?side2 A2.out).mono ?_); (case side1 => exact cv_ (Kd.C_below HR0.out HB.out)); (case side2 => exact HC0.out); rintro e w4 ⟨rfl, hb⟩; refine ⟨_, rfl, ?_⟩; replace BK521 := Aside0.mk (blk_below (g := gb521) (o := .cells #[.int .i64 0, .int .i64 0] 25 (0, 0)) (kv_ BK521) hb); replace HB := Aside0.mk (below_step (bv1_ HB GE521) hb); (try clear hb); (try clear hb2); (try clear hk); (try clear hi)) | ((with_reducible refine gate_dst (N := 4) rfl ?_); refine bx_ 4 #[.int .i64 0, .int .i64 0] 25 ?_; intro gb525 hg w5 hbox hb; have BK525 := Aside0.mk (hbox); have GW525 := gw_ hg (below_size (bv1_ HB GE521)); have GE525 := GW525; replace HB := Aside0.mk (below_step (bv1_ HB GE521) hb); have NB521_525 := nb_ hg (blk_lt (g := gb521) (o := .cells #[.int .i64 0, .int .i64 0] 25 (0, 0)) (kv_ BK521)); have NB525_521 := nc_ hg (blk_lt (g := gb521) (o := .cells #[.int .i64 0, .int .i64 0] 25 (0, 0)) (kv_ BK521)); replace BK521 := Aside0.mk (blk_below (g := gb521) (o := .cells #[.int .i64 0, .int .i64 0] 25 (0, 0)) (kv_ BK521) hb); clear hb hbox hg; have hnb6 := NB525_521.out; have hnc6 := NB521_525.out; obtain ⟨hcz7_0, hcz7_1, hfz7_0, hfz7_1⟩ := c2_ BK525; obtain ⟨hcz8_0, hcz8_1, hfz8_0, hfz8_1⟩ := c2_ BK521))
 refine bodyPost_ret (results_ct rfl _ _ gb521 25 #[.int .i64 t522, .int .i64 t523] (0, 0) _ rfl (by (with_reducible repeat (first | refine blk_drewN ?_ _ | refine blk_drew ?_ | refine blk_alloc ?_ _)); refine blk_put (cs := #[.int .i64 t522, .int .i64 0]) ?_ 1 _ rfl; (with_reducible repeat (first | refine blk_drewN ?_ _ | refine blk_drew ?_ | refine blk_alloc ?_ _)); refine blk_put (cs := #[.int .i64 0, .int .i64 0]) ?_ 0 _ rfl; (with_reducible repeat (first | refine blk_drewN ?_ _ | refine blk_drew ?_ | refine blk_alloc ?_ _)); refine blk_far ?_ NB521_525.out _; (with_reducible repeat (first | refine blk_drewN ?_ _ | refine blk_drew ?_ | refine blk_alloc ?_ _)); refine blk_far ?_ NB521_525.out _; (with_reducible repeat (first | refine blk_drewN ?_ _ | refine blk_drew ?_ | refine blk_alloc ?_ _)); exact BK521.out) Try.underlying25 rfl (by kernel_rfl)) rfl ?_
 exact ⟨by first | rfl | (simp [errW_none, errW_some] <;> rfl) | (simp [*, errW_none, errW_some] <;> rfl), bv2_ HB GE521 GE525⟩


/-! ### spec_DrawMostInfluential: function 22 -/
def spec_DrawMostInfluential.f (k : Nat) (l0 : List Int) : Option (Int × Int) := (spec_l1New.f k l0).bind fun bt527 => ((spec_l2Any.f k bt527.1 bt527.2.1 bt527.2.2).bind fun bt531 => (some (bt531.1, bt531.2.1)))
theorem spec_DrawMostInfluential.mono : ∀ a0 k, LeO (spec_DrawMostInfluential.f k a0) (spec_DrawMostInfluential.f (k + 1) a0) := by
 intro a0 k
 unfold spec_DrawMostInfluential.f
 repeat' first
   | (with_reducible exact spec_l1New.mono _ _)
   | (with_reducible exact spec_l2Any.mono _ _ _ _)
   | (with_reducible exact LeO.refl _)
   | (with_reducible exact LeO.none _)
   | (with_reducible refine LeO.ite ?_ ?_)
   | (with_reducible refine LeO.bind ?_ (fun _ => ?_))
   | exact spec_l1New.mono _ _
   | exact spec_l2Any.mono _ _ _ _
   | exact LeO.none _
   | refine LeO.ite ?_ ?_
   | refine LeO.bind ?_ (fun _ => ?_)
set_option maxHeartbeats 8000000 in
set_option maxRecDepth 100000 in
theorem spec_DrawMostInfluential.calls (k : Nat) (A0 : Option Addr) (c0 : Nat) (l0 : List Int) (r1 : Int) (r2 : Int) (w : World) (hr0 : Kd.C (Kd.int .u8) w A0 l0.length l0) (hc0 : l0.length ≤ c0) (h : spec_DrawMostInfluential.f k l0 = some (r1, r2)) :
  Calls Try.prog 22 #[.slice A0 l0.length c0] w fun e w' => e = .returned (.agg #[.int .i64 r1, .int .i64 r2]) ∧ Below w.heap.size w w' := by
 have hu25 := Try.underlying25
 have HR0 := Aside0.mk hr0
 have HC0 := Aside0.mk hc0
 clear hr0 hc0
 have HB := Aside0.mk (Below.refl w.heap.size w)
 have H : ((spec_l1New.f k l0).bind fun bt527 => ((spec_l2Any.f k bt527.1 bt527.2.1 bt527.2.2).bind fun bt531 => (some (bt531.1, bt531.2.1)))) = some (r1, r2) := h
 clear h
 replace H := Option.bind_eq_some_iff.mp H
 obtain ⟨⟨t527, t528, t529⟩, A20, H⟩ := H
 replace H : ((spec_l2Any.f k t527 t528 t529).bind fun bt531 => (some (bt531.1, bt531.2.1))) = some (r1, r2) := H
 have A2 := Aside0.mk A20
 clear A20
 replace H := Option.bind_eq_some_iff.mp H
 obtain ⟨⟨t531, t532, t533, t534⟩, A30, H⟩ := H
 replace H : (some (t531, t532)) = some (r1, r2) := H
 have A3 := Aside0.mk A30
 clear A30
 simp only [Option.some.injEq, Prod.mk.injEq] at H
 obtain ⟨rfl, rfl⟩ := H
 go_enter Try.func22, Try.ntmps22
 go_wp2_with (first | ((with_reducible refine gate_dst (N := 2) rfl ?_); refine bx_ 2 #[.int .i64 0, .int .i64 0] 25 ?_; intro gb526 hg w4 hbox hb; have BK526 := Aside0.mk (hbox); have GW526 := gw_ hg (below_size (bv_ HB)); have GE526 := GW526; replace HB := Aside0.mk (below_step (bv_ HB) hb); clear hb hbox hg) | ((with_reducible refine gate_callee (f := 60) rfl ?_); refine gl_ 4 Try.func60 #[.slice A0 l0.length c0] rfl mp_ ?_; (with_reducible refine (spec_l1New.calls k _ _ l0 t527 t528 t529 w _ ?side1 ?side2 ?side3 A2.out).mono ?_); (case side1 => repeat (first | (with_reducible first | exact HB.out | apply below_alloc | apply pw_below_drewN | apply below_drew1 | refine below_set ?_ GE526.out) | exact HB.out)); (case side2 => exact HR0.out); (case side3 => exact HC0.out); rintro e w5 ⟨g530, rfl, hi, hb, hb2⟩; refine ⟨_, rfl, ?_⟩; replace HB := Aside0.mk (hb); have HI530 := Aside0.mk (hi); have NB530_526 := Aside0.mk (IsS61.ne_blk hi (blk_below (g := gb526) (o := .cells #[.int .i64 0, .int .i64 0] 25 (0, 0)) (kv_ BK526) hb2) (by decide)); have NB526_530 := Aside0.mk (Ne.symm (IsS61.ne_blk hi (blk_below (g := gb526) (o := .cells #[.int .i64 0, .int .i64 0] 25 (0, 0)) (kv_ BK526) hb2) (by decide))); replace BK526 := Aside0.mk (blk_below (g := gb526) (o := .cells #[.int .i64 0, .int .i64 0] 25 (0, 0)) (kv_ BK526) hb2); (try clear hb); (try clear hb2); (try clear hk); (try clear hi)) | ((with_reducible refine gate_callee (f := 59) rfl ?_); refine gl_ 5 Try.func59 #[.pointer (some ⟨g530, 0, none⟩)] rfl mp_ ?_; (with_reducible refine (spec_l2Any.calls k g530 t527 t528 t529 t531 t532 t533 t534 w _ ?side1 ?side2 A3.out).mono ?_); (case side1 => repeat (first | (with_reducible first | exact HI530.out | apply IsS61.alloc | apply IsS61.drewN | apply IsS61.drew | apply IsS61.set_1 | apply IsS61.set_2 | refine IsS61.far ?_ NB530_526.out _) | exact HI530.out)); (case side2 => repeat (first | (with_reducible first | exact HB.out | apply below_alloc | apply pw_below_drewN | apply below_drew1 | refine below_set ?_ (IsS61.ge HI530.out) | refine below_set ?_ GE526.out) | exact HB.out)); rintro e w6 ⟨rfl, hi, hb, hk⟩; refine ⟨_, rfl, ?_⟩; replace BK526 := Aside0.mk (KeepBut.blk hk (g' := gb526) (o := .cells #[.int .i64 0, .int .i64 0] 25 (0, 0)) (kv_ BK526) NB526_530.out (by simp)); replace HB := Aside0.mk (hb); replace HI530 := Aside0.mk (hi); (try clear hb); (try clear hb2); (try clear hk); (try clear hi); have hnb7 := NB526_530.out; have hnc7 := NB530_526.out; obtain ⟨hcz8_0, hcz8_1, hfz8_0, hfz8_1⟩ := c2_ BK526))
 refine bodyPost_ret (results_cell_row rfl _ _ gb526 25 #[.int .i64 t531, .int .i64 t532] (0, 0) _ rfl (by (with_reducible repeat (first | refine blk_drewN ?_ _ | refine blk_drew ?_ | refine blk_alloc ?_ _)); refine blk_put (cs := #[.int .i64 t531, .int .i64 0]) ?_ 1 _ rfl; (with_reducible repeat (first | refine blk_drewN ?_ _ | refine blk_drew ?_ | refine blk_alloc ?_ _)); refine blk_put (cs := #[.int .i64 0, .int .i64 0]) ?_ 0 _ rfl; (with_reducible repeat (first | refine blk_drewN ?_ _ | refine blk_drew ?_ | refine blk_alloc ?_ _)); exact BK526.out) Try.underlying25 rfl (by kernel_rfl)) rfl ?_
 exact ⟨by first | rfl | (simp [errW_none, errW_some] <;> rfl) | (simp [*, errW_none, errW_some] <;> rfl), by repeat (first | (with_reducible first | exact HB.out | apply below_alloc | apply pw_below_drewN | apply below_drew1 | refine below_set ?_ (IsS61.ge HI530.out) | refine below_set ?_ GE526.out) | exact HB.out)⟩


/-! ### spec_DrawVarianceOf: function 23 -/
def spec_DrawVarianceOf.f (k : Nat) (l0 : List Int) : Option (Int × Int) := (spec_l1New.f k l0).bind fun bt536 => ((spec_l2Any.f k bt536.1 bt536.2.1 bt536.2.2).bind fun bt540 => (some (bt540.1, bt540.2.1)))
theorem spec_DrawVarianceOf.mono : ∀ a0 k, LeO (spec_DrawVarianceOf.f k a0) (spec_DrawVarianceOf.f (k + 1) a0) := by
 intro a0 k
 unfold spec_DrawVarianceOf.f
 repeat' first
   | (with_reducible exact spec_l1New.mono _ _)
   | (with_reducible exact spec_l2Any.mono _ _ _ _)
   | (with_reducible exact LeO.refl _)
   | (with_reducible exact LeO.none _)
   | (with_reducible refine LeO.ite ?_ ?_)
   | (with_reducible refine LeO.bind ?_ (fun _ => ?_))
   | exact spec_l1New.mono _ _
   | exact spec_l2Any.mono _ _ _ _
   | exact LeO.none _
   | refine LeO.ite ?_ ?_
   | refine LeO.bind ?_ (fun _ => ?_)
set_option maxHeartbeats 8000000 in
set_option maxRecDepth 100000 in
theorem spec_DrawVarianceOf.calls (k : Nat) (A0 : Option Addr) (c0 : Nat) (l0 : List Int) (r1 : Int) (r2 : Int) (w : World) (hr0 : Kd.C (Kd.int .u8) w A0 l0.length l0) (hc0 : l0.length ≤ c0) (h : spec_DrawVarianceOf.f k l0 = some (r1, r2)) :
  Calls Try.prog 23 #[.slice A0 l0.length c0] w fun e w' => e = .returned (.agg #[.int .i64 r1, .int .i64 r2]) ∧ Below w.heap.size w w' := by
 have hu25 := Try.underlying25
 have HR0 := Aside0.mk hr0
 have HC0 := Aside0.mk hc0
 clear hr0 hc0
 have HB := Aside0.mk (Below.refl w.heap.size w)
 have H : ((spec_l1New.f k l0).bind fun bt536 => ((spec_l2Any.f k bt536.1 bt536.2.1 bt536.2.2).bind fun bt540 => (some (bt540.1, bt540.2.1)))) = some (r1, r2) := h
 clear h
 replace H := Option.bind_eq_some_iff.mp H
 obtain ⟨⟨t536, t537, t538⟩, A20, H⟩ := H
 replace H : ((spec_l2Any.f k t536 t537 t538).bind fun bt540 => (some (bt540.1, bt540.2.1))) = some (r1, r2) := H
 have A2 := Aside0.mk A20
 clear A20
 replace H := Option.bind_eq_some_iff.mp H
 obtain ⟨⟨t540, t541, t542, t543⟩, A30, H⟩ := H
 replace H : (some (t540, t541)) = some (r1, r2) := H
 have A3 := Aside0.mk A30
 clear A30
 simp only [Option.some.injEq, Prod.mk.injEq] at H
 obtain ⟨rfl, rfl⟩ := H
 go_enter Try.func23, Try.ntmps23
 go_wp2_with (first | ((with_reducible refine gate_dst (N := 2) rfl ?_); refine bx_ 2 #[.int .i64 0, .int .i64 0] 25 ?_; intro gb535 hg w4 hbox hb; have BK535 := Aside0.mk (hbox); have GW535 := gw_ hg (below_size (bv_ HB)); have GE535 := GW535; replace HB := Aside0.mk (below_step (bv_ HB) hb); clear hb hbox hg) | ((with_reducible refine gate_callee (f := 60) rfl ?_); refine gl_ 4 Try.func60 #[.slice A0 l0.length c0] rfl mp_ ?_; (with_reducible refine (spec_l1New.calls k _ _ l0 t536 t537 t538 w _ ?side1 ?side2 ?side3 A2.out).mono ?_); (case side1 => repeat (first | (with_reducible first | exact HB.out | apply below_alloc | apply pw_below_drewN | apply below_drew1 | refine below_set ?_ GE535.out) | exact HB.out)); (case side2 => exact HR0.out); (case side3 => exact HC0.out); rintro e w5 ⟨g539, rfl, hi, hb, hb2⟩; refine ⟨_, rfl, ?_⟩; replace HB := Aside0.mk (hb); have HI539 := Aside0.mk (hi); have NB539_535 := Aside0.mk (IsS61.ne_blk hi (blk_below (g := gb535) (o := .cells #[.int .i64 0, .int .i64 0] 25 (0, 0)) (kv_ BK535) hb2) (by decide)); have NB535_539 := Aside0.mk (Ne.symm (IsS61.ne_blk hi (blk_below (g := gb535) (o := .cells #[.int .i64 0, .int .i64 0] 25 (0, 0)) (kv_ BK535) hb2) (by decide))); replace BK535 := Aside0.mk (blk_below (g := gb535) (o := .cells #[.int .i64 0, .int .i64 0] 25 (0, 0)) (kv_ BK535) hb2); (try clear hb); (try clear hb2); (try clear hk); (try clear hi)) | ((with_reducible refine gate_callee (f := 59) rfl ?_); refine gl_ 5 Try.func59 #[.pointer (some ⟨g539, 0, none⟩)] rfl mp_ ?_; (with_reducible refine (spec_l2Any.calls k g539 t536 t537 t538 t540 t541 t542 t543 w _ ?side1 ?side2 A3.out).mono ?_); (case side1 => repeat (first | (with_reducible first | exact HI539.out | apply IsS61.alloc | apply IsS61.drewN | apply IsS61.drew | apply IsS61.set_1 | apply IsS61.set_2 | refine IsS61.far ?_ NB539_535.out _) | exact HI539.out)); (case side2 => repeat (first | (with_reducible first | exact HB.out | apply below_alloc | apply pw_below_drewN | apply below_drew1 | refine below_set ?_ (IsS61.ge HI539.out) | refine below_set ?_ GE535.out) | exact HB.out)); rintro e w6 ⟨rfl, hi, hb, hk⟩; refine ⟨_, rfl, ?_⟩; replace BK535 := Aside0.mk (KeepBut.blk hk (g' := gb535) (o := .cells #[.int .i64 0, .int .i64 0] 25 (0, 0)) (kv_ BK535) NB535_539.out (by simp)); replace HB := Aside0.mk (hb); replace HI539 := Aside0.mk (hi); (try clear hb); (try clear hb2); (try clear hk); (try clear hi); have hnb7 := NB535_539.out; have hnc7 := NB539_535.out; obtain ⟨hcz8_0, hcz8_1, hfz8_0, hfz8_1⟩ := c2_ BK535))
 refine bodyPost_ret (results_cell_row rfl _ _ gb535 25 #[.int .i64 t540, .int .i64 t541] (0, 0) _ rfl (by (with_reducible repeat (first | refine blk_drewN ?_ _ | refine blk_drew ?_ | refine blk_alloc ?_ _)); refine blk_put (cs := #[.int .i64 t540, .int .i64 0]) ?_ 1 _ rfl; (with_reducible repeat (first | refine blk_drewN ?_ _ | refine blk_drew ?_ | refine blk_alloc ?_ _)); refine blk_put (cs := #[.int .i64 0, .int .i64 0]) ?_ 0 _ rfl; (with_reducible repeat (first | refine blk_drewN ?_ _ | refine blk_drew ?_ | refine blk_alloc ?_ _)); exact BK535.out) Try.underlying25 rfl (by kernel_rfl)) rfl ?_
 exact ⟨by first | rfl | (simp [errW_none, errW_some] <;> rfl) | (simp [*, errW_none, errW_some] <;> rfl), by repeat (first | (with_reducible first | exact HB.out | apply below_alloc | apply pw_below_drewN | apply below_drew1 | refine below_set ?_ (IsS61.ge HI539.out) | refine below_set ?_ GE535.out) | exact HB.out)⟩


end Go.Proofs.Ytplnffhjpmnifaa.P
