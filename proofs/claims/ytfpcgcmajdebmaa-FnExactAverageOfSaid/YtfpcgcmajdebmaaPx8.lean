-- Out of the translation, by this session's program over the printer's; Lean checks it.
import Derived.Test.YtfpcgcmajdebmaaPx0
import Derived.Test.YtfpcgcmajdebmaaPx5
import Derived.Test.YtfpcgcmajdebmaaPx6
namespace Go.Proofs.Ytfpcgcmajdebmaa.P
open Go.RowKit Go.Proofs.YtfpcgcmajdebmaaW.PrintWords Go.Proofs.YtfpcgcmajdebmaaW.PrintLast Go.Proofs.YtfpcgcmajdebmaaW.PrintMore
attribute [local go_sem] max2_int min2_int max_two min_two max_three min_three max_four min_four   -- for this text's walks alone
set_option linter.unusedVariables false
set_option linter.unusedSimpArgs false

/-! ### impl_isBits: function 27 -/
def impl_isBits.f (a0 : Int) : Option (Bool) := if a0 ≥ 0 then (some (decide (a0 ≤ 5))) else (some false)
set_option maxHeartbeats 8000000 in
set_option maxRecDepth 100000 in
theorem impl_isBits.calls (a0 : Int) (r : Bool) (w : World) (h : impl_isBits.f a0 = some r) :
    Calls Try.prog 27 #[.int .i64 a0] w fun e w' => e = .returned (.bool r) ∧ Drawn0 w w' := by
  have H : (if a0 ≥ 0 then (some (decide (a0 ≤ 5))) else (some false)) = some r := h
  clear h
  by_cases c2 : a0 ≥ 0
  · rw [if_pos c2] at H
    have c2b0 : decide (0 ≤ a0) = true := decide_eq_true c2
    clear c2
    obtain rfl := Option.some.inj H
    go_enter Try.func27, Try.ntmps27
    go_wp2
    go_ret
    exact ⟨by first | rfl | (simp; done) | (simp [*]; done), by repeat (first | exact Drawn0.refl _ | apply Drawn0.step)⟩
  · rw [if_neg c2] at H
    have c2b0 : decide (0 ≤ a0) = false := decide_eq_false c2
    clear c2
    obtain rfl := Option.some.inj H
    go_enter Try.func27, Try.ntmps27
    go_wp2
    go_ret
    exact ⟨by first | rfl | (simp; done) | (simp [*]; done), by repeat (first | exact Drawn0.refl _ | apply Drawn0.step)⟩

/-! ### impl_tree_within: function 33 -/
def impl_tree_within.f (n : Int) : impl_readTree.T → Bool
  | .leaf _ => true
  | .node c l h => decide ((c - 97) % 256 < n) && impl_tree_within.f n l && impl_tree_within.f n h
set_option maxHeartbeats 4000000 in
set_option maxRecDepth 100000 in
theorem impl_tree_within.calls (base : Nat) (n : Int) (w : World) : ∀ (t : impl_readTree.T) (b : Nat), impl_readTree.In base t b w →
    Calls Try.prog 33 #[.pointer (some ⟨b, 0, none⟩), .int .i64 n] w fun e w' => e = .returned (.bool (impl_tree_within.f n t)) ∧ w = w' := by
  have hu := Try.underlying51
  intro t
  induction t with
  | leaf c =>
    intro b hin
    have c1 : w.cell? ⟨b, 1, none⟩ = some (.pointer none) := (blk_cell hin.2 1).trans rfl
    clear hin
    go_enter Try.func33, Try.ntmps33
    go_wp2_with fail
    go_ret
    exact ⟨rfl, rfl⟩
  | node c l h ihl ihh =>
    intro b hin
    obtain ⟨_, bl, bh, hh, hl, hr⟩ := hin
    have HH := Aside0.mk hh
    have c1 : w.cell? ⟨b, 1, none⟩ = some (.pointer (some ⟨bl, 0, none⟩)) := (blk_cell hh 1).trans rfl
    have c2 : w.cell? ⟨b, 2, none⟩ = some (.pointer (some ⟨bh, 0, none⟩)) := (blk_cell hh 2).trans rfl
    have IL := Aside0.mk (ihl bl hl)
    have IH := Aside0.mk (ihh bh hr)
    clear hh hl hr ihl ihh
    rw [impl_tree_within.f]
    generalize impl_tree_within.f n l = vl at IL ⊢
    generalize impl_tree_within.f n h = vh at IH ⊢
    obtain ⟨i, hi⟩ : ∃ i, (c - 97) % 256 = i := ⟨_, rfl⟩
    have AV := Aside0.mk (impl_tree_variable.calls b c (.pointer (some ⟨bl, 0, none⟩)) (.pointer (some ⟨bh, 0, none⟩)) w HH.out)
    rw [hi] at AV ⊢
    by_cases hq : i < n
    · have hqb : decide (i < n) = true := decide_eq_true hq
      rw [hqb, Bool.true_and]
      cases vl with
      | false =>
        go_enter Try.func33, Try.ntmps33
        go_wp2_with (first | (go_at_call 32; (with_reducible refine AV.out.mono ?_); rintro e w1 ⟨rfl, rfl⟩) | (go_at_call 33; (with_reducible refine IL.out.mono ?_); rintro e w1 ⟨rfl, rfl⟩))
        go_ret
        exact ⟨rfl, rfl⟩
      | true =>
        go_enter Try.func33, Try.ntmps33
        go_wp2_with (first | (go_at_call 32; (with_reducible refine AV.out.mono ?_); rintro e w1 ⟨rfl, rfl⟩) | (go_at_call 33; (with_reducible refine IL.out.mono ?_); rintro e w1 ⟨rfl, rfl⟩) | (go_at_call 33; (with_reducible refine IH.out.mono ?_); rintro e w1 ⟨rfl, rfl⟩))
        go_ret
        exact ⟨rfl, rfl⟩
    · have hqb : decide (i < n) = false := decide_eq_false hq
      rw [hqb]
      go_enter Try.func33, Try.ntmps33
      go_wp2_with (first | (go_at_call 32; (with_reducible refine AV.out.mono ?_); rintro e w1 ⟨rfl, rfl⟩))
      go_ret
      exact ⟨rfl, rfl⟩

/-! ### impl_makeTable: function 34 -/
/-- The word whose values a function tells. -/
def impl_makeTable.word (g : Nat → Bool) : Nat → Int
  | 0 => 0
  | x + 1 => if g x = true then Go.bits .or .i64 (impl_makeTable.word g x) (wrap64 ((2 : Int) ^ x)) else impl_makeTable.word g x
theorem impl_makeTable.w (x : Int) (h0 : 0 ≤ x) (h1 : x ≤ 32) : wrap64 x = x := by unfold wrap64; omega
theorem impl_makeTable.size {a : Int} (h : 0 ≤ a ∧ a ≤ 5) : ∃ N : Nat, wrap64 ((2 : Int) ^ a.toNat) = (N : Int) ∧ 2 ^ a.toNat = N ∧ N ≤ 32 := by
  rcases (by omega : a = 0 ∨ a = 1 ∨ a = 2 ∨ a = 3 ∨ a = 4 ∨ a = 5) with rfl | rfl | rfl | rfl | rfl | rfl
  · exact ⟨1, (congrArg wrap64 (show ((2 : Int) ^ (0 : Int).toNat) = 1 by decide)).trans (impl_makeTable.w _ (by omega) (by omega)), by decide, by omega⟩
  · exact ⟨2, (congrArg wrap64 (show ((2 : Int) ^ (1 : Int).toNat) = 2 by decide)).trans (impl_makeTable.w _ (by omega) (by omega)), by decide, by omega⟩
  · exact ⟨4, (congrArg wrap64 (show ((2 : Int) ^ (2 : Int).toNat) = 4 by decide)).trans (impl_makeTable.w _ (by omega) (by omega)), by decide, by omega⟩
  · exact ⟨8, (congrArg wrap64 (show ((2 : Int) ^ (3 : Int).toNat) = 8 by decide)).trans (impl_makeTable.w _ (by omega) (by omega)), by decide, by omega⟩
  · exact ⟨16, (congrArg wrap64 (show ((2 : Int) ^ (4 : Int).toNat) = 16 by decide)).trans (impl_makeTable.w _ (by omega) (by omega)), by decide, by omega⟩
  · exact ⟨32, (congrArg wrap64 (show ((2 : Int) ^ (5 : Int).toNat) = 32 by decide)).trans (impl_makeTable.w _ (by omega) (by omega)), by decide, by omega⟩
-- EACH closure's number
set_option maxHeartbeats 4000000 in
set_option maxRecDepth 100000 in
theorem impl_makeTable.calls35 (n : Int) (hn : 0 ≤ n ∧ n ≤ 5) (caps : Array Value) (g : Nat → Bool) (w : World)
    (hp : ∀ (W : World) (x : Nat), Below w.heap.size w W → x < 2 ^ n.toNat → Calls Try.prog 35 (#[.int .i64 (x : Int)] ++ caps) W fun e w' => e = .returned (.bool (g x)) ∧ Below W.heap.size W w') :
    Calls Try.prog 34 #[.int .i64 n, .func (.func 35) #[] caps] w fun e w' => e = .returned (.agg #[.int .i64 n, .int .i64 (impl_makeTable.word g (2 ^ n.toNat))]) ∧ Below w.heap.size w w' := by
  obtain ⟨N, hN, hN2, hN32⟩ := impl_makeTable.size hn
  rw [hN2] at hp ⊢
  have hu := Try.underlying25
  have HP := Aside0.mk hp
  clear hN2 hp
  go_enter Try.func34, Try.ntmps34
  go_wp2_with fail
  rw [hN]
  have HB := Aside0.mk ((((Below.refl w.heap.size w).alloc (Nat.le_refl _) (Obj.cells #[Value.int IntKind.i64 0, Value.int IntKind.i64 0] 25)).alloc (by simp) (Obj.cells #[Value.int IntKind.i64 n, Value.int IntKind.i64 0] 25)))
  have RK := Aside0.mk (blk_alloc (blk_new w (Obj.cells #[Value.int IntKind.i64 0, Value.int IntKind.i64 0] 25)) (Obj.cells #[Value.int IntKind.i64 n, Value.int IntKind.i64 0] 25))
  have BK := Aside0.mk (blk_new (w.alloc (Obj.cells #[Value.int IntKind.i64 0, Value.int IntKind.i64 0] 25)) (Obj.cells #[Value.int IntKind.i64 n, Value.int IntKind.i64 0] 25))
  rw [show (w.alloc (Obj.cells #[Value.int IntKind.i64 0, Value.int IntKind.i64 0] 25)).heap.size = w.heap.size + 1 by simp] at BK
  go_loopw [11] (fun v wr => ∃ i : Nat, i ≤ N ∧ v = .int .i64 (i : Int) ∧ Aside0 (wr.heap[w.heap.size]? = some (.cells #[.int .i64 0, .int .i64 0] 25 (0, 0))) ∧ Aside0 (wr.heap[w.heap.size + 1]? = some (.cells #[.int .i64 n, .int .i64 (impl_makeTable.word g i)] 25 (0, 0))) ∧ Aside0 (Below w.heap.size w wr)) (fun v _ => N - (intOf v).toNat)
  case atStart => exact ⟨0, Nat.zero_le _, rfl, RK, BK, HB⟩
  case round =>
    obtain ⟨i, hi, rfl, RK, BK, HB⟩ := hrel
    by_cases hlt : i < N
    · have hcall := HP.out wr i HB.out hlt
      replace hcall : Calls Try.prog 35 (#[.int .i64 (i : Int)] ++ caps) wr fun e w' => e = .returned (.bool (g i)) ∧ Below wr.heap.size wr w' := hcall
      cases hg : g i with
      | true =>
        rw [hg] at hcall
        have S1 := Aside0.mk (show impl_makeTable.word g (i + 1) = Go.bits .or .i64 (impl_makeTable.word g i) (wrap64 ((2 : Int) ^ i)) by simp only [impl_makeTable.word]; rw [if_pos hg])
        clear hg
        go_wp2_with (go_at_call 35; refine hcall.mono ?_; rintro e w2 ⟨rfl, hb2⟩)
        have RK2 := Aside0.mk (blk_below RK.out hb2)
        have BK2 := Aside0.mk (blk_below BK.out hb2)
        have HB2 := Aside0.mk (below_step HB.out hb2)
        clear hb2 RK BK HB hcall
        have k1 := (blk_cell BK2.out 1).trans rfl
        have f1 := blk_frozen BK2.out 1
        have hi0 : (0 : Int) ≤ (i : Int) := Int.natCast_nonneg i
        have hid : decide ((i : Int) < 0) = false := by simp
        go_region
        all_goals go_wp2
        all_goals go_roundw
        case rel => exact ⟨i + 1, by omega, by go_num, ⟨blk_drew (blk_far RK2.out (by simp) _)⟩, ⟨by rw [S1.out]; exact blk_drew (blk_put BK2.out 1 _ rfl)⟩, ⟨below_drew1 (below_set HB2.out (by omega))⟩⟩
        case measure => simp [intOf]; omega
      | false =>
        rw [hg] at hcall
        have S1 := Aside0.mk (show impl_makeTable.word g (i + 1) = impl_makeTable.word g i by simp only [impl_makeTable.word]; rw [if_neg (by rw [hg]; decide)])
        clear hg
        go_wp2_with (go_at_call 35; refine hcall.mono ?_; rintro e w2 ⟨rfl, hb2⟩)
        go_roundw
        case rel => exact ⟨i + 1, by omega, by go_num, ⟨blk_below RK.out hb2⟩, ⟨by rw [S1.out]; exact blk_below BK.out hb2⟩, ⟨below_step HB.out hb2⟩⟩
        case measure => simp [intOf]; omega
    · obtain rfl : i = N := by omega
      have k0 := (blk_cell BK.out 0).trans rfl
      have k1 := (blk_cell BK.out 1).trans rfl
      have r0 := (blk_cell RK.out 0).trans rfl
      have r1 := (blk_cell RK.out 1).trans rfl
      have f0 := blk_frozen RK.out 0
      have f1 := blk_frozen RK.out 1
      go_wp2
      refine bodyPost_ret (results_cell_row rfl _ _ w.heap.size 25 #[.int .i64 n, .int .i64 (impl_makeTable.word g i)] (0, 0) _ rfl (blk_put (cs := #[.int .i64 n, .int .i64 0]) (blk_put (cs := #[.int .i64 0, .int .i64 0]) RK.out 0 _ rfl) 1 _ rfl) hu rfl (by kernel_rfl)) rfl ?_
      exact ⟨rfl, below_set (below_set HB.out (by omega)) (by omega)⟩

/-! ### impl_treeOf: function 22 -/
def impl_treeOf.on (t : impl_readTree.T) (x : Nat) : Bool := decide ((impl_tree_ask.g (x : Int) t 0).1 = 1)
def impl_treeOf.f (k : Nat) (s : ByteArray) (n : Int) : Option (Option impl_readTree.T) := (impl_wholeTree.f k s).bind fun p => match p.1 with
  | none => some none
  | some t => if p.2 = true then (impl_isBits.f n).bind fun b => if (b && impl_tree_within.f n t) = true then some (some t) else some none else some none
def impl_treeOf.word (n : Int) (t : impl_readTree.T) : Int := impl_makeTable.word (impl_treeOf.on t) (2 ^ n.toNat)
def impl_treeOf.Post (n : Int) (t : Option impl_readTree.T) (w : World) (e : Ending) (w' : World) : Prop :=
  Below w.heap.size w w' ∧ match t with
    | none => ∃ v, e = .returned (.tuple #[v, .agg #[.int .i64 0, .int .i64 0], .bool false])
    | some t => ∃ b, e = .returned (.tuple #[.pointer (some ⟨b, 0, none⟩), .agg #[.int .i64 n, .int .i64 (impl_treeOf.word n t)], .bool true]) ∧ impl_readTree.In w.heap.size t b w'
set_option maxHeartbeats 4000000 in
set_option maxRecDepth 100000 in
theorem impl_treeOf.in_calls (base : Nat) (t : impl_readTree.T) (b B : Nat) (x : Nat) (W : World) (h : W.cell? ⟨B, 0, none⟩ = some (.pointer (some ⟨b, 0, none⟩))) (hin : impl_readTree.In base t b W) :
    Calls Try.prog 35 #[.int .i64 (x : Int), .pointer (some ⟨B, 0, none⟩)] W fun e w' => e = .returned (.bool (impl_treeOf.on t x)) ∧ Below W.heap.size W w' := by
  unfold impl_treeOf.on
  obtain ⟨⟨r1, r2⟩, hr⟩ : ∃ p, impl_tree_ask.g (x : Int) t 0 = p := ⟨_, rfl⟩
  rw [hr]
  have AC := Aside0.mk (impl_tree_ask.calls base t b (x : Int) r1 r2 W hin hr)
  clear hr hin
  go_enter Try.func35, Try.ntmps35
  go_wp2_with (go_at_call 21; (with_reducible refine AC.out.mono ?_); rintro e w1 ⟨rfl, rfl⟩)
  go_ret
  exact ⟨rfl, Below.refl _ _⟩
theorem impl_treeOf.in_calls2 (base : Nat) (t : impl_readTree.T) (b B : Nat) (x : Nat) (W : World) (h : W.cell? ⟨B, 0, none⟩ = some (.pointer (some ⟨b, 0, none⟩))) (hin : impl_readTree.In base t b W) :
    Calls Try.prog 35 (#[.int .i64 (x : Int)] ++ #[.pointer (some ⟨B, 0, none⟩)]) W fun e w' => e = .returned (.bool (impl_treeOf.on t x)) ∧ Below W.heap.size W w' := impl_treeOf.in_calls base t b B x W h hin
set_option maxHeartbeats 4000000 in
set_option maxRecDepth 100000 in
theorem impl_treeOf.calls (k : Nat) (s : ByteArray) (n : Int) (t : Option impl_readTree.T) (w : World) (h : impl_treeOf.f k s n = some t) :
    Calls Try.prog 22 #[.string s, .int .i64 n] w (impl_treeOf.Post n t w) := by
  have hu := Try.underlying25
  unfold impl_treeOf.f at h
  obtain ⟨⟨t0, o⟩, hw, h⟩ := Option.bind_eq_some_iff.mp h
  have AW := Aside0.mk hw
  clear hw
  cases t0 with
  | none =>
    have h1 : none = t := Option.some.inj h
    subst h1
    clear h
    have ho : o = false := by
      have h2 := AW.out
      unfold impl_wholeTree.f at h2
      obtain ⟨⟨t', rest⟩, _, h2⟩ := Option.bind_eq_some_iff.mp h2
      have h3 := Prod.mk.inj (Option.some.inj h2)
      have h4 : t' = none := h3.1
      subst h4
      exact h3.2.symm
    subst ho
    go_enter Try.func22, Try.ntmps22
    go_wp2_with (first | ((with_reducible refine gate_dst (N := 5) rfl ?_); refine box_event ?hg (N := 5) ?hd (cs := #[.int .i64 0, .int .i64 0]) (t := 25) ?hr ?_; (case hd => rfl); (case hg => rfl); (case hr => first | (go_simp; done) | (go_simp; rfl)); intro gb hg w1 hbox hb; have HB1 := Aside0.mk hb; have RK := Aside0.mk hbox; have GE := Aside0.mk (Nat.le_of_eq hg.symm); clear hg hbox hb) | ((with_reducible refine gate_dst (N := 7) rfl ?_); refine box_event ?hg (N := 7) ?hd (cs := #[.pointer none]) (t := 33) ?hr ?_; (case hd => rfl); (case hg => rfl); (case hr => first | (go_simp; done) | (go_simp; rfl)); intro gc hgc w3 hbox hb; have B23 := Aside0.mk hb; have GC2 := Aside0.mk (Nat.le_of_eq hgc.symm); have GC := Aside0.mk (Nat.le_trans (below_size HB2.out) (Nat.le_of_eq hgc.symm)); have HB3 := Aside0.mk (below_step HB2.out hb); have RK3 := Aside0.mk (blk_below RK2.out hb); have RC := Aside0.mk hbox; have k0 := (blk_cell RK3.out 0).trans rfl; have k1 := (blk_cell RK3.out 1).trans rfl; have f0 := blk_frozen RK3.out 0; have f1 := blk_frozen RK3.out 1; have q0 := (blk_cell RC.out 0).trans rfl; have q1 := blk_frozen RC.out 0; have ne1 : gb ≠ gc := (by have := blk_lt RK2.out; omega); have ne2 : gc ≠ gb := ne1.symm; clear hbox hb hgc) | (go_at_call 19; (with_reducible refine (impl_wholeTree.calls k s none false _ AW.out).mono ?_); intro e w2 hp; obtain ⟨hb, he⟩ := hp; subst he; have HB2 := Aside0.mk (below_step HB1.out hb); have RK2 := Aside0.mk (blk_below RK.out hb); clear hb))
    refine bodyPost_ret (results_list (rs := [.tmp 4, .cell 5 25, .tmp 6]) rfl (by simp) (.tmp (.cell gb 25 #[.int .i64 0, .int .i64 0] (0, 0) _ rfl (by (with_reducible repeat (first | refine blk_drewN ?_ _ | refine blk_drew ?_)); refine blk_put (cs := #[.int .i64 0, .int .i64 0]) ?_ 1 _ rfl; (with_reducible repeat (first | refine blk_drewN ?_ _ | refine blk_drew ?_)); refine blk_put (cs := #[.int .i64 0, .int .i64 0]) ?_ 0 _ rfl; (with_reducible repeat (first | refine blk_drewN ?_ _ | refine blk_drew ?_)); exact blk_far RK3.out ne1 _) hu rfl (by kernel_rfl) (.tmp .nil)))) rfl ?_
    exact ⟨(by repeat (first | (with_reducible first | exact HB3.out | apply below_alloc | apply pw_below_drewN | apply below_drew1 | refine below_set ?_ GC.out | refine below_set ?_ GE.out) | exact HB3.out)), _, rfl⟩
  | some t0 =>
    cases o with
    | false =>
      have h1 : none = t := Option.some.inj h
      subst h1
      clear h
      go_enter Try.func22, Try.ntmps22
      go_wp2_with (first | ((with_reducible refine gate_dst (N := 5) rfl ?_); refine box_event ?hg (N := 5) ?hd (cs := #[.int .i64 0, .int .i64 0]) (t := 25) ?hr ?_; (case hd => rfl); (case hg => rfl); (case hr => first | (go_simp; done) | (go_simp; rfl)); intro gb hg w1 hbox hb; have HB1 := Aside0.mk hb; have RK := Aside0.mk hbox; have GE := Aside0.mk (Nat.le_of_eq hg.symm); clear hg hbox hb) | ((with_reducible refine gate_dst (N := 7) rfl ?_); refine box_event ?hg (N := 7) ?hd (cs := #[.pointer none]) (t := 33) ?hr ?_; (case hd => rfl); (case hg => rfl); (case hr => first | (go_simp; done) | (go_simp; rfl)); intro gc hgc w3 hbox hb; have B23 := Aside0.mk hb; have GC2 := Aside0.mk (Nat.le_of_eq hgc.symm); have GC := Aside0.mk (Nat.le_trans (below_size HB2.out) (Nat.le_of_eq hgc.symm)); have HB3 := Aside0.mk (below_step HB2.out hb); have RK3 := Aside0.mk (blk_below RK2.out hb); have RC := Aside0.mk hbox; have k0 := (blk_cell RK3.out 0).trans rfl; have k1 := (blk_cell RK3.out 1).trans rfl; have f0 := blk_frozen RK3.out 0; have f1 := blk_frozen RK3.out 1; have q0 := (blk_cell RC.out 0).trans rfl; have q1 := blk_frozen RC.out 0; have ne1 : gb ≠ gc := (by have := blk_lt RK2.out; omega); have ne2 : gc ≠ gb := ne1.symm; clear hbox hb hgc) | (go_at_call 19; (with_reducible refine (impl_wholeTree.calls k s (some t0) false _ AW.out).mono ?_); intro e w2 hp; obtain ⟨hb, b, he, hi⟩ := hp; subst he; have HB2 := Aside0.mk (below_step HB1.out hb); have RK2 := Aside0.mk (blk_below RK.out hb); have IN2 := Aside0.mk hi; clear hb hi))
      refine bodyPost_ret (results_list (rs := [.tmp 4, .cell 5 25, .tmp 6]) rfl (by simp) (.tmp (.cell gb 25 #[.int .i64 0, .int .i64 0] (0, 0) _ rfl (by (with_reducible repeat (first | refine blk_drewN ?_ _ | refine blk_drew ?_)); refine blk_put (cs := #[.int .i64 0, .int .i64 0]) ?_ 1 _ rfl; (with_reducible repeat (first | refine blk_drewN ?_ _ | refine blk_drew ?_)); refine blk_put (cs := #[.int .i64 0, .int .i64 0]) ?_ 0 _ rfl; (with_reducible repeat (first | refine blk_drewN ?_ _ | refine blk_drew ?_)); exact blk_far RK3.out ne1 _) hu rfl (by kernel_rfl) (.tmp .nil)))) rfl ?_
      exact ⟨(by repeat (first | (with_reducible first | exact HB3.out | apply below_alloc | apply pw_below_drewN | apply below_drew1 | refine below_set ?_ GC.out | refine below_set ?_ GE.out) | exact HB3.out)), _, rfl⟩
    | true =>
      dsimp only at h
      rw [if_pos rfl] at h
      obtain ⟨v, hv, h⟩ := Option.bind_eq_some_iff.mp h
      have AB := Aside0.mk hv
      have HN : v = true → Aside0 (0 ≤ n ∧ n ≤ 5) := by
        intro e
        subst e
        unfold impl_isBits.f at hv
        by_cases h0 : n ≥ 0
        · rw [if_pos h0] at hv
          exact ⟨⟨h0, of_decide_eq_true (Option.some.inj hv)⟩⟩
        · rw [if_neg h0] at hv
          simp at hv
      clear hv
      cases v with
      | false =>
        rw [Bool.false_and, if_neg (by decide)] at h
        have h1 : none = t := Option.some.inj h
        subst h1
        clear h HN
        go_enter Try.func22, Try.ntmps22
        go_wp2_with (first | ((with_reducible refine gate_dst (N := 5) rfl ?_); refine box_event ?hg (N := 5) ?hd (cs := #[.int .i64 0, .int .i64 0]) (t := 25) ?hr ?_; (case hd => rfl); (case hg => rfl); (case hr => first | (go_simp; done) | (go_simp; rfl)); intro gb hg w1 hbox hb; have HB1 := Aside0.mk hb; have RK := Aside0.mk hbox; have GE := Aside0.mk (Nat.le_of_eq hg.symm); clear hg hbox hb) | ((with_reducible refine gate_dst (N := 7) rfl ?_); refine box_event ?hg (N := 7) ?hd (cs := #[.pointer none]) (t := 33) ?hr ?_; (case hd => rfl); (case hg => rfl); (case hr => first | (go_simp; done) | (go_simp; rfl)); intro gc hgc w3 hbox hb; have B23 := Aside0.mk hb; have GC2 := Aside0.mk (Nat.le_of_eq hgc.symm); have GC := Aside0.mk (Nat.le_trans (below_size HB2.out) (Nat.le_of_eq hgc.symm)); have HB3 := Aside0.mk (below_step HB2.out hb); have RK3 := Aside0.mk (blk_below RK2.out hb); have RC := Aside0.mk hbox; have k0 := (blk_cell RK3.out 0).trans rfl; have k1 := (blk_cell RK3.out 1).trans rfl; have f0 := blk_frozen RK3.out 0; have f1 := blk_frozen RK3.out 1; have q0 := (blk_cell RC.out 0).trans rfl; have q1 := blk_frozen RC.out 0; have ne1 : gb ≠ gc := (by have := blk_lt RK2.out; omega); have ne2 : gc ≠ gb := ne1.symm; clear hbox hb hgc) | (go_at_call 19; (with_reducible refine (impl_wholeTree.calls k s (some t0) true _ AW.out).mono ?_); intro e w2 hp; obtain ⟨hb, b, he, hi⟩ := hp; subst he; have HB2 := Aside0.mk (below_step HB1.out hb); have RK2 := Aside0.mk (blk_below RK.out hb); have IN2 := Aside0.mk hi; clear hb hi) | (go_at_call 27; (with_reducible refine (impl_isBits.calls n _ _ AB.out).mono ?_); rintro e w5 ⟨rfl, ⟨nd, rfl⟩⟩))
        refine bodyPost_ret (results_list (rs := [.tmp 4, .cell 5 25, .tmp 6]) rfl (by simp) (.tmp (.cell gb 25 #[.int .i64 0, .int .i64 0] (0, 0) _ rfl (by (with_reducible repeat (first | refine blk_drewN ?_ _ | refine blk_drew ?_)); refine blk_put (cs := #[.int .i64 0, .int .i64 0]) ?_ 1 _ rfl; (with_reducible repeat (first | refine blk_drewN ?_ _ | refine blk_drew ?_)); refine blk_put (cs := #[.int .i64 0, .int .i64 0]) ?_ 0 _ rfl; (with_reducible repeat (first | refine blk_drewN ?_ _ | refine blk_drew ?_)); exact blk_far RK3.out ne1 _) hu rfl (by kernel_rfl) (.tmp .nil)))) rfl ?_
        exact ⟨(by repeat (first | (with_reducible first | exact HB3.out | apply below_alloc | apply pw_below_drewN | apply below_drew1 | refine below_set ?_ GC.out | refine below_set ?_ GE.out) | exact HB3.out)), _, rfl⟩
      | true =>
        rw [Bool.true_and] at h
        replace HN := HN rfl
        obtain ⟨u, hv⟩ : ∃ u, impl_tree_within.f n t0 = u := ⟨_, rfl⟩
        rw [hv] at h
        have WC := Aside0.mk (fun base w b hin => hv ▸ impl_tree_within.calls base n w t0 b hin)
        clear hv
        cases u with
        | false =>
          rw [if_neg (by decide)] at h
          have h1 : none = t := Option.some.inj h
          subst h1
          clear h
          go_enter Try.func22, Try.ntmps22
          go_wp2_with (first | ((with_reducible refine gate_dst (N := 5) rfl ?_); refine box_event ?hg (N := 5) ?hd (cs := #[.int .i64 0, .int .i64 0]) (t := 25) ?hr ?_; (case hd => rfl); (case hg => rfl); (case hr => first | (go_simp; done) | (go_simp; rfl)); intro gb hg w1 hbox hb; have HB1 := Aside0.mk hb; have RK := Aside0.mk hbox; have GE := Aside0.mk (Nat.le_of_eq hg.symm); clear hg hbox hb) | ((with_reducible refine gate_dst (N := 7) rfl ?_); refine box_event ?hg (N := 7) ?hd (cs := #[.pointer none]) (t := 33) ?hr ?_; (case hd => rfl); (case hg => rfl); (case hr => first | (go_simp; done) | (go_simp; rfl)); intro gc hgc w3 hbox hb; have B23 := Aside0.mk hb; have GC2 := Aside0.mk (Nat.le_of_eq hgc.symm); have GC := Aside0.mk (Nat.le_trans (below_size HB2.out) (Nat.le_of_eq hgc.symm)); have HB3 := Aside0.mk (below_step HB2.out hb); have RK3 := Aside0.mk (blk_below RK2.out hb); have RC := Aside0.mk hbox; have k0 := (blk_cell RK3.out 0).trans rfl; have k1 := (blk_cell RK3.out 1).trans rfl; have f0 := blk_frozen RK3.out 0; have f1 := blk_frozen RK3.out 1; have q0 := (blk_cell RC.out 0).trans rfl; have q1 := blk_frozen RC.out 0; have ne1 : gb ≠ gc := (by have := blk_lt RK2.out; omega); have ne2 : gc ≠ gb := ne1.symm; clear hbox hb hgc) | (go_at_call 19; (with_reducible refine (impl_wholeTree.calls k s (some t0) true _ AW.out).mono ?_); intro e w2 hp; obtain ⟨hb, b, he, hi⟩ := hp; subst he; have HB2 := Aside0.mk (below_step HB1.out hb); have RK2 := Aside0.mk (blk_below RK.out hb); have IN2 := Aside0.mk hi; clear hb hi) | (go_at_call 27; (with_reducible refine (impl_isBits.calls n _ _ AB.out).mono ?_); rintro e w5 ⟨rfl, ⟨nd, rfl⟩⟩) | (go_at_call 33; (with_reducible refine (WC.out _ _ b (IN2.out.kept (by repeat (first | (with_reducible first | exact B23.out | apply below_alloc | apply pw_below_drewN | apply below_drew1 | refine below_set ?_ GC2.out) | exact B23.out)))).mono ?_); rintro e w6 ⟨rfl, rfl⟩))
          refine bodyPost_ret (results_list (rs := [.tmp 4, .cell 5 25, .tmp 6]) rfl (by simp) (.tmp (.cell gb 25 #[.int .i64 0, .int .i64 0] (0, 0) _ rfl (by (with_reducible repeat (first | refine blk_drewN ?_ _ | refine blk_drew ?_)); refine blk_put (cs := #[.int .i64 0, .int .i64 0]) ?_ 1 _ rfl; (with_reducible repeat (first | refine blk_drewN ?_ _ | refine blk_drew ?_)); refine blk_put (cs := #[.int .i64 0, .int .i64 0]) ?_ 0 _ rfl; (with_reducible repeat (first | refine blk_drewN ?_ _ | refine blk_drew ?_)); exact blk_far RK3.out ne1 _) hu rfl (by kernel_rfl) (.tmp .nil)))) rfl ?_
          exact ⟨(by repeat (first | (with_reducible first | exact HB3.out | apply below_alloc | apply pw_below_drewN | apply below_drew1 | refine below_set ?_ GC.out | refine below_set ?_ GE.out) | exact HB3.out)), _, rfl⟩
        | true =>
          rw [if_pos rfl] at h
          have h1 : some t0 = t := Option.some.inj h
          subst h1
          clear h
          go_enter Try.func22, Try.ntmps22
          go_wp2_with (first | ((with_reducible refine gate_dst (N := 5) rfl ?_); refine box_event ?hg (N := 5) ?hd (cs := #[.int .i64 0, .int .i64 0]) (t := 25) ?hr ?_; (case hd => rfl); (case hg => rfl); (case hr => first | (go_simp; done) | (go_simp; rfl)); intro gb hg w1 hbox hb; have HB1 := Aside0.mk hb; have RK := Aside0.mk hbox; have GE := Aside0.mk (Nat.le_of_eq hg.symm); clear hg hbox hb) | ((with_reducible refine gate_dst (N := 7) rfl ?_); refine box_event ?hg (N := 7) ?hd (cs := #[.pointer none]) (t := 33) ?hr ?_; (case hd => rfl); (case hg => rfl); (case hr => first | (go_simp; done) | (go_simp; rfl)); intro gc hgc w3 hbox hb; have B23 := Aside0.mk hb; have GC2 := Aside0.mk (Nat.le_of_eq hgc.symm); have GC := Aside0.mk (Nat.le_trans (below_size HB2.out) (Nat.le_of_eq hgc.symm)); have HB3 := Aside0.mk (below_step HB2.out hb); have RK3 := Aside0.mk (blk_below RK2.out hb); have RC := Aside0.mk hbox; have k0 := (blk_cell RK3.out 0).trans rfl; have k1 := (blk_cell RK3.out 1).trans rfl; have f0 := blk_frozen RK3.out 0; have f1 := blk_frozen RK3.out 1; have q0 := (blk_cell RC.out 0).trans rfl; have q1 := blk_frozen RC.out 0; have ne1 : gb ≠ gc := (by have := blk_lt RK2.out; omega); have ne2 : gc ≠ gb := ne1.symm; clear hbox hb hgc) | (go_at_call 19; (with_reducible refine (impl_wholeTree.calls k s (some t0) true _ AW.out).mono ?_); intro e w2 hp; obtain ⟨hb, b, he, hi⟩ := hp; subst he; have HB2 := Aside0.mk (below_step HB1.out hb); have RK2 := Aside0.mk (blk_below RK.out hb); have IN2 := Aside0.mk hi; clear hb hi) | (go_at_call 27; (with_reducible refine (impl_isBits.calls n _ _ AB.out).mono ?_); rintro e w5 ⟨rfl, ⟨nd, rfl⟩⟩) | (go_at_call 33; (with_reducible refine (WC.out _ _ b (IN2.out.kept (by repeat (first | (with_reducible first | exact B23.out | apply below_alloc | apply pw_below_drewN | apply below_drew1 | refine below_set ?_ GC2.out) | exact B23.out)))).mono ?_); rintro e w6 ⟨rfl, rfl⟩) | fail)
          have RCx := Aside0.mk (show ((w3.setCell ⟨gc, 0, none⟩ (.pointer (some ⟨b, 0, none⟩))).drewN nd).heap[gc]? = some (.cells #[.pointer (some ⟨b, 0, none⟩)] 33 (0, 0)) from blk_drewN (blk_put (cs := #[.pointer none]) RC.out 0 _ rfl) _)
          have RKx := Aside0.mk (show ((w3.setCell ⟨gc, 0, none⟩ (.pointer (some ⟨b, 0, none⟩))).drewN nd).heap[gb]? = some (.cells #[.int .i64 0, .int .i64 0] 25 (0, 0)) from blk_drewN (blk_far RK3.out ne1 _) _)
          have INx := Aside0.mk (show impl_readTree.In w1.heap.size t0 b ((w3.setCell ⟨gc, 0, none⟩ (.pointer (some ⟨b, 0, none⟩))).drewN nd) from IN2.out.kept (by repeat (first | (with_reducible first | exact B23.out | apply below_alloc | apply pw_below_drewN | apply below_drew1 | refine below_set ?_ GC2.out) | exact B23.out)))
          have HBx := Aside0.mk (show Below w.heap.size w ((w3.setCell ⟨gc, 0, none⟩ (.pointer (some ⟨b, 0, none⟩))).drewN nd) from (by repeat (first | (with_reducible first | exact HB3.out | apply below_alloc | apply pw_below_drewN | apply below_drew1 | refine below_set ?_ GC.out | refine below_set ?_ GE.out) | exact HB3.out)))
          clear k0 k1 f0 f1 q0 q1
          generalize ((w3.setCell ⟨gc, 0, none⟩ (.pointer (some ⟨b, 0, none⟩))).drewN nd) = W4 at RCx RKx INx HBx ⊢
          have q0 := (blk_cell RCx.out 0).trans rfl
          go_region_held3 (fun w' => w'.cell? ⟨gc, 0, none⟩ = some (.pointer (some ⟨b, 0, none⟩))) (first | go_keep | exact m2) (first | (go_at_call 34; (with_reducible refine (impl_makeTable.calls35 n HN.out #[.pointer (some ⟨gc, 0, none⟩)] (impl_treeOf.on t0) _ (fun W x hW hx => impl_treeOf.in_calls2 _ t0 b gc x W ((blk_cell (blk_below (by (with_reducible repeat (first | refine blk_drewN ?_ _ | refine blk_drew ?_)); exact RCx.out) hW) 0).trans rfl) ((INx.out.kept (by repeat (first | exact Below.refl _ _ | apply pw_below_drewN | apply below_drew1) : Below W4.heap.size W4 _)).kept hW))).mono ?_); rintro e w7 ⟨rfl, hb7⟩; have HB7 := Aside0.mk (below_step (by repeat (first | exact HBx.out | apply pw_below_drewN | apply below_drew1) : Below w.heap.size w _) hb7); have RC7 := Aside0.mk (blk_below (by (with_reducible repeat (first | refine blk_drewN ?_ _ | refine blk_drew ?_)); exact RCx.out) hb7); have RK7 := Aside0.mk (blk_below (by (with_reducible repeat (first | refine blk_drewN ?_ _ | refine blk_drew ?_)); exact RKx.out) hb7); have IN7 := Aside0.mk ((INx.out.kept (by repeat (first | exact Below.refl _ _ | apply pw_below_drewN | apply below_drew1) : Below W4.heap.size W4 _)).kept hb7); clear hb7; have m2 := (blk_cell RC7.out 0).trans rfl; have m0 := (blk_cell RK7.out 0).trans rfl; have m1 := (blk_cell RK7.out 1).trans rfl; have g0 := blk_frozen RK7.out 0; have g1 := blk_frozen RK7.out 1))
          all_goals go_wp2
          all_goals refine bodyPost_ret (results_list (rs := [.tmp 4, .cell 5 25, .tmp 6]) rfl (by simp) (.tmp (.cell gb 25 #[.int .i64 n, .int .i64 (impl_treeOf.word n t0)] (0, 0) _ rfl (by refine blk_put (cs := #[.int .i64 n, .int .i64 0]) ?_ 1 _ rfl; refine blk_put (cs := #[.int .i64 0, .int .i64 0]) ?_ 0 _ rfl; exact RK7.out) hu rfl (by kernel_rfl) (.tmp .nil)))) rfl ?_
          all_goals exact ⟨below_set (below_set HB7.out GE.out) GE.out, b, rfl, ((IN7.out.far (p := ⟨gb, 0, none⟩) (blk_lt RK.out) _).far (p := ⟨gb, 1, none⟩) (blk_lt RK.out) _).mono (below_size HB1.out)⟩

end Go.Proofs.Ytfpcgcmajdebmaa.P
