-- Out of the translation, by this session's program over the printer's; Lean checks it.
import Derived.Test.YtfpcgcmajdebmaaPx0
import Derived.Test.YtfpcgcmajdebmaaPx6
namespace Go.Proofs.Ytfpcgcmajdebmaa.P
open Go.RowKit Go.Proofs.YtfpcgcmajdebmaaW.PrintWords Go.Proofs.YtfpcgcmajdebmaaW.PrintLast Go.Proofs.YtfpcgcmajdebmaaW.PrintMore
attribute [local go_sem] max2_int min2_int max_two min_two max_three min_three max_four min_four   -- for this text's walks alone
set_option linter.unusedVariables false
set_option linter.unusedSimpArgs false

/-! ### impl_readFormula: function 26 -/
def impl_readFormula.f (k : Nat) (s : ByteArray) : Option (Option impl_readPart.T × Bool) := if (s.size : Int) > 60 then some (none, false) else (impl_readPart.f k s).bind fun p => some (p.1, match p.1 with
  | none => false
  | some _ => p.2.toList.isEmpty)
def impl_readFormula.Post (t : Option impl_readPart.T) (o : Bool) (w : World) (e : Ending) (w' : World) : Prop :=
  Below w.heap.size w w' ∧ match t with
    | none => e = .returned (.tuple #[.pointer none, .bool o])
    | some t => ∃ b, e = .returned (.tuple #[.pointer (some ⟨b, 0, none⟩), .bool o]) ∧ impl_readPart.In w.heap.size t b w'
set_option maxHeartbeats 4000000 in
set_option maxRecDepth 100000 in
theorem impl_readFormula.calls (k : Nat) (s : ByteArray) (t : Option impl_readPart.T) (o : Bool) (w : World) (h : impl_readFormula.f k s = some (t, o)) : Calls Try.prog 26 #[.string s] w (impl_readFormula.Post t o w) := by
  unfold impl_readFormula.f at h
  by_cases hs : (s.size : Int) > 60
  · rw [if_pos hs] at h
    obtain ⟨rfl, rfl⟩ := Prod.mk.inj (Option.some.inj h)
    have hd : decide (60 < (s.size : Int)) = true := decide_eq_true hs
    clear h
    go_enter Try.func26, Try.ntmps26
    go_wp2_with fail
    go_ret2
    exact ⟨Below.refl _ _, rfl⟩
  rw [if_neg hs] at h
  have hd : decide (60 < (s.size : Int)) = false := decide_eq_false hs
  clear hs
  obtain ⟨⟨t', rest⟩, hr, h⟩ := Option.bind_eq_some_iff.mp h
  have AR := Aside0.mk hr
  cases t' with
  | none =>
    obtain ⟨rfl, rfl⟩ := Prod.mk.inj (Option.some.inj h)
    clear h hr
    go_enter Try.func26, Try.ntmps26
    go_wp2_with (go_at_call 37; (with_reducible refine (impl_readPart.calls _ _ none rest _ AR.out).mono ?_); intro e w1 hp; obtain ⟨hb, he⟩ := hp; subst he; have HB := Aside0.mk hb; clear hb)
    go_ret2
    exact ⟨HB.out, rfl⟩
  | some t' =>
    obtain ⟨rfl, rfl⟩ := Prod.mk.inj (Option.some.inj h)
    clear h hr
    go_enter Try.func26, Try.ntmps26
    go_wp2_with (go_at_call 37; (with_reducible refine (impl_readPart.calls _ _ (some t') rest _ AR.out).mono ?_); intro e w1 hp; obtain ⟨hb, b, he, hi⟩ := hp; subst he; have HB := Aside0.mk hb; have HI := Aside0.mk hi; clear hb hi)
    go_ret2
    exact ⟨HB.out, b, rfl, HI.out⟩

/-! ### impl_isBits: function 27 -/
def impl_isBits.f (a0 : Int) : Option (Bool) := if a0 ≥ 0 then (some (decide (a0 ≤ 5))) else (some false)
set_option maxHeartbeats 8000000 in
set_option maxRecDepth 100000 in
theorem impl_isBits.calls (a0 : Int) (r : Bool) (w : World) (h : impl_isBits.f a0 = some r) :
    Calls Try.prog 27 #[.int .i64 a0] w fun e w' => e = .returned (.bool r) ∧ Drawn0 w w' := by
  have H : (if a0 ≥ 0 then (some (decide (a0 ≤ 5))) else (some false)) = some r := h
  clear h
  by_cases c2 : a0 ≥ 0
  · rw [if_pos c2] at H
    have c2b0 : decide (0 ≤ a0) = true := decide_eq_true c2
    clear c2
    obtain rfl := Option.some.inj H
    go_enter Try.func27, Try.ntmps27
    go_wp2
    go_ret
    exact ⟨by first | rfl | (simp; done) | (simp [*]; done), by repeat (first | exact Drawn0.refl _ | apply Drawn0.step)⟩
  · rw [if_neg c2] at H
    have c2b0 : decide (0 ≤ a0) = false := decide_eq_false c2
    clear c2
    obtain rfl := Option.some.inj H
    go_enter Try.func27, Try.ntmps27
    go_wp2
    go_ret
    exact ⟨by first | rfl | (simp; done) | (simp [*]; done), by repeat (first | exact Drawn0.refl _ | apply Drawn0.step)⟩

/-! ### impl_makeTable: function 34 -/
/-- The word whose values a function tells. -/
def impl_makeTable.word (g : Nat → Bool) : Nat → Int
  | 0 => 0
  | x + 1 => if g x = true then Go.bits .or .i64 (impl_makeTable.word g x) (wrap64 ((2 : Int) ^ x)) else impl_makeTable.word g x
theorem impl_makeTable.w (x : Int) (h0 : 0 ≤ x) (h1 : x ≤ 32) : wrap64 x = x := by unfold wrap64; omega
theorem impl_makeTable.size {a : Int} (h : 0 ≤ a ∧ a ≤ 5) : ∃ N : Nat, wrap64 ((2 : Int) ^ a.toNat) = (N : Int) ∧ 2 ^ a.toNat = N ∧ N ≤ 32 := by
  rcases (by omega : a = 0 ∨ a = 1 ∨ a = 2 ∨ a = 3 ∨ a = 4 ∨ a = 5) with rfl | rfl | rfl | rfl | rfl | rfl
  · exact ⟨1, (congrArg wrap64 (show ((2 : Int) ^ (0 : Int).toNat) = 1 by decide)).trans (impl_makeTable.w _ (by omega) (by omega)), by decide, by omega⟩
  · exact ⟨2, (congrArg wrap64 (show ((2 : Int) ^ (1 : Int).toNat) = 2 by decide)).trans (impl_makeTable.w _ (by omega) (by omega)), by decide, by omega⟩
  · exact ⟨4, (congrArg wrap64 (show ((2 : Int) ^ (2 : Int).toNat) = 4 by decide)).trans (impl_makeTable.w _ (by omega) (by omega)), by decide, by omega⟩
  · exact ⟨8, (congrArg wrap64 (show ((2 : Int) ^ (3 : Int).toNat) = 8 by decide)).trans (impl_makeTable.w _ (by omega) (by omega)), by decide, by omega⟩
  · exact ⟨16, (congrArg wrap64 (show ((2 : Int) ^ (4 : Int).toNat) = 16 by decide)).trans (impl_makeTable.w _ (by omega) (by omega)), by decide, by omega⟩
  · exact ⟨32, (congrArg wrap64 (show ((2 : Int) ^ (5 : Int).toNat) = 32 by decide)).trans (impl_makeTable.w _ (by omega) (by omega)), by decide, by omega⟩
-- EACH closure's number
set_option maxHeartbeats 4000000 in
set_option maxRecDepth 100000 in
theorem impl_makeTable.calls41 (n : Int) (hn : 0 ≤ n ∧ n ≤ 5) (caps : Array Value) (g : Nat → Bool) (w : World)
    (hp : ∀ (W : World) (x : Nat), Below w.heap.size w W → x < 2 ^ n.toNat → Calls Try.prog 41 (#[.int .i64 (x : Int)] ++ caps) W fun e w' => e = .returned (.bool (g x)) ∧ Below W.heap.size W w') :
    Calls Try.prog 34 #[.int .i64 n, .func (.func 41) #[] caps] w fun e w' => e = .returned (.agg #[.int .i64 n, .int .i64 (impl_makeTable.word g (2 ^ n.toNat))]) ∧ Below w.heap.size w w' := by
  obtain ⟨N, hN, hN2, hN32⟩ := impl_makeTable.size hn
  rw [hN2] at hp ⊢
  have hu := Try.underlying25
  have HP := Aside0.mk hp
  clear hN2 hp
  go_enter Try.func34, Try.ntmps34
  go_wp2_with fail
  rw [hN]
  have HB := Aside0.mk ((((Below.refl w.heap.size w).alloc (Nat.le_refl _) (Obj.cells #[Value.int IntKind.i64 0, Value.int IntKind.i64 0] 25)).alloc (by simp) (Obj.cells #[Value.int IntKind.i64 n, Value.int IntKind.i64 0] 25)))
  have RK := Aside0.mk (blk_alloc (blk_new w (Obj.cells #[Value.int IntKind.i64 0, Value.int IntKind.i64 0] 25)) (Obj.cells #[Value.int IntKind.i64 n, Value.int IntKind.i64 0] 25))
  have BK := Aside0.mk (blk_new (w.alloc (Obj.cells #[Value.int IntKind.i64 0, Value.int IntKind.i64 0] 25)) (Obj.cells #[Value.int IntKind.i64 n, Value.int IntKind.i64 0] 25))
  rw [show (w.alloc (Obj.cells #[Value.int IntKind.i64 0, Value.int IntKind.i64 0] 25)).heap.size = w.heap.size + 1 by simp] at BK
  go_loopw [11] (fun v wr => ∃ i : Nat, i ≤ N ∧ v = .int .i64 (i : Int) ∧ Aside0 (wr.heap[w.heap.size]? = some (.cells #[.int .i64 0, .int .i64 0] 25 (0, 0))) ∧ Aside0 (wr.heap[w.heap.size + 1]? = some (.cells #[.int .i64 n, .int .i64 (impl_makeTable.word g i)] 25 (0, 0))) ∧ Aside0 (Below w.heap.size w wr)) (fun v _ => N - (intOf v).toNat)
  case atStart => exact ⟨0, Nat.zero_le _, rfl, RK, BK, HB⟩
  case round =>
    obtain ⟨i, hi, rfl, RK, BK, HB⟩ := hrel
    by_cases hlt : i < N
    · have hcall := HP.out wr i HB.out hlt
      replace hcall : Calls Try.prog 41 (#[.int .i64 (i : Int)] ++ caps) wr fun e w' => e = .returned (.bool (g i)) ∧ Below wr.heap.size wr w' := hcall
      cases hg : g i with
      | true =>
        rw [hg] at hcall
        have S1 := Aside0.mk (show impl_makeTable.word g (i + 1) = Go.bits .or .i64 (impl_makeTable.word g i) (wrap64 ((2 : Int) ^ i)) by simp only [impl_makeTable.word]; rw [if_pos hg])
        clear hg
        go_wp2_with (go_at_call 41; refine hcall.mono ?_; rintro e w2 ⟨rfl, hb2⟩)
        have RK2 := Aside0.mk (blk_below RK.out hb2)
        have BK2 := Aside0.mk (blk_below BK.out hb2)
        have HB2 := Aside0.mk (below_step HB.out hb2)
        clear hb2 RK BK HB hcall
        have k1 := (blk_cell BK2.out 1).trans rfl
        have f1 := blk_frozen BK2.out 1
        have hi0 : (0 : Int) ≤ (i : Int) := Int.natCast_nonneg i
        have hid : decide ((i : Int) < 0) = false := by simp
        go_region
        all_goals go_wp2
        all_goals go_roundw
        case rel => exact ⟨i + 1, by omega, by go_num, ⟨blk_drew (blk_far RK2.out (by simp) _)⟩, ⟨by rw [S1.out]; exact blk_drew (blk_put BK2.out 1 _ rfl)⟩, ⟨below_drew1 (below_set HB2.out (by omega))⟩⟩
        case measure => simp [intOf]; omega
      | false =>
        rw [hg] at hcall
        have S1 := Aside0.mk (show impl_makeTable.word g (i + 1) = impl_makeTable.word g i by simp only [impl_makeTable.word]; rw [if_neg (by rw [hg]; decide)])
        clear hg
        go_wp2_with (go_at_call 41; refine hcall.mono ?_; rintro e w2 ⟨rfl, hb2⟩)
        go_roundw
        case rel => exact ⟨i + 1, by omega, by go_num, ⟨blk_below RK.out hb2⟩, ⟨by rw [S1.out]; exact blk_below BK.out hb2⟩, ⟨below_step HB.out hb2⟩⟩
        case measure => simp [intOf]; omega
    · obtain rfl : i = N := by omega
      have k0 := (blk_cell BK.out 0).trans rfl
      have k1 := (blk_cell BK.out 1).trans rfl
      have r0 := (blk_cell RK.out 0).trans rfl
      have r1 := (blk_cell RK.out 1).trans rfl
      have f0 := blk_frozen RK.out 0
      have f1 := blk_frozen RK.out 1
      go_wp2
      refine bodyPost_ret (results_cell_row rfl _ _ w.heap.size 25 #[.int .i64 n, .int .i64 (impl_makeTable.word g i)] (0, 0) _ rfl (blk_put (cs := #[.int .i64 n, .int .i64 0]) (blk_put (cs := #[.int .i64 0, .int .i64 0]) RK.out 0 _ rfl) 1 _ rfl) hu rfl (by kernel_rfl)) rfl ?_
      exact ⟨rfl, below_set (below_set HB.out (by omega)) (by omega)⟩
-- EACH closure's number
set_option maxHeartbeats 4000000 in
set_option maxRecDepth 100000 in
theorem impl_makeTable.calls44 (n : Int) (hn : 0 ≤ n ∧ n ≤ 5) (caps : Array Value) (g : Nat → Bool) (w : World)
    (hp : ∀ (W : World) (x : Nat), Below w.heap.size w W → x < 2 ^ n.toNat → Calls Try.prog 44 (#[.int .i64 (x : Int)] ++ caps) W fun e w' => e = .returned (.bool (g x)) ∧ Below W.heap.size W w') :
    Calls Try.prog 34 #[.int .i64 n, .func (.func 44) #[] caps] w fun e w' => e = .returned (.agg #[.int .i64 n, .int .i64 (impl_makeTable.word g (2 ^ n.toNat))]) ∧ Below w.heap.size w w' := by
  obtain ⟨N, hN, hN2, hN32⟩ := impl_makeTable.size hn
  rw [hN2] at hp ⊢
  have hu := Try.underlying25
  have HP := Aside0.mk hp
  clear hN2 hp
  go_enter Try.func34, Try.ntmps34
  go_wp2_with fail
  rw [hN]
  have HB := Aside0.mk ((((Below.refl w.heap.size w).alloc (Nat.le_refl _) (Obj.cells #[Value.int IntKind.i64 0, Value.int IntKind.i64 0] 25)).alloc (by simp) (Obj.cells #[Value.int IntKind.i64 n, Value.int IntKind.i64 0] 25)))
  have RK := Aside0.mk (blk_alloc (blk_new w (Obj.cells #[Value.int IntKind.i64 0, Value.int IntKind.i64 0] 25)) (Obj.cells #[Value.int IntKind.i64 n, Value.int IntKind.i64 0] 25))
  have BK := Aside0.mk (blk_new (w.alloc (Obj.cells #[Value.int IntKind.i64 0, Value.int IntKind.i64 0] 25)) (Obj.cells #[Value.int IntKind.i64 n, Value.int IntKind.i64 0] 25))
  rw [show (w.alloc (Obj.cells #[Value.int IntKind.i64 0, Value.int IntKind.i64 0] 25)).heap.size = w.heap.size + 1 by simp] at BK
  go_loopw [11] (fun v wr => ∃ i : Nat, i ≤ N ∧ v = .int .i64 (i : Int) ∧ Aside0 (wr.heap[w.heap.size]? = some (.cells #[.int .i64 0, .int .i64 0] 25 (0, 0))) ∧ Aside0 (wr.heap[w.heap.size + 1]? = some (.cells #[.int .i64 n, .int .i64 (impl_makeTable.word g i)] 25 (0, 0))) ∧ Aside0 (Below w.heap.size w wr)) (fun v _ => N - (intOf v).toNat)
  case atStart => exact ⟨0, Nat.zero_le _, rfl, RK, BK, HB⟩
  case round =>
    obtain ⟨i, hi, rfl, RK, BK, HB⟩ := hrel
    by_cases hlt : i < N
    · have hcall := HP.out wr i HB.out hlt
      replace hcall : Calls Try.prog 44 (#[.int .i64 (i : Int)] ++ caps) wr fun e w' => e = .returned (.bool (g i)) ∧ Below wr.heap.size wr w' := hcall
      cases hg : g i with
      | true =>
        rw [hg] at hcall
        have S1 := Aside0.mk (show impl_makeTable.word g (i + 1) = Go.bits .or .i64 (impl_makeTable.word g i) (wrap64 ((2 : Int) ^ i)) by simp only [impl_makeTable.word]; rw [if_pos hg])
        clear hg
        go_wp2_with (go_at_call 44; refine hcall.mono ?_; rintro e w2 ⟨rfl, hb2⟩)
        have RK2 := Aside0.mk (blk_below RK.out hb2)
        have BK2 := Aside0.mk (blk_below BK.out hb2)
        have HB2 := Aside0.mk (below_step HB.out hb2)
        clear hb2 RK BK HB hcall
        have k1 := (blk_cell BK2.out 1).trans rfl
        have f1 := blk_frozen BK2.out 1
        have hi0 : (0 : Int) ≤ (i : Int) := Int.natCast_nonneg i
        have hid : decide ((i : Int) < 0) = false := by simp
        go_region
        all_goals go_wp2
        all_goals go_roundw
        case rel => exact ⟨i + 1, by omega, by go_num, ⟨blk_drew (blk_far RK2.out (by simp) _)⟩, ⟨by rw [S1.out]; exact blk_drew (blk_put BK2.out 1 _ rfl)⟩, ⟨below_drew1 (below_set HB2.out (by omega))⟩⟩
        case measure => simp [intOf]; omega
      | false =>
        rw [hg] at hcall
        have S1 := Aside0.mk (show impl_makeTable.word g (i + 1) = impl_makeTable.word g i by simp only [impl_makeTable.word]; rw [if_neg (by rw [hg]; decide)])
        clear hg
        go_wp2_with (go_at_call 44; refine hcall.mono ?_; rintro e w2 ⟨rfl, hb2⟩)
        go_roundw
        case rel => exact ⟨i + 1, by omega, by go_num, ⟨blk_below RK.out hb2⟩, ⟨by rw [S1.out]; exact blk_below BK.out hb2⟩, ⟨below_step HB.out hb2⟩⟩
        case measure => simp [intOf]; omega
    · obtain rfl : i = N := by omega
      have k0 := (blk_cell BK.out 0).trans rfl
      have k1 := (blk_cell BK.out 1).trans rfl
      have r0 := (blk_cell RK.out 0).trans rfl
      have r1 := (blk_cell RK.out 1).trans rfl
      have f0 := blk_frozen RK.out 0
      have f1 := blk_frozen RK.out 1
      go_wp2
      refine bodyPost_ret (results_cell_row rfl _ _ w.heap.size 25 #[.int .i64 n, .int .i64 (impl_makeTable.word g i)] (0, 0) _ rfl (blk_put (cs := #[.int .i64 n, .int .i64 0]) (blk_put (cs := #[.int .i64 0, .int .i64 0]) RK.out 0 _ rfl) 1 _ rfl) hu rfl (by kernel_rfl)) rfl ?_
      exact ⟨rfl, below_set (below_set HB.out (by omega)) (by omega)⟩

/-! ### impl_part_isLeaf: function 38 -/
set_option maxHeartbeats 4000000 in
set_option maxRecDepth 100000 in
theorem impl_part_isLeaf.calls (b : Nat) (u0 u2 : Value) (q : Option Addr) (w : World) (h : w.heap[b]? = some (.cells #[u0, .pointer q, u2] 58 (0, 0))) :
    Calls Try.prog 38 #[.pointer (some ⟨b, 0, none⟩)] w fun e w' => e = .returned (.bool q.isNone) ∧ w = w' := by
  have hu := Try.underlying58
  have c1 : w.cell? ⟨b, 1, none⟩ = some (.pointer q) := (blk_cell h 1).trans rfl
  clear h
  cases q with
  | none =>
    go_enter Try.func38, Try.ntmps38
    go_wp2_with fail
    go_ret
    exact ⟨rfl, rfl⟩
  | some a =>
    go_enter Try.func38, Try.ntmps38
    go_wp2_with fail
    go_ret
    exact ⟨rfl, rfl⟩

/-! ### impl_variable: function 43 -/
def impl_variable.on (i : Int) (x : Nat) : Bool := (Go.bits .and .i64 (shr .i64 (x : Int) i) 1 == 1)
def impl_variable.f (a0 a1 : Int) : Option (Int × Int) :=
  if (0 ≤ a0 ∧ a0 ≤ 5) ∧ 0 ≤ a1 then some (a0, impl_makeTable.word (impl_variable.on a1) (2 ^ a0.toNat)) else none
set_option maxHeartbeats 4000000 in
set_option maxRecDepth 100000 in
theorem impl_variable.in_calls (i : Int) (hi : 0 ≤ i) (B : Nat) (x : Nat) (W : World) (h1 : W.cell? ⟨B, 0, none⟩ = some (.int .i64 i)) :
    Calls Try.prog 44 #[.int .i64 (x : Int), .pointer (some ⟨B, 0, none⟩)] W fun e w' => e = .returned (.bool (impl_variable.on i x)) ∧ Below W.heap.size W w' := by
  unfold impl_variable.on
  obtain ⟨sa, hs⟩ : ∃ y, shr .i64 (x : Int) i = y := ⟨_, rfl⟩
  rw [hs]
  have hs_ : (x : Int) / 2 ^ min i.toNat 64 = sa := hs
  have hsz_ : i ≤ 64 → (x : Int) / 2 ^ i.toNat = sa := fun hle => by rw [← hs_, Nat.min_eq_left (by omega)]
  have hib : decide (0 ≤ i) = true := decide_eq_true hi
  clear hs
  go_enter Try.func44, Try.ntmps44
  go_wp2_with fail
  go_ret
  exact ⟨rfl, Below.refl _ _⟩
theorem impl_variable.in_calls2 (i : Int) (hi : 0 ≤ i) (B : Nat) (x : Nat) (W : World) (h1 : W.cell? ⟨B, 0, none⟩ = some (.int .i64 i)) :
    Calls Try.prog 44 (#[.int .i64 (x : Int)] ++ #[.pointer (some ⟨B, 0, none⟩)]) W fun e w' => e = .returned (.bool (impl_variable.on i x)) ∧ Below W.heap.size W w' := impl_variable.in_calls i hi B x W h1
set_option maxHeartbeats 4000000 in
set_option maxRecDepth 100000 in
theorem impl_variable.calls (a0 a1 r1 r2 : Int) (w : World) (h : impl_variable.f a0 a1 = some (r1, r2)) :
    Calls Try.prog 43 #[.int .i64 a0, .int .i64 a1] w fun e w' => e = .returned (.agg #[.int .i64 r1, .int .i64 r2]) ∧ Below w.heap.size w w' := by
  have hu := Try.underlying25
  unfold impl_variable.f at h
  by_cases hb : (0 ≤ a0 ∧ a0 ≤ 5) ∧ 0 ≤ a1
  case neg => rw [if_neg hb] at h; exact absurd h (by simp)
  rw [if_pos hb] at h
  simp only [Option.some.injEq, Prod.mk.injEq] at h
  obtain ⟨rfl, rfl⟩ := h
  have HN := Aside0.mk hb.1
  have HI := Aside0.mk hb.2
  clear hb
  go_enter Try.func43, Try.ntmps43
  go_wp2_with (first | ((with_reducible refine gate_dst (N := 3) rfl ?_); refine box_event ?hg (N := 3) ?hd (cs := #[.int .i64 a1]) (t := 3) ?hr ?_; (case hd => rfl); (case hg => rfl); (case hr => first | (go_simp; done) | (go_simp; rfl)); intro gp hg w1 hbox hb; have HB1 := Aside0.mk hb; have RP1 := Aside0.mk hbox; have GP := Aside0.mk (Nat.le_of_eq hg.symm); clear hg hbox hb) | ((with_reducible refine gate_dst (N := 4) rfl ?_); refine box_event ?hg (N := 4) ?hd (cs := #[.int .i64 0, .int .i64 0]) (t := 25) ?hr ?_; (case hd => rfl); (case hg => rfl); (case hr => first | (go_simp; done) | (go_simp; rfl)); intro gr hg w2 hbox hb; have HB2 := Aside0.mk (below_step HB1.out hb); have RP2 := Aside0.mk (blk_below RP1.out hb); have RR2 := Aside0.mk hbox; have GR := Aside0.mk (Nat.le_trans (below_size HB1.out) (Nat.le_of_eq hg.symm)); clear hg hbox hb) | (go_at_call 34; (with_reducible refine (impl_makeTable.calls44 a0 HN.out #[.pointer (some ⟨gp, 0, none⟩)] (impl_variable.on a1) _ (fun W x hW hx => impl_variable.in_calls2 a1 HI.out gp x W ((blk_cell (blk_below RP2.out hW) 0).trans rfl))).mono ?_); rintro e w3 ⟨rfl, hb3⟩; have HB3 := Aside0.mk (below_step HB2.out hb3); have RR3 := Aside0.mk (blk_below RR2.out hb3); clear hb3; have r0 := (blk_cell RR3.out 0).trans rfl; have r1 := (blk_cell RR3.out 1).trans rfl; have f0 := blk_frozen RR3.out 0; have f1 := blk_frozen RR3.out 1))
  refine bodyPost_ret (results_cell_row rfl _ _ gr 25 #[.int .i64 a0, .int .i64 (impl_makeTable.word (impl_variable.on a1) (2 ^ a0.toNat))] (0, 0) _ rfl (blk_put (cs := #[.int .i64 a0, .int .i64 0]) (blk_put (cs := #[.int .i64 0, .int .i64 0]) RR3.out 0 _ rfl) 1 _ rfl) hu rfl (by kernel_rfl)) rfl ?_
  exact ⟨rfl, below_set (below_set HB3.out GR.out) GR.out⟩

end Go.Proofs.Ytfpcgcmajdebmaa.P
