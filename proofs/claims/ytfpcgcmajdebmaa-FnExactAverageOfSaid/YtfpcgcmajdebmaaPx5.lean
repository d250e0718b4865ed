-- Out of the translation, by this session's program over the printer's; Lean checks it.
import Derived.Test.YtfpcgcmajdebmaaPx0
import Derived.Test.YtfpcgcmajdebmaaPx1
import Derived.Test.YtfpcgcmajdebmaaPx3
import Derived.Test.YtfpcgcmajdebmaaPx4
namespace Go.Proofs.Ytfpcgcmajdebmaa.P
open Go.RowKit Go.Proofs.YtfpcgcmajdebmaaW.PrintWords Go.Proofs.YtfpcgcmajdebmaaW.PrintLast Go.Proofs.YtfpcgcmajdebmaaW.PrintMore
attribute [local go_sem] max2_int min2_int max_two min_two max_three min_three max_four min_four   -- for this text's walks alone
set_option linter.unusedVariables false
set_option linter.unusedSimpArgs false

/-! ### spec_QueriesOf: function 7 -/
def spec_QueriesOf.f (k : Nat) (a0 : ByteArray) (a1 : Int) : Option (Int) := (spec_IsTree.f k a0).bind fun t109 => (if t109 = true then ((spec_l1In.f a1 0 31).bind fun t110 => (if t110 = true then ((spec_l7Run.f k a0 a1).bind fun bt111 => (some bt111.2)) else (some (-1)))) else (some (-1)))
theorem spec_QueriesOf.mono : ∀ a0 a1 k, LeO (spec_QueriesOf.f k a0 a1) (spec_QueriesOf.f (k + 1) a0 a1) := by
  intro a0 a1 k
  unfold spec_QueriesOf.f
  repeat' first
      | (with_reducible exact spec_IsTree.mono _ _)
      | (with_reducible exact spec_l7Run.mono _ _ _)
      | (with_reducible exact LeO.refl _)
      | (with_reducible exact LeO.none _)
      | (with_reducible refine LeO.ite ?_ ?_)
      | (with_reducible refine LeO.bind ?_ (fun _ => ?_))
      | exact spec_IsTree.mono _ _
      | exact spec_l7Run.mono _ _ _
      | exact LeO.none _
      | refine LeO.ite ?_ ?_
      | refine LeO.bind ?_ (fun _ => ?_)
set_option maxHeartbeats 8000000 in
set_option maxRecDepth 100000 in
theorem spec_QueriesOf.calls (k : Nat) (a0 : ByteArray) (a1 : Int) (r : Int) (w : World) (h : spec_QueriesOf.f k a0 a1 = some r) :
    Calls Try.prog 7 #[.string a0, .int .i64 a1] w fun e w' => e = .returned (.int .i64 r) ∧ Drawn0 w w' := by
  have H : ((spec_IsTree.f k a0).bind fun t109 => (if t109 = true then ((spec_l1In.f a1 0 31).bind fun t110 => (if t110 = true then ((spec_l7Run.f k a0 a1).bind fun bt111 => (some bt111.2)) else (some (-1)))) else (some (-1)))) = some r := h
  clear h
  replace H := Option.bind_eq_some_iff.mp H
  obtain ⟨t109, A30, H⟩ := H
  replace H : (if t109 = true then ((spec_l1In.f a1 0 31).bind fun t110 => (if t110 = true then ((spec_l7Run.f k a0 a1).bind fun bt111 => (some bt111.2)) else (some (-1)))) else (some (-1))) = some r := H
  have A3 := Aside0.mk A30
  clear A30
  by_cases c4 : t109 = true
  · subst c4
    have H1 : ((spec_l1In.f a1 0 31).bind fun t110 => (if t110 = true then ((spec_l7Run.f k a0 a1).bind fun bt111 => (some bt111.2)) else (some (-1)))) = some r := by rw [if_pos rfl] at H; exact H
    clear H
    have H := H1
    clear H1
    replace H := Option.bind_eq_some_iff.mp H
    obtain ⟨t110, A50, H⟩ := H
    replace H : (if t110 = true then ((spec_l7Run.f k a0 a1).bind fun bt111 => (some bt111.2)) else (some (-1))) = some r := H
    have A5 := Aside0.mk A50
    clear A50
    by_cases c6 : t110 = true
    · subst c6
      have H1 : ((spec_l7Run.f k a0 a1).bind fun bt111 => (some bt111.2)) = some r := by rw [if_pos rfl] at H; exact H
      clear H
      have H := H1
      clear H1
      replace H := Option.bind_eq_some_iff.mp H
      obtain ⟨⟨t111, t112⟩, A70, H⟩ := H
      replace H : (some t112) = some r := H
      have A7 := Aside0.mk A70
      clear A70
      obtain rfl := Option.some.inj H
      go_enter Try.func7, Try.ntmps7
      go_wp2_with (first | ((with_reducible refine gate_callee (f := 16) rfl ?_); refine goesL_ (some 8) rfl rfl Try.func16 (by kernel_rfl) rfl #[.string a0] rfl (by (try simp only [List.map_toArray, List.map_cons, List.map_nil]); first | done | rfl | (simp only [List.length_drop, List.length_take]; rfl)) ?_; (with_reducible refine (spec_IsTree.calls k a0 true _ A3.out).mono ?_); rintro e w' ⟨rfl, ⟨nd, rfl⟩⟩; refine ⟨_, rfl, ?_⟩) | (go_at_call 17; (with_reducible refine (spec_l1In.calls a1 0 31 true _ A5.out).mono ?_); rintro e w' ⟨rfl, ⟨nd, rfl⟩⟩) | ((with_reducible refine gate_callee (f := 18) rfl ?_); refine goesL_ (some 18) rfl rfl Try.func18 (by kernel_rfl) rfl #[.string a0, .int .i64 a1] rfl (by (try simp only [List.map_toArray, List.map_cons, List.map_nil]); first | done | rfl | (simp only [List.length_drop, List.length_take]; rfl)) ?_; (with_reducible refine (spec_l7Run.calls k a0 a1 t111 t112 _ A7.out).mono ?_); rintro e w' ⟨rfl, ⟨nd, rfl⟩⟩; refine ⟨_, rfl, ?_⟩))
      go_ret
      exact ⟨by first | rfl | (simp; done) | (simp [*]; done), by repeat (first | exact Drawn0.refl _ | apply Drawn0.step)⟩
    · replace c6 := Bool.eq_false_iff.mpr c6
      subst c6
      have H1 : (some (-1)) = some r := by rw [if_neg (show ¬ (false = true) by decide)] at H; exact H
      clear H
      have H := H1
      clear H1
      obtain rfl := Option.some.inj H
      go_enter Try.func7, Try.ntmps7
      go_wp2_with (first | ((with_reducible refine gate_callee (f := 16) rfl ?_); refine goesL_ (some 8) rfl rfl Try.func16 (by kernel_rfl) rfl #[.string a0] rfl (by (try simp only [List.map_toArray, List.map_cons, List.map_nil]); first | done | rfl | (simp only [List.length_drop, List.length_take]; rfl)) ?_; (with_reducible refine (spec_IsTree.calls k a0 true _ A3.out).mono ?_); rintro e w' ⟨rfl, ⟨nd, rfl⟩⟩; refine ⟨_, rfl, ?_⟩) | (go_at_call 17; (with_reducible refine (spec_l1In.calls a1 0 31 false _ A5.out).mono ?_); rintro e w' ⟨rfl, ⟨nd, rfl⟩⟩))
      go_ret
      exact ⟨by first | rfl | (simp; done) | (simp [*]; done), by repeat (first | exact Drawn0.refl _ | apply Drawn0.step)⟩
  · replace c4 := Bool.eq_false_iff.mpr c4
    subst c4
    have H1 : (some (-1)) = some r := by rw [if_neg (show ¬ (false = true) by decide)] at H; exact H
    clear H
    have H := H1
    clear H1
    obtain rfl := Option.some.inj H
    go_enter Try.func7, Try.ntmps7
    go_wp2_with (first | ((with_reducible refine gate_callee (f := 16) rfl ?_); refine goesL_ (some 8) rfl rfl Try.func16 (by kernel_rfl) rfl #[.string a0] rfl (by (try simp only [List.map_toArray, List.map_cons, List.map_nil]); first | done | rfl | (simp only [List.length_drop, List.length_take]; rfl)) ?_; (with_reducible refine (spec_IsTree.calls k a0 false _ A3.out).mono ?_); rintro e w' ⟨rfl, ⟨nd, rfl⟩⟩; refine ⟨_, rfl, ?_⟩))
    go_ret
    exact ⟨by first | rfl | (simp; done) | (simp [*]; done), by repeat (first | exact Drawn0.refl _ | apply Drawn0.step)⟩

/-! ### impl_tree_variable: function 32 -/
set_option maxHeartbeats 4000000 in
set_option maxRecDepth 100000 in
theorem impl_tree_variable.calls (b : Nat) (c : Int) (u1 u2 : Value) (w : World) (h : w.heap[b]? = some (.cells #[.int .u8 c, u1, u2] 51 (0, 0))) :
    Calls Try.prog 32 #[.pointer (some ⟨b, 0, none⟩)] w fun e w' => e = .returned (.int .i64 ((c - 97) % 256)) ∧ w = w' := by
  have hu := Try.underlying51
  have c0 : w.cell? ⟨b, 0, none⟩ = some (.int .u8 c) := (blk_cell h 0).trans rfl
  clear h
  go_enter Try.func32, Try.ntmps32
  go_wp2_with fail
  go_ret
  exact ⟨rfl, rfl⟩

/-! ### impl_isLetter: function 39 -/
def impl_isLetter.f (a0 : Int) : Option (Bool) := if a0 ≥ 97 then (some (decide (a0 < 102))) else (some false)
set_option maxHeartbeats 8000000 in
set_option maxRecDepth 100000 in
theorem impl_isLetter.calls (a0 : Int) (r : Bool) (w : World) (h : impl_isLetter.f a0 = some r) :
    Calls Try.prog 39 #[.int .u8 a0] w fun e w' => e = .returned (.bool r) ∧ Drawn0 w w' := by
  have H : (if a0 ≥ 97 then (some (decide (a0 < 102))) else (some false)) = some r := h
  clear h
  by_cases c2 : a0 ≥ 97
  · rw [if_pos c2] at H
    have c2b0 : decide (97 ≤ a0) = true := decide_eq_true c2
    clear c2
    obtain rfl := Option.some.inj H
    go_enter Try.func39, Try.ntmps39
    go_wp2
    go_ret
    exact ⟨by first | rfl | (simp; done) | (simp [*]; done), by repeat (first | exact Drawn0.refl _ | apply Drawn0.step)⟩
  · rw [if_neg c2] at H
    have c2b0 : decide (97 ≤ a0) = false := decide_eq_false c2
    clear c2
    obtain rfl := Option.some.inj H
    go_enter Try.func39, Try.ntmps39
    go_wp2
    go_ret
    exact ⟨by first | rfl | (simp; done) | (simp [*]; done), by repeat (first | exact Drawn0.refl _ | apply Drawn0.step)⟩

/-! ### impl_readTree: function 31 -/
/-- A decision tree as it was read: its sign, and what follows each answer. -/
inductive impl_readTree.T where
  | leaf (c : Int) : impl_readTree.T
  | node (c : Int) (l h : impl_readTree.T) : impl_readTree.T
def impl_readTree.T.sign : impl_readTree.T → Int
  | .leaf c => c
  | .node c _ _ => c
/-- The tree T lies in w at block b; all its blocks lie from base on. -/
def impl_readTree.In (base : Nat) : impl_readTree.T → Nat → World → Prop
  | .leaf c, b, w => base ≤ b ∧ w.heap[b]? = some (.cells #[.int .u8 c, .pointer none, .pointer none] 51 (0, 0))
  | .node c l h, b, w => base ≤ b ∧ ∃ bl bh, w.heap[b]? = some (.cells #[.int .u8 c, .pointer (some ⟨bl, 0, none⟩), .pointer (some ⟨bh, 0, none⟩)] 51 (0, 0)) ∧ impl_readTree.In base l bl w ∧ impl_readTree.In base h bh w
theorem impl_readTree.In.kept {base : Nat} {w w' : World} (hb : Below w.heap.size w w') : ∀ {t : impl_readTree.T} {b : Nat}, impl_readTree.In base t b w → impl_readTree.In base t b w'
  | .leaf c, b, h => ⟨h.1, blk_below h.2 hb⟩
  | .node c l r, b, h => by
    obtain ⟨h0, bl, br, h1, h2, h3⟩ := h
    exact ⟨h0, bl, br, blk_below h1 hb, impl_readTree.In.kept hb h2, impl_readTree.In.kept hb h3⟩
theorem impl_readTree.In.mono {base base' : Nat} {w : World} (hb : base' ≤ base) : ∀ {t : impl_readTree.T} {b : Nat}, impl_readTree.In base t b w → impl_readTree.In base' t b w
  | .leaf c, b, h => ⟨Nat.le_trans hb h.1, h.2⟩
  | .node c l r, b, h => by
    obtain ⟨h0, bl, br, h1, h2, h3⟩ := h
    exact ⟨Nat.le_trans hb h0, bl, br, h1, impl_readTree.In.mono hb h2, impl_readTree.In.mono hb h3⟩
theorem impl_readTree.In.far {base : Nat} {w : World} {p : Addr} (hp : p.block < base) (u : Value) : ∀ {t : impl_readTree.T} {b : Nat}, impl_readTree.In base t b w → impl_readTree.In base t b (w.setCell p u)
  | .leaf c, b, h => ⟨h.1, blk_far h.2 (by have := h.1; omega) u⟩
  | .node c l r, b, h => by
    obtain ⟨h0, bl, br, h1, h2, h3⟩ := h
    exact ⟨h0, bl, br, blk_far h1 (by omega) u, impl_readTree.In.far hp u h2, impl_readTree.In.far hp u h3⟩
def impl_readTree.f : Nat → ByteArray → Int → Option (Option impl_readTree.T × ByteArray)
  | 0, _, _ => none
  | k + 1, s, a => if s.size = 0 then some (none, ⟨#[]⟩) else if bt s 0 = 48 ∨ bt s 0 = 49 then some (some (.leaf (bt s 0)), s.extract 1 s.size) else
    (impl_isLetter.f (bt s 0)).bind fun b => if b = false then some (none, ⟨#[]⟩) else
      if Go.bits .and .i64 (shr .i64 a ((bt s 0 - 97) % 256)) 1 = 1 then some (none, ⟨#[]⟩) else
        (impl_readTree.f k (s.extract 1 s.size) (Go.bits .or .i64 a (shl .i64 1 ((bt s 0 - 97) % 256)))).bind fun p => match p.1 with
          | none => some (none, ⟨#[]⟩)
          | some l => (impl_readTree.f k p.2 (Go.bits .or .i64 a (shl .i64 1 ((bt s 0 - 97) % 256)))).bind fun q => match q.1 with
            | none => some (none, ⟨#[]⟩)
            | some h => some (some (.node (bt s 0) l h), q.2)
/-- What the call tells: no tree, or a tree in new memory. -/
def impl_readTree.Post (t : Option impl_readTree.T) (rest : ByteArray) (w : World) (e : Ending) (w' : World) : Prop :=
  Below w.heap.size w w' ∧ match t with
    | none => e = .returned (.tuple #[.pointer none, .string rest])
    | some t => ∃ b, e = .returned (.tuple #[.pointer (some ⟨b, 0, none⟩), .string rest]) ∧ impl_readTree.In w.heap.size t b w'
theorem impl_readTree.empty {s : ByteArray} (h : s.size = 0) : s.toList.isEmpty = true := by
  rw [Go.ByteArray.toList_eq, List.isEmpty_iff, ← List.length_eq_zero_iff, Array.length_toList]
  exact h
theorem impl_readTree.some_ {s : ByteArray} (h : ¬ s.size = 0) : s.toList.isEmpty = false := by
  rw [Bool.eq_false_iff]
  intro e
  rw [Go.ByteArray.toList_eq, List.isEmpty_iff, ← List.length_eq_zero_iff, Array.length_toList] at e
  exact h e
set_option maxHeartbeats 4000000 in
set_option maxRecDepth 100000 in
theorem impl_readTree.calls : ∀ (k : Nat) (s : ByteArray) (a : Int) (t : Option impl_readTree.T) (rest : ByteArray) (w : World), impl_readTree.f k s a = some (t, rest) →
    Calls Try.prog 31 #[.string s, .int .i64 a] w (impl_readTree.Post t rest w) := by
  intro k
  induction k with
  | zero => intro s a t rest w h; simp [impl_readTree.f] at h
  | succ k ih =>
    intro s a t rest w h
    have IH := Aside0.mk ih
    have hu := Try.underlying51
    rw [impl_readTree.f] at h
    clear ih
    by_cases h0 : s.size = 0
    · rw [if_pos h0] at h
      obtain ⟨rfl, rfl⟩ := Prod.mk.inj (Option.some.inj h)
      have he := impl_readTree.empty h0
      clear h h0
      go_enter Try.func31, Try.ntmps31
      go_wp2_with fail
      go_ret2
      exact ⟨Below.refl _ _, rfl⟩
    · rw [if_neg h0] at h
      have he := impl_readTree.some_ h0
      have hsz : 0 < s.size := Nat.pos_of_ne_zero h0
      have hx : ((s[0]'hsz).toNat : Int) = bt s 0 := bt_at s 0 hsz
      have hbr := bt_range s 0
      have p0 : 0 ≤ (0 : Int) := Int.le_refl 0
      clear h0
      generalize hc : bt s 0 = c at h hbr
      by_cases h1 : c = 48 ∨ c = 49
      · rw [if_pos h1] at h
        obtain ⟨rfl, rfl⟩ := Prod.mk.inj (Option.some.inj h)
        clear h
        subst hc
        rcases h1 with h1 | h1
        · have e1 : (bt s 0 == 48) = true := by rw [h1]; rfl
          clear h1
          go_enter Try.func31, Try.ntmps31
          go_wp2_with ((with_reducible refine gate_dst (N := 13) rfl ?_); refine box_event ?hg (N := 13) ?hd (cs := #[.int .u8 (bt s 0), .pointer none, .pointer none]) (t := 51) ?hr ?_; (case hd => rfl); (case hg => rfl); (case hr => first | (go_simp; done) | (go_simp; rfl)); intro gb hg w1 hbox hb; have HB1 := Aside0.mk hb; have RK := Aside0.mk hbox; have GE := Aside0.mk (Nat.le_of_eq hg.symm); clear hg hbox hb; have k0 := (blk_cell RK.out 0).trans rfl; have k1 := (blk_cell RK.out 1).trans rfl; have k2 := (blk_cell RK.out 2).trans rfl; have f1 := blk_frozen RK.out 1; have f2 := blk_frozen RK.out 2)
          go_ret2
          exact ⟨HB1.out, gb, rfl, GE.out, RK.out⟩
        · have e1 : (bt s 0 == 48) = false := by rw [h1]; rfl
          have e2 : (bt s 0 == 49) = true := by rw [h1]; rfl
          clear h1
          go_enter Try.func31, Try.ntmps31
          go_wp2_with ((with_reducible refine gate_dst (N := 13) rfl ?_); refine box_event ?hg (N := 13) ?hd (cs := #[.int .u8 (bt s 0), .pointer none, .pointer none]) (t := 51) ?hr ?_; (case hd => rfl); (case hg => rfl); (case hr => first | (go_simp; done) | (go_simp; rfl)); intro gb hg w1 hbox hb; have HB1 := Aside0.mk hb; have RK := Aside0.mk hbox; have GE := Aside0.mk (Nat.le_of_eq hg.symm); clear hg hbox hb; have k0 := (blk_cell RK.out 0).trans rfl; have k1 := (blk_cell RK.out 1).trans rfl; have k2 := (blk_cell RK.out 2).trans rfl; have f1 := blk_frozen RK.out 1; have f2 := blk_frozen RK.out 2)
          go_ret2
          exact ⟨HB1.out, gb, rfl, GE.out, RK.out⟩
      · rw [if_neg h1] at h
        subst hc
        have e1 : (bt s 0 == 48) = false := by rw [beq_eq_false_iff_ne]; exact fun e => h1 (.inl e)
        have e2 : (bt s 0 == 49) = false := by rw [beq_eq_false_iff_ne]; exact fun e => h1 (.inr e)
        have HR := Aside0.mk hbr
        obtain ⟨b, hl, h⟩ := Option.bind_eq_some_iff.mp h
        have AL := Aside0.mk hl
        clear h1 hbr hl
        cases b with
        | false =>
          rw [if_pos rfl] at h
          obtain ⟨rfl, rfl⟩ := Prod.mk.inj (Option.some.inj h)
          clear h
          go_enter Try.func31, Try.ntmps31
          go_wp2_with (first | ((with_reducible refine gate_dst (N := 13) rfl ?_); refine box_event ?hg (N := 13) ?hd (cs := #[.int .u8 (bt s 0), .pointer none, .pointer none]) (t := 51) ?hr ?_; (case hd => rfl); (case hg => rfl); (case hr => first | (go_simp; done) | (go_simp; rfl)); intro gb hg w1 hbox hb; have HB1 := Aside0.mk hb; have RK := Aside0.mk hbox; have GE := Aside0.mk (Nat.le_of_eq hg.symm); clear hg hbox hb; have k0 := (blk_cell RK.out 0).trans rfl; have k1 := (blk_cell RK.out 1).trans rfl; have k2 := (blk_cell RK.out 2).trans rfl; have f1 := blk_frozen RK.out 1; have f2 := blk_frozen RK.out 2) | (go_at_call 39; (with_reducible refine (impl_isLetter.calls (bt s 0) _ _ AL.out).mono ?_); rintro e w2 ⟨rfl, hd⟩; have HB2 := Aside0.mk (below_step HB1.out hd.below); have RK2 := Aside0.mk (blk_below RK.out hd.below); clear hd; have k0 := (blk_cell RK2.out 0).trans rfl; have k1 := (blk_cell RK2.out 1).trans rfl; have k2 := (blk_cell RK2.out 2).trans rfl; have f1 := blk_frozen RK2.out 1; have f2 := blk_frozen RK2.out 2))
          go_ret2
          exact ⟨HB2.out, rfl⟩
        | true =>
          rw [if_neg (by decide)] at h
          obtain ⟨i, hi⟩ : ∃ i, (bt s 0 - 97) % 256 = i := ⟨_, rfl⟩
          rw [hi] at h
          have hi0 : 0 ≤ i := by rw [← hi]; exact Int.emod_nonneg _ (by decide)
          have hib : decide (0 ≤ i) = true := decide_eq_true hi0
          obtain ⟨sa, hs⟩ : ∃ x, shr .i64 a i = x := ⟨_, rfl⟩
          rw [hs] at h
          have hs_ : a / 2 ^ min i.toNat 64 = sa := hs
          have hsz_ : i ≤ 64 → a / 2 ^ i.toNat = sa := fun hle => by rw [← hs_, Nat.min_eq_left (by omega)]
          by_cases hq : Go.bits .and .i64 sa 1 = 1
          · rw [if_pos hq] at h
            obtain ⟨rfl, rfl⟩ := Prod.mk.inj (Option.some.inj h)
            have hqb : (Go.bits .and .i64 sa 1 == 1) = true := beq_iff_eq.mpr hq
            clear h hq hs
            go_enter Try.func31, Try.ntmps31
            go_wp2_with (first | ((with_reducible refine gate_dst (N := 13) rfl ?_); refine box_event ?hg (N := 13) ?hd (cs := #[.int .u8 (bt s 0), .pointer none, .pointer none]) (t := 51) ?hr ?_; (case hd => rfl); (case hg => rfl); (case hr => first | (go_simp; done) | (go_simp; rfl)); intro gb hg w1 hbox hb; have HB1 := Aside0.mk hb; have RK := Aside0.mk hbox; have GE := Aside0.mk (Nat.le_of_eq hg.symm); clear hg hbox hb; have k0 := (blk_cell RK.out 0).trans rfl; have k1 := (blk_cell RK.out 1).trans rfl; have k2 := (blk_cell RK.out 2).trans rfl; have f1 := blk_frozen RK.out 1; have f2 := blk_frozen RK.out 2) | (go_at_call 39; (with_reducible refine (impl_isLetter.calls (bt s 0) _ _ AL.out).mono ?_); rintro e w2 ⟨rfl, hd⟩; have HB2 := Aside0.mk (below_step HB1.out hd.below); have RK2 := Aside0.mk (blk_below RK.out hd.below); clear hd; have k0 := (blk_cell RK2.out 0).trans rfl; have k1 := (blk_cell RK2.out 1).trans rfl; have k2 := (blk_cell RK2.out 2).trans rfl; have f1 := blk_frozen RK2.out 1; have f2 := blk_frozen RK2.out 2) | (go_at_call 32; (with_reducible refine (impl_tree_variable.calls gb (bt s 0) _ _ _ RK2.out).mono ?_); rintro e w' ⟨rfl, rfl⟩))
            go_ret2
            exact ⟨HB2.out, rfl⟩
          · rw [if_neg hq] at h
            have hqb : (Go.bits .and .i64 sa 1 == 1) = false := by simpa using hq
            obtain ⟨sh, hsh⟩ : ∃ x, shl .i64 1 i = x := ⟨_, rfl⟩
            rw [hsh] at h
            have hji_ : (IntKind.i64.wrap (1 * 2 ^ min i.toNat 64)) = sh := hsh
            have hjiz : i ≤ 64 → (IntKind.i64.wrap (1 * 2 ^ i.toNat)) = sh := shl_small hsh
            have hjiu : (IntKind.i64.wrap (2 ^ min i.toNat 64)) = sh := by have h_ := hji_; rw [Int.one_mul] at h_; exact h_
            have hjiv : i ≤ 64 → (IntKind.i64.wrap (2 ^ i.toNat)) = sh := fun hle_ => by have h_ := hjiz hle_; rw [Int.one_mul] at h_; exact h_
            have hjiy : (wrap64 (1 * 2 ^ min i.toNat 64)) = sh := (i64_w _).symm.trans hji_
            have hjix : i ≤ 64 → (wrap64 (1 * 2 ^ i.toNat)) = sh := fun h_ => (i64_w _).symm.trans (hjiz h_)
            obtain ⟨⟨tl, r1⟩, hl, h⟩ := Option.bind_eq_some_iff.mp h
            have A1 := Aside0.mk hl
            clear hq hs hsh hl
            cases tl with
            | none =>
              obtain ⟨rfl, rfl⟩ := Prod.mk.inj (Option.some.inj h)
              clear h
              go_enter Try.func31, Try.ntmps31
              go_wp2_with (first | ((with_reducible refine gate_dst (N := 13) rfl ?_); refine box_event ?hg (N := 13) ?hd (cs := #[.int .u8 (bt s 0), .pointer none, .pointer none]) (t := 51) ?hr ?_; (case hd => rfl); (case hg => rfl); (case hr => first | (go_simp; done) | (go_simp; rfl)); intro gb hg w1 hbox hb; have HB1 := Aside0.mk hb; have RK := Aside0.mk hbox; have GE := Aside0.mk (Nat.le_of_eq hg.symm); clear hg hbox hb; have k0 := (blk_cell RK.out 0).trans rfl; have k1 := (blk_cell RK.out 1).trans rfl; have k2 := (blk_cell RK.out 2).trans rfl; have f1 := blk_frozen RK.out 1; have f2 := blk_frozen RK.out 2) | (go_at_call 39; (with_reducible refine (impl_isLetter.calls (bt s 0) _ _ AL.out).mono ?_); rintro e w2 ⟨rfl, hd⟩; have HB2 := Aside0.mk (below_step HB1.out hd.below); have RK2 := Aside0.mk (blk_below RK.out hd.below); clear hd; have k0 := (blk_cell RK2.out 0).trans rfl; have k1 := (blk_cell RK2.out 1).trans rfl; have k2 := (blk_cell RK2.out 2).trans rfl; have f1 := blk_frozen RK2.out 1; have f2 := blk_frozen RK2.out 2) | (go_at_call 32; (with_reducible refine (impl_tree_variable.calls gb (bt s 0) _ _ _ RK2.out).mono ?_); rintro e w' ⟨rfl, rfl⟩) | (go_at_call 31; (with_reducible refine (IH.out _ _ none r1 _ A1.out).mono ?_); intro e w3 hp; obtain ⟨hb3, he3⟩ := hp; subst he3; have HB3 := Aside0.mk (below_step HB2.out hb3); have RK3 := Aside0.mk (blk_below RK2.out hb3); clear hb3; have k0 := (blk_cell RK3.out 0).trans rfl; have k1 := (blk_cell RK3.out 1).trans rfl; have k2 := (blk_cell RK3.out 2).trans rfl; have f1 := blk_frozen RK3.out 1; have f2 := blk_frozen RK3.out 2))
              go_ret2
              exact ⟨below_set HB3.out GE.out, rfl⟩
            | some tl =>
              obtain ⟨⟨tr, r2⟩, hr, h⟩ := Option.bind_eq_some_iff.mp h
              have A2 := Aside0.mk hr
              clear hr
              cases tr with
              | none =>
                obtain ⟨rfl, rfl⟩ := Prod.mk.inj (Option.some.inj h)
                clear h
                go_enter Try.func31, Try.ntmps31
                go_wp2_with (first | ((with_reducible refine gate_dst (N := 13) rfl ?_); refine box_event ?hg (N := 13) ?hd (cs := #[.int .u8 (bt s 0), .pointer none, .pointer none]) (t := 51) ?hr ?_; (case hd => rfl); (case hg => rfl); (case hr => first | (go_simp; done) | (go_simp; rfl)); intro gb hg w1 hbox hb; have HB1 := Aside0.mk hb; have RK := Aside0.mk hbox; have GE := Aside0.mk (Nat.le_of_eq hg.symm); clear hg hbox hb; have k0 := (blk_cell RK.out 0).trans rfl; have k1 := (blk_cell RK.out 1).trans rfl; have k2 := (blk_cell RK.out 2).trans rfl; have f1 := blk_frozen RK.out 1; have f2 := blk_frozen RK.out 2) | (go_at_call 39; (with_reducible refine (impl_isLetter.calls (bt s 0) _ _ AL.out).mono ?_); rintro e w2 ⟨rfl, hd⟩; have HB2 := Aside0.mk (below_step HB1.out hd.below); have RK2 := Aside0.mk (blk_below RK.out hd.below); clear hd; have k0 := (blk_cell RK2.out 0).trans rfl; have k1 := (blk_cell RK2.out 1).trans rfl; have k2 := (blk_cell RK2.out 2).trans rfl; have f1 := blk_frozen RK2.out 1; have f2 := blk_frozen RK2.out 2) | (go_at_call 32; (with_reducible refine (impl_tree_variable.calls gb (bt s 0) _ _ _ RK2.out).mono ?_); rintro e w' ⟨rfl, rfl⟩) | (go_at_call 31; (with_reducible refine (IH.out _ _ (some tl) r1 _ A1.out).mono ?_); intro e w3 hp; obtain ⟨hb3, bl, he3, hi3⟩ := hp; subst he3; have HB3 := Aside0.mk (below_step HB2.out hb3); have RK3 := Aside0.mk (blk_below RK2.out hb3); have IL3 := Aside0.mk hi3; have GL := Aside0.mk (blk_lt RK2.out); have HW := Aside0.mk (Nat.le_refl w2.heap.size); have HS3 := Aside0.mk hb3.size; clear hb3 hi3; have k0 := (blk_cell RK3.out 0).trans rfl; have k1 := (blk_cell RK3.out 1).trans rfl; have k2 := (blk_cell RK3.out 2).trans rfl; have f1 := blk_frozen RK3.out 1; have f2 := blk_frozen RK3.out 2) | (go_at_call 31; (with_reducible refine (IH.out _ _ none r2 _ A2.out).mono ?_); intro e w4 hp; obtain ⟨hb4, he4⟩ := hp; subst he4; have HB4 := Aside0.mk (below_step (below_set HB3.out GE.out) hb4); have RK4 := Aside0.mk (blk_below (blk_put (cs := #[.int .u8 (bt s 0), .pointer none, .pointer none]) RK3.out 1 (.pointer (some ⟨bl, 0, none⟩)) rfl) hb4); clear hb4; have k0 := (blk_cell RK4.out 0).trans rfl; have k1 := (blk_cell RK4.out 1).trans rfl; have k2 := (blk_cell RK4.out 2).trans rfl; have f1 := blk_frozen RK4.out 1; have f2 := blk_frozen RK4.out 2))
                go_ret2
                exact ⟨below_set HB4.out GE.out, rfl⟩
              | some tr =>
                obtain ⟨rfl, rfl⟩ := Prod.mk.inj (Option.some.inj h)
                clear h
                go_enter Try.func31, Try.ntmps31
                go_wp2_with (first | ((with_reducible refine gate_dst (N := 13) rfl ?_); refine box_event ?hg (N := 13) ?hd (cs := #[.int .u8 (bt s 0), .pointer none, .pointer none]) (t := 51) ?hr ?_; (case hd => rfl); (case hg => rfl); (case hr => first | (go_simp; done) | (go_simp; rfl)); intro gb hg w1 hbox hb; have HB1 := Aside0.mk hb; have RK := Aside0.mk hbox; have GE := Aside0.mk (Nat.le_of_eq hg.symm); clear hg hbox hb; have k0 := (blk_cell RK.out 0).trans rfl; have k1 := (blk_cell RK.out 1).trans rfl; have k2 := (blk_cell RK.out 2).trans rfl; have f1 := blk_frozen RK.out 1; have f2 := blk_frozen RK.out 2) | (go_at_call 39; (with_reducible refine (impl_isLetter.calls (bt s 0) _ _ AL.out).mono ?_); rintro e w2 ⟨rfl, hd⟩; have HB2 := Aside0.mk (below_step HB1.out hd.below); have RK2 := Aside0.mk (blk_below RK.out hd.below); clear hd; have k0 := (blk_cell RK2.out 0).trans rfl; have k1 := (blk_cell RK2.out 1).trans rfl; have k2 := (blk_cell RK2.out 2).trans rfl; have f1 := blk_frozen RK2.out 1; have f2 := blk_frozen RK2.out 2) | (go_at_call 32; (with_reducible refine (impl_tree_variable.calls gb (bt s 0) _ _ _ RK2.out).mono ?_); rintro e w' ⟨rfl, rfl⟩) | (go_at_call 31; (with_reducible refine (IH.out _ _ (some tl) r1 _ A1.out).mono ?_); intro e w3 hp; obtain ⟨hb3, bl, he3, hi3⟩ := hp; subst he3; have HB3 := Aside0.mk (below_step HB2.out hb3); have RK3 := Aside0.mk (blk_below RK2.out hb3); have IL3 := Aside0.mk hi3; have GL := Aside0.mk (blk_lt RK2.out); have HW := Aside0.mk (Nat.le_refl w2.heap.size); have HS3 := Aside0.mk hb3.size; clear hb3 hi3; have k0 := (blk_cell RK3.out 0).trans rfl; have k1 := (blk_cell RK3.out 1).trans rfl; have k2 := (blk_cell RK3.out 2).trans rfl; have f1 := blk_frozen RK3.out 1; have f2 := blk_frozen RK3.out 2) | (go_at_call 31; (with_reducible refine (IH.out _ _ (some tr) r2 _ A2.out).mono ?_); intro e w4 hp; obtain ⟨hb4, bh, he4, hi4⟩ := hp; subst he4; have HB4 := Aside0.mk (below_step (below_set HB3.out GE.out) hb4); have RK4 := Aside0.mk (blk_below (blk_put (cs := #[.int .u8 (bt s 0), .pointer none, .pointer none]) RK3.out 1 (.pointer (some ⟨bl, 0, none⟩)) rfl) hb4); have IL4 := Aside0.mk ((IL3.out.far GL.out (p := ⟨gb, 1, none⟩) (.pointer (some ⟨bl, 0, none⟩))).kept hb4); have IR4 := Aside0.mk hi4; have GR := Aside0.mk (show gb < (w3.setCell ⟨gb, 1, none⟩ (.pointer (some ⟨bl, 0, none⟩))).heap.size by have := GL.out; have := HS3.out; simp; omega); have HZ := Aside0.mk (show w.heap.size ≤ (w3.setCell ⟨gb, 1, none⟩ (.pointer (some ⟨bl, 0, none⟩))).heap.size by have := HB3.out.size; simp; omega); clear hb4 hi4; have k0 := (blk_cell RK4.out 0).trans rfl; have k1 := (blk_cell RK4.out 1).trans rfl; have k2 := (blk_cell RK4.out 2).trans rfl; have f1 := blk_frozen RK4.out 1; have f2 := blk_frozen RK4.out 2))
                go_ret2
                refine ⟨below_set HB4.out GE.out, gb, rfl, GE.out, bl, bh, blk_put (cs := #[.int .u8 (bt s 0), .pointer (some ⟨bl, 0, none⟩), .pointer none]) RK4.out 2 _ rfl, (IL4.out.far GL.out _).mono (Nat.le_trans HB2.out.size HW.out), (IR4.out.far GR.out _).mono HZ.out⟩

end Go.Proofs.Ytfpcgcmajdebmaa.P
