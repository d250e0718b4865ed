-- Out of the translation, by this session's program over the printer's; Lean checks it.
import Derived.Test.YtfpcgcmajdebmaaPx0
namespace Go.Proofs.Ytfpcgcmajdebmaa.P
open Go.RowKit Go.Proofs.YtfpcgcmajdebmaaW.PrintWords Go.Proofs.YtfpcgcmajdebmaaW.PrintLast Go.Proofs.YtfpcgcmajdebmaaW.PrintMore
attribute [local go_sem] max2_int min2_int max_two min_two max_three min_three max_four min_four   -- for this text's walks alone
set_option linter.unusedVariables false
set_option linter.unusedSimpArgs false

/-! ### impl_isLetter: function 39 -/
def impl_isLetter.f (a0 : Int) : Option (Bool) := if a0 ≥ 97 then (some (decide (a0 < 102))) else (some false)
set_option maxHeartbeats 8000000 in
set_option maxRecDepth 100000 in
theorem impl_isLetter.calls (a0 : Int) (r : Bool) (w : World) (h : impl_isLetter.f a0 = some r) :
    Calls Try.prog 39 #[.int .u8 a0] w fun e w' => e = .returned (.bool r) ∧ Drawn0 w w' := by
  have H : (if a0 ≥ 97 then (some (decide (a0 < 102))) else (some false)) = some r := h
  clear h
  by_cases c2 : a0 ≥ 97
  · rw [if_pos c2] at H
    have c2b0 : decide (97 ≤ a0) = true := decide_eq_true c2
    clear c2
    obtain rfl := Option.some.inj H
    go_enter Try.func39, Try.ntmps39
    go_wp2
    go_ret
    exact ⟨by first | rfl | (simp; done) | (simp [*]; done), by repeat (first | exact Drawn0.refl _ | apply Drawn0.step)⟩
  · rw [if_neg c2] at H
    have c2b0 : decide (97 ≤ a0) = false := decide_eq_false c2
    clear c2
    obtain rfl := Option.some.inj H
    go_enter Try.func39, Try.ntmps39
    go_wp2
    go_ret
    exact ⟨by first | rfl | (simp; done) | (simp [*]; done), by repeat (first | exact Drawn0.refl _ | apply Drawn0.step)⟩

/-! ### impl_readPart: function 37 -/
/-- A formula as it was read. -/
inductive impl_readPart.T where
  | leaf (c : Int) : impl_readPart.T
  | un (c : Int) (l : impl_readPart.T) : impl_readPart.T
  | bin (c : Int) (l h : impl_readPart.T) : impl_readPart.T
/-- The formula lies in w at block b; all its blocks lie from base on. -/
def impl_readPart.In (base : Nat) : impl_readPart.T → Nat → World → Prop
  | .leaf c, b, w => base ≤ b ∧ w.heap[b]? = some (.cells #[.int .u8 c, .pointer none, .pointer none] 58 (0, 0))
  | .un c l, b, w => base ≤ b ∧ ∃ bl, w.heap[b]? = some (.cells #[.int .u8 c, .pointer (some ⟨bl, 0, none⟩), .pointer none] 58 (0, 0)) ∧ impl_readPart.In base l bl w
  | .bin c l h, b, w => base ≤ b ∧ ∃ bl bh, w.heap[b]? = some (.cells #[.int .u8 c, .pointer (some ⟨bl, 0, none⟩), .pointer (some ⟨bh, 0, none⟩)] 58 (0, 0)) ∧ impl_readPart.In base l bl w ∧ impl_readPart.In base h bh w
theorem impl_readPart.In.kept {base : Nat} {w w' : World} (hb : Below w.heap.size w w') : ∀ {t : impl_readPart.T} {b : Nat}, impl_readPart.In base t b w → impl_readPart.In base t b w'
  | .leaf c, b, h => ⟨h.1, blk_below h.2 hb⟩
  | .un c l, b, h => by
    obtain ⟨h0, bl, h1, h2⟩ := h
    exact ⟨h0, bl, blk_below h1 hb, impl_readPart.In.kept hb h2⟩
  | .bin c l r, b, h => by
    obtain ⟨h0, bl, br, h1, h2, h3⟩ := h
    exact ⟨h0, bl, br, blk_below h1 hb, impl_readPart.In.kept hb h2, impl_readPart.In.kept hb h3⟩
theorem impl_readPart.In.mono {base base' : Nat} {w : World} (hb : base' ≤ base) : ∀ {t : impl_readPart.T} {b : Nat}, impl_readPart.In base t b w → impl_readPart.In base' t b w
  | .leaf c, b, h => ⟨Nat.le_trans hb h.1, h.2⟩
  | .un c l, b, h => by
    obtain ⟨h0, bl, h1, h2⟩ := h
    exact ⟨Nat.le_trans hb h0, bl, h1, impl_readPart.In.mono hb h2⟩
  | .bin c l r, b, h => by
    obtain ⟨h0, bl, br, h1, h2, h3⟩ := h
    exact ⟨Nat.le_trans hb h0, bl, br, h1, impl_readPart.In.mono hb h2, impl_readPart.In.mono hb h3⟩
theorem impl_readPart.In.far {base : Nat} {w : World} {p : Addr} (hp : p.block < base) (u : Value) : ∀ {t : impl_readPart.T} {b : Nat}, impl_readPart.In base t b w → impl_readPart.In base t b (w.setCell p u)
  | .leaf c, b, h => ⟨h.1, blk_far h.2 (by have := h.1; omega) u⟩
  | .un c l, b, h => by
    obtain ⟨h0, bl, h1, h2⟩ := h
    exact ⟨h0, bl, blk_far h1 (by omega) u, impl_readPart.In.far hp u h2⟩
  | .bin c l r, b, h => by
    obtain ⟨h0, bl, br, h1, h2, h3⟩ := h
    exact ⟨h0, bl, br, blk_far h1 (by omega) u, impl_readPart.In.far hp u h2, impl_readPart.In.far hp u h3⟩
def impl_readPart.f : Nat → ByteArray → Option (Option impl_readPart.T × ByteArray)
  | 0, _ => none
  | k + 1, s => if s.size = 0 then some (none, ⟨#[]⟩) else
    (impl_isLetter.f (bt s 0)).bind fun b => if b = true then some (some (.leaf (bt s 0)), s.extract 1 s.size) else if bt s 0 = 48 then some (some (.leaf (bt s 0)), s.extract 1 s.size) else if bt s 0 = 49 then some (some (.leaf (bt s 0)), s.extract 1 s.size) else
      if bt s 0 = 33 then (impl_readPart.f k (s.extract 1 s.size)).bind fun p => match p.1 with
        | none => some (none, ⟨#[]⟩)
        | some l => some (some (.un (bt s 0) l), p.2)
      else if bt s 0 = 38 ∨ bt s 0 = 124 ∨ bt s 0 = 94 then (impl_readPart.f k (s.extract 1 s.size)).bind fun p => match p.1 with
        | none => some (none, ⟨#[]⟩)
        | some l => (impl_readPart.f k p.2).bind fun q => match q.1 with
          | none => some (none, ⟨#[]⟩)
          | some h => some (some (.bin (bt s 0) l h), q.2)
      else some (none, ⟨#[]⟩)
def impl_readPart.Post (t : Option impl_readPart.T) (rest : ByteArray) (w : World) (e : Ending) (w' : World) : Prop :=
  Below w.heap.size w w' ∧ match t with
    | none => e = .returned (.tuple #[.pointer none, .string rest])
    | some t => ∃ b, e = .returned (.tuple #[.pointer (some ⟨b, 0, none⟩), .string rest]) ∧ impl_readPart.In w.heap.size t b w'
theorem impl_readPart.empty {s : ByteArray} (h : s.size = 0) : s.toList.isEmpty = true := by
  rw [Go.ByteArray.toList_eq, List.isEmpty_iff, ← List.length_eq_zero_iff, Array.length_toList]
  exact h
theorem impl_readPart.some_ {s : ByteArray} (h : ¬ s.size = 0) : s.toList.isEmpty = false := by
  rw [Bool.eq_false_iff]
  intro e
  rw [Go.ByteArray.toList_eq, List.isEmpty_iff, ← List.length_eq_zero_iff, Array.length_toList] at e
  exact h e
theorem impl_readPart.no {a b : Int} (h : ¬ a = b) : (a == b) = false := by rw [beq_eq_false_iff_ne]; exact h
set_option maxHeartbeats 16000000 in
set_option maxRecDepth 100000 in
theorem impl_readPart.calls : ∀ (k : Nat) (s : ByteArray) (t : Option impl_readPart.T) (rest : ByteArray) (w : World), impl_readPart.f k s = some (t, rest) →
    Calls Try.prog 37 #[.string s] w (impl_readPart.Post t rest w) := by
  intro k
  induction k with
  | zero => intro s t rest w h; simp [impl_readPart.f] at h
  | succ k ih =>
    intro s t rest w h
    have IH := Aside0.mk ih
    have hu := Try.underlying58
    rw [impl_readPart.f] at h
    clear ih
    by_cases h0 : s.size = 0
    · rw [if_pos h0] at h
      obtain ⟨rfl, rfl⟩ := Prod.mk.inj (Option.some.inj h)
      have he := impl_readPart.empty h0
      clear h h0
      go_enter Try.func37, Try.ntmps37
      go_wp2_with fail
      go_ret2
      exact ⟨Below.refl _ _, rfl⟩
    · rw [if_neg h0] at h
      have he := impl_readPart.some_ h0
      have hsz : 0 < s.size := Nat.pos_of_ne_zero h0
      have hx : ((s[0]'hsz).toNat : Int) = bt s 0 := bt_at s 0 hsz
      have hbr := bt_range s 0
      have p0 : 0 ≤ (0 : Int) := Int.le_refl 0
      have HR := Aside0.mk hbr
      obtain ⟨b, hl, h⟩ := Option.bind_eq_some_iff.mp h
      have AL := Aside0.mk hl
      clear h0 hl hbr
      cases b with
      | true =>
        rw [if_pos rfl] at h
        obtain ⟨rfl, rfl⟩ := Prod.mk.inj (Option.some.inj h)
        clear h
        go_enter Try.func37, Try.ntmps37
        go_wp2_with (first | ((with_reducible refine gate_dst (N := 11) rfl ?_); refine box_event ?hg (N := 11) ?hd (cs := #[.int .u8 (bt s 0), .pointer none, .pointer none]) (t := 58) ?hr ?_; (case hd => rfl); (case hg => rfl); (case hr => first | (go_simp; done) | (go_simp; rfl)); intro gb hg w1 hbox hb; have HB1 := Aside0.mk hb; have RK := Aside0.mk hbox; have GE := Aside0.mk (Nat.le_of_eq hg.symm); clear hg hbox hb; have k0 := (blk_cell RK.out 0).trans rfl; have k1 := (blk_cell RK.out 1).trans rfl; have k2 := (blk_cell RK.out 2).trans rfl; have f1 := blk_frozen RK.out 1; have f2 := blk_frozen RK.out 2) | (go_at_call 39; (with_reducible refine (impl_isLetter.calls (bt s 0) _ _ AL.out).mono ?_); rintro e w2 ⟨rfl, hd⟩; have HB2 := Aside0.mk (below_step HB1.out hd.below); have RK2 := Aside0.mk (blk_below RK.out hd.below); clear hd; have k0 := (blk_cell RK2.out 0).trans rfl; have k1 := (blk_cell RK2.out 1).trans rfl; have k2 := (blk_cell RK2.out 2).trans rfl; have f1 := blk_frozen RK2.out 1; have f2 := blk_frozen RK2.out 2))
        go_ret2
        exact ⟨HB2.out, gb, rfl, GE.out, RK2.out⟩
      | false =>
        rw [if_neg (by decide)] at h
        by_cases h48 : bt s 0 = 48
        · rw [if_pos h48] at h
          have e48 : (bt s 0 == 48) = true := beq_iff_eq.mpr h48
          clear h48
          obtain ⟨rfl, rfl⟩ := Prod.mk.inj (Option.some.inj h)
          clear h
          go_enter Try.func37, Try.ntmps37
          go_wp2_with (first | ((with_reducible refine gate_dst (N := 11) rfl ?_); refine box_event ?hg (N := 11) ?hd (cs := #[.int .u8 (bt s 0), .pointer none, .pointer none]) (t := 58) ?hr ?_; (case hd => rfl); (case hg => rfl); (case hr => first | (go_simp; done) | (go_simp; rfl)); intro gb hg w1 hbox hb; have HB1 := Aside0.mk hb; have RK := Aside0.mk hbox; have GE := Aside0.mk (Nat.le_of_eq hg.symm); clear hg hbox hb; have k0 := (blk_cell RK.out 0).trans rfl; have k1 := (blk_cell RK.out 1).trans rfl; have k2 := (blk_cell RK.out 2).trans rfl; have f1 := blk_frozen RK.out 1; have f2 := blk_frozen RK.out 2) | (go_at_call 39; (with_reducible refine (impl_isLetter.calls (bt s 0) _ _ AL.out).mono ?_); rintro e w2 ⟨rfl, hd⟩; have HB2 := Aside0.mk (below_step HB1.out hd.below); have RK2 := Aside0.mk (blk_below RK.out hd.below); clear hd; have k0 := (blk_cell RK2.out 0).trans rfl; have k1 := (blk_cell RK2.out 1).trans rfl; have k2 := (blk_cell RK2.out 2).trans rfl; have f1 := blk_frozen RK2.out 1; have f2 := blk_frozen RK2.out 2))
          go_ret2
          exact ⟨HB2.out, gb, rfl, GE.out, RK2.out⟩
        rw [if_neg h48] at h
        have e48 : (bt s 0 == 48) = false := impl_readPart.no h48
        clear h48
        by_cases h49 : bt s 0 = 49
        · rw [if_pos h49] at h
          have e49 : (bt s 0 == 49) = true := beq_iff_eq.mpr h49
          clear h49
          obtain ⟨rfl, rfl⟩ := Prod.mk.inj (Option.some.inj h)
          clear h
          go_enter Try.func37, Try.ntmps37
          go_wp2_with (first | ((with_reducible refine gate_dst (N := 11) rfl ?_); refine box_event ?hg (N := 11) ?hd (cs := #[.int .u8 (bt s 0), .pointer none, .pointer none]) (t := 58) ?hr ?_; (case hd => rfl); (case hg => rfl); (case hr => first | (go_simp; done) | (go_simp; rfl)); intro gb hg w1 hbox hb; have HB1 := Aside0.mk hb; have RK := Aside0.mk hbox; have GE := Aside0.mk (Nat.le_of_eq hg.symm); clear hg hbox hb; have k0 := (blk_cell RK.out 0).trans rfl; have k1 := (blk_cell RK.out 1).trans rfl; have k2 := (blk_cell RK.out 2).trans rfl; have f1 := blk_frozen RK.out 1; have f2 := blk_frozen RK.out 2) | (go_at_call 39; (with_reducible refine (impl_isLetter.calls (bt s 0) _ _ AL.out).mono ?_); rintro e w2 ⟨rfl, hd⟩; have HB2 := Aside0.mk (below_step HB1.out hd.below); have RK2 := Aside0.mk (blk_below RK.out hd.below); clear hd; have k0 := (blk_cell RK2.out 0).trans rfl; have k1 := (blk_cell RK2.out 1).trans rfl; have k2 := (blk_cell RK2.out 2).trans rfl; have f1 := blk_frozen RK2.out 1; have f2 := blk_frozen RK2.out 2))
          go_ret2
          exact ⟨HB2.out, gb, rfl, GE.out, RK2.out⟩
        rw [if_neg h49] at h
        have e49 : (bt s 0 == 49) = false := impl_readPart.no h49
        clear h49
        by_cases h33 : bt s 0 = 33
        · rw [if_pos h33] at h
          have e33 : (bt s 0 == 33) = true := beq_iff_eq.mpr h33
          clear h33
          obtain ⟨⟨tl, r1⟩, hl, h⟩ := Option.bind_eq_some_iff.mp h
          have A1 := Aside0.mk hl
          clear hl
          cases tl with
          | none =>
            obtain ⟨rfl, rfl⟩ := Prod.mk.inj (Option.some.inj h)
            clear h
            go_enter Try.func37, Try.ntmps37
            go_wp2_with (first | ((with_reducible refine gate_dst (N := 11) rfl ?_); refine box_event ?hg (N := 11) ?hd (cs := #[.int .u8 (bt s 0), .pointer none, .pointer none]) (t := 58) ?hr ?_; (case hd => rfl); (case hg => rfl); (case hr => first | (go_simp; done) | (go_simp; rfl)); intro gb hg w1 hbox hb; have HB1 := Aside0.mk hb; have RK := Aside0.mk hbox; have GE := Aside0.mk (Nat.le_of_eq hg.symm); clear hg hbox hb; have k0 := (blk_cell RK.out 0).trans rfl; have k1 := (blk_cell RK.out 1).trans rfl; have k2 := (blk_cell RK.out 2).trans rfl; have f1 := blk_frozen RK.out 1; have f2 := blk_frozen RK.out 2) | (go_at_call 39; (with_reducible refine (impl_isLetter.calls (bt s 0) _ _ AL.out).mono ?_); rintro e w2 ⟨rfl, hd⟩; have HB2 := Aside0.mk (below_step HB1.out hd.below); have RK2 := Aside0.mk (blk_below RK.out hd.below); clear hd; have k0 := (blk_cell RK2.out 0).trans rfl; have k1 := (blk_cell RK2.out 1).trans rfl; have k2 := (blk_cell RK2.out 2).trans rfl; have f1 := blk_frozen RK2.out 1; have f2 := blk_frozen RK2.out 2) | (go_at_call 37; (with_reducible refine (IH.out _ none r1 _ A1.out).mono ?_); intro e w3 hp; obtain ⟨hb3, he3⟩ := hp; subst he3; have HB3 := Aside0.mk (below_step HB2.out hb3); have RK3 := Aside0.mk (blk_below RK2.out hb3); clear hb3; have k0 := (blk_cell RK3.out 0).trans rfl; have k1 := (blk_cell RK3.out 1).trans rfl; have k2 := (blk_cell RK3.out 2).trans rfl; have f1 := blk_frozen RK3.out 1; have f2 := blk_frozen RK3.out 2))
            go_ret2
            exact ⟨below_set HB3.out GE.out, rfl⟩
          | some tl =>
            obtain ⟨rfl, rfl⟩ := Prod.mk.inj (Option.some.inj h)
            clear h
            go_enter Try.func37, Try.ntmps37
            go_wp2_with (first | ((with_reducible refine gate_dst (N := 11) rfl ?_); refine box_event ?hg (N := 11) ?hd (cs := #[.int .u8 (bt s 0), .pointer none, .pointer none]) (t := 58) ?hr ?_; (case hd => rfl); (case hg => rfl); (case hr => first | (go_simp; done) | (go_simp; rfl)); intro gb hg w1 hbox hb; have HB1 := Aside0.mk hb; have RK := Aside0.mk hbox; have GE := Aside0.mk (Nat.le_of_eq hg.symm); clear hg hbox hb; have k0 := (blk_cell RK.out 0).trans rfl; have k1 := (blk_cell RK.out 1).trans rfl; have k2 := (blk_cell RK.out 2).trans rfl; have f1 := blk_frozen RK.out 1; have f2 := blk_frozen RK.out 2) | (go_at_call 39; (with_reducible refine (impl_isLetter.calls (bt s 0) _ _ AL.out).mono ?_); rintro e w2 ⟨rfl, hd⟩; have HB2 := Aside0.mk (below_step HB1.out hd.below); have RK2 := Aside0.mk (blk_below RK.out hd.below); clear hd; have k0 := (blk_cell RK2.out 0).trans rfl; have k1 := (blk_cell RK2.out 1).trans rfl; have k2 := (blk_cell RK2.out 2).trans rfl; have f1 := blk_frozen RK2.out 1; have f2 := blk_frozen RK2.out 2) | (go_at_call 37; (with_reducible refine (IH.out _ (some tl) r1 _ A1.out).mono ?_); intro e w3 hp; obtain ⟨hb3, bl, he3, hi3⟩ := hp; subst he3; have HB3 := Aside0.mk (below_step HB2.out hb3); have RK3 := Aside0.mk (blk_below RK2.out hb3); have IL3 := Aside0.mk hi3; have GL := Aside0.mk (blk_lt RK2.out); have HW := Aside0.mk (Nat.le_refl w2.heap.size); have HS3 := Aside0.mk hb3.size; clear hb3 hi3; have k0 := (blk_cell RK3.out 0).trans rfl; have k1 := (blk_cell RK3.out 1).trans rfl; have k2 := (blk_cell RK3.out 2).trans rfl; have f1 := blk_frozen RK3.out 1; have f2 := blk_frozen RK3.out 2))
            go_ret2
            exact ⟨below_set HB3.out GE.out, gb, rfl, GE.out, bl, blk_put (cs := #[.int .u8 (bt s 0), .pointer none, .pointer none]) RK3.out 1 _ rfl, (IL3.out.far GL.out _).mono HB2.out.size⟩
        rw [if_neg h33] at h
        have e33 : (bt s 0 == 33) = false := impl_readPart.no h33
        clear h33
        by_cases hb3 : bt s 0 = 38 ∨ bt s 0 = 124 ∨ bt s 0 = 94
        · rw [if_pos hb3] at h
          obtain ⟨⟨tl, r1⟩, hl, h⟩ := Option.bind_eq_some_iff.mp h
          have A1 := Aside0.mk hl
          clear hl
          rcases hb3 with hc | hc | hc
          · have e38 : (bt s 0 == 38) = true := beq_iff_eq.mpr hc
            clear hc
            cases tl with
            | none =>
              obtain ⟨rfl, rfl⟩ := Prod.mk.inj (Option.some.inj h)
              clear h
              go_enter Try.func37, Try.ntmps37
              go_wp2_with (first | ((with_reducible refine gate_dst (N := 11) rfl ?_); refine box_event ?hg (N := 11) ?hd (cs := #[.int .u8 (bt s 0), .pointer none, .pointer none]) (t := 58) ?hr ?_; (case hd => rfl); (case hg => rfl); (case hr => first | (go_simp; done) | (go_simp; rfl)); intro gb hg w1 hbox hb; have HB1 := Aside0.mk hb; have RK := Aside0.mk hbox; have GE := Aside0.mk (Nat.le_of_eq hg.symm); clear hg hbox hb; have k0 := (blk_cell RK.out 0).trans rfl; have k1 := (blk_cell RK.out 1).trans rfl; have k2 := (blk_cell RK.out 2).trans rfl; have f1 := blk_frozen RK.out 1; have f2 := blk_frozen RK.out 2) | (go_at_call 39; (with_reducible refine (impl_isLetter.calls (bt s 0) _ _ AL.out).mono ?_); rintro e w2 ⟨rfl, hd⟩; have HB2 := Aside0.mk (below_step HB1.out hd.below); have RK2 := Aside0.mk (blk_below RK.out hd.below); clear hd; have k0 := (blk_cell RK2.out 0).trans rfl; have k1 := (blk_cell RK2.out 1).trans rfl; have k2 := (blk_cell RK2.out 2).trans rfl; have f1 := blk_frozen RK2.out 1; have f2 := blk_frozen RK2.out 2) | (go_at_call 37; (with_reducible refine (IH.out _ none r1 _ A1.out).mono ?_); intro e w3 hp; obtain ⟨hb3, he3⟩ := hp; subst he3; have HB3 := Aside0.mk (below_step HB2.out hb3); have RK3 := Aside0.mk (blk_below RK2.out hb3); clear hb3; have k0 := (blk_cell RK3.out 0).trans rfl; have k1 := (blk_cell RK3.out 1).trans rfl; have k2 := (blk_cell RK3.out 2).trans rfl; have f1 := blk_frozen RK3.out 1; have f2 := blk_frozen RK3.out 2))
              go_ret2
              exact ⟨below_set HB3.out GE.out, rfl⟩
            | some tl =>
              obtain ⟨⟨tr, r2⟩, hr, h⟩ := Option.bind_eq_some_iff.mp h
              have A2 := Aside0.mk hr
              clear hr
              cases tr with
              | none =>
                obtain ⟨rfl, rfl⟩ := Prod.mk.inj (Option.some.inj h)
                clear h
                go_enter Try.func37, Try.ntmps37
                go_wp2_with (first | ((with_reducible refine gate_dst (N := 11) rfl ?_); refine box_event ?hg (N := 11) ?hd (cs := #[.int .u8 (bt s 0), .pointer none, .pointer none]) (t := 58) ?hr ?_; (case hd => rfl); (case hg => rfl); (case hr => first | (go_simp; done) | (go_simp; rfl)); intro gb hg w1 hbox hb; have HB1 := Aside0.mk hb; have RK := Aside0.mk hbox; have GE := Aside0.mk (Nat.le_of_eq hg.symm); clear hg hbox hb; have k0 := (blk_cell RK.out 0).trans rfl; have k1 := (blk_cell RK.out 1).trans rfl; have k2 := (blk_cell RK.out 2).trans rfl; have f1 := blk_frozen RK.out 1; have f2 := blk_frozen RK.out 2) | (go_at_call 39; (with_reducible refine (impl_isLetter.calls (bt s 0) _ _ AL.out).mono ?_); rintro e w2 ⟨rfl, hd⟩; have HB2 := Aside0.mk (below_step HB1.out hd.below); have RK2 := Aside0.mk (blk_below RK.out hd.below); clear hd; have k0 := (blk_cell RK2.out 0).trans rfl; have k1 := (blk_cell RK2.out 1).trans rfl; have k2 := (blk_cell RK2.out 2).trans rfl; have f1 := blk_frozen RK2.out 1; have f2 := blk_frozen RK2.out 2) | (go_at_call 37; (with_reducible refine (IH.out _ (some tl) r1 _ A1.out).mono ?_); intro e w3 hp; obtain ⟨hb3, bl, he3, hi3⟩ := hp; subst he3; have HB3 := Aside0.mk (below_step HB2.out hb3); have RK3 := Aside0.mk (blk_below RK2.out hb3); have IL3 := Aside0.mk hi3; have GL := Aside0.mk (blk_lt RK2.out); have HW := Aside0.mk (Nat.le_refl w2.heap.size); have HS3 := Aside0.mk hb3.size; clear hb3 hi3; have k0 := (blk_cell RK3.out 0).trans rfl; have k1 := (blk_cell RK3.out 1).trans rfl; have k2 := (blk_cell RK3.out 2).trans rfl; have f1 := blk_frozen RK3.out 1; have f2 := blk_frozen RK3.out 2) | (go_at_call 37; (with_reducible refine (IH.out _ none r2 _ A2.out).mono ?_); intro e w4 hp; obtain ⟨hb4, he4⟩ := hp; subst he4; have HB4 := Aside0.mk (below_step (below_set HB3.out GE.out) hb4); have RK4 := Aside0.mk (blk_below (blk_put (cs := #[.int .u8 (bt s 0), .pointer none, .pointer none]) RK3.out 1 (.pointer (some ⟨bl, 0, none⟩)) rfl) hb4); clear hb4; have k0 := (blk_cell RK4.out 0).trans rfl; have k1 := (blk_cell RK4.out 1).trans rfl; have k2 := (blk_cell RK4.out 2).trans rfl; have f1 := blk_frozen RK4.out 1; have f2 := blk_frozen RK4.out 2))
                go_ret2
                exact ⟨below_set HB4.out GE.out, rfl⟩
              | some tr =>
                obtain ⟨rfl, rfl⟩ := Prod.mk.inj (Option.some.inj h)
                clear h
                go_enter Try.func37, Try.ntmps37
                go_wp2_with (first | ((with_reducible refine gate_dst (N := 11) rfl ?_); refine box_event ?hg (N := 11) ?hd (cs := #[.int .u8 (bt s 0), .pointer none, .pointer none]) (t := 58) ?hr ?_; (case hd => rfl); (case hg => rfl); (case hr => first | (go_simp; done) | (go_simp; rfl)); intro gb hg w1 hbox hb; have HB1 := Aside0.mk hb; have RK := Aside0.mk hbox; have GE := Aside0.mk (Nat.le_of_eq hg.symm); clear hg hbox hb; have k0 := (blk_cell RK.out 0).trans rfl; have k1 := (blk_cell RK.out 1).trans rfl; have k2 := (blk_cell RK.out 2).trans rfl; have f1 := blk_frozen RK.out 1; have f2 := blk_frozen RK.out 2) | (go_at_call 39; (with_reducible refine (impl_isLetter.calls (bt s 0) _ _ AL.out).mono ?_); rintro e w2 ⟨rfl, hd⟩; have HB2 := Aside0.mk (below_step HB1.out hd.below); have RK2 := Aside0.mk (blk_below RK.out hd.below); clear hd; have k0 := (blk_cell RK2.out 0).trans rfl; have k1 := (blk_cell RK2.out 1).trans rfl; have k2 := (blk_cell RK2.out 2).trans rfl; have f1 := blk_frozen RK2.out 1; have f2 := blk_frozen RK2.out 2) | (go_at_call 37; (with_reducible refine (IH.out _ (some tl) r1 _ A1.out).mono ?_); intro e w3 hp; obtain ⟨hb3, bl, he3, hi3⟩ := hp; subst he3; have HB3 := Aside0.mk (below_step HB2.out hb3); have RK3 := Aside0.mk (blk_below RK2.out hb3); have IL3 := Aside0.mk hi3; have GL := Aside0.mk (blk_lt RK2.out); have HW := Aside0.mk (Nat.le_refl w2.heap.size); have HS3 := Aside0.mk hb3.size; clear hb3 hi3; have k0 := (blk_cell RK3.out 0).trans rfl; have k1 := (blk_cell RK3.out 1).trans rfl; have k2 := (blk_cell RK3.out 2).trans rfl; have f1 := blk_frozen RK3.out 1; have f2 := blk_frozen RK3.out 2) | (go_at_call 37; (with_reducible refine (IH.out _ (some tr) r2 _ A2.out).mono ?_); intro e w4 hp; obtain ⟨hb4, bh, he4, hi4⟩ := hp; subst he4; have HB4 := Aside0.mk (below_step (below_set HB3.out GE.out) hb4); have RK4 := Aside0.mk (blk_below (blk_put (cs := #[.int .u8 (bt s 0), .pointer none, .pointer none]) RK3.out 1 (.pointer (some ⟨bl, 0, none⟩)) rfl) hb4); have IL4 := Aside0.mk ((IL3.out.far GL.out (p := ⟨gb, 1, none⟩) (.pointer (some ⟨bl, 0, none⟩))).kept hb4); have IR4 := Aside0.mk hi4; have GR := Aside0.mk (show gb < (w3.setCell ⟨gb, 1, none⟩ (.pointer (some ⟨bl, 0, none⟩))).heap.size by have := GL.out; have := HS3.out; simp; omega); have HZ := Aside0.mk (show w.heap.size ≤ (w3.setCell ⟨gb, 1, none⟩ (.pointer (some ⟨bl, 0, none⟩))).heap.size by have := HB3.out.size; simp; omega); clear hb4 hi4; have k0 := (blk_cell RK4.out 0).trans rfl; have k1 := (blk_cell RK4.out 1).trans rfl; have k2 := (blk_cell RK4.out 2).trans rfl; have f1 := blk_frozen RK4.out 1; have f2 := blk_frozen RK4.out 2))
                go_ret2
                exact ⟨below_set HB4.out GE.out, gb, rfl, GE.out, bl, bh, blk_put (cs := #[.int .u8 (bt s 0), .pointer (some ⟨bl, 0, none⟩), .pointer none]) RK4.out 2 _ rfl, (IL4.out.far GL.out _).mono (Nat.le_trans HB2.out.size HW.out), (IR4.out.far GR.out _).mono HZ.out⟩
          · have e124 : (bt s 0 == 124) = true := beq_iff_eq.mpr hc
            have e38 : (bt s 0 == 38) = false := impl_readPart.no (by rw [hc]; decide)
            clear hc
            cases tl with
            | none =>
              obtain ⟨rfl, rfl⟩ := Prod.mk.inj (Option.some.inj h)
              clear h
              go_enter Try.func37, Try.ntmps37
              go_wp2_with (first | ((with_reducible refine gate_dst (N := 11) rfl ?_); refine box_event ?hg (N := 11) ?hd (cs := #[.int .u8 (bt s 0), .pointer none, .pointer none]) (t := 58) ?hr ?_; (case hd => rfl); (case hg => rfl); (case hr => first | (go_simp; done) | (go_simp; rfl)); intro gb hg w1 hbox hb; have HB1 := Aside0.mk hb; have RK := Aside0.mk hbox; have GE := Aside0.mk (Nat.le_of_eq hg.symm); clear hg hbox hb; have k0 := (blk_cell RK.out 0).trans rfl; have k1 := (blk_cell RK.out 1).trans rfl; have k2 := (blk_cell RK.out 2).trans rfl; have f1 := blk_frozen RK.out 1; have f2 := blk_frozen RK.out 2) | (go_at_call 39; (with_reducible refine (impl_isLetter.calls (bt s 0) _ _ AL.out).mono ?_); rintro e w2 ⟨rfl, hd⟩; have HB2 := Aside0.mk (below_step HB1.out hd.below); have RK2 := Aside0.mk (blk_below RK.out hd.below); clear hd; have k0 := (blk_cell RK2.out 0).trans rfl; have k1 := (blk_cell RK2.out 1).trans rfl; have k2 := (blk_cell RK2.out 2).trans rfl; have f1 := blk_frozen RK2.out 1; have f2 := blk_frozen RK2.out 2) | (go_at_call 37; (with_reducible refine (IH.out _ none r1 _ A1.out).mono ?_); intro e w3 hp; obtain ⟨hb3, he3⟩ := hp; subst he3; have HB3 := Aside0.mk (below_step HB2.out hb3); have RK3 := Aside0.mk (blk_below RK2.out hb3); clear hb3; have k0 := (blk_cell RK3.out 0).trans rfl; have k1 := (blk_cell RK3.out 1).trans rfl; have k2 := (blk_cell RK3.out 2).trans rfl; have f1 := blk_frozen RK3.out 1; have f2 := blk_frozen RK3.out 2))
              go_ret2
              exact ⟨below_set HB3.out GE.out, rfl⟩
            | some tl =>
              obtain ⟨⟨tr, r2⟩, hr, h⟩ := Option.bind_eq_some_iff.mp h
              have A2 := Aside0.mk hr
              clear hr
              cases tr with
              | none =>
                obtain ⟨rfl, rfl⟩ := Prod.mk.inj (Option.some.inj h)
                clear h
                go_enter Try.func37, Try.ntmps37
                go_wp2_with (first | ((with_reducible refine gate_dst (N := 11) rfl ?_); refine box_event ?hg (N := 11) ?hd (cs := #[.int .u8 (bt s 0), .pointer none, .pointer none]) (t := 58) ?hr ?_; (case hd => rfl); (case hg => rfl); (case hr => first | (go_simp; done) | (go_simp; rfl)); intro gb hg w1 hbox hb; have HB1 := Aside0.mk hb; have RK := Aside0.mk hbox; have GE := Aside0.mk (Nat.le_of_eq hg.symm); clear hg hbox hb; have k0 := (blk_cell RK.out 0).trans rfl; have k1 := (blk_cell RK.out 1).trans rfl; have k2 := (blk_cell RK.out 2).trans rfl; have f1 := blk_frozen RK.out 1; have f2 := blk_frozen RK.out 2) | (go_at_call 39; (with_reducible refine (impl_isLetter.calls (bt s 0) _ _ AL.out).mono ?_); rintro e w2 ⟨rfl, hd⟩; have HB2 := Aside0.mk (below_step HB1.out hd.below); have RK2 := Aside0.mk (blk_below RK.out hd.below); clear hd; have k0 := (blk_cell RK2.out 0).trans rfl; have k1 := (blk_cell RK2.out 1).trans rfl; have k2 := (blk_cell RK2.out 2).trans rfl; have f1 := blk_frozen RK2.out 1; have f2 := blk_frozen RK2.out 2) | (go_at_call 37; (with_reducible refine (IH.out _ (some tl) r1 _ A1.out).mono ?_); intro e w3 hp; obtain ⟨hb3, bl, he3, hi3⟩ := hp; subst he3; have HB3 := Aside0.mk (below_step HB2.out hb3); have RK3 := Aside0.mk (blk_below RK2.out hb3); have IL3 := Aside0.mk hi3; have GL := Aside0.mk (blk_lt RK2.out); have HW := Aside0.mk (Nat.le_refl w2.heap.size); have HS3 := Aside0.mk hb3.size; clear hb3 hi3; have k0 := (blk_cell RK3.out 0).trans rfl; have k1 := (blk_cell RK3.out 1).trans rfl; have k2 := (blk_cell RK3.out 2).trans rfl; have f1 := blk_frozen RK3.out 1; have f2 := blk_frozen RK3.out 2) | (go_at_call 37; (with_reducible refine (IH.out _ none r2 _ A2.out).mono ?_); intro e w4 hp; obtain ⟨hb4, he4⟩ := hp; subst he4; have HB4 := Aside0.mk (below_step (below_set HB3.out GE.out) hb4); have RK4 := Aside0.mk (blk_below (blk_put (cs := #[.int .u8 (bt s 0), .pointer none, .pointer none]) RK3.out 1 (.pointer (some ⟨bl, 0, none⟩)) rfl) hb4); clear hb4; have k0 := (blk_cell RK4.out 0).trans rfl; have k1 := (blk_cell RK4.out 1).trans rfl; have k2 := (blk_cell RK4.out 2).trans rfl; have f1 := blk_frozen RK4.out 1; have f2 := blk_frozen RK4.out 2))
                go_ret2
                exact ⟨below_set HB4.out GE.out, rfl⟩
              | some tr =>
                obtain ⟨rfl, rfl⟩ := Prod.mk.inj (Option.some.inj h)
                clear h
                go_enter Try.func37, Try.ntmps37
                go_wp2_with (first | ((with_reducible refine gate_dst (N := 11) rfl ?_); refine box_event ?hg (N := 11) ?hd (cs := #[.int .u8 (bt s 0), .pointer none, .pointer none]) (t := 58) ?hr ?_; (case hd => rfl); (case hg => rfl); (case hr => first | (go_simp; done) | (go_simp; rfl)); intro gb hg w1 hbox hb; have HB1 := Aside0.mk hb; have RK := Aside0.mk hbox; have GE := Aside0.mk (Nat.le_of_eq hg.symm); clear hg hbox hb; have k0 := (blk_cell RK.out 0).trans rfl; have k1 := (blk_cell RK.out 1).trans rfl; have k2 := (blk_cell RK.out 2).trans rfl; have f1 := blk_frozen RK.out 1; have f2 := blk_frozen RK.out 2) | (go_at_call 39; (with_reducible refine (impl_isLetter.calls (bt s 0) _ _ AL.out).mono ?_); rintro e w2 ⟨rfl, hd⟩; have HB2 := Aside0.mk (below_step HB1.out hd.below); have RK2 := Aside0.mk (blk_below RK.out hd.below); clear hd; have k0 := (blk_cell RK2.out 0).trans rfl; have k1 := (blk_cell RK2.out 1).trans rfl; have k2 := (blk_cell RK2.out 2).trans rfl; have f1 := blk_frozen RK2.out 1; have f2 := blk_frozen RK2.out 2) | (go_at_call 37; (with_reducible refine (IH.out _ (some tl) r1 _ A1.out).mono ?_); intro e w3 hp; obtain ⟨hb3, bl, he3, hi3⟩ := hp; subst he3; have HB3 := Aside0.mk (below_step HB2.out hb3); have RK3 := Aside0.mk (blk_below RK2.out hb3); have IL3 := Aside0.mk hi3; have GL := Aside0.mk (blk_lt RK2.out); have HW := Aside0.mk (Nat.le_refl w2.heap.size); have HS3 := Aside0.mk hb3.size; clear hb3 hi3; have k0 := (blk_cell RK3.out 0).trans rfl; have k1 := (blk_cell RK3.out 1).trans rfl; have k2 := (blk_cell RK3.out 2).trans rfl; have f1 := blk_frozen RK3.out 1; have f2 := blk_frozen RK3.out 2) | (go_at_call 37; (with_reducible refine (IH.out _ (some tr) r2 _ A2.out).mono ?_); intro e w4 hp; obtain ⟨hb4, bh, he4, hi4⟩ := hp; subst he4; have HB4 := Aside0.mk (below_step (below_set HB3.out GE.out) hb4); have RK4 := Aside0.mk (blk_below (blk_put (cs := #[.int .u8 (bt s 0), .pointer none, .pointer none]) RK3.out 1 (.pointer (some ⟨bl, 0, none⟩)) rfl) hb4); have IL4 := Aside0.mk ((IL3.out.far GL.out (p := ⟨gb, 1, none⟩) (.pointer (some ⟨bl, 0, none⟩))).kept hb4); have IR4 := Aside0.mk hi4; have GR := Aside0.mk (show gb < (w3.setCell ⟨gb, 1, none⟩ (.pointer (some ⟨bl, 0, none⟩))).heap.size by have := GL.out; have := HS3.out; simp; omega); have HZ := Aside0.mk (show w.heap.size ≤ (w3.setCell ⟨gb, 1, none⟩ (.pointer (some ⟨bl, 0, none⟩))).heap.size by have := HB3.out.size; simp; omega); clear hb4 hi4; have k0 := (blk_cell RK4.out 0).trans rfl; have k1 := (blk_cell RK4.out 1).trans rfl; have k2 := (blk_cell RK4.out 2).trans rfl; have f1 := blk_frozen RK4.out 1; have f2 := blk_frozen RK4.out 2))
                go_ret2
                exact ⟨below_set HB4.out GE.out, gb, rfl, GE.out, bl, bh, blk_put (cs := #[.int .u8 (bt s 0), .pointer (some ⟨bl, 0, none⟩), .pointer none]) RK4.out 2 _ rfl, (IL4.out.far GL.out _).mono (Nat.le_trans HB2.out.size HW.out), (IR4.out.far GR.out _).mono HZ.out⟩
          · have e94 : (bt s 0 == 94) = true := beq_iff_eq.mpr hc
            have e38 : (bt s 0 == 38) = false := impl_readPart.no (by rw [hc]; decide)
            have e124 : (bt s 0 == 124) = false := impl_readPart.no (by rw [hc]; decide)
            clear hc
            cases tl with
            | none =>
              obtain ⟨rfl, rfl⟩ := Prod.mk.inj (Option.some.inj h)
              clear h
              go_enter Try.func37, Try.ntmps37
              go_wp2_with (first | ((with_reducible refine gate_dst (N := 11) rfl ?_); refine box_event ?hg (N := 11) ?hd (cs := #[.int .u8 (bt s 0), .pointer none, .pointer none]) (t := 58) ?hr ?_; (case hd => rfl); (case hg => rfl); (case hr => first | (go_simp; done) | (go_simp; rfl)); intro gb hg w1 hbox hb; have HB1 := Aside0.mk hb; have RK := Aside0.mk hbox; have GE := Aside0.mk (Nat.le_of_eq hg.symm); clear hg hbox hb; have k0 := (blk_cell RK.out 0).trans rfl; have k1 := (blk_cell RK.out 1).trans rfl; have k2 := (blk_cell RK.out 2).trans rfl; have f1 := blk_frozen RK.out 1; have f2 := blk_frozen RK.out 2) | (go_at_call 39; (with_reducible refine (impl_isLetter.calls (bt s 0) _ _ AL.out).mono ?_); rintro e w2 ⟨rfl, hd⟩; have HB2 := Aside0.mk (below_step HB1.out hd.below); have RK2 := Aside0.mk (blk_below RK.out hd.below); clear hd; have k0 := (blk_cell RK2.out 0).trans rfl; have k1 := (blk_cell RK2.out 1).trans rfl; have k2 := (blk_cell RK2.out 2).trans rfl; have f1 := blk_frozen RK2.out 1; have f2 := blk_frozen RK2.out 2) | (go_at_call 37; (with_reducible refine (IH.out _ none r1 _ A1.out).mono ?_); intro e w3 hp; obtain ⟨hb3, he3⟩ := hp; subst he3; have HB3 := Aside0.mk (below_step HB2.out hb3); have RK3 := Aside0.mk (blk_below RK2.out hb3); clear hb3; have k0 := (blk_cell RK3.out 0).trans rfl; have k1 := (blk_cell RK3.out 1).trans rfl; have k2 := (blk_cell RK3.out 2).trans rfl; have f1 := blk_frozen RK3.out 1; have f2 := blk_frozen RK3.out 2))
              go_ret2
              exact ⟨below_set HB3.out GE.out, rfl⟩
            | some tl =>
              obtain ⟨⟨tr, r2⟩, hr, h⟩ := Option.bind_eq_some_iff.mp h
              have A2 := Aside0.mk hr
              clear hr
              cases tr with
              | none =>
                obtain ⟨rfl, rfl⟩ := Prod.mk.inj (Option.some.inj h)
                clear h
                go_enter Try.func37, Try.ntmps37
                go_wp2_with (first | ((with_reducible refine gate_dst (N := 11) rfl ?_); refine box_event ?hg (N := 11) ?hd (cs := #[.int .u8 (bt s 0), .pointer none, .pointer none]) (t := 58) ?hr ?_; (case hd => rfl); (case hg => rfl); (case hr => first | (go_simp; done) | (go_simp; rfl)); intro gb hg w1 hbox hb; have HB1 := Aside0.mk hb; have RK := Aside0.mk hbox; have GE := Aside0.mk (Nat.le_of_eq hg.symm); clear hg hbox hb; have k0 := (blk_cell RK.out 0).trans rfl; have k1 := (blk_cell RK.out 1).trans rfl; have k2 := (blk_cell RK.out 2).trans rfl; have f1 := blk_frozen RK.out 1; have f2 := blk_frozen RK.out 2) | (go_at_call 39; (with_reducible refine (impl_isLetter.calls (bt s 0) _ _ AL.out).mono ?_); rintro e w2 ⟨rfl, hd⟩; have HB2 := Aside0.mk (below_step HB1.out hd.below); have RK2 := Aside0.mk (blk_below RK.out hd.below); clear hd; have k0 := (blk_cell RK2.out 0).trans rfl; have k1 := (blk_cell RK2.out 1).trans rfl; have k2 := (blk_cell RK2.out 2).trans rfl; have f1 := blk_frozen RK2.out 1; have f2 := blk_frozen RK2.out 2) | (go_at_call 37; (with_reducible refine (IH.out _ (some tl) r1 _ A1.out).mono ?_); intro e w3 hp; obtain ⟨hb3, bl, he3, hi3⟩ := hp; subst he3; have HB3 := Aside0.mk (below_step HB2.out hb3); have RK3 := Aside0.mk (blk_below RK2.out hb3); have IL3 := Aside0.mk hi3; have GL := Aside0.mk (blk_lt RK2.out); have HW := Aside0.mk (Nat.le_refl w2.heap.size); have HS3 := Aside0.mk hb3.size; clear hb3 hi3; have k0 := (blk_cell RK3.out 0).trans rfl; have k1 := (blk_cell RK3.out 1).trans rfl; have k2 := (blk_cell RK3.out 2).trans rfl; have f1 := blk_frozen RK3.out 1; have f2 := blk_frozen RK3.out 2) | (go_at_call 37; (with_reducible refine (IH.out _ none r2 _ A2.out).mono ?_); intro e w4 hp; obtain ⟨hb4, he4⟩ := hp; subst he4; have HB4 := Aside0.mk (below_step (below_set HB3.out GE.out) hb4); have RK4 := Aside0.mk (blk_below (blk_put (cs := #[.int .u8 (bt s 0), .pointer none, .pointer none]) RK3.out 1 (.pointer (some ⟨bl, 0, none⟩)) rfl) hb4); clear hb4; have k0 := (blk_cell RK4.out 0).trans rfl; have k1 := (blk_cell RK4.out 1).trans rfl; have k2 := (blk_cell RK4.out 2).trans rfl; have f1 := blk_frozen RK4.out 1; have f2 := blk_frozen RK4.out 2))
                go_ret2
                exact ⟨below_set HB4.out GE.out, rfl⟩
              | some tr =>
                obtain ⟨rfl, rfl⟩ := Prod.mk.inj (Option.some.inj h)
                clear h
                go_enter Try.func37, Try.ntmps37
                go_wp2_with (first | ((with_reducible refine gate_dst (N := 11) rfl ?_); refine box_event ?hg (N := 11) ?hd (cs := #[.int .u8 (bt s 0), .pointer none, .pointer none]) (t := 58) ?hr ?_; (case hd => rfl); (case hg => rfl); (case hr => first | (go_simp; done) | (go_simp; rfl)); intro gb hg w1 hbox hb; have HB1 := Aside0.mk hb; have RK := Aside0.mk hbox; have GE := Aside0.mk (Nat.le_of_eq hg.symm); clear hg hbox hb; have k0 := (blk_cell RK.out 0).trans rfl; have k1 := (blk_cell RK.out 1).trans rfl; have k2 := (blk_cell RK.out 2).trans rfl; have f1 := blk_frozen RK.out 1; have f2 := blk_frozen RK.out 2) | (go_at_call 39; (with_reducible refine (impl_isLetter.calls (bt s 0) _ _ AL.out).mono ?_); rintro e w2 ⟨rfl, hd⟩; have HB2 := Aside0.mk (below_step HB1.out hd.below); have RK2 := Aside0.mk (blk_below RK.out hd.below); clear hd; have k0 := (blk_cell RK2.out 0).trans rfl; have k1 := (blk_cell RK2.out 1).trans rfl; have k2 := (blk_cell RK2.out 2).trans rfl; have f1 := blk_frozen RK2.out 1; have f2 := blk_frozen RK2.out 2) | (go_at_call 37; (with_reducible refine (IH.out _ (some tl) r1 _ A1.out).mono ?_); intro e w3 hp; obtain ⟨hb3, bl, he3, hi3⟩ := hp; subst he3; have HB3 := Aside0.mk (below_step HB2.out hb3); have RK3 := Aside0.mk (blk_below RK2.out hb3); have IL3 := Aside0.mk hi3; have GL := Aside0.mk (blk_lt RK2.out); have HW := Aside0.mk (Nat.le_refl w2.heap.size); have HS3 := Aside0.mk hb3.size; clear hb3 hi3; have k0 := (blk_cell RK3.out 0).trans rfl; have k1 := (blk_cell RK3.out 1).trans rfl; have k2 := (blk_cell RK3.out 2).trans rfl; have f1 := blk_frozen RK3.out 1; have f2 := blk_frozen RK3.out 2) | (go_at_call 37; (with_reducible refine (IH.out _ (some tr) r2 _ A2.out).mono ?_); intro e w4 hp; obtain ⟨hb4, bh, he4, hi4⟩ := hp; subst he4; have HB4 := Aside0.mk (below_step (below_set HB3.out GE.out) hb4); have RK4 := Aside0.mk (blk_below (blk_put (cs := #[.int .u8 (bt s 0), .pointer none, .pointer none]) RK3.out 1 (.pointer (some ⟨bl, 0, none⟩)) rfl) hb4); have IL4 := Aside0.mk ((IL3.out.far GL.out (p := ⟨gb, 1, none⟩) (.pointer (some ⟨bl, 0, none⟩))).kept hb4); have IR4 := Aside0.mk hi4; have GR := Aside0.mk (show gb < (w3.setCell ⟨gb, 1, none⟩ (.pointer (some ⟨bl, 0, none⟩))).heap.size by have := GL.out; have := HS3.out; simp; omega); have HZ := Aside0.mk (show w.heap.size ≤ (w3.setCell ⟨gb, 1, none⟩ (.pointer (some ⟨bl, 0, none⟩))).heap.size by have := HB3.out.size; simp; omega); clear hb4 hi4; have k0 := (blk_cell RK4.out 0).trans rfl; have k1 := (blk_cell RK4.out 1).trans rfl; have k2 := (blk_cell RK4.out 2).trans rfl; have f1 := blk_frozen RK4.out 1; have f2 := blk_frozen RK4.out 2))
                go_ret2
                exact ⟨below_set HB4.out GE.out, gb, rfl, GE.out, bl, bh, blk_put (cs := #[.int .u8 (bt s 0), .pointer (some ⟨bl, 0, none⟩), .pointer none]) RK4.out 2 _ rfl, (IL4.out.far GL.out _).mono (Nat.le_trans HB2.out.size HW.out), (IR4.out.far GR.out _).mono HZ.out⟩
        · rw [if_neg hb3] at h
          obtain ⟨rfl, rfl⟩ := Prod.mk.inj (Option.some.inj h)
          have e38 : (bt s 0 == 38) = false := impl_readPart.no (fun e => hb3 (.inl e))
          have e124 : (bt s 0 == 124) = false := impl_readPart.no (fun e => hb3 (.inr (.inl e)))
          have e94 : (bt s 0 == 94) = false := impl_readPart.no (fun e => hb3 (.inr (.inr e)))
          clear hb3 h
          go_enter Try.func37, Try.ntmps37
          go_wp2_with (first | ((with_reducible refine gate_dst (N := 11) rfl ?_); refine box_event ?hg (N := 11) ?hd (cs := #[.int .u8 (bt s 0), .pointer none, .pointer none]) (t := 58) ?hr ?_; (case hd => rfl); (case hg => rfl); (case hr => first | (go_simp; done) | (go_simp; rfl)); intro gb hg w1 hbox hb; have HB1 := Aside0.mk hb; have RK := Aside0.mk hbox; have GE := Aside0.mk (Nat.le_of_eq hg.symm); clear hg hbox hb; have k0 := (blk_cell RK.out 0).trans rfl; have k1 := (blk_cell RK.out 1).trans rfl; have k2 := (blk_cell RK.out 2).trans rfl; have f1 := blk_frozen RK.out 1; have f2 := blk_frozen RK.out 2) | (go_at_call 39; (with_reducible refine (impl_isLetter.calls (bt s 0) _ _ AL.out).mono ?_); rintro e w2 ⟨rfl, hd⟩; have HB2 := Aside0.mk (below_step HB1.out hd.below); have RK2 := Aside0.mk (blk_below RK.out hd.below); clear hd; have k0 := (blk_cell RK2.out 0).trans rfl; have k1 := (blk_cell RK2.out 1).trans rfl; have k2 := (blk_cell RK2.out 2).trans rfl; have f1 := blk_frozen RK2.out 1; have f2 := blk_frozen RK2.out 2))
          go_ret2
          exact ⟨HB2.out, rfl⟩

end Go.Proofs.Ytfpcgcmajdebmaa.P
