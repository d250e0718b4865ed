-- Out of the translation, by this session's program over the printer's; Lean checks it.
import Derived.Test.YtfpcgcmajdebmaaPx0
import Derived.Test.YtfpcgcmajdebmaaPx5
namespace Go.Proofs.Ytfpcgcmajdebmaa.P
open Go.RowKit Go.Proofs.YtfpcgcmajdebmaaW.PrintWords Go.Proofs.YtfpcgcmajdebmaaW.PrintLast Go.Proofs.YtfpcgcmajdebmaaW.PrintMore
attribute [local go_sem] max2_int min2_int max_two min_two max_three min_three max_four min_four   -- for this text's walks alone
set_option linter.unusedVariables false
set_option linter.unusedSimpArgs false

/-! ### impl_wholeTree: function 19 -/
def impl_wholeTree.f (k : Nat) (s : ByteArray) : Option (Option impl_readTree.T × Bool) := (impl_readTree.f k s 0).bind fun p => some (p.1, match p.1 with
  | none => false
  | some _ => p.2.toList.isEmpty)
def impl_wholeTree.Post (t : Option impl_readTree.T) (o : Bool) (w : World) (e : Ending) (w' : World) : Prop :=
  Below w.heap.size w w' ∧ match t with
    | none => e = .returned (.tuple #[.pointer none, .bool o])
    | some t => ∃ b, e = .returned (.tuple #[.pointer (some ⟨b, 0, none⟩), .bool o]) ∧ impl_readTree.In w.heap.size t b w'
set_option maxHeartbeats 4000000 in
set_option maxRecDepth 100000 in
theorem impl_wholeTree.calls (k : Nat) (s : ByteArray) (t : Option impl_readTree.T) (o : Bool) (w : World) (h : impl_wholeTree.f k s = some (t, o)) : Calls Try.prog 19 #[.string s] w (impl_wholeTree.Post t o w) := by
  unfold impl_wholeTree.f at h
  obtain ⟨⟨t', rest⟩, hr, h⟩ := Option.bind_eq_some_iff.mp h
  have AR := Aside0.mk hr
  cases t' with
  | none =>
    obtain ⟨rfl, rfl⟩ := Prod.mk.inj (Option.some.inj h)
    clear h hr
    go_enter Try.func19, Try.ntmps19
    go_wp2_with (go_at_call 31; (with_reducible refine (impl_readTree.calls _ _ _ none rest _ AR.out).mono ?_); intro e w1 hp; obtain ⟨hb, he⟩ := hp; subst he; have HB := Aside0.mk hb; clear hb)
    go_ret2
    exact ⟨HB.out, rfl⟩
  | some t' =>
    obtain ⟨rfl, rfl⟩ := Prod.mk.inj (Option.some.inj h)
    clear h hr
    go_enter Try.func19, Try.ntmps19
    go_wp2_with (go_at_call 31; (with_reducible refine (impl_readTree.calls _ _ _ (some t') rest _ AR.out).mono ?_); intro e w1 hp; obtain ⟨hb, b, he, hi⟩ := hp; subst he; have HB := Aside0.mk hb; have HI := Aside0.mk hi; clear hb hi)
    go_ret2
    exact ⟨HB.out, b, rfl, HI.out⟩

/-! ### impl_isInput: function 20 -/
def impl_isInput.f (a0 : Int) (a1 : Int) : Option (Bool) := if a1 ≥ 0 then (if 0 ≤ a0 then (some (decide (a1 < (shl .i64 1 a0)))) else (none)) else (some false)
set_option maxHeartbeats 8000000 in
set_option maxRecDepth 100000 in
theorem impl_isInput.calls (a0 : Int) (a1 : Int) (r : Bool) (w : World) (h : impl_isInput.f a0 a1 = some r) :
    Calls Try.prog 20 #[.int .i64 a0, .int .i64 a1] w fun e w' => e = .returned (.bool r) ∧ Drawn0 w w' := by
  have H : (if a1 ≥ 0 then (if 0 ≤ a0 then (some (decide (a1 < (shl .i64 1 a0)))) else (none)) else (some false)) = some r := h
  clear h
  by_cases c3 : a1 ≥ 0
  · rw [if_pos c3] at H
    have c3b0 : decide (0 ≤ a1) = true := decide_eq_true c3
    clear c3
    by_cases c4 : 0 ≤ a0
    · rw [if_pos c4] at H
      have c4b0 := eq_true c4
      have c4b1 : decide (0 ≤ a0) = true := decide_eq_true c4
      clear c4
      obtain ⟨ji5, hji5⟩ : ∃ j_ : Int, (shl .i64 1 a0) = j_ := ⟨_, rfl⟩
      replace H : (some (decide (a1 < (ji5)))) = some r := by first | (rw [hji5] at H; exact H) | (simp only [hji5] at H ⊢; exact H)
      have hji5_ : (IntKind.i64.wrap (1 * 2 ^ min a0.toNat 64)) = ji5 := hji5
      have hji5z : a0 ≤ 64 → (IntKind.i64.wrap (1 * 2 ^ a0.toNat)) = ji5 := shl_small hji5
      have hji5u : (IntKind.i64.wrap (2 ^ min a0.toNat 64)) = ji5 := by have h_ := hji5_; rw [Int.one_mul] at h_; exact h_
      have hji5v : a0 ≤ 64 → (IntKind.i64.wrap (2 ^ a0.toNat)) = ji5 := fun hle_ => by have h_ := hji5z hle_; rw [Int.one_mul] at h_; exact h_
      have hji5y : (wrap64 (1 * 2 ^ min a0.toNat 64)) = ji5 := (i64_w _).symm.trans hji5_
      have hji5x : a0 ≤ 64 → (wrap64 (1 * 2 ^ a0.toNat)) = ji5 := fun h_ => (i64_w _).symm.trans (hji5z h_)
      obtain rfl := Option.some.inj H
      go_enter Try.func20, Try.ntmps20
      go_wp2
      go_ret
      exact ⟨by first | rfl | (simp; done) | (simp only [← hji5] <;> (first | rfl | simp)) | (simp [*]; done), by repeat (first | exact Drawn0.refl _ | apply Drawn0.step)⟩
    · rw [if_neg c4] at H
      exact absurd H (by simp)
  · rw [if_neg c3] at H
    have c3b0 : decide (0 ≤ a1) = false := decide_eq_false c3
    clear c3
    obtain rfl := Option.some.inj H
    go_enter Try.func20, Try.ntmps20
    go_wp2
    go_ret
    exact ⟨by first | rfl | (simp; done) | (simp [*]; done), by repeat (first | exact Drawn0.refl _ | apply Drawn0.step)⟩

/-! ### impl_tree_ask: function 21 -/
def impl_tree_ask.size : impl_readTree.T → Nat
  | .leaf _ => 0
  | .node _ l h => impl_tree_ask.size l + impl_tree_ask.size h + 1
/-- The value of a tree for an input, and how many variables are asked. -/
def impl_tree_ask.g (x : Int) : impl_readTree.T → Int → Int × Int
  | .leaf c, n => ((c - 48) % 256, n)
  | .node c l h, n => if Go.bits .and .i64 (shr .i64 x ((c - 97) % 256)) 1 = 0 then impl_tree_ask.g x l (wrap64 (n + 1)) else impl_tree_ask.g x h (wrap64 (n + 1))
set_option maxHeartbeats 4000000 in
set_option maxRecDepth 100000 in
theorem impl_tree_ask.calls (base : Nat) (t : impl_readTree.T) (b : Nat) (x r1 r2 : Int) (w : World) (hin : impl_readTree.In base t b w) (h : impl_tree_ask.g x t 0 = (r1, r2)) :
    Calls Try.prog 21 #[.pointer (some ⟨b, 0, none⟩), .int .i64 x] w fun e w' => e = .returned (.tuple #[.int .i64 r1, .int .i64 r2]) ∧ w = w' := by
  have hu := Try.underlying51
  have HI := Aside0.mk hin
  have AG := Aside0.mk h
  clear hin h
  go_enter Try.func21, Try.ntmps21
  go_wp2_with fail
  go_loopg [0, 6] (impl_tree_ask.size t) (fun kq v0 v6 w' => ∃ (t' : impl_readTree.T) (b' : Nat) (n' : Int), v0 = .pointer (some ⟨b', 0, none⟩) ∧ v6 = .int .i64 n' ∧ Aside0 (impl_tree_ask.g x t' n' = (r1, r2)) ∧ Aside0 (impl_readTree.In base t' b' w) ∧ Aside0 (impl_tree_ask.size t' ≤ kq) ∧ w = w')
  case atStart => exact ⟨t, b, 0, rfl, rfl, AG, HI, ⟨Nat.le_refl _⟩, rfl⟩
  case round =>
    obtain ⟨t', b', n', rfl, rfl, AG2, HI2, HS2, rfl⟩ := hrel
    clear AG HI
    cases t' with
    | leaf c =>
      have hh := HI2.out.2
      have k0 := (blk_cell hh 0).trans rfl
      have k1 := (blk_cell hh 1).trans rfl
      have hr := AG2.out
      rw [impl_tree_ask.g] at hr
      obtain ⟨rfl, rfl⟩ := Prod.mk.inj hr
      clear hr hh
      go_wp2_with fail
      go_ret2
      exact ⟨rfl, rfl⟩
    | node c l h =>
      obtain ⟨_, bl, bh, hh, hl, hr⟩ := HI2.out
      have HH := Aside0.mk hh
      have HL := Aside0.mk hl
      have HR := Aside0.mk hr
      have k0 := (blk_cell hh 0).trans rfl
      have k1 := (blk_cell hh 1).trans rfl
      have k2 := (blk_cell hh 2).trans rfl
      clear hh hl hr
      have hg := AG2.out
      rw [impl_tree_ask.g] at hg
      obtain ⟨i, hi⟩ : ∃ i, (c - 97) % 256 = i := ⟨_, rfl⟩
      rw [hi] at hg
      have hi0 : 0 ≤ i := by rw [← hi]; exact Int.emod_nonneg _ (by decide)
      have hib : decide (0 ≤ i) = true := decide_eq_true hi0
      obtain ⟨sa, hs⟩ : ∃ y, shr .i64 x i = y := ⟨_, rfl⟩
      rw [hs] at hg
      have hs_ : x / 2 ^ min i.toNat 64 = sa := hs
      have hsz_ : i ≤ 64 → x / 2 ^ i.toNat = sa := fun hle => by rw [← hs_, Nat.min_eq_left (by omega)]
      have hsum : impl_tree_ask.size l + impl_tree_ask.size h + 1 ≤ gk := HS2.out
      have ML : Aside0 (impl_tree_ask.size l ≤ impl_tree_ask.size l + impl_tree_ask.size h) := ⟨by omega⟩
      have MR : Aside0 (impl_tree_ask.size h ≤ impl_tree_ask.size l + impl_tree_ask.size h) := ⟨by omega⟩
      have HSUM := Aside0.mk hsum
      clear hs hsum AG2 HI2 HS2
      by_cases hq : Go.bits .and .i64 sa 1 = 0
      · rw [if_pos hq] at hg
        have hqb : (Go.bits .and .i64 sa 1 == 0) = true := beq_iff_eq.mpr hq
        have AN : Aside0 (impl_tree_ask.g x l (wrap64 (n' + 1)) = (r1, r2)) := ⟨hg⟩
        clear hg hq
        go_wp2_with (go_at_call 32; (with_reducible refine (impl_tree_variable.calls b' c _ _ _ HH.out).mono ?_); rintro e w' ⟨rfl, rfl⟩)
        go_roundg (impl_tree_ask.size l + impl_tree_ask.size h)
        case measure => have := HSUM.out; omega
        case rel => exact ⟨l, bl, wrap64 (n' + 1), rfl, rfl, AN, HL, ML, rfl⟩
      · rw [if_neg hq] at hg
        have hqb : (Go.bits .and .i64 sa 1 == 0) = false := by simpa using hq
        have AN : Aside0 (impl_tree_ask.g x h (wrap64 (n' + 1)) = (r1, r2)) := ⟨hg⟩
        clear hg hq
        go_wp2_with (go_at_call 32; (with_reducible refine (impl_tree_variable.calls b' c _ _ _ HH.out).mono ?_); rintro e w' ⟨rfl, rfl⟩)
        go_roundg (impl_tree_ask.size l + impl_tree_ask.size h)
        case measure => have := HSUM.out; omega
        case rel => exact ⟨h, bh, wrap64 (n' + 1), rfl, rfl, AN, HR, MR, rfl⟩

/-! ### impl_QueriesOf: function 8 -/
def impl_QueriesOf.f (s : ByteArray) (x : Int) : Option Int := (impl_wholeTree.f 6 s).bind fun p => match p.1 with
  | none => some (-1)
  | some t => if p.2 = true then (impl_isInput.f 5 x).bind fun b => if b = true then some (impl_tree_ask.g x t 0).2 else some (-1) else some (-1)
set_option maxHeartbeats 4000000 in
set_option maxRecDepth 100000 in
theorem impl_QueriesOf.calls (s : ByteArray) (x r : Int) (w : World) (h : impl_QueriesOf.f s x = some r) :
    Calls Try.prog 8 #[.string s, .int .i64 x] w fun e w' => e = .returned (.int .i64 r) ∧ Below w.heap.size w w' := by
  unfold impl_QueriesOf.f at h
  obtain ⟨⟨t0, o⟩, hw, h⟩ := Option.bind_eq_some_iff.mp h
  generalize 6 = k at hw
  have AW := Aside0.mk hw
  clear hw
  cases t0 with
  | none =>
    have h1 : -1 = r := Option.some.inj h
    subst h1
    clear h
    have ho : o = false := by
      have h2 := AW.out
      unfold impl_wholeTree.f at h2
      obtain ⟨⟨t', rest⟩, _, h2⟩ := Option.bind_eq_some_iff.mp h2
      have h3 := Prod.mk.inj (Option.some.inj h2)
      have h4 : t' = none := h3.1
      subst h4
      exact h3.2.symm
    subst ho
    go_enter Try.func8, Try.ntmps8
    go_wp2_with (go_at_call 19; (with_reducible refine (impl_wholeTree.calls k s none false _ AW.out).mono ?_); intro e w2 hp; obtain ⟨hb, he⟩ := hp; subst he; have HB2 := Aside0.mk hb; clear hb)
    go_ret
    exact ⟨rfl, HB2.out⟩
  | some t0 =>
    cases o with
    | false =>
      have h1 : -1 = r := Option.some.inj h
      subst h1
      clear h
      go_enter Try.func8, Try.ntmps8
      go_wp2_with (go_at_call 19; (with_reducible refine (impl_wholeTree.calls k s (some t0) false _ AW.out).mono ?_); intro e w2 hp; obtain ⟨hb, b, he, hi⟩ := hp; subst he; have HB2 := Aside0.mk hb; clear hb hi)
      go_ret
      exact ⟨rfl, HB2.out⟩
    | true =>
      dsimp only at h
      rw [if_pos rfl] at h
      obtain ⟨v, hv, h⟩ := Option.bind_eq_some_iff.mp h
      have AB := Aside0.mk hv
      clear hv
      cases v with
      | false =>
        have h1 : -1 = r := Option.some.inj h
        subst h1
        clear h
        go_enter Try.func8, Try.ntmps8
        go_wp2_with (first | (go_at_call 19; (with_reducible refine (impl_wholeTree.calls k s (some t0) true _ AW.out).mono ?_); intro e w2 hp; obtain ⟨hb, b, he, hi⟩ := hp; subst he; have HB2 := Aside0.mk hb; clear hb hi) | (go_at_call 20; (with_reducible refine (impl_isInput.calls 5 x _ _ AB.out).mono ?_); rintro e w5 ⟨rfl, ⟨nd, rfl⟩⟩))
        go_ret
        exact ⟨rfl, by repeat (first | exact HB2.out | apply pw_below_drewN)⟩
      | true =>
        rw [if_pos rfl] at h
        obtain ⟨⟨r1, r2⟩, hg⟩ : ∃ p, impl_tree_ask.g x t0 0 = p := ⟨_, rfl⟩
        rw [hg] at h
        have h1 : r2 = r := Option.some.inj h
        subst h1
        have AG := Aside0.mk hg
        clear h hg
        go_enter Try.func8, Try.ntmps8
        go_wp2_with (first | (go_at_call 19; (with_reducible refine (impl_wholeTree.calls k s (some t0) true _ AW.out).mono ?_); intro e w2 hp; obtain ⟨hb, b, he, hi⟩ := hp; subst he; have HB2 := Aside0.mk hb; have IN2 := Aside0.mk hi; clear hb hi) | (go_at_call 20; (with_reducible refine (impl_isInput.calls 5 x _ _ AB.out).mono ?_); rintro e w5 ⟨rfl, ⟨nd, rfl⟩⟩) | (go_at_call 21; (with_reducible refine (impl_tree_ask.calls _ t0 b x r1 r2 _ (IN2.out.kept (by repeat (first | exact Below.refl _ _ | apply pw_below_drewN) : Below w2.heap.size w2 _)) AG.out).mono ?_); rintro e w6 ⟨rfl, rfl⟩))
        go_ret
        exact ⟨rfl, by repeat (first | exact HB2.out | apply pw_below_drewN)⟩

end Go.Proofs.Ytfpcgcmajdebmaa.P
