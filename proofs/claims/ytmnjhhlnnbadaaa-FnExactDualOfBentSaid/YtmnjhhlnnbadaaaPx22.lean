-- Out of the translation, by this session's program over the printer's; Lean checks it.
import Derived.Test.YtmnjhhlnnbadaaaPx0
import Derived.Test.YtmnjhhlnnbadaaaPx4
import Derived.Test.YtmnjhhlnnbadaaaPx5
import Derived.Test.YtmnjhhlnnbadaaaPx21
namespace Go.Proofs.Ytmnjhhlnnbadaaa.P
open Go.RowKit Go.Proofs.YtmnjhhlnnbadaaaW.PrintWords Go.Proofs.YtmnjhhlnnbadaaaW.PrintLast Go.Proofs.YtmnjhhlnnbadaaaW.PrintMore
attribute [local go_sem] max2_int min2_int max_two min_two max_three min_three max_four min_four   -- for this text's walks alone
set_option linter.unusedVariables false
set_option linter.unusedSimpArgs false

/-! ### slices_IndexFunc_int_int: function 83 -/
/-- Does a test hold at one of the first numbers of a list? -/
def slices_IndexFunc.any (p : Int → Bool) (l : List Int) : Nat → Bool
  | 0 => false
  | i + 1 => slices_IndexFunc.any p l i || p (rd l (i : Int))
theorem slices_IndexFunc.any_at (p : Int → Bool) (l : List Int) (i : Nat) (h : p (rd l (i : Int)) = true) : ∀ N, i < N → slices_IndexFunc.any p l N = true := by
  intro N
  induction N with
  | zero => intro h; omega
  | succ N ih =>
    intro hi
    simp only [slices_IndexFunc.any]
    by_cases e : i = N
    · subst e; rw [h, Bool.or_true]
    · rw [ih (by omega), Bool.true_or]
-- EACH closure's number
set_option maxHeartbeats 4000000 in
set_option maxRecDepth 100000 in
theorem slices_IndexFunc.calls62 (caps : Array Value) (p : Int → Bool) (l : List Int) (v : Value) (base : Nat) (ok : Nat → Prop) (w : World) (hR : Kd.R (Kd.int .i64) 3 w base ok v l) (hl : l.length ≤ 32)
    (hp : ∀ (W : World) (a : Int), Below w.heap.size w W → Calls Try.prog 62 (#[.int .i64 a] ++ caps) W fun e w' => e = .returned (.bool (p a)) ∧ Below W.heap.size W w') :
    Calls Try.prog 83 #[v, .func (.func 62) #[] caps] w fun e w' => ∃ r : Int, e = .returned (.int .i64 r) ∧ decide (0 ≤ r) = slices_IndexFunc.any p l l.length ∧ Below w.heap.size w w' := by
  obtain ⟨Ao, co, rfl⟩ := Kd.R_slice hR
  have HR := Aside0.mk hR
  have HP := Aside0.mk hp
  have HB := Aside0.mk (Below.refl w.heap.size w)
  obtain ⟨N, hN⟩ : ∃ N, l.length = N := ⟨_, rfl⟩
  rw [hN] at hl ⊢
  have HN := Aside0.mk hN
  clear hp hR hN
  go_enter Try.func83, Try.ntmps83
  go_wp2_with fail
  go_loopw [8] (fun v8 wr => ∃ i : Nat, i ≤ N ∧ v8 = .int .i64 (i : Int) ∧ Aside0 (slices_IndexFunc.any p l i = false) ∧ Aside0 (Below w.heap.size w wr)) (fun v8 _ => N - (intOf v8).toNat)
  case atStart => exact ⟨0, Nat.zero_le _, rfl, ⟨rfl⟩, HB⟩
  case round =>
    obtain ⟨i, hi, rfl, HA, HB⟩ := hrel
    by_cases hlt : i < N
    · have hR2 := Kd.R_below HR.out HB.out
      have hC := (Kd.R_reads' hR2).2.2
      obtain ⟨ad, had, hx⟩ := Kd.at_int hC (i : Int) (Int.natCast_nonneg i) (by rw [HN.out]; omega)
      subst had
      rw [Int.toNat_natCast] at hx
      have hlt2 : (i : Int) < (N : Int) := by omega
      have hcall := HP.out wr (rd l (i : Int)) HB.out
      clear hR2 hC
      generalize hz : rd l (i : Int) = z at hx hcall
      have HZ := Aside0.mk hz
      clear hz
      cases hg : p z with
      | true =>
        rw [hg] at hcall
        have S1 := Aside0.mk (slices_IndexFunc.any_at p l i (by rw [HZ.out]; exact hg) N hlt)
        clear hg
        go_wp2_with (go_at_call 62; refine hcall.mono ?_; rintro e w2 ⟨rfl, hb2⟩)
        go_ret
        exact ⟨(i : Int), rfl, by rw [S1.out]; exact decide_eq_true (Int.natCast_nonneg i), below_step HB.out hb2⟩
      | false =>
        rw [hg] at hcall
        have S1 := Aside0.mk (show slices_IndexFunc.any p l (i + 1) = false by simp only [slices_IndexFunc.any]; rw [HA.out, HZ.out, hg]; rfl)
        clear hg
        go_wp2_with (go_at_call 62; refine hcall.mono ?_; rintro e w2 ⟨rfl, hb2⟩)
        go_roundw
        case rel => exact ⟨i + 1, by omega, by go_num, S1, ⟨below_step HB.out hb2⟩⟩
        case measure => simp [intOf]; omega
    · obtain rfl : i = N := by omega
      go_wp2
      go_ret
      exact ⟨-1, rfl, by rw [HA.out]; rfl, HB.out⟩

/-! ### slices_ContainsFunc_int_int: function 61 -/
-- EACH closure's number
set_option maxHeartbeats 4000000 in
set_option maxRecDepth 100000 in
theorem slices_ContainsFunc.calls62 (caps : Array Value) (p : Int → Bool) (l : List Int) (v : Value) (base : Nat) (ok : Nat → Prop) (w : World) (hR : Kd.R (Kd.int .i64) 3 w base ok v l) (hl : l.length ≤ 32)
    (hp : ∀ (W : World) (a : Int), Below w.heap.size w W → Calls Try.prog 62 (#[.int .i64 a] ++ caps) W fun e w' => e = .returned (.bool (p a)) ∧ Below W.heap.size W w') :
    Calls Try.prog 61 #[v, .func (.func 62) #[] caps] w fun e w' => e = .returned (.bool (slices_IndexFunc.any p l l.length)) ∧ Below w.heap.size w w' := by
  have hcall := slices_IndexFunc.calls62 caps p l v base ok w hR hl hp
  obtain ⟨Ao, co, rfl⟩ := Kd.R_slice hR
  clear hp hR
  generalize slices_IndexFunc.any p l l.length = b at hcall ⊢
  generalize l.length = N at *
  go_enter Try.func61, Try.ntmps61
  go_wp2_with (go_at_call 83; refine hcall.mono ?_; rintro e w2 ⟨r, rfl, hr, hb2⟩)
  go_ret
  exact ⟨by rw [← hr]; rfl, hb2⟩

/-! ### impl_IsBent: function 29 -/
def impl_IsBent.size1 (a : Int) : Int := mx a (wrap64 (-a))
set_option maxRecDepth 100000 in
theorem impl_IsBent.size1_calls (a : Int) (w : World) : Calls Try.prog 63 #[.int .i64 a] w fun e w' => e = .returned (.int .i64 (impl_IsBent.size1 a)) ∧ Drawn0 w w' := by
  unfold impl_IsBent.size1
  go_enter Try.func63, Try.ntmps63
  go_wp2
  all_goals go_ret
  all_goals exact ⟨by first | rfl | (simp [mx]; done) | (simp [mx]; omega), by repeat (first | exact Drawn0.refl _ | apply Drawn0.step)⟩
def impl_IsBent.on (c : List Int) (a : Int) : Bool := impl_IsBent.size1 a != impl_IsBent.size1 (rd c 0)
def impl_IsBent.f (k : Nat) (a0_0 a0_1 : Int) : Option Bool :=
  (impl_IsTable.f a0_0 a0_1).bind fun t => if t = true then (if a0_0 = 2 ∨ a0_0 = 4 then ((impl_Table_spectrum.f k a0_0 a0_1).bind fun c => if 0 < c.length ∧ c.length ≤ 32 then some (!slices_IndexFunc.any (impl_IsBent.on c) c c.length) else none) else some false) else some false
theorem impl_IsBent.mono : ∀ a0 a1 k, LeO (impl_IsBent.f k a0 a1) (impl_IsBent.f (k + 1) a0 a1) := by
  intro a0 a1 k
  unfold impl_IsBent.f
  repeat' first
      | (with_reducible exact impl_Table_spectrum.mono _ _ _)
      | (with_reducible exact LeO.refl _)
      | (with_reducible exact LeO.none _)
      | (with_reducible refine LeO.ite ?_ ?_)
      | (with_reducible refine LeO.bind ?_ (fun _ => ?_))
      | exact impl_Table_spectrum.mono _ _ _
      | exact LeO.none _
      | refine LeO.ite ?_ ?_
      | refine LeO.bind ?_ (fun _ => ?_)
set_option maxHeartbeats 4000000 in
set_option maxRecDepth 100000 in
theorem impl_IsBent.in_calls (c : List Int) (v : Value) (base B : Nat) (ok : Nat → Prop) (a : Int) (W : World) (hB : W.heap[B]? = some (.cells #[v] 45 (0, 0))) (hR : Kd.R (Kd.int .i64) 3 W base ok v c) (hm : 0 < c.length) :
    Calls Try.prog 62 #[.int .i64 a, .pointer (some ⟨B, 0, none⟩)] W fun e w' => e = .returned (.bool (impl_IsBent.on c a)) ∧ Below W.heap.size W w' := by
  obtain ⟨Ao, co, rfl⟩ := Kd.R_slice hR
  obtain ⟨_, _, hC⟩ := Kd.R_reads' hR
  obtain ⟨ad, rfl, hx⟩ := Kd.at_int hC 0 (Int.le_refl 0) (by omega)
  have hlt : (0 : Int) < (c.length : Int) := by omega
  have hc0 := blk_cell hB 0
  replace hc0 : W.cell? ⟨B, 0, none⟩ = some (.slice (some ad) c.length co) := hc0
  replace hx : W.cell? ad = some (.int .i64 (rd c 0)) := by simpa [Addr.add] using hx
  clear hC hR hB
  unfold impl_IsBent.on
  generalize rd c 0 = z at hx ⊢
  generalize c.length = N at *
  have A1 := impl_IsBent.size1_calls a
  have A2 := impl_IsBent.size1_calls z
  generalize impl_IsBent.size1 a = t1 at A1 ⊢
  generalize impl_IsBent.size1 z = t2 at A2 ⊢
  go_enter Try.func62, Try.ntmps62
  go_wp2_with fail
  go_region_with (go_at_call 63; (first | (with_reducible refine (A1 _).mono ?_) | (with_reducible refine (A2 _).mono ?_)); rintro e w1 ⟨rfl, ⟨n1, rfl⟩⟩)
  all_goals go_wp2
  all_goals go_ret
  all_goals exact ⟨rfl, by apply pw_below_drewN; exact Below.refl _ W⟩
set_option maxHeartbeats 4000000 in
set_option maxRecDepth 100000 in
theorem impl_IsBent.calls (k : Nat) (a0_0 a0_1 : Int) (r : Bool) (w : World) (h : impl_IsBent.f k a0_0 a0_1 = some r) :
    Calls Try.prog 29 #[.agg #[.int .i64 a0_0, .int .i64 a0_1]] w fun e w' => e = .returned (.bool r) ∧ Below w.heap.size w w' := by
  unfold impl_IsBent.f at h
  obtain ⟨t, ht, h⟩ := Option.bind_eq_some_iff.mp h
  have A1 := Aside0.mk ht
  clear ht
  have hu := Try.underlying24
  cases t with
  | false =>
    rw [if_neg (by decide)] at h
    obtain rfl := Option.some.inj h
    go_enter Try.func29, Try.ntmps29
    go_wp2_with (go_at_call 40; refine (impl_IsTable.calls a0_0 a0_1 _ _ A1.out).mono ?_; rintro e w1 ⟨rfl, hb1⟩)
    go_ret
    exact ⟨rfl, (((Below.refl w.heap.size w).alloc (Nat.le_refl _) (Obj.cells #[Value.int IntKind.i64 a0_0, Value.int IntKind.i64 a0_1] 24))).trans (hb1.mono (by simp))⟩
  | true =>
    rw [if_pos rfl] at h
    by_cases hbt : a0_0 = 2 ∨ a0_0 = 4
    · rw [if_pos hbt] at h
      obtain ⟨c, hg, h⟩ := Option.bind_eq_some_iff.mp h
      by_cases hb : 0 < c.length ∧ c.length ≤ 32
      case neg => rw [if_neg hb] at h; exact absurd h (by simp)
      rw [if_pos hb] at h
      have hr := Aside0.mk (Option.some.inj h)
      have A2 := Aside0.mk hg
      have hb0 := Aside0.mk hb
      clear h hg hb
      rcases hbt with rfl | rfl
      all_goals
        go_enter Try.func29, Try.ntmps29
        go_wp2_with (go_at_call 40; refine (impl_IsTable.calls _ a0_1 _ _ A1.out).mono ?_; rintro e w1 ⟨rfl, hb1⟩; have BK := Aside0.mk (blk_below (blk_new w _) hb1); have hc0 := (blk_cell BK.out 0).trans rfl; have hc1 := (blk_cell BK.out 1).trans rfl)
        (with_reducible refine (impl_Table_spectrum.calls _ _ a0_1 _ _ A2.out).mono ?_)
        rintro e w2 ⟨v0, rfl, hR0, hb2⟩
        obtain ⟨Ao, co, rfl⟩ := Kd.R_slice hR0
        have HB2 := Aside0.mk (below_step (((Below.refl w.heap.size w).alloc (Nat.le_refl _) _).trans (hb1.mono (by simp))) hb2)
        have HR := Aside0.mk hR0
        clear hb2 hb1 A2 A1 BK hc0 hc1 hR0
        have hcall := slices_ContainsFunc.calls62 #[.pointer (some ⟨w2.heap.size, 0, none⟩)] (impl_IsBent.on c) c (.slice Ao c.length co) _ _ (w2.alloc (Obj.cells #[Value.slice Ao c.length co] 45)) (Kd.R_alloc HR.out _) hb0.out.2
          (fun W x hW => impl_IsBent.in_calls c _ _ w2.heap.size _ x W (blk_below (blk_new w2 (Obj.cells #[Value.slice Ao c.length co] 45)) hW) (Kd.R_below (Kd.R_alloc HR.out _) hW) hb0.out.1)
        replace hr := hr.out
        generalize slices_IndexFunc.any (impl_IsBent.on c) c c.length = b at hr hcall
        generalize c.length = N at hcall HR ⊢
        go_wp2_with (go_at_call 61; refine hcall.mono ?_; rintro e w3 ⟨rfl, hb3⟩)
        go_ret
        exact ⟨by rw [← hr]; rfl, (HB2.out.alloc (below_size HB2.out) _).trans (hb3.mono (by have := below_size HB2.out; simp; omega))⟩
    · rw [if_neg hbt] at h
      obtain rfl := Option.some.inj h
      have h2 : (a0_0 != 2) = true := by rw [bne_iff_ne]; exact fun e => hbt (.inl e)
      have h4 : (a0_0 != 4) = true := by rw [bne_iff_ne]; exact fun e => hbt (.inr e)
      clear hbt
      go_enter Try.func29, Try.ntmps29
      go_wp2_with (go_at_call 40; refine (impl_IsTable.calls a0_0 a0_1 _ _ A1.out).mono ?_; rintro e w1 ⟨rfl, hb1⟩; have BK := Aside0.mk (blk_below (blk_new w (Obj.cells #[Value.int IntKind.i64 a0_0, Value.int IntKind.i64 a0_1] 24)) hb1); have hc0 := (blk_cell BK.out 0).trans rfl; have hc1 := (blk_cell BK.out 1).trans rfl)
      go_ret
      exact ⟨rfl, (((Below.refl w.heap.size w).alloc (Nat.le_refl _) (Obj.cells #[Value.int IntKind.i64 a0_0, Value.int IntKind.i64 a0_1] 24))).trans (hb1.mono (by simp))⟩

/-! ### impl_DualOfBent: function 27 -/
def impl_DualOfBent.f (k : Nat) (a0_0 a0_1 : Int) : Option (Int × Int × Bool) :=
  (impl_IsBent.f k a0_0 a0_1).bind fun t => if t = true then ((impl_Table_spectrum.f k a0_0 a0_1).bind fun c => if (0 ≤ a0_0 ∧ a0_0 ≤ 5) ∧ c.length = 2 ^ a0_0.toNat then some (a0_0, impl_makeTable.word (fun u => decide (rd c (u : Int) < 0)) (2 ^ a0_0.toNat), true) else none) else some (0, 0, false)
theorem impl_DualOfBent.mono : ∀ a0 a1 k, LeO (impl_DualOfBent.f k a0 a1) (impl_DualOfBent.f (k + 1) a0 a1) := by
  intro a0 a1 k
  unfold impl_DualOfBent.f
  repeat' first
      | (with_reducible exact impl_IsBent.mono _ _ _)
      | (with_reducible exact impl_Table_spectrum.mono _ _ _)
      | (with_reducible exact LeO.refl _)
      | (with_reducible exact LeO.none _)
      | (with_reducible refine LeO.ite ?_ ?_)
      | (with_reducible refine LeO.bind ?_ (fun _ => ?_))
      | exact impl_Table_spectrum.mono _ _ _
      | exact LeO.none _
      | refine LeO.ite ?_ ?_
      | refine LeO.bind ?_ (fun _ => ?_)
set_option maxHeartbeats 4000000 in
set_option maxRecDepth 100000 in
theorem impl_DualOfBent.in_calls (c : List Int) (v : Value) (base B : Nat) (ok : Nat → Prop) (m : Nat) (W : World) (hB : W.heap[B]? = some (.cells #[v] 45 (0, 0))) (hR : Kd.R (Kd.int .i64) 3 W base ok v c) (hm : m < c.length) :
    Calls Try.prog 60 #[.int .i64 (m : Int), .pointer (some ⟨B, 0, none⟩)] W fun e w' => e = .returned (.bool (decide (rd c (m : Int) < 0))) ∧ Below W.heap.size W w' := by
  obtain ⟨Ao, co, rfl⟩ := Kd.R_slice hR
  obtain ⟨_, _, hC⟩ := Kd.R_reads' hR
  obtain ⟨ad, rfl, hx⟩ := Kd.at_int hC (m : Int) (Int.natCast_nonneg m) (by omega)
  have hlt : (m : Int) < (c.length : Int) := by omega
  have hc0 := blk_cell hB 0
  replace hc0 : W.cell? ⟨B, 0, none⟩ = some (.slice (some ad) c.length co) := hc0
  rw [Int.toNat_natCast] at hx
  clear hC hR hB
  generalize rd c (m : Int) = z at hx ⊢
  generalize c.length = N at *
  go_enter Try.func60, Try.ntmps60
  go_wp2
  go_ret
  exact ⟨by first | rfl | (simp; done), Below.refl _ _⟩
set_option maxHeartbeats 4000000 in
set_option maxRecDepth 100000 in
theorem impl_DualOfBent.calls (k : Nat) (a0_0 a0_1 r1 r2 : Int) (r3 : Bool) (w : World) (h : impl_DualOfBent.f k a0_0 a0_1 = some (r1, r2, r3)) :
    Calls Try.prog 27 #[.agg #[.int .i64 a0_0, .int .i64 a0_1]] w fun e w' => e = .returned (.tuple #[.agg #[.int .i64 r1, .int .i64 r2], .bool r3]) ∧ Below w.heap.size w w' := by
  unfold impl_DualOfBent.f at h
  obtain ⟨t, ht, h⟩ := Option.bind_eq_some_iff.mp h
  have A1 := Aside0.mk ht
  clear ht
  have hu := Try.underlying24
  have s1 : Aside0 ((w.alloc (Obj.cells #[Value.int IntKind.i64 a0_0, Value.int IntKind.i64 a0_1] 24)).heap.size = w.heap.size + 1) := ⟨by simp⟩
  cases t with
  | false =>
    rw [if_neg (by decide)] at h
    simp only [Option.some.injEq, Prod.mk.injEq] at h
    obtain ⟨rfl, rfl, rfl⟩ := h
    go_enter Try.func27, Try.ntmps27
    go_wp2_with (go_at_call 29; refine (impl_IsBent.calls _ a0_0 a0_1 _ _ A1.out).mono ?_; rintro e w1 ⟨rfl, hb1⟩; have RK := Aside0.mk (blk_below (blk_new (w.alloc (Obj.cells #[Value.int IntKind.i64 a0_0, Value.int IntKind.i64 a0_1] 24)) (Obj.cells #[Value.int IntKind.i64 0, Value.int IntKind.i64 0] 24)) hb1); rw [s1.out] at RK; have k0 := (blk_cell RK.out 0).trans rfl; have k1 := (blk_cell RK.out 1).trans rfl; have f0 := blk_frozen RK.out 0; have f1 := blk_frozen RK.out 1)
    refine bodyPost_ret (results_ct rfl _ _ (w.heap.size + 1) 24 #[.int .i64 0, .int .i64 0] (0, 0) _ rfl (blk_put (cs := #[.int .i64 0, .int .i64 0]) (blk_put (cs := #[.int .i64 0, .int .i64 0]) RK.out 0 _ rfl) 1 _ rfl) hu rfl (by kernel_rfl)) rfl ?_
    exact ⟨rfl, below_set (below_set ((((Below.refl w.heap.size w).alloc (Nat.le_refl _) (Obj.cells #[Value.int IntKind.i64 a0_0, Value.int IntKind.i64 a0_1] 24)).alloc (by simp) (Obj.cells #[Value.int IntKind.i64 0, Value.int IntKind.i64 0] 24)).trans (hb1.mono (by simp; omega))) (by omega)) (by omega)⟩
  | true =>
    rw [if_pos rfl] at h
    obtain ⟨c, hg, h⟩ := Option.bind_eq_some_iff.mp h
    by_cases hb : (0 ≤ a0_0 ∧ a0_0 ≤ 5) ∧ c.length = 2 ^ a0_0.toNat
    case neg => rw [if_neg hb] at h; exact absurd h (by simp)
    rw [if_pos hb] at h
    simp only [Option.some.injEq, Prod.mk.injEq] at h
    obtain ⟨rfl, hr, rfl⟩ := h
    have hr := Aside0.mk hr
    have A2 := Aside0.mk hg
    have hln := Aside0.mk hb.2
    have hb0 := Aside0.mk hb.1
    clear hg hb
    go_enter Try.func27, Try.ntmps27
    go_wp2_with (go_at_call 29; refine (impl_IsBent.calls _ a0_0 a0_1 _ _ A1.out).mono ?_; rintro e w1 ⟨rfl, hb1⟩; have BK := Aside0.mk (blk_below (blk_alloc (blk_new w (Obj.cells #[Value.int IntKind.i64 a0_0, Value.int IntKind.i64 a0_1] 24)) (Obj.cells #[Value.int IntKind.i64 0, Value.int IntKind.i64 0] 24)) hb1); have hc0 := (blk_cell BK.out 0).trans rfl; have hc1 := (blk_cell BK.out 1).trans rfl)
    (with_reducible refine (impl_Table_spectrum.calls _ a0_0 a0_1 _ _ A2.out).mono ?_)
    rintro e w2 ⟨v0, rfl, hR0, hb2⟩
    obtain ⟨Ao, co, rfl⟩ := Kd.R_slice hR0
    have RK1 := Aside0.mk (blk_below (blk_new (w.alloc (Obj.cells #[Value.int IntKind.i64 a0_0, Value.int IntKind.i64 a0_1] 24)) (Obj.cells #[Value.int IntKind.i64 0, Value.int IntKind.i64 0] 24)) hb1)
    rw [s1.out] at RK1
    have RK2 := Aside0.mk (blk_below RK1.out hb2)
    have BK2 := Aside0.mk (blk_below BK.out hb2)
    have HB2 := Aside0.mk (below_step ((((Below.refl w.heap.size w).alloc (Nat.le_refl _) (Obj.cells #[Value.int IntKind.i64 a0_0, Value.int IntKind.i64 a0_1] 24)).alloc (by simp) (Obj.cells #[Value.int IntKind.i64 0, Value.int IntKind.i64 0] 24)).trans (hb1.mono (by simp; omega))) hb2)
    have HR := Aside0.mk hR0
    clear hb2 hb1 A2 A1 BK RK1 hc0 hc1 hR0
    have hc0 : (w2.alloc (Obj.cells #[Value.slice Ao c.length co] 45)).cell? ⟨w.heap.size, 0, none⟩ = some (.int .i64 a0_0) := (blk_cell (blk_alloc BK2.out (Obj.cells #[Value.slice Ao c.length co] 45)) 0).trans rfl
    have hcall := impl_makeTable.calls60 a0_0 hb0.out #[.pointer (some ⟨w2.heap.size, 0, none⟩)] (fun u => decide (rd c (u : Int) < 0)) (w2.alloc (Obj.cells #[Value.slice Ao c.length co] 45))
      (fun W x hW hx => impl_DualOfBent.in_calls c _ _ w2.heap.size _ x W (blk_below (blk_new w2 (Obj.cells #[Value.slice Ao c.length co] 45)) hW) (Kd.R_below (Kd.R_alloc HR.out _) hW) (by rw [hln.out]; exact hx))
    rw [hr.out] at hcall
    have RK3 := Aside0.mk (blk_alloc RK2.out (Obj.cells #[Value.slice Ao c.length co] 45))
    have HB3 := Aside0.mk (HB2.out.alloc (below_size HB2.out) (Obj.cells #[Value.slice Ao c.length co] 45))
    generalize c.length = N at hcall hc0 HR RK3 HB3 ⊢
    go_wp2_with (go_at_call 59; refine hcall.mono ?_; rintro e w3 ⟨rfl, hb3⟩; have RK := Aside0.mk (blk_below RK3.out hb3); have k0 := (blk_cell RK.out 0).trans rfl; have k1 := (blk_cell RK.out 1).trans rfl; have f0 := blk_frozen RK.out 0; have f1 := blk_frozen RK.out 1)
    refine bodyPost_ret (results_ct rfl _ _ (w.heap.size + 1) 24 #[.int .i64 a0_0, .int .i64 r2] (0, 0) _ rfl (blk_put (cs := #[.int .i64 a0_0, .int .i64 0]) (blk_put (cs := #[.int .i64 0, .int .i64 0]) RK.out 0 _ rfl) 1 _ rfl) hu rfl (by kernel_rfl)) rfl ?_
    exact ⟨rfl, below_set (below_set (HB3.out.trans (hb3.mono (below_size HB3.out))) (by omega)) (by omega)⟩

end Go.Proofs.Ytmnjhhlnnbadaaa.P
