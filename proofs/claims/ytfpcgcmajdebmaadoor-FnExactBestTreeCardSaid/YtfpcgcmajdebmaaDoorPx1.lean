-- Out of the translation, by this session's program over the printer's; Lean checks it.
import Derived.Test.YtfpcgcmajdebmaaDoorPx0
namespace Go.Proofs.YtfpcgcmajdebmaaDoor.P
open Go.RowKit Go.Proofs.YtfpcgcmajdebmaaDoorW.PrintWords Go.Proofs.YtfpcgcmajdebmaaDoorW.PrintLast Go.Proofs.YtfpcgcmajdebmaaDoorW.PrintMore
attribute [local go_sem] max2_int min2_int max_two min_two max_three min_three max_four min_four   -- for this text's walks alone
set_option linter.unusedVariables false
set_option linter.unusedSimpArgs false

/-! ### impl_Table_asking: function 10 -/
/-! The memo of the asker: a map keyed by what is known. -/
theorem impl_Table_asking.laidOut : laidOutB Tryd.prog = true := by kernel_rfl
theorem impl_Table_asking.row : (36 : Nat) < Tryd.prog.types.size := of_decide_eq_true (by kernel_rfl)
theorem impl_Table_asking.law : Go.Maps.Keyed Tryd.prog 36 := Go.Maps.Keyed.of_law (deep_law_laid impl_Table_asking.laidOut (m := 2) (by omega) impl_Table_asking.row (by kernel_rfl) (by kernel_rfl))
theorem impl_Table_asking.zero (w : World) : (zeroValue 3).run Tryd.prog w = .ok (.int .i64 0) w := by kernel_rfl
theorem impl_Table_asking.keyType : Tryd.prog.keyType 36 = true := by kernel_rfl
theorem impl_Table_asking.cells : Tryd.prog.cellsOf 36 = 2 := by kernel_rfl
theorem impl_Table_asking.cell : Tryd.prog.cellsOf 3 = 1 := by kernel_rfl
theorem impl_Table_asking.key_of (P : Program) (k i : TypeId) (f0 f1 : Field) (hu : P.underlying k = some (.struct #[f0, f1])) (h0 : f0.type = i ∧ f0.offset = 0 ∧ (f0.name != "_") = true) (h1 : f1.type = i ∧ f1.offset = 1 ∧ (f1.name != "_") = true)
    (hi : P.underlying i = some (.int .i64)) (hk : P.keyType k = true) (hc : P.cellsOf k = 2) (hd : P.cellsOf i = 1) (hs : ∃ d, P.types.size + 1 = d + 2) (m v : Int) (hm : (Lit.int .i64 m).wf = true) (hv : (Lit.int .i64 v).wf = true) :
    ∃ l, keyOf P k (.agg #[.int .i64 m, .int .i64 v]) = some l := by
  obtain ⟨h00, h01, h02⟩ := h0
  obtain ⟨h10, h11, h12⟩ := h1
  obtain ⟨d, hs⟩ := hs
  have e : ∀ x : Int, (Lit.int .i64 x).wf = true → P.keyLits (d + 1) i [.int .i64 x] = some [.int .i64 x] := fun x hx => by simp [Program.keyLits, hi, hx]
  have n0 : f0.name ≠ "_" := by simpa using h02
  have n1 : f1.name ≠ "_" := by simpa using h12
  have e2 : P.keyLits (d + 2) k [.int .i64 m, .int .i64 v] = some [.int .i64 m, .int .i64 v] := by
    rw [Program.keyLits.eq_def]
    simp [hu, hc, n0, n1, h00, h01, h10, h11, hd, e m hm, e v hv]
  refine ⟨.string (keyBytes [.int .i64 m, .int .i64 v]), ?_⟩
  unfold keyOf
  simp [hu, hk, Value.formed, hc, hs, Value.cells, e2]
theorem impl_Table_asking.key (m v : Int) (hm : (Lit.int .i64 m).wf = true) (hv : (Lit.int .i64 v).wf = true) : ∃ l, keyOf Tryd.prog 36 (.agg #[.int .i64 m, .int .i64 v]) = some l :=
  impl_Table_asking.key_of Tryd.prog 36 3 _ _ Tryd.underlying36 ⟨rfl, rfl, by decide⟩ ⟨rfl, rfl, by decide⟩ Tryd.underlying3 impl_Table_asking.keyType impl_Table_asking.cells impl_Table_asking.cell ⟨Tryd.prog.types.size - 1, by have := impl_Table_asking.row; omega⟩ m v hm hv
/-- Block B holds a map of at most k entries; R tells what an entry may hold. -/
def impl_Table_asking.memo (R : Int → Int → Int → Prop) (W : World) (B k : Nat) : Prop :=
  ∃ D : DataW Unit, W.ownsMap Tryd.prog 36 (plainElem Tryd.prog 3) B k D ∧
    ∀ m v l c, keyOf Tryd.prog 36 (.agg #[.int .i64 m, .int .i64 v]) = some l → Go.Maps.has D l = true → D.atKey l (.lit (.int .i64 0)) = .lit (.int .i64 c) → R m v c
theorem impl_Table_asking.memo.made (R : Int → Int → Int → Prop) (w : World) : impl_Table_asking.memo R (w.alloc (.map #[] 0)) w.heap.size 0 :=
  ⟨_, World.ownsMap_made _ _ _ _, fun m v l c _ h => by simp [Go.Maps.has] at h⟩
theorem impl_Table_asking.memo.kept {R : Int → Int → Int → Prop} {w w' : World} {B k : Nat} {row : Option Nat} (h : impl_Table_asking.memo R w B k) (hg : w.grownBy w' row) (hne : some B ≠ row) : impl_Table_asking.memo R w' B k := by
  obtain ⟨D, ho, hr⟩ := h
  exact ⟨D, ho.kept hg hne, hr⟩
theorem impl_Table_asking.memo.mono {R : Int → Int → Int → Prop} {w : World} {B k k' : Nat} (h : impl_Table_asking.memo R w B k) (hk : k ≤ k') : impl_Table_asking.memo R w B k' := by
  obtain ⟨D, ho, hr⟩ := h
  exact ⟨D, ho.mono hk, hr⟩
theorem impl_Table_asking.memo.lt {R : Int → Int → Int → Prop} {w : World} {B k : Nat} (h : impl_Table_asking.memo R w B k) : B < w.heap.size := by
  obtain ⟨D, ho, _⟩ := h
  exact ho.lt
theorem impl_Table_asking.memo.ne {R : Int → Int → Int → Prop} {w : World} {B k g : Nat} {cs : Array Value} {t : TypeId} {fr : Nat × Nat} (h : impl_Table_asking.memo R w B k) (hg : w.heap[g]? = some (.cells cs t fr)) : g ≠ B := by
  rintro rfl
  obtain ⟨D, ⟨es, clock, hb, _⟩, _⟩ := h
  rw [hg] at hb
  exact absurd hb (by simp)
theorem impl_Table_asking.memo.look {R : Int → Int → Int → Prop} {w : World} {B k : Nat} (h : impl_Table_asking.memo R w B k) {m v : Int} (hm : (Lit.int .i64 m).wf = true) (hv : (Lit.int .i64 v).wf = true) :
    ∃ c b, (Instr.lookup 40 (.map (some B)) (.agg #[.int .i64 m, .int .i64 v]) true).run Tryd.prog w = .ok (.tuple #[.int .i64 c, .bool b]) w ∧ (b = true → R m v c) := by
  obtain ⟨D, ho, hr⟩ := h
  obtain ⟨l, hl⟩ := impl_Table_asking.key m v hm hv
  obtain ⟨x, ps, hrun, hx⟩ := ho.look_ok impl_Table_asking.law Tryd.underlying40 (impl_Table_asking.zero w) (plainElem_int Tryd.underlying3 (by decide)) hl
  obtain ⟨c, rfl, hc, _⟩ := plainElem_int_inv Tryd.underlying3 hx
  exact ⟨c, _, hrun, fun hb => hr m v l c hl hb (congrArg Prod.fst hc)⟩
theorem impl_Table_asking.memo.store {R : Int → Int → Int → Prop} {w : World} {B k : Nat} (h : impl_Table_asking.memo R w B k) (hk : k < maxLen) {m v c : Int} (hm : (Lit.int .i64 m).wf = true) (hv : (Lit.int .i64 v).wf = true) (hc : (Lit.int .i64 c).wf = true) (hR : R m v c) :
    ∃ w', (Instr.mapUpdate 40 (.map (some B)) (.agg #[.int .i64 m, .int .i64 v]) (.int .i64 c)).run Tryd.prog w = .ok () w' ∧ impl_Table_asking.memo R w' B (k + 1) ∧ w.mapTurned w' B := by
  obtain ⟨D, ho, hr⟩ := h
  obtain ⟨l, hl⟩ := impl_Table_asking.key m v hm hv
  obtain ⟨w', hrun, ho', ht⟩ := ho.store impl_Table_asking.law Tryd.underlying40 hk hl (plainElem_int Tryd.underlying3 hc)
  refine ⟨w', hrun, ⟨_, ho', fun m' v' l' c' hl' hh hat => ?_⟩, ht⟩
  by_cases e : l' = l
  · subst e
    have e2 := impl_Table_asking.law.inj hl hl'
    injection e2 with e3
    have e4 : m = m' ∧ v = v' := by simpa using e3
    obtain ⟨rfl, rfl⟩ := e4
    rw [Go.Maps.atKey_put_same ho.isMap (impl_Table_asking.law.key hl)] at hat
    injection hat with e5
    injection e5 with _ e6
    subst e6
    exact hR
  · rw [Go.Maps.has_put_other e] at hh
    rw [Go.Maps.atKey_put_other e] at hat
    exact hr m' v' l' c' hl' hh hat
/-- An asker at block g. -/
structure impl_Table_asking.S (n W : Int) (RD RS : Int → Int → Int → Prop) (g BD BS k : Nat) (w : World) : Prop where
  blk : w.heap[g]? = some (.cells #[.int .i64 n, .int .i64 W, .map (some BD), .map (some BS)] 42 (0, 0))
  depth : impl_Table_asking.memo RD w BD k
  sum : impl_Table_asking.memo RS w BS k
  apart : BD ≠ BS
theorem impl_Table_asking.S.kept {n W : Int} {RD RS : Int → Int → Int → Prop} {g BD BS k : Nat} {w w' : World} (h : impl_Table_asking.S n W RD RS g BD BS k w) (hb : Below w.heap.size w w') : impl_Table_asking.S n W RD RS g BD BS k w' :=
  ⟨blk_below h.blk hb, h.depth.kept (grown_of_below hb none) (by simp), h.sum.kept (grown_of_below hb none) (by simp), h.apart⟩
theorem impl_Table_asking.S.mono {n W : Int} {RD RS : Int → Int → Int → Prop} {g BD BS k k' : Nat} {w : World} (h : impl_Table_asking.S n W RD RS g BD BS k w) (hk : k ≤ k') : impl_Table_asking.S n W RD RS g BD BS k' w :=
  ⟨h.blk, h.depth.mono hk, h.sum.mono hk, h.apart⟩
theorem impl_Table_asking.S.far {n W : Int} {RD RS : Int → Int → Int → Prop} {g BD BS k : Nat} {w : World} (h : impl_Table_asking.S n W RD RS g BD BS k w) {p : Addr} (h1 : g ≠ p.block) (h2 : BD ≠ p.block) (h3 : BS ≠ p.block) (u : Value) : impl_Table_asking.S n W RD RS g BD BS k (w.setCell p u) := by
  obtain ⟨hb, ⟨D, ho, hr⟩, ⟨E, hp, hq⟩, ha⟩ := h
  exact ⟨blk_far hb h1 u, ⟨D, ho.setCell h2 u, hr⟩, ⟨E, hp.setCell h3 u, hq⟩, ha⟩
theorem impl_Table_asking.S.drewN {n W : Int} {RD RS : Int → Int → Int → Prop} {g BD BS k : Nat} {w : World} (h : impl_Table_asking.S n W RD RS g BD BS k w) (m : Nat) : impl_Table_asking.S n W RD RS g BD BS k (w.drewN m) := h.kept (pw_below_drewN (Below.refl _ _) m)
theorem impl_Table_asking.S.stored {n W : Int} {RD RS : Int → Int → Int → Prop} {g BD BS k : Nat} {w w' : World} (h : impl_Table_asking.S n W RD RS g BD BS k w) (hm : impl_Table_asking.memo RD w' BD (k + 1)) (ht : w.mapTurned w' BD) : impl_Table_asking.S n W RD RS g BD BS (k + 1) w' :=
  ⟨blk_grown h.blk ht.grown (by have := h.depth.ne h.blk; simp [this]), hm, (h.sum.kept ht.grown (by have := h.apart; simp; omega)).mono (by omega), h.apart⟩
theorem impl_Table_asking.S.stored2 {n W : Int} {RD RS : Int → Int → Int → Prop} {g BD BS k : Nat} {w w' : World} (h : impl_Table_asking.S n W RD RS g BD BS k w) (hm : impl_Table_asking.memo RS w' BS (k + 1)) (ht : w.mapTurned w' BS) : impl_Table_asking.S n W RD RS g BD BS (k + 1) w' :=
  ⟨blk_grown h.blk ht.grown (by have := h.sum.ne h.blk; simp [this]), (h.depth.kept ht.grown (by have := h.apart; simp; omega)).mono (by omega), hm, h.apart⟩
set_option maxHeartbeats 4000000 in
set_option maxRecDepth 100000 in
theorem impl_Table_asking.calls (n W : Int) (RD RS : Int → Int → Int → Prop) (w : World) :
    Calls Tryd.prog 10 #[.agg #[.int .i64 n, .int .i64 W]] w fun e w' => ∃ g BD BS, e = .returned (.pointer (some ⟨g, 0, none⟩)) ∧ impl_Table_asking.S n W RD RS g BD BS 0 w' ∧ w.heap.size ≤ g ∧ w.heap.size ≤ BD ∧ w.heap.size ≤ BS ∧ Below w.heap.size w w' := by
  have hu := Tryd.underlying26
  have hua := Tryd.underlying42
  have hmm := @run_makeMap Tryd.prog
  go_enter Tryd.func10, Tryd.ntmps10
  go_wp2_with fail
  go_ret
  have hb0 : Below w.heap.size w (w.alloc (Obj.cells #[Value.int IntKind.i64 n, Value.int IntKind.i64 W] 26)) := below_alloc (Below.refl _ _) _
  have s1 : (w.alloc (Obj.cells #[Value.int IntKind.i64 n, Value.int IntKind.i64 W] 26)).heap.size = w.heap.size + 1 := by simp
  generalize w.alloc (Obj.cells #[Value.int IntKind.i64 n, Value.int IntKind.i64 W] 26) = w1 at hb0 s1 ⊢
  have hb1 : Below w.heap.size w (w1.alloc (Obj.map #[] 0)) := below_alloc hb0 _
  have m1 := impl_Table_asking.memo.made RD w1
  have s2 : (w1.alloc (Obj.map #[] 0)).heap.size = w.heap.size + 1 + 1 := by simp [s1]
  rw [s1] at m1
  generalize w1.alloc (Obj.map #[] 0) = w2 at hb1 s2 m1 ⊢
  have hb2 : Below w.heap.size w (w2.alloc (Obj.map #[] 0)) := below_alloc hb1 _
  have m2 := impl_Table_asking.memo.made RS w2
  replace m1 : impl_Table_asking.memo RD (w2.alloc (Obj.map #[] 0)) (w.heap.size + 1) 0 := m1.kept (World.grownBy_alloc w2 _ none) (by simp)
  have s3 : (w2.alloc (Obj.map #[] 0)).heap.size = w.heap.size + 1 + 1 + 1 := by simp [s2]
  rw [s2] at m2
  generalize w2.alloc (Obj.map #[] 0) = w3 at hb2 s3 m1 m2 ⊢
  have b3 := blk_new w3 (Obj.cells #[Value.int IntKind.i64 n, Value.int IntKind.i64 W, Value.map (some (w.heap.size + 1)), Value.map (some (w.heap.size + 1 + 1))] 42)
  rw [s3] at b3
  exact ⟨_, _, _, rfl, ⟨b3, m1.kept (World.grownBy_alloc w3 _ none) (by simp), m2.kept (World.grownBy_alloc w3 _ none) (by simp), by omega⟩, by omega, by omega, by omega, below_alloc hb2 _⟩

/-! ### impl_known_with: function 19 -/
def impl_known_with.f (a0_0 : Int) (a0_1 : Int) (a1 : Int) (a2 : Int) : Option (Int × Int) := if 0 ≤ a1 then (some (Go.bits .or .i64 a0_0 (shl .i64 1 a1), Go.bits .or .i64 a0_1 (shl .i64 a2 a1))) else (none)
def impl_known_with.T1 : Bool × List (List Nat × List Nat) := (true, [([], []), ([0], [0]), ([], []), ([2], [2]), ([1, 3], [1, 3]), ([], []), ([5], [5]), ([], []), ([], []), ([7, 8], [7, 8]), ([6, 9], [6, 9]), ([4, 10], [4, 10]), ([11, 0, 1, 2, 3, 4, 5, 6, 7, 8, 9, 10, 11], [11])])
def impl_known_with.B1 : List Nat := [0, 1, 0, 4, 15, 0, 32, 0, 0, 384, 992, 2047, 4095]
theorem impl_known_with.tab1 : rtab .any (opsOf Tryd.f19 1) = impl_known_with.T1 := by kernel_rfl
theorem impl_known_with.bits1 : waitsOk impl_known_with.T1.2 impl_known_with.B1 = true := by kernel_rfl
set_option maxHeartbeats 8000000 in
set_option maxRecDepth 100000 in
theorem impl_known_with.calls (a0_0 : Int) (a0_1 : Int) (a1 : Int) (a2 : Int) (r1 : Int) (r2 : Int) (w : World) (h : impl_known_with.f a0_0 a0_1 a1 a2 = some (r1, r2)) :
    Calls Tryd.prog 19 #[.agg #[.int .i64 a0_0, .int .i64 a0_1], .int .i64 a1, .int .i64 a2] w fun e w' => e = .returned (.agg #[.int .i64 r1, .int .i64 r2]) ∧ Below w.heap.size w w' := by
  have hu36 := Tryd.underlying36
  have HB := Aside0.mk (Below.refl w.heap.size w)
  have H : (if 0 ≤ a1 then (some (Go.bits .or .i64 a0_0 (shl .i64 1 a1), Go.bits .or .i64 a0_1 (shl .i64 a2 a1))) else (none)) = some (r1, r2) := h
  clear h
  by_cases c4 : 0 ≤ a1
  · rw [if_pos c4] at H
    have c4b0 := eq_true c4
    have c4b1 : decide (0 ≤ a1) = true := decide_eq_true c4
    clear c4
    obtain ⟨ji5, hji5⟩ : ∃ j_ : Int, (shl .i64 1 a1) = j_ := ⟨_, rfl⟩
    replace H : (some (Go.bits .or .i64 a0_0 (ji5), Go.bits .or .i64 a0_1 (shl .i64 a2 a1))) = some (r1, r2) := by first | (rw [hji5] at H; exact H) | (simp only [hji5] at H ⊢; exact H)
    have hji5_ : (IntKind.i64.wrap (1 * 2 ^ min a1.toNat 64)) = ji5 := hji5
    have hji5z : a1 ≤ 64 → (IntKind.i64.wrap (1 * 2 ^ a1.toNat)) = ji5 := shl_small hji5
    have hji5u : (IntKind.i64.wrap (2 ^ min a1.toNat 64)) = ji5 := by have h_ := hji5_; rw [Int.one_mul] at h_; exact h_
    have hji5v : a1 ≤ 64 → (IntKind.i64.wrap (2 ^ a1.toNat)) = ji5 := fun hle_ => by have h_ := hji5z hle_; rw [Int.one_mul] at h_; exact h_
    have hji5y : (wrap64 (1 * 2 ^ min a1.toNat 64)) = ji5 := (i64_w _).symm.trans hji5_
    have hji5x : a1 ≤ 64 → (wrap64 (1 * 2 ^ a1.toNat)) = ji5 := fun h_ => (i64_w _).symm.trans (hji5z h_)
    have c6b0 := eq_true (of_decide_eq_true (by first | (with_reducible assumption) | assumption) : 0 ≤ a1)
    obtain ⟨ji7, hji7⟩ : ∃ j_ : Int, (shl .i64 a2 a1) = j_ := ⟨_, rfl⟩
    replace H : (some (Go.bits .or .i64 a0_0 (ji5), Go.bits .or .i64 a0_1 (ji7))) = some (r1, r2) := by first | (rw [hji7] at H; exact H) | (simp only [hji7] at H ⊢; exact H)
    have hji7_ : (IntKind.i64.wrap (a2 * 2 ^ min a1.toNat 64)) = ji7 := hji7
    have hji7z : a1 ≤ 64 → (IntKind.i64.wrap (a2 * 2 ^ a1.toNat)) = ji7 := shl_small hji7
    have hji7y : (wrap64 (a2 * 2 ^ min a1.toNat 64)) = ji7 := (i64_w _).symm.trans hji7_
    have hji7x : a1 ≤ 64 → (wrap64 (a2 * 2 ^ a1.toNat)) = ji7 := fun h_ => (i64_w _).symm.trans (hji7z h_)
    simp only [Option.some.injEq, Prod.mk.injEq] at H
    obtain ⟨rfl, rfl⟩ := H
    go_enter Tryd.func19, Tryd.ntmps19
    try go_wp2_with (first | ((with_reducible refine gate_dst (N := 3) rfl ?_); refine box_event ?hg (N := 3) ?hd (cs := #[.int .i64 a0_0, .int .i64 a0_1]) (t := 36) ?hr ?_; (case hd => rfl); (case hg => rfl); (case hr => first | (go_simp; done) | (go_simp; rfl)); intro gb161 hg w8 hbox hb; have n0_ := Aside0.mk (below_step (by repeat (first | (with_reducible first | exact HB.out | apply below_alloc | apply pw_below_drewN | apply below_drew1) | exact HB.out)) hb); have n1_ := Aside0.mk (hbox); have n2_ := Aside0.mk ((by rw [hg]; exact (below_size (by repeat (first | (with_reducible first | exact HB.out | apply below_alloc | apply pw_below_drewN | apply below_drew1) | exact HB.out))) : w.heap.size ≤ gb161)); have n3_ := Aside0.mk ((by rw [hg]; exact (below_size (by repeat (first | (with_reducible first | exact HB.out | apply below_alloc | apply pw_below_drewN | apply below_drew1) | exact HB.out))) : w.heap.size ≤ gb161)); clear HB; have HB := n0_; have BK161 := n1_; have GW161 := n2_; have GE161 := n3_; clear n0_ n1_ n2_ n3_; clear hb hbox hg) | ((with_reducible refine gate_dst (N := 6) rfl ?_); refine box_event ?hg (N := 6) ?hd (cs := #[.int .i64 0, .int .i64 0]) (t := 36) ?hr ?_; (case hd => rfl); (case hg => rfl); (case hr => first | (go_simp; done) | (go_simp; rfl)); intro gb162 hg w9 hbox hb; have n0_ := Aside0.mk (blk_below (g := gb161) (o := .cells #[.int .i64 a0_0, .int .i64 a0_1] 36 (0, 0)) (by (with_reducible repeat (first | refine blk_drewN ?_ _ | refine blk_drew ?_ | refine blk_alloc ?_ _)); exact BK161.out) hb); have n1_ := Aside0.mk (below_step (by repeat (first | (with_reducible first | exact HB.out | apply below_alloc | apply pw_below_drewN | apply below_drew1 | refine below_set ?_ GE161.out) | exact HB.out)) hb); have n2_ := Aside0.mk (hbox); have n3_ := Aside0.mk ((by rw [hg]; exact (below_size (by repeat (first | (with_reducible first | exact HB.out | apply below_alloc | apply pw_below_drewN | apply below_drew1 | refine below_set ?_ GE161.out) | exact HB.out))) : w.heap.size ≤ gb162)); have n4_ := Aside0.mk ((by rw [hg]; exact (below_size (by repeat (first | (with_reducible first | exact HB.out | apply below_alloc | apply pw_below_drewN | apply below_drew1 | refine below_set ?_ GE161.out) | exact HB.out))) : w.heap.size ≤ gb162)); have n5_ := Aside0.mk ((by rw [hg]; exact Nat.ne_of_lt (blk_lt (g := gb161) (o := .cells #[.int .i64 a0_0, .int .i64 a0_1] 36 (0, 0)) (by (with_reducible repeat (first | refine blk_drewN ?_ _ | refine blk_drew ?_ | refine blk_alloc ?_ _)); exact BK161.out)) : gb161 ≠ gb162)); have n6_ := Aside0.mk ((by rw [hg]; exact Nat.ne_of_gt (blk_lt (g := gb161) (o := .cells #[.int .i64 a0_0, .int .i64 a0_1] 36 (0, 0)) (by (with_reducible repeat (first | refine blk_drewN ?_ _ | refine blk_drew ?_ | refine blk_alloc ?_ _)); exact BK161.out)) : gb162 ≠ gb161)); clear BK161; clear HB; have BK161 := n0_; have HB := n1_; have BK162 := n2_; have GW162 := n3_; have GE162 := n4_; have NB161_162 := n5_; have NB162_161 := n6_; clear n0_ n1_ n2_ n3_ n4_ n5_ n6_; clear hb hbox hg))
    have n0_ := Aside0.mk (blk_drew BK161.out)
    have n1_ := Aside0.mk (blk_drew BK162.out)
    have n2_ := Aside0.mk (below_drew1 HB.out)
    clear BK161
    clear BK162
    clear HB
    have BK161 := n0_
    have BK162 := n1_
    have HB := n2_
    clear n0_ n1_ n2_
    refine start_ (n := 13) (S := fun w' => w'.cell? ⟨gb161, 0, none⟩ = some (.int .i64 a0_0) ∧ w'.cell? ⟨gb161, 1, none⟩ = some (.int .i64 a0_1)) (ds := []) #[false, false, false, false, false, false, false, false, false, false, false, false, false] (by kernel_rfl) rfl rfl ⟨(blk_cell BK161.out 0).trans rfl, (blk_cell BK161.out 1).trans rfl⟩ (fun hHeld => ?_); refine with_tabW impl_known_with.tab1 impl_known_with.bits1 (fun HT_ HW_ => ?_)
    generalize w9.drew = w10 at BK161 BK162 HB hHeld ⊢
    refine pure_ (i := 0) (N := some 7) (v := ?_) (a' := ?_) #[true, false, false, false, false, false, false, false, false, false, false, false, false] rfl rfl (any_of HT_.out (by kernel_rfl)) (fun _ _ _ h => h) (Or.inl ⟨by rfl, ?_⟩) ?_ ?_
    rotate_left
    · intro w'
      go_simp
      with_reducible rfl
    rotate_left
    · simp only [Act.put, List.setIfInBounds_toArray, List.set_cons_zero, List.set_cons_succ, i64_w, i32_w]
      rfl
    refine pure_ (i := 2) (N := some 9) (v := ?_) (a' := ?_) #[true, false, true, false, false, false, false, false, false, false, false, false, false] rfl rfl (any_of HT_.out (by kernel_rfl)) (fun _ _ _ h => h) (Or.inl ⟨by rfl, ?_⟩) ?_ ?_
    rotate_left
    · intro w'
      go_simp
      with_reducible rfl
    rotate_left
    · simp only [Act.put, List.setIfInBounds_toArray, List.set_cons_zero, List.set_cons_succ, i64_w, i32_w]
      rfl
    refine pure_ (i := 3) (N := some 10) (v := ?_) (a' := ?_) #[true, false, true, true, false, false, false, false, false, false, false, false, false] rfl rfl (any_of HT_.out (by kernel_rfl)) (fun _ _ _ h => h) (Or.inl ⟨by rfl, ?_⟩) ?_ ?_
    rotate_left
    · intro w'
      go_simp
      with_reducible rfl
    rotate_left
    · simp only [Act.put, List.setIfInBounds_toArray, List.set_cons_zero, List.set_cons_succ, i64_w, i32_w]
      rfl
    refine pure_ (i := 5) (N := some 12) (v := ?_) (a' := ?_) #[true, false, true, true, false, true, false, false, false, false, false, false, false] rfl rfl (any_of HT_.out (by kernel_rfl)) (fun _ _ _ h => h) (Or.inl ⟨by rfl, ?_⟩) ?_ ?_
    rotate_left
    · intro w'
      go_simp
      with_reducible rfl
    rotate_left
    · simp only [Act.put, List.setIfInBounds_toArray, List.set_cons_zero, List.set_cons_succ, i64_w, i32_w]
      rfl
    refine pure_ (i := 7) (N := some 14) (v := ?_) (a' := ?_) #[true, false, true, true, false, true, false, true, false, false, false, false, false] rfl rfl (any_of HT_.out (by kernel_rfl)) (fun _ _ _ h => h) (Or.inl ⟨by rfl, ?_⟩) ?_ ?_
    rotate_left
    · intro w'
      go_simp
      with_reducible rfl
    rotate_left
    · simp only [Act.put, List.setIfInBounds_toArray, List.set_cons_zero, List.set_cons_succ, i64_w, i32_w]
      rfl
    refine pure_ (i := 8) (N := some 15) (v := ?_) (a' := ?_) #[true, false, true, true, false, true, false, true, true, false, false, false, false] rfl rfl (any_of HT_.out (by kernel_rfl)) (fun _ _ _ h => h) (Or.inl ⟨by rfl, ?_⟩) ?_ ?_
    rotate_left
    · intro w'
      go_simp
      with_reducible rfl
    rotate_left
    · simp only [Act.put, List.setIfInBounds_toArray, List.set_cons_zero, List.set_cons_succ, i64_w, i32_w]
      rfl
    refine pure_ (i := 9) (N := some 16) (v := ?_) (a' := ?_) #[true, false, true, true, false, true, false, true, true, true, false, false, false] rfl rfl (any_of HT_.out (by kernel_rfl)) (fun _ _ _ h => h) (Or.inl ⟨by rfl, ?_⟩) ?_ ?_
    rotate_left
    · intro w'
      go_simp
      with_reducible rfl
    rotate_left
    · simp only [Act.put, List.setIfInBounds_toArray, List.set_cons_zero, List.set_cons_succ, i64_w, i32_w]
      rfl
    refine take_ (i := 1) (N := some 8) (v := ?_) (a' := ?_) #[true, true, true, true, false, true, false, true, true, true, false, false, false] rfl rfl (take_ofW HT_.out HW_.out (by kernel_rfl)) (fun _ _ _ h => h) (Or.inl ⟨by rfl, ?_⟩) hHeld ?_ ?_
    rotate_left
    · rintro w' ⟨s0, s1⟩
      go_simp
      with_reducible rfl
    rotate_left
    · simp only [Act.put, List.setIfInBounds_toArray, List.set_cons_zero, List.set_cons_succ, i64_w, i32_w]
      rfl
    refine pure_ (i := 4) (N := some 11) (v := ?_) (a' := ?_) #[true, true, true, true, true, true, false, true, true, true, false, false, false] rfl rfl (any_of HT_.out (by kernel_rfl)) (fun _ _ _ h => h) (Or.inl ⟨by rfl, ?_⟩) ?_ ?_
    rotate_left
    · intro w'
      go_simp
      with_reducible rfl
    rotate_left
    · simp only [Act.put, List.setIfInBounds_toArray, List.set_cons_zero, List.set_cons_succ, i64_w, i32_w]
      rfl
    refine take_ (i := 6) (N := some 13) (v := ?_) (a' := ?_) #[true, true, true, true, true, true, true, true, true, true, false, false, false] rfl rfl (take_ofW HT_.out HW_.out (by kernel_rfl)) (fun _ _ _ h => h) (Or.inl ⟨by rfl, ?_⟩) hHeld ?_ ?_
    rotate_left
    · rintro w' ⟨s0, s1⟩
      go_simp
      with_reducible rfl
    rotate_left
    · simp only [Act.put, List.setIfInBounds_toArray, List.set_cons_zero, List.set_cons_succ, i64_w, i32_w]
      rfl
    refine pure_ (i := 10) (N := some 17) (v := ?_) (a' := ?_) #[true, true, true, true, true, true, true, true, true, true, true, false, false] rfl rfl (any_of HT_.out (by kernel_rfl)) (fun _ _ _ h => h) (Or.inl ⟨by rfl, ?_⟩) ?_ ?_
    rotate_left
    · intro w'
      go_simp
      with_reducible rfl
    rotate_left
    · simp only [Act.put, List.setIfInBounds_toArray, List.set_cons_zero, List.set_cons_succ, i64_w, i32_w]
      rfl
    refine pure_ (i := 11) (N := some 18) (v := ?_) (a' := ?_) #[true, true, true, true, true, true, true, true, true, true, true, true, false] rfl rfl (any_of HT_.out (by kernel_rfl)) (fun _ _ _ h => h) (Or.inl ⟨by rfl, ?_⟩) ?_ ?_
    rotate_left
    · intro w'
      go_simp
      with_reducible rfl
    rotate_left
    · simp only [Act.put, List.setIfInBounds_toArray, List.set_cons_zero, List.set_cons_succ, i64_w, i32_w]
      rfl
    refine one_ (i := 12) (N := none) #[true, true, true, true, true, true, true, true, true, true, true, true, true] rfl rfl (one_of HT_.out (by kernel_rfl)) (by decide) (fun K hK => ?_)
    have hs11 : w10.cell? ⟨gb162, 0, none⟩ = some (.int .i64 0) := (blk_cell BK162.out 0).trans rfl
    have hfs11 := blk_frozen BK162.out 0
    have hns11_0 := NB161_162.out
    have hms11_0 := NB162_161.out
    have hs12 : w10.cell? ⟨gb162, 1, none⟩ = some (.int .i64 0) := (blk_cell BK162.out 1).trans rfl
    have hfs12 := blk_frozen BK162.out 1
    have hns12_0 := NB161_162.out
    have hms12_0 := NB162_161.out
    refine skip_ (w1 := ?_) (by rfl) rfl ?_ ?_
    rotate_left
    · go_simp
      rfl
    refine hK.out _ _ ⟨((cell_far (p := ⟨gb162, _, none⟩) NB161_162.out _).trans (((cell_far (p := ⟨gb162, _, none⟩) NB161_162.out _).trans (hHeld.1)))), ((cell_far (p := ⟨gb162, _, none⟩) NB161_162.out _).trans (((cell_far (p := ⟨gb162, _, none⟩) NB161_162.out _).trans (hHeld.2))))⟩ (fun hHeld => ?_)
    clear hK K
    refine done_ (done_of HT_.out (by kernel_rfl)) ?_
    try go_wp2
    refine bodyPost_ret (results_cell_row rfl _ _ gb162 36 #[.int .i64 (Go.bits .or .i64 a0_0 (ji5)), .int .i64 (Go.bits .or .i64 a0_1 (ji7))] (0, 0) _ rfl (by (with_reducible repeat (first | refine blk_drewN ?_ _ | refine blk_drew ?_ | refine blk_alloc ?_ _)); refine blk_put (cs := #[.int .i64 (Go.bits .or .i64 a0_0 (ji5)), .int .i64 0]) ?_ 1 _ rfl; (with_reducible repeat (first | refine blk_drewN ?_ _ | refine blk_drew ?_ | refine blk_alloc ?_ _)); refine blk_put (cs := #[.int .i64 0, .int .i64 0]) ?_ 0 _ rfl; (with_reducible repeat (first | refine blk_drewN ?_ _ | refine blk_drew ?_ | refine blk_alloc ?_ _)); exact BK162.out) Tryd.underlying36 rfl (by kernel_rfl)) rfl ?_
    exact ⟨by first | rfl | (simp [errW_none, errW_some] <;> rfl) | (simp only [← hji5, ← hji7]; first | rfl | (simp [errW_none, errW_some] <;> rfl)) | (simp [*, errW_none, errW_some] <;> rfl), by repeat (first | (with_reducible first | exact HB.out | apply below_alloc | apply pw_below_drewN | apply below_drew1 | refine below_set ?_ GE161.out | refine below_set ?_ GE162.out) | exact HB.out)⟩
  · rw [if_neg c4] at H
    exact absurd H (by simp)

end Go.Proofs.YtfpcgcmajdebmaaDoor.P
