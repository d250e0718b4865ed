-- Out of the translation, by this session's program over the printer's; Lean checks it.
import Derived.Test.YtfpcgcmajdebmaaDoorPx0
import Derived.Test.YtfpcgcmajdebmaaDoorPx1
import Derived.Test.YtfpcgcmajdebmaaDoorPx7
import Derived.Test.YtfpcgcmajdebmaaDoorPx8
import Derived.Test.YtfpcgcmajdebmaaDoorPx9
namespace Go.Proofs.YtfpcgcmajdebmaaDoor.P
open Go.RowKit Go.Proofs.YtfpcgcmajdebmaaDoorW.PrintWords Go.Proofs.YtfpcgcmajdebmaaDoorW.PrintLast Go.Proofs.YtfpcgcmajdebmaaDoorW.PrintMore
attribute [local go_sem] max2_int min2_int max_two min_two max_three min_three max_four min_four   -- for this text's walks alone
set_option linter.unusedVariables false
set_option linter.unusedSimpArgs false

/-! ### impl_asker_best: function 11 -/
/-- The text of the best tree from what is known on. -/
def impl_asker_best.f (n W : Int) : Nat → Int → Int → Option ByteArray
  | 0, _, _ => none
  | d + 1, m, v => (impl_asker_first.f n W m v).bind fun i => if i < 0 then (impl_Table_cube.f n W m v).bind fun c => impl_FormatInt.f c
    else if i ≤ 4 then (impl_known_with.f m v i 0).bind fun k0 => (impl_asker_best.f n W d k0.1 k0.2).bind fun x => (impl_known_with.f m v i 1).bind fun k1 => (impl_asker_best.f n W d k1.1 k1.2).bind fun y =>
      if x.size ≤ 1000 ∧ y.size ≤ 1000 then some ((strOfNums [IntKind.u8.wrap (97 + IntKind.u8.wrap i)] ++ x) ++ y) else none
    else none
def impl_asker_best.cost : Nat → Nat
  | 0 => 0
  | d + 1 => 11 * impl_asker_left.cost 6 + impl_asker_best.cost d + impl_asker_best.cost d
def impl_asker_best.T4 : Bool × List (List Nat × List Nat) := (true, [([], []), ([0], [0]), ([1], [1]), ([2], [2]), ([3], [3]), ([], []), ([], []), ([], []), ([6, 7], [6, 7]), ([5, 8, 8], [5, 8]), ([4, 9], [4, 9]), ([], []), ([], []), ([], []), ([12, 13, 9], [12, 13]), ([11, 14, 14], [11, 14]), ([10, 15], [10, 15]), ([16, 15, 0, 1, 2, 3, 4, 5, 6, 7, 8, 9, 10, 11, 12, 13, 14, 15, 16], [16])])
def impl_asker_best.B4 : List Nat := [0, 1, 3, 7, 15, 0, 0, 0, 192, 480, 1023, 0, 0, 0, 13280, 31712, 65535, 131071]
theorem impl_asker_best.tab4 : rtab .any (opsOf Tryd.f11 4) = impl_asker_best.T4 := by kernel_rfl
theorem impl_asker_best.bits4 : waitsOk impl_asker_best.T4.2 impl_asker_best.B4 = true := by kernel_rfl
set_option maxHeartbeats 4000000 in
set_option maxRecDepth 100000 in
theorem impl_asker_best.calls (n W : Int) (RS : Int → Int → Int → Prop) (g BD BS : Nat) : ∀ (d : Nat) (m v : Int) (r : ByteArray) (k : Nat) (w : World), impl_asker_best.f n W d m v = some r → (Lit.int .i64 m).wf = true → (Lit.int .i64 v).wf = true →
    impl_Table_asking.S n W (impl_asker_left.R n W) RS g BD BS k w → k + impl_asker_best.cost d < 4294967296 →
    Calls Tryd.prog 11 #[.pointer (some ⟨g, 0, none⟩), .agg #[.int .i64 m, .int .i64 v]] w fun e w' => e = .returned (.string r) ∧ impl_Table_asking.S n W (impl_asker_left.R n W) RS g BD BS (k + impl_asker_best.cost d) w' ∧ w.grownBy w' (some BD) := by
  intro d
  induction d with
  | zero => intro m v r k w h; simp [impl_asker_best.f] at h
  | succ d ih =>
    intro m v r k w h wm wv hS hk
    have IH := Aside0.mk ih
    have HS := Aside0.mk hS
    have hu := Tryd.underlying36
    have hua := Tryd.underlying42
    have hut := Tryd.underlying26
    clear ih hS
    rw [impl_asker_best.f] at h
    rw [impl_asker_best.cost] at hk ⊢
    obtain ⟨i, hi, h⟩ := Option.bind_eq_some_iff.mp h
    have AI := Aside0.mk hi
    have FC := Aside0.mk (fun k w hS hk => impl_asker_first.calls n W RS g BD BS m v i k w hi wm wv hS hk)
    clear hi
    generalize 11 * impl_asker_left.cost 6 = F at FC hk ⊢
    have HK := Aside0.mk hk
    have HKF : Aside0 (k + F < 4294967296) := ⟨by omega⟩
    clear hk
    by_cases h0 : i < 0
    · rw [if_pos h0] at h
      obtain ⟨c, hc, h⟩ := Option.bind_eq_some_iff.mp h
      have AC := Aside0.mk hc
      have AF := Aside0.mk h
      have hd : decide (i < 0) = true := decide_eq_true h0
      clear h hc h0
      go_enter Tryd.func11, Tryd.ntmps11
      go_wp2_with (first | ((with_reducible refine gate_dst (N := 3) rfl ?_); refine box_event ?hg (N := 3) ?hd (cs := #[.int .i64 m, .int .i64 v]) (t := 36) ?hr ?_; (case hd => rfl); (case hg => rfl); (case hr => first | (go_simp; done) | (go_simp; rfl)); intro gb hg w1 hbox hb; have S1 := Aside0.mk (HS.out.kept hb); have RK := Aside0.mk hbox; have G1 := Aside0.mk (grown_of_below hb (some BD)); clear hg hbox hb; have k0 := (blk_cell RK.out 0).trans rfl; have k1 := (blk_cell RK.out 1).trans rfl) | (go_at_call 16; (with_reducible refine (FC.out k w1 S1.out HKF.out).mono ?_); rintro e w2 ⟨rfl, hs2, hg2⟩; have S2 := Aside0.mk hs2; have RK2 := Aside0.mk (blk_grown RK.out hg2 (by have := S1.out.depth.ne RK.out; simp [this])); have G2 := Aside0.mk (G1.out.trans hg2); clear hs2 hg2; have k0 := (blk_cell RK2.out 0).trans rfl; have k1 := (blk_cell RK2.out 1).trans rfl; have c0 := (blk_cell S2.out.blk 0).trans rfl; have c1 := (blk_cell S2.out.blk 1).trans rfl))
      go_region_held3 (fun w' => w'.cell? ⟨g, 0, none⟩ = some (.int .i64 n) ∧ w'.cell? ⟨g, 1, none⟩ = some (.int .i64 W) ∧ w'.cell? ⟨gb, 0, none⟩ = some (.int .i64 m) ∧ w'.cell? ⟨gb, 1, none⟩ = some (.int .i64 v)) (first | go_keep | exact ⟨pw_cell_below hb3 c0, pw_cell_below hb3 c1, pw_cell_below hb3 k0, pw_cell_below hb3 k1⟩)
        (first
          | (go_at_call 18; (with_reducible refine (impl_Table_cube.calls n W _ _ _ _ AC.out).mono ?_); rintro e w3 ⟨rfl, hb3⟩)
          | (go_at_call 17; (with_reducible refine (impl_FormatInt.calls _ _ _ AF.out).mono ?_); rintro e w4 ⟨rfl, rfl⟩))
      go_wp2_with fail
      go_ret
      exact ⟨rfl, (S2.out.kept (below_step (below_drew1 (Below.refl w2.heap.size w2)) hb3)).mono (by omega), G2.out.trans (grown_of_below (below_step (below_drew1 (Below.refl w2.heap.size w2)) hb3) (some BD))⟩
    · rw [if_neg h0] at h
      by_cases h4 : i ≤ 4
      case neg => rw [if_neg h4] at h; exact absurd h (by simp)
      rw [if_pos h4] at h
      obtain ⟨⟨m0, v0⟩, e0, h⟩ := Option.bind_eq_some_iff.mp h
      obtain ⟨x, ex, h⟩ := Option.bind_eq_some_iff.mp h
      obtain ⟨⟨m1, v1⟩, e1, h⟩ := Option.bind_eq_some_iff.mp h
      obtain ⟨y, ey, h⟩ := Option.bind_eq_some_iff.mp h
      by_cases hxy : x.size ≤ 1000 ∧ y.size ≤ 1000
      case neg => rw [if_neg hxy] at h; exact absurd h (by simp)
      rw [if_pos hxy] at h
      have AR := Aside0.mk (Option.some.inj h)
      have A0 := Aside0.mk e0
      have A1 := Aside0.mk e1
      have C0 := Aside0.mk (fun k w => IH.out m0 v0 x k w ex (impl_asker_left.with_wf e0).1 (impl_asker_left.with_wf e0).2)
      have C1 := Aside0.mk (fun k w => IH.out m1 v1 y k w ey (impl_asker_left.with_wf e1).1 (impl_asker_left.with_wf e1).2)
      have HSX := Aside0.mk hxy
      have hd : decide (i < 0) = false := decide_eq_false h0
      generalize impl_asker_best.cost d = K at HK C0 C1 ⊢
      have HK0 : Aside0 (k + F + K < 4294967296) := ⟨by have := HK.out; omega⟩
      have HK1 : Aside0 (k + F + K + K < 4294967296) := ⟨by have := HK.out; omega⟩
      clear h e0 e1 ex ey hxy IH
      go_enter Tryd.func11, Tryd.ntmps11
      go_wp2_with (first | ((with_reducible refine gate_dst (N := 3) rfl ?_); refine box_event ?hg (N := 3) ?hd (cs := #[.int .i64 m, .int .i64 v]) (t := 36) ?hr ?_; (case hd => rfl); (case hg => rfl); (case hr => first | (go_simp; done) | (go_simp; rfl)); intro gb hg w1 hbox hb; have S1 := Aside0.mk (HS.out.kept hb); have RK := Aside0.mk hbox; have G1 := Aside0.mk (grown_of_below hb (some BD)); clear hg hbox hb; have k0 := (blk_cell RK.out 0).trans rfl; have k1 := (blk_cell RK.out 1).trans rfl) | (go_at_call 16; (with_reducible refine (FC.out k w1 S1.out HKF.out).mono ?_); rintro e w2 ⟨rfl, hs2, hg2⟩; have S2 := Aside0.mk hs2; have RK2 := Aside0.mk (blk_grown RK.out hg2 (by have := S1.out.depth.ne RK.out; simp [this])); have G2 := Aside0.mk (G1.out.trans hg2); clear hs2 hg2; have k0 := (blk_cell RK2.out 0).trans rfl; have k1 := (blk_cell RK2.out 1).trans rfl))
      have hne : some gb ≠ some BD := by have := S2.out.depth.ne RK2.out; simp [this]
      have hr := AR.out
      obtain ⟨s0, hs0, hz0⟩ : ∃ s0, strOfNums [IntKind.u8.wrap (97 + IntKind.u8.wrap i)] = s0 ∧ s0.size = 1 := ⟨_, rfl, rfl⟩
      rw [hs0] at hr
      have hconv : ∀ (W : World) (b : Nat), W.cell? ⟨b, 0, none⟩ = some (.int .u8 (IntKind.u8.wrap (97 + IntKind.u8.wrap i))) → (convert 46 9 (.slice (some ⟨b, 0, none⟩) 1 1)).run Tryd.prog W = .ok (.string s0) W := by
        intro W b hz
        rw [← hs0]
        refine run_convert_bytes_arg W 46 5 Tryd.underlying46 Tryd.underlying5 b 0 1 1 [_] rfl (fun i hi => ?_) 9 Tryd.underlying9
        obtain rfl : i = 0 := by omega
        exact hz
      have q1 : (9223372036854775807 < s0.size + x.size) = False := eq_false (by have := HSX.out; omega)
      have q2 : (9223372036854775807 < (s0 ++ x).size + y.size) = False := eq_false (by have := HSX.out; rw [ByteArray.size_append]; omega)
      have q3 : (9223372036854775807 < s0.size + x.size + y.size) = False := eq_false (by have := HSX.out; omega)
      clear hs0 hz0 AR
      subst hr
      refine start_ (n := 18) (S := fun w' => True) (ds := []) #[false, false, false, false, false, false, false, false, false, false, false, false, false, false, false, false, false, false] (by kernel_rfl) rfl rfl trivial (fun hHeld => ?_); refine with_tabW impl_asker_best.tab4 impl_asker_best.bits4 (fun HT_ HW_ => ?_)
      have RK3 := Aside0.mk (blk_drew RK2.out)
      have S3 := Aside0.mk (S2.out.kept (below_drew1 (Below.refl w2.heap.size w2)))
      have G3 := Aside0.mk (G2.out.trans (grown_of_below (below_drew1 (Below.refl w2.heap.size w2)) (some BD)))
      clear k0 k1
      generalize w2.drew = w3 at RK3 S3 G3 hHeld ⊢
      clear hHeld S2 RK2 G2
      refine inv_at [0, 1, 2, 3, 4, 5, 6, 7, 8, 9, 10, 11, 12, 13, 14, 15, 16, 17] (fun a0_ b a w' => ∃ h : Nat, a = putSel a0_ b [(0, 21, .int .i64 i), (1, 22, .int .u8 (IntKind.u8.wrap i)), (2, 23, .int .u8 (IntKind.u8.wrap (97 + IntKind.u8.wrap i))), (3, 24, .slice (some ⟨h, 0, none⟩) 1 1), (4, 25, .string s0), (5, 26, .pointer (some ⟨g, 0, none⟩)), (6, 27, .agg #[.int .i64 m, .int .i64 v]), (7, 28, .int .i64 i), (8, 29, .agg #[.int .i64 m0, .int .i64 v0]), (9, 30, .string x), (10, 31, .string (s0 ++ x)), (11, 32, .pointer (some ⟨g, 0, none⟩)), (12, 33, .agg #[.int .i64 m, .int .i64 v]), (13, 34, .int .i64 i), (14, 35, .agg #[.int .i64 m1, .int .i64 v1]), (15, 36, .string y), (16, 37, .string ((s0 ++ x) ++ y)), (17, 4, .string ((s0 ++ x) ++ y))] ∧ w'.heap[gb]? = some (.cells #[.int .i64 m, .int .i64 v] 36 (0, 0)) ∧ (b 9 = false → impl_Table_asking.S n W (impl_asker_left.R n W) RS g BD BS (k + F) w') ∧ (b 9 = true → b 15 = false → impl_Table_asking.S n W (impl_asker_left.R n W) RS g BD BS (k + F + K) w') ∧ (b 15 = true → impl_Table_asking.S n W (impl_asker_left.R n W) RS g BD BS (k + F + K + K) w') ∧ w.grownBy w' (some BD) ∧ (b 3 = true → w'.heap[h]? = some (.cells #[.int .u8 (IntKind.u8.wrap (97 + IntKind.u8.wrap i))] 5 (0, 0)))) HT_.out HW_.out (by kernel_rfl) (by kernel_rfl) ?_ ?_ ?_
      · exact ⟨0, by simp only [putSel, Bool.false_eq_true, if_false], RK3.out, fun _ => S3.out, fun h_ => absurd h_ (by decide), fun h_ => absurd h_ (by decide), G3.out, fun h_ => absurd h_ (by decide)⟩
      · clear RK3 S3 G3
        refine steps_cons ?_ ?_
        · rintro b a w' ⟨h, ha, QB, QS0, QS1, QS2, QG, QH⟩ hb_ hon hoff
          refine ⟨_, rfl, fun K_ hK => ?_⟩
          have e5 : a.tmps[5]? = some (.int .i64 i) := by rw [ha]; exact (putSel_off rfl).trans rfl
          replace ha := Aside0.mk ha
          refine value_ (w1 := w') (v := .int .i64 i) (by rfl) rfl ?_ ?_
          · go_simp
            (try simp only [i64_w])
            try rfl
          refine hK.out _ _ ⟨h, (by rw [ha.out]; exact putSel_upk 0 hb_ rfl rfl rfl), QB, QS0, QS1, QS2, QG, QH⟩
        refine steps_cons ?_ ?_
        · rintro b a w' ⟨h, ha, QB, QS0, QS1, QS2, QG, QH⟩ hb_ hon hoff
          refine ⟨_, rfl, fun K_ hK => ?_⟩
          have e21 : a.tmps[21]? = some (.int .i64 i) := by rw [ha]; exact putSel_on (e := (0, 21, .int .i64 i)) 0 rfl rfl (hon 0 (by kernel_rfl)) rfl
          replace ha := Aside0.mk ha
          refine value_ (w1 := w') (v := .int .u8 (IntKind.u8.wrap i)) (by rfl) rfl ?_ ?_
          · go_simp
            (try simp only [i64_w])
            try rfl
          refine hK.out _ _ ⟨h, (by rw [ha.out]; exact putSel_upk 1 hb_ rfl rfl rfl), QB, QS0, QS1, QS2, QG, QH⟩
        refine steps_cons ?_ ?_
        · rintro b a w' ⟨h, ha, QB, QS0, QS1, QS2, QG, QH⟩ hb_ hon hoff
          refine ⟨_, rfl, fun K_ hK => ?_⟩
          have e22 : a.tmps[22]? = some (.int .u8 (IntKind.u8.wrap i)) := by rw [ha]; exact putSel_on (e := (1, 22, .int .u8 (IntKind.u8.wrap i))) 1 rfl rfl (hon 1 (by kernel_rfl)) rfl
          replace ha := Aside0.mk ha
          refine value_ (w1 := w') (v := .int .u8 (IntKind.u8.wrap (97 + IntKind.u8.wrap i))) (by rfl) rfl ?_ ?_
          · go_simp
            (try simp only [i64_w])
            try rfl
          refine hK.out _ _ ⟨h, (by rw [ha.out]; exact putSel_upk 2 hb_ rfl rfl rfl), QB, QS0, QS1, QS2, QG, QH⟩
        refine steps_cons ?_ ?_
        · rintro b a w' ⟨h, ha, QB, QS0, QS1, QS2, QG, QH⟩ hb_ hon hoff
          refine ⟨_, rfl, fun K_ hK => ?_⟩
          have e23 : a.tmps[23]? = some (.int .u8 (IntKind.u8.wrap (97 + IntKind.u8.wrap i))) := by rw [ha]; exact putSel_on (e := (2, 23, .int .u8 (IntKind.u8.wrap (97 + IntKind.u8.wrap i)))) 2 rfl rfl (hon 2 (by kernel_rfl)) rfl
          replace ha := Aside0.mk ha
          refine value_ (w1 := w'.alloc (.cells #[.int .u8 (IntKind.u8.wrap (97 + IntKind.u8.wrap i))] 5)) (v := .slice (some ⟨w'.heap.size, 0, none⟩) 1 1) (by rfl) rfl ?_ ?_
          · go_simp
            try rfl
          have hba : Below w'.heap.size w' (w'.alloc (.cells #[.int .u8 (IntKind.u8.wrap (97 + IntKind.u8.wrap i))] 5)) := below_alloc (Below.refl _ _) _
          refine hK.out _ _ ⟨w'.heap.size, (by rw [ha.out]; exact putSel_upk 3 hb_ rfl rfl rfl), blk_below QB hba, fun h_ => (QS0 h_).kept hba, fun h_ h2_ => (QS1 h_ h2_).kept hba, fun h_ => (QS2 h_).kept hba, QG.trans (grown_of_below hba (some BD)), fun _ => blk_new w' _⟩
        refine steps_cons ?_ ?_
        · rintro b a w' ⟨h, ha, QB, QS0, QS1, QS2, QG, QH⟩ hb_ hon hoff
          refine ⟨_, rfl, fun K_ hK => ?_⟩
          have e24 : a.tmps[24]? = some (.slice (some ⟨h, 0, none⟩) 1 1) := by rw [ha]; exact putSel_on (e := (3, 24, .slice (some ⟨h, 0, none⟩) 1 1)) 3 rfl rfl (hon 3 (by kernel_rfl)) rfl
          replace ha := Aside0.mk ha
          have hz := hconv w' h ((blk_cell (QH (hon 3 (by kernel_rfl))) 0).trans rfl)
          refine value_ (w1 := w') (v := .string s0) (by rfl) rfl ?_ ?_
          · go_simp
            (try simp only [i64_w])
            try rfl
          refine hK.out _ _ ⟨h, (by rw [ha.out]; exact putSel_upk 4 hb_ rfl rfl rfl), QB, QS0, QS1, QS2, QG, QH⟩
        refine steps_cons ?_ ?_
        · rintro b a w' ⟨h, ha, QB, QS0, QS1, QS2, QG, QH⟩ hb_ hon hoff
          refine ⟨_, rfl, fun K_ hK => ?_⟩
          have e0 : a.tmps[0]? = some (.pointer (some ⟨g, 0, none⟩)) := by rw [ha]; exact (putSel_off rfl).trans rfl
          replace ha := Aside0.mk ha
          refine value_ (w1 := w') (v := .pointer (some ⟨g, 0, none⟩)) (by rfl) rfl ?_ ?_
          · go_simp
            (try simp only [i64_w])
            try rfl
          refine hK.out _ _ ⟨h, (by rw [ha.out]; exact putSel_upk 5 hb_ rfl rfl rfl), QB, QS0, QS1, QS2, QG, QH⟩
        refine steps_cons ?_ ?_
        · rintro b a w' ⟨h, ha, QB, QS0, QS1, QS2, QG, QH⟩ hb_ hon hoff
          refine ⟨_, rfl, fun K_ hK => ?_⟩
          have e3 : a.tmps[3]? = some (.pointer (some ⟨gb, 0, none⟩)) := by rw [ha]; exact (putSel_off rfl).trans rfl
          replace ha := Aside0.mk ha
          have k0 : w'.cell? ⟨gb, 0, none⟩ = some (.int .i64 m) := (blk_cell QB 0).trans rfl
          have k1 : w'.cell? ⟨gb, 1, none⟩ = some (.int .i64 v) := (blk_cell QB 1).trans rfl
          refine value_ (w1 := w') (v := .agg #[.int .i64 m, .int .i64 v]) (by rfl) rfl ?_ ?_
          · go_simp
            (try simp only [i64_w])
            try rfl
          refine hK.out _ _ ⟨h, (by rw [ha.out]; exact putSel_upk 6 hb_ rfl rfl rfl), QB, QS0, QS1, QS2, QG, QH⟩
        refine steps_cons ?_ ?_
        · rintro b a w' ⟨h, ha, QB, QS0, QS1, QS2, QG, QH⟩ hb_ hon hoff
          refine ⟨_, rfl, fun K_ hK => ?_⟩
          have e5 : a.tmps[5]? = some (.int .i64 i) := by rw [ha]; exact (putSel_off rfl).trans rfl
          replace ha := Aside0.mk ha
          refine value_ (w1 := w') (v := .int .i64 i) (by rfl) rfl ?_ ?_
          · go_simp
            (try simp only [i64_w])
            try rfl
          refine hK.out _ _ ⟨h, (by rw [ha.out]; exact putSel_upk 7 hb_ rfl rfl rfl), QB, QS0, QS1, QS2, QG, QH⟩
        refine steps_cons ?_ ?_
        · rintro b a w' ⟨h, ha, QB, QS0, QS1, QS2, QG, QH⟩ hb_ hon hoff
          refine ⟨_, rfl, fun K_ hK => ?_⟩
          have e27 : a.tmps[27]? = some (.agg #[.int .i64 m, .int .i64 v]) := by rw [ha]; exact putSel_on (e := (6, 27, .agg #[.int .i64 m, .int .i64 v])) 6 rfl rfl (hon 6 (by kernel_rfl)) rfl
          have e28 : a.tmps[28]? = some (.int .i64 i) := by rw [ha]; exact putSel_on (e := (7, 28, .int .i64 i)) 7 rfl rfl (hon 7 (by kernel_rfl)) rfl
          replace ha := Aside0.mk ha
          refine goes_ Tryd.func19 (by kernel_rfl) rfl #[.agg #[.int .i64 m, .int .i64 v], .int .i64 i, .int .i64 0] (by rfl) rfl rfl (by go_simp) ?_
          with_reducible refine (impl_known_with.calls m v i 0 _ _ _ A0.out).mono ?_
          rintro e wa ⟨rfl, hba⟩
          refine ⟨_, rfl, ?_⟩
          refine hK.out _ _ ⟨h, (by rw [ha.out]; exact putSel_upk 8 hb_ rfl rfl rfl), blk_below QB hba, fun h_ => (QS0 h_).kept hba, fun h_ h2_ => (QS1 h_ h2_).kept hba, fun h_ => (QS2 h_).kept hba, QG.trans (grown_of_below hba (some BD)), fun h_ => blk_below (QH h_) hba⟩
        refine steps_cons ?_ ?_
        · rintro b a w' ⟨h, ha, QB, QS0, QS1, QS2, QG, QH⟩ hb_ hon hoff
          refine ⟨_, rfl, fun K_ hK => ?_⟩
          have e26 : a.tmps[26]? = some (.pointer (some ⟨g, 0, none⟩)) := by rw [ha]; exact putSel_on (e := (5, 26, .pointer (some ⟨g, 0, none⟩))) 5 rfl rfl (hon 5 (by kernel_rfl)) rfl
          have e29 : a.tmps[29]? = some (.agg #[.int .i64 m0, .int .i64 v0]) := by rw [ha]; exact putSel_on (e := (8, 29, .agg #[.int .i64 m0, .int .i64 v0])) 8 rfl rfl (hon 8 (by kernel_rfl)) rfl
          replace ha := Aside0.mk ha
          have SX := QS0 hb_
          refine goes_ Tryd.func11 (by kernel_rfl) rfl #[.pointer (some ⟨g, 0, none⟩), .agg #[.int .i64 m0, .int .i64 v0]] (by rfl) rfl rfl (by go_simp) ?_
          with_reducible refine (C0.out _ _ SX HK0.out).mono ?_
          rintro e wa ⟨rfl, hsa, hga⟩
          refine ⟨_, rfl, ?_⟩
          refine hK.out _ _ ⟨h, (by rw [ha.out]; exact putSel_upk 9 hb_ rfl rfl rfl), blk_grown QB hga (by have := SX.depth.ne QB; simp [this]), fun h_ => absurd ((up_self b 9).symm.trans h_) (by decide), fun _ _ => hsa, fun h_ => absurd ((hoff 15 (by kernel_rfl)).symm.trans h_) (by decide), QG.trans hga, fun h_ => blk_grown (QH h_) hga (by have := SX.depth.ne (QH h_); simp [this])⟩
        refine steps_cons ?_ ?_
        · rintro b a w' ⟨h, ha, QB, QS0, QS1, QS2, QG, QH⟩ hb_ hon hoff
          refine ⟨_, rfl, fun K_ hK => ?_⟩
          have e25 : a.tmps[25]? = some (.string s0) := by rw [ha]; exact putSel_on (e := (4, 25, .string s0)) 4 rfl rfl (hon 4 (by kernel_rfl)) rfl
          have e30 : a.tmps[30]? = some (.string x) := by rw [ha]; exact putSel_on (e := (9, 30, .string x)) 9 rfl rfl (hon 9 (by kernel_rfl)) rfl
          replace ha := Aside0.mk ha
          refine value_ (w1 := w') (v := .string (s0 ++ x)) (by rfl) rfl ?_ ?_
          · go_simp
            (try simp only [i64_w])
            try rfl
          refine hK.out _ _ ⟨h, (by rw [ha.out]; exact putSel_upk 10 hb_ rfl rfl rfl), QB, QS0, QS1, QS2, QG, QH⟩
        refine steps_cons ?_ ?_
        · rintro b a w' ⟨h, ha, QB, QS0, QS1, QS2, QG, QH⟩ hb_ hon hoff
          refine ⟨_, rfl, fun K_ hK => ?_⟩
          have e0 : a.tmps[0]? = some (.pointer (some ⟨g, 0, none⟩)) := by rw [ha]; exact (putSel_off rfl).trans rfl
          replace ha := Aside0.mk ha
          refine value_ (w1 := w') (v := .pointer (some ⟨g, 0, none⟩)) (by rfl) rfl ?_ ?_
          · go_simp
            (try simp only [i64_w])
            try rfl
          refine hK.out _ _ ⟨h, (by rw [ha.out]; exact putSel_upk 11 hb_ rfl rfl rfl), QB, QS0, QS1, QS2, QG, QH⟩
        refine steps_cons ?_ ?_
        · rintro b a w' ⟨h, ha, QB, QS0, QS1, QS2, QG, QH⟩ hb_ hon hoff
          refine ⟨_, rfl, fun K_ hK => ?_⟩
          have e3 : a.tmps[3]? = some (.pointer (some ⟨gb, 0, none⟩)) := by rw [ha]; exact (putSel_off rfl).trans rfl
          replace ha := Aside0.mk ha
          have k0 : w'.cell? ⟨gb, 0, none⟩ = some (.int .i64 m) := (blk_cell QB 0).trans rfl
          have k1 : w'.cell? ⟨gb, 1, none⟩ = some (.int .i64 v) := (blk_cell QB 1).trans rfl
          refine value_ (w1 := w') (v := .agg #[.int .i64 m, .int .i64 v]) (by rfl) rfl ?_ ?_
          · go_simp
            (try simp only [i64_w])
            try rfl
          refine hK.out _ _ ⟨h, (by rw [ha.out]; exact putSel_upk 12 hb_ rfl rfl rfl), QB, QS0, QS1, QS2, QG, QH⟩
        refine steps_cons ?_ ?_
        · rintro b a w' ⟨h, ha, QB, QS0, QS1, QS2, QG, QH⟩ hb_ hon hoff
          refine ⟨_, rfl, fun K_ hK => ?_⟩
          have e5 : a.tmps[5]? = some (.int .i64 i) := by rw [ha]; exact (putSel_off rfl).trans rfl
          replace ha := Aside0.mk ha
          refine value_ (w1 := w') (v := .int .i64 i) (by rfl) rfl ?_ ?_
          · go_simp
            (try simp only [i64_w])
            try rfl
          refine hK.out _ _ ⟨h, (by rw [ha.out]; exact putSel_upk 13 hb_ rfl rfl rfl), QB, QS0, QS1, QS2, QG, QH⟩
        refine steps_cons ?_ ?_
        · rintro b a w' ⟨h, ha, QB, QS0, QS1, QS2, QG, QH⟩ hb_ hon hoff
          refine ⟨_, rfl, fun K_ hK => ?_⟩
          have e33 : a.tmps[33]? = some (.agg #[.int .i64 m, .int .i64 v]) := by rw [ha]; exact putSel_on (e := (12, 33, .agg #[.int .i64 m, .int .i64 v])) 12 rfl rfl (hon 12 (by kernel_rfl)) rfl
          have e34 : a.tmps[34]? = some (.int .i64 i) := by rw [ha]; exact putSel_on (e := (13, 34, .int .i64 i)) 13 rfl rfl (hon 13 (by kernel_rfl)) rfl
          replace ha := Aside0.mk ha
          refine goes_ Tryd.func19 (by kernel_rfl) rfl #[.agg #[.int .i64 m, .int .i64 v], .int .i64 i, .int .i64 1] (by rfl) rfl rfl (by go_simp) ?_
          with_reducible refine (impl_known_with.calls m v i 1 _ _ _ A1.out).mono ?_
          rintro e wa ⟨rfl, hba⟩
          refine ⟨_, rfl, ?_⟩
          refine hK.out _ _ ⟨h, (by rw [ha.out]; exact putSel_upk 14 hb_ rfl rfl rfl), blk_below QB hba, fun h_ => (QS0 h_).kept hba, fun h_ h2_ => (QS1 h_ h2_).kept hba, fun h_ => (QS2 h_).kept hba, QG.trans (grown_of_below hba (some BD)), fun h_ => blk_below (QH h_) hba⟩
        refine steps_cons ?_ ?_
        · rintro b a w' ⟨h, ha, QB, QS0, QS1, QS2, QG, QH⟩ hb_ hon hoff
          refine ⟨_, rfl, fun K_ hK => ?_⟩
          have e32 : a.tmps[32]? = some (.pointer (some ⟨g, 0, none⟩)) := by rw [ha]; exact putSel_on (e := (11, 32, .pointer (some ⟨g, 0, none⟩))) 11 rfl rfl (hon 11 (by kernel_rfl)) rfl
          have e35 : a.tmps[35]? = some (.agg #[.int .i64 m1, .int .i64 v1]) := by rw [ha]; exact putSel_on (e := (14, 35, .agg #[.int .i64 m1, .int .i64 v1])) 14 rfl rfl (hon 14 (by kernel_rfl)) rfl
          replace ha := Aside0.mk ha
          have SX := QS1 (hon 9 (by kernel_rfl)) hb_
          refine goes_ Tryd.func11 (by kernel_rfl) rfl #[.pointer (some ⟨g, 0, none⟩), .agg #[.int .i64 m1, .int .i64 v1]] (by rfl) rfl rfl (by go_simp) ?_
          with_reducible refine (C1.out _ _ SX HK1.out).mono ?_
          rintro e wa ⟨rfl, hsa, hga⟩
          refine ⟨_, rfl, ?_⟩
          refine hK.out _ _ ⟨h, (by rw [ha.out]; exact putSel_upk 15 hb_ rfl rfl rfl), blk_grown QB hga (by have := SX.depth.ne QB; simp [this]), fun h_ => absurd ((hon 9 (by kernel_rfl)).symm.trans h_) (by decide), fun _ h_ => absurd ((up_self b 15).symm.trans h_) (by decide), fun _ => hsa, QG.trans hga, fun h_ => blk_grown (QH h_) hga (by have := SX.depth.ne (QH h_); simp [this])⟩
        refine steps_cons ?_ ?_
        · rintro b a w' ⟨h, ha, QB, QS0, QS1, QS2, QG, QH⟩ hb_ hon hoff
          refine ⟨_, rfl, fun K_ hK => ?_⟩
          have e31 : a.tmps[31]? = some (.string (s0 ++ x)) := by rw [ha]; exact putSel_on (e := (10, 31, .string (s0 ++ x))) 10 rfl rfl (hon 10 (by kernel_rfl)) rfl
          have e36 : a.tmps[36]? = some (.string y) := by rw [ha]; exact putSel_on (e := (15, 36, .string y)) 15 rfl rfl (hon 15 (by kernel_rfl)) rfl
          replace ha := Aside0.mk ha
          refine value_ (w1 := w') (v := .string ((s0 ++ x) ++ y)) (by rfl) rfl ?_ ?_
          · go_simp
            (try simp only [i64_w])
            try rfl
          refine hK.out _ _ ⟨h, (by rw [ha.out]; exact putSel_upk 16 hb_ rfl rfl rfl), QB, QS0, QS1, QS2, QG, QH⟩
        refine steps_cons ?_ ?_
        · rintro b a w' ⟨h, ha, QB, QS0, QS1, QS2, QG, QH⟩ hb_ hon hoff
          refine ⟨_, rfl, fun K_ hK => ?_⟩
          have e37 : a.tmps[37]? = some (.string ((s0 ++ x) ++ y)) := by rw [ha]; exact putSel_on (e := (16, 37, .string ((s0 ++ x) ++ y))) 16 rfl rfl (hon 16 (by kernel_rfl)) rfl
          replace ha := Aside0.mk ha
          refine value_ (w1 := w') (v := .string ((s0 ++ x) ++ y)) (by rfl) rfl ?_ ?_
          · go_simp
            (try simp only [i64_w])
            try rfl
          refine hK.out _ _ ⟨h, (by rw [ha.out]; exact putSel_upk 17 hb_ rfl rfl rfl), QB, QS0, QS1, QS2, QG, QH⟩
        exact steps_nil
      rintro b a w4 hall ⟨h, ha, QB, QS0, QS1, QS2, QG, QH⟩
      have hb0_ := hall 0 (by kernel_rfl)
      have hb1_ := hall 1 (by kernel_rfl)
      have hb2_ := hall 2 (by kernel_rfl)
      have hb3_ := hall 3 (by kernel_rfl)
      have hb4_ := hall 4 (by kernel_rfl)
      have hb5_ := hall 5 (by kernel_rfl)
      have hb6_ := hall 6 (by kernel_rfl)
      have hb7_ := hall 7 (by kernel_rfl)
      have hb8_ := hall 8 (by kernel_rfl)
      have hb9_ := hall 9 (by kernel_rfl)
      have hb10_ := hall 10 (by kernel_rfl)
      have hb11_ := hall 11 (by kernel_rfl)
      have hb12_ := hall 12 (by kernel_rfl)
      have hb13_ := hall 13 (by kernel_rfl)
      have hb14_ := hall 14 (by kernel_rfl)
      have hb15_ := hall 15 (by kernel_rfl)
      have hb16_ := hall 16 (by kernel_rfl)
      have hb17_ := hall 17 (by kernel_rfl)
      have SX := Aside0.mk (QS2 hb15_)
      have GX := Aside0.mk QG
      clear QB QS0 QS1 QS2 QG QH
      subst ha
      simp only [putSel, hb0_, hb1_, hb2_, hb3_, hb4_, hb5_, hb6_, hb7_, hb8_, hb9_, hb10_, hb11_, hb12_, hb13_, hb14_, hb15_, hb16_, hb17_, if_true, Act.put, List.setIfInBounds_toArray, List.set_cons_zero, List.set_cons_succ]
      clear hall hb0_ hb1_ hb2_ hb3_ hb4_ hb5_ hb6_ hb7_ hb8_ hb9_ hb10_ hb11_ hb12_ hb13_ hb14_ hb15_ hb16_ hb17_
      go_wp2_with fail
      go_ret
      exact ⟨rfl, SX.out.mono (by omega), GX.out⟩

end Go.Proofs.YtfpcgcmajdebmaaDoor.P
