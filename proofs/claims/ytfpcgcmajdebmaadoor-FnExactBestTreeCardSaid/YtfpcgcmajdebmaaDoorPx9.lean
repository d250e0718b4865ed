-- Out of the translation, by this session's program over the printer's; Lean checks it.
import Derived.Test.YtfpcgcmajdebmaaDoorPx0
import Derived.Test.YtfpcgcmajdebmaaDoorPx1
import Derived.Test.YtfpcgcmajdebmaaDoorPx8
namespace Go.Proofs.YtfpcgcmajdebmaaDoor.P
open Go.RowKit Go.Proofs.YtfpcgcmajdebmaaDoorW.PrintWords Go.Proofs.YtfpcgcmajdebmaaDoorW.PrintLast Go.Proofs.YtfpcgcmajdebmaaDoorW.PrintMore
attribute [local go_sem] max2_int min2_int max_two min_two max_three min_three max_four min_four   -- for this text's walks alone
set_option linter.unusedVariables false
set_option linter.unusedSimpArgs false

/-! ### impl_asker_first: function 16 -/
/-- The first variable from i on by which what is needed gets less, whatever the answer. -/
def impl_asker_first.l (n W m v need : Int) : Nat → Nat → Option Int
  | 0, _ => some (-1)
  | d + 1, i => if 0 < need then (if Go.bits .and .i64 (shr .i64 m (i : Int)) 1 = 0 then (impl_known_with.f m v (i : Int) 0).bind fun k0 => (impl_asker_left.f n W 6 k0.1 k0.2).bind fun x => if x < need then (impl_known_with.f m v (i : Int) 1).bind fun k1 => (impl_asker_left.f n W 6 k1.1 k1.2).bind fun y => if y < need then some (i : Int) else impl_asker_first.l n W m v need d (i + 1) else impl_asker_first.l n W m v need d (i + 1) else impl_asker_first.l n W m v need d (i + 1)) else impl_asker_first.l n W m v need d (i + 1)
def impl_asker_first.f (n W m v : Int) : Option Int := (impl_asker_left.f n W 6 m v).bind fun need => impl_asker_first.l n W m v need n.toNat 0
set_option maxHeartbeats 4000000 in
set_option maxRecDepth 100000 in
theorem impl_asker_first.calls (n W : Int) (RS : Int → Int → Int → Prop) (g BD BS : Nat) (m v r : Int) (k : Nat) (w : World) (h : impl_asker_first.f n W m v = some r) (wm : (Lit.int .i64 m).wf = true) (wv : (Lit.int .i64 v).wf = true)
    (hS : impl_Table_asking.S n W (impl_asker_left.R n W) RS g BD BS k w) (hk : k + 11 * impl_asker_left.cost 6 < 4294967296) :
    Calls Tryd.prog 16 #[.pointer (some ⟨g, 0, none⟩), .agg #[.int .i64 m, .int .i64 v]] w fun e w' => e = .returned (.int .i64 r) ∧ impl_Table_asking.S n W (impl_asker_left.R n W) RS g BD BS (k + 11 * impl_asker_left.cost 6) w' ∧ w.grownBy w' (some BD) := by
  have hu := Tryd.underlying36
  have hua := Tryd.underlying42
  have hut := Tryd.underlying26
  unfold impl_asker_first.f at h
  obtain ⟨need, hd, h⟩ := Option.bind_eq_some_iff.mp h
  have hn := impl_asker_left.range hd
  have AD := Aside0.mk hd
  have HS := Aside0.mk hS
  have IH := Aside0.mk (fun m v r k w => impl_asker_left.calls n W hn RS g BD BS 6 m v r k w)
  obtain ⟨N, rfl⟩ := Int.eq_ofNat_of_zero_le hn.1
  replace h : impl_asker_first.l N W m v need N 0 = some r := h
  have AF := Aside0.mk h
  generalize impl_asker_left.cost 6 = K at hk IH ⊢
  have HK := Aside0.mk hk
  have HK0 : Aside0 (k + K < 4294967296) := ⟨by omega⟩
  clear h hd hS hk
  go_enter Tryd.func16, Tryd.ntmps16
  go_wp2_with (first | ((with_reducible refine gate_dst (N := 3) rfl ?_); refine box_event ?hg (N := 3) ?hd (cs := #[.int .i64 m, .int .i64 v]) (t := 36) ?hr ?_; (case hd => rfl); (case hg => rfl); (case hr => first | (go_simp; done) | (go_simp; rfl)); intro gb hg w1 hbox hb; have S1 := Aside0.mk (HS.out.kept hb); have RK := Aside0.mk hbox; have G1 := Aside0.mk (grown_of_below hb (some BD)); clear hg hbox hb; have k0 := (blk_cell RK.out 0).trans rfl; have k1 := (blk_cell RK.out 1).trans rfl) | (go_at_call 22; (with_reducible refine (IH.out m v need _ _ AD.out wm wv S1.out HK0.out).mono ?_); rintro e w2 ⟨rfl, hs2, hg2⟩; have S2 := Aside0.mk hs2; have R2 := Aside0.mk (blk_grown RK.out hg2 (by have := S1.out.depth.ne RK.out; simp [this])); have G2 := Aside0.mk (G1.out.trans hg2); clear hs2 hg2; have c0 := (blk_cell S2.out.blk 0).trans rfl))
  go_loopw [15] (fun x15 wr => ∃ j : Nat, j ≤ N ∧ x15 = .int .i64 (j : Int) ∧ Aside0 (impl_asker_first.l N W m v need (N - j) j = some r) ∧ Aside0 (impl_Table_asking.S N W (impl_asker_left.R N W) RS g BD BS (k + K + 2 * j * K) wr) ∧ Aside0 (wr.heap[gb]? = some (.cells #[.int .i64 m, .int .i64 v] 36 (0, 0))) ∧ Aside0 (w.grownBy wr (some BD))) (fun x15 _ => N - (intOf x15).toNat)
  case atStart => exact ⟨0, Nat.zero_le _, rfl, AF, ⟨by simpa using S2.out⟩, R2, G2⟩
  case round =>
    obtain ⟨j, hj, rfl, AJ, SJ, RJ, GJ⟩ := hrel
    have k0 := (blk_cell RJ.out 0).trans rfl
    have k1 := (blk_cell RJ.out 1).trans rfl
    clear S2 R2 G2 S1 RK G1 AF AD
    have hne : some gb ≠ some BD := by have := SJ.out.depth.ne RJ.out; simp [this]
    have hcl : k + K + 2 * j * K ≤ k + 11 * K := by
      have : 2 * j * K ≤ 10 * K := Nat.mul_le_mul_right _ (by omega)
      omega
    by_cases hlt : j < N
    · obtain ⟨e, he⟩ : ∃ e, N - j = e + 1 := ⟨N - j - 1, by omega⟩
      have hN : N - (j + 1) = e := by omega
      have HA := AJ.out
      rw [he, impl_asker_first.l] at HA
      have hc2 : k + K + 2 * j * K + K + K = k + K + 2 * (j + 1) * K := by rw [Nat.mul_add, Nat.add_mul]; omega
      have hc3 : k + K + 2 * (j + 1) * K ≤ k + 11 * K := by
        have : 2 * (j + 1) * K ≤ 10 * K := Nat.mul_le_mul_right _ (by omega)
        omega
      have HK1 : Aside0 (k + K + 2 * j * K + K < 4294967296) := ⟨by have := HK.out; omega⟩
      have HK2 : Aside0 (k + K + 2 * j * K + K + K < 4294967296) := ⟨by have := HK.out; omega⟩
      have hsh : shr .i64 m (j : Int) = m / 2 ^ j := by
        unfold shr
        rw [Int.toNat_natCast, Nat.min_eq_left (show j ≤ IntKind.i64.bits by show j ≤ 64; omega)]
      have C2 := Aside0.mk hc2
      have C3 := Aside0.mk hc3
      have M0 : Aside0 (k + K + 2 * j * K ≤ k + K + 2 * (j + 1) * K) := ⟨by omega⟩
      have M1 : Aside0 (k + K + 2 * j * K + K ≤ k + K + 2 * (j + 1) * K) := ⟨by omega⟩
      have M2 : Aside0 (k + K + 2 * j * K + K + K ≤ k + 11 * K) := ⟨by omega⟩
      clear hc2 hc3 hcl he
      by_cases h1 : 0 < need
      · have h1b : decide (0 < need) = true := decide_eq_true h1
        rw [if_pos h1] at HA
        clear h1
        by_cases hq : Go.bits .and .i64 (shr .i64 m (j : Int)) 1 = 0
        · rw [if_pos hq] at HA
          have hqb : (Go.bits .and .i64 (m / 2 ^ j) 1 == 0) = true := by rw [← hsh]; exact beq_iff_eq.mpr hq
          obtain ⟨⟨m0, v0⟩, e0, HA⟩ := Option.bind_eq_some_iff.mp HA
          obtain ⟨x, ex, HA⟩ := Option.bind_eq_some_iff.mp HA
          have A0 := Aside0.mk e0
          have AX : Aside0 (impl_asker_left.f N W 6 m0 v0 = some x) := ⟨ex⟩
          clear e0 ex hq hsh
          by_cases hx : x < need
          · rw [if_pos hx] at HA
            have hxb : decide (x < need) = true := decide_eq_true hx
            obtain ⟨⟨m1, v1⟩, e1, HA⟩ := Option.bind_eq_some_iff.mp HA
            obtain ⟨y, ey, HA⟩ := Option.bind_eq_some_iff.mp HA
            have A1 := Aside0.mk e1
            have AY : Aside0 (impl_asker_left.f N W 6 m1 v1 = some y) := ⟨ey⟩
            clear e1 ey hx
            by_cases hy : y < need
            · rw [if_pos hy] at HA
              have hyb : decide (y < need) = true := decide_eq_true hy
              have hr := Option.some.inj HA
              subst hr
              clear HA hy AJ
              go_wp2_with (first | (go_at_call 19; (with_reducible refine (impl_known_with.calls m v _ 0 _ _ _ A0.out).mono ?_); rintro e wa ⟨rfl, hba⟩; have Sa := Aside0.mk (SJ.out.kept hba); have Ra := Aside0.mk (blk_below RJ.out hba); have Ga := Aside0.mk (GJ.out.trans (grown_of_below hba (some BD))); clear hba; have k0 := (blk_cell Ra.out 0).trans rfl; have k1 := (blk_cell Ra.out 1).trans rfl) | (go_at_call 22; (with_reducible refine (IH.out m0 v0 x _ _ AX.out (impl_asker_left.with_wf A0.out).1 (impl_asker_left.with_wf A0.out).2 Sa.out HK1.out).mono ?_); rintro e wb ⟨rfl, hsb, hgb⟩; have Sb := Aside0.mk hsb; have Rb := Aside0.mk (blk_grown Ra.out hgb hne); have Gb := Aside0.mk (Ga.out.trans hgb); clear hsb hgb; have k0 := (blk_cell Rb.out 0).trans rfl; have k1 := (blk_cell Rb.out 1).trans rfl) | (go_at_call 19; (with_reducible refine (impl_known_with.calls m v _ 1 _ _ _ A1.out).mono ?_); rintro e wc ⟨rfl, hbc⟩; have Sc := Aside0.mk (Sb.out.kept hbc); have Rc := Aside0.mk (blk_below Rb.out hbc); have Gc := Aside0.mk (Gb.out.trans (grown_of_below hbc (some BD))); clear hbc; have k0 := (blk_cell Rc.out 0).trans rfl; have k1 := (blk_cell Rc.out 1).trans rfl) | (go_at_call 22; (with_reducible refine (IH.out m1 v1 y _ _ AY.out (impl_asker_left.with_wf A1.out).1 (impl_asker_left.with_wf A1.out).2 Sc.out HK2.out).mono ?_); rintro e wd ⟨rfl, hsd, hgd⟩; have Sd := Aside0.mk hsd; have Rd := Aside0.mk (blk_grown Rc.out hgd hne); have Gd := Aside0.mk (Gc.out.trans hgd); clear hsd hgd))
              go_ret
              exact ⟨rfl, Sd.out.mono M2.out, Gd.out⟩
            · rw [if_neg hy] at HA
              have hyb : decide (y < need) = false := decide_eq_false hy
              have AN : Aside0 (impl_asker_first.l N W m v need (N - (j + 1)) (j + 1) = some r) := ⟨by rw [hN]; exact HA⟩
              clear HA hy AJ hN
              go_wp2_with (first | (go_at_call 19; (with_reducible refine (impl_known_with.calls m v _ 0 _ _ _ A0.out).mono ?_); rintro e wa ⟨rfl, hba⟩; have Sa := Aside0.mk (SJ.out.kept hba); have Ra := Aside0.mk (blk_below RJ.out hba); have Ga := Aside0.mk (GJ.out.trans (grown_of_below hba (some BD))); clear hba; have k0 := (blk_cell Ra.out 0).trans rfl; have k1 := (blk_cell Ra.out 1).trans rfl) | (go_at_call 22; (with_reducible refine (IH.out m0 v0 x _ _ AX.out (impl_asker_left.with_wf A0.out).1 (impl_asker_left.with_wf A0.out).2 Sa.out HK1.out).mono ?_); rintro e wb ⟨rfl, hsb, hgb⟩; have Sb := Aside0.mk hsb; have Rb := Aside0.mk (blk_grown Ra.out hgb hne); have Gb := Aside0.mk (Ga.out.trans hgb); clear hsb hgb; have k0 := (blk_cell Rb.out 0).trans rfl; have k1 := (blk_cell Rb.out 1).trans rfl) | (go_at_call 19; (with_reducible refine (impl_known_with.calls m v _ 1 _ _ _ A1.out).mono ?_); rintro e wc ⟨rfl, hbc⟩; have Sc := Aside0.mk (Sb.out.kept hbc); have Rc := Aside0.mk (blk_below Rb.out hbc); have Gc := Aside0.mk (Gb.out.trans (grown_of_below hbc (some BD))); clear hbc; have k0 := (blk_cell Rc.out 0).trans rfl; have k1 := (blk_cell Rc.out 1).trans rfl) | (go_at_call 22; (with_reducible refine (IH.out m1 v1 y _ _ AY.out (impl_asker_left.with_wf A1.out).1 (impl_asker_left.with_wf A1.out).2 Sc.out HK2.out).mono ?_); rintro e wd ⟨rfl, hsd, hgd⟩; have Sd := Aside0.mk hsd; have Rd := Aside0.mk (blk_grown Rc.out hgd hne); have Gd := Aside0.mk (Gc.out.trans hgd); clear hsd hgd))
              go_roundw
              case rel => exact ⟨j + 1, by omega, by go_num, AN, ⟨C2.out ▸ Sd.out⟩, Rd, Gd⟩
              case measure => simp [intOf]; omega
          · rw [if_neg hx] at HA
            have hxb : decide (x < need) = false := decide_eq_false hx
            have AN : Aside0 (impl_asker_first.l N W m v need (N - (j + 1)) (j + 1) = some r) := ⟨by rw [hN]; exact HA⟩
            clear HA hx AJ hN
            go_wp2_with (first | (go_at_call 19; (with_reducible refine (impl_known_with.calls m v _ 0 _ _ _ A0.out).mono ?_); rintro e wa ⟨rfl, hba⟩; have Sa := Aside0.mk (SJ.out.kept hba); have Ra := Aside0.mk (blk_below RJ.out hba); have Ga := Aside0.mk (GJ.out.trans (grown_of_below hba (some BD))); clear hba; have k0 := (blk_cell Ra.out 0).trans rfl; have k1 := (blk_cell Ra.out 1).trans rfl) | (go_at_call 22; (with_reducible refine (IH.out m0 v0 x _ _ AX.out (impl_asker_left.with_wf A0.out).1 (impl_asker_left.with_wf A0.out).2 Sa.out HK1.out).mono ?_); rintro e wb ⟨rfl, hsb, hgb⟩; have Sb := Aside0.mk hsb; have Rb := Aside0.mk (blk_grown Ra.out hgb hne); have Gb := Aside0.mk (Ga.out.trans hgb); clear hsb hgb; have k0 := (blk_cell Rb.out 0).trans rfl; have k1 := (blk_cell Rb.out 1).trans rfl))
            go_roundw
            case rel => exact ⟨j + 1, by omega, by go_num, AN, ⟨Sb.out.mono M1.out⟩, Rb, Gb⟩
            case measure => simp [intOf]; omega
        · rw [if_neg hq] at HA
          have hqb : (Go.bits .and .i64 (m / 2 ^ j) 1 == 0) = false := by rw [← hsh]; simpa using hq
          have AN : Aside0 (impl_asker_first.l N W m v need (N - (j + 1)) (j + 1) = some r) := ⟨by rw [hN]; exact HA⟩
          clear HA hq AJ hN hsh
          go_wp2_with fail
          go_roundw
          case rel => exact ⟨j + 1, by omega, by go_num, AN, ⟨SJ.out.mono M0.out⟩, RJ, GJ⟩
          case measure => simp [intOf]; omega
      · have h1b : decide (0 < need) = false := decide_eq_false h1
        rw [if_neg h1] at HA
        have AN : Aside0 (impl_asker_first.l N W m v need (N - (j + 1)) (j + 1) = some r) := ⟨by rw [hN]; exact HA⟩
        clear HA h1 AJ hN hsh
        go_wp2_with fail
        go_roundw
        case rel => exact ⟨j + 1, by omega, by go_num, AN, ⟨SJ.out.mono M0.out⟩, RJ, GJ⟩
        case measure => simp [intOf]; omega
    · obtain rfl : j = N := by omega
      have HA := AJ.out
      rw [Nat.sub_self, impl_asker_first.l] at HA
      have hr := Option.some.inj HA
      subst hr
      have CL := Aside0.mk hcl
      clear HA AJ hcl
      go_wp2_with fail
      go_ret
      exact ⟨rfl, SJ.out.mono CL.out, GJ.out⟩

/-! ### strconv_small: function 27 -/
-- (walked in impl_FormatInt, at 0 and 1)

/-! ### strconv_log10Pow2: function 31 -/
def strconv_log10Pow2.f (a0 : Int) : Option (Int) := some ((wrap64 (a0 * 78913)) / 262144)
set_option maxHeartbeats 8000000 in
set_option maxRecDepth 100000 in
theorem strconv_log10Pow2.calls (a0 : Int) (r : Int) (w : World) (h : strconv_log10Pow2.f a0 = some r) :
    Calls Tryd.prog 31 #[.int .i64 a0] w fun e w' => e = .returned (.int .i64 r) ∧ Drawn0 w w' := by
  have H : (some ((wrap64 (a0 * 78913)) / 262144)) = some r := h
  clear h
  obtain rfl := Option.some.inj H
  go_enter Tryd.func31, Tryd.ntmps31
  go_wp2
  go_ret
  exact ⟨by first | rfl | (simp; done) | (simp [*]; done), by repeat (first | exact Drawn0.refl _ | apply Drawn0.step)⟩

/-! ### bits_Len64: function 32 -/
-- (not reached at 0 and 1)

/-! ### strconv_bool2_int: function 33 -/
def strconv_bool2_int.f (a0 : Bool) : Option (Int) := if a0 = true then (some 1) else (some 0)
set_option maxHeartbeats 8000000 in
set_option maxRecDepth 100000 in
theorem strconv_bool2_int.calls (a0 : Bool) (r : Int) (w : World) (h : strconv_bool2_int.f a0 = some r) :
    Calls Tryd.prog 33 #[.bool a0] w fun e w' => e = .returned (.int .i64 r) ∧ Drawn0 w w' := by
  have H : (if a0 = true then (some 1) else (some 0)) = some r := h
  clear h
  by_cases c2 : a0 = true
  · subst c2
    have H1 : (some 1) = some r := by rw [if_pos rfl] at H; exact H
    clear H
    have H := H1
    clear H1
    obtain rfl := Option.some.inj H
    go_enter Tryd.func33, Tryd.ntmps33
    go_wp2
    go_ret
    exact ⟨by first | rfl | (simp; done) | (simp [*]; done), by repeat (first | exact Drawn0.refl _ | apply Drawn0.step)⟩
  · replace c2 := Bool.eq_false_iff.mpr c2
    subst c2
    have H1 : (some 0) = some r := by rw [if_neg (show ¬ (false = true) by decide)] at H; exact H
    clear H
    have H := H1
    clear H1
    obtain rfl := Option.some.inj H
    go_enter Tryd.func33, Tryd.ntmps33
    go_wp2
    go_ret
    exact ⟨by first | rfl | (simp; done) | (simp [*]; done), by repeat (first | exact Drawn0.refl _ | apply Drawn0.step)⟩

-- NOT PRINTED: function 28 (strconv_numDigits)

-- NOT PRINTED: function 29 (strconv_formatBase10)

/-! ### strconv_isPowerOfTwo: function 34 -/
def strconv_isPowerOfTwo.f (a0 : Int) : Option (Bool) := some ((Go.bits .and .i64 a0 (wrap64 (a0 - 1))) == 0)
set_option maxHeartbeats 8000000 in
set_option maxRecDepth 100000 in
theorem strconv_isPowerOfTwo.calls (a0 : Int) (r : Bool) (w : World) (h : strconv_isPowerOfTwo.f a0 = some r) :
    Calls Tryd.prog 34 #[.int .i64 a0] w fun e w' => e = .returned (.bool r) ∧ Drawn0 w w' := by
  have H : (some ((Go.bits .and .i64 a0 (wrap64 (a0 - 1))) == 0)) = some r := h
  clear h
  obtain rfl := Option.some.inj H
  go_enter Tryd.func34, Tryd.ntmps34
  go_wp2
  go_ret
  exact ⟨by first | rfl | (simp; done) | (simp [*]; done), by repeat (first | exact Drawn0.refl _ | apply Drawn0.step)⟩

-- NOT PRINTED: function 36 (bits_TrailingZeros32)

-- NOT PRINTED: function 37 (bits_TrailingZeros64)

-- NOT PRINTED: function 35 (bits_TrailingZeros)

-- NOT PRINTED: function 30 (strconv_formatBits)

-- NOT PRINTED: function 26 (strconv_FormatInt)

-- NOT PRINTED: function 25 (strconv_Itoa_25)

-- NOT PRINTED: function 23 (strconv_Itoa_23)

/-! ### impl_FormatInt: function 17 -/
/-- A digit's text: only 0 and 1 are asked. -/
def impl_FormatInt.f (c : Int) : Option ByteArray := if c = 0 then some ⟨#[48]⟩ else if c = 1 then some ⟨#[49]⟩ else none
set_option maxHeartbeats 4000000 in
set_option maxRecDepth 100000 in
theorem impl_FormatInt.small (w : World) : (Calls Tryd.prog 27 #[.int .i64 0] w fun e w' => e = .returned (.string ⟨#[48]⟩) ∧ w = w') ∧ (Calls Tryd.prog 27 #[.int .i64 1] w fun e w' => e = .returned (.string ⟨#[49]⟩) ∧ w = w') := by
  constructor
  · go_enter Tryd.func27, Tryd.ntmps27
    go_wp2_with fail
    go_ret
    exact ⟨rfl, rfl⟩
  · go_enter Tryd.func27, Tryd.ntmps27
    go_wp2_with fail
    go_ret
    exact ⟨rfl, rfl⟩
set_option maxHeartbeats 4000000 in
set_option maxRecDepth 100000 in
theorem impl_FormatInt.format (w : World) : (Calls Tryd.prog 26 #[.int .i64 0, .int .i64 10] w fun e w' => e = .returned (.string ⟨#[48]⟩) ∧ w = w') ∧ (Calls Tryd.prog 26 #[.int .i64 1, .int .i64 10] w fun e w' => e = .returned (.string ⟨#[49]⟩) ∧ w = w') := by
  constructor
  · go_enter Tryd.func26, Tryd.ntmps26
    go_wp2_with (go_at_call 27; (with_reducible refine (impl_FormatInt.small _).1.mono ?_); rintro e w1 ⟨rfl, rfl⟩)
    go_ret
    exact ⟨rfl, rfl⟩
  · go_enter Tryd.func26, Tryd.ntmps26
    go_wp2_with (go_at_call 27; (with_reducible refine (impl_FormatInt.small _).2.mono ?_); rintro e w1 ⟨rfl, rfl⟩)
    go_ret
    exact ⟨rfl, rfl⟩
set_option maxHeartbeats 4000000 in
set_option maxRecDepth 100000 in
theorem impl_FormatInt.itoa (w : World) : (Calls Tryd.prog 25 #[.int .i64 0] w fun e w' => e = .returned (.string ⟨#[48]⟩) ∧ w = w') ∧ (Calls Tryd.prog 25 #[.int .i64 1] w fun e w' => e = .returned (.string ⟨#[49]⟩) ∧ w = w') := by
  constructor
  · go_enter Tryd.func25, Tryd.ntmps25
    go_wp2_with (go_at_call 26; (with_reducible refine (impl_FormatInt.format _).1.mono ?_); rintro e w1 ⟨rfl, rfl⟩)
    go_ret
    exact ⟨rfl, rfl⟩
  · go_enter Tryd.func25, Tryd.ntmps25
    go_wp2_with (go_at_call 26; (with_reducible refine (impl_FormatInt.format _).2.mono ?_); rintro e w1 ⟨rfl, rfl⟩)
    go_ret
    exact ⟨rfl, rfl⟩
set_option maxHeartbeats 4000000 in
set_option maxRecDepth 100000 in
theorem impl_FormatInt.itoa2 (w : World) : (Calls Tryd.prog 23 #[.int .i64 0] w fun e w' => e = .returned (.string ⟨#[48]⟩) ∧ w = w') ∧ (Calls Tryd.prog 23 #[.int .i64 1] w fun e w' => e = .returned (.string ⟨#[49]⟩) ∧ w = w') := by
  constructor
  · go_enter Tryd.func23, Tryd.ntmps23
    go_wp2_with (go_at_call 25; (with_reducible refine (impl_FormatInt.itoa _).1.mono ?_); rintro e w1 ⟨rfl, rfl⟩)
    go_ret
    exact ⟨rfl, rfl⟩
  · go_enter Tryd.func23, Tryd.ntmps23
    go_wp2_with (go_at_call 25; (with_reducible refine (impl_FormatInt.itoa _).2.mono ?_); rintro e w1 ⟨rfl, rfl⟩)
    go_ret
    exact ⟨rfl, rfl⟩
set_option maxHeartbeats 4000000 in
set_option maxRecDepth 100000 in
theorem impl_FormatInt.calls (c : Int) (s : ByteArray) (w : World) (h : impl_FormatInt.f c = some s) : Calls Tryd.prog 17 #[.int .i64 c] w fun e w' => e = .returned (.string s) ∧ w = w' := by
  unfold impl_FormatInt.f at h
  by_cases h0 : c = 0
  · rw [if_pos h0] at h
    obtain rfl := Option.some.inj h
    subst h0
    go_enter Tryd.func17, Tryd.ntmps17
    go_wp2_with (go_at_call 23; (with_reducible refine (impl_FormatInt.itoa2 _).1.mono ?_); rintro e w1 ⟨rfl, rfl⟩)
    go_ret
    exact ⟨rfl, rfl⟩
  · rw [if_neg h0] at h
    by_cases h1 : c = 1
    · rw [if_pos h1] at h
      obtain rfl := Option.some.inj h
      subst h1
      go_enter Tryd.func17, Tryd.ntmps17
      go_wp2_with (go_at_call 23; (with_reducible refine (impl_FormatInt.itoa2 _).2.mono ?_); rintro e w1 ⟨rfl, rfl⟩)
      go_ret
      exact ⟨rfl, rfl⟩
    · rw [if_neg h1] at h
      simp at h

end Go.Proofs.YtfpcgcmajdebmaaDoor.P
