/- Plain facts on whole numbers, bits, sums and rounds that the proofs of this seat share. Conditions: each lemma names its own. -/
import Derived.Laws.BitsLemmas
import Derived.Laws.Bits64
import Derived.Test.YteljkpglgjjnlaaSh
namespace Go.Proofs.YteljkpglgjjnlaaMath
open Go.RowKit Go.Proofs.YteljkpglgjjnlaaW.PrintWords Go.Proofs.YteljkpglgjjnlaaW.PrintLast Go.Proofs.YteljkpglgjjnlaaW.PrintMore
set_option linter.unusedVariables false
set_option linter.unusedSimpArgs false

/-! ### 1. Wraps, shifts and bits -/
theorem w64 {x : Int} (h0 : -9223372036854775808 ≤ x) (h1 : x ≤ 9223372036854775807) : wrap64 x = x := by unfold wrap64; omega
theorem i64id {x : Int} (h0 : 0 ≤ x) (h1 : x < 9223372036854775808) : IntKind.i64.wrap x = x := by rw [IntKind.wrap_i64]; omega
theorem shlN {a n : Nat} (h : a * 2 ^ n < 9223372036854775808) : shl .i64 (a : Int) (n : Int) = ((a * 2 ^ n : Nat) : Int) := by
  unfold shl
  have e : a * 2 ^ min n 64 = a * 2 ^ n := by
    rcases Nat.eq_zero_or_pos a with rfl | ha
    · simp
    · have : n < 63 := by
        apply Nat.lt_of_not_le
        intro hn
        have h2 : 2 ^ 63 ≤ 2 ^ n := Nat.pow_le_pow_right (by omega) hn
        have h3 : 1 * 2 ^ n ≤ a * 2 ^ n := Nat.mul_le_mul_right _ ha
        omega
      rw [Nat.min_eq_left (by omega)]
  show IntKind.i64.wrap ((a : Int) * 2 ^ min ((n : Int).toNat) 64) = _
  rw [Int.toNat_natCast]
  have : ((a : Int) * 2 ^ min n 64) = ((a * 2 ^ n : Nat) : Int) := by rw [← e]; push_cast; rfl
  rw [this, i64id (by omega) (by omega)]
theorem shl1 {n : Nat} (h : n ≤ 62) : shl .i64 1 (n : Int) = ((2 ^ n : Nat) : Int) := by
  have h2 : 2 ^ n ≤ 2 ^ 62 := Nat.pow_le_pow_right (by omega) h
  have := @shlN 1 n (by omega)
  rw [Nat.one_mul] at this
  exact this
theorem shrN {w x : Nat} (h : w < 18446744073709551616) : shr .i64 (w : Int) (x : Int) = ((w / 2 ^ x : Nat) : Int) := by
  unfold shr
  show (w : Int) / 2 ^ min ((x : Int).toNat) 64 = _
  rw [Int.toNat_natCast]
  have e : ((2 : Int) ^ min x 64) = ((2 ^ min x 64 : Nat) : Int) := by push_cast; rfl
  rw [e, ← Int.natCast_ediv]
  congr 1
  by_cases hx : x ≤ 64
  · rw [Nat.min_eq_left hx]
  · rw [Nat.min_eq_right (by omega)]
    have h2 : 2 ^ 64 ≤ 2 ^ x := Nat.pow_le_pow_right (by omega) (by omega)
    rw [Nat.div_eq_of_lt (by omega), Nat.div_eq_of_lt (by omega)]
theorem shl1m {n : Nat} (h : n ≤ 62) : wrap64 (shl .i64 1 (n : Int) - 1) = ((2 ^ n : Nat) : Int) - 1 := by
  rw [shl1 h]
  have h2 : 2 ^ n ≤ 2 ^ 62 := Nat.pow_le_pow_right (by omega) h
  have h3 := Nat.two_pow_pos n
  generalize 2 ^ n = p at *
  exact w64 (by omega) (by omega)
theorem shrS {w x : Nat} (h : x ≤ 64) : shr .i64 (w : Int) (x : Int) = ((w / 2 ^ x : Nat) : Int) := by
  unfold shr
  show (w : Int) / 2 ^ min ((x : Int).toNat) 64 = _
  rw [Int.toNat_natCast, Nat.min_eq_left h]
  push_cast
  rfl
theorem i64nat (n : Int) (h0 : 0 ≤ n) (h1 : n < 2 ^ 63) : IntKind.i64.wrap n = n := i64id h0 (by omega)
theorem bandN {a b : Nat} (ha : a < 9223372036854775808) (hb : b < 9223372036854775808) : Go.bits .and .i64 (a : Int) (b : Int) = ((a &&& b : Nat) : Int) :=
  (bits_nat .i64 63 (by decide) i64nat a b (by omega) (by omega)).1
theorem borN {a b : Nat} (ha : a < 9223372036854775808) (hb : b < 9223372036854775808) : Go.bits .or .i64 (a : Int) (b : Int) = ((a ||| b : Nat) : Int) :=
  (bits_nat .i64 63 (by decide) i64nat a b (by omega) (by omega)).2
theorem bxorN {a b : Nat} (ha : a < 9223372036854775808) (hb : b < 9223372036854775808) : Go.bits .xor .i64 (a : Int) (b : Int) = ((a ^^^ b : Nat) : Int) := by
  have ha' : a % 2 ^ 64 = a := Nat.mod_eq_of_lt (by omega)
  have hb' : b % 2 ^ 64 = b := Nat.mod_eq_of_lt (by omega)
  have hx : a ^^^ b < 2 ^ 63 := Nat.xor_lt_two_pow (by omega) (by omega)
  have e : (BitVec.ofNat 64 a ^^^ BitVec.ofNat 64 b).toNat = a ^^^ b := by rw [BitVec.toNat_xor, BitVec.toNat_ofNat, BitVec.toNat_ofNat, ha', hb']
  simp only [Go.bits, IntKind.bits, BitVec.ofInt_natCast]
  have e2 : IntKind.i64.wrap (((BitVec.ofNat 64 a ^^^ BitVec.ofNat 64 b).toNat : Nat) : Int) = ((a ^^^ b : Nat) : Int) := by
    rw [e]
    refine i64id ?_ ?_ <;> omega
  exact e2
def b2i (b : Bool) : Int := if b then 1 else 0
theorem mod2_testBit (w x : Nat) : w / 2 ^ x % 2 = (w.testBit x).toNat := by
  rw [Nat.testBit_eq_decide_div_mod_eq]
  have : w / 2 ^ x % 2 < 2 := Nat.mod_lt _ (by omega)
  by_cases h : w / 2 ^ x % 2 = 1
  · simp [h]
  · have : w / 2 ^ x % 2 = 0 := by omega
    simp [this]
theorem toNat_b2i (b : Bool) : ((b.toNat : Nat) : Int) = b2i b := by cases b <;> rfl
/-- The value of a word at a place, as the program asks it. -/
theorem at1 {w x : Nat} (h : w < 9223372036854775808) : Go.bits .and .i64 (shr .i64 (w : Int) (x : Int)) 1 = b2i (w.testBit x) := by
  rw [shrN (by omega)]
  have : w / 2 ^ x ≤ w := Nat.div_le_self _ _
  rw [show (1 : Int) = ((1 : Nat) : Int) from rfl, bandN (by omega) (by omega), Nat.and_one_is_mod, mod2_testBit, toNat_b2i]
theorem b2i_beq (a b : Bool) : (b2i a == b2i b) = (a == b) := by cases a <;> cases b <;> rfl
/-! ### 2. Tables -/
structure Tab (n w : Nat) : Prop where
  hn : n ≤ 5
  hw : w < 2 ^ 2 ^ n
theorem Tab.size {n w : Nat} (t : Tab n w) : 2 ^ n ≤ 32 := Nat.pow_le_pow_right (by omega) t.hn
theorem Tab.w32 {n w : Nat} (t : Tab n w) : w < 4294967296 := by
  have h : 2 ^ 2 ^ n ≤ 2 ^ 32 := Nat.pow_le_pow_right (by omega) t.size
  have := t.hw
  omega
theorem Tab.w63 {n w : Nat} (t : Tab n w) : w < 9223372036854775808 := by have := t.w32; omega
def isTab (b W : Int) : Bool := decide (0 ≤ b ∧ b ≤ 5 ∧ 0 ≤ W ∧ W < 2 ^ 2 ^ b.toNat)
theorem isTab_yes {b W : Int} (h : isTab b W = true) : ∃ n w : Nat, b = n ∧ W = w ∧ Tab n w := by
  obtain ⟨h0, h1, h2, h3⟩ := of_decide_eq_true h
  obtain ⟨n, rfl⟩ := Int.eq_ofNat_of_zero_le h0
  obtain ⟨w, rfl⟩ := Int.eq_ofNat_of_zero_le h2
  refine ⟨n, w, rfl, rfl, ⟨by omega, ?_⟩⟩
  rw [Int.toNat_natCast] at h3
  have e : ((2 : Int) ^ 2 ^ n) = ((2 ^ 2 ^ n : Nat) : Int) := by push_cast; rfl
  omega
theorem isTab_mk {n w : Nat} (t : Tab n w) : isTab n w = true := by
  have h1 := t.hn
  have h2 := t.hw
  refine decide_eq_true ⟨by omega, by omega, by omega, ?_⟩
  rw [Int.toNat_natCast]
  have e : ((2 : Int) ^ 2 ^ n) = ((2 ^ 2 ^ n : Nat) : Int) := by push_cast; rfl
  omega
/-! ### 3. Rounds -/
theorem ev1 {A R : Type} {g : Nat → Option A} {a : A} (h : Ev g a) {F G : Nat → Option R} {r : R} (key : ∀ k, g k = some a → F k = G k) (hG : Ev G r) : Ev F r := by
  obtain ⟨K, h⟩ := h
  obtain ⟨L, hG⟩ := hG
  exact ⟨max K L, fun k hk => (key k (h k (by omega))).trans (hG k (by omega))⟩
theorem evs1 {A R : Type} {g : Nat → Option A} {a : A} (h : Ev g a) {F G : Nat → Option R} {r : R} (key : ∀ k, g k = some a → F (k + 1) = G k) (hG : Ev G r) : Ev F r := by
  obtain ⟨K, h⟩ := h
  obtain ⟨L, hG⟩ := hG
  refine ⟨max K L + 1, fun k hk => ?_⟩
  obtain ⟨m, rfl⟩ : ∃ m, k = m + 1 := ⟨k - 1, by omega⟩
  exact (key m (h m (by omega))).trans (hG m (by omega))
theorem ev0 {R : Type} {F : Nat → Option R} {r : R} (key : ∀ k, F (k + 1) = some r) : Ev F r := Ev.step (f := fun _ => some r) key (Ev.now r)
theorem ev_const {R : Type} {F : Option R} {r : R} (key : F = some r) : Ev (fun _ => F) r := ⟨0, fun _ _ => key⟩
/-- A loop that counts up: each round hands on to the next. -/
theorem ev_for {R : Type} (P : Nat → Nat → Option R) (N : Nat) {r : R} (step : ∀ i, i < N → Ev (fun k => P k (i + 1)) r → Ev (fun k => P k i) r) (fin : Ev (fun k => P k N) r) : Ev (fun k => P k 0) r := by
  have : ∀ d, d ≤ N → Ev (fun k => P k (N - d)) r := by
    intro d
    induction d with
    | zero => intro _; exact fin
    | succ d ih =>
      intro hd
      refine step (N - (d + 1)) (by omega) ?_
      have e : N - (d + 1) + 1 = N - d := by omega
      rw [e]
      exact ih (by omega)
  have h := this N (Nat.le_refl _)
  rw [Nat.sub_self] at h
  exact h
/-! ### 4. Sums and greatest values -/
def sumI : Nat → (Nat → Int) → Int
  | 0, _ => 0
  | n + 1, f => sumI n f + f n
def maxI : Nat → (Nat → Int) → Int → Int
  | 0, _, m => m
  | n + 1, f, m => mx (maxI n f m) (f n)
/-! ### 5. What the functions of tables come to -/
/-- The sign of a bit. -/
def chi (b : Bool) : Int := if b then -1 else 1
/-! ### 6. Lists that are filled row by row -/
def tab (N : Nat) (F : Nat → Int) : List Int := (List.range N).map F
def rwS (N u : Nat) (F : Nat → Int) : List Int := tab u F ++ List.replicate (N - u) 0
def rwAt (N u : Nat) (F : Nat → Int) (v : Int) : List Int := tab u F ++ v :: List.replicate (N - u - 1) 0
theorem tab_len (N : Nat) (F : Nat → Int) : (tab N F).length = N := by simp [tab]
theorem rd_nat (l : List Int) (i : Nat) : rd l (i : Int) = l.getD i 0 := by unfold rd; rw [Int.toNat_natCast]
end Go.Proofs.YteljkpglgjjnlaaMath
