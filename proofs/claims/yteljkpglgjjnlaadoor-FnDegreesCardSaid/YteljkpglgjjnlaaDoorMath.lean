/- Plain facts on whole numbers, bits, sums and rounds that the proofs of this seat share. Conditions: each lemma names its own. -/
import Derived.Laws.BitsLemmas
import Derived.Laws.Bits64
import Derived.Test.YteljkpglgjjnlaaDoorSh
namespace Go.Proofs.YteljkpglgjjnlaaDoorMath
open Go.RowKit Go.Proofs.YteljkpglgjjnlaaDoorW.PrintWords Go.Proofs.YteljkpglgjjnlaaDoorW.PrintLast Go.Proofs.YteljkpglgjjnlaaDoorW.PrintMore
set_option linter.unusedVariables false
set_option linter.unusedSimpArgs false

/-! ### 1. Wraps, shifts and bits -/
theorem w64 {x : Int} (h0 : -9223372036854775808 ≤ x) (h1 : x ≤ 9223372036854775807) : wrap64 x = x := by unfold wrap64; omega
theorem i64id {x : Int} (h0 : 0 ≤ x) (h1 : x < 9223372036854775808) : IntKind.i64.wrap x = x := by rw [IntKind.wrap_i64]; omega
theorem shlN {a n : Nat} (h : a * 2 ^ n < 9223372036854775808) : shl .i64 (a : Int) (n : Int) = ((a * 2 ^ n : Nat) : Int) := by
  unfold shl
  have e : a * 2 ^ min n 64 = a * 2 ^ n := by
    rcases Nat.eq_zero_or_pos a with rfl | ha
    · simp
    · have : n < 63 := by
        apply Nat.lt_of_not_le
        intro hn
        have h2 : 2 ^ 63 ≤ 2 ^ n := Nat.pow_le_pow_right (by omega) hn
        have h3 : 1 * 2 ^ n ≤ a * 2 ^ n := Nat.mul_le_mul_right _ ha
        omega
      rw [Nat.min_eq_left (by omega)]
  show IntKind.i64.wrap ((a : Int) * 2 ^ min ((n : Int).toNat) 64) = _
  rw [Int.toNat_natCast]
  have : ((a : Int) * 2 ^ min n 64) = ((a * 2 ^ n : Nat) : Int) := by rw [← e]; push_cast; rfl
  rw [this, i64id (by omega) (by omega)]
theorem shl1 {n : Nat} (h : n ≤ 62) : shl .i64 1 (n : Int) = ((2 ^ n : Nat) : Int) := by
  have h2 : 2 ^ n ≤ 2 ^ 62 := Nat.pow_le_pow_right (by omega) h
  have := @shlN 1 n (by omega)
  rw [Nat.one_mul] at this
  exact this
theorem shl1u {n : Nat} (h : n ≤ 63) : shl .u64 1 (n : Int) = ((2 ^ n : Nat) : Int) := by
  unfold shl
  have h2 : 2 ^ n ≤ 2 ^ 63 := Nat.pow_le_pow_right (by omega) h
  show IntKind.u64.wrap ((1 : Int) * 2 ^ min ((n : Int).toNat) 64) = _
  rw [Int.toNat_natCast, Nat.min_eq_left (by omega), Int.one_mul]
  have e : ((2 : Int) ^ n) = ((2 ^ n : Nat) : Int) := by push_cast; rfl
  rw [e]
  rw [IntKind.wrap_u64]
  generalize 2 ^ n = p at *
  omega
theorem shrN {w x : Nat} (h : w < 18446744073709551616) : shr .i64 (w : Int) (x : Int) = ((w / 2 ^ x : Nat) : Int) := by
  unfold shr
  show (w : Int) / 2 ^ min ((x : Int).toNat) 64 = _
  rw [Int.toNat_natCast]
  have e : ((2 : Int) ^ min x 64) = ((2 ^ min x 64 : Nat) : Int) := by push_cast; rfl
  rw [e, ← Int.natCast_ediv]
  congr 1
  by_cases hx : x ≤ 64
  · rw [Nat.min_eq_left hx]
  · rw [Nat.min_eq_right (by omega)]
    have h2 : 2 ^ 64 ≤ 2 ^ x := Nat.pow_le_pow_right (by omega) (by omega)
    rw [Nat.div_eq_of_lt (by omega), Nat.div_eq_of_lt (by omega)]
theorem shl1m {n : Nat} (h : n ≤ 62) : wrap64 (shl .i64 1 (n : Int) - 1) = ((2 ^ n : Nat) : Int) - 1 := by
  rw [shl1 h]
  have h2 : 2 ^ n ≤ 2 ^ 62 := Nat.pow_le_pow_right (by omega) h
  have h3 := Nat.two_pow_pos n
  generalize 2 ^ n = p at *
  exact w64 (by omega) (by omega)
theorem shrS {w x : Nat} (h : x ≤ 64) : shr .i64 (w : Int) (x : Int) = ((w / 2 ^ x : Nat) : Int) := by
  unfold shr
  show (w : Int) / 2 ^ min ((x : Int).toNat) 64 = _
  rw [Int.toNat_natCast, Nat.min_eq_left h]
  push_cast
  rfl
theorem i64nat (n : Int) (h0 : 0 ≤ n) (h1 : n < 2 ^ 63) : IntKind.i64.wrap n = n := i64id h0 (by omega)
theorem bandN {a b : Nat} (ha : a < 9223372036854775808) (hb : b < 9223372036854775808) : Go.bits .and .i64 (a : Int) (b : Int) = ((a &&& b : Nat) : Int) :=
  (bits_nat .i64 63 (by decide) i64nat a b (by omega) (by omega)).1
theorem borN {a b : Nat} (ha : a < 9223372036854775808) (hb : b < 9223372036854775808) : Go.bits .or .i64 (a : Int) (b : Int) = ((a ||| b : Nat) : Int) :=
  (bits_nat .i64 63 (by decide) i64nat a b (by omega) (by omega)).2
theorem bxorN {a b : Nat} (ha : a < 9223372036854775808) (hb : b < 9223372036854775808) : Go.bits .xor .i64 (a : Int) (b : Int) = ((a ^^^ b : Nat) : Int) := by
  have ha' : a % 2 ^ 64 = a := Nat.mod_eq_of_lt (by omega)
  have hb' : b % 2 ^ 64 = b := Nat.mod_eq_of_lt (by omega)
  have hx : a ^^^ b < 2 ^ 63 := Nat.xor_lt_two_pow (by omega) (by omega)
  have e : (BitVec.ofNat 64 a ^^^ BitVec.ofNat 64 b).toNat = a ^^^ b := by rw [BitVec.toNat_xor, BitVec.toNat_ofNat, BitVec.toNat_ofNat, ha', hb']
  simp only [Go.bits, IntKind.bits, BitVec.ofInt_natCast]
  have e2 : IntKind.i64.wrap (((BitVec.ofNat 64 a ^^^ BitVec.ofNat 64 b).toNat : Nat) : Int) = ((a ^^^ b : Nat) : Int) := by
    rw [e]
    refine i64id ?_ ?_ <;> omega
  exact e2
theorem bandnotN {a b : Nat} (ha : a < 9223372036854775808) (hb : b < 9223372036854775808) : Go.bits .andNot .i64 (a : Int) (b : Int) = ((a ^^^ (a &&& b) : Nat) : Int) := by
  have ha' : a % 2 ^ 64 = a := Nat.mod_eq_of_lt (by omega)
  have hb' : b % 2 ^ 64 = b := Nat.mod_eq_of_lt (by omega)
  have hx : a ^^^ (a &&& b) < 2 ^ 63 := Nat.xor_lt_two_pow (by omega) (Nat.and_lt_two_pow _ (by omega))
  have e : (BitVec.ofNat 64 a &&& ~~~ BitVec.ofNat 64 b).toNat = a ^^^ (a &&& b) := by
    apply Nat.eq_of_testBit_eq
    intro i
    rw [BitVec.testBit_toNat, BitVec.getLsbD_and, BitVec.getLsbD_not, BitVec.getLsbD_ofNat, BitVec.getLsbD_ofNat, Nat.testBit_xor, Nat.testBit_and]
    by_cases hi : i < 64
    · simp [hi]; cases a.testBit i <;> cases b.testBit i <;> rfl
    · have : a.testBit i = false := Nat.testBit_lt_two_pow (Nat.lt_of_lt_of_le (show a < 2 ^ 64 by omega) (Nat.pow_le_pow_right (by omega) (by omega)))
      simp [hi, this]
  simp only [Go.bits, IntKind.bits, BitVec.ofInt_natCast]
  have e2 : IntKind.i64.wrap (((BitVec.ofNat 64 a &&& ~~~BitVec.ofNat 64 b).toNat : Nat) : Int) = ((a ^^^ (a &&& b) : Nat) : Int) := by
    rw [e]
    refine i64id ?_ ?_ <;> omega
  exact e2
def b2i (b : Bool) : Int := if b then 1 else 0
theorem b2i_range (b : Bool) : 0 ≤ b2i b ∧ b2i b ≤ 1 := by cases b <;> simp [b2i]
theorem mod2_testBit (w x : Nat) : w / 2 ^ x % 2 = (w.testBit x).toNat := by
  rw [Nat.testBit_eq_decide_div_mod_eq]
  have : w / 2 ^ x % 2 < 2 := Nat.mod_lt _ (by omega)
  by_cases h : w / 2 ^ x % 2 = 1
  · simp [h]
  · have : w / 2 ^ x % 2 = 0 := by omega
    simp [this]
theorem toNat_b2i (b : Bool) : ((b.toNat : Nat) : Int) = b2i b := by cases b <;> rfl
/-- The value of a word at a place, as the program asks it. -/
theorem at1 {w x : Nat} (h : w < 9223372036854775808) : Go.bits .and .i64 (shr .i64 (w : Int) (x : Int)) 1 = b2i (w.testBit x) := by
  rw [shrN (by omega)]
  have : w / 2 ^ x ≤ w := Nat.div_le_self _ _
  rw [show (1 : Int) = ((1 : Nat) : Int) from rfl, bandN (by omega) (by omega), Nat.and_one_is_mod, mod2_testBit, toNat_b2i]
theorem xor_mod2 (a b : Nat) : (a ^^^ b) % 2 = ((a % 2 == 1) != (b % 2 == 1)).toNat := by
  have h := Nat.testBit_xor a b 0
  simp only [Nat.testBit_zero] at h
  have h1 : (a ^^^ b) % 2 < 2 := Nat.mod_lt _ (by omega)
  have ha : a % 2 < 2 := Nat.mod_lt _ (by omega)
  have hb : b % 2 < 2 := Nat.mod_lt _ (by omega)
  generalize (a ^^^ b) % 2 = c at *
  generalize a % 2 = a' at *
  generalize b % 2 = b' at *
  rcases (by omega : a' = 0 ∨ a' = 1) with rfl | rfl <;> rcases (by omega : b' = 0 ∨ b' = 1) with rfl | rfl <;> rcases (by omega : c = 0 ∨ c = 1) with rfl | rfl <;> simp_all
/-- Do two values differ? -/
theorem at2 {w x y : Nat} (h : w < 9223372036854775808) : Go.bits .and .i64 (Go.bits .xor .i64 (shr .i64 (w : Int) (x : Int)) (shr .i64 (w : Int) (y : Int))) 1 = b2i (w.testBit x != w.testBit y) := by
  rw [shrN (by omega), shrN (by omega)]
  have h1 : w / 2 ^ x ≤ w := Nat.div_le_self _ _
  have h2 : w / 2 ^ y ≤ w := Nat.div_le_self _ _
  have h3 : w / 2 ^ x ^^^ w / 2 ^ y < 2 ^ 63 := Nat.xor_lt_two_pow (by omega) (by omega)
  rw [bxorN (by omega) (by omega), show (1 : Int) = ((1 : Nat) : Int) from rfl, bandN (by omega) (by omega), Nat.and_one_is_mod, xor_mod2, toNat_b2i]
  simp only [mod2_testBit]
  cases w.testBit x <;> cases w.testBit y <;> rfl
/-- Does the change of a set of variables change the value? -/
def chg (w x y : Nat) : Bool := w.testBit x != w.testBit (x ^^^ y)
theorem at3 {w x y : Nat} (h : w < 9223372036854775808) : Go.bits .and .i64 (Go.bits .xor .i64 (shr .i64 (w : Int) (x : Int)) (shr .i64 (w : Int) ((x ^^^ y : Nat) : Int))) 1 = b2i (chg w x y) := at2 h
theorem b2i_xor (a b : Bool) : Go.bits .xor .i64 (b2i a) (b2i b) = b2i (a != b) := by cases a <;> cases b <;> rfl
theorem b2i_eq {a b : Bool} : b2i a = b2i b ↔ a = b := by cases a <;> cases b <;> decide
theorem b2i_ne (a b : Bool) : (b2i a != b2i b) = (a != b) := by cases a <;> cases b <;> rfl
theorem b2i_beq (a b : Bool) : (b2i a == b2i b) = (a == b) := by cases a <;> cases b <;> rfl
theorem xor_lt {n x y : Nat} (hx : x < 2 ^ n) (hy : y < 2 ^ n) : x ^^^ y < 2 ^ n := Nat.xor_lt_two_pow hx hy
theorem and_lt {n x y : Nat} (hy : y < 2 ^ n) : x &&& y < 2 ^ n := Nat.and_lt_two_pow _ hy

/-! ### 2. Tables -/
structure Tab (n w : Nat) : Prop where
  hn : n ≤ 5
  hw : w < 2 ^ 2 ^ n
theorem Tab.size {n w : Nat} (t : Tab n w) : 2 ^ n ≤ 32 := Nat.pow_le_pow_right (by omega) t.hn
theorem Tab.w32 {n w : Nat} (t : Tab n w) : w < 4294967296 := by
  have h : 2 ^ 2 ^ n ≤ 2 ^ 32 := Nat.pow_le_pow_right (by omega) t.size
  have := t.hw
  omega
theorem Tab.w63 {n w : Nat} (t : Tab n w) : w < 9223372036854775808 := by have := t.w32; omega
def isTab (b W : Int) : Bool := decide (0 ≤ b ∧ b ≤ 5 ∧ 0 ≤ W ∧ W < 2 ^ 2 ^ b.toNat)
theorem isTab_yes {b W : Int} (h : isTab b W = true) : ∃ n w : Nat, b = n ∧ W = w ∧ Tab n w := by
  obtain ⟨h0, h1, h2, h3⟩ := of_decide_eq_true h
  obtain ⟨n, rfl⟩ := Int.eq_ofNat_of_zero_le h0
  obtain ⟨w, rfl⟩ := Int.eq_ofNat_of_zero_le h2
  refine ⟨n, w, rfl, rfl, ⟨by omega, ?_⟩⟩
  rw [Int.toNat_natCast] at h3
  have e : ((2 : Int) ^ 2 ^ n) = ((2 ^ 2 ^ n : Nat) : Int) := by push_cast; rfl
  omega
theorem isTab_mk {n w : Nat} (t : Tab n w) : isTab n w = true := by
  have h1 := t.hn
  have h2 := t.hw
  refine decide_eq_true ⟨by omega, by omega, by omega, ?_⟩
  rw [Int.toNat_natCast]
  have e : ((2 : Int) ^ 2 ^ n) = ((2 ^ 2 ^ n : Nat) : Int) := by push_cast; rfl
  omega
def isInp (b x : Int) : Bool := decide (0 ≤ x ∧ x < 2 ^ b.toNat)
theorem inp_size {n : Nat} : ((2 : Int) ^ (n : Int).toNat) = ((2 ^ n : Nat) : Int) := by rw [Int.toNat_natCast]; push_cast; rfl
theorem isInp_yes {n : Nat} {x : Int} (h : isInp n x = true) : ∃ y : Nat, x = y ∧ y < 2 ^ n := by
  obtain ⟨h0, h1⟩ := of_decide_eq_true h
  obtain ⟨y, rfl⟩ := Int.eq_ofNat_of_zero_le h0
  rw [inp_size] at h1
  exact ⟨y, rfl, by omega⟩
theorem isInp_le {n : Nat} (x : Int) : decide (0 ≤ x ∧ x ≤ ((2 ^ n : Nat) : Int) - 1) = isInp n x := decide_eq_decide.mpr (by rw [inp_size]; generalize 2 ^ n = p; omega)
theorem isInp_lt {n : Nat} {x : Int} (h : 0 ≤ x) : decide (x < ((2 ^ n : Nat) : Int)) = isInp n x := decide_eq_decide.mpr (by rw [inp_size]; generalize 2 ^ n = p; omega)
theorem isInp_mk {n x : Nat} (h : x < 2 ^ n) : isInp n x = true := decide_eq_true ⟨by omega, by rw [inp_size]; omega⟩
theorem six {b : Int} (h0 : 0 ≤ b) (h1 : b ≤ 5) : b = 0 ∨ b = 1 ∨ b = 2 ∨ b = 3 ∨ b = 4 ∨ b = 5 := by omega
theorem pow_lt_size {n i : Nat} (h : i < n) : 2 ^ i < 2 ^ n := Nat.pow_lt_pow_right (by omega) h

/-! ### 3. Rounds -/
theorem ev1 {A R : Type} {g : Nat → Option A} {a : A} (h : Ev g a) {F G : Nat → Option R} {r : R} (key : ∀ k, g k = some a → F k = G k) (hG : Ev G r) : Ev F r := by
  obtain ⟨K, h⟩ := h
  obtain ⟨L, hG⟩ := hG
  exact ⟨max K L, fun k hk => (key k (h k (by omega))).trans (hG k (by omega))⟩
theorem ev1' {A R : Type} {g : Nat → Option A} {a : A} (h : Ev g a) {F : Nat → Option R} {r : R} (key : ∀ k, g k = some a → F k = some r) : Ev F r := ev1 h key (Ev.now r)
theorem evs1 {A R : Type} {g : Nat → Option A} {a : A} (h : Ev g a) {F G : Nat → Option R} {r : R} (key : ∀ k, g k = some a → F (k + 1) = G k) (hG : Ev G r) : Ev F r := by
  obtain ⟨K, h⟩ := h
  obtain ⟨L, hG⟩ := hG
  refine ⟨max K L + 1, fun k hk => ?_⟩
  obtain ⟨m, rfl⟩ : ∃ m, k = m + 1 := ⟨k - 1, by omega⟩
  exact (key m (h m (by omega))).trans (hG m (by omega))
theorem ev0 {R : Type} {F : Nat → Option R} {r : R} (key : ∀ k, F (k + 1) = some r) : Ev F r := Ev.step (f := fun _ => some r) key (Ev.now r)
theorem ev_const {R : Type} {F : Option R} {r : R} (key : F = some r) : Ev (fun _ => F) r := ⟨0, fun _ _ => key⟩
theorem ev_eq {R : Type} {F : Nat → Option R} {r r' : R} (h : Ev F r) (e : r = r') : Ev F r' := e ▸ h
/-- Five answers at one number of rounds. -/
theorem ev_two {A B : Type} {g : Nat → Option A} {h : Nat → Option B} {a : A} {b : B} (hg : Ev g a) (hh : Ev h b) : ∃ K, ∀ k, K ≤ k → g k = some a ∧ h k = some b := by
  obtain ⟨K1, h1⟩ := hg
  obtain ⟨K2, h2⟩ := hh
  exact ⟨K1 + K2, fun k hk => ⟨h1 k (by omega), h2 k (by omega)⟩⟩
theorem ev_five {A B C D E : Type} {g1 : Nat → Option A} {g2 : Nat → Option B} {g3 : Nat → Option C} {g4 : Nat → Option D} {g5 : Nat → Option E} {a : A} {b : B} {c : C} {d : D} {e : E}
    (h1 : Ev g1 a) (h2 : Ev g2 b) (h3 : Ev g3 c) (h4 : Ev g4 d) (h5 : Ev g5 e) : ∃ k, g1 k = some a ∧ g2 k = some b ∧ g3 k = some c ∧ g4 k = some d ∧ g5 k = some e := by
  obtain ⟨K1, h1⟩ := h1
  obtain ⟨K2, h2⟩ := h2
  obtain ⟨K3, h3⟩ := h3
  obtain ⟨K4, h4⟩ := h4
  obtain ⟨K5, h5⟩ := h5
  exact ⟨K1 + K2 + K3 + K4 + K5, h1 _ (by omega), h2 _ (by omega), h3 _ (by omega), h4 _ (by omega), h5 _ (by omega)⟩
/-- A loop that counts up: each round hands on to the next. -/
theorem ev_for {R : Type} (P : Nat → Nat → Option R) (N : Nat) {r : R} (step : ∀ i, i < N → Ev (fun k => P k (i + 1)) r → Ev (fun k => P k i) r) (fin : Ev (fun k => P k N) r) : Ev (fun k => P k 0) r := by
  have : ∀ d, d ≤ N → Ev (fun k => P k (N - d)) r := by
    intro d
    induction d with
    | zero => intro _; exact fin
    | succ d ih =>
      intro hd
      refine step (N - (d + 1)) (by omega) ?_
      have e : N - (d + 1) + 1 = N - d := by omega
      rw [e]
      exact ih (by omega)
  have h := this N (Nat.le_refl _)
  rw [Nat.sub_self] at h
  exact h
/-- The same, from a round on. -/
theorem ev_from {R : Type} (P : Nat → Nat → Option R) (M N : Nat) {r : R} (hMN : M ≤ N) (step : ∀ i, M ≤ i → i < N → Ev (fun k => P k (i + 1)) r → Ev (fun k => P k i) r) (fin : Ev (fun k => P k N) r) : Ev (fun k => P k M) r := by
  have : ∀ d, d ≤ N - M → Ev (fun k => P k (N - d)) r := by
    intro d
    induction d with
    | zero => intro _; exact fin
    | succ d ih =>
      intro hd
      refine step (N - (d + 1)) (by omega) (by omega) ?_
      have e : N - (d + 1) + 1 = N - d := by omega
      rw [e]
      exact ih (by omega)
  have h := this (N - M) (Nat.le_refl _)
  have e : N - (N - M) = M := by omega
  rw [e] at h
  exact h

/-! ### 4. Sums and greatest values -/
def sumI : Nat → (Nat → Int) → Int
  | 0, _ => 0
  | n + 1, f => sumI n f + f n
def maxI : Nat → (Nat → Int) → Int → Int
  | 0, _, m => m
  | n + 1, f, m => mx (maxI n f m) (f n)
theorem sumI_congr {n : Nat} {f g : Nat → Int} (h : ∀ i, i < n → f i = g i) : sumI n f = sumI n g := by
  induction n with
  | zero => rfl
  | succ n ih => simp only [sumI]; rw [ih (fun i hi => h i (by omega)), h n (by omega)]
theorem maxI_congr {n : Nat} {f g : Nat → Int} {m : Int} (h : ∀ i, i < n → f i = g i) : maxI n f m = maxI n g m := by
  induction n with
  | zero => rfl
  | succ n ih => simp only [maxI]; rw [ih (fun i hi => h i (by omega)), h n (by omega)]
theorem sumI_bound {n : Nat} {f : Nat → Int} {a b : Int} (h : ∀ i, i < n → a ≤ f i ∧ f i ≤ b) : n * a ≤ sumI n f ∧ sumI n f ≤ n * b := by
  induction n with
  | zero => simp [sumI]
  | succ n ih =>
    have h1 := ih (fun i hi => h i (by omega))
    have h2 := h n (by omega)
    simp only [sumI]
    push_cast
    rw [Int.add_mul, Int.add_mul]
    omega
theorem sumI_range {n : Nat} {f : Nat → Int} (h : ∀ i, i < n → 0 ≤ f i ∧ f i ≤ 1) : 0 ≤ sumI n f ∧ sumI n f ≤ n := by
  have := sumI_bound h
  omega
theorem maxI_range {n : Nat} {f : Nat → Int} {m a b : Int} (hm : a ≤ m ∧ m ≤ b) (h : ∀ i, i < n → a ≤ f i ∧ f i ≤ b) : a ≤ maxI n f m ∧ maxI n f m ≤ b := by
  induction n with
  | zero => exact hm
  | succ n ih =>
    have h1 := ih (fun i hi => h i (by omega))
    have h2 := h n (by omega)
    simp only [maxI, mx]
    split <;> omega

/-! ### 5. What the functions of tables come to -/
def sens (n w x : Nat) : Int := sumI n fun i => b2i (chg w x (2 ^ i))
def infl (n w i : Nat) : Int := sumI (2 ^ n) fun x => b2i (chg w x (2 ^ i))
theorem sens_range (n w x : Nat) : 0 ≤ sens n w x ∧ sens n w x ≤ n := sumI_range fun _ _ => b2i_range _
theorem infl_range (n w i : Nat) : 0 ≤ infl n w i ∧ infl n w i ≤ ((2 ^ n : Nat) : Int) := sumI_range fun _ _ => b2i_range _
theorem sum_b2i (n : Nat) (p : Nat → Bool) : 0 ≤ sumI n (fun i => b2i (p i)) ∧ sumI n (fun i => b2i (p i)) ≤ n := sumI_range fun _ _ => b2i_range _
theorem pow62 {n : Nat} (h : n ≤ 5) : 2 ^ n ≤ 32 := Nat.pow_le_pow_right (by omega) h

/-- The sign of a bit. -/
def chi (b : Bool) : Int := if b then -1 else 1
theorem chi_range (b : Bool) : -1 ≤ chi b ∧ chi b ≤ 1 := by cases b <;> simp [chi]
theorem chi_mul (a b : Bool) : chi a * chi b = chi (a != b) := by cases a <;> cases b <;> rfl
theorem sumI_abs {n : Nat} {f : Nat → Int} (h : ∀ i, i < n → -1 ≤ f i ∧ f i ≤ 1) : -(n : Int) ≤ sumI n f ∧ sumI n f ≤ n := by
  have := sumI_bound h
  omega
def acor (n w s : Nat) : Int := sumI (2 ^ n) fun x => chi (w.testBit x != w.testBit (x ^^^ s))
theorem acor_range (n w s : Nat) : -((2 ^ n : Nat) : Int) ≤ acor n w s ∧ acor n w s ≤ ((2 ^ n : Nat) : Int) := sumI_abs fun _ _ => chi_range _
/-! ### 6. Lists that are filled row by row -/
def tab (N : Nat) (F : Nat → Int) : List Int := (List.range N).map F
def rwS (N u : Nat) (F : Nat → Int) : List Int := tab u F ++ List.replicate (N - u) 0
def rwAt (N u : Nat) (F : Nat → Int) (v : Int) : List Int := tab u F ++ v :: List.replicate (N - u - 1) 0
theorem tab_len (N : Nat) (F : Nat → Int) : (tab N F).length = N := by simp [tab]
theorem tab_succ (N : Nat) (F : Nat → Int) : tab (N + 1) F = tab N F ++ [F N] := by simp [tab, List.range_succ]
theorem tab_congr {N : Nat} {F G : Nat → Int} (h : ∀ i, i < N → F i = G i) : tab N F = tab N G := by
  unfold tab
  apply List.map_congr_left
  intro i hi
  exact h i (List.mem_range.mp hi)
theorem rd_nat (l : List Int) (i : Nat) : rd l (i : Int) = l.getD i 0 := by unfold rd; rw [Int.toNat_natCast]
theorem tab_rd {N i : Nat} (F : Nat → Int) (h : i < N) : rd (tab N F) (i : Int) = F i := by
  rw [rd_nat]
  simp [tab, List.getD_eq_getElem?_getD, h]
theorem tab_set {N j : Nat} (F : Nat → Int) (v : Int) : (tab N F).set j v = tab N (fun k => if k = j then v else F k) := by
  apply List.ext_getElem?
  intro i
  rw [List.getElem?_set]
  unfold tab
  simp only [List.length_map, List.length_range, List.getElem?_map]
  by_cases h : j = i
  · subst h
    rw [if_pos rfl]
    by_cases hj : j < N
    · simp [hj]
    · simp [hj]
  · rw [if_neg h]
    by_cases hi : i < N
    · simp [hi, show ¬ i = j from fun e => h e.symm]
    · simp [hi]
theorem rwS_zero (N : Nat) (F : Nat → Int) : rwS N 0 F = List.replicate N 0 := by simp [rwS, tab]
theorem rwS_at {N u : Nat} (F : Nat → Int) (h : u < N) : rwS N u F = rwAt N u F 0 := by
  unfold rwS rwAt
  obtain ⟨m, hm⟩ : ∃ m, N - u = m + 1 := ⟨N - u - 1, by omega⟩
  rw [hm, Nat.add_sub_cancel, List.replicate_succ]
theorem rwAt_next {N u : Nat} (F : Nat → Int) (_h : u < N) : rwAt N u F (F u) = rwS N (u + 1) F := by
  unfold rwS rwAt
  rw [tab_succ, List.append_assoc, show N - (u + 1) = N - u - 1 by omega]
  rfl
theorem rwS_full (N : Nat) (F : Nat → Int) : rwS N N F = tab N F := by simp [rwS]
theorem rwAt_len {N u : Nat} (F : Nat → Int) (v : Int) (h : u < N) : (rwAt N u F v).length = N := by
  simp [rwAt, tab_len]
  omega
theorem rwS_len {N u : Nat} (F : Nat → Int) (h : u ≤ N) : (rwS N u F).length = N := by
  simp [rwS, tab_len]
  omega
theorem rwAt_rd (N u : Nat) (F : Nat → Int) (v : Int) : rd (rwAt N u F v) (u : Int) = v := by
  rw [rd_nat]
  unfold rwAt
  rw [List.getD_eq_getElem?_getD, List.getElem?_append_right (by rw [tab_len]; exact Nat.le_refl _), tab_len, Nat.sub_self]
  rfl
theorem rwAt_set (N u : Nat) (F : Nat → Int) (v v' : Int) : (rwAt N u F v).set u v' = rwAt N u F v' := by
  unfold rwAt
  rw [List.set_append_right _ _ (by rw [tab_len]; exact Nat.le_refl _), tab_len, Nat.sub_self]
  rfl
theorem tab_pos {N : Nat} (F : Nat → Int) (h : 0 < N) : ((tab N F).length : Int) ≠ 0 := by rw [tab_len]; omega
end Go.Proofs.YteljkpglgjjnlaaDoorMath
