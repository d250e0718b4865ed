/- How many bits a number has: by halving, and by the steps of math/bits. Conditions: the numbers lie below 2^32. -/
import Derived.Test.YtoacgiccpndbmaaMath
import Derived.Laws.BitsAllLaws
namespace Go.Proofs.YtoacgiccpndbmaaMath
open Go.RowKit Go.Proofs.YtoacgiccpndbmaaW.PrintWords Go.Proofs.YtoacgiccpndbmaaW.PrintLast Go.Proofs.YtoacgiccpndbmaaW.PrintMore
set_option linter.unusedVariables false
set_option linter.unusedSimpArgs false

def pcf : Nat → Nat → Nat
  | 0, _ => 0
  | k + 1, x => x % 2 + pcf k (x / 2)
def pc (x : Nat) : Nat := pcf 32 x
theorem pcf_zero (k : Nat) : pcf k 0 = 0 := by
  induction k with
  | zero => rfl
  | succ k ih => simp only [pcf]; rw [show 0 / 2 = 0 from rfl, ih]
theorem pcf_le (k : Nat) : ∀ x, pcf k x ≤ k := by
  induction k with
  | zero => intro x; exact Nat.le_refl _
  | succ k ih =>
    intro x
    have := ih (x / 2)
    simp only [pcf]
    omega
theorem pcf_more (k : Nat) : ∀ x j, x < 2 ^ k → pcf (k + j) x = pcf k x := by
  induction k with
  | zero =>
    intro x j h
    obtain rfl : x = 0 := by simpa using h
    rw [pcf_zero, pcf_zero]
  | succ k ih =>
    intro x j h
    rw [show k + 1 + j = (k + j) + 1 by omega]
    simp only [pcf]
    rw [ih (x / 2) j (by rw [Nat.pow_succ] at h; omega)]
theorem pc_le (x : Nat) : pc x ≤ 32 := pcf_le 32 x
theorem pc_small {n x : Nat} (hn : n ≤ 32) (h : x < 2 ^ n) : pc x = pcf n x := by
  have := pcf_more n x (32 - n) h
  rw [show n + (32 - n) = 32 by omega] at this
  exact this
theorem pc_le_n {n x : Nat} (hn : n ≤ 32) (h : x < 2 ^ n) : pc x ≤ n := by rw [pc_small hn h]; exact pcf_le n x
theorem pcf8 (k H L : Nat) (h : L < 256) : pcf (k + 8) (256 * H + L) = pcf 8 L + pcf k H := by
  simp only [pcf, Nat.div_div_eq_div_mul]
  simp only [Nat.reduceMul]
  rw [show (256 * H + L) / 256 = H by omega]
  omega
theorem and_split (H L M m : Nat) (hL : L < 256) (hm : m < 256) : (256 * H + L) &&& (256 * M + m) = 256 * (H &&& M) + (L &&& m) := by
  apply Nat.eq_of_testBit_eq
  intro i
  have hL' : L < 2 ^ 8 := hL
  have hm' : m < 2 ^ 8 := hm
  have hr : L &&& m < 2 ^ 8 := Nat.and_lt_two_pow _ hm'
  rw [show 256 = 2 ^ 8 from rfl, Nat.testBit_and, Nat.testBit_two_pow_mul_add _ hL', Nat.testBit_two_pow_mul_add _ hm', Nat.testBit_two_pow_mul_add _ hr]
  split
  · rw [Nat.testBit_and]
  · rw [Nat.testBit_and]
def s1 (L : Nat) : Nat := (L / 2 &&& 85) + (L &&& 85)
def s2 (L : Nat) : Nat := (L / 4 &&& 51) + (L &&& 51)
def s3 (L : Nat) : Nat := (L / 16 + L) &&& 15
theorem low1 : ∀ L, L < 256 → (128 + L / 2) &&& 85 = L / 2 &&& 85 := by decide +kernel
theorem low2 : ∀ h, h < 4 → ∀ L, L < 256 → (64 * h + L / 4) &&& 51 = L / 4 &&& 51 := by decide +kernel
theorem low3 : ∀ h, h < 5 → ∀ L, L < 256 → L / 16 < 5 → L % 16 < 5 → (16 * h + L / 16 + L) &&& 15 = s3 L := by decide +kernel
theorem s1_lt : ∀ L, L < 256 → s1 L < 256 := by decide +kernel
theorem s2_lt : ∀ L, L < 256 → s2 (s1 L) < 256 ∧ s2 (s1 L) / 16 < 5 ∧ s2 (s1 L) % 16 < 5 := by decide +kernel
theorem s3_pc : ∀ L, L < 256 → s3 (s2 (s1 L)) = pcf 8 L := by decide +kernel
theorem step1 (M H L : Nat) (hL : L < 256) : ((256 * H + L) / 2 &&& (256 * M + 85)) + ((256 * H + L) &&& (256 * M + 85)) = 256 * ((H / 2 &&& M) + (H &&& M)) + s1 L := by
  have e : (256 * H + L) / 2 = 256 * (H / 2) + (128 * (H % 2) + L / 2) := by omega
  rw [e, and_split _ _ _ _ (by omega) (by omega), and_split _ _ _ _ hL (by omega)]
  have : (128 * (H % 2) + L / 2) &&& 85 = L / 2 &&& 85 := by
    rcases (by omega : H % 2 = 0 ∨ H % 2 = 1) with h | h <;> rw [h]
    · rw [Nat.mul_zero, Nat.zero_add]
    · exact low1 L hL
  rw [this]
  unfold s1
  omega
theorem step2 (M H L : Nat) (hL : L < 256) : ((256 * H + L) / 4 &&& (256 * M + 51)) + ((256 * H + L) &&& (256 * M + 51)) = 256 * ((H / 4 &&& M) + (H &&& M)) + s2 L := by
  have e : (256 * H + L) / 4 = 256 * (H / 4) + (64 * (H % 4) + L / 4) := by omega
  rw [e, and_split _ _ _ _ (by omega) (by omega), and_split _ _ _ _ hL (by omega), low2 (H % 4) (by omega) L hL]
  unfold s2
  omega
theorem step3 (M H L : Nat) (hL : L < 256) (h1 : L / 16 < 5) (h2 : L % 16 < 5) (hH : H % 16 < 5) : ((256 * H + L) / 16 + (256 * H + L)) &&& (256 * M + 15) = 256 * ((H / 16 + H) &&& M) + s3 L := by
  have e : (256 * H + L) / 16 + (256 * H + L) = 256 * (H / 16 + H) + (16 * (H % 16) + L / 16 + L) := by omega
  rw [e, and_split _ _ _ _ (by omega) (by omega), low3 (H % 16) hH L hL h1 h2]
/-- The bytes of a number below 2^32. -/
theorem bytes4 {a : Nat} (h : a < 4294967296) : ∃ b0 b1 b2 b3, b0 < 256 ∧ b1 < 256 ∧ b2 < 256 ∧ b3 < 256 ∧ a = 256 * (256 * (256 * (256 * 0 + b3) + b2) + b1) + b0 :=
  ⟨a % 256, a / 256 % 256, a / 65536 % 256, a / 16777216, by omega, by omega, by omega, by omega, by omega⟩
def n1 (a : Nat) : Nat := (a / 2 &&& 6148914691236517205) + (a &&& 6148914691236517205)
def n2 (a : Nat) : Nat := (a / 4 &&& 3689348814741910323) + (a &&& 3689348814741910323)
def n3 (a : Nat) : Nat := (a / 16 + a) &&& 1085102592571150095
theorem n1_bytes {b0 b1 b2 b3 : Nat} (h0 : b0 < 256) (h1 : b1 < 256) (h2 : b2 < 256) (h3 : b3 < 256) :
    n1 (256 * (256 * (256 * (256 * 0 + b3) + b2) + b1) + b0) = 256 * (256 * (256 * (256 * 0 + s1 b3) + s1 b2) + s1 b1) + s1 b0 := by
  unfold n1
  rw [show 6148914691236517205 = 256 * (256 * (256 * (256 * 1431655765 + 85) + 85) + 85) + 85 from rfl, step1 _ _ _ h0, step1 _ _ _ h1, step1 _ _ _ h2, step1 _ _ _ h3]
  simp
theorem n2_bytes {b0 b1 b2 b3 : Nat} (h0 : b0 < 256) (h1 : b1 < 256) (h2 : b2 < 256) (h3 : b3 < 256) :
    n2 (256 * (256 * (256 * (256 * 0 + b3) + b2) + b1) + b0) = 256 * (256 * (256 * (256 * 0 + s2 b3) + s2 b2) + s2 b1) + s2 b0 := by
  unfold n2
  rw [show 3689348814741910323 = 256 * (256 * (256 * (256 * 858993459 + 51) + 51) + 51) + 51 from rfl, step2 _ _ _ h0, step2 _ _ _ h1, step2 _ _ _ h2, step2 _ _ _ h3]
  simp
theorem n3_bytes {b0 b1 b2 b3 : Nat} (h0 : b0 < 256 ∧ b0 / 16 < 5 ∧ b0 % 16 < 5) (h1 : b1 < 256 ∧ b1 / 16 < 5 ∧ b1 % 16 < 5) (h2 : b2 < 256 ∧ b2 / 16 < 5 ∧ b2 % 16 < 5) (h3 : b3 < 256 ∧ b3 / 16 < 5 ∧ b3 % 16 < 5) :
    n3 (256 * (256 * (256 * (256 * 0 + b3) + b2) + b1) + b0) = 256 * (256 * (256 * (256 * 0 + s3 b3) + s3 b2) + s3 b1) + s3 b0 := by
  unfold n3
  rw [show 1085102592571150095 = 256 * (256 * (256 * (256 * 252645135 + 15) + 15) + 15) + 15 from rfl, step3 _ _ _ h0.1 h0.2.1 h0.2.2 (by omega), step3 _ _ _ h1.1 h1.2.1 h1.2.2 (by omega), step3 _ _ _ h2.1 h2.2.1 h2.2.2 (by omega), step3 _ _ _ h3.1 h3.2.1 h3.2.2 (by omega)]
  simp
/-- The first three steps leave the number of bits of each byte. -/
theorem n123 {a : Nat} (h : a < 4294967296) : ∃ c0 c1 c2 c3, c0 ≤ 8 ∧ c1 ≤ 8 ∧ c2 ≤ 8 ∧ c3 ≤ 8 ∧ n3 (n2 (n1 a)) = c0 + 256 * c1 + 65536 * c2 + 16777216 * c3 ∧ pc a = c0 + c1 + c2 + c3 ∧ n1 a < 4294967296 ∧ n2 (n1 a) < 4294967296 := by
  obtain ⟨b0, b1, b2, b3, h0, h1, h2, h3, rfl⟩ := bytes4 h
  have g0 := s1_lt b0 h0
  have g1 := s1_lt b1 h1
  have g2 := s1_lt b2 h2
  have g3 := s1_lt b3 h3
  have f0 := s2_lt b0 h0
  have f1 := s2_lt b1 h1
  have f2 := s2_lt b2 h2
  have f3 := s2_lt b3 h3
  rw [n1_bytes h0 h1 h2 h3, n2_bytes g0 g1 g2 g3, n3_bytes f0 f1 f2 f3, s3_pc b0 h0, s3_pc b1 h1, s3_pc b2 h2, s3_pc b3 h3]
  have e0 := pcf_le 8 b0
  have e1 := pcf_le 8 b1
  have e2 := pcf_le 8 b2
  have e3 := pcf_le 8 b3
  refine ⟨_, _, _, _, e0, e1, e2, e3, by omega, ?_, by omega, by omega⟩
  unfold pc
  rw [show 32 = 24 + 8 from rfl, pcf8 24 _ _ h0, show 24 = 16 + 8 from rfl, pcf8 16 _ _ h1, show 16 = 8 + 8 from rfl, pcf8 8 _ _ h2, show pcf 8 (256 * 0 + b3) = pcf 8 b3 by rw [Nat.mul_zero, Nat.zero_add]]
  omega
theorem uwrap {x : Nat} (h : x < 18446744073709551616) : IntKind.u64.wrap (x : Int) = (x : Int) := by rw [IntKind.wrap_u64]; omega
theorem uand {a b : Nat} (ha : a < 18446744073709551616) (hb : b < 18446744073709551616) : Go.bits .and .u64 (a : Int) (b : Int) = ((a &&& b : Nat) : Int) := u64_and_nat a b ha hb
theorem and_le_l (a b : Nat) : a &&& b ≤ a := Nat.and_le_left
theorem and127 (x : Nat) : x &&& 127 = x % 128 := Nat.and_two_pow_sub_one_eq_mod x 7
theorem fold4 {c0 c1 c2 c3 : Nat} (g0 : c0 ≤ 8) (g1 : c1 ≤ 8) (g2 : c2 ≤ 8) (g3 : c3 ≤ 8) :
    IntKind.u64.wrap (((c0 + 256 * c1 + 65536 * c2 + 16777216 * c3 : Nat) : Int) + (((c0 + 256 * c1 + 65536 * c2 + 16777216 * c3 : Nat) : Int) / 256)) = (((c0 + c1) + 256 * (c1 + c2) + 65536 * (c2 + c3) + 16777216 * c3 : Nat) : Int) := by
  have d : (c0 + 256 * c1 + 65536 * c2 + 16777216 * c3) / 256 = c1 + 256 * c2 + 65536 * c3 := by omega
  rw [show (((c0 + 256 * c1 + 65536 * c2 + 16777216 * c3 : Nat) : Int) / 256) = (((c0 + 256 * c1 + 65536 * c2 + 16777216 * c3) / 256 : Nat) : Int) from rfl, d, ← Int.natCast_add, uwrap (by omega)]
  congr 1
  omega
theorem fold5 {c0 c1 c2 c3 : Nat} (g0 : c0 ≤ 8) (g1 : c1 ≤ 8) (g2 : c2 ≤ 8) (g3 : c3 ≤ 8) :
    IntKind.u64.wrap ((((c0 + c1) + 256 * (c1 + c2) + 65536 * (c2 + c3) + 16777216 * c3 : Nat) : Int) + ((((c0 + c1) + 256 * (c1 + c2) + 65536 * (c2 + c3) + 16777216 * c3 : Nat) : Int) / 65536)) = (((c0 + c1 + c2 + c3) + 256 * (c1 + c2 + c3) + 65536 * (c2 + c3) + 16777216 * c3 : Nat) : Int) := by
  have d : ((c0 + c1) + 256 * (c1 + c2) + 65536 * (c2 + c3) + 16777216 * c3) / 65536 = c2 + c3 + 256 * c3 := by omega
  rw [show ((((c0 + c1) + 256 * (c1 + c2) + 65536 * (c2 + c3) + 16777216 * c3 : Nat) : Int) / 65536) = ((((c0 + c1) + 256 * (c1 + c2) + 65536 * (c2 + c3) + 16777216 * c3) / 65536 : Nat) : Int) from rfl, d, ← Int.natCast_add, uwrap (by omega)]
  congr 1
  omega
theorem fold6 {c0 c1 c2 c3 : Nat} (g0 : c0 ≤ 8) (g1 : c1 ≤ 8) (g2 : c2 ≤ 8) (g3 : c3 ≤ 8) :
    IntKind.u64.wrap ((((c0 + c1 + c2 + c3) + 256 * (c1 + c2 + c3) + 65536 * (c2 + c3) + 16777216 * c3 : Nat) : Int) + ((((c0 + c1 + c2 + c3) + 256 * (c1 + c2 + c3) + 65536 * (c2 + c3) + 16777216 * c3 : Nat) : Int) / 4294967296)) = (((c0 + c1 + c2 + c3) + 256 * (c1 + c2 + c3) + 65536 * (c2 + c3) + 16777216 * c3 : Nat) : Int) := by
  have d : ((c0 + c1 + c2 + c3) + 256 * (c1 + c2 + c3) + 65536 * (c2 + c3) + 16777216 * c3) / 4294967296 = 0 := by omega
  rw [show ((((c0 + c1 + c2 + c3) + 256 * (c1 + c2 + c3) + 65536 * (c2 + c3) + 16777216 * c3 : Nat) : Int) / 4294967296) = ((((c0 + c1 + c2 + c3) + 256 * (c1 + c2 + c3) + 65536 * (c2 + c3) + 16777216 * c3) / 4294967296 : Nat) : Int) from rfl, d, ← Int.natCast_add, uwrap (by omega)]
  rfl
theorem fold7 {c0 c1 c2 c3 : Nat} (g0 : c0 ≤ 8) (g1 : c1 ≤ 8) (g2 : c2 ≤ 8) (g3 : c3 ≤ 8) :
    Go.bits .and .i64 (wrap64 (((c0 + c1 + c2 + c3) + 256 * (c1 + c2 + c3) + 65536 * (c2 + c3) + 16777216 * c3 : Nat) : Int)) 127 = ((c0 + c1 + c2 + c3 : Nat) : Int) := by
  have d : ((c0 + c1 + c2 + c3) + 256 * (c1 + c2 + c3) + 65536 * (c2 + c3) + 16777216 * c3) % 128 = c0 + c1 + c2 + c3 := by omega
  rw [w64 (by omega) (by omega), show (127 : Int) = ((127 : Nat) : Int) from rfl, bandN (by omega) (by omega), and127, d]
theorem u64id {x : Nat} (h : x < 18446744073709551616) : IntKind.u64.wrap (x : Int) = (x : Int) := uwrap h
/-- The low bit of a number of bits: are they odd? -/
theorem pcf_xor (k : Nat) : ∀ x y, pcf k (x ^^^ y) % 2 = (pcf k x + pcf k y) % 2 := by
  induction k with
  | zero => intro x y; rfl
  | succ k ih =>
    intro x y
    have := ih (x / 2) (y / 2)
    have e : (x ^^^ y) / 2 = x / 2 ^^^ y / 2 := by
      have := Nat.xor_div_two (a := x) (b := y)
      exact this
    have e2 : (x ^^^ y) % 2 = (x % 2 + y % 2) % 2 := by
      have := xor_mod2 x y
      rw [this]
      rcases (by omega : x % 2 = 0 ∨ x % 2 = 1) with h | h <;> rcases (by omega : y % 2 = 0 ∨ y % 2 = 1) with h' | h' <;> rw [h, h'] <;> rfl
    simp only [pcf]
    rw [e]
    omega
/-- Is the number of bits odd? -/
def par (x : Nat) : Bool := pc x % 2 == 1
def spW (n w u : Nat) : Int := sumI (2 ^ n) fun x => chi (w.testBit x != par (u &&& x))
theorem spW_range (n w s : Nat) : -((2 ^ n : Nat) : Int) ≤ spW n w s ∧ spW n w s ≤ ((2 ^ n : Nat) : Int) := sumI_abs fun _ _ => chi_range _
theorem xor_zero {a b : Nat} (h : a ^^^ b = 0) : a = b := by
  have : (a ^^^ b) ^^^ b = 0 ^^^ b := by rw [h]
  rw [Nat.xor_assoc, Nat.xor_self, Nat.xor_zero, Nat.zero_xor] at this
  exact this
/-- What an input adds to the coefficient of a set. -/
def cofT (w m x : Nat) : Int := if x &&& m = x then (if par (m ^^^ x) = true then -b2i (w.testBit x) else b2i (w.testBit x)) else 0
def cof (n w m : Nat) : Int := sumI (2 ^ n) (cofT w m)
theorem cofT_range (w m x : Nat) : -1 ≤ cofT w m x ∧ cofT w m x ≤ 1 := by
  have := b2i_range (w.testBit x)
  unfold cofT
  split
  · split <;> omega
  · omega
theorem cof_range (n w m : Nat) : -((2 ^ n : Nat) : Int) ≤ cof n w m ∧ cof n w m ≤ ((2 ^ n : Nat) : Int) := sumI_abs fun _ _ => cofT_range _ _ _
theorem sumI_tail {f : Nat → Int} {a : Nat} (d : Nat) (h : ∀ x, a ≤ x → f x = 0) : sumI (a + d) f = sumI a f := by
  induction d with
  | zero => rfl
  | succ d ih =>
    show sumI (a + d) f + f (a + d) = _
    rw [ih, h (a + d) (by omega), Int.add_zero]
theorem cof_short {n w m : Nat} (h : m < 2 ^ n) : sumI (m + 1) (cofT w m) = cof n w m := by
  unfold cof
  rw [show 2 ^ n = (m + 1) + (2 ^ n - (m + 1)) by omega]
  refine (sumI_tail _ fun x hx => ?_).symm
  unfold cofT
  rw [if_neg]
  intro e
  have : x &&& m ≤ m := Nat.and_le_right
  omega
/-- Are two inputs with different values at a distance? -/
def hit (w x k y : Nat) : Int := if w.testBit x != w.testBit y then (if k = pc (x ^^^ y) then 1 else 0) else 0
theorem hit_range (w x k y : Nat) : 0 ≤ hit w x k y ∧ hit w x k y ≤ 1 := by
  unfold hit
  split
  · split <;> omega
  · omega
/-- The pairs of x inputs, and y of the next one's. -/
def pairs2 (w x y k : Nat) : Int := sumI x (fun x' => sumI x' (hit w x' k)) + sumI y (hit w x k)
def pairsD (n w k : Nat) : Int := sumI (2 ^ n) fun x => sumI x (hit w x k)
theorem pairs2_range {w x y k : Nat} (hx : x ≤ 32) (hy : y ≤ 32) : 0 ≤ pairs2 w x y k ∧ pairs2 w x y k ≤ 2000 := by
  have h1 := sumI_bound (n := x) (f := fun x' => sumI x' (hit w x' k)) (a := 0) (b := 32) fun i hi => by
    have := sumI_range (n := i) (f := hit w i k) fun _ _ => hit_range _ _ _ _
    omega
  have h2 := sumI_range (n := y) (f := hit w x k) fun _ _ => hit_range _ _ _ _
  unfold pairs2
  omega
theorem pairs2_zero (w : Nat) : tab 0 (pairs2 w 0 0) = [] := rfl
theorem tab_zero (N : Nat) : List.replicate N (0 : Int) = tab N fun _ => 0 := by
  apply List.ext_getElem?
  intro i
  unfold tab
  simp [List.getElem?_replicate]
  by_cases h : i < N <;> simp [h]
theorem pairs2_start (N w : Nat) : List.replicate N (0 : Int) = tab N (pairs2 w 0 0) := by
  rw [tab_zero]
  rfl
theorem pairs2_row (w x k : Nat) : pairs2 w x x k = pairs2 w (x + 1) 0 k := by
  unfold pairs2
  simp only [sumI]
  omega
theorem pairs2_same {w x y : Nat} (k : Nat) (h : w.testBit x = w.testBit y) : pairs2 w x (y + 1) k = pairs2 w x y k := by
  unfold pairs2
  simp only [sumI]
  rw [show hit w x k y = 0 by unfold hit; rw [h]; simp]
  omega
theorem pairs2_diff {w x y : Nat} (N : Nat) (h : ¬ w.testBit x = w.testBit y) : (tab N (pairs2 w x y)).set (pc (x ^^^ y)) (pairs2 w x y (pc (x ^^^ y)) + 1) = tab N (pairs2 w x (y + 1)) := by
  rw [tab_set]
  apply tab_congr
  intro k _
  have hd : (w.testBit x != w.testBit y) = true := by rw [bne_iff_ne]; exact h
  by_cases e : k = pc (x ^^^ y)
  · rw [if_pos e, ← e]
    unfold pairs2
    simp only [sumI]
    rw [show hit w x k y = 1 by unfold hit; rw [if_pos hd, if_pos e]]
    omega
  · rw [if_neg e]
    unfold pairs2
    simp only [sumI]
    rw [show hit w x k y = 0 by unfold hit; rw [if_pos hd, if_neg e]]
    omega
theorem pairs2_end (n w k : Nat) : pairs2 w (2 ^ n) 0 k = pairsD n w k := by
  unfold pairs2 pairsD
  simp only [sumI]
  omega
/-- The squares of the first sets of a size. -/
def enr (n w j k : Nat) : Int := sumI j fun u => if k = pc u then spW n w u * spW n w u else 0
def enrD (n w k : Nat) : Int := enr n w (2 ^ n) k
theorem sq_range {x : Int} (h : -32 ≤ x ∧ x ≤ 32) : 0 ≤ x * x ∧ x * x ≤ 1024 := by
  rcases Int.le_total 0 x with h0 | h0
  · exact ⟨Int.mul_nonneg h0 h0, by have := Int.mul_le_mul h.2 h.2 h0 (show (0 : Int) ≤ 32 by omega); omega⟩
  · obtain ⟨y, rfl⟩ : ∃ y, x = -y := ⟨-x, by omega⟩
    rw [Int.neg_mul_neg]
    exact ⟨Int.mul_nonneg (by omega) (by omega), by have := Int.mul_le_mul (show y ≤ 32 by omega) (show y ≤ 32 by omega) (by omega) (show (0 : Int) ≤ 32 by omega); omega⟩
theorem spW32 {n : Nat} (hn : n ≤ 5) (w u : Nat) : -32 ≤ spW n w u ∧ spW n w u ≤ 32 := by
  have := spW_range n w u
  have := pow62 hn
  omega
theorem enr_range {n : Nat} (hn : n ≤ 5) (w : Nat) {j : Nat} (hj : j ≤ 32) (k : Nat) : 0 ≤ enr n w j k ∧ enr n w j k ≤ 32768 := by
  have := sumI_bound (n := j) (f := fun u => if k = pc u then spW n w u * spW n w u else 0) (a := 0) (b := 1024) fun u _ => by
    have := sq_range (spW32 hn w u)
    split <;> omega
  unfold enr
  omega
theorem enr_start (N n w : Nat) : List.replicate N (0 : Int) = tab N (enr n w 0) := by
  rw [tab_zero]
  rfl
theorem enr_step (N n w j : Nat) : (tab N (enr n w j)).set (pc j) (enr n w j (pc j) + spW n w j * spW n w j) = tab N (enr n w (j + 1)) := by
  rw [tab_set]
  apply tab_congr
  intro k _
  by_cases e : k = pc j
  · rw [if_pos e, ← e]
    unfold enr
    simp only [sumI]
    rw [if_pos e]
  · rw [if_neg e]
    unfold enr
    simp only [sumI]
    rw [if_neg e, Int.add_zero]
/-- The greatest absolute value of a spectrum. -/
def pk (n w j : Nat) : Int := maxI j (fun u => mx (spW n w u) (-(spW n w u))) 0
theorem pk_range {n : Nat} (hn : n ≤ 5) (w j : Nat) : 0 ≤ pk n w j ∧ pk n w j ≤ ((2 ^ n : Nat) : Int) :=
  maxI_range ⟨Int.le_refl _, Int.natCast_nonneg _⟩ fun u _ => by
    have := spW_range n w u
    unfold mx
    split <;> omega
theorem sumI_add_f (n : Nat) (f g : Nat → Int) : sumI n (fun i => f i + g i) = sumI n f + sumI n g := by
  induction n with
  | zero => rfl
  | succ n ih => simp only [sumI]; omega
theorem sumI_zero (n : Nat) : sumI n (fun _ => 0) = 0 := by
  induction n with
  | zero => rfl
  | succ n ih => simp only [sumI]; omega
theorem sumI_swap (N M : Nat) (f : Nat → Nat → Int) : sumI N (fun x => sumI M fun i => f x i) = sumI M fun i => sumI N fun x => f x i := by
  induction N with
  | zero => exact (sumI_zero M).symm
  | succ N ih =>
    simp only [sumI]
    rw [ih, sumI_add_f]
theorem sumI_cat (a b : Nat) (f : Nat → Int) : sumI (a + b) f = sumI a f + sumI b fun r => f (a + r) := by
  induction b with
  | zero => simp [sumI]
  | succ b ih =>
    show sumI (a + b) f + f (a + b) = _
    rw [ih]
    simp only [sumI]
    omega
theorem sumI_mulN (a b : Nat) (f : Nat → Int) : sumI (a * b) f = sumI a fun q => sumI b fun r => f (q * b + r) := by
  induction a with
  | zero => rw [Nat.zero_mul]; rfl
  | succ a ih =>
    rw [Nat.succ_mul, sumI_cat, ih]
    rfl
theorem xor_pow {i q l : Nat} (hl : l < 2 ^ i) : (q * (2 ^ i + 2 ^ i) + l) ^^^ 2 ^ i = q * (2 ^ i + 2 ^ i) + (2 ^ i + l) := by
  have e : 2 ^ i + 2 ^ i = 2 ^ (i + 1) := by rw [Nat.pow_succ]; omega
  rw [e]
  have hl1 : l < 2 ^ (i + 1) := by rw [← e]; omega
  have hl2 : 2 ^ i + l < 2 ^ (i + 1) := by rw [← e]; omega
  apply Nat.eq_of_testBit_eq
  intro j
  rw [Nat.mul_comm q, Nat.testBit_xor, Nat.testBit_two_pow_mul_add _ hl1, Nat.testBit_two_pow_mul_add _ hl2, Nat.testBit_two_pow]
  by_cases h : j < i + 1
  · rw [if_pos h, if_pos h]
    have := Nat.testBit_two_pow_mul_add 1 hl j
    rw [Nat.mul_one] at this
    rw [this]
    by_cases h2 : j < i
    · rw [if_pos h2]
      simp [show ¬ i = j by omega]
    · have : j = i := by omega
      subst this
      rw [if_neg h2, Nat.sub_self]
      have : l.testBit j = false := Nat.testBit_lt_two_pow hl
      simp [this]
  · rw [if_neg h, if_neg h]
    simp [show ¬ i = j by omega]
/-- A sum over all inputs of what a change of one variable leaves as it is. -/
theorem sumI_pair {n i : Nat} (hi : i < n) (g : Nat → Int) (h : ∀ x, g (x ^^^ 2 ^ i) = g x) : sumI (2 ^ n) g = 2 * sumI (2 ^ (n - i - 1)) fun q => sumI (2 ^ i) fun l => g (q * (2 ^ i + 2 ^ i) + l) := by
  have e : 2 ^ n = 2 ^ (n - i - 1) * (2 ^ i + 2 ^ i) := by
    rw [show 2 ^ i + 2 ^ i = 2 ^ (i + 1) by rw [Nat.pow_succ]; omega, ← Nat.pow_add]
    congr 1
    omega
  rw [e, sumI_mulN]
  have : ∀ q, sumI (2 ^ i + 2 ^ i) (fun r => g (q * (2 ^ i + 2 ^ i) + r)) = 2 * sumI (2 ^ i) fun l => g (q * (2 ^ i + 2 ^ i) + l) := by
    intro q
    rw [sumI_cat, sumI_congr (f := fun r => g (q * (2 ^ i + 2 ^ i) + (2 ^ i + r))) (g := fun l => g (q * (2 ^ i + 2 ^ i) + l)) fun l hl => by
      have := h (q * (2 ^ i + 2 ^ i) + l)
      rw [xor_pow hl] at this
      exact this]
    omega
  rw [sumI_congr (g := fun q => 2 * sumI (2 ^ i) fun l => g (q * (2 ^ i + 2 ^ i) + l)) fun q _ => this q]
  generalize 2 ^ (n - i - 1) = N
  induction N with
  | zero => rfl
  | succ N ih => simp only [sumI]; omega
theorem chg_twice (w x y : Nat) : chg w (x ^^^ y) y = chg w x y := by
  unfold chg
  rw [Nat.xor_assoc, Nat.xor_self, Nat.xor_zero]
  cases w.testBit x <;> cases w.testBit (x ^^^ y) <;> rfl
theorem infl_even {n w i : Nat} (hi : i < n) : infl n w i % 2 = 0 := by
  unfold infl
  rw [sumI_pair hi _ fun x => by rw [chg_twice]]
  omega
theorem sum_even {n : Nat} {f : Nat → Int} (h : ∀ i, i < n → f i % 2 = 0) : sumI n f % 2 = 0 := by
  induction n with
  | zero => rfl
  | succ n ih =>
    have h1 := ih fun i hi => h i (by omega)
    have h2 := h n (by omega)
    simp only [sumI]
    omega
/-- Each edge is counted at both its ends. -/
theorem edges_twice (n w : Nat) : sumI (2 ^ n) (fun x => sens n w x) = sumI n (infl n w) := sumI_swap _ _ _
theorem edges_even (n w : Nat) : sumI (2 ^ n) (fun x => sens n w x) % 2 = 0 := by
  rw [edges_twice]
  exact sum_even fun i hi => infl_even hi
/-- The first variable with the greatest influence. -/
def mi (n w : Nat) : Nat → Int
  | 0 => -1
  | i + 1 => if mi n w i < 0 then (i : Int) else if infl n w i > infl n w (mi n w i).toNat then (i : Int) else mi n w i
theorem mi_range (n w i : Nat) : -1 ≤ mi n w i ∧ mi n w i < i ∧ (0 < i → 0 ≤ mi n w i) := by
  induction i with
  | zero => simp [mi]
  | succ i ih =>
    simp only [mi]
    split
    · omega
    · split <;> omega
/-- The sets up to a size at which the spectrum is 0. -/
def ci (n w : Nat) : Nat → Int
  | 0 => n
  | u + 1 => if u > 0 then (if spW n w u = 0 then ci n w u else mn (ci n w u) ((pc u : Int) - 1)) else ci n w u
theorem ci_range {n : Nat} (hn : n ≤ 32) (w u : Nat) : -1 ≤ ci n w u ∧ ci n w u ≤ 32 := by
  induction u with
  | zero => simp only [ci]; omega
  | succ u ih =>
    have := pc_le u
    simp only [ci, mn]
    split
    · split
      · exact ih
      · split <;> omega
    · exact ih
/-- The shifts by which the value changes everywhere or nowhere. -/
def lst (n w : Nat) : Nat → List Int
  | 0 => []
  | s + 1 => if acor n w s = ((2 ^ n : Nat) : Int) ∨ acor n w s = -((2 ^ n : Nat) : Int) then lst n w s ++ [(s : Int)] else lst n w s
theorem lst_len (n w s : Nat) : (lst n w s).length ≤ s := by
  induction s with
  | zero => exact Nat.le_refl _
  | succ s ih =>
    simp only [lst]
    split
    · rw [List.length_append]; simp; exact ih
    · omega
/-! ### Minimal blocks -/
/-- Does a part of a block change the value? -/
def partOf (w x b q : Nat) : Bool := q != 0 && (q &&& b == q) && chg w x q
def isMin (w x b : Nat) : Bool := chg w x b && (List.range b).all fun q => !partOf w x b q
def blk (w x b : Nat) : List Nat := (List.range b).filter (isMin w x)
def ints (l : List Nat) : List Int := l.map fun (a : Nat) => (a : Int)
theorem chg_zero (w x : Nat) : chg w x 0 = false := by unfold chg; rw [Nat.xor_zero]; cases w.testBit x <;> rfl
theorem isMin_pos {w x b : Nat} (h : isMin w x b = true) : b ≠ 0 := by
  rintro rfl
  unfold isMin at h
  rw [chg_zero] at h
  exact absurd h (by simp)
theorem blk_succ (w x b : Nat) : blk w x (b + 1) = blk w x b ++ if isMin w x b = true then [b] else [] := by
  unfold blk
  rw [List.range_succ, List.filter_append]
  congr 1
  by_cases h : isMin w x b = true
  · simp [h]
  · simp [h]
theorem blk_len (w x b : Nat) : (blk w x b).length ≤ b := by
  unfold blk
  have := List.length_filter_le (isMin w x) (List.range b)
  rw [List.length_range] at this
  exact this
theorem blk_mem {w x N b : Nat} : b ∈ blk w x N ↔ b < N ∧ isMin w x b = true := by
  unfold blk
  rw [List.mem_filter, List.mem_range]
theorem ints_len (l : List Nat) : (ints l).length = l.length := by simp [ints]
theorem ints_append (l : List Nat) (b : Nat) : ints (l ++ [b]) = ints l ++ [(b : Int)] := by simp [ints]
theorem ints_rd {l : List Nat} {i : Nat} (h : i < l.length) : rd (ints l) (i : Int) = ((l[i] : Nat) : Int) := by
  rw [rd_nat]
  simp [ints, List.getD_eq_getElem?_getD, h]
/-- The greatest part of a set below another part. -/
theorem next_part0 : ∀ b, b < 32 → ∀ p, p < 32 → ∀ q, q < 32 → (p &&& b = p ∧ 0 < p ∧ q &&& b = q ∧ q < p) → q ≤ (p - 1) &&& b := by decide +kernel
theorem next_part (b : Nat) (hb : b < 32) (p : Nat) (hp : p < 32) (h1 : p &&& b = p) (h2 : 0 < p) (q : Nat) (hq : q < 32) (h3 : q &&& b = q) (h4 : q < p) : q ≤ (p - 1) &&& b := next_part0 b hb p hp q hq ⟨h1, h2, h3, h4⟩
theorem part_closed (b p : Nat) : ((p - 1) &&& b) &&& b = (p - 1) &&& b := by rw [Nat.and_assoc, Nat.and_self]
/-- Below every block that changes the value lies a minimal one. -/
theorem min_below (w x b : Nat) : ∀ m q, q ≤ m → partOf w x b q = true → ∃ o, o ≤ q ∧ isMin w x o = true ∧ partOf w x b o = true := by
  intro m
  induction m with
  | zero =>
    intro q hq h
    obtain rfl : q = 0 := by omega
    simp [partOf] at h
  | succ m ih =>
    intro q hq h
    by_cases hm : isMin w x q = true
    · exact ⟨q, Nat.le_refl _, hm, h⟩
    · have hq2 : q ≠ 0 ∧ q &&& b = q ∧ chg w x q = true := by simpa [partOf, and_assoc] using h
      obtain ⟨h1, h2, h3⟩ := hq2
      have : ∃ r, r < q ∧ partOf w x q r = true := by
        unfold isMin at hm
        rw [h3, Bool.true_and] at hm
        simpa using hm
      obtain ⟨r, hr, hp⟩ := this
      have hr2 : r ≠ 0 ∧ r &&& q = r ∧ chg w x r = true := by simpa [partOf, and_assoc] using hp
      have hrb : r &&& b = r := by
        rw [← hr2.2.1, Nat.and_assoc, h2]
      have hp2 : partOf w x b r = true := by simp [partOf, hr2.1, hrb, hr2.2.2]
      obtain ⟨o, ho, hmo, hpo⟩ := ih r (by omega) hp2
      exact ⟨o, by omega, hmo, hpo⟩
/-- A block is minimal if it changes the value and no minimal one before it is a part of it. -/
theorem isMin_iff {w x b : Nat} (hc : chg w x b = true) : isMin w x b = (blk w x b).all fun o => o &&& b != o := by
  rw [Bool.eq_iff_iff]
  constructor
  · intro h
    rw [List.all_eq_true]
    intro o ho
    obtain ⟨h1, h2⟩ := blk_mem.1 ho
    rw [bne_iff_ne]
    intro e
    unfold isMin at h
    rw [hc, Bool.true_and, List.all_eq_true] at h
    have := h o (List.mem_range.2 h1)
    have hco : chg w x o = true := by unfold isMin at h2; rw [Bool.and_eq_true] at h2; exact h2.1
    have h0 := isMin_pos h2
    simp [partOf, e, hco, h0] at this
  · intro h
    rw [List.all_eq_true] at h
    unfold isMin
    rw [hc, Bool.true_and, List.all_eq_true]
    intro q hq
    rw [List.mem_range] at hq
    by_cases hp : partOf w x b q = true
    · exfalso
      obtain ⟨o, ho, hmo, hpo⟩ := min_below w x b q q (Nat.le_refl _) hp
      have := h o (blk_mem.2 ⟨by omega, hmo⟩)
      have hpo2 : o ≠ 0 ∧ o &&& b = o ∧ chg w x o = true := by simpa [partOf, and_assoc] using hpo
      rw [hpo2.2.1] at this
      simp at this
    · simpa using hp
/-- What is left of a minimality test from a part down. -/
def downOk (w x b p : Nat) : Bool := (List.range (p + 1)).all fun q => !partOf w x b q
theorem downOk_zero (w x b : Nat) : downOk w x b 0 = true := by unfold downOk; simp [partOf]
theorem downOk_step {w x b p : Nat} (hb : b < 32) (hp : p &&& b = p) (h0 : 0 < p) (hpb : p < 32) : downOk w x b p = (!chg w x p && downOk w x b ((p - 1) &&& b)) := by
  unfold downOk
  rw [Bool.eq_iff_iff, Bool.and_eq_true, List.all_eq_true, List.all_eq_true]
  constructor
  · intro h
    refine ⟨?_, fun q hq => h q ?_⟩
    · have := h p (List.mem_range.2 (by omega))
      simpa [partOf, hp, show p ≠ 0 by omega] using this
    · rw [List.mem_range] at hq ⊢
      have : (p - 1) &&& b ≤ p - 1 := Nat.and_le_left
      omega
  · rintro ⟨h1, h2⟩ q hq
    rw [List.mem_range] at hq
    by_cases e : q = p
    · subst e
      simp at h1
      simp [partOf, h1]
    · by_cases hqb : q &&& b = q
      · exact h2 q (List.mem_range.2 (by have := next_part b hb p hpb hp h0 q (by omega) hqb (by omega); omega))
      · simp [partOf, hqb]
theorem isMin_down {w x b : Nat} (hb : b < 32) (h0 : 0 < b) : isMin w x b = (chg w x b && downOk w x b ((b - 1) &&& b)) := by
  unfold isMin downOk
  congr 1
  rw [Bool.eq_iff_iff, List.all_eq_true, List.all_eq_true]
  constructor
  · intro h q hq
    rw [List.mem_range] at hq
    refine h q (List.mem_range.2 ?_)
    have : (b - 1) &&& b ≤ b - 1 := Nat.and_le_left
    omega
  · intro h q hq
    rw [List.mem_range] at hq
    by_cases hqb : q &&& b = q
    · exact h q (List.mem_range.2 (by have := next_part b hb b hb (Nat.and_self b) h0 q (by omega) hqb hq; omega))
    · simp [partOf, hqb]
/-! ### Blocks without common variables -/
/-- The greatest number of blocks of a list that have no variable in common with each other and with a set. -/
def pack : List Nat → Nat → Nat
  | [], _ => 0
  | b :: l, u => if b &&& u = 0 then max (pack l u) (1 + pack l (u ||| b)) else pack l u
theorem or_disj {a u b : Nat} : a &&& (u ||| b) = 0 ↔ a &&& u = 0 ∧ a &&& b = 0 := by rw [Nat.and_or_distrib_left, Nat.or_eq_zero_iff]
theorem pack_len (l : List Nat) : ∀ u, pack l u ≤ l.length := by
  induction l with
  | nil => intro u; exact Nat.le_refl _
  | cons b l ih =>
    intro u
    have h1 := ih u
    have h2 := ih (u ||| b)
    simp only [pack, List.length_cons]
    split <;> omega
/-- A block that fits makes a packing greater by one. -/
theorem pack_one {b : Nat} (h0 : b ≠ 0) : ∀ (l : List Nat) (u : Nat), b ∈ l → b &&& u = 0 → 1 + pack l (u ||| b) ≤ pack l u := by
  intro l
  induction l with
  | nil => intro u h; exact absurd h (by simp)
  | cons c l ih =>
    intro u hb hu
    by_cases e : b = c
    · subst e
      have h1 : pack (b :: l) (u ||| b) = pack l (u ||| b) := by
        simp only [pack]
        rw [if_neg]
        intro h
        have := (or_disj.1 h).2
        rw [Nat.and_self] at this
        exact h0 this
      rw [h1]
      simp only [pack]
      rw [if_pos hu]
      omega
    · have hbl : b ∈ l := by
        rcases List.mem_cons.1 hb with h | h
        · exact absurd h e
        · exact h
      have h1 := ih u hbl hu
      simp only [pack]
      by_cases hc : c &&& (u ||| b) = 0
      · obtain ⟨hc1, hc2⟩ := or_disj.1 hc
        rw [if_pos hc, if_pos hc1]
        have h2 := ih (u ||| c) hbl (or_disj.2 ⟨hu, by rw [Nat.and_comm]; exact hc2⟩)
        rw [Nat.or_assoc, Nat.or_comm c b, ← Nat.or_assoc] at h2
        omega
      · rw [if_neg hc]
        split <;> omega
theorem pack_suffix (pre l : List Nat) (u : Nat) : pack l u ≤ pack (pre ++ l) u := by
  induction pre with
  | nil => exact Nat.le_refl _
  | cons b pre ih =>
    rw [List.cons_append]
    simp only [pack]
    split <;> omega
theorem pack_le_of {l : List Nat} {u M : Nat} (hM : ∀ b ∈ l, b &&& u = 0 → 1 + pack l (u ||| b) ≤ M) : pack l u ≤ M := by
  have : ∀ (l' pre : List Nat), l = pre ++ l' → pack l' u ≤ M := by
    intro l'
    induction l' with
    | nil => intro _ _; exact Nat.zero_le _
    | cons b l' ih =>
      intro pre h
      have h1 := ih (pre ++ [b]) (by rw [h, List.append_assoc]; rfl)
      simp only [pack]
      by_cases hb : b &&& u = 0
      · rw [if_pos hb]
        have h2 := hM b (by rw [h]; simp) hb
        have h3 := pack_suffix (pre ++ [b]) l' (u ||| b)
        rw [List.append_assoc, List.singleton_append, ← h] at h3
        omega
      · rw [if_neg hb]
        exact h1
  exact this l [] rfl
/-- A step of the search for the greatest packing, a block at a time. -/
def stepB (l : List Nat) (u m b : Nat) : Nat := if b &&& u = 0 then max m (1 + pack l (u ||| b)) else m
def foldB (l : List Nat) (u : Nat) (bs : List Nat) : Nat := bs.foldl (stepB l u) 0
theorem stepB_ge (l : List Nat) (u m b : Nat) : m ≤ stepB l u m b := by unfold stepB; split <;> omega
theorem foldl_ge (l : List Nat) (u : Nat) : ∀ (bs : List Nat) (m : Nat), m ≤ bs.foldl (stepB l u) m := by
  intro bs
  induction bs with
  | nil => intro m; exact Nat.le_refl _
  | cons b bs ih => intro m; exact Nat.le_trans (stepB_ge l u m b) (ih _)
theorem foldl_mem (l : List Nat) (u : Nat) : ∀ (bs : List Nat) (m b : Nat), b ∈ bs → b &&& u = 0 → 1 + pack l (u ||| b) ≤ bs.foldl (stepB l u) m := by
  intro bs
  induction bs with
  | nil => intro m b h; exact absurd h (by simp)
  | cons c bs ih =>
    intro m b hb hu
    rcases List.mem_cons.1 hb with rfl | h
    · refine Nat.le_trans ?_ (foldl_ge l u bs _)
      unfold stepB
      rw [if_pos hu]
      omega
    · exact ih _ b h hu
theorem foldl_upper (l : List Nat) (u M : Nat) (hM : ∀ b ∈ l, b &&& u = 0 → 1 + pack l (u ||| b) ≤ M) : ∀ (bs : List Nat) (m : Nat), (∀ b ∈ bs, b ∈ l) → m ≤ M → bs.foldl (stepB l u) m ≤ M := by
  intro bs
  induction bs with
  | nil => intro m _ h; exact h
  | cons b bs ih =>
    intro m hs h
    refine ih _ (fun c hc => hs c (by simp [hc])) ?_
    unfold stepB
    split
    · rename_i hb
      have := hM b (hs b (by simp)) hb
      omega
    · exact h
theorem foldB_eq {l : List Nat} (hl : ∀ b ∈ l, b ≠ 0) (u : Nat) : foldB l u l = pack l u := by
  apply Nat.le_antisymm
  · exact foldl_upper l u _ (fun b hb hu => pack_one (hl b hb) l u hb hu) l 0 (fun _ h => h) (Nat.zero_le _)
  · exact pack_le_of fun b hb hu => foldl_mem l u l 0 b hb hu
/-- What is left of a set without a block. -/
def minus (s b : Nat) : Nat := s ^^^ (s &&& b)
def factB (n s b : Nat) : Bool := (decide (b &&& (2 ^ n - 1 - s) = 0) == decide (minus b s = 0)) && (!decide (minus b s = 0) || (decide ((2 ^ n - 1 - s) ||| b = 2 ^ n - 1 - minus s b) && (decide (b = 0) || decide (minus s b < s))))
def factsB : Bool := (List.range 6).all fun n => (List.range (2 ^ n)).all fun s => (List.range (2 ^ n)).all fun b => factB n s b
theorem factsB_true : factsB = true := by decide +kernel
theorem full_facts0 (n : Nat) (hn : n < 6) (s : Nat) (hs : s < 2 ^ n) (b : Nat) (hb : b < 2 ^ n) : (decide (b &&& (2 ^ n - 1 - s) = 0) = decide (minus b s = 0)) ∧ (¬ minus b s = 0 ∨ ((2 ^ n - 1 - s) ||| b = 2 ^ n - 1 - minus s b ∧ (b = 0 ∨ minus s b < s))) := by
  have h := factsB_true
  unfold factsB at h
  rw [List.all_eq_true] at h
  have h := h n (List.mem_range.2 hn)
  rw [List.all_eq_true] at h
  have h := h s (List.mem_range.2 hs)
  rw [List.all_eq_true] at h
  have h := h b (List.mem_range.2 hb)
  unfold factB at h
  simp only [Bool.and_eq_true, Bool.or_eq_true, beq_iff_eq, Bool.not_eq_true', decide_eq_true_eq, decide_eq_false_iff_not] at h
  exact h
theorem full_facts (n : Nat) (hn : n < 6) (s : Nat) (hs : s < 2 ^ n) (b : Nat) (hb : b < 2 ^ n) : (b &&& (2 ^ n - 1 - s) = 0 ↔ minus b s = 0) ∧ (minus b s = 0 → (2 ^ n - 1 - s) ||| b = 2 ^ n - 1 - minus s b ∧ (b ≠ 0 → minus s b < s)) := by
  obtain ⟨h1, h2⟩ := full_facts0 n hn s hs b hb
  refine ⟨decide_eq_decide.mp h1, fun h => ?_⟩
  rcases h2 with h2 | ⟨h2, h3⟩
  · exact absurd h h2
  · refine ⟨h2, fun h0 => ?_⟩
    rcases h3 with h3 | h3
    · exact absurd h3 h0
    · exact h3
/-- The greatest number of blocks inside a set, as a whole number. -/
def inset (n : Nat) (l : List Nat) (s : Nat) : Int := ((pack l (2 ^ n - 1 - s) : Nat) : Int)
theorem rwAt_rd_lt {N u j : Nat} (F : Nat → Int) (v : Int) (h : j < u) : rd (rwAt N u F v) (j : Int) = F j := by
  rw [rd_nat]
  unfold rwAt
  rw [List.getD_eq_getElem?_getD, List.getElem?_append_left (by rw [tab_len]; exact h)]
  simp [tab, h]
theorem rwS_rd_lt {N u j : Nat} (F : Nat → Int) (h : j < u) : rd (rwS N u F) (j : Int) = F j := by
  rw [rd_nat]
  unfold rwS
  rw [List.getD_eq_getElem?_getD, List.getElem?_append_left (by rw [tab_len]; exact h)]
  simp [tab, h]
theorem mx_nat (a b : Nat) : mx (a : Int) (b : Int) = ((max a b : Nat) : Int) := by
  unfold mx
  split <;> omega
end Go.Proofs.YtoacgiccpndbmaaMath
