/- Shows what the words of 64 bits do that a product of 128 bits, and its division bit by bit, are made of. -/
import Derived.Laws.BitsLemmas
namespace Go.Pm.Arith
open Go

theorem u64_wrap (n : Int) : IntKind.u64.wrap n = n % 18446744073709551616 := by simp [IntKind.wrap, IntKind.bits, IntKind.signed]

theorem u64_id (n : Int) (h₀ : 0 ≤ n) (h₁ : n < 2 ^ 64) : IntKind.u64.wrap n = n := by rw [u64_wrap]; omega

theorem and_half (x : Int) (h₀ : 0 ≤ x) (h₁ : x < 18446744073709551616) : bits .and .u64 x 4294967295 = x % 4294967296 :=
  bits_mask .u64 64 (by decide) u64_id 32 (by decide) x h₀ (by omega)

theorem and_one (x : Int) (h₀ : 0 ≤ x) (h₁ : x < 18446744073709551616) : bits .and .u64 x 1 = x % 2 :=
  bits_mask .u64 64 (by decide) u64_id 1 (by decide) x h₀ (by omega)

theorem or_low (i : Nat) (hi : i ≤ 64) (x y : Int) (hx₀ : 0 ≤ x) (hx : x % 2 ^ i = 0) (hx₁ : x < 18446744073709551616) (hy₀ : 0 ≤ y) (hy : y < 2 ^ i) :
    bits .or .u64 x y = x + y := by
  refine bits_join .u64 64 (by decide) u64_id i x y hx₀ hx (by omega) hy₀ hy ?_
  have : (2 : Nat) ^ i ≤ 2 ^ 64 := Nat.pow_le_pow_right (by decide) hi
  have h2 : ((2 : Int) ^ i) ≤ 2 ^ 64 := by exact_mod_cast this
  omega

theorem mul_bound {a b : Int} (ha : 0 ≤ a) (ha' : a ≤ 4294967295) (hb : 0 ≤ b) (hb' : b ≤ 4294967295) : 0 ≤ a * b ∧ a * b ≤ 18446744065119617025 := by
  refine ⟨Int.mul_nonneg ha hb, ?_⟩
  have := Int.mul_le_mul ha' hb' hb (by decide)
  simpa using this

/-- The four small products make the great one. -/
theorem mul_parts (a b : Int) : a * b = (a / 4294967296) * (b / 4294967296) * 18446744073709551616 + ((a / 4294967296) * (b % 4294967296) + (a % 4294967296) * (b / 4294967296)) * 4294967296
    + (a % 4294967296) * (b % 4294967296) := by
  have ea : a = (a / 4294967296) * 4294967296 + a % 4294967296 := by omega
  have eb : b = (b / 4294967296) * 4294967296 + b % 4294967296 := by omega
  generalize a / 4294967296 = a1 at *
  generalize a % 4294967296 = a0 at *
  generalize b / 4294967296 = b1 at *
  generalize b % 4294967296 = b0 at *
  subst ea eb
  simp only [Int.add_mul, Int.mul_add]
  have : a1 * 4294967296 * (b1 * 4294967296) = a1 * b1 * 18446744073709551616 := by
    rw [Int.mul_comm b1 4294967296, Int.mul_assoc, ← Int.mul_assoc 4294967296 4294967296 b1, Int.mul_comm _ b1, ← Int.mul_assoc]; rfl
  have h2 : a0 * (b1 * 4294967296) = a0 * b1 * 4294967296 := by rw [Int.mul_assoc]
  have h3 : a1 * 4294967296 * b0 = a1 * b0 * 4294967296 := by rw [Int.mul_assoc, Int.mul_comm 4294967296 b0, ← Int.mul_assoc]
  omega

def hiOf (a b : Int) : Int := a * b / 18446744073709551616
def loOf (a b : Int) : Int := a * b % 18446744073709551616

theorem mul_wide (a b : Int) (ha₀ : 0 ≤ a) (ha₁ : a < 18446744073709551616) (hb₀ : 0 ≤ b) (hb₁ : b < 18446744073709551616) :
    IntKind.u64.wrap ((IntKind.u64.wrap ((IntKind.u64.wrap ((a / 4294967296) * (b / 4294967296))) + ((IntKind.u64.wrap ((IntKind.u64.wrap ((a / 4294967296) * (Go.bits .and .u64 b 4294967295))) + ((IntKind.u64.wrap ((Go.bits .and .u64 a 4294967295) * (Go.bits .and .u64 b 4294967295))) / 4294967296))) / 4294967296))) + ((IntKind.u64.wrap ((IntKind.u64.wrap ((Go.bits .and .u64 a 4294967295) * (b / 4294967296))) + (Go.bits .and .u64 (IntKind.u64.wrap ((IntKind.u64.wrap ((a / 4294967296) * (Go.bits .and .u64 b 4294967295))) + ((IntKind.u64.wrap ((Go.bits .and .u64 a 4294967295) * (Go.bits .and .u64 b 4294967295))) / 4294967296))) 4294967295))) / 4294967296)) = hiOf a b ∧
    Go.bits .or .u64 (IntKind.u64.wrap ((IntKind.u64.wrap ((IntKind.u64.wrap ((Go.bits .and .u64 a 4294967295) * (b / 4294967296))) + (Go.bits .and .u64 (IntKind.u64.wrap ((IntKind.u64.wrap ((a / 4294967296) * (Go.bits .and .u64 b 4294967295))) + ((IntKind.u64.wrap ((Go.bits .and .u64 a 4294967295) * (Go.bits .and .u64 b 4294967295))) / 4294967296))) 4294967295))) * 4294967296)) (Go.bits .and .u64 (IntKind.u64.wrap ((Go.bits .and .u64 a 4294967295) * (Go.bits .and .u64 b 4294967295))) 4294967295) = loOf a b := by
  rw [and_half a ha₀ ha₁, and_half b hb₀ hb₁]
  have e := mul_parts a b
  unfold hiOf loOf
  obtain ⟨p1, q1⟩ := mul_bound (a := a / 4294967296) (b := b / 4294967296) (by omega) (by omega) (by omega) (by omega)
  obtain ⟨p2, q2⟩ := mul_bound (a := a / 4294967296) (b := b % 4294967296) (by omega) (by omega) (by omega) (by omega)
  obtain ⟨p3, q3⟩ := mul_bound (a := a % 4294967296) (b := b / 4294967296) (by omega) (by omega) (by omega) (by omega)
  obtain ⟨p4, q4⟩ := mul_bound (a := a % 4294967296) (b := b % 4294967296) (by omega) (by omega) (by omega) (by omega)
  have big : 0 ≤ a * b := Int.mul_nonneg ha₀ hb₀
  have big' : a * b ≤ 18446744073709551615 * 18446744073709551615 := Int.mul_le_mul (by omega) (by omega) hb₀ (by decide)
  generalize (a / 4294967296) * (b / 4294967296) = x11 at *
  generalize (a / 4294967296) * (b % 4294967296) = x10 at *
  generalize (a % 4294967296) * (b / 4294967296) = x01 at *
  generalize (a % 4294967296) * (b % 4294967296) = x00 at *
  generalize a * b = z at *
  have m0 : IntKind.u64.wrap x00 = x00 := u64_id _ (by omega) (by omega)
  have m1 : IntKind.u64.wrap (x10) = x10 := u64_id _ (by omega) (by omega)
  have m2 : IntKind.u64.wrap (x10 + x00 / 4294967296) = x10 + x00 / 4294967296 := u64_id _ (by omega) (by omega)
  have m3 : IntKind.u64.wrap x01 = x01 := u64_id _ (by omega) (by omega)
  have m4 : IntKind.u64.wrap x11 = x11 := u64_id _ (by omega) (by omega)
  rw [m0, m1, m2, m3, m4, and_half (x10 + x00 / 4294967296) (by omega) (by omega), and_half x00 (by omega) (by omega)]
  have m5 : IntKind.u64.wrap (x01 + (x10 + x00 / 4294967296) % 4294967296) = x01 + (x10 + x00 / 4294967296) % 4294967296 := u64_id _ (by omega) (by omega)
  rw [m5]
  constructor
  · rw [u64_wrap, u64_wrap]; omega
  · rw [u64_wrap, or_low 32 (by decide) _ _ (by omega) (by omega) (by omega) (by omega) (by omega)]; omega

/-- One bit of the division. -/
theorem div_bit (lo : Int) (i : Nat) (h₀ : 0 ≤ lo) (h₁ : lo < 18446744073709551616) : bits .and .u64 (lo / 2 ^ i) 1 = lo / 2 ^ i % 2 := by
  refine and_one _ (Int.ediv_nonneg h₀ (Int.pow_nonneg (by decide))) (Int.lt_of_le_of_lt (Int.ediv_le_self _ h₀) h₁)

theorem div_top {rest d b : Int} (h₀ : 0 ≤ rest) (h₁ : rest < d) (hd : d < 18446744073709551616) (hb : 0 ≤ b) (hb' : b ≤ 1) (top : rest / 9223372036854775808 = 1) :
    IntKind.u64.wrap (bits .or .u64 (IntKind.u64.wrap (rest * 2)) b - d) = 2 * rest + b - d := by
  rw [u64_wrap (rest * 2), or_low 1 (by decide) _ _ (by omega) (by omega) (by omega) hb (by omega), u64_wrap]
  omega

theorem div_low {rest d b : Int} (h₀ : 0 ≤ rest) (h₁ : rest < d) (hd : d < 18446744073709551616) (hb : 0 ≤ b) (hb' : b ≤ 1) (top : ¬ rest / 9223372036854775808 = 1) :
    bits .or .u64 (IntKind.u64.wrap (rest * 2)) b = 2 * rest + b := by
  rw [u64_wrap (rest * 2), or_low 1 (by decide) _ _ (by omega) (by omega) (by omega) hb (by omega)]
  omega

theorem div_set {q : Int} (i : Nat) (hi : i < 64) (h₀ : 0 ≤ q) (h₁ : q + 2 ^ (i + 1) ≤ 18446744073709551616) (hq : q % 2 ^ (i + 1) = 0) :
    bits .or .u64 q (2 ^ i) = q + 2 ^ i := by
  have hp : (0 : Int) < 2 ^ i := Int.pow_pos (by decide)
  have e : (2 : Int) ^ (i + 1) = 2 ^ i * 2 := Int.pow_succ _ _
  exact or_low (i + 1) (by omega) q _ h₀ hq (by omega) (by omega) (by omega)

theorem two_pow_lt (i : Nat) (hi : i < 64) : ((2 : Int) ^ i) < 18446744073709551616 := by
  have : (2 : Nat) ^ i ≤ 2 ^ 63 := Nat.pow_le_pow_right (by decide) (by omega)
  have h2 : ((2 : Int) ^ i) ≤ 2 ^ 63 := by exact_mod_cast this
  omega

/-- What the division has still to do, by one bit. -/
theorem div_rest (lo rest d : Int) (j : Nat) (hd : 0 < d) :
    rest * 2 ^ (j + 1) + lo % 2 ^ (j + 1) = (2 * rest + lo / 2 ^ j % 2) * 2 ^ j + lo % 2 ^ j ∧
    ∀ x : Int, (x * 2 ^ j + lo % 2 ^ j) / d = 2 ^ j + ((x - d) * 2 ^ j + lo % 2 ^ j) / d ∧ (x * 2 ^ j + lo % 2 ^ j) % d = ((x - d) * 2 ^ j + lo % 2 ^ j) % d := by
  have hp : (0 : Int) < 2 ^ j := Int.pow_pos (by decide)
  have e : (2 : Int) ^ (j + 1) = 2 ^ j * 2 := Int.pow_succ _ _
  refine ⟨?_, fun x => ?_⟩
  · have : lo % (2 ^ j * 2) = (lo / 2 ^ j % 2) * 2 ^ j + lo % 2 ^ j := by
      rw [Int.emod_def lo (2 ^ j * 2), ← Int.ediv_ediv_of_nonneg (Int.le_of_lt hp), Int.emod_def lo (2 ^ j), Int.emod_def (lo / 2 ^ j) 2, Int.sub_mul, Int.mul_assoc, Int.mul_comm (lo / 2 ^ j) (2 ^ j),
        Int.mul_assoc 2, Int.mul_comm _ (2 ^ j), ← Int.mul_assoc 2 (2 ^ j), Int.mul_comm 2 (2 ^ j), Int.mul_assoc]
      omega
    rw [e, this]
    have h1 : rest * (2 ^ j * 2) = 2 * rest * 2 ^ j := by rw [Int.mul_comm (2 ^ j) 2, ← Int.mul_assoc, Int.mul_comm rest 2]
    rw [Int.add_mul, h1, Int.add_assoc]
  · have : x * 2 ^ j + lo % 2 ^ j = ((x - d) * 2 ^ j + lo % 2 ^ j) + 2 ^ j * d := by
      rw [Int.sub_mul, Int.mul_comm d]; omega
    rw [this]
    refine ⟨?_, ?_⟩
    · rw [Int.add_mul_ediv_right _ _ (by omega)]; omega
    · exact Int.add_mul_emod_self_right _ _ _

end Go.Pm.Arith
