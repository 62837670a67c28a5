/- Shows what the words of 64 bits do that a product of 128 bits, and its division bit by bit, are made of. -/
import Derived.Laws.BitsLemmas
namespace Go.Pm.Arith
open Go
theorem u64_wrap (n : Int) : IntKind.u64.wrap n = n % 18446744073709551616 := by simp [IntKind.wrap, IntKind.bits, IntKind.signed]
theorem u64_id (n : Int) (h₀ : 0 ≤ n) (h₁ : n < 2 ^ 64) : IntKind.u64.wrap n = n := by rw [u64_wrap]; omega
theorem and_half (x : Int) (h₀ : 0 ≤ x) (h₁ : x < 18446744073709551616) : bits .and .u64 x 4294967295 = x % 4294967296 :=
 bits_mask .u64 64 (by decide) u64_id 32 (by decide) x h₀ (by omega)
theorem and_one (x : Int) (h₀ : 0 ≤ x) (h₁ : x < 18446744073709551616) : bits .and .u64 x 1 = x % 2 :=
 bits_mask .u64 64 (by decide) u64_id 1 (by decide) x h₀ (by omega)
theorem or_low (i : Nat) (hi : i ≤ 64) (x y : Int) (hx₀ : 0 ≤ x) (hx : x % 2 ^ i = 0) (hx₁ : x < 18446744073709551616) (hy₀ : 0 ≤ y) (hy : y < 2 ^ i) :
 bits .or .u64 x y = x + y := by
 refine bits_join .u64 64 (by decide) u64_id i x y hx₀ hx (by omega) hy₀ hy ?_
 have : (2 : Nat) ^ i ≤ 2 ^ 64 := Nat.pow_le_pow_right (by decide) hi
 have h2 : ((2 : Int) ^ i) ≤ 2 ^ 64 := by exact_mod_cast this
 omega
end Go.Pm.Arith
