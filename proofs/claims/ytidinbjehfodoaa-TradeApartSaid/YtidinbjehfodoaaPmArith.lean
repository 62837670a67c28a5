/- Shows what the words of 64 bits do that a product of 128 bits, and its division bit by bit, are made of. -/
import Derived.Laws.BitsLemmas
namespace Go.Pm.Arith
open Go

theorem u64_wrap (n : Int) : IntKind.u64.wrap n = n % 18446744073709551616 := by simp [IntKind.wrap, IntKind.bits, IntKind.signed]

theorem u64_id (n : Int) (h₀ : 0 ≤ n) (h₁ : n < 2 ^ 64) : IntKind.u64.wrap n = n := by rw [u64_wrap]; omega

end Go.Pm.Arith
