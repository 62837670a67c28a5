/- Shows that the check of a currency's code is the document's. -/
import Derived.Test.YtbmokbkgielmmaaPmArith
import Derived.Test.YtbmokbkgielmmaaGx0
import Derived.Test.YtbmokbkgielmmaaGx3
namespace Go.Proofs.Ytbmokbkgielmmaa
open Go Go.Pm Go.Pm.Arith
set_option linter.unusedVariables false
set_option linter.unusedSimpArgs false

theorem i64_idz (n : Int) (h₀ : -9223372036854775808 ≤ n) (h₁ : n < 9223372036854775808) : IntKind.i64.wrap n = n := by
  rw [IntKind.wrap_i64]; omega
theorem i64_nx (i : Nat) (h : i < 9000000000000000000) : IntKind.i64.wrap ((i : Int) + 1) = ((i + 1 : Nat) : Int) := by
  rw [i64_idz _ (by omega) (by omega)]; omega

end Go.Proofs.Ytbmokbkgielmmaa

