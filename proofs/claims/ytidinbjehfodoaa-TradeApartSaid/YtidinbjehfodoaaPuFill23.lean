/- Shows what the document finds wrong with an agreement. -/
import Derived.Test.YtidinbjehfodoaaPuAw23
import Derived.Test.YtidinbjehfodoaaGx0
namespace Go.Proofs.Ytidinbjehfodoaa
open Go Go.Pm Go.Pm.Arith
set_option linter.unusedVariables false
set_option linter.unusedSimpArgs false

theorem ref_fill_is (f : api_Fill) : lombardref23_Fill.f f = some (fillOf f) := by
  unfold lombardref23_Fill.f fillOf
  have e := two_who f.Lender f.Borrower (fun x => lombardref23_in.f x 1 32) (fun x => in23 x 1 32)
  rw [e]
  split
  · rfl
  · by_cases c : f.Lender = f.Borrower
    · rw [if_pos (by simpa using c), if_pos c]
    · rw [if_neg (by simpa using c), if_neg c, terms_is]; rfl

end Go.Proofs.Ytidinbjehfodoaa

