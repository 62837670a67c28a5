/- Shows what a trade's steps come to by the document. -/
import Derived.Test.YtknfdnlhadjbaaaPuSteps
import Derived.Test.YtknfdnlhadjbaaaGx5
import Derived.Test.YtknfdnlhadjbaaaGx6
import Derived.Test.YtknfdnlhadjbaaaGx9
import Derived.Test.YtknfdnlhadjbaaaGx9
import Derived.Test.YtknfdnlhadjbaaaGx10
namespace Go.Proofs.Ytknfdnlhadjbaaa
open Go Go.Pm Go.Pm.Arith Go.Pm.Big
set_option linter.unusedVariables false
set_option linter.unusedSimpArgs false

theorem ref_begin_is (x : api_Trade) (d : Int) : lombardref24_Begin.f x d = some (beginOf x d) := begin_is x d
theorem ref_notice_is (x : api_Trade) (hs : 0 ≤ x.Start ∧ x.Start ≤ 200000) (d e : Int) (he : inI64 e) : lombardref24_Notice.f x d e = some (noticeOf x d e) := by
  unfold lombardref24_Notice.f noticeOf
  by_cases c : x.Stage ≠ 2 ∨ x.End ≠ 0
  · rw [if_pos c, if_pos (by simpa using c)]
  · rw [if_neg c, if_neg (by simpa using c), notice_rest x hs d e he lombardref02_Good.f good02]
theorem ref_close_is (x : api_Trade) (d : Int) : lombardref24_Close.f x d = some (closeOf x d) := by
  unfold lombardref24_Close.f closeOf lombardref24_Live.f
  simp only [Option.bind_some]
  by_cases c : ¬ (x.Stage = 2 ∨ x.Stage = 3) ∨ x.End = 0
  · rw [if_pos c, if_pos (by simp; omega)]
  · rw [if_neg c, if_neg (by simp; omega), good02, Option.bind_some]
    by_cases c2 : ¬ (0 ≤ d ∧ d ≤ 200000) ∨ d < x.End
    · rw [if_pos (by simp; omega), if_pos c2]
    · rw [if_neg (by simp; omega), if_neg c2]
theorem ref_fail_is (x : api_Trade) : lombardref24_Fail.f x = some (failOf x) := by
  unfold lombardref24_Fail.f failOf
  by_cases c : x.Stage < 1 ∨ x.Stage > 3
  · rw [if_pos c, if_pos (by simp; omega)]
  · rw [if_neg c, if_neg (by simp; omega)]
theorem ref_reset_is (x : api_Trade) (hx : api_Trade.bd x) (d : Int) (r : api_Reset) : lombardref24_Reset.f x d r = some (resetOf x d r) := by
  have len := resets_len hx
  have w : IntKind.i64.wrap ((x.Resets.length : Int) - 1) = (x.Resets.length : Int) - 1 := i64_id _ (by omega) (by omega)
  unfold lombardref24_Reset.f resetOf
  rw [w]
  by_cases c : x.End ≠ 0 ∨ x.Stage > 3
  · rw [if_pos c, if_pos (by simpa using c)]
  rw [if_neg c, if_neg (by simpa using c)]
  by_cases k : r.Rate > 1000000 ∨ r.Rate < -1000000
  · rw [if_pos k, if_pos (by simp only [Bool.or_eq_true, decide_eq_true_eq]; omega)]
  · rw [if_neg k, if_neg (by simp only [Bool.or_eq_true, decide_eq_true_eq]; omega)]
    refine reset_rest x d r lombardref02_Good.f good02 _ ?_
    by_cases m : x.Resets.length ≥ 64
    · rw [if_pos (decide_eq_true (by omega)), if_pos m]
    · rw [if_neg (by simp; omega), if_neg m, if_pos (by simp; omega), if_pos (by simp; omega)]
      rfl

end Go.Proofs.Ytknfdnlhadjbaaa

