/- The plain statement of LifeOver: a trade that is over stays so. -/
import Derived.Test.YtknfdnlhadjbaaaPuSteps
import Derived.Test.YtknfdnlhadjbaaaGx8
namespace Go.Proofs.Ytknfdnlhadjbaaa
open Go Go.Pm Go.Pm.Arith Go.Pm.Big
set_option linter.unusedVariables false
set_option linter.unusedSimpArgs false

theorem Pure.LifeOver : ∀ (x0 : api_Trade) (x1 : Int) (x2 : Int) (x3 : api_Reset), (api_Trade.bd x0) → (inK .i64 x1) → (inK .i64 x2) → (api_Reset.bd x3) → lombardlaw24_LifeOver.f x0 x1 x2 x3 = some true := by
  intro x d e r hx hd he hr
  obtain ⟨b, hb, k⟩ := good24 x hx
  unfold lombardlaw24_LifeOver.f
  rw [hb, awake_is, Option.bind_some]
  cases b with
  | false => rfl
  | true =>
    by_cases c : x.Stage < 4
    · rw [if_pos (by simpa using c)]; rfl
    have h := k rfl
    have len := resets_len hx
    have s1 : beginOf x d = (x, 8) := by unfold beginOf; rw [if_pos (by omega)]
    have s2 : noticeOf x d e = (x, 8) := by unfold noticeOf; rw [if_pos (by omega)]
    have s3 : resetOf x d r = (x, 8) := by unfold resetOf; rw [if_pos (by omega)]
    have s4 : closeOf x d = (x, 8) := by unfold closeOf; rw [if_pos (by omega)]
    have s5 : failOf x = (x, 8) := by unfold failOf; rw [if_pos (by omega)]
    rw [if_neg (by simpa using c), begin_is x d, notice_is x h.start d e (in64 he), reset_is x hx h.stage d r, close_is x d, fail_is x, s1, s2, s3, s4, s5]
    simp [same_self x (by omega)]

end Go.Proofs.Ytknfdnlhadjbaaa

