/- The plain statement of LifeSteps: each step of a trade is the document's. -/
import Derived.Test.YtknfdnlhadjbaaaPuStepsR
import Derived.Test.YtknfdnlhadjbaaaGx11
namespace Go.Proofs.Ytknfdnlhadjbaaa
open Go Go.Pm Go.Pm.Arith Go.Pm.Big
set_option linter.unusedVariables false
set_option linter.unusedSimpArgs false

theorem begin_len (x : api_Trade) (d : Int) : (beginOf x d).1.Resets = x.Resets := by
  unfold beginOf
  split
  · rfl
  · split <;> rfl
theorem notice_len (x : api_Trade) (d e : Int) : (noticeOf x d e).1.Resets = x.Resets := by
  unfold noticeOf
  split
  · rfl
  · split <;> rfl
theorem close_len (x : api_Trade) (d : Int) : (closeOf x d).1.Resets = x.Resets := by
  unfold closeOf
  split
  · rfl
  · split <;> rfl
theorem fail_len (x : api_Trade) : (failOf x).1.Resets = x.Resets := by unfold failOf; split <;> rfl
theorem reset_len (x : api_Trade) (d : Int) (r : api_Reset) : (resetOf x d r).1.Resets = x.Resets ∨ (resetOf x d r).1.Resets = x.Resets ++ [r] := by
  unfold resetOf
  split
  · exact .inl rfl
  split
  · exact .inl rfl
  split
  · exact .inl rfl
  split
  · exact .inl rfl
  exact .inr rfl

theorem due_is (x : api_Trade) (d : Int) : life_Due.f x d = some ((((x.Stage == 2) || (x.Stage == 3)) && (x.End != 0)) && decide (x.End ≤ d)) := by
  unfold life_Due.f life_Live.f life_Open.f
  rw [Option.bind_some]
  cases ((x.Stage == 2) || (x.Stage == 3)) with
  | false => rfl
  | true => rfl

theorem Pure.LifeSteps : ∀ (x0 : api_Trade) (x1 : Int) (x2 : Int) (x3 : api_Reset), (api_Trade.bd x0) → (inK .i64 x1) → (inK .i64 x2) → (api_Reset.bd x3) → lombardlaw24_LifeSteps.f x0 x1 x2 x3 = some true := by
  intro x d e r hx hd he hr
  obtain ⟨b, hb, k⟩ := good24 x hx
  unfold lombardlaw24_LifeSteps.f
  rw [hb, awake_is, Option.bind_some]
  cases b with
  | false => rfl
  | true =>
    have h := k rfl
    have len := resets_len hx
    have rl : (resetOf x d r).1.Resets.length < 100000000000000 := by
      rcases reset_len x d r with q | q <;> rw [q]
      · omega
      · simp; omega
    rw [if_neg (by decide), begin_is x d, ref_begin_is x d, notice_is x h.start d e (in64 he), ref_notice_is x h.start d e (in64 he), reset_is x hx h.stage d r, ref_reset_is x hx d r,
      close_is x d, ref_close_is x d, fail_is x, ref_fail_is x]
    simp only [Option.bind_some]
    rw [same_self _ (by rw [begin_len]; omega), Option.bind_some, same_self _ (by rw [notice_len]; omega), same_self _ rl, same_self _ (by rw [close_len]; omega), same_self _ (by rw [fail_len]; omega), due_is]
    have e1 : ((x.Stage == 4) || (x.Stage == 5)) = decide (x.Stage > 3) := by
      have := h.stage
      by_cases c : x.Stage > 3
      · rw [decide_eq_true c]; simp; omega
      · rw [decide_eq_false c]; simp; omega
    simp [life_Open.f, life_Live.f, lombardref24_Live.f, life_Over.f, e1]

end Go.Proofs.Ytknfdnlhadjbaaa

