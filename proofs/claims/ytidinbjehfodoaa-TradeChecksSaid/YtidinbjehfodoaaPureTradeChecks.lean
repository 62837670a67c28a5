/- The plain statement of TradeChecks. -/
import Derived.Test.YtidinbjehfodoaaPuAw23
namespace Go.Proofs.Ytidinbjehfodoaa
open Go Go.Pm Go.Pm.Arith
set_option linter.unusedVariables false
set_option linter.unusedSimpArgs false

theorem Pure.TradeChecks : ∀ (x0 : api_Fill) (x1 : api_Trade) (x2 : api_Trade), (api_Fill.bd x0) → (api_Trade.bd x1) → (api_Trade.bd x2) → lombardlaw23_TradeChecks.f x0 x1 x2 = some true := by
  intro f x y hf hx hy
  unfold lombardlaw23_TradeChecks.f
  rw [awake_is]
  by_cases c : ((decide ((List.length x.Resets : Int) > 80)) || (decide ((List.length y.Resets : Int) > 80))) = true
  · rw [if_pos c]; rfl
  · obtain ⟨r, h1, h2⟩ := twins_is x y (by have := resets_len hx; omega)
    rw [if_neg c, fill_is, ref_fill_is, prog_check_is x hx, ref_check_is x hx, h1, h2]
    simp

end Go.Proofs.Ytidinbjehfodoaa

