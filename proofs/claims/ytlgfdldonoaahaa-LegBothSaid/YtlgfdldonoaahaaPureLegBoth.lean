/- The plain statement of LegBoth: both legs of a covered trade, the program's and the document's, are the same. -/
import Derived.Test.YtlgfdldonoaahaaPuLeg
import Derived.Test.YtlgfdldonoaahaaGx14
namespace Go.Proofs.Ytlgfdldonoaahaa
open Go Go.Pm Go.Pm.Arith

theorem Pure.LegBoth : ∀ (x0 : lombardref25_Covered), (lombardref25_Covered.bd x0) → lombardlaw25_LegBoth.f x0 = some true := by
  intro x hx
  have hl : x.Lots.length < 100000000000000 := by have := hx.2.1.1; unfold reach at this; omega
  unfold lombardlaw25_LegBoth.f lombardlaw25_short.f lombardlaw25_of.f
  simp only [Option.bind_some]
  rw [awake_is, (begin_is x hx).1, (begin_is x hx).2, (end_is x hx).1, (end_is x hx).2]
  simp only [Option.bind_some]
  rw [same_is _ (begin_len x hl), same_is _ (end_len x hl)]
  split
  · rfl
  · simp

end Go.Proofs.Ytlgfdldonoaahaa

