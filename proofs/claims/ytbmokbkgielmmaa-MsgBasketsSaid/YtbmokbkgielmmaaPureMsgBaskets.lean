/- The plain statement of MsgBaskets. -/
import Derived.Test.YtbmokbkgielmmaaPuAw10
import Derived.Test.YtbmokbkgielmmaaPuCheck10
import Derived.Test.YtbmokbkgielmmaaGx3
namespace Go.Proofs.Ytbmokbkgielmmaa
open Go Go.Pm Go.Pm.Arith

theorem Pure.MsgBaskets : ∀ (x0 : api_Basket), (api_Basket.bd x0) → lombardlaw10_MsgBaskets.f x0 = some true := by
  intro x _
  obtain ⟨v, v1, v2⟩ := basket_both x
  unfold lombardlaw10_MsgBaskets.f
  rw [v1, v2, Option.bind_some, Option.bind_some, awake_is]
  simp

end Go.Proofs.Ytbmokbkgielmmaa

