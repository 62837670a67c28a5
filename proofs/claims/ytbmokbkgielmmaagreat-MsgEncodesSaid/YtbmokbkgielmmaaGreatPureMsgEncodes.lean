/- The plain statement of MsgEncodes: every message as bytes. -/
import Derived.Test.YtbmokbkgielmmaaGreatPuAw10
import Derived.Test.YtbmokbkgielmmaaGreatPuEncR10
import Derived.Test.YtbmokbkgielmmaaGreatGx5
namespace Go.Proofs.YtbmokbkgielmmaaGreat
open Go Go.Pm Go.Pm.Arith
set_option linter.unusedVariables false
set_option linter.unusedSimpArgs false
theorem Pure.MsgEncodes : ∀ (x0 : lombardref10_Msg), (lombardref10_Msg.bd x0) → lombardlaw10_MsgEncodes.f x0 = some true := by
  intro m _
  obtain ⟨t, t1⟩ : ∃ t, lombardref10_Small.f m = some t := ⟨_, rfl⟩
  obtain ⟨x, o, v, v1, v2⟩ := enc_both m
  unfold lombardlaw10_MsgEncodes.f
  rw [t1, Option.bind_some, awake_is]
  cases t
  · rfl
  rw [if_neg (by decide), o, Option.bind_some, v1, v2]
  simp
end Go.Proofs.YtbmokbkgielmmaaGreat
