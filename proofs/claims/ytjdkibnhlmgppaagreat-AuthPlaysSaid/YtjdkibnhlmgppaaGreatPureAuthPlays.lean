/- The plain statement of AuthPlays: what every call answers, and all members behind each. -/
import Derived.Test.YtjdkibnhlmgppaaGreatPuFill30
import Derived.Test.YtjdkibnhlmgppaaGreatGx3
namespace Go.Proofs.YtjdkibnhlmgppaaGreat
open Go Go.Pm Go.Pm.Arith

theorem Pure.AuthPlays : ∀ (x0 : List lombardlaw30_Act), (x0.length * 48 ≤ reach ∧ ∀ y ∈ x0, lombardlaw30_Act.bd y) → lombardlaw30_AuthPlays.f x0 = some true := by
  intro acts _
  obtain ⟨l, h, e⟩ := filled_is acts
  unfold lombardlaw30_AuthPlays.f
  rw [e, Option.bind_some, if_pos rfl, awake_is]
  rfl
end Go.Proofs.YtjdkibnhlmgppaaGreat

