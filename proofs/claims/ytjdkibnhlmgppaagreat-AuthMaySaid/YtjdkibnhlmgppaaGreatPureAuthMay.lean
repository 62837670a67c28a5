/- The plain statement of AuthMay: which messages may be sent, and why others may not. -/
import Derived.Test.YtjdkibnhlmgppaaGreatPuMay30
import Derived.Test.YtjdkibnhlmgppaaGreatGx4
namespace Go.Proofs.YtjdkibnhlmgppaaGreat
open Go Go.Pm Go.Pm.Arith

theorem Pure.AuthMay : ∀ (x0 : List lombardlaw30_Act) (x1 : lombardref10_Msg), (x0.length * 48 ≤ reach ∧ ∀ y ∈ x0, lombardlaw30_Act.bd y) → (lombardref10_Msg.bd x1) → lombardlaw30_AuthMay.f x0 x1 = some true := by
  intro acts m _ _
  obtain ⟨l, h, e⟩ := filled_is acts
  obtain ⟨t, t1⟩ : ∃ t, lombardref10_Small.f m = some t := ⟨_, rfl⟩
  obtain ⟨x, v, o, v1, v2, _⟩ := may_is l h m
  unfold lombardlaw30_AuthMay.f
  rw [e, Option.bind_some]
  dsimp only
  rw [if_pos (by decide), t1, Option.bind_some]
  cases t with
  | false => rw [if_pos (by decide), if_pos rfl, awake_is]; rfl
  | true => rw [if_neg (by decide), o, Option.bind_some, v1, Option.bind_some, v2, Option.bind_some, beq_self_eq_true, if_pos rfl, awake_is]; rfl
end Go.Proofs.YtjdkibnhlmgppaaGreat

