/- The plain statement of MsgChecks: what is wrong with every message, who sends it, and of which kind it is. -/
import Derived.Test.YtbmokbkgielmmaaGreatPuAw10
import Derived.Test.YtbmokbkgielmmaaGreatPuChk10
import Derived.Test.YtbmokbkgielmmaaGreatGy0
namespace Go.Proofs.YtbmokbkgielmmaaGreat
open Go Go.Pm Go.Pm.Arith
set_option linter.unusedVariables false
set_option linter.unusedSimpArgs false

theorem who_both (m : lombardref10_Msg) : ∃ x, lombardlaw10_Of.f m = some x ∧ Bo (msg_Sender.f x) (lombardref10_Sender.f m) ∧ ((decide (m.Kind < 1) || decide (m.Kind > 15)) = true ∨ (x.isNil = false ∧ msg_Message.mKind.f x = some m.Kind)) := by
  by_cases hk : m.Kind = 1 ∨ m.Kind = 2 ∨ m.Kind = 3 ∨ m.Kind = 4 ∨ m.Kind = 5 ∨ m.Kind = 6 ∨ m.Kind = 7 ∨ m.Kind = 8 ∨ m.Kind = 9 ∨ m.Kind = 10 ∨ m.Kind = 11 ∨ m.Kind = 12 ∨ m.Kind = 13 ∨ m.Kind = 14 ∨ m.Kind = 15
  · obtain ⟨K, a1, a2, a3, a4, a5, a6, a7, a8, Q, a9, a10, a11, a12, a13⟩ := m
    simp only at hk
    rcases hk with rfl | rfl | rfl | rfl | rfl | rfl | rfl | rfl | rfl | rfl | rfl | rfl | rfl | rfl | rfl <;> exact ⟨_, rfl, ⟨_, rfl, rfl⟩, .inr ⟨rfl, rfl⟩⟩
  · have ne : ∀ n : Int, 1 ≤ n → n ≤ 15 → (m.Kind == n) = false := fun n h1 h2 => by
      rw [beq_eq_false_iff_ne]; intro e; apply hk; omega
    refine ⟨.nil, ?_, ⟨0, rfl, ?_⟩, .inl ?_⟩
    · unfold lombardlaw10_Of.f
      rw [ne 1 (by decide) (by decide), ne 2 (by decide) (by decide), ne 3 (by decide) (by decide), ne 4 (by decide) (by decide), ne 5 (by decide) (by decide), ne 6 (by decide) (by decide), ne 7 (by decide) (by decide), ne 8 (by decide) (by decide),
        ne 9 (by decide) (by decide), ne 10 (by decide) (by decide), ne 11 (by decide) (by decide), ne 12 (by decide) (by decide), ne 13 (by decide) (by decide), ne 14 (by decide) (by decide), ne 15 (by decide) (by decide)]
      rfl
    · unfold lombardref10_Sender.f
      rw [ne 8 (by decide) (by decide), ne 9 (by decide) (by decide), ne 10 (by decide) (by decide), ne 11 (by decide) (by decide)]
      rfl
    · simp; omega

theorem Pure.MsgChecks : ∀ (x0 : lombardref10_Msg), (lombardref10_Msg.bd x0) → lombardlaw10_MsgChecks.f x0 = some true := by
  intro m _
  obtain ⟨t, t1⟩ : ∃ t, lombardref10_Small.f m = some t := ⟨_, rfl⟩
  obtain ⟨x, o, v, v1, v2⟩ := check_both m
  obtain ⟨x', o', ⟨w, w1, w2⟩, h⟩ := who_both m
  rw [o] at o'
  cases o'
  unfold lombardlaw10_MsgChecks.f
  rw [t1, Option.bind_some, awake_is]
  cases t
  · rfl
  rw [if_neg (by decide), o, Option.bind_some, v1, v2, w1, w2]
  simp only [Option.bind_some, bne_self_eq_false, if_true, Bool.or_self, Bool.false_eq_true, if_false]
  rcases h with h | ⟨h1, h2⟩
  · rw [h]
    simp
  · rw [h1, h2]
    cases (decide (m.Kind < 1) || decide (m.Kind > 15)) <;> simp

end Go.Proofs.YtbmokbkgielmmaaGreat

