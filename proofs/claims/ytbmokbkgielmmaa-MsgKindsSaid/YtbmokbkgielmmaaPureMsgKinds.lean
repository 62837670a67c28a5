/- The plain statement of MsgKinds. -/
import Derived.Test.YtbmokbkgielmmaaPuAw10
import Derived.Test.YtbmokbkgielmmaaPuSame10
import Derived.Test.YtbmokbkgielmmaaGx3
namespace Go.Proofs.Ytbmokbkgielmmaa
open Go Go.Pm Go.Pm.Arith
set_option linter.unusedVariables false
set_option linter.unusedSimpArgs false

theorem ite_ex {α : Type} {p : Prop} [Decidable p] {a b : Option α} {Q : α → Prop} (ha : p → ∃ x, a = some x ∧ Q x) (hb : ¬ p → ∃ x, b = some x ∧ Q x) : ∃ x, (if p then a else b) = some x ∧ Q x := by
  by_cases h : p
  · rw [if_pos h]; exact ha h
  · rw [if_neg h]; exact hb h

theorem other_kinds (m : lombardref10_Msg) (h8 : (m.Kind == 8) = false) (h11 : (m.Kind == 11) = false) :
    ∃ x, lombardlaw10_Of.f m = some x ∧ msg_AsOffer.f x = some (default, false) ∧ msg_AsSwap.f x = some (default, false) := by
  unfold lombardlaw10_Of.f
  rw [h8, h11]
  repeat refine ite_ex (Q := fun x => msg_AsOffer.f x = some (default, false) ∧ msg_AsSwap.f x = some (default, false)) (fun h => by first | exact ⟨_, rfl, rfl, rfl⟩ | cases h) (fun _ => ?_)
  exact ⟨_, rfl, rfl, rfl⟩

theorem Pure.MsgKinds : ∀ (x0 : lombardref10_Msg), (lombardref10_Msg.bd x0) → lombardlaw10_MsgKinds.f x0 = some true := by
  intro m _
  have hs : ∃ t, lombardref10_Small.f m = some t ∧ (t = true → m.In.length ≤ 100) := by
    unfold lombardref10_Small.f
    refine ⟨_, rfl, fun h => ?_⟩
    simp only [Bool.and_eq_true, decide_eq_true_eq] at h
    omega
  obtain ⟨t, t1, t2⟩ := hs
  unfold lombardlaw10_MsgKinds.f
  rw [t1, Option.bind_some, awake_is]
  cases t
  · rfl
  have few := t2 rfl
  rw [if_neg (by decide)]
  by_cases h8 : m.Kind = 8
  · obtain ⟨K, a1, a2, a3, a4, a5, a6, a7, a8, Q, a9, a10, a11, a12, a13⟩ := m
    simp only at h8
    subst h8
    have o : lombardlaw10_Of.f ⟨8, a1, a2, a3, a4, a5, a6, a7, a8, Q, a9, a10, a11, a12, a13⟩ = some (.cmsg_Offer ⟨Q⟩) := rfl
    have o1 : msg_AsOffer.f (.cmsg_Offer ⟨Q⟩) = some (⟨Q⟩, true) := rfl
    have o2 : msg_AsSwap.f (.cmsg_Offer ⟨Q⟩) = some (default, false) := rfl
    have o3 : msg_MustOffer.f (.cmsg_Offer ⟨Q⟩) = some ⟨Q⟩ := rfl
    rw [o, Option.bind_some, o1, o2, o3]
    simp [default, instInhabitedMsg_Swap]
  · by_cases h11 : m.Kind = 11
    · obtain ⟨K, a1, a2, a3, a4, a5, a6, a7, a8, Q, a9, a10, a11, a12, a13⟩ := m
      simp only at h11 few
      subst h11
      have o : lombardlaw10_Of.f ⟨11, a1, a2, a3, a4, a5, a6, a7, a8, Q, a9, a10, a11, a12, a13⟩ = some (.cmsg_Swap ⟨a1, a11, a9, a10⟩) := rfl
      have o1 : msg_AsOffer.f (.cmsg_Swap ⟨a1, a11, a9, a10⟩) = some (default, false) := rfl
      have o2 : msg_AsSwap.f (.cmsg_Swap ⟨a1, a11, a9, a10⟩) = some (⟨a1, a11, a9, a10⟩, true) := rfl
      have o3 : msg_MustSwap.f (.cmsg_Swap ⟨a1, a11, a9, a10⟩) = some ⟨a1, a11, a9, a10⟩ := rfl
      rw [o, Option.bind_some, o1, o2, o3]
      simp [default, instInhabitedMsg_Offer, lots_self a10 (by omega)]
    · have b8 : (m.Kind == 8) = false := by simpa using h8
      have b11 : (m.Kind == 11) = false := by simpa using h11
      obtain ⟨x, o, o1, o2⟩ := other_kinds m b8 b11
      rw [o, Option.bind_some, o1, o2, b8, b11]
      simp [default, instInhabitedMsg_Offer, instInhabitedMsg_Swap]

end Go.Proofs.Ytbmokbkgielmmaa

