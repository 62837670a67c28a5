/- Shows that a book of some calls is the document's, and that the chapter's example holds. -/
import Derived.Test.YtkcjlpiaaklnkaaPuBook13
import Derived.Test.YtkcjlpiaaklnkaaPuFix
namespace Go.Proofs.Ytkcjlpiaaklnkaa
open Go Go.Pm Go.Pm.Arith
set_option linter.unusedVariables false
set_option linter.unusedSimpArgs false

theorem awake_is : lombardlaw13_awake.f = some true := by
  unfold lombardlaw13_awake.f asset_Worth.f
  have h1 : mdOf 1000 995000 1000000 1 = (995, 0) := by decide +kernel
  have h2 : mdOf 1 995000 1000000 1 = (0, 0) := by decide +kernel
  rw [if_neg (by decide), if_neg (by decide), muldiv_is _ _ _ _ (by decide) (by decide) (by decide), muldiv_is _ _ _ _ (by decide) (by decide) (by decide), h1, h2]
  rfl

theorem does_is (l : List Kn) (a : lombardlaw13_Act) (h : Inv l) (fp : a.Prices.length ≤ 100) : ∃ l', Inv l' ∧ lombardlaw13_does.f (bookOf l) l a = some (true, bookOf l', l') := by
  unfold lombardlaw13_does.f
  by_cases c : (a.Kind == 0) = true
  · obtain ⟨v, l', e1, e2, e3⟩ := addA_is l a.Asset h
    rw [if_pos c, e1, Option.bind_some, e2, Option.bind_some]
    refine ⟨l', e3, ?_⟩
    simp
  · obtain ⟨n, e, l', e1, e2, e3⟩ := set_is l a.Prices h fp
    rw [if_neg c, e1, Option.bind_some, e2, Option.bind_some]
    refine ⟨l', e3, ?_⟩
    simp

theorem inv_nil : Inv [] := ⟨fun i j _ h => (by simp at h), by simp, fun x h => (by cases h)⟩

theorem filled_loop (acts : List lombardlaw13_Act) : ∀ (n i : Nat) (l : List Kn), (acts.length = i + n ∨ 90 ≤ i + n) → i ≤ 90 → Inv l →
    ∃ l', Inv l' ∧ loop (lombardlaw13_filled.r0 acts) ((i : Int), true, l.map (·.A), l.map (·.Price), l) = some (.inr (true, l'.map (·.A), l'.map (·.Price), l'))
  | n, i, l, h, hi, hv => by
    by_cases c : i < acts.length ∧ i < 90
    · obtain ⟨n, rfl⟩ : ∃ m, n = m + 1 := ⟨n - 1, by omega⟩
      have g : (0 : Int) ≤ (i : Int) ∧ (i : Int) < (acts.length : Int) := by omega
      have key : ∃ l', Inv l' ∧ lombardlaw13_filled.r0 acts ((i : Int), true, l.map (·.A), l.map (·.Price), l) = some (.inl (((i + 1 : Nat) : Int), true, l'.map (·.A), l'.map (·.Price), l')) := by
        unfold lombardlaw13_filled.r0 lombardlaw13_filled.b0
        simp only
        rw [if_pos (by simp; omega), if_pos g, if_pos (fun _ => g), i64_nx i (by omega)]
        by_cases s : (decide (((nth acts (i : Int)).Prices.length : Int) ≤ 100)) = true
        · obtain ⟨l', v', e⟩ := does_is l (nth acts (i : Int)) hv (by have := of_decide_eq_true s; omega)
          have e' : lombardlaw13_does.f (⟨l.map (·.A), l.map (·.Price), true⟩ : asset_Book) l (⟨(nth acts (i : Int)).Kind, ((nth acts (i : Int)).Asset), (nth acts (i : Int)).Prices⟩ : lombardlaw13_Act) = some (true, bookOf l', l') := e
          rw [if_pos s, e', Option.bind_some, s]
          exact ⟨l', v', rfl⟩
        · rw [if_neg s, Option.bind_some, Bool.eq_false_iff.2 s]
          exact ⟨l, hv, rfl⟩
      obtain ⟨l', v', e⟩ := key
      rw [loop_next e]
      exact filled_loop acts n (i + 1) l' (by omega) (by omega) v'
    · refine ⟨l, hv, loop_end ?_⟩
      unfold lombardlaw13_filled.r0 lombardlaw13_filled.b0
      simp only
      rw [if_neg (by simp; omega)]

theorem filled_is (acts : List lombardlaw13_Act) : ∃ l, Inv l ∧ lombardlaw13_filled.f acts = some (bookOf l, l, true) := by
  obtain ⟨l, h, e⟩ := filled_loop acts (acts.length + 90) 0 [] (by omega) (by omega) inv_nil
  have e' : loop (lombardlaw13_filled.r0 acts) (0, (⟨[], [], true⟩ : asset_Book).made, (⟨[], [], true⟩ : asset_Book).l, (⟨[], [], true⟩ : asset_Book).prices, []) = _ := e
  refine ⟨l, h, ?_⟩
  unfold lombardlaw13_filled.f asset_New.f
  rw [Option.bind_some, e']
  rfl

end Go.Proofs.Ytkcjlpiaaklnkaa

