/- The plain statement of TradePlays. -/
import Derived.Test.YtidinbjehfodoaaPuPlay23
namespace Go.Proofs.Ytidinbjehfodoaa
open Go Go.Pm Go.Pm.Arith
set_option linter.unusedVariables false
set_option linter.unusedSimpArgs false

theorem plays_loop (acts : List lombardlaw23_Act) (hw : ∀ y ∈ acts, lombardlaw23_Act.bd y) : ∀ (n i : Nat) (l : List api_Trade) (nx : Int), (acts.length = i + n ∨ 60 ≤ i + n) → i ≤ 60 → Inv l nx →
    loop (lombardlaw23_TradePlays.r0 acts) ((i : Int), nx, true, l, l, nx) = some (.inr ())
  | n, i, l, nx, h, hi, hv => by
    by_cases c : i < acts.length ∧ i < 60
    · obtain ⟨n, rfl⟩ : ∃ m, n = m + 1 := ⟨n - 1, by omega⟩
      have g : (0 : Int) ≤ (i : Int) ∧ (i : Int) < (acts.length : Int) := by omega
      have hm : nth acts (i : Int) ∈ acts := by
        show acts.getD i default ∈ acts
        rw [List.getD_eq_getElem?_getD, List.getElem?_eq_getElem c.1]
        exact List.getElem_mem _
      have hb := hw _ hm
      obtain ⟨l', nx', v', e⟩ := does_is l nx (nth acts (i : Int)) hv hb.2.2.1 hb.2.2.2.1
      have key : ∃ l' nx', Inv l' nx' ∧ lombardlaw23_TradePlays.r0 acts ((i : Int), nx, true, l, l, nx) = some (.inl (((i + 1 : Nat) : Int), nx', true, l', l', nx')) := by
        unfold lombardlaw23_TradePlays.r0 lombardlaw23_TradePlays.b0 lombardlaw23_short.f
        simp only
        rw [if_pos (by simp; omega), if_pos g, Option.bind_some, if_pos (fun _ => g), next64 i (by omega)]
        by_cases s : ((decide (((nth acts (i : Int)).X.Resets.length : Int) ≤ 80)) && (decide (((nth acts (i : Int)).Y.Resets.length : Int) ≤ 80))) = true
        · rw [if_pos s, e, Option.bind_some, s]
          exact ⟨l', nx', v', rfl⟩
        · rw [if_neg s, Option.bind_some, Bool.eq_false_iff.2 s]
          exact ⟨l, nx, hv, rfl⟩
      obtain ⟨l', nx', v', e⟩ := key
      rw [loop_next e]
      exact plays_loop acts hw n (i + 1) l' nx' (by omega) (by omega) v'
    · refine loop_end ?_
      unfold lombardlaw23_TradePlays.r0 lombardlaw23_TradePlays.b0
      simp only
      rw [if_neg (by simp; omega)]

theorem Pure.TradePlays : ∀ (x0 : List lombardlaw23_Act), (x0.length * 280 ≤ reach ∧ ∀ y ∈ x0, lombardlaw23_Act.bd y) → lombardlaw23_TradePlays.f x0 = some true := by
  intro acts hl
  have L := plays_loop acts hl.2 60 0 [] 0 (by omega) (by omega) inv_new
  have L' : loop (lombardlaw23_TradePlays.r0 acts) (0, 0, true, [], [], 0) = some (.inr ()) := L
  unfold lombardlaw23_TradePlays.f trade_New.f
  rw [awake_is, Option.bind_some, L']; rfl

end Go.Proofs.Ytidinbjehfodoaa

