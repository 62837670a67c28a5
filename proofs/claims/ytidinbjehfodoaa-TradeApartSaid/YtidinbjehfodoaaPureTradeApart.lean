/- The plain statement of TradeApart: a clone, and what was told, know nothing of what is done to a book; and no book has trades. -/
import Derived.Test.YtidinbjehfodoaaPuPlay23
import Derived.Test.YtidinbjehfodoaaGx9
namespace Go.Proofs.Ytidinbjehfodoaa
open Go Go.Pm Go.Pm.Arith
set_option linter.unusedVariables false
set_option linter.unusedSimpArgs false

theorem apart_loop (acts : List lombardlaw23_Act) (hw : ∀ y ∈ acts, lombardlaw23_Act.bd y) : ∀ (n i : Nat) (l : List api_Trade) (nx : Int), (acts.length = i + n ∨ 30 ≤ i + n) → i ≤ 30 → Inv l nx →
    ∃ l' nx', Inv l' nx' ∧ loop (lombardlaw23_TradeApart.r0 acts) ((i : Int), nx, true, l, l, nx) = some (.inr (nx', true, l', l', nx'))
  | n, i, l, nx, h, hi, hv => by
    by_cases c : i < acts.length ∧ i < 30
    · obtain ⟨n, rfl⟩ : ∃ m, n = m + 1 := ⟨n - 1, by omega⟩
      have g : (0 : Int) ≤ (i : Int) ∧ (i : Int) < (acts.length : Int) := by omega
      have hm : nth acts (i : Int) ∈ acts := by
        show acts.getD i default ∈ acts
        rw [List.getD_eq_getElem?_getD, List.getElem?_eq_getElem c.1]
        exact List.getElem_mem _
      have hb := hw _ hm
      obtain ⟨l', nx', v', e⟩ := does_is l nx (nth acts (i : Int)) hv hb.2.2.1 hb.2.2.2.1
      have key : ∃ l' nx', Inv l' nx' ∧ lombardlaw23_TradeApart.r0 acts ((i : Int), nx, true, l, l, nx) = some (.inl (((i + 1 : Nat) : Int), nx', true, l', l', nx')) := by
        unfold lombardlaw23_TradeApart.r0 lombardlaw23_TradeApart.b0 lombardlaw23_short.f
        simp only
        rw [if_pos (by simp; omega), if_pos g, Option.bind_some, if_pos (fun _ => g), next64 i (by omega)]
        by_cases s : ((decide (((nth acts (i : Int)).X.Resets.length : Int) ≤ 80)) && (decide (((nth acts (i : Int)).Y.Resets.length : Int) ≤ 80))) = true
        · rw [if_pos s, e, Option.bind_some, s]
          exact ⟨l', nx', v', rfl⟩
        · rw [if_neg s, Option.bind_some, Bool.eq_false_iff.2 s]
          exact ⟨l, nx, hv, rfl⟩
      obtain ⟨l', nx', v', e⟩ := key
      rw [loop_next e]
      exact apart_loop acts hw n (i + 1) l' nx' (by omega) (by omega) v'
    · refine ⟨l, nx, hv, loop_end ?_⟩
      unfold lombardlaw23_TradeApart.r0 lombardlaw23_TradeApart.b0
      simp only
      rw [if_neg (by simp; omega)]

theorem more_loop (acts : List lombardlaw23_Act) (hw : ∀ y ∈ acts, lombardlaw23_Act.bd y) : ∀ (n i : Nat) (l : List api_Trade) (nx : Int), (acts.length = i + n ∨ 20 ≤ i + n) → i ≤ 20 → Inv l nx →
    loop (lombardlaw23_TradeApart.r3 acts) ((i : Int), nx, true, l, l, nx) = some (.inr ())
  | n, i, l, nx, h, hi, hv => by
    by_cases c : i < acts.length ∧ i < 20
    · obtain ⟨n, rfl⟩ : ∃ m, n = m + 1 := ⟨n - 1, by omega⟩
      have g : (0 : Int) ≤ (i : Int) ∧ (i : Int) < (acts.length : Int) := by omega
      have hm : nth acts (i : Int) ∈ acts := by
        show acts.getD i default ∈ acts
        rw [List.getD_eq_getElem?_getD, List.getElem?_eq_getElem c.1]
        exact List.getElem_mem _
      have hb := hw _ hm
      obtain ⟨l', nx', v', e⟩ := does_is l nx (nth acts (i : Int)) hv hb.2.2.1 hb.2.2.2.1
      have key : ∃ l' nx', Inv l' nx' ∧ lombardlaw23_TradeApart.r3 acts ((i : Int), nx, true, l, l, nx) = some (.inl (((i + 1 : Nat) : Int), nx', true, l', l', nx')) := by
        unfold lombardlaw23_TradeApart.r3 lombardlaw23_TradeApart.b3 lombardlaw23_short.f
        simp only
        rw [if_pos (by simp; omega), if_pos g, Option.bind_some, if_pos (fun _ => g), next64 i (by omega)]
        by_cases s : ((decide (((nth acts (i : Int)).X.Resets.length : Int) ≤ 80)) && (decide (((nth acts (i : Int)).Y.Resets.length : Int) ≤ 80))) = true
        · rw [if_pos s, e, Option.bind_some, s]
          exact ⟨l', nx', v', rfl⟩
        · rw [if_neg s, Option.bind_some, Bool.eq_false_iff.2 s]
          exact ⟨l, nx, hv, rfl⟩
      obtain ⟨l', nx', v', e⟩ := key
      rw [loop_next e]
      exact more_loop acts hw n (i + 1) l' nx' (by omega) (by omega) v'
    · refine loop_end ?_
      unfold lombardlaw23_TradeApart.r3 lombardlaw23_TradeApart.b3
      simp only
      rw [if_neg (by simp; omega)]

theorem of_nil (a b : Int) : trade_Book_Of.f a b = some [] := by
  have L : loop (trade_Book_Of.r0 a b []) (0, []) = some [] := loop_end rfl
  unfold trade_Book_Of.f trade_Book_All_v3.f
  rw [Option.bind_some, L]; rfl
theorem borrowed_nil (a : Int) : trade_Book_Borrowed.f a = some 0 := by
  have L : loop (trade_Book_Borrowed.r0 []) (0, 0) = some 0 := loop_end rfl
  unfold trade_Book_Borrowed.f
  rw [of_nil, Option.bind_some, L]; rfl

def NB : trade_Book := ⟨[], 0, false⟩
theorem get_empty : ∃ t, trade_Book_Get.f NB 1 = some (t, false) := by
  rcases get_is NB 1 (fun k hk => by simp [NB] at hk) (by decide) (fun k hk => by simp [NB] at hk) 0 with ⟨k, k1, _⟩ | ⟨k1, k2, k3⟩
  · simp [NB] at k1
  · exact ⟨_, k2⟩
theorem all_empty : trade_Book_All.f NB = some [] := all_is NB (by decide) (fun k hk => by simp [NB] at hk)
theorem of_empty (a b : Int) : trade_Book_Of_v2.f NB a b = some [] := by
  have L : loop (trade_Book_Of_v2.r0 a b []) (0, []) = some [] := loop_end rfl
  unfold trade_Book_Of_v2.f
  rw [all_empty, Option.bind_some, L]; rfl
theorem borrowed_empty (a : Int) : trade_Book_Borrowed_v2.f NB a = some 0 := by
  have L : loop (trade_Book_Borrowed_v2.r0 []) (0, 0) = some 0 := loop_end rfl
  unfold trade_Book_Borrowed_v2.f
  rw [of_empty, Option.bind_some, L]; rfl

theorem nobody_loop : loop lombardlaw23_TradeApart.r4 0 = some (.inr ()) := by
  have s0 : lombardlaw23_TradeApart.r4 0 = some (.inl 1) := by
    unfold lombardlaw23_TradeApart.r4 lombardlaw23_TradeApart.b4
    rw [if_pos (by decide), if_pos (by decide)]
    show (trade_Book_Novate_v2.f _).bind _ = _
    rw [of_nil, borrowed_nil]
    rfl
  have s1 : lombardlaw23_TradeApart.r4 1 = some (.inl 2) := by
    obtain ⟨t, ht⟩ := get_empty
    unfold lombardlaw23_TradeApart.r4 lombardlaw23_TradeApart.b4
    rw [if_pos (by decide), if_pos (by decide)]
    have ht' : trade_Book_Get.f ⟨[], 0, false⟩ 1 = _ := ht
    have ha : trade_Book_All.f ⟨[], 0, false⟩ = _ := all_empty
    have ho : trade_Book_Of_v2.f ⟨[], 0, false⟩ 1 0 = _ := of_empty 1 0
    have hb : trade_Book_Borrowed_v2.f ⟨[], 0, false⟩ 1 = _ := borrowed_empty 1
    show (trade_Book_Novate_v3.f ⟨[], 0, false⟩ _).bind _ = _
    rw [ht', ha, ho, hb]
    rfl
  have s2 : lombardlaw23_TradeApart.r4 2 = some (.inr (.inr ())) := rfl
  rw [loop_next s0, loop_next s1]; exact loop_end s2

theorem Pure.TradeApart : ∀ (x0 : List lombardlaw23_Act) (x1 : List lombardlaw23_Act), (x0.length * 280 ≤ reach ∧ ∀ y ∈ x0, lombardlaw23_Act.bd y) → (x1.length * 280 ≤ reach ∧ ∀ y ∈ x1, lombardlaw23_Act.bd y) → lombardlaw23_TradeApart.f x0 x1 = some true := by
  intro acts more ha hm
  obtain ⟨l, nx, v, e⟩ := apart_loop acts ha.2 30 0 [] 0 (by omega) (by omega) inv_new
  have e' : loop (lombardlaw23_TradeApart.r0 acts) (0, (⟨[], 0, true⟩ : trade_Book).next, (⟨[], 0, true⟩ : trade_Book).made, (⟨[], 0, true⟩ : trade_Book).l, [], 0) = _ := e
  have m := more_loop more hm.2 20 0 l nx (by omega) (by omega) v
  have m' : loop (lombardlaw23_TradeApart.r3 more) (0, (⟨l, nx, true⟩ : trade_Book).next, (⟨l, nx, true⟩ : trade_Book).made, (⟨l, nx, true⟩ : trade_Book).l, l, nx) = _ := m
  have fw := v.few
  have al : trade_Book_All.f ⟨l, nx, true⟩ = some l := all_is ⟨l, nx, true⟩ (by show l.length ≤ 100; omega) v.rs
  have cl : trade_Book_Clone.f ⟨l, nx, true⟩ = some (some ⟨l, nx, true⟩) := by
    unfold trade_Book_Clone.f
    rw [al]; rfl
  unfold lombardlaw23_TradeApart.f trade_New.f
  rw [Option.bind_some, e', Option.bind_some]
  dsimp only
  rw [cl, Option.bind_some]
  dsimp only
  rw [al, Option.bind_some, m', Option.bind_some]
  dsimp only
  rw [Option.bind_some, same_all l (by omega) v.rs, Option.bind_some]
  unfold trade_Book_Next.f
  simp only [Bool.not_true, if_true, Option.bind_some, Bool.false_or, bne_self_eq_false, Bool.false_eq_true, if_false, nobody_loop, awake_is]

end Go.Proofs.Ytidinbjehfodoaa

