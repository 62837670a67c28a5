/- The plain statement of TradeTells. -/
import Derived.Test.YtidinbjehfodoaaPuPlay23
namespace Go.Proofs.Ytidinbjehfodoaa
open Go Go.Pm Go.Pm.Arith
set_option linter.unusedVariables false
set_option linter.unusedSimpArgs false

theorem tells_loop (acts : List lombardlaw23_Act) (hw : ∀ y ∈ acts, lombardlaw23_Act.bd y) : ∀ (n i : Nat) (l : List api_Trade) (nx : Int), (acts.length = i + n ∨ 60 ≤ i + n) → i ≤ 60 → Inv l nx →
    ∃ l' nx', Inv l' nx' ∧ loop (lombardlaw23_TradeTells.r0 acts) ((i : Int), nx, true, l, l, nx) = some (.inr (nx', true, l', l', nx'))
  | n, i, l, nx, h, hi, hv => by
    by_cases c : i < acts.length ∧ i < 60
    · obtain ⟨n, rfl⟩ : ∃ m, n = m + 1 := ⟨n - 1, by omega⟩
      have g : (0 : Int) ≤ (i : Int) ∧ (i : Int) < (acts.length : Int) := by omega
      have hm : nth acts (i : Int) ∈ acts := by
        show acts.getD i default ∈ acts
        rw [List.getD_eq_getElem?_getD, List.getElem?_eq_getElem c.1]
        exact List.getElem_mem _
      have hb := hw _ hm
      obtain ⟨l', nx', v', e⟩ := does_is l nx (nth acts (i : Int)) hv hb.2.2.1 hb.2.2.2.1
      have key : ∃ l' nx', Inv l' nx' ∧ lombardlaw23_TradeTells.r0 acts ((i : Int), nx, true, l, l, nx) = some (.inl (((i + 1 : Nat) : Int), nx', true, l', l', nx')) := by
        unfold lombardlaw23_TradeTells.r0 lombardlaw23_TradeTells.b0 lombardlaw23_short.f
        simp only
        rw [if_pos (by simp; omega), if_pos g, Option.bind_some, if_pos (fun _ => g), next64 i (by omega)]
        by_cases s : ((decide (((nth acts (i : Int)).X.Resets.length : Int) ≤ 80)) && (decide (((nth acts (i : Int)).Y.Resets.length : Int) ≤ 80))) = true
        · rw [if_pos s, e, Option.bind_some, s]
          exact ⟨l', nx', v', rfl⟩
        · rw [if_neg s, Option.bind_some, Bool.eq_false_iff.2 s]
          exact ⟨l, nx, hv, rfl⟩
      obtain ⟨l', nx', v', e⟩ := key
      rw [loop_next e]
      exact tells_loop acts hw n (i + 1) l' nx' (by omega) (by omega) v'
    · refine ⟨l, nx, hv, loop_end ?_⟩
      unfold lombardlaw23_TradeTells.r0 lombardlaw23_TradeTells.b0
      simp only
      rw [if_neg (by simp; omega)]

def of (m s : Int) (x : api_Trade) : Bool := (x.Member == m) && ((s == 0) || (x.Side == s))

theorem of_loop (l : List api_Trade) (m s : Int) (few : l.length ≤ 64) : ∀ (j i : Nat), l.length = i + j → loop (trade_Book_Of.r0 m s l) ((i : Int), (l.take i).filter (of m s)) = some (l.filter (of m s))
  | 0, i, h => by
    refine loop_end ?_
    unfold trade_Book_Of.r0 trade_Book_Of.b0
    rw [if_neg (by simp; omega), List.take_of_length_le (by omega)]
  | j + 1, i, h => by
    have g : (0 : Int) ≤ (i : Int) ∧ (i : Int) < (l.length : Int) := by omega
    have len := List.length_filter_le (of m s) (l.take i)
    rw [List.length_take] at len
    have key : trade_Book_Of.r0 m s l ((i : Int), (l.take i).filter (of m s)) = some (.inl (((i + 1 : Nat) : Int), (l.take (i + 1)).filter (of m s))) := by
      unfold trade_Book_Of.r0 trade_Book_Of.b0
      simp only
      rw [if_pos (decide_eq_true g.2), if_pos g, nth_tr, next64 i (by omega), filter_next _ l i (by omega)]
      show (if of m s (l.getD i default) = true then _ else _) = _
      by_cases c : of m s (l.getD i default) = true
      · rw [if_pos c, if_pos c, if_pos (by simp only [List.length_cons, List.length_nil]; omega)]
      · rw [if_neg c, if_neg c, List.append_nil]
    rw [loop_next key]
    exact of_loop l m s few j (i + 1) (by omega)

theorem ref_of_loop (l : List api_Trade) (nx m s : Int) (few : l.length ≤ 64) : ∀ (j i : Nat), l.length = i + j → loop (lombardref23_Book_Of.r0 ⟨l, nx⟩ m s) ((i : Int), (l.take i).filter (of m s)) = some (l.filter (of m s))
  | 0, i, h => by
    refine loop_end ?_
    unfold lombardref23_Book_Of.r0 lombardref23_Book_Of.b0
    rw [if_neg (by simp; omega), List.take_of_length_le (by omega)]
  | j + 1, i, h => by
    have g : (0 : Int) ≤ (i : Int) ∧ (i : Int) < (l.length : Int) := by omega
    have len := List.length_filter_le (of m s) (l.take i)
    rw [List.length_take] at len
    have key : lombardref23_Book_Of.r0 ⟨l, nx⟩ m s ((i : Int), (l.take i).filter (of m s)) = some (.inl (((i + 1 : Nat) : Int), (l.take (i + 1)).filter (of m s))) := by
      unfold lombardref23_Book_Of.r0 lombardref23_Book_Of.b0
      simp only
      rw [if_pos (decide_eq_true g.2), if_pos g, if_pos (fun _ => g), nth_tr, next64 i (by omega), filter_next _ l i (by omega)]
      have e : (((l.getD i default).Member == m) && ((s == 0) || (s == (l.getD i default).Side))) = of m s (l.getD i default) := by
        unfold of
        rw [Bool.beq_comm (a := s) (b := (l.getD i default).Side)]
      rw [e]
      by_cases c : of m s (l.getD i default) = true
      · rw [if_pos c, if_pos c, if_pos g, if_pos (by simp only [List.length_cons, List.length_nil]; omega)]
      · rw [if_neg c, if_neg c, List.append_nil]
    rw [loop_next key]
    exact ref_of_loop l nx m s few j (i + 1) (by omega)

theorem of_is (l : List api_Trade) (nx m s : Int) (h : Inv l nx) : trade_Book_Of.f ⟨l, nx, true⟩ m s = some (l.filter (of m s)) ∧ lombardref23_Book_Of.f ⟨l, nx⟩ m s = some (l.filter (of m s)) := by
  have fw := h.few
  have L : loop (trade_Book_Of.r0 m s l) (0, []) = _ := of_loop l m s fw l.length 0 (by omega)
  have R : loop (lombardref23_Book_Of.r0 ⟨l, nx⟩ m s) (0, []) = _ := ref_of_loop l nx m s fw l.length 0 (by omega)
  unfold trade_Book_Of.f lombardref23_Book_Of.f
  rw [all_is ⟨l, nx, true⟩ (by show l.length ≤ 100; omega) h.rs, Option.bind_some, R]
  show (loop (trade_Book_Of.r0 m s l) (0, [])).bind _ = _ ∧ _
  rw [L]
  exact ⟨rfl, rfl⟩

theorem sum_loop (l : List api_Trade) (few : l.length ≤ 64) : ∀ (j i : Nat) (v : Int), l.length = i + j → ∃ n, loop (trade_Book_Borrowed.r0 l) (v, (i : Int)) = some n ∧ loop (lombardref23_Book_Borrowed.r0 l) (v, (i : Int)) = some n
  | 0, i, v, h => by
    refine ⟨v, loop_end ?_, loop_end ?_⟩
    · unfold trade_Book_Borrowed.r0 trade_Book_Borrowed.b0
      rw [if_neg (by simp; omega)]
    · unfold lombardref23_Book_Borrowed.r0 lombardref23_Book_Borrowed.b0
      rw [if_neg (by simp; omega)]
  | j + 1, i, v, h => by
    have g : (0 : Int) ≤ (i : Int) ∧ (i : Int) < (l.length : Int) := by omega
    have key : ∃ v', trade_Book_Borrowed.r0 l (v, (i : Int)) = some (.inl (v', ((i + 1 : Nat) : Int))) ∧ lombardref23_Book_Borrowed.r0 l (v, (i : Int)) = some (.inl (v', ((i + 1 : Nat) : Int))) := by
      unfold trade_Book_Borrowed.r0 trade_Book_Borrowed.b0 lombardref23_Book_Borrowed.r0 lombardref23_Book_Borrowed.b0
      simp only [if_pos (decide_eq_true g.2), if_pos g, next64 i (show i < 1000000000000000 by omega)]
      split <;> exact ⟨_, rfl, rfl⟩
    obtain ⟨v', k1, k2⟩ := key
    obtain ⟨n, l1, l2⟩ := sum_loop l few j (i + 1) v' (by omega)
    exact ⟨n, by rw [loop_next k1, l1], by rw [loop_next k2, l2]⟩

theorem borrowed_is (l : List api_Trade) (nx m : Int) (h : Inv l nx) : ∃ n, trade_Book_Borrowed.f ⟨l, nx, true⟩ m = some n ∧ lombardref23_Book_Borrowed.f ⟨l, nx⟩ m = some n := by
  obtain ⟨o1, o2⟩ := of_is l nx m 2 h
  have few : (l.filter (of m 2)).length ≤ 64 := Nat.le_trans (List.length_filter_le _ _) h.few
  obtain ⟨n, l1, l2⟩ := sum_loop (l.filter (of m 2)) few _ 0 0 (Nat.zero_add _).symm
  unfold trade_Book_Borrowed.f lombardref23_Book_Borrowed.f
  rw [o1, o2, Option.bind_some, Option.bind_some]
  have l1' : loop (trade_Book_Borrowed.r0 (l.filter (of m 2))) (0, 0) = some n := l1
  have l2' : loop (lombardref23_Book_Borrowed.r0 (l.filter (of m 2))) (0, 0) = some n := l2
  rw [l1', l2']
  exact ⟨n, rfl, rfl⟩

theorem Pure.TradeTells : ∀ (x0 : List lombardlaw23_Act) (x1 : Int) (x2 : Int) (x3 : Int), (x0.length * 280 ≤ reach ∧ ∀ y ∈ x0, lombardlaw23_Act.bd y) → (inK .i64 x1) → (inK .i64 x2) → (inK .i64 x3) → lombardlaw23_TradeTells.f x0 x1 x2 x3 = some true := by
  intro acts id m s hl _ _ _
  obtain ⟨l, nx, hv, L⟩ := tells_loop acts hl.2 60 0 [] 0 (by omega) (by omega) inv_new
  have L' : loop (lombardlaw23_TradeTells.r0 acts) (0, 0, true, [], [], 0) = some (.inr (nx, true, l, l, nx)) := L
  have fw := hv.few
  obtain ⟨o1, o2⟩ := of_is l nx m s hv
  obtain ⟨n, b1, b2⟩ := borrowed_is l nx m hv
  have sa : lombardref23_All.f (l.filter (of m s)) (l.filter (of m s)) = some true := by
    have v := hv.filter (of m s)
    have := v.few
    exact same_all _ (by omega) v.rs
  unfold lombardlaw23_TradeTells.f trade_New.f
  rw [awake_is, Option.bind_some, L', Option.bind_some]
  simp only
  rw [o1, o2, b1, b2]
  rcases get_is ⟨l, nx, true⟩ id hv.rising (by show l.length ≤ 100; omega) hv.rs nx with ⟨k, k1, k2, k3, k4⟩ | ⟨k1, k2, k3⟩
  · have k1 : k < l.length := k1
    have k4 : lombardref23_Book_Find.f ⟨l, nx⟩ id = some (k : Int) := k4
    have d : decide ((k : Int) ≥ 0) = true := decide_eq_true (by omega)
    have st := same_trade (l.getD k default) (by have := hv.rs k k1; omega)
    rw [k3, k4, Option.bind_some, Option.bind_some, d]
    simp only [beq_self_eq_true, Bool.not_true, and_self, if_true, true_implies]
    rw [if_pos (by omega), nth_tr]
    show ((lombardref23_Same.f (l.getD k default) (l.getD k default)).bind _) = _
    rw [st, Option.bind_some, if_neg (by simp), Option.bind_some, Option.bind_some, sa, Option.bind_some]
    simp
  · have k3 : lombardref23_Book_Find.f ⟨l, nx⟩ id = some (-1) := k3
    rw [k2, k3, Option.bind_some, Option.bind_some]
    have d : decide ((-1 : Int) ≥ 0) = false := by decide
    rw [d]
    simp [sa]

end Go.Proofs.Ytidinbjehfodoaa

