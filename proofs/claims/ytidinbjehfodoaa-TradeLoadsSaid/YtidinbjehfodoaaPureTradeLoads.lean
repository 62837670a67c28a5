/- The plain statement of TradeLoads. -/
import Derived.Test.YtidinbjehfodoaaPuBook23
namespace Go.Proofs.Ytidinbjehfodoaa
open Go Go.Pm Go.Pm.Arith
set_option linter.unusedVariables false
set_option linter.unusedSimpArgs false

theorem bd_at (l : List api_Trade) (hw : ∀ y ∈ l, api_Trade.bd y) (i : Nat) (h : i < l.length) : api_Trade.bd (l.getD i default) := by
  refine hw _ ?_
  rw [List.getD_eq_getElem?_getD, List.getElem?_eq_getElem h]
  exact List.getElem_mem _

theorem wrap_pred (i : Nat) (h : 0 < i) (h2 : i < 1000) : IntKind.i64.wrap ((i : Int) - 1) = ((i - 1 : Nat) : Int) := by rw [i64_id _ (by omega) (by omega)]; omega

theorem take_next (l : List api_Trade) (i : Nat) (h : i < l.length) : l.take i ++ [l.getD i default] = l.take (i + 1) := by
  have e : l.getD i default = l[i] := by rw [List.getD_eq_getElem?_getD, List.getElem?_eq_getElem h]; rfl
  rw [e, List.take_append_getElem]

theorem load_step (l : List api_Trade) (nx : Int) (i : Nat) (hi : i < l.length) (few : l.length ≤ 100) (hw : ∀ y ∈ l, api_Trade.bd y) :
    ∃ C : Bool, (C = false → 0 < i → idAt l (i - 1) < idAt l i) ∧
      (if tradeOf (l.getD i default) ≠ 0 then trade_Load.r0 l nx ((i : Int), l.take i) = some (.inr (.inl (none, tradeOf (l.getD i default)))) ∧ lombardref23_Load.r0 l nx (i : Int) = some (.inr (.inl (tradeOf (l.getD i default))))
       else if C = true then trade_Load.r0 l nx ((i : Int), l.take i) = some (.inr (.inl (none, 7))) ∧ lombardref23_Load.r0 l nx (i : Int) = some (.inr (.inl 7))
       else trade_Load.r0 l nx ((i : Int), l.take i) = some (.inl (((i + 1 : Nat) : Int), l.take (i + 1))) ∧ lombardref23_Load.r0 l nx (i : Int) = some (.inl ((i + 1 : Nat) : Int))) := by
  have hx := bd_at l hw i hi
  have g : (0 : Int) ≤ (i : Int) ∧ (i : Int) < (l.length : Int) := by omega
  have gp : ∀ q : Prop, (q → (0 : Int) ≤ (i : Int) ∧ (i : Int) < (l.length : Int)) := fun q _ => g
  have g1 : (decide ((i : Int) > 0)) = true → (0 : Int) ≤ (IntKind.wrap .i64 ((i : Int) - 1)) ∧ (IntKind.wrap .i64 ((i : Int) - 1)) < (List.length l : Int) := fun h => by
    have := of_decide_eq_true h
    rw [wrap_pred i (by omega) (by omega)]; omega
  refine ⟨(((decide ((i : Int) > 0)) && (decide ((l.getD i default).ID ≤ ((nth l (IntKind.wrap .i64 ((i : Int) - 1))).ID)))) || (decide ((l.getD i default).ID > nx))) || (decide ((l.getD i default).Twin > nx)), ?_, ?_⟩
  · intro hC h0
    simp only [Bool.or_eq_false_iff, Bool.and_eq_false_iff, decide_eq_false_iff_not] at hC
    rw [wrap_pred i h0 (by omega), nth_tr] at hC
    show (l.getD (i - 1) default).ID < (l.getD i default).ID
    omega
  · generalize hC : ((((decide ((i : Int) > 0)) && (decide ((l.getD i default).ID ≤ ((nth l (IntKind.wrap .i64 ((i : Int) - 1))).ID)))) || (decide ((l.getD i default).ID > nx))) || (decide ((l.getD i default).Twin > nx))) = C
    have p : trade_Load.r0 l nx ((i : Int), l.take i) = if tradeOf (l.getD i default) ≠ 0 then some (.inr (.inl (none, tradeOf (l.getD i default)))) else if C = true then some (.inr (.inl (none, 7))) else some (.inl (((i + 1 : Nat) : Int), l.take (i + 1))) := by
      unfold trade_Load.r0 trade_Load.b0
      simp only
      rw [if_pos (decide_eq_true g.2), if_pos g, nth_tr, prog_check_is _ hx, Option.bind_some, if_pos g1, hC]
      by_cases t : tradeOf (l.getD i default) = 0
      · rw [if_neg (show ¬ ((tradeOf (l.getD i default) != 0) = true) by simpa using t), if_neg (show ¬ (tradeOf (l.getD i default) ≠ 0) from fun h => h t)]
        by_cases c : C = true
        · rw [if_pos c, if_pos c]
        · rw [if_neg c, if_neg c, copied_is _ (resets_len hx), Option.bind_some, if_pos (by simp; omega), next64 i (by omega), take_next l i hi]
      · rw [if_pos (show (tradeOf (l.getD i default) != 0) = true by simpa using t), if_pos t]
    have r : lombardref23_Load.r0 l nx (i : Int) = if tradeOf (l.getD i default) ≠ 0 then some (.inr (.inl (tradeOf (l.getD i default)))) else if C = true then some (.inr (.inl 7)) else some (.inl ((i + 1 : Nat) : Int)) := by
      unfold lombardref23_Load.r0 lombardref23_Load.b0
      rw [if_pos (decide_eq_true g.2), if_pos g, nth_tr, ref_check_is _ hx, Option.bind_some]
      by_cases t : tradeOf (l.getD i default) = 0
      · rw [if_neg (show ¬ ((tradeOf (l.getD i default) != 0) = true) by simpa using t), if_neg (show ¬ (tradeOf (l.getD i default) ≠ 0) from fun h => h t), if_pos (gp _), if_pos g1, if_pos (gp _), if_pos (gp _), hC, next64 i (by omega)]
      · rw [if_pos (show (tradeOf (l.getD i default) != 0) = true by simpa using t), if_pos t, if_pos g]; rfl
    by_cases t : tradeOf (l.getD i default) ≠ 0
    · rw [if_pos t] at p r ⊢; exact ⟨p, r⟩
    · rw [if_neg t] at p r ⊢
      by_cases c : C = true
      · rw [if_pos c] at p r ⊢; exact ⟨p, r⟩
      · rw [if_neg c] at p r ⊢; exact ⟨p, r⟩

theorem load_first (l : List api_Trade) (nx : Int) (few : l.length ≤ 100) (hw : ∀ y ∈ l, api_Trade.bd y) : ∀ (j i : Nat), l.length = i + j → (∀ k, k + 1 < i → idAt l k < idAt l (k + 1)) →
    (∃ e : Int, e ≠ 0 ∧ loop (trade_Load.r0 l nx) ((i : Int), l.take i) = some (.inl (none, e)) ∧ loop (lombardref23_Load.r0 l nx) (i : Int) = some (.inl e)) ∨
    (Rising l ∧ loop (trade_Load.r0 l nx) ((i : Int), l.take i) = some (.inr l) ∧ loop (lombardref23_Load.r0 l nx) (i : Int) = some (.inr ()))
  | 0, i, h, hr => by
    right
    refine ⟨fun k hk => hr k (by omega), loop_end ?_, loop_end ?_⟩
    · unfold trade_Load.r0 trade_Load.b0
      rw [if_neg (by simp; omega), List.take_of_length_le (by omega)]
    · unfold lombardref23_Load.r0 lombardref23_Load.b0
      rw [if_neg (by simp; omega)]
  | j + 1, i, h, hr => by
    obtain ⟨C, c1, c2⟩ := load_step l nx i (by omega) few hw
    by_cases t : tradeOf (l.getD i default) ≠ 0
    · rw [if_pos t] at c2
      exact .inl ⟨_, t, loop_end c2.1, loop_end c2.2⟩
    · rw [if_neg t] at c2
      by_cases c : C = true
      · rw [if_pos c] at c2
        exact .inl ⟨7, by decide, loop_end c2.1, loop_end c2.2⟩
      · rw [if_neg c] at c2
        rw [loop_next c2.1, loop_next c2.2]
        refine load_first l nx few hw j (i + 1) (by omega) (fun k hk => ?_)
        by_cases e : k + 1 = i
        · have := c1 (by simpa using c) (by omega)
          rw [show i - 1 = k by omega] at this
          rw [e]; exact this
        · exact hr k (by omega)

theorem load_second (l : List api_Trade) (nx : Int) (few : l.length ≤ 100) (hw : ∀ y ∈ l, api_Trade.bd y) (ri : Rising l) : ∀ (j i : Nat), l.length = i + j →
    (loop (trade_Load.r1 l) ((i : Int), nx, true, l) = some (.inl (none, 32)) ∧ loop (lombardref23_Load.r1 l nx) (i : Int) = some (.inl 32)) ∨
    (loop (trade_Load.r1 l) ((i : Int), nx, true, l) = some (.inr (nx, true, l)) ∧ loop (lombardref23_Load.r1 l nx) (i : Int) = some (.inr ()))
  | 0, i, h => by
    right
    refine ⟨loop_end ?_, loop_end ?_⟩
    · unfold trade_Load.r1 trade_Load.b1
      rw [if_neg (by simp; omega)]
    · unfold lombardref23_Load.r1 lombardref23_Load.b1
      rw [if_neg (by simp; omega)]
  | j + 1, i, h => by
    have g : (0 : Int) ≤ (i : Int) ∧ (i : Int) < (l.length : Int) := by omega
    have hl : ∀ k, k < l.length → (l.getD k default).Resets.length < 8796093022208 := fun k hk => resets_len (bd_at l hw k hk)
    have go : (∃ q : Bool, trade_Load.r1 l ((i : Int), nx, true, l) = (if q = true then some (.inl (((i + 1 : Nat) : Int), nx, true, l)) else some (.inr (.inl (none, 32)))) ∧
        lombardref23_Load.r1 l nx (i : Int) = (if q = true then some (.inl ((i + 1 : Nat) : Int)) else some (.inr (.inl 32)))) := by
      unfold trade_Load.r1 trade_Load.b1 lombardref23_Load.r1 lombardref23_Load.b1
      simp only [if_pos (decide_eq_true g.2), if_pos g, nth_tr]
      rcases get_is ⟨l, nx, true⟩ (l.getD i default).Twin ri few hl nx with ⟨k, k1, k2, k3, k4⟩ | ⟨k1, k2, k3⟩
      · have k1' : k < l.length := k1
        obtain ⟨r, h1, h2⟩ := twins_is (l.getD i default) (l.getD k default) (by have := hl i (by omega); omega)
        refine ⟨r, ?_, ?_⟩
        · rw [k3, Option.bind_some]
          simp only
          rw [if_pos (by rfl), h1, Option.bind_some, next64 i (by omega)]
          cases r <;> rfl
        · have e : lombardref23_Book_Find.f ⟨l, nx⟩ (l.getD i default).Twin = some (k : Int) := k4
          have d : decide ((k : Int) < 0) = false := decide_eq_false (by omega)
          rw [e, Option.bind_some, if_pos (fun _ => g), if_pos (fun _ => by omega), d, if_pos rfl, nth_tr, h2, Option.bind_some, next64 i (by omega)]
          cases r <;> rfl
      · refine ⟨false, ?_, ?_⟩
        · rw [k2, Option.bind_some]
          simp only
          rw [if_neg (by decide), Option.bind_some, if_pos (by rfl), if_neg (by decide)]
        · have e : lombardref23_Book_Find.f ⟨l, nx⟩ (l.getD i default).Twin = some (-1) := k3
          have d : decide ((-1 : Int) < 0) = true := by decide
          rw [e, Option.bind_some, d, if_pos (fun h => by cases h), if_pos (fun h => by cases h), if_neg (by decide), Option.bind_some, if_pos (by rfl), if_neg (by decide)]
    obtain ⟨q, q1, q2⟩ := go
    cases q with
    | true =>
      rw [if_pos rfl] at q1 q2
      rw [loop_next q1, loop_next q2]
      exact load_second l nx few hw ri j (i + 1) (by omega)
    | false =>
      rw [if_neg (by decide)] at q1 q2
      exact .inl ⟨loop_end q1, loop_end q2⟩

theorem small_loop (l : List api_Trade) (few : l.length ≤ 100) : ∀ (j i : Nat), l.length = i + j → loop (lombardlaw23_TradeLoads.r0 l) (i : Int) = some (.inl true) ∨ loop (lombardlaw23_TradeLoads.r0 l) (i : Int) = some (.inr ())
  | 0, i, h => .inr (loop_end (by unfold lombardlaw23_TradeLoads.r0 lombardlaw23_TradeLoads.b0; rw [if_neg (by simp; omega)]))
  | j + 1, i, h => by
    have key : lombardlaw23_TradeLoads.r0 l (i : Int) = if ((l.getD i default).Resets.length : Int) > 80 then some (.inr (.inl true)) else some (.inl ((i + 1 : Nat) : Int)) := by
      unfold lombardlaw23_TradeLoads.r0 lombardlaw23_TradeLoads.b0
      rw [if_pos (decide_eq_true (by omega)), if_pos (by omega), nth_tr, awake_is, next64 i (by omega)]
      by_cases c : ((l.getD i default).Resets.length : Int) > 80
      · rw [if_pos (decide_eq_true c), if_pos c]; rfl
      · rw [if_neg (by simpa using c), if_neg c]
    by_cases c : ((l.getD i default).Resets.length : Int) > 80
    · rw [if_pos c] at key; exact .inl (loop_end key)
    · rw [if_neg c] at key
      rw [loop_next key]
      exact small_loop l few j (i + 1) (by omega)

theorem load_is (l : List api_Trade) (nx : Int) (few : l.length ≤ 100) (hw : ∀ y ∈ l, api_Trade.bd y) :
    (∃ e : Int, e ≠ 0 ∧ trade_Load.f l nx = some (none, e) ∧ lombardref23_Load.f l nx = some e) ∨ (trade_Load.f l nx = some (some ⟨l, nx, true⟩, 0) ∧ lombardref23_Load.f l nx = some 0) := by
  unfold trade_Load.f lombardref23_Load.f
  by_cases c : (l.length : Int) > 64 ∨ nx < 0 ∨ nx > 1125899906842624
  · left
    refine ⟨2, by decide, by rw [if_pos (by simp only [Bool.or_eq_true, decide_eq_true_eq]; omega)], ?_⟩
    by_cases k : (l.length : Int) > 64
    · rw [decide_eq_true k]; rfl
    · rw [decide_eq_false k, if_pos rfl, in23, Option.bind_some, decide_eq_false (show ¬ (0 ≤ nx ∧ nx ≤ 1125899906842624) by omega)]; rfl
  · have k : decide ((l.length : Int) > 64) = false := decide_eq_false (by omega)
    rw [if_neg (by simp only [Bool.or_eq_true, decide_eq_true_eq]; omega), k, if_pos rfl, in23, Option.bind_some, decide_eq_true (show 0 ≤ nx ∧ nx ≤ 1125899906842624 by omega), if_neg (by decide)]
    unfold trade_New.f
    rw [Option.bind_some]
    simp only
    rcases load_first l nx few hw l.length 0 (by omega) (fun k hk => by omega) with ⟨e, e1, e2, e3⟩ | ⟨ri, e2, e3⟩
    · have e2' : loop (trade_Load.r0 l nx) (0, []) = _ := e2
      have e3' : loop (lombardref23_Load.r0 l nx) 0 = _ := e3
      rw [e2', e3']
      exact .inl ⟨e, e1, rfl, rfl⟩
    · have e2' : loop (trade_Load.r0 l nx) (0, []) = _ := e2
      have e3' : loop (lombardref23_Load.r0 l nx) 0 = _ := e3
      rw [e2', e3', Option.bind_some, Option.bind_some]
      simp only
      rcases load_second l nx few hw ri l.length 0 (by omega) with ⟨s1, s2⟩ | ⟨s1, s2⟩
      · have s1' : loop (trade_Load.r1 l) (0, nx, true, l) = _ := s1
        have s2' : loop (lombardref23_Load.r1 l nx) 0 = _ := s2
        rw [s1', s2']
        exact .inl ⟨32, by decide, rfl, rfl⟩
      · have s1' : loop (trade_Load.r1 l) (0, nx, true, l) = _ := s1
        have s2' : loop (lombardref23_Load.r1 l nx) 0 = _ := s2
        rw [s1', s2']
        exact .inr ⟨rfl, rfl⟩

theorem Pure.TradeLoads : ∀ (x0 : List api_Trade) (x1 : Int), (x0.length * 104 ≤ reach ∧ ∀ y ∈ x0, api_Trade.bd y) → (inK .i64 x1) → lombardlaw23_TradeLoads.f x0 x1 = some true := by
  intro l nx hl hn
  unfold lombardlaw23_TradeLoads.f
  rw [awake_is]
  by_cases c : (l.length : Int) > 80
  · rw [if_pos (decide_eq_true c)]; rfl
  have few : l.length ≤ 100 := by omega
  rw [if_neg (by simpa using c)]
  rcases small_loop l few l.length 0 (by omega) with s | s
  · have s' : loop (lombardlaw23_TradeLoads.r0 l) 0 = _ := s
    rw [s']; rfl
  · have s' : loop (lombardlaw23_TradeLoads.r0 l) 0 = _ := s
    rw [s', Option.bind_some]
    simp only
    rcases load_is l nx few hl.2 with ⟨e, e1, e2, e3⟩ | ⟨e2, e3⟩
    · rw [e2, e3]
      have z : (e == 0) = false := by simpa using e1
      have z' : (e != 0) = true := by simpa using e1
      simp [z, z', e1]
    · have hr : ∀ k, k < l.length → (l.getD k default).Resets.length < 8796093022208 := fun k hk => resets_len (bd_at l hl.2 k hk)
      rw [e2, e3, Option.bind_some]
      simp only
      rw [Option.bind_some, all_is ⟨l, nx, true⟩ few hr]
      unfold trade_Book_Next_v2.f
      simp [same_all l few hr]

end Go.Proofs.Ytidinbjehfodoaa

