/- The plain statement of AuthStays: who has defaulted stays so, and may send nothing, and no two members have one name. -/
import Derived.Test.YtjdkibnhlmgppaaGreatPuMay30
import Derived.Test.YtjdkibnhlmgppaaGreatGx5
namespace Go.Proofs.YtjdkibnhlmgppaaGreat
open Go Go.Pm Go.Pm.Arith
set_option linter.unusedVariables false
set_option linter.unusedSimpArgs false

theorem apart_loop (l : List Me) (h : Inv l) (i : Nat) (hi : i < l.length) : ∀ (j k : Nat), i = k + j → loop (lombardlaw30_AuthStays.r1 (listOf l, l, true) (i : Int)) (k : Int) = some (.inr ())
  | 0, k, e => loop_end (by unfold lombardlaw30_AuthStays.r1 lombardlaw30_AuthStays.b1; rw [if_neg (by simp; omega)])
  | j + 1, k, e => by
    have few := h.few
    have n1 := h.names i hi
    have n2 := h.names k (by omega)
    have f1 : lombardref04_Fold.f (l.getD i default).Name = some (fold (nam l i)) := (fold_both _ (by unfold nam at n1; omega)).2
    have f2 : lombardref04_Fold.f (l.getD k default).Name = some (fold (nam l k)) := (fold_both _ (by unfold nam at n2; omega)).2
    have st : lombardlaw30_AuthStays.r1 (listOf l, l, true) (i : Int) (k : Int) = some (.inl ((k + 1 : Nat) : Int)) := by
      unfold lombardlaw30_AuthStays.r1 lombardlaw30_AuthStays.b1
      simp only [nth_me]
      rw [if_pos (decide_eq_true (by omega)), if_pos (by omega), f1, Option.bind_some, if_pos (by omega), f2, Option.bind_some, if_neg (by rw [beq_iff_eq]; exact fun q => h.one k i (by omega) hi q.symm), i64_nx k (by omega)]
    rw [loop_next st]
    exact apart_loop l h i hi j (k + 1) (by omega)

/-- Who has defaulted stays so. -/
theorem three_call (l : List Me) (h : Inv l) (k : Nat) (hk : k < l.length) (c : (l.getD k default).State = 3) (y : Bool) : auth_List_Call.f (listOf l) (l.getD k default).ID y = some (8, listOf l) := by
  have few := h.few
  have hm : ¬ (!(listOf l).made) = true := fun h => by cases h
  unfold auth_List_Call.f
  rw [idO]
  rcases found l (l.getD k default).ID h.rise (by omega) with ⟨q, k1, k2, k3, k4⟩ | ⟨k1, _⟩
  · obtain rfl := uniq h k1 hk k2
    have g' : (0 : Int) ≤ (q : Int) ∧ (q : Int) < ((listOf l).l.length : Int) := by show _ ∧ _ < ((l.map bk).length : Int); rw [List.length_map]; omega
    have nb : nth (listOf l).l (q : Int) = bk (l.getD q default) := nth_bk l q
    unfold auth_List_change__auth_List_Call_1.f
    rw [if_neg hm, k3, Option.bind_some, if_neg (by simp), if_pos g', nb, if_pos (show ((bk (l.getD q default)).State == 3) = true from by rw [beq_iff_eq]; exact c)]
  · exact absurd rfl (k1 k hk)
theorem three_default (l : List Me) (h : Inv l) (k : Nat) (hk : k < l.length) (c : (l.getD k default).State = 3) : auth_List_Default.f (listOf l) (l.getD k default).ID = some (8, listOf l) := by
  have few := h.few
  have hm : ¬ (!(listOf l).made) = true := fun h => by cases h
  unfold auth_List_Default.f
  rw [idO]
  rcases found l (l.getD k default).ID h.rise (by omega) with ⟨q, k1, k2, k3, k4⟩ | ⟨k1, _⟩
  · obtain rfl := uniq h k1 hk k2
    have g' : (0 : Int) ≤ (q : Int) ∧ (q : Int) < ((listOf l).l.length : Int) := by show _ ∧ _ < ((l.map bk).length : Int); rw [List.length_map]; omega
    have nb : nth (listOf l).l (q : Int) = bk (l.getD q default) := nth_bk l q
    unfold auth_List_change__auth_List_Default_1.f
    rw [if_neg hm, k3, Option.bind_some, if_neg (by simp), if_pos g', nb, if_pos (show ((bk (l.getD q default)).State == 3) = true from by rw [beq_iff_eq]; exact c)]
  · exact absurd rfl (k1 k hk)
theorem three_able (l : List Me) (h : Inv l) (k : Nat) (hk : k < l.length) (c : (l.getD k default).State = 3) : auth_List_Able.f (listOf l) (l.getD k default).ID = some false := by
  unfold auth_List_Able.f
  rcases get_is' l (l.getD k default).ID h with ⟨q, k1, k2, k3, k4⟩ | ⟨k1, _⟩
  · obtain rfl := uniq h k1 hk k2
    rw [k3, Option.bind_some]
    have : ((bk (l.getD q default)).State != 3) = false := by rw [show (bk (l.getD q default)).State = 3 from c]; rfl
    simp only [this, Bool.and_false]
  · exact absurd rfl (k1 k hk)
theorem three_may (l : List Me) (h : Inv l) (k : Nat) (hk : k < l.length) (c : (l.getD k default).State = 3) (m : lombardref10_Msg) (h6 : 6 ≤ m.Kind) (h14 : m.Kind ≤ 14) (e1 : m.Member = (l.getD k default).ID) (e2 : m.Quote.Member = (l.getD k default).ID) :
    ∃ x v, lombardlaw10_Of.f m = some x ∧ auth_List_May.f (listOf l) x = some v ∧ v ≠ 0 := by
  obtain ⟨x, v, o, v1, _, v3⟩ := may_is l h m
  refine ⟨x, v, o, v1, ?_⟩
  rcases v3 h6 h14 (e1.trans e2.symm) with q | ⟨off, q⟩
  · exact q
  · rcases get_is' l (l.getD k default).ID h with ⟨p, k1, k2, k3, k4⟩ | ⟨k1, _⟩
    · obtain rfl := uniq h k1 hk k2
      rw [q, e1, mv_at l _ off p k4, if_pos (.inl c)]; decide
    · exact absurd rfl (k1 k hk)

theorem stays_loop (l : List Me) (h : Inv l) (m : lombardref10_Msg) : ∀ (j i : Nat), l.length = i + j → loop (lombardlaw30_AuthStays.r0 m (listOf l, l, true)) ((i : Int), true, l.map bk) = some (.inr (true, l.map bk))
  | 0, i, e => loop_end (by unfold lombardlaw30_AuthStays.r0 lombardlaw30_AuthStays.b0; rw [if_neg (by simp; omega)])
  | j + 1, i, e => by
    have few := h.few
    have hi : i < l.length := by omega
    have g : (0 : Int) ≤ (i : Int) ∧ (i : Int) < (l.length : Int) := by omega
    have ap : loop (lombardlaw30_AuthStays.r1 (listOf l, l, true) (i : Int)) 0 = some (.inr ()) := apart_loop l h i hi i 0 (by omega)
    have lo : (⟨l.map bk, true⟩ : auth_List) = listOf l := rfl
    have st : lombardlaw30_AuthStays.r0 m (listOf l, l, true) ((i : Int), true, l.map bk) = some (.inl (((i + 1 : Nat) : Int), true, l.map bk)) := by
      unfold lombardlaw30_AuthStays.r0 lombardlaw30_AuthStays.b0
      simp only [nth_me]
      rw [if_pos (decide_eq_true g.2), ap, Option.bind_some]
      dsimp only
      rw [if_pos g, i64_nx i (by omega)]
      by_cases c : (l.getD i default).State = 3
      · rw [if_neg (by simpa using c), if_pos g, if_pos g, lo]
        generalize hB : (((m.Kind == 6) || (m.Kind == 7)) || ((decide (m.Kind ≥ 8)) && (decide (m.Kind ≤ 14)))) = B
        have fin : ∀ t287 : Int, (B = true → t287 ≠ 0) → (B && (t287 == 0)) = false := fun t q => by
          cases B with
          | false => rfl
          | true => rw [Bool.true_and, beq_eq_false_iff_ne]; exact q rfl
        have two : ∃ t285 t287, ((if B = true then lombardlaw10_Of.f (⟨m.Kind, (l.getD i default).ID, m.Name, m.Asset, m.Basket, m.Prices, m.Day, m.Text, m.N, (⟨m.Quote.ID, (l.getD i default).ID, m.Quote.Side, m.Quote.Basket, m.Quote.Amount, m.Quote.Rate, m.Quote.Start, m.Quote.End⟩ : api_Quote), m.Out, m.In, m.Trade, m.Done, m.Rate⟩ : lombardref10_Msg) else some default) = some t285) ∧
            ((if B = true then auth_List_May.f (listOf l) t285 else some default) = some t287) ∧ (B = true → t287 ≠ 0) := by
          cases B with
          | false => exact ⟨_, _, rfl, rfl, fun q => by cases q⟩
          | true =>
            have hk : 6 ≤ m.Kind ∧ m.Kind ≤ 14 := by
              simp only [Bool.or_eq_true, Bool.and_eq_true, beq_iff_eq, decide_eq_true_eq] at hB
              omega
            obtain ⟨x, v, o, v1, v2⟩ := three_may l h i hi c (⟨m.Kind, (l.getD i default).ID, m.Name, m.Asset, m.Basket, m.Prices, m.Day, m.Text, m.N, (⟨m.Quote.ID, (l.getD i default).ID, m.Quote.Side, m.Quote.Basket, m.Quote.Amount, m.Quote.Rate, m.Quote.Start, m.Quote.End⟩ : api_Quote), m.Out, m.In, m.Trade, m.Done, m.Rate⟩ : lombardref10_Msg) hk.1 hk.2 rfl rfl
            exact ⟨x, v, by rw [if_pos rfl]; exact o, by rw [if_pos rfl]; exact v1, fun _ => v2⟩
        obtain ⟨t285, t287, w1, w2, w3⟩ := two
        rw [w1, Option.bind_some, w2, Option.bind_some, fin t287 w3, if_pos (fun _ => g), if_pos rfl, three_able l h i hi c, Option.bind_some, Bool.or_self, if_pos (fun _ => g), if_pos rfl, three_call l h i hi c, Option.bind_some]
        dsimp only
        rw [bne_self_eq_false, Bool.or_self, if_pos (fun _ => g), if_pos rfl, three_default l h i hi c, Option.bind_some]
        rfl
      · rw [if_pos (by simpa using c)]
    rw [loop_next st]
    exact stays_loop l h m j (i + 1) (by omega)

theorem Pure.AuthStays : ∀ (x0 : List lombardlaw30_Act) (x1 : lombardref10_Msg), (x0.length * 48 ≤ reach ∧ ∀ y ∈ x0, lombardlaw30_Act.bd y) → (lombardref10_Msg.bd x1) → lombardlaw30_AuthStays.f x0 x1 = some true := by
  intro acts m _ _
  obtain ⟨l, h, e⟩ := filled_is acts
  have few := h.few
  obtain ⟨t, t1⟩ : ∃ t, lombardref10_Small.f m = some t := ⟨_, rfl⟩
  unfold lombardlaw30_AuthStays.f
  rw [e, Option.bind_some]
  dsimp only
  rw [if_pos (by decide), t1, Option.bind_some]
  cases t with
  | false => rw [if_pos (by decide), if_pos rfl, awake_is]; rfl
  | true =>
    have lp : loop (lombardlaw30_AuthStays.r0 m (listOf l, l, true)) (0, (listOf l).made, (listOf l).l) = _ := stays_loop l h m l.length 0 (by omega)
    have al : auth_List_All.f (⟨l.map bk, true⟩ : auth_List) = some (l.map bk) := all_is l (by omega)
    rw [if_neg (by decide), lp, Option.bind_some]
    dsimp only
    rw [al, Option.bind_some, told_is l (by omega), Option.bind_some, mems_same l (by omega), Option.bind_some, if_pos rfl, awake_is]
    rfl
end Go.Proofs.YtjdkibnhlmgppaaGreat

