/- The plain statement of AuthTells: every member by its number, and by its name. -/
import Derived.Test.YtjdkibnhlmgppaaGreatPuFill30
import Derived.Test.YtjdkibnhlmgppaaGreatGx4
namespace Go.Proofs.YtjdkibnhlmgppaaGreat
open Go Go.Pm Go.Pm.Arith
set_option linter.unusedVariables false
set_option linter.unusedSimpArgs false

theorem first_step (l : List Me) (s : Bs) (few : l.length ≤ 100) (hn : ∀ k, k < l.length → (nam l k).length ≤ 160) (fs : s.length ≤ 100000) (i : Nat) (hi : i < l.length) :
    auth_first_auth_Member__auth_List_Find_1.r0 (l.map bk) s (i : Int) = if fold (nam l i) = fold s then some (.inr (.inl (bk (l.getD i default), true))) else some (.inl ((i + 1 : Nat) : Int)) := by
  have fi := hn i hi
  have sm : name_Same.f (bk (l.getD i default)).Name s = some (fold (nam l i) == fold s) := same_is _ _ (by show (nam l i).length ≤ _; omega) fs
  unfold auth_first_auth_Member__auth_List_Find_1.r0 auth_first_auth_Member__auth_List_Find_1.b0 auth_List_Find_1_v2.f
  rw [if_pos (by simp; omega), if_pos (by simp; omega), nth_bk, i64_nx i (by omega), sm, Option.bind_some, Option.bind_some]
  by_cases c : fold (nam l i) = fold s
  · rw [if_pos (by simpa using c), if_pos c]
  · rw [if_neg (by simpa using c), if_neg c]
theorem first_hit (l : List Me) (s : Bs) (few : l.length ≤ 100) (hn : ∀ k, k < l.length → (nam l k).length ≤ 160) (fs : s.length ≤ 100000) (k : Nat) (hk : k < l.length) (e : fold (nam l k) = fold s) (no : ∀ m, m < k → fold (nam l m) ≠ fold s) :
    ∀ (j i : Nat), i + j = k → loop (auth_first_auth_Member__auth_List_Find_1.r0 (l.map bk) s) (i : Int) = some (.inl (bk (l.getD k default), true))
  | 0, i, h => by
    obtain rfl : i = k := by omega
    refine loop_end ?_
    rw [first_step l s few hn fs i hk, if_pos e]
  | j + 1, i, h => by
    have st := first_step l s few hn fs i (by omega)
    rw [if_neg (no i (by omega))] at st
    rw [loop_next st]
    exact first_hit l s few hn fs k hk e no j (i + 1) (by omega)
theorem first_miss (l : List Me) (s : Bs) (few : l.length ≤ 100) (hn : ∀ k, k < l.length → (nam l k).length ≤ 160) (fs : s.length ≤ 100000) (no : ∀ m, m < l.length → fold (nam l m) ≠ fold s) :
    ∀ (j i : Nat), l.length = i + j → loop (auth_first_auth_Member__auth_List_Find_1.r0 (l.map bk) s) (i : Int) = some (.inr ())
  | 0, i, h => loop_end (by unfold auth_first_auth_Member__auth_List_Find_1.r0 auth_first_auth_Member__auth_List_Find_1.b0; rw [if_neg (by simp; omega)])
  | j + 1, i, h => by
    have st := first_step l s few hn fs i (by omega)
    rw [if_neg (no i (by omega))] at st
    rw [loop_next st]
    exact first_miss l s few hn fs no j (i + 1) (by omega)

/-- Both tell the first of a name. -/
theorem byname (l : List Me) (s : Bs) (h : Inv l) (fs : s.length ≤ 600) :
    (∃ k : Nat, k < l.length ∧ lombardref30_Named.f l s = some (k : Int) ∧ auth_List_Find.f (listOf l) s = some (bk (l.getD k default), true)) ∨
    (lombardref30_Named.f l s = some (-1) ∧ auth_List_Find.f (listOf l) s = some ((⟨0, [], 0, 0, false⟩ : auth_Member), false)) := by
  have few := h.few
  unfold auth_List_Find.f auth_first_auth_Member__auth_List_Find_1.f
  rcases named l s (by omega) h.names (by omega) with ⟨k, n1, n2, n3, n4, n5⟩ | ⟨n1, n2, n3⟩
  · have e : loop (auth_first_auth_Member__auth_List_Find_1.r0 (listOf l).l s) 0 = _ := first_hit l s (by omega) h.names (by omega) k n1 n2 n3 k 0 (by omega)
    exact .inl ⟨k, n1, n4, by rw [e]; rfl⟩
  · have e : loop (auth_first_auth_Member__auth_List_Find_1.r0 (listOf l).l s) 0 = _ := first_miss l s (by omega) h.names (by omega) n1 l.length 0 (by omega)
    exact .inr ⟨n2, by rw [e]; rfl⟩

theorem told1 (x : Me) : lombardlaw30_Told.f [bk x] = some [x] := told_is [x] (by simp)

theorem able_is (l : List Me) (d : Int) (k : Nat) (e : auth_List_Get.f (listOf l) d = some (bk (l.getD k default), true)) : auth_List_Able.f (listOf l) d = some ((l.getD k default).State != 3) := by
  unfold auth_List_Able.f; rw [e, Option.bind_some]; rfl
theorem able_no (l : List Me) (d : Int) (e : auth_List_Get.f (listOf l) d = some ((⟨0, [], 0, 0, false⟩ : auth_Member), false)) : auth_List_Able.f (listOf l) d = some false := by
  unfold auth_List_Able.f; rw [e, Option.bind_some]; rfl

theorem Pure.AuthTells : ∀ (x0 : List lombardlaw30_Act) (x1 : Int) (x2 : Bs), (x0.length * 48 ≤ reach ∧ ∀ y ∈ x0, lombardlaw30_Act.bd y) → (inK .i64 x1) → (x2.length ≤ reach) → lombardlaw30_AuthTells.f x0 x1 x2 = some true := by
  intro acts id s _ _ _
  obtain ⟨l, h, e⟩ := filled_is acts
  unfold lombardlaw30_AuthTells.f
  rw [e, Option.bind_some]
  dsimp only
  by_cases c : s.length ≤ 600
  · rw [if_neg (by simp; omega)]
    have nk : ∀ k : Nat, decide ((k : Int) ≥ 0) = true := fun k => decide_eq_true (by omega)
    have nm : decide ((-1 : Int) ≥ 0) = false := by decide
    have n0 : ∀ x : Me, nth [x] 0 = x := fun _ => rfl
    rcases get_is' l id h with ⟨k, k1, k2, k3, k4⟩ | ⟨k1, k3, k4⟩ <;> rcases byname l s h c with ⟨q, q1, q2, q3⟩ | ⟨q2, q3⟩
    · have gk : (0 : Int) ≤ (k : Int) ∧ (k : Int) < (l.length : Int) := by omega
      have gq : (0 : Int) ≤ (q : Int) ∧ (q : Int) < (l.length : Int) := by omega
      rw [k3, Option.bind_some, k4, Option.bind_some, q3, Option.bind_some, q2, Option.bind_some]
      simp only [nk, beq_self_eq_true, Bool.not_true, Bool.or_self, and_self, if_true, told1, Option.bind_some, n0, nth_me, Bool.and_self, Bool.and_false, Bool.or_false, List.length_singleton, gk, gq, able_is l id k k3, Bool.true_and, awake_is, implies_true, if_false, Bool.false_eq_true]
      simp [n0]
    · have gk : (0 : Int) ≤ (k : Int) ∧ (k : Int) < (l.length : Int) := by omega
      rw [k3, Option.bind_some, k4, Option.bind_some, q3, Option.bind_some, q2, Option.bind_some]
      simp only [nk, nm, beq_self_eq_true, Bool.not_true, Bool.or_self, and_self, if_true, told1, Option.bind_some, n0, nth_me, Bool.and_self, Bool.and_false, Bool.or_false, List.length_singleton, gk, able_is l id k k3, Bool.true_and, Bool.false_and, awake_is, implies_true, if_false, Bool.false_eq_true, and_false, false_implies]
      simp [n0]
    · have gq : (0 : Int) ≤ (q : Int) ∧ (q : Int) < (l.length : Int) := by omega
      rw [k3, Option.bind_some, k4, Option.bind_some, q3, Option.bind_some, q2, Option.bind_some]
      simp only [nk, nm, beq_self_eq_true, Bool.not_true, Bool.or_self, and_self, if_true, told1, Option.bind_some, n0, nth_me, Bool.and_self, Bool.and_false, Bool.or_false, List.length_singleton, gq, able_no l id k3, Bool.true_and, Bool.false_and, awake_is, implies_true, if_false, Bool.false_eq_true, and_false, false_implies]
      simp [n0]
    · rw [k3, Option.bind_some, k4, Option.bind_some, q3, Option.bind_some, q2, Option.bind_some]
      simp only [nk, nm, beq_self_eq_true, Bool.not_true, Bool.or_self, and_self, if_true, told1, Option.bind_some, n0, nth_me, Bool.and_self, Bool.and_false, Bool.or_false, List.length_singleton, able_no l id k3, Bool.true_and, Bool.false_and, awake_is, implies_true, if_false, Bool.false_eq_true, and_false, false_implies]
  · rw [if_pos (by simp; omega), if_pos rfl, awake_is]
    rfl
end Go.Proofs.YtjdkibnhlmgppaaGreat

