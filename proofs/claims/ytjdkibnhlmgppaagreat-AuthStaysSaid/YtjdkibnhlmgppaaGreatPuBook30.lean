/- Shows, in plain lists, where a member is, and that joining, and changing, are what the document does. -/
import Derived.Test.YtjdkibnhlmgppaaGreatPuFold30
import Derived.Test.YtjdkibnhlmgppaaGreatGx3
import Derived.Test.YtjdkibnhlmgppaaGreatGx3
import Derived.Test.YtjdkibnhlmgppaaGreatGx3
import Derived.Test.YtjdkibnhlmgppaaGreatGx1
namespace Go.Proofs.YtjdkibnhlmgppaaGreat
open Go Go.Pm Go.Pm.Arith
set_option linter.unusedVariables false
set_option linter.unusedSimpArgs false

/-! ### a list of members -/
abbrev Me := lombardref30_Member
def bk (m : Me) : auth_Member := ⟨m.ID, m.Name, m.State, m.Bound, m.Late⟩
/-- The number at a place. -/
def num (l : List Me) (i : Nat) : Int := (l.getD i default).ID
def nam (l : List Me) (i : Nat) : Bs := (l.getD i default).Name
def listOf (l : List Me) : auth_List := ⟨l.map bk, true⟩

theorem nth_me (l : List Me) (n : Nat) : nth l (n : Int) = l.getD n default := rfl
theorem nth_bk (l : List Me) (n : Nat) : nth (l.map bk) (n : Int) = bk (l.getD n default) := by
  show (l.map bk).getD n default = _
  rw [List.getD_eq_getElem?_getD, List.getElem?_map, List.getD_eq_getElem?_getD]
  cases l[n]? <;> rfl

/-- By rising numbers. -/
def Rise (l : List Me) : Prop := ∀ i j, i < j → j < l.length → num l i < num l j

theorem cmp_is (x y : Int) : ∃ v : Int, (v < 0 ↔ x < y) ∧ (v = 0 ↔ x = y) ∧ cmp_Compare_int.f x y = some v := by
  unfold cmp_Compare_int.f cmp_isNaN_int.f
  have e : ∀ z : Int, (z != z) = false := fun z => by simp
  rw [e, e]
  simp only [Option.bind_some, Bool.false_eq_true, if_false]
  by_cases h : x < y
  · exact ⟨-1, ⟨fun _ => h, fun _ => by decide⟩, ⟨fun e => (by cases e), fun e => (by omega)⟩, by rw [if_pos (decide_eq_true h)]⟩
  · rw [if_neg (by simpa using h)]
    by_cases e : x = y
    · exact ⟨0, ⟨fun q => absurd q (by decide), fun q => absurd q h⟩, ⟨fun _ => e, fun _ => rfl⟩, by rw [if_neg (by simp; omega)]⟩
    · exact ⟨1, ⟨fun q => absurd q (by decide), fun q => absurd q h⟩, ⟨fun q => absurd q (by decide), fun q => absurd q e⟩, by rw [if_pos (by simp; omega)]⟩

theorem u64_idz (n : Int) (h₀ : 0 ≤ n) (h₁ : n < 18446744073709551616) : IntKind.u64.wrap n = n := by
  rw [IntKind.wrap_u64]; omega
theorem shrB (u : Int) : shrI .u64 u 1 = u / 2 := by
  show u.fdiv 2 = _; exact Int.fdiv_eq_ediv_of_nonneg _ (by decide)
theorem half_is (x y : Nat) (hx : x ≤ 1000) (hy : y ≤ 1000) : IntKind.i64.wrap (shrI .u64 (IntKind.wrap .u64 (IntKind.wrap .i64 ((x : Int) + (y : Int)))) 1) = (((x + y) / 2 : Nat) : Int) := by
  rw [i64_idz ((x : Int) + y) (by omega) (by omega), u64_idz _ (by omega) (by omega), shrB, i64_idz _ (by omega) (by omega)]; omega

theorem search_loop (l : List Me) (d : Int) (h : Rise l) (few : l.length ≤ 100) : ∀ (n lo hi : Nat), hi ≤ lo + n → lo ≤ hi → hi ≤ l.length → (∀ k, k < lo → num l k < d) → (∀ k, hi ≤ k → k < l.length → ¬ num l k < d) →
    ∃ i : Nat, i ≤ l.length ∧ (∀ k, k < i → num l k < d) ∧ (∀ k, i ≤ k → k < l.length → ¬ num l k < d) ∧ loop (slices_BinarySearchFunc_int__auth_List_place_1.r0 (l.map bk) d) ((lo : Int), (hi : Int)) = some (i : Int)
  | n, lo, hi, hn, hle, hlen, hb, ha => by
    by_cases c : lo < hi
    · obtain ⟨n, rfl⟩ : ∃ m, n = m + 1 := ⟨n - 1, by omega⟩
      have hh := half_is lo hi (by omega) (by omega)
      have w := i64_nx ((lo + hi) / 2) (by omega)
      have key : slices_BinarySearchFunc_int__auth_List_place_1.r0 (l.map bk) d ((lo : Int), (hi : Int)) = if num l ((lo + hi) / 2) < d then some (.inl ((((lo + hi) / 2 + 1 : Nat) : Int), (hi : Int))) else some (.inl ((lo : Int), (((lo + hi) / 2 : Nat) : Int))) := by
        unfold slices_BinarySearchFunc_int__auth_List_place_1.r0 slices_BinarySearchFunc_int__auth_List_place_1.b0 auth_List_place_1_v2.f
        simp only
        obtain ⟨v, v1, v2, v3⟩ := cmp_is (num l ((lo + hi) / 2)) d
        have v3' : cmp_Compare_int.f (bk (l.getD ((lo + hi) / 2) default)).ID d = some v := v3
        rw [if_pos (decide_eq_true (by omega)), hh, if_pos (by rw [List.length_map]; omega), nth_bk, v3', Option.bind_some, Option.bind_some, w]
        by_cases c1 : num l ((lo + hi) / 2) < d
        · rw [if_pos c1, if_pos (decide_eq_true (v1.2 c1))]
        · rw [if_neg c1, if_neg (fun h => c1 (v1.1 (of_decide_eq_true h)))]
      by_cases c1 : num l ((lo + hi) / 2) < d
      · rw [if_pos c1] at key
        obtain ⟨i, i1, i2, i3, i4⟩ := search_loop l d h few n ((lo + hi) / 2 + 1) hi (by omega) (by omega) hlen (fun k hk => by
          by_cases e : k = (lo + hi) / 2
          · subst e; exact c1
          · have := h k ((lo + hi) / 2) (by omega) (by omega); omega) ha
        exact ⟨i, i1, i2, i3, by rw [loop_next key, i4]⟩
      · rw [if_neg c1] at key
        obtain ⟨i, i1, i2, i3, i4⟩ := search_loop l d h few n lo ((lo + hi) / 2) (by omega) (by omega) (by omega) hb (fun k hk hk2 => by
          by_cases e : k = (lo + hi) / 2
          · subst e; exact c1
          · have := h ((lo + hi) / 2) k (by omega) hk2; omega)
        exact ⟨i, i1, i2, i3, by rw [loop_next key, i4]⟩
    · obtain rfl : lo = hi := by omega
      refine ⟨lo, hlen, hb, ha, loop_end ?_⟩
      unfold slices_BinarySearchFunc_int__auth_List_place_1.r0 slices_BinarySearchFunc_int__auth_List_place_1.b0
      simp only
      rw [if_neg (by simp)]

theorem find_loop (l : List Me) (d : Int) (few : l.length ≤ 100) : ∀ (j i : Nat), l.length = i + j → (∀ k, k < i → num l k ≠ d) →
    (∃ k : Nat, k < l.length ∧ num l k = d ∧ (∀ m, m < k → num l m ≠ d) ∧ loop (lombardref30_Find.r0 l d) (i : Int) = some (.inl (k : Int))) ∨
    ((∀ k, k < l.length → num l k ≠ d) ∧ loop (lombardref30_Find.r0 l d) (i : Int) = some (.inr ()))
  | 0, i, h, hn => by
    right
    refine ⟨fun k hk => hn k (by omega), loop_end ?_⟩
    unfold lombardref30_Find.r0 lombardref30_Find.b0
    rw [if_neg (by simp; omega)]
  | j + 1, i, h, hn => by
    have key : lombardref30_Find.r0 l d (i : Int) = if num l i = d then some (.inr (.inl (i : Int))) else some (.inl ((i + 1 : Nat) : Int)) := by
      unfold lombardref30_Find.r0 lombardref30_Find.b0
      rw [if_pos (decide_eq_true (by omega)), if_pos (by omega), nth_me, i64_nx i (by omega)]
      show (if (num l i == d) = true then _ else _) = _
      by_cases c : num l i = d
      · rw [if_pos (by simpa using c), if_pos c]
      · rw [if_neg (by simpa using c), if_neg c]
    by_cases c : num l i = d
    · rw [if_pos c] at key
      exact .inl ⟨i, by omega, c, hn, loop_end key⟩
    · rw [if_neg c] at key
      rw [loop_next key]
      exact find_loop l d few j (i + 1) (by omega) (fun k hk => by
        by_cases e : k = i
        · subst e; exact c
        · exact hn k (by omega))

/-- Both find a number, or neither does; and where it would be. -/
theorem found (l : List Me) (d : Int) (h : Rise l) (few : l.length ≤ 100) :
    (∃ k : Nat, k < l.length ∧ num l k = d ∧ auth_List_place.f (listOf l) d = some ((k : Int), true) ∧ lombardref30_Find.f l d = some (k : Int)) ∨
    ((∀ k, k < l.length → num l k ≠ d) ∧ (∃ i : Nat, i ≤ l.length ∧ (∀ k, k < i → num l k < d) ∧ (∀ k, i ≤ k → k < l.length → d < num l k) ∧ auth_List_place.f (listOf l) d = some ((i : Int), false)) ∧ lombardref30_Find.f l d = some (-1)) := by
  obtain ⟨i, i1, i2, i3, i4⟩ := search_loop l d h few l.length 0 l.length (by omega) (by omega) (Nat.le_refl _) (fun k hk => by omega) (fun k hk hk2 => by omega)
  have i4' : loop (slices_BinarySearchFunc_int__auth_List_place_1.r0 (l.map bk) d) (0, (l.length : Int)) = some (i : Int) := i4
  have B : ∃ b : Bool, (b = true ↔ i < l.length ∧ num l i = d) ∧ auth_List_place.f (listOf l) d = some ((i : Int), b) := by
    unfold auth_List_place.f slices_BinarySearchFunc_int__auth_List_place_1.f listOf
    simp only [List.length_map]
    rw [i4', Option.bind_some, if_pos (fun h => by have := of_decide_eq_true h; omega)]
    by_cases c : i < l.length
    · obtain ⟨v, v1, v2, v3⟩ := cmp_is (num l i) d
      have v3' : cmp_Compare_int.f (bk (l.getD i default)).ID d = some v := v3
      unfold auth_List_place_1_v2.f
      rw [if_pos (decide_eq_true (by omega)), nth_bk, v3', Option.bind_some, Option.bind_some, Option.bind_some]
      refine ⟨_, ?_, rfl⟩
      simp only [Bool.and_eq_true, decide_eq_true_eq, beq_iff_eq, v2]
      exact ⟨fun h => ⟨by omega, h.2⟩, fun h => ⟨by omega, h.2⟩⟩
    · rw [if_neg (by simp; omega), Option.bind_some, Option.bind_some]
      refine ⟨_, ?_, rfl⟩
      simp; omega
  obtain ⟨b, hb, hB⟩ := B
  rcases find_loop l d few l.length 0 (by omega) (fun k hk => by omega) with ⟨k, k1, k2, k3, k4⟩ | ⟨k1, k2⟩
  · left
    have e : k = i := by
      rcases Nat.lt_trichotomy k i with c | c | c
      · have := i2 k c; omega
      · exact c
      · have q := h i k c k1
        have := i3 i (Nat.le_refl _) (by omega)
        omega
    subst e
    have k4' : loop (lombardref30_Find.r0 l d) 0 = some (.inl (k : Int)) := k4
    refine ⟨k, k1, k2, by rw [hB, hb.2 ⟨k1, k2⟩], ?_⟩
    unfold lombardref30_Find.f
    rw [k4']; rfl
  · right
    have k2' : loop (lombardref30_Find.r0 l d) 0 = some (.inr ()) := k2
    refine ⟨k1, ⟨i, i1, i2, fun k hk hk2 => ?_, ?_⟩, ?_⟩
    · have := k1 k hk2; have := i3 k hk hk2; omega
    · cases b with
      | false => exact hB
      | true => obtain ⟨g1, g2⟩ := hb.1 rfl; exact absurd g2 (k1 i g1)
    · unfold lombardref30_Find.f
      rw [k2']; rfl

/-! ### names -/
/-- The first of a name. -/
theorem named_loop (l : List Me) (s : Bs) (few : l.length ≤ 100) (hn : ∀ k, k < l.length → (nam l k).length ≤ 160) (fs : s.length ≤ 100000) : ∀ (j i : Nat), l.length = i + j → (∀ k, k < i → fold (nam l k) ≠ fold s) →
    (∃ k : Nat, k < l.length ∧ fold (nam l k) = fold s ∧ (∀ m, m < k → fold (nam l m) ≠ fold s) ∧ loop (lombardref30_Named.r0 l s) (i : Int) = some (.inl (k : Int)) ∧ loop (slices_IndexFunc_auth_Member__auth_List_Join_1.r0 (l.map bk) s) (i : Int) = some (.inl (k : Int))) ∨
    ((∀ k, k < l.length → fold (nam l k) ≠ fold s) ∧ loop (lombardref30_Named.r0 l s) (i : Int) = some (.inr ()) ∧ loop (slices_IndexFunc_auth_Member__auth_List_Join_1.r0 (l.map bk) s) (i : Int) = some (.inr ()))
  | 0, i, h, hh => by
    right
    refine ⟨fun k hk => hh k (by omega), loop_end ?_, loop_end ?_⟩
    · unfold lombardref30_Named.r0 lombardref30_Named.b0
      rw [if_neg (by simp; omega)]
    · unfold slices_IndexFunc_auth_Member__auth_List_Join_1.r0 slices_IndexFunc_auth_Member__auth_List_Join_1.b0
      rw [if_neg (by simp; omega)]
  | j + 1, i, h, hh => by
    have fi := hn i (by omega)
    have f1 : lombardref04_Fold.f (l.getD i default).Name = some (fold (nam l i)) := (fold_both _ (by unfold nam at fi; omega)).2
    have k1 : lombardref30_Named.r0 l s (i : Int) = if fold (nam l i) = fold s then some (.inr (.inl (i : Int))) else some (.inl ((i + 1 : Nat) : Int)) := by
      unfold lombardref30_Named.r0 lombardref30_Named.b0
      rw [if_pos (decide_eq_true (by omega)), if_pos (by omega), nth_me, i64_nx i (by omega), f1, Option.bind_some, (fold_both s fs).2, Option.bind_some]
      by_cases c : fold (nam l i) = fold s
      · rw [if_pos (by simpa using c), if_pos c]
      · rw [if_neg (by simpa using c), if_neg c]
    have k2 : slices_IndexFunc_auth_Member__auth_List_Join_1.r0 (l.map bk) s (i : Int) = if fold (nam l i) = fold s then some (.inr (.inl (i : Int))) else some (.inl ((i + 1 : Nat) : Int)) := by
      unfold slices_IndexFunc_auth_Member__auth_List_Join_1.r0 slices_IndexFunc_auth_Member__auth_List_Join_1.b0 auth_List_Join_1_v2.f
      have sm : name_Same.f (bk (l.getD i default)).Name s = some (fold (nam l i) == fold s) := same_is _ _ (by show (nam l i).length ≤ _; omega) fs
      rw [if_pos (by simp; omega), if_pos (by simp; omega), nth_bk, i64_nx i (by omega), sm, Option.bind_some, Option.bind_some]
      by_cases c : fold (nam l i) = fold s
      · rw [if_pos (by simpa using c), if_pos c]
      · rw [if_neg (by simpa using c), if_neg c]
    by_cases c : fold (nam l i) = fold s
    · rw [if_pos c] at k1 k2
      exact .inl ⟨i, by omega, c, hh, loop_end k1, loop_end k2⟩
    · rw [if_neg c] at k1 k2
      rw [loop_next k1, loop_next k2]
      exact named_loop l s few hn fs j (i + 1) (by omega) (fun k hk => by
        by_cases e : k = i
        · subst e; exact c
        · exact hh k (by omega))

theorem named (l : List Me) (s : Bs) (few : l.length ≤ 100) (hn : ∀ k, k < l.length → (nam l k).length ≤ 160) (fs : s.length ≤ 100000) :
    (∃ k : Nat, k < l.length ∧ fold (nam l k) = fold s ∧ (∀ m, m < k → fold (nam l m) ≠ fold s) ∧ lombardref30_Named.f l s = some (k : Int) ∧ slices_ContainsFunc_auth_Member__auth_List_Join_1.f (l.map bk) s = some true) ∨
    ((∀ k, k < l.length → fold (nam l k) ≠ fold s) ∧ lombardref30_Named.f l s = some (-1) ∧ slices_ContainsFunc_auth_Member__auth_List_Join_1.f (l.map bk) s = some false) := by
  unfold lombardref30_Named.f slices_ContainsFunc_auth_Member__auth_List_Join_1.f slices_IndexFunc_auth_Member__auth_List_Join_1.f
  rcases named_loop l s few hn fs l.length 0 (by omega) (fun k hk => by omega) with ⟨k, k1, k2, k3, k4, k5⟩ | ⟨k1, k2, k3⟩
  · left
    have k4' : loop (lombardref30_Named.r0 l s) 0 = _ := k4
    have k5' : loop (slices_IndexFunc_auth_Member__auth_List_Join_1.r0 (l.map bk) s) 0 = _ := k5
    refine ⟨k, k1, k2, k3, by rw [k4']; rfl, ?_⟩
    rw [k5']
    show some (decide ((k : Int) ≥ 0)) = _
    rw [decide_eq_true (by omega)]
  · right
    have k2' : loop (lombardref30_Named.r0 l s) 0 = _ := k2
    have k3' : loop (slices_IndexFunc_auth_Member__auth_List_Join_1.r0 (l.map bk) s) 0 = _ := k3
    exact ⟨k1, by rw [k2']; rfl, by rw [k3']; rfl⟩

/-! ### joining -/
/-- What is wrong with a member that would join. -/
noncomputable def chkJ (id : Int) (s : Bs) : Int := (msg_Check.f (.cmsg_Join ⟨id, s⟩)).getD 0
theorem join_check (id : Int) (s : Bs) : msg_Check.f (.cmsg_Join ⟨id, s⟩) = some (chkJ id s) ∧
    lombardref10_Check.f (⟨1, id, s, (⟨[], 0, 0, 0, []⟩ : api_Asset), (⟨0, 0, [], 0, 0, 0, [], 0, 0, []⟩ : api_Basket), [], 0, [], 0, (⟨0, 0, 0, 0, 0, 0, 0, 0⟩ : api_Quote), (⟨[], 0⟩ : api_Lot), [], 0, false, 0⟩ : lombardref10_Msg) = some (chkJ id s) ∧
    (chkJ id s = 0 → (1 ≤ id ∧ id ≤ 32) ∧ s.length ≤ 160) := by
  obtain ⟨r, r1, r2⟩ := name_is s
  have e1 : msg_Check.f (.cmsg_Join ⟨id, s⟩) = (name_Check.f s).bind fun t2 => if (decide (id ≥ 1) && decide (id ≤ 32)) = true then some t2.2 else some 1 := rfl
  have e2 : lombardref10_Check.f (⟨1, id, s, (⟨[], 0, 0, 0, []⟩ : api_Asset), (⟨0, 0, [], 0, 0, 0, [], 0, 0, []⟩ : api_Basket), [], 0, [], 0, (⟨0, 0, 0, 0, 0, 0, 0, 0⟩ : api_Quote), (⟨[], 0⟩ : api_Lot), [], 0, false, 0⟩ : lombardref10_Msg) =
    if (!(decide (id ≥ 1) && decide (id ≤ 32))) = true then some 1 else ((lombardref04_Check.f s).bind fun t2 => some t2.2).bind fun t30 => some t30 := rfl
  have e3 : chkJ id s = if (decide (id ≥ 1) && decide (id ≤ 32)) = true then r.2 else 1 := by
    unfold chkJ
    rw [e1, r1, Option.bind_some]
    split <;> rfl
  rw [e1, e2, e3, r1, r2]
  refine ⟨?_, ?_, ?_⟩
  · rw [Option.bind_some]; split <;> rfl
  · cases (decide (id ≥ 1) && decide (id ≤ 32)) <;> rfl
  · intro hz
    split at hz
    · rename_i c
      rw [Bool.and_eq_true, decide_eq_true_eq, decide_eq_true_eq] at c
      refine ⟨c, ?_⟩
      by_cases q : s.length ≤ 160
      · exact q
      · unfold name_Check.f at r1
        rw [if_pos (decide_eq_true (by omega))] at r1
        cases r1
        cases hz
    · cases hz

structure Inv (l : List Me) : Prop where
  rise : Rise l
  ids : ∀ k, k < l.length → 1 ≤ num l k ∧ num l k ≤ 32
  names : ∀ k, k < l.length → (nam l k).length ≤ 160
  one : ∀ i j, i < j → j < l.length → fold (nam l i) ≠ fold (nam l j)

theorem Inv.few {l : List Me} (h : Inv l) : l.length ≤ 32 := by
  have g : ∀ k, k < l.length → (k : Int) + 1 ≤ num l k := by
    intro k
    induction k with
    | zero => intro hk; have := h.ids 0 hk; omega
    | succ k ih => intro hk; have := ih (by omega); have := h.rise k (k + 1) (by omega) hk; omega
  cases e : l.length with
  | zero => omega
  | succ n => have := g n (by omega); have := h.ids n (by omega); omega

theorem inv_nil : Inv [] := ⟨fun i j _ h => (by simp at h), fun k h => (by simp at h), fun k h => (by simp at h), fun i j _ h => (by simp at h)⟩

theorem ins_at (l : List Me) (i : Nat) (a : Me) (hi : i ≤ l.length) (k : Nat) : (l.take i ++ [a] ++ l.drop i).getD k default = if k < i then l.getD k default else if k = i then a else l.getD (k - 1) default := by
  have t : (l.take i).length = i := by rw [List.length_take]; omega
  rw [List.append_assoc]
  split
  · rename_i c
    rw [List.getD_eq_getElem?_getD, List.getElem?_append_left (by omega), List.getElem?_take, if_pos c, ← List.getD_eq_getElem?_getD]
  · rename_i c
    rw [List.getD_eq_getElem?_getD, List.getElem?_append_right (by omega), t]
    split
    · rename_i e; rw [e, Nat.sub_self]; rfl
    · rename_i e
      obtain ⟨q, rfl⟩ : ∃ q, k = i + q + 1 := ⟨k - i - 1, by omega⟩
      rw [show i + q + 1 - i = q + 1 by omega]
      simp only [List.singleton_append, List.getElem?_cons_succ, List.getElem?_drop]
      rw [show i + q + 1 - 1 = i + q by omega, List.getD_eq_getElem?_getD]
theorem ins_len (l : List Me) (i : Nat) (a : Me) (hi : i ≤ l.length) : (l.take i ++ [a] ++ l.drop i).length = l.length + 1 := by simp only [List.length_append, List.length_take, List.length_drop, List.length_singleton]; omega

theorem inv_ins (l : List Me) (a : Me) (i : Nat) (h : Inv l) (hi : i ≤ l.length) (lo : ∀ k, k < i → num l k < a.ID) (up : ∀ k, i ≤ k → k < l.length → a.ID < num l k)
    (h1 : 1 ≤ a.ID ∧ a.ID ≤ 32) (h2 : a.Name.length ≤ 160) (h3 : ∀ k, k < l.length → fold (nam l k) ≠ fold a.Name) : Inv (l.take i ++ [a] ++ l.drop i) := by
  have len := ins_len l i a hi
  have en : ∀ k, num (l.take i ++ [a] ++ l.drop i) k = if k < i then num l k else if k = i then a.ID else num l (k - 1) := fun k => by
    unfold num; rw [ins_at l i a hi]; split
    · rfl
    · split <;> rfl
  have em : ∀ k, nam (l.take i ++ [a] ++ l.drop i) k = if k < i then nam l k else if k = i then a.Name else nam l (k - 1) := fun k => by
    unfold nam; rw [ins_at l i a hi]; split
    · rfl
    · split <;> rfl
  refine ⟨fun p q hpq hq => ?_, fun k hk => ?_, fun k hk => ?_, fun p q hpq hq => ?_⟩
  · rw [len] at hq
    rw [en, en]
    by_cases c1 : p < i
    · rw [if_pos c1]
      by_cases c2 : q < i
      · rw [if_pos c2]; exact h.rise p q hpq (by omega)
      · rw [if_neg c2]
        by_cases c3 : q = i
        · rw [if_pos c3]; exact lo p c1
        · rw [if_neg c3]; exact h.rise p (q - 1) (by omega) (by omega)
    · rw [if_neg c1, if_neg (by omega : ¬ q < i), if_neg (by omega : ¬ q = i)]
      by_cases c3 : p = i
      · rw [if_pos c3]; exact up (q - 1) (by omega) (by omega)
      · rw [if_neg c3]; exact h.rise (p - 1) (q - 1) (by omega) (by omega)
  · rw [len] at hk
    rw [en]
    split
    · exact h.ids k (by omega)
    · split
      · exact h1
      · exact h.ids (k - 1) (by omega)
  · rw [len] at hk
    rw [em]
    split
    · exact h.names k (by omega)
    · split
      · exact h2
      · exact h.names (k - 1) (by omega)
  · rw [len] at hq
    rw [em, em]
    by_cases c1 : p < i
    · rw [if_pos c1]
      by_cases c2 : q < i
      · rw [if_pos c2]; exact h.one p q hpq (by omega)
      · rw [if_neg c2]
        by_cases c3 : q = i
        · rw [if_pos c3]; exact h3 p (by omega)
        · rw [if_neg c3]; exact h.one p (q - 1) (by omega) (by omega)
    · rw [if_neg c1, if_neg (by omega : ¬ q < i), if_neg (by omega : ¬ q = i)]
      by_cases c3 : p = i
      · rw [if_pos c3]; exact fun e => h3 (q - 1) (by omega) e.symm
      · rw [if_neg c3]; exact h.one (p - 1) (q - 1) (by omega) (by omega)

theorem drop_getD (l : List Me) (j : Nat) (h : j < l.length) : l.drop j = l.getD j default :: l.drop (j + 1) := by
  rw [List.drop_eq_getElem_cons h, List.getD_eq_getElem?_getD, List.getElem?_eq_getElem h]; rfl

theorem join_low (l : List Me) (id : Int) (s : Bs) (few : l.length ≤ 64) (i : Nat) (hi : i ≤ l.length) (lo : ∀ k, k < i → num l k < id) : ∀ (n j : Nat), j + n = i →
    loop (lombardref30_Join.r0 l id s) (false, (j : Int), l.take j) = loop (lombardref30_Join.r0 l id s) (false, (i : Int), l.take i)
  | 0, j, h => by
    obtain rfl : j = i := by omega
    rfl
  | n + 1, j, h => by
    have hl : (l.getD j default).ID < id := lo j (by omega)
    have key : lombardref30_Join.r0 l id s (false, (j : Int), l.take j) = some (.inl (false, ((j + 1 : Nat) : Int), l.take (j + 1))) := by
      unfold lombardref30_Join.r0 lombardref30_Join.b0
      simp only [nth_me]
      rw [if_pos (decide_eq_true (by omega)), if_pos (fun _ => by omega), if_neg (by intro q; rw [Bool.and_eq_true] at q; have := of_decide_eq_true q.2; omega), Option.bind_some, if_pos (by omega), if_pos (by simp only [List.length_take, List.length_singleton]; omega), i64_nx j (by omega)]
      have e : l.take (j + 1) = l.take j ++ [l.getD j default] := by
        rw [List.take_add_one, List.getElem?_eq_getElem (by omega), List.getD_eq_getElem?_getD, List.getElem?_eq_getElem (by omega)]; rfl
      rw [e]
    rw [loop_next key]
    exact join_low l id s few i hi lo n (j + 1) (by omega)

theorem join_rest (l : List Me) (id : Int) (s : Bs) (few : l.length ≤ 64) : ∀ (n j : Nat) (pre : List Me), l.length = j + n → pre.length + n ≤ 1000 →
    loop (lombardref30_Join.r0 l id s) (true, (j : Int), pre) = some (true, pre ++ l.drop j)
  | 0, j, pre, h, _ => by
    rw [List.drop_of_length_le (by omega), List.append_nil]
    refine loop_end ?_
    unfold lombardref30_Join.r0 lombardref30_Join.b0
    rw [if_neg (by simp; omega)]
  | n + 1, j, pre, h, hh => by
    have key : lombardref30_Join.r0 l id s (true, (j : Int), pre) = some (.inl (true, ((j + 1 : Nat) : Int), pre ++ [l.getD j default])) := by
      unfold lombardref30_Join.r0 lombardref30_Join.b0
      simp only [nth_me]
      rw [if_pos (decide_eq_true (by omega)), if_pos (fun h => by cases h), if_neg (by simp), Option.bind_some, if_pos (by omega), if_pos (by simp only [List.length_singleton]; omega), i64_nx j (by omega)]
    rw [loop_next key, join_rest l id s few n (j + 1) _ (by omega) (by simp only [List.length_append, List.length_singleton]; omega), drop_getD l j (by omega), List.append_assoc]; rfl

theorem join_loop (l : List Me) (id : Int) (s : Bs) (few : l.length ≤ 64) (i : Nat) (hi : i ≤ l.length) (lo : ∀ k, k < i → num l k < id) (up : ∀ k, i ≤ k → k < l.length → id < num l k) :
    ∃ o, loop (lombardref30_Join.r0 l id s) (false, 0, []) = some o ∧ (if (!o.1) = true then o.2 ++ [(⟨id, s, 1, 0, false⟩ : Me)] else o.2) = l.take i ++ [⟨id, s, 1, 0, false⟩] ++ l.drop i ∧ o.2.length ≤ 65 := by
  have h0 : loop (lombardref30_Join.r0 l id s) (false, 0, []) = loop (lombardref30_Join.r0 l id s) (false, (i : Int), l.take i) := join_low l id s few i hi lo i 0 (by omega)
  by_cases c : i < l.length
  · have hu : id < (l.getD i default).ID := up i (Nat.le_refl _) c
    have key : lombardref30_Join.r0 l id s (false, (i : Int), l.take i) = some (.inl (true, ((i + 1 : Nat) : Int), l.take i ++ [⟨id, s, 1, 0, false⟩] ++ [l.getD i default])) := by
      unfold lombardref30_Join.r0 lombardref30_Join.b0
      simp only [nth_me]
      rw [if_pos (decide_eq_true (by omega)), if_pos (fun _ => by omega), if_pos (by rw [Bool.and_eq_true]; exact ⟨rfl, decide_eq_true (by omega)⟩), if_pos (by simp only [List.length_take, List.length_singleton]; omega), Option.bind_some, if_pos (by omega), if_pos (by simp only [List.length_append, List.length_take, List.length_singleton]; omega), i64_nx i (by omega)]
    rw [h0, loop_next key, join_rest l id s few (l.length - (i + 1)) (i + 1) _ (by omega) (by simp only [List.length_append, List.length_take, List.length_singleton]; omega)]
    refine ⟨_, rfl, ?_, ?_⟩
    · rw [if_neg (by simp)]
      rw [drop_getD l i c]; simp
    · simp only [List.length_append, List.length_take, List.length_drop, List.length_singleton]; omega
  · obtain rfl : i = l.length := by omega
    have key : lombardref30_Join.r0 l id s (false, (l.length : Int), l.take l.length) = some (.inr (false, l.take l.length)) := by
      unfold lombardref30_Join.r0 lombardref30_Join.b0
      rw [if_neg (by simp)]
    rw [h0, loop_end key]
    refine ⟨_, rfl, ?_, ?_⟩
    · rw [if_pos (by rfl), List.drop_of_length_le (Nat.le_refl _), List.append_nil]
    · simp only [List.length_take]; omega

/-- What joining answers. -/
noncomputable def jv (l : List Me) (id : Int) (s : Bs) : Int := open Classical in if chkJ id s ≠ 0 then chkJ id s else if ∃ k, k < l.length ∧ (num l k = id ∨ fold (nam l k) = fold s) then 7 else 0
theorem jvC {l : List Me} {id : Int} {s : Bs} (h : ¬ chkJ id s = 0) : jv l id s = chkJ id s := by unfold jv; rw [if_pos h]
theorem jv7 {l : List Me} {id : Int} {s : Bs} (h : chkJ id s = 0) (g : ∃ k, k < l.length ∧ (num l k = id ∨ fold (nam l k) = fold s)) : jv l id s = 7 := by unfold jv; rw [if_neg (fun q => q h), if_pos g]
theorem jv0 {l : List Me} {id : Int} {s : Bs} (h : chkJ id s = 0) (g : ¬ ∃ k, k < l.length ∧ (num l k = id ∨ fold (nam l k) = fold s)) : jv l id s = 0 := by unfold jv; rw [if_neg (fun q => q h), if_neg g]

theorem join_is (l : List Me) (id : Int) (s : Bs) (h : Inv l) (fs : s.length ≤ 600) : ∃ v l', lombardref30_Join.f l id s = some (l', v) ∧ auth_List_Join.f (listOf l) id s = some (v, listOf l') ∧ Inv l' ∧ (v ≠ 0 → l' = l) ∧
    (v = 0 → ∃ i : Nat, i ≤ l.length ∧ l' = l.take i ++ [⟨id, s, 1, 0, false⟩] ++ l.drop i ∧ ∀ k, i ≤ k → k < l.length → id < num l k) ∧ v = jv l id s := by
  have few := h.few
  obtain ⟨j1, j2, j3⟩ := join_check id s
  unfold lombardref30_Join.f auth_List_Join.f
  rw [j1, j2]
  simp only [Option.bind_some]
  have hm : ¬ (!(listOf l).made) = true := fun h => by cases h
  rw [if_neg hm]
  by_cases c : chkJ id s = 0
  · rw [if_neg (by simp [c]), if_neg (by simp [c])]
    obtain ⟨j4, j5⟩ := j3 c
    rcases found l id h.rise (by omega) with ⟨k, k1, k2, k3, k4⟩ | ⟨k1, ⟨i, i1, i2, i3, i4⟩, k3⟩
    · rw [k3, k4]
      simp only [Option.bind_some]
      rw [if_neg (by simp), if_neg (by simp), Option.bind_some, Option.bind_some, if_pos (by simp), if_pos (by simp)]
      exact ⟨7, l, rfl, rfl, h, fun _ => rfl, (fun q => by cases q), (jv7 c ⟨k, k1, .inl k2⟩).symm⟩
    · rw [i4, k3]
      simp only [Option.bind_some]
      rw [if_pos (by simp), if_pos (by simp)]
      rcases named l s (by omega) h.names (by omega) with ⟨k, n1, n2, n3, n4, n5⟩ | ⟨n1, n2, n3⟩
      · have n5' : slices_ContainsFunc_auth_Member__auth_List_Join_1.f (listOf l).l s = some true := n5
        rw [n4, n5', Option.bind_some, Option.bind_some, if_pos (by simp), if_pos (by simp)]
        exact ⟨7, l, rfl, rfl, h, fun _ => rfl, (fun q => by cases q), (jv7 c ⟨k, n1, .inr n2⟩).symm⟩
      · have n3' : slices_ContainsFunc_auth_Member__auth_List_Join_1.f (listOf l).l s = some false := n3
        rw [n2, n3', Option.bind_some, Option.bind_some, if_neg (by simp), if_neg (by simp)]
        obtain ⟨o, o1, o2, o3⟩ := join_loop l id s (by omega) i i1 i2 i3
        have ins1 : slices_Insert_auth_Member.f (listOf l).l (i : Int) [(⟨id, s, 1, 0, false⟩ : auth_Member)] = some ((l.take i ++ [(⟨id, s, 1, 0, false⟩ : Me)] ++ l.drop i).map bk) := by
          unfold slices_Insert_auth_Member.f insF listOf
          rw [if_pos (by simp; omega)]
          simp [List.map_take, List.map_drop, bk]
        rw [o1, ins1, Option.bind_some, Option.bind_some]
        refine ⟨0, l.take i ++ [⟨id, s, 1, 0, false⟩] ++ l.drop i, ?_, rfl, ?_, fun q => absurd rfl q, fun _ => ⟨i, i1, rfl, i3⟩, (jv0 c (fun ⟨q, q1, q2⟩ => q2.elim (k1 q q1) (n1 q q1))).symm⟩
        · by_cases c5 : (!o.1) = true
          · rw [if_pos c5] at o2
            rw [if_pos c5, if_pos (by simp only [List.length_singleton]; omega), o2]
          · rw [if_neg c5] at o2
            rw [if_neg c5, o2]
        · exact inv_ins l ⟨id, s, 1, 0, false⟩ i h i1 i2 i3 j4 j5 n1
  · rw [if_pos (by simpa using c), if_pos (by simpa using c)]
    exact ⟨chkJ id s, l, rfl, rfl, h, fun _ => rfl, fun q => absurd q c, (jvC c).symm⟩

/-! ### changing -/
theorem set_at (l : List Me) (k : Nat) (y : Me) (i : Nat) : (l.set k y).getD i default = if i = k ∧ k < l.length then y else l.getD i default := by
  rw [List.getD_eq_getElem?_getD, List.getElem?_set]
  by_cases e : k = i
  · subst e
    by_cases c : k < l.length
    · simp [c]
    · simp [c]
  · rw [if_neg e, if_neg (by omega), List.getD_eq_getElem?_getD]
theorem inv_set (l : List Me) (k : Nat) (y : Me) (h : Inv l) (e1 : y.ID = num l k) (e2 : y.Name = nam l k) : Inv (l.set k y) := by
  have en : ∀ i, num (l.set k y) i = num l i := fun i => by
    unfold num; rw [set_at]; split
    · rename_i c; rw [c.1]; exact e1
    · rfl
  have em : ∀ i, nam (l.set k y) i = nam l i := fun i => by
    unfold nam; rw [set_at]; split
    · rename_i c; rw [c.1]; exact e2
    · rfl
  refine ⟨fun p q hpq hq => ?_, fun k hk => ?_, fun k hk => ?_, fun p q hpq hq => ?_⟩
  · rw [List.length_set] at hq; rw [en, en]; exact h.rise p q hpq hq
  · rw [List.length_set] at hk; rw [en]; exact h.ids k hk
  · rw [List.length_set] at hk; rw [em]; exact h.names k hk
  · rw [List.length_set] at hq; rw [em, em]; exact h.one p q hpq hq

theorem map_set_bk (l : List Me) (k : Nat) (y : Me) (z : auth_Member) (e : bk y = z) : (l.map bk).set k z = (l.set k y).map bk := by rw [List.map_set, e]

/-- Both change a member, or neither does. -/
def Cg (l : List Me) (id : Int) (a : Option (List Me × Int)) (b : Option (Int × auth_List)) : Prop :=
  ∃ v l', a = some (l', v) ∧ b = some (v, listOf l') ∧ Inv l' ∧ (∀ k, k < l.length → num l k = id → (l.getD k default).State = 3 → v = 8 ∨ v = 1)

theorem uniq {l : List Me} (h : Inv l) {p q : Nat} (hp : p < l.length) (hq : q < l.length) (e : num l p = num l q) : p = q := by
  rcases Nat.lt_trichotomy p q with x | x | x
  · have := h.rise p q x hq; omega
  · exact x
  · have := h.rise q p x hp; omega

theorem cg_of (l : List Me) (id : Int) (h : Inv l) (R : Option (List Me × Int)) (G : Option (Int × auth_List)) (new : Me → Me) (hn : ∀ m, (new m).ID = m.ID ∧ (new m).Name = m.Name)
    (r1 : lombardref30_Find.f l id = some (-1) → R = some (l, 6))
    (r2 : ∀ k : Nat, k < l.length → lombardref30_Find.f l id = some (k : Int) → (l.getD k default).State = 3 → R = some (l, 8))
    (r3 : ∀ k : Nat, k < l.length → lombardref30_Find.f l id = some (k : Int) → (l.getD k default).State ≠ 3 → R = some (l.set k (new (l.getD k default)), 0))
    (p1 : ∀ i : Nat, auth_List_place.f (listOf l) id = some ((i : Int), false) → G = some (6, listOf l))
    (p2 : ∀ k : Nat, k < l.length → auth_List_place.f (listOf l) id = some ((k : Int), true) → (l.getD k default).State = 3 → G = some (8, listOf l))
    (p3 : ∀ k : Nat, k < l.length → auth_List_place.f (listOf l) id = some ((k : Int), true) → (l.getD k default).State ≠ 3 → G = some (0, listOf (l.set k (new (l.getD k default))))) : Cg l id R G := by
  have few := h.few
  rcases found l id h.rise (by omega) with ⟨k, k1, k2, k3, k4⟩ | ⟨k1, ⟨i, i1, i2, i3, i4⟩, k3⟩
  · by_cases c : (l.getD k default).State = 3
    · exact ⟨8, l, r2 k k1 k4 c, p2 k k1 k3 c, h, fun _ _ _ _ => .inl rfl⟩
    · refine ⟨0, _, r3 k k1 k4 c, p3 k k1 k3 c, inv_set l k _ h (hn _).1 (hn _).2, fun q q1 q2 q3 => ?_⟩
      have := uniq h q1 k1 (q2.trans k2.symm)
      subst this
      exact absurd q3 c
  · exact ⟨6, l, r1 k3, p1 i i4, h, fun q q1 q2 _ => absurd q2 (k1 q q1)⟩

theorem set_bk (l : List Me) (k : Nat) (new : Me → Me) (z : auth_Member) (e : bk (new (l.getD k default)) = z) : (⟨(l.map bk).set (Int.toNat (k : Int)) z, true⟩ : auth_List) = listOf (l.set k (new (l.getD k default))) := by
  unfold listOf; rw [Int.toNat_natCast, List.map_set, e]

theorem bound_in (l : List Me) (id n : Int) (y : Bool) (hb : ¬ (decide (n < 0) || decide (n > 1125899906842624)) = true) (h : Inv l) : Cg l id (lombardref30_Change.f l 0 id n y) (auth_List_change__auth_List_Bound_1.f (listOf l) id n) := by
  have few := h.few
  have hm : ¬ (!(listOf l).made) = true := fun h => by cases h
  refine cg_of l id h _ _ (fun m => ⟨m.ID, m.Name, m.State, n, m.Late⟩) (fun m => ⟨rfl, rfl⟩) (fun hf => ?_) (fun k k1 hf c => ?_) (fun k k1 hf c => ?_) (fun i hp => ?_) (fun k k1 hp c => ?_) (fun k k1 hp c => ?_)
  · unfold lombardref30_Change.f
    rw [if_neg (by rw [beq_self_eq_true, Bool.true_and]; exact hb), hf, Option.bind_some, if_pos (by decide)]
  · unfold lombardref30_Change.f
    rw [if_neg (by rw [beq_self_eq_true, Bool.true_and]; exact hb), hf, Option.bind_some, if_neg (by simp), if_pos (by omega), nth_me, if_pos (by rw [c]; rfl)]
  · have g : (0 : Int) ≤ (k : Int) ∧ (k : Int) < (l.length : Int) := by omega
    unfold lombardref30_Change.f
    rw [if_neg (by rw [beq_self_eq_true, Bool.true_and]; exact hb), hf, Option.bind_some, if_neg (by simp), if_pos g, nth_me, if_neg (by rw [beq_iff_eq]; exact c), if_pos (by simp only [List.length_nil]; omega)]
    rw [if_pos (by decide), List.nil_append, if_pos g, Option.bind_some, if_neg (by decide), Option.bind_some, if_neg (by decide), Option.bind_some, if_neg (by cases y <;> decide), Option.bind_some, if_neg (by decide)]
    rfl
  · unfold auth_List_change__auth_List_Bound_1.f
    rw [if_neg hm, hp, Option.bind_some, if_pos (by rfl)]
  · have g' : (0 : Int) ≤ (k : Int) ∧ (k : Int) < ((listOf l).l.length : Int) := by show _ ∧ _ < ((l.map bk).length : Int); rw [List.length_map]; omega
    have nb : nth (listOf l).l (k : Int) = bk (l.getD k default) := nth_bk l k
    unfold auth_List_change__auth_List_Bound_1.f
    rw [if_neg hm, hp, Option.bind_some, if_neg (by simp), if_pos g', nb, if_pos (show ((bk (l.getD k default)).State == 3) = true from by rw [beq_iff_eq]; exact c)]
  · have g' : (0 : Int) ≤ (k : Int) ∧ (k : Int) < ((listOf l).l.length : Int) := by show _ ∧ _ < ((l.map bk).length : Int); rw [List.length_map]; omega
    have nb : nth (listOf l).l (k : Int) = bk (l.getD k default) := nth_bk l k
    unfold auth_List_change__auth_List_Bound_1.f
    rw [if_neg hm, hp, Option.bind_some, if_neg (by simp), if_pos g', nb, if_neg (show ¬ ((bk (l.getD k default)).State == 3) = true from by rw [beq_iff_eq]; exact c), if_pos g']
    exact congrArg some (congrArg (Prod.mk 0) (set_bk l k (fun m => ⟨m.ID, m.Name, m.State, n, m.Late⟩) _ rfl))

theorem late_in (l : List Me) (id n : Int) (y : Bool) (h : Inv l) : Cg l id (lombardref30_Change.f l 1 id n y) (auth_List_change__auth_List_Late_1.f (listOf l) id y) := by
  have few := h.few
  have hm : ¬ (!(listOf l).made) = true := fun h => by cases h
  refine cg_of l id h _ _ (fun m => ⟨m.ID, m.Name, m.State, m.Bound, y⟩) (fun m => ⟨rfl, rfl⟩) (fun hf => ?_) (fun k k1 hf c => ?_) (fun k k1 hf c => ?_) (fun i hp => ?_) (fun k k1 hp c => ?_) (fun k k1 hp c => ?_)
  · unfold lombardref30_Change.f
    rw [if_neg (by rw [show ((1 : Int) == 0) = false from rfl, Bool.false_and]; decide), hf, Option.bind_some, if_pos (by decide)]
  · unfold lombardref30_Change.f
    rw [if_neg (by rw [show ((1 : Int) == 0) = false from rfl, Bool.false_and]; decide), hf, Option.bind_some, if_neg (by simp), if_pos (by omega), nth_me, if_pos (by rw [c]; rfl)]
  · have g : (0 : Int) ≤ (k : Int) ∧ (k : Int) < (l.length : Int) := by omega
    unfold lombardref30_Change.f
    rw [if_neg (by rw [show ((1 : Int) == 0) = false from rfl, Bool.false_and]; decide), hf, Option.bind_some, if_neg (by simp), if_pos g, nth_me, if_neg (by rw [beq_iff_eq]; exact c), if_pos (by simp only [List.length_nil]; omega)]
    rw [if_neg (by decide), Option.bind_some, List.nil_append, if_pos (by decide), if_pos g, Option.bind_some, if_neg (by decide), Option.bind_some, if_neg (by cases y <;> decide), Option.bind_some, if_neg (by decide)]
    rfl
  · unfold auth_List_change__auth_List_Late_1.f
    rw [if_neg hm, hp, Option.bind_some, if_pos (by rfl)]
  · have g' : (0 : Int) ≤ (k : Int) ∧ (k : Int) < ((listOf l).l.length : Int) := by show _ ∧ _ < ((l.map bk).length : Int); rw [List.length_map]; omega
    have nb : nth (listOf l).l (k : Int) = bk (l.getD k default) := nth_bk l k
    unfold auth_List_change__auth_List_Late_1.f
    rw [if_neg hm, hp, Option.bind_some, if_neg (by simp), if_pos g', nb, if_pos (show ((bk (l.getD k default)).State == 3) = true from by rw [beq_iff_eq]; exact c)]
  · have g' : (0 : Int) ≤ (k : Int) ∧ (k : Int) < ((listOf l).l.length : Int) := by show _ ∧ _ < ((l.map bk).length : Int); rw [List.length_map]; omega
    have nb : nth (listOf l).l (k : Int) = bk (l.getD k default) := nth_bk l k
    unfold auth_List_change__auth_List_Late_1.f
    rw [if_neg hm, hp, Option.bind_some, if_neg (by simp), if_pos g', nb, if_neg (show ¬ ((bk (l.getD k default)).State == 3) = true from by rw [beq_iff_eq]; exact c), if_pos g']
    exact congrArg some (congrArg (Prod.mk 0) (set_bk l k (fun m => ⟨m.ID, m.Name, m.State, m.Bound, y⟩) _ rfl))

theorem call_in (l : List Me) (id n : Int) (y : Bool) (h : Inv l) : Cg l id (lombardref30_Change.f l 2 id n y) (auth_List_change__auth_List_Call_1.f (listOf l) id y) := by
  have few := h.few
  have hm : ¬ (!(listOf l).made) = true := fun h => by cases h
  refine cg_of l id h _ _ (fun m => ⟨m.ID, m.Name, if y = true then 2 else 1, m.Bound, m.Late⟩) (fun m => ⟨rfl, rfl⟩) (fun hf => ?_) (fun k k1 hf c => ?_) (fun k k1 hf c => ?_) (fun i hp => ?_) (fun k k1 hp c => ?_) (fun k k1 hp c => ?_)
  · unfold lombardref30_Change.f
    rw [if_neg (by rw [show ((2 : Int) == 0) = false from rfl, Bool.false_and]; decide), hf, Option.bind_some, if_pos (by decide)]
  · unfold lombardref30_Change.f
    rw [if_neg (by rw [show ((2 : Int) == 0) = false from rfl, Bool.false_and]; decide), hf, Option.bind_some, if_neg (by simp), if_pos (by omega), nth_me, if_pos (by rw [c]; rfl)]
  · have g : (0 : Int) ≤ (k : Int) ∧ (k : Int) < (l.length : Int) := by omega
    unfold lombardref30_Change.f
    rw [if_neg (by rw [show ((2 : Int) == 0) = false from rfl, Bool.false_and]; decide), hf, Option.bind_some, if_neg (by simp), if_pos g, nth_me, if_neg (by rw [beq_iff_eq]; exact c), if_pos (by simp only [List.length_nil]; omega)]
    rw [if_neg (by decide), Option.bind_some, List.nil_append, if_neg (by decide), Option.bind_some, if_pos (by decide), if_pos g, Option.bind_some]
    cases y
    · rw [if_neg (by decide), Option.bind_some, if_neg (by decide)]
      rfl
    · rw [if_pos (by decide), if_pos (by rw [List.length_set]; exact g), Option.bind_some, if_neg (by decide), nth_me, nth_me, Int.toNat_natCast, List.set_set]
      have e : ∀ z : Me, (l.set k z).getD k default = z := fun z => by rw [set_at, if_pos ⟨rfl, k1⟩]
      rw [e]
      rfl
  · unfold auth_List_change__auth_List_Call_1.f
    rw [if_neg hm, hp, Option.bind_some, if_pos (by rfl)]
  · have g' : (0 : Int) ≤ (k : Int) ∧ (k : Int) < ((listOf l).l.length : Int) := by show _ ∧ _ < ((l.map bk).length : Int); rw [List.length_map]; omega
    have nb : nth (listOf l).l (k : Int) = bk (l.getD k default) := nth_bk l k
    unfold auth_List_change__auth_List_Call_1.f
    rw [if_neg hm, hp, Option.bind_some, if_neg (by simp), if_pos g', nb, if_pos (show ((bk (l.getD k default)).State == 3) = true from by rw [beq_iff_eq]; exact c)]
  · have g' : (0 : Int) ≤ (k : Int) ∧ (k : Int) < ((listOf l).l.length : Int) := by show _ ∧ _ < ((l.map bk).length : Int); rw [List.length_map]; omega
    have nb : nth (listOf l).l (k : Int) = bk (l.getD k default) := nth_bk l k
    unfold auth_List_change__auth_List_Call_1.f
    rw [if_neg hm, hp, Option.bind_some, if_neg (by simp), if_pos g', nb, if_neg (show ¬ ((bk (l.getD k default)).State == 3) = true from by rw [beq_iff_eq]; exact c), if_pos g']
    exact congrArg some (congrArg (Prod.mk 0) (set_bk l k (fun m => ⟨m.ID, m.Name, if y = true then 2 else 1, m.Bound, m.Late⟩) _ rfl))

theorem default_in (l : List Me) (id n : Int) (y : Bool) (h : Inv l) : Cg l id (lombardref30_Change.f l 3 id n y) (auth_List_change__auth_List_Default_1.f (listOf l) id) := by
  have few := h.few
  have hm : ¬ (!(listOf l).made) = true := fun h => by cases h
  refine cg_of l id h _ _ (fun m => ⟨m.ID, m.Name, 3, m.Bound, m.Late⟩) (fun m => ⟨rfl, rfl⟩) (fun hf => ?_) (fun k k1 hf c => ?_) (fun k k1 hf c => ?_) (fun i hp => ?_) (fun k k1 hp c => ?_) (fun k k1 hp c => ?_)
  · unfold lombardref30_Change.f
    rw [if_neg (by rw [show ((3 : Int) == 0) = false from rfl, Bool.false_and]; decide), hf, Option.bind_some, if_pos (by decide)]
  · unfold lombardref30_Change.f
    rw [if_neg (by rw [show ((3 : Int) == 0) = false from rfl, Bool.false_and]; decide), hf, Option.bind_some, if_neg (by simp), if_pos (by omega), nth_me, if_pos (by rw [c]; rfl)]
  · have g : (0 : Int) ≤ (k : Int) ∧ (k : Int) < (l.length : Int) := by omega
    unfold lombardref30_Change.f
    rw [if_neg (by rw [show ((3 : Int) == 0) = false from rfl, Bool.false_and]; decide), hf, Option.bind_some, if_neg (by simp), if_pos g, nth_me, if_neg (by rw [beq_iff_eq]; exact c), if_pos (by simp only [List.length_nil]; omega)]
    rw [if_neg (by decide), Option.bind_some, List.nil_append, if_neg (by decide), Option.bind_some, if_neg (by decide), Option.bind_some, if_neg (by cases y <;> decide), Option.bind_some, if_pos (by decide), if_pos g]
    rfl
  · unfold auth_List_change__auth_List_Default_1.f
    rw [if_neg hm, hp, Option.bind_some, if_pos (by rfl)]
  · have g' : (0 : Int) ≤ (k : Int) ∧ (k : Int) < ((listOf l).l.length : Int) := by show _ ∧ _ < ((l.map bk).length : Int); rw [List.length_map]; omega
    have nb : nth (listOf l).l (k : Int) = bk (l.getD k default) := nth_bk l k
    unfold auth_List_change__auth_List_Default_1.f
    rw [if_neg hm, hp, Option.bind_some, if_neg (by simp), if_pos g', nb, if_pos (show ((bk (l.getD k default)).State == 3) = true from by rw [beq_iff_eq]; exact c)]
  · have g' : (0 : Int) ≤ (k : Int) ∧ (k : Int) < ((listOf l).l.length : Int) := by show _ ∧ _ < ((l.map bk).length : Int); rw [List.length_map]; omega
    have nb : nth (listOf l).l (k : Int) = bk (l.getD k default) := nth_bk l k
    unfold auth_List_change__auth_List_Default_1.f
    rw [if_neg hm, hp, Option.bind_some, if_neg (by simp), if_pos g', nb, if_neg (show ¬ ((bk (l.getD k default)).State == 3) = true from by rw [beq_iff_eq]; exact c), if_pos g']
    exact congrArg some (congrArg (Prod.mk 0) (set_bk l k (fun m => ⟨m.ID, m.Name, 3, m.Bound, m.Late⟩) _ rfl))

theorem idO {α β : Type} (a : Option (α × β)) : (a.bind fun t => some (t.1, t.2)) = a := by cases a <;> rfl
theorem bound_is (l : List Me) (id n : Int) (y : Bool) (h : Inv l) : Cg l id (lombardref30_Change.f l 0 id n y) (auth_List_Bound.f (listOf l) id n) := by
  unfold auth_List_Bound.f
  by_cases c : (decide (n < 0) || decide (n > 1125899906842624)) = true
  · refine ⟨1, l, ?_, by rw [if_pos c], h, fun _ _ _ _ => .inr rfl⟩
    unfold lombardref30_Change.f
    rw [if_pos (by rw [beq_self_eq_true, Bool.true_and]; exact c)]
  · rw [if_neg c, idO]
    exact bound_in l id n y c h
theorem late_is (l : List Me) (id n : Int) (y : Bool) (h : Inv l) : Cg l id (lombardref30_Change.f l 1 id n y) (auth_List_Late.f (listOf l) id y) := by
  unfold auth_List_Late.f; rw [idO]; exact late_in l id n y h
theorem call_is (l : List Me) (id n : Int) (y : Bool) (h : Inv l) : Cg l id (lombardref30_Change.f l 2 id n y) (auth_List_Call.f (listOf l) id y) := by
  unfold auth_List_Call.f; rw [idO]; exact call_in l id n y h
theorem default_is (l : List Me) (id n : Int) (y : Bool) (h : Inv l) : Cg l id (lombardref30_Change.f l 3 id n y) (auth_List_Default.f (listOf l) id) := by
  unfold auth_List_Default.f; rw [idO]; exact default_in l id n y h
end Go.Proofs.YtjdkibnhlmgppaaGreat

