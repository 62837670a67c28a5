/- Shows that a list of some calls is the document's, and that the chapter's example holds. -/
import Derived.Test.YtjdkibnhlmgppaaGreatPuBook30
import Derived.Test.YtjdkibnhlmgppaaGreatGx3
import Derived.Test.YtjdkibnhlmgppaaGreatGx3
namespace Go.Proofs.YtjdkibnhlmgppaaGreat
open Go Go.Pm Go.Pm.Arith
set_option linter.unusedVariables false
set_option linter.unusedSimpArgs false
set_option maxRecDepth 100000

/-! ### all members, told -/
theorem all_is (l : List Me) (few : l.length ≤ 1000) : auth_List_All.f (listOf l) = some (l.map bk) := by
  unfold auth_List_All.f slices_Clone_auth_Member.f
  have e : (listOf l).l = l.map bk := rfl
  rw [e, if_pos (by rw [List.length_map]; omega)]
  rfl

theorem told_loop (l : List Me) (few : l.length ≤ 1000) : ∀ (j i : Nat), l.length = i + j → loop (lombardlaw30_Told.r0 (l.map bk)) ((i : Int), l.take i) = some l
  | 0, i, h => by
    rw [List.take_of_length_le (by omega)]
    refine loop_end ?_
    unfold lombardlaw30_Told.r0 lombardlaw30_Told.b0
    rw [if_neg (by simp; omega)]
  | j + 1, i, h => by
    have g : (0 : Int) ≤ (i : Int) ∧ (i : Int) < ((l.map bk).length : Int) := by rw [List.length_map]; omega
    have key : lombardlaw30_Told.r0 (l.map bk) ((i : Int), l.take i) = some (.inl (((i + 1 : Nat) : Int), l.take i ++ [l.getD i default])) := by
      unfold lombardlaw30_Told.r0 lombardlaw30_Told.b0
      simp only [nth_bk]
      rw [if_pos (decide_eq_true g.2), if_pos g, if_pos g, if_pos g, if_pos g, if_pos g, if_pos (by simp only [List.length_take, List.length_singleton]; omega), i64_nx i (by omega)]
      rfl
    have e : l.take (i + 1) = l.take i ++ [l.getD i default] := by
      rw [List.take_add_one, List.getElem?_eq_getElem (by omega), List.getD_eq_getElem?_getD, List.getElem?_eq_getElem (by omega)]; rfl
    rw [loop_next key, ← e]
    exact told_loop l few j (i + 1) (by omega)
theorem told_is (l : List Me) (few : l.length ≤ 1000) : lombardlaw30_Told.f (l.map bk) = some l := by
  have e : loop (lombardlaw30_Told.r0 (l.map bk)) (0, []) = some l := told_loop l few l.length 0 (by omega)
  unfold lombardlaw30_Told.f
  rw [e]; rfl

theorem mems_loop (l : List Me) (few : l.length ≤ 1000) : ∀ (j i : Nat), l.length = i + j → loop (lombardref30_Same.r0 l l) (i : Int) = some (.inr ())
  | 0, i, h => loop_end (by unfold lombardref30_Same.r0 lombardref30_Same.b0; rw [if_neg (by simp; omega)])
  | j + 1, i, h => by
    have g : (0 : Int) ≤ (i : Int) ∧ (i : Int) < (l.length : Int) := by omega
    have key : lombardref30_Same.r0 l l (i : Int) = some (.inl ((i + 1 : Nat) : Int)) := by
      unfold lombardref30_Same.r0 lombardref30_Same.b0
      rw [if_pos (decide_eq_true g.2), if_pos g, if_pos g, if_neg (by simp), i64_nx i (by omega)]
    rw [loop_next key]
    exact mems_loop l few j (i + 1) (by omega)
theorem mems_same (l : List Me) (few : l.length ≤ 1000) : lombardref30_Same.f l l = some true := by
  have e : loop (lombardref30_Same.r0 l l) 0 = some (.inr ()) := mems_loop l few l.length 0 (by omega)
  unfold lombardref30_Same.f
  rw [if_neg (by simp), e]; rfl

/-! ### one by number -/
theorem get_is' (l : List Me) (d : Int) (h : Inv l) :
    (∃ k : Nat, k < l.length ∧ num l k = d ∧ auth_List_Get.f (listOf l) d = some (bk (l.getD k default), true) ∧ lombardref30_Find.f l d = some (k : Int)) ∨
    ((∀ k, k < l.length → num l k ≠ d) ∧ auth_List_Get.f (listOf l) d = some ((⟨0, [], 0, 0, false⟩ : auth_Member), false) ∧ lombardref30_Find.f l d = some (-1)) := by
  have few := h.few
  unfold auth_List_Get.f
  rcases found l d h.rise (by omega) with ⟨k, k1, k2, k3, k4⟩ | ⟨k1, ⟨i, i1, i2, i3, i4⟩, k3⟩
  · left
    have g' : (0 : Int) ≤ (k : Int) ∧ (k : Int) < ((listOf l).l.length : Int) := by show _ ∧ _ < ((l.map bk).length : Int); rw [List.length_map]; omega
    have nb : nth (listOf l).l (k : Int) = bk (l.getD k default) := nth_bk l k
    exact ⟨k, k1, k2, by rw [k3, Option.bind_some, if_neg (by simp), if_pos g', nb], k4⟩
  · right
    exact ⟨k1, by rw [i4, Option.bind_some, if_pos (by rfl)], k3⟩

/-! ### the example -/
abbrev sMu : Bs := [77, 195, 188, 108, 108, 101, 114]
abbrev sMU : Bs := [77, 195, 156, 76, 76, 69, 82]
theorem chk1 : chkJ 1 sMu = 0 := by
  have e : name_Check.f sMu = some (7, 0) := by
    unfold name_Check.f
    rw [if_neg (by decide), loop_next (show name_Check.r0 sMu (0, 32, 0) = some (.inl (1, 77, 1)) by kernel_rfl), loop_next (show name_Check.r0 sMu (1, 77, 1) = some (.inl (2, 252, 3)) by kernel_rfl),
      loop_next (show name_Check.r0 sMu (2, 252, 3) = some (.inl (3, 108, 4)) by kernel_rfl), loop_next (show name_Check.r0 sMu (3, 108, 4) = some (.inl (4, 108, 5)) by kernel_rfl),
      loop_next (show name_Check.r0 sMu (4, 108, 5) = some (.inl (5, 101, 6)) by kernel_rfl), loop_next (show name_Check.r0 sMu (5, 101, 6) = some (.inl (6, 114, 7)) by kernel_rfl),
      loop_end (show name_Check.r0 sMu (6, 114, 7) = some (.inr (.inr (6, 114))) by kernel_rfl)]
    rfl
  have e1 : msg_Check.f (.cmsg_Join ⟨1, sMu⟩) = (name_Check.f sMu).bind fun t2 => if (decide ((1 : Int) ≥ 1) && decide ((1 : Int) ≤ 32)) = true then some t2.2 else some 1 := rfl
  unfold chkJ
  rw [e1, e]; rfl
theorem chk2 : chkJ 2 sMU = 0 := by
  have e : name_Check.f sMU = some (7, 0) := by
    unfold name_Check.f
    rw [if_neg (by decide), loop_next (show name_Check.r0 sMU (0, 32, 0) = some (.inl (1, 77, 1)) by kernel_rfl), loop_next (show name_Check.r0 sMU (1, 77, 1) = some (.inl (2, 220, 3)) by kernel_rfl),
      loop_next (show name_Check.r0 sMU (2, 220, 3) = some (.inl (3, 76, 4)) by kernel_rfl), loop_next (show name_Check.r0 sMU (3, 76, 4) = some (.inl (4, 76, 5)) by kernel_rfl),
      loop_next (show name_Check.r0 sMU (4, 76, 5) = some (.inl (5, 69, 6)) by kernel_rfl), loop_next (show name_Check.r0 sMU (5, 69, 6) = some (.inl (6, 82, 7)) by kernel_rfl),
      loop_end (show name_Check.r0 sMU (6, 82, 7) = some (.inr (.inr (6, 82))) by kernel_rfl)]
    rfl
  have e1 : msg_Check.f (.cmsg_Join ⟨2, sMU⟩) = (name_Check.f sMU).bind fun t2 => if (decide ((2 : Int) ≥ 1) && decide ((2 : Int) ≤ 32)) = true then some t2.2 else some 1 := rfl
  unfold chkJ
  rw [e1, e]; rfl
theorem fold_eq : fold sMu = fold sMU := by kernel_rfl

theorem awake_is : lombardlaw30_awake.f = some true := by
  obtain ⟨v, l, a1, a2, a3, a4, a5, a6⟩ := join_is [] 1 sMu inv_nil (by decide)
  obtain rfl : v = 0 := a6.trans (jv0 chk1 (fun ⟨k, hk, _⟩ => by simp at hk))
  obtain ⟨i, i1, i2, i3⟩ := a5 rfl
  obtain rfl : i = 0 := by simpa using i1
  simp only [List.take_nil, List.drop_nil, List.nil_append, List.append_nil] at i2
  subst i2
  obtain ⟨w, l2, b1, b2, b3, b4, b5, b6⟩ := join_is [⟨1, sMu, 1, 0, false⟩] 2 sMU a3 (by decide)
  obtain rfl : w = 7 := b6.trans (jv7 chk2 ⟨0, by simp, .inr fold_eq⟩)
  obtain rfl := b4 (by decide)
  have g : auth_List_Able.f (listOf [⟨1, sMu, 1, 0, false⟩]) 1 = some true := by
    unfold auth_List_Able.f
    rcases get_is' [⟨1, sMu, 1, 0, false⟩] 1 a3 with ⟨k, k1, k2, k3, k4⟩ | ⟨k1, _⟩
    · obtain rfl : k = 0 := by simpa using k1
      rw [k3]; rfl
    · exact absurd rfl (k1 0 (by simp))
  have a2' : auth_List_Join.f (⟨[], true⟩ : auth_List) 1 [77, 195, 188, 108, 108, 101, 114] = some (0, listOf [⟨1, sMu, 1, 0, false⟩]) := a2
  have b2' : auth_List_Join.f (listOf [⟨1, sMu, 1, 0, false⟩]) 2 [77, 195, 156, 76, 76, 69, 82] = some (7, listOf [⟨1, sMu, 1, 0, false⟩]) := b2
  unfold lombardlaw30_awake.f auth_New.f
  rw [Option.bind_some, a2', Option.bind_some, if_pos (by rfl), b2', Option.bind_some, if_pos (by rfl), g]
  rfl

/-! ### some calls -/
theorem does_is (l : List Me) (a : lombardlaw30_Act) (h : Inv l) (fs : a.Name.length ≤ 600) : ∃ l', Inv l' ∧ lombardlaw30_does.f (listOf l) l a = some (true, listOf l', l') := by
  have fin : ∀ (v : Int) (l' : List Me), Inv l' → ∀ (o : Option (Int × Int × Bool × List Me × List auth_Member)), o = some (v, v, true, l', l'.map bk) →
      (o.bind fun o30 => (if (o30.2.1 == o30.1) = true then auth_List_All.f (⟨o30.2.2.2.2, o30.2.2.1⟩ : auth_List) else some default).bind fun t56 =>
        (if (o30.2.1 == o30.1) = true then lombardlaw30_Told.f t56 else some default).bind fun t58 =>
        (if (o30.2.1 == o30.1) = true then lombardref30_Same.f t58 o30.2.2.2.1 else some default).bind fun t60 =>
        some (((o30.2.1 == o30.1) && t60), (⟨o30.2.2.2.2, o30.2.2.1⟩ : auth_List), o30.2.2.2.1)) = some (true, listOf l', l') := by
    intro v l' hv o ho
    have few := hv.few
    have e1 : auth_List_All.f (⟨l'.map bk, true⟩ : auth_List) = some (l'.map bk) := all_is l' (by omega)
    subst ho
    simp only [Option.bind_some, beq_self_eq_true, if_true, e1, told_is l' (by omega), mems_same l' (by omega), Bool.and_self]
    rfl
  unfold lombardlaw30_does.f
  by_cases c0 : (a.Kind == 0) = true
  · obtain ⟨v, l', e1, e2, e3, _⟩ := join_is l a.ID a.Name h fs
    exact ⟨l', e3, fin v l' e3 _ (by rw [if_pos c0, e1, Option.bind_some, e2, Option.bind_some]; rfl)⟩
  · by_cases c1 : (a.Kind == 1) = true
    · obtain ⟨v, l', e1, e2, e3, _⟩ := bound_is l a.ID a.N a.Yes h
      exact ⟨l', e3, fin v l' e3 _ (by rw [if_neg c0, if_pos c1, e1, Option.bind_some, e2, Option.bind_some]; rfl)⟩
    · by_cases c2 : (a.Kind == 2) = true
      · obtain ⟨v, l', e1, e2, e3, _⟩ := late_is l a.ID a.N a.Yes h
        exact ⟨l', e3, fin v l' e3 _ (by rw [if_neg c0, if_neg c1, if_pos c2, e1, Option.bind_some, e2, Option.bind_some]; rfl)⟩
      · by_cases c3 : (a.Kind == 3) = true
        · obtain ⟨v, l', e1, e2, e3, _⟩ := call_is l a.ID a.N a.Yes h
          exact ⟨l', e3, fin v l' e3 _ (by rw [if_neg c0, if_neg c1, if_neg c2, if_pos c3, e1, Option.bind_some, e2, Option.bind_some]; rfl)⟩
        · obtain ⟨v, l', e1, e2, e3, _⟩ := default_is l a.ID a.N a.Yes h
          exact ⟨l', e3, fin v l' e3 _ (by rw [if_neg c0, if_neg c1, if_neg c2, if_neg c3, e1, Option.bind_some, e2, Option.bind_some]; rfl)⟩

theorem filled_loop (acts : List lombardlaw30_Act) : ∀ (n i : Nat) (l : List Me), (acts.length = i + n ∨ 50 ≤ i + n) → i ≤ 50 → Inv l →
    ∃ l', Inv l' ∧ loop (lombardlaw30_filled.r0 acts) ((i : Int), true, l.map bk, l) = some (.inr (true, l'.map bk, l'))
  | n, i, l, h, hi, hv => by
    by_cases c : i < acts.length ∧ i < 50
    · obtain ⟨n, rfl⟩ : ∃ m, n = m + 1 := ⟨n - 1, by omega⟩
      have g : (0 : Int) ≤ (i : Int) ∧ (i : Int) < (acts.length : Int) := by omega
      have key : ∃ l', Inv l' ∧ lombardlaw30_filled.r0 acts ((i : Int), true, l.map bk, l) = some (.inl (((i + 1 : Nat) : Int), true, l'.map bk, l')) := by
        unfold lombardlaw30_filled.r0 lombardlaw30_filled.b0
        simp only
        rw [if_pos (by simp; omega), if_pos g, if_pos (fun _ => g), i64_nx i (by omega)]
        by_cases s : (decide (((nth acts (i : Int)).Name.length : Int) ≤ 600)) = true
        · obtain ⟨l', v', e⟩ := does_is l (nth acts (i : Int)) hv (by have := of_decide_eq_true s; omega)
          have e' : lombardlaw30_does.f (⟨l.map bk, true⟩ : auth_List) l (nth acts (i : Int)) = some (true, listOf l', l') := e
          rw [if_pos s, e', Option.bind_some, s]
          exact ⟨l', v', rfl⟩
        · rw [if_neg s, Option.bind_some, Bool.eq_false_iff.2 s]
          exact ⟨l, hv, rfl⟩
      obtain ⟨l', v', e⟩ := key
      rw [loop_next e]
      exact filled_loop acts n (i + 1) l' (by omega) (by omega) v'
    · refine ⟨l, hv, loop_end ?_⟩
      unfold lombardlaw30_filled.r0 lombardlaw30_filled.b0
      simp only
      rw [if_neg (by simp; omega)]

theorem filled_is (acts : List lombardlaw30_Act) : ∃ l, Inv l ∧ lombardlaw30_filled.f acts = some (listOf l, l, true) := by
  obtain ⟨l, h, e⟩ := filled_loop acts (acts.length + 50) 0 [] (by omega) (by omega) inv_nil
  have e' : loop (lombardlaw30_filled.r0 acts) (0, (⟨[], true⟩ : auth_List).made, (⟨[], true⟩ : auth_List).l, []) = _ := e
  refine ⟨l, h, ?_⟩
  unfold lombardlaw30_filled.f auth_New.f
  rw [Option.bind_some, e']
  rfl
end Go.Proofs.YtjdkibnhlmgppaaGreat

