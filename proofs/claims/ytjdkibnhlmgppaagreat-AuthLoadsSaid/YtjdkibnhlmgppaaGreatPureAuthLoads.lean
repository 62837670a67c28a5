/- The plain statement of AuthLoads: which members make a list, and that it is a list of its own. -/
import Derived.Test.YtjdkibnhlmgppaaGreatPuFill30
import Derived.Test.YtjdkibnhlmgppaaGreatGx4
namespace Go.Proofs.YtjdkibnhlmgppaaGreat
open Go Go.Pm Go.Pm.Arith
set_option linter.unusedVariables false
set_option linter.unusedSimpArgs false

/-! ### the members, copied -/
theorem take_next (l : List Me) (i : Nat) (h : i < l.length) : l.take (i + 1) = l.take i ++ [l.getD i default] := by
  rw [List.take_add_one, List.getElem?_eq_getElem h, List.getD_eq_getElem?_getD, List.getElem?_eq_getElem h]; rfl

theorem own_loop (l : List Me) (few : l.length ≤ 50) : ∀ (j i : Nat), l.length = i + j → (∀ k, k < i → (nam l k).length ≤ 600) →
    loop (lombardlaw30_AuthLoads.r0 l) ((i : Int), (l.take i).map bk) = some (.inl true) ∨
    ((∀ k, k < l.length → (nam l k).length ≤ 600) ∧ loop (lombardlaw30_AuthLoads.r0 l) ((i : Int), (l.take i).map bk) = some (.inr (l.map bk)))
  | 0, i, h, hn => by
    right
    refine ⟨fun k hk => hn k (by omega), ?_⟩
    rw [List.take_of_length_le (by omega)]
    refine loop_end ?_
    unfold lombardlaw30_AuthLoads.r0 lombardlaw30_AuthLoads.b0
    rw [if_neg (by simp; omega)]
  | j + 1, i, h, hn => by
    have g : (0 : Int) ≤ (i : Int) ∧ (i : Int) < (l.length : Int) := by omega
    by_cases c : (nam l i).length ≤ 600
    · have key : lombardlaw30_AuthLoads.r0 l ((i : Int), (l.take i).map bk) = some (.inl (((i + 1 : Nat) : Int), (l.take (i + 1)).map bk)) := by
        unfold lombardlaw30_AuthLoads.r0 lombardlaw30_AuthLoads.b0
        dsimp only
        rw [nth_me]
        rw [if_pos (decide_eq_true g.2), if_pos g, if_neg (by rw [decide_eq_true_eq]; unfold nam at c; omega), if_pos g, if_pos g, if_pos g, if_pos g, if_pos g, if_pos (by simp only [List.length_map, List.length_take, List.length_singleton]; omega), i64_nx i (by omega), take_next l i (by omega), List.map_append]
        rfl
      rw [loop_next key]
      exact own_loop l few j (i + 1) (by omega) (fun k hk => by
        by_cases e : k = i
        · subst e; exact c
        · exact hn k (by omega))
    · left
      refine loop_end ?_
      unfold lombardlaw30_AuthLoads.r0 lombardlaw30_AuthLoads.b0
      dsimp only
      rw [nth_me]
      rw [if_pos (decide_eq_true g.2), if_pos g, if_pos (by rw [decide_eq_true_eq]; unfold nam at c; omega), awake_is]
      rfl

/-! ### loading -/
/-- A member as it joins. -/
def low1 (m : Me) : Me := ⟨m.ID, m.Name, 1, 0, false⟩
theorem map_num (l : List Me) (k : Nat) : num (l.map low1) k = num l k := by
  unfold num
  rw [List.getD_eq_getElem?_getD, List.getElem?_map, List.getD_eq_getElem?_getD]
  cases l[k]? <;> rfl
theorem map_nam (l : List Me) (k : Nat) : nam (l.map low1) k = nam l k := by
  unfold nam
  rw [List.getD_eq_getElem?_getD, List.getElem?_map, List.getD_eq_getElem?_getD]
  cases l[k]? <;> rfl
theorem inv_low (l : List Me) (h : Inv l) : Inv (l.map low1) := by
  refine ⟨fun p q hpq hq => ?_, fun k hk => ?_, fun k hk => ?_, fun p q hpq hq => ?_⟩
  · rw [List.length_map] at hq; rw [map_num, map_num]; exact h.rise p q hpq hq
  · rw [List.length_map] at hk; rw [map_num]; exact h.ids k hk
  · rw [List.length_map] at hk; rw [map_nam]; exact h.names k hk
  · rw [List.length_map] at hq; rw [map_nam, map_nam]; exact h.one p q hpq hq
theorem jv_low (l : List Me) (id : Int) (s : Bs) : jv (l.map low1) id s = jv l id s := by
  unfold jv
  have e : (∃ k, k < (l.map low1).length ∧ (num (l.map low1) k = id ∨ fold (nam (l.map low1) k) = fold s)) = (∃ k, k < l.length ∧ (num l k = id ∨ fold (nam l k) = fold s)) := by
    congr 1; funext k; rw [List.length_map, map_num, map_nam]
  simp only [e]

/-- The last of a list, set. -/
theorem set_last (l : List Me) (x y : Me) : (l ++ [x]).set l.length y = l ++ [y] := by
  rw [List.set_append_right _ _ (Nat.le_refl _), Nat.sub_self]; rfl

theorem load_loop (l : List Me) (few : l.length ≤ 50) (hn : ∀ k, k < l.length → (nam l k).length ≤ 600) : ∀ (j i : Nat), l.length = i + j → Inv (l.take i) →
    (∃ e : Int, e ≠ 0 ∧ loop (auth_Load.r0 (l.map bk)) ((i : Int), true, (l.take i).map bk) = some (.inl (none, e)) ∧ loop (lombardref30_Load.r0 l) ((l.take i).map low1, (i : Int)) = some (.inl e)) ∨
    (Inv l ∧ loop (auth_Load.r0 (l.map bk)) ((i : Int), true, (l.take i).map bk) = some (.inr (true, l.map bk)) ∧ loop (lombardref30_Load.r0 l) ((l.take i).map low1, (i : Int)) = some (.inr ()))
  | 0, i, h, hv => by
    right
    rw [List.take_of_length_le (by omega)] at hv ⊢
    refine ⟨hv, loop_end ?_, loop_end ?_⟩
    · unfold auth_Load.r0 auth_Load.b0
      rw [if_neg (by simp; omega)]
    · unfold lombardref30_Load.r0 lombardref30_Load.b0
      rw [if_neg (by simp; omega)]
  | j + 1, i, h, hv => by
    have hi : i < l.length := by omega
    have g : (0 : Int) ≤ (i : Int) ∧ (i : Int) < (l.length : Int) := by omega
    have g' : (0 : Int) ≤ (i : Int) ∧ (i : Int) < ((l.map bk).length : Int) := by rw [List.length_map]; omega
    have wm : i > 0 → IntKind.i64.wrap ((i : Int) - 1) = ((i - 1 : Nat) : Int) := fun q => by rw [i64_idz _ (by omega) (by omega)]; omega
    have tl : (l.take i).length = i := by rw [List.length_take]; omega
    generalize hB : ((((((decide ((i : Int) > 0)) && (decide ((l.getD i default).ID ≤ (nth l (IntKind.wrap .i64 ((i : Int) - 1))).ID))) || (decide ((l.getD i default).State < 1))) || (decide ((l.getD i default).State > 3))) || (decide ((l.getD i default).Bound < 0))) || (decide ((l.getD i default).Bound > 1125899906842624))) = B
    have hB' : ((((((decide ((i : Int) > 0)) && (decide ((bk (l.getD i default)).ID ≤ (nth (l.map bk) (IntKind.wrap .i64 ((i : Int) - 1))).ID))) || (decide ((bk (l.getD i default)).State < 1))) || (decide ((bk (l.getD i default)).State > 3))) || (decide ((bk (l.getD i default)).Bound < 0))) || (decide ((bk (l.getD i default)).Bound > 1125899906842624))) = B := by
      rw [← hB]
      by_cases q : i > 0
      · rw [wm q, nth_bk, nth_me]; rfl
      · have z : decide ((i : Int) > 0) = false := decide_eq_false (by omega)
        rw [z]; rfl
    have gm : (decide ((i : Int) > 0)) = true → (0 : Int) ≤ (IntKind.wrap .i64 ((i : Int) - 1)) ∧ (IntKind.wrap .i64 ((i : Int) - 1)) < (l.length : Int) := fun q => by
      have q := of_decide_eq_true q; rw [wm (by omega)]; omega
    have gm' : (decide ((i : Int) > 0)) = true → (0 : Int) ≤ (IntKind.wrap .i64 ((i : Int) - 1)) ∧ (IntKind.wrap .i64 ((i : Int) - 1)) < ((l.map bk).length : Int) := by rw [List.length_map]; exact gm
    cases B with
    | true =>
      left
      refine ⟨1, by decide, loop_end ?_, loop_end ?_⟩
      · unfold auth_Load.r0 auth_Load.b0
        dsimp only
        rw [nth_bk]
        rw [if_pos (decide_eq_true g'.2), if_pos g', if_pos gm', if_pos hB']
      · unfold lombardref30_Load.r0 lombardref30_Load.b0
        dsimp only
        rw [nth_me]
        rw [if_pos (decide_eq_true g.2), if_pos g, if_pos gm, if_pos hB]
    | false =>
      obtain ⟨v, l', a1, a2, a3, a4, a5, a6⟩ := join_is (l.take i) (l.getD i default).ID (l.getD i default).Name hv (hn i hi)
      obtain ⟨w, m', b1, b2, b3, b4, b5, b6⟩ := join_is ((l.take i).map low1) (l.getD i default).ID (l.getD i default).Name (inv_low _ hv) (hn i hi)
      rw [jv_low, ← a6] at b6
      subst b6
      have a2' : auth_List_Join.f (⟨(l.take i).map bk, true⟩ : auth_List) (bk (l.getD i default)).ID (bk (l.getD i default)).Name = some (w, listOf l') := a2
      by_cases c : w = 0
      · subst c
        obtain ⟨p, p1, p2, p3⟩ := a5 rfl
        obtain ⟨q, q1, q2, q3⟩ := b5 rfl
        -- who comes is behind all others
        have up : ∀ k, k < i → num (l.take i) k < (l.getD i default).ID := by
          intro k hk
          have last : num (l.take i) (i - 1) < (l.getD i default).ID := by
            have q0 : decide ((i : Int) > 0) = true := decide_eq_true (by omega)
            have en : num (l.take i) (i - 1) = (l.getD (i - 1) default).ID := by
              unfold num; rw [List.getD_eq_getElem?_getD, List.getElem?_take, if_pos (by omega), ← List.getD_eq_getElem?_getD]
            simp only [q0, Bool.true_and, Bool.or_eq_false_iff, decide_eq_false_iff_not, wm (by omega : i > 0), nth_me] at hB
            rw [en]; omega
          by_cases e : k = i - 1
          · rw [e]; exact last
          · have := hv.rise k (i - 1) (by omega) (by omega); omega
        have ep : p = i := by
          rcases Nat.lt_or_ge p i with x | x
          · have := p3 p (Nat.le_refl _) (by omega); have := up p x; omega
          · omega
        have eq : q = i := by
          rw [List.length_map, tl] at q1
          rcases Nat.lt_or_ge q i with x | x
          · have := q3 q (Nat.le_refl _) (by rw [List.length_map]; omega)
            rw [map_num] at this
            have := up q x; omega
          · omega
        rw [ep] at p2
        rw [eq] at q2
        rw [List.take_of_length_le (by omega), List.drop_of_length_le (by omega), List.append_nil] at p2
        rw [List.take_of_length_le (by rw [List.length_map]; omega), List.drop_of_length_le (by rw [List.length_map]; omega), List.append_nil] at q2
        have k1 : auth_Load.r0 (l.map bk) ((i : Int), true, (l.take i).map bk) = some (.inl (((i + 1 : Nat) : Int), true, (l.take (i + 1)).map bk)) := by
          have e1 : (listOf l').l = (l.take i).map bk ++ [bk ⟨(l.getD i default).ID, (l.getD i default).Name, 1, 0, false⟩] := by rw [p2]; unfold listOf; rw [List.map_append]; rfl
          have e2 : (listOf l').l.length = i + 1 := by rw [e1, List.length_append, List.length_map, tl]; rfl
          have e3 : IntKind.i64.wrap (((listOf l').l.length : Int) - 1) = (i : Int) := by rw [e2, i64_idz _ (by omega) (by omega)]; omega
          have e4 : (listOf l').l.set i (bk (l.getD i default)) = (l.take (i + 1)).map bk := by
            rw [p2]; unfold listOf
            rw [take_next l i hi, List.map_append, List.map_append]
            have := List.set_append_right (s := (l.take i).map bk) (t := [bk (⟨(l.getD i default).ID, (l.getD i default).Name, 1, 0, false⟩ : Me)]) i (bk (l.getD i default)) (by rw [List.length_map, tl]; omega)
            rw [List.length_map, tl, Nat.sub_self] at this
            exact this
          unfold auth_Load.r0 auth_Load.b0
          dsimp only
          rw [nth_bk]
          rw [if_pos (decide_eq_true g'.2), if_pos g', if_pos gm', if_neg (by rw [hB']; decide), a2', Option.bind_some, if_neg (by simp), e3, if_pos (by rw [e2]; omega), i64_nx i (by omega), Int.toNat_natCast, e4]
          rfl
        have k2 : lombardref30_Load.r0 l ((l.take i).map low1, (i : Int)) = some (.inl ((l.take (i + 1)).map low1, ((i + 1 : Nat) : Int))) := by
          unfold lombardref30_Load.r0 lombardref30_Load.b0
          dsimp only
          rw [nth_me]
          rw [if_pos (decide_eq_true g.2), if_pos g, if_pos gm, if_neg (by rw [hB]; decide), b1, Option.bind_some, if_neg (by simp), i64_nx i (by omega), take_next l i hi, List.map_append, q2]
          rfl
        have iv : Inv (l.take (i + 1)) := by
          have en : ∀ k, num (l.take (i + 1)) k = num l' k := fun k => by
            rw [p2, take_next l i hi]
            unfold num
            by_cases x : k < i
            · simp only [List.getD_eq_getElem?_getD]; rw [List.getElem?_append_left (by omega), List.getElem?_append_left (by omega)]
            · simp only [List.getD_eq_getElem?_getD]; rw [List.getElem?_append_right (by omega), List.getElem?_append_right (by omega)]
              cases k - (l.take i).length <;> rfl
          have em : ∀ k, nam (l.take (i + 1)) k = nam l' k := fun k => by
            rw [p2, take_next l i hi]
            unfold nam
            by_cases x : k < i
            · simp only [List.getD_eq_getElem?_getD]; rw [List.getElem?_append_left (by omega), List.getElem?_append_left (by omega)]
            · simp only [List.getD_eq_getElem?_getD]; rw [List.getElem?_append_right (by omega), List.getElem?_append_right (by omega)]
              cases k - (l.take i).length <;> rfl
          have el : (l.take (i + 1)).length = l'.length := by
            rw [p2, List.length_append, tl, List.length_take, List.length_singleton]; omega
          refine ⟨fun x y hxy hy => ?_, fun k hk => ?_, fun k hk => ?_, fun x y hxy hy => ?_⟩
          · rw [en, en]; exact a3.rise x y hxy (by omega)
          · rw [en]; exact a3.ids k (by omega)
          · rw [em]; exact a3.names k (by omega)
          · rw [em, em]; exact a3.one x y hxy (by omega)
        rw [loop_next k1, loop_next k2]
        exact load_loop l few hn j (i + 1) (by omega) iv
      · left
        refine ⟨w, c, loop_end ?_, loop_end ?_⟩
        · unfold auth_Load.r0 auth_Load.b0
          dsimp only
          rw [nth_bk]
          rw [if_pos (decide_eq_true g'.2), if_pos g', if_pos gm', if_neg (by rw [hB']; decide), a2', Option.bind_some, if_pos (by simpa using c)]
        · unfold lombardref30_Load.r0 lombardref30_Load.b0
          dsimp only
          rw [nth_me]
          rw [if_pos (decide_eq_true g.2), if_pos g, if_pos gm, if_neg (by rw [hB]; decide), b1, Option.bind_some, if_pos (by simpa using c)]

theorem load_is (l : List Me) (few : l.length ≤ 50) (hn : ∀ k, k < l.length → (nam l k).length ≤ 600) :
    (∃ e : Int, e ≠ 0 ∧ auth_Load.f (l.map bk) = some (none, e) ∧ lombardref30_Load.f l = some e) ∨
    (Inv l ∧ auth_Load.f (l.map bk) = some (some (listOf l), 0) ∧ lombardref30_Load.f l = some 0) := by
  unfold auth_Load.f auth_New.f lombardref30_Load.f
  rw [Option.bind_some]
  rcases load_loop l few hn l.length 0 (by omega) (by simpa using inv_nil) with ⟨e, e1, e2, e3⟩ | ⟨e1, e2, e3⟩
  · have e2' : loop (auth_Load.r0 (l.map bk)) (0, true, []) = _ := e2
    have e3' : loop (lombardref30_Load.r0 l) ([], 0) = _ := e3
    exact .inl ⟨e, e1, by rw [e2']; rfl, by rw [e3']; rfl⟩
  · have e2' : loop (auth_Load.r0 (l.map bk)) (0, true, []) = _ := e2
    have e3' : loop (lombardref30_Load.r0 l) ([], 0) = _ := e3
    exact .inr ⟨e1, by rw [e2']; rfl, by rw [e3']; rfl⟩

theorem Pure.AuthLoads : ∀ (x0 : List lombardref30_Member), (x0.length * 48 ≤ reach ∧ ∀ y ∈ x0, lombardref30_Member.bd y) → lombardlaw30_AuthLoads.f x0 = some true := by
  intro l _
  unfold lombardlaw30_AuthLoads.f
  by_cases c : l.length ≤ 50
  · rw [if_neg (by simp; omega)]
    rcases own_loop l c l.length 0 (by omega) (fun k hk => by omega) with e | ⟨hn, e⟩
    · have e' : loop (lombardlaw30_AuthLoads.r0 l) (0, []) = _ := e
      rw [e']; rfl
    · have e' : loop (lombardlaw30_AuthLoads.r0 l) (0, []) = _ := e
      rw [e', Option.bind_some]
      dsimp only
      rcases load_is l c hn with ⟨v, v0, v1, v2⟩ | ⟨hv, v1, v2⟩
      · rw [v1, Option.bind_some]
        dsimp only
        have b : (v == 0) = false := by rw [beq_eq_false_iff_ne]; exact v0
        rw [v2, Option.bind_some, if_neg (by rw [b]; simp), if_pos (by simpa using v0), awake_is]
        rfl
      · rw [v1, Option.bind_some]
        dsimp only
        obtain ⟨w, l2, a1, a2, a3, _⟩ := join_is l 31 [79, 116, 104, 101, 114] hv (by decide)
        obtain ⟨u, l3, b1, b2, b3, _⟩ := default_is l2 1 0 false a3
        have cl : auth_List_Clone_v2.f (listOf l) = some (some (listOf l)) := by
          unfold auth_List_Clone_v2.f slices_Clone_auth_Member.f
          have e : (listOf l).l = l.map bk := rfl
          rw [if_neg (by intro h; cases h), e, if_pos (by rw [List.length_map]; omega)]
          rfl
        rw [v2, Option.bind_some, if_neg (by simp), if_neg (by simp), cl, Option.bind_some]
        dsimp only
        rw [a2, Option.bind_some]
        dsimp only
        rw [b2, Option.bind_some, all_is l (by omega), Option.bind_some, told_is l (by omega), Option.bind_some, mems_same l (by omega), Option.bind_some, if_pos rfl, awake_is]
        rfl
  · rw [if_pos (by simp; omega), awake_is]
    rfl
end Go.Proofs.YtjdkibnhlmgppaaGreat

