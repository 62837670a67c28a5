/- Shows that a book shows just what the document's list holds. -/
import Derived.Test.YtkcjlpiaaklnkaaPuFill13
import Derived.Test.YtkcjlpiaaklnkaaGx1
namespace Go.Proofs.Ytkcjlpiaaklnkaa
open Go Go.Pm Go.Pm.Arith
set_option linter.unusedVariables false
set_option linter.unusedSimpArgs false

/-- The prices of a book. -/
def pr (l : List Kn) : List api_Price := (l.filter (fun k => decide (k.Price > 0))).map (fun k => ⟨k.A.ISIN, k.Price⟩)

theorem pr_app (a b : List Kn) : pr (a ++ b) = pr a ++ pr b := by unfold pr; rw [List.filter_append, List.map_append]
theorem pr_one (x : Kn) : pr [x] = if x.Price > 0 then [⟨x.A.ISIN, x.Price⟩] else [] := by
  unfold pr
  by_cases c : x.Price > 0
  · rw [if_pos c, List.filter_cons, if_pos (decide_eq_true c)]; rfl
  · rw [if_neg c, List.filter_cons, if_neg (by simpa using c)]; rfl
theorem pr_len (l : List Kn) : (pr l).length ≤ l.length := by
  unfold pr; rw [List.length_map]; exact List.length_filter_le _ _
theorem take_one (l : List Kn) (i : Nat) (h : i < l.length) : l.take (i + 1) = l.take i ++ [l.getD i default] := by
  rw [List.take_add_one, List.getElem?_eq_getElem h, List.getD_eq_getElem?_getD, List.getElem?_eq_getElem h]; rfl
theorem pr_next (l : List Kn) (i : Nat) (h : i < l.length) : pr (l.take (i + 1)) = pr (l.take i) ++ (if (l.getD i default).Price > 0 then [⟨(l.getD i default).A.ISIN, (l.getD i default).Price⟩] else []) := by
  rw [take_one l i h, pr_app, pr_one]
theorem pr_all (l : List Kn) (i : Nat) (h : i < l.length) : pr l = pr (l.take (i + 1)) ++ pr (l.drop (i + 1)) := by
  rw [← pr_app, List.take_append_drop]

theorem prices_loop (l : List Kn) (few : l.length ≤ 64) : ∀ (j i : Nat), l.length = i + j → loop (asset_Book_Prices.r0 (bookOf l)) ((i : Int), pr (l.take i)) = some (pr l)
  | 0, i, h => by
    refine loop_end ?_
    unfold asset_Book_Prices.r0 asset_Book_Prices.b0 bookOf
    rw [if_neg (by simp; omega), List.take_of_length_le (by omega)]
  | j + 1, i, h => by
    have hl : (0 : Int) ≤ (i : Int) ∧ (i : Int) < ((bookOf l).l.length : Int) := by show _ ∧ (i : Int) < ((l.map _).length : Int); rw [List.length_map]; omega
    have hp : (0 : Int) ≤ (i : Int) ∧ (i : Int) < ((bookOf l).prices.length : Int) := by show _ ∧ (i : Int) < ((l.map _).length : Int); rw [List.length_map]; omega
    have nl : nth (bookOf l).l (i : Int) = (l.getD i default).A := nth_as l i
    have np : nth (bookOf l).prices (i : Int) = (l.getD i default).Price := nth_pr l i
    have len := pr_len (l.take i)
    have len2 : (l.take i).length ≤ i := by rw [List.length_take]; omega
    have key : asset_Book_Prices.r0 (bookOf l) ((i : Int), pr (l.take i)) = some (.inl (((i + 1 : Nat) : Int), pr (l.take (i + 1)))) := by
      unfold asset_Book_Prices.r0 asset_Book_Prices.b0
      simp only [nl, np]
      rw [if_pos (decide_eq_true hl.2), if_pos hl, if_pos hp, i64_nx i (by omega), pr_next l i (by omega)]
      by_cases c : (l.getD i default).Price > 0
      · rw [if_pos (decide_eq_true c), if_pos hp, if_pos (by simp only [List.length_singleton]; omega), if_pos c]
      · rw [if_neg (by simpa using c), if_neg c, List.append_nil]
    rw [loop_next key]
    exact prices_loop l few j (i + 1) (by omega)

theorem shows_loop (l : List Kn) (few : l.length ≤ 64) : ∀ (j i : Nat), l.length = i + j → loop (lombardlaw13_shows.r0 l (l.map (·.A)) (pr l)) (((pr (l.take i)).length : Int), (i : Int)) = some (.inr ((pr l).length : Int))
  | 0, i, h => by
    refine loop_end ?_
    unfold lombardlaw13_shows.r0 lombardlaw13_shows.b0
    rw [if_neg (by simp; omega), List.take_of_length_le (by omega)]
  | j + 1, i, h => by
    have hm : (0 : Int) ≤ (i : Int) ∧ (i : Int) < ((l.map (fun k : Kn => k.A)).length : Int) := by rw [List.length_map]; omega
    have hl : (0 : Int) ≤ (i : Int) ∧ (i : Int) < (l.length : Int) := by omega
    have len := pr_len (l.take i)
    have len2 : (l.take i).length ≤ i := by rw [List.length_take]; omega
    have key : lombardlaw13_shows.r0 l (l.map (·.A)) (pr l) (((pr (l.take i)).length : Int), (i : Int)) = some (.inl (((pr (l.take (i + 1))).length : Int), ((i + 1 : Nat) : Int))) := by
      have na : nth (l.map (fun k : Kn => k.A)) (i : Int) = (nth l (i : Int)).A := nth_as l i
      have e : pr (l.take (i + 1)) = pr (l.take i) ++ (if (nth l (i : Int)).Price > 0 then [⟨(nth l (i : Int)).A.ISIN, (nth l (i : Int)).Price⟩] else []) := pr_next l i (by omega)
      have a := pr_all l i (by omega)
      unfold lombardlaw13_shows.r0 lombardlaw13_shows.b0
      simp only
      rw [if_pos (decide_eq_true hl.2), if_pos hm, if_pos hl, na, if_neg (by simp), if_pos hl, i64_nx i (by omega)]
      generalize nth l (i : Int) = x at e
      by_cases c : x.Price > 0
      · rw [if_pos c] at e
        have a2 := congrArg List.length a
        rw [e] at a a2
        simp only [List.length_append, List.length_singleton] at a2
        have n1 : nth (pr l) ((pr (l.take i)).length : Int) = ⟨x.A.ISIN, x.Price⟩ := by
          show (pr l).getD (pr (l.take i)).length default = _
          rw [a, List.append_assoc, List.getD_eq_getElem?_getD, List.getElem?_append_right (Nat.le_refl _), Nat.sub_self]; rfl
        have d : decide (((pr (l.take i)).length : Int) ≥ ((pr l).length : Int)) = false := decide_eq_false (by omega)
        rw [if_pos (decide_eq_true c), if_pos (fun _ => by omega), if_pos (fun _ => hl), if_pos (fun _ => hl), d, n1, if_neg (by simp), i64_nx _ (by omega), e]
        simp only [List.length_append, List.length_singleton]
      · rw [if_neg (fun h => c (of_decide_eq_true h)), e, if_neg c, List.append_nil]
    rw [loop_next key]
    exact shows_loop l few j (i + 1) (by omega)

theorem shows_is (l : List Kn) (few : l.length ≤ 64) : lombardlaw13_shows.f (bookOf l) l = some true := by
  have h1 : loop (asset_Book_Prices.r0 (bookOf l)) (0, []) = some (pr l) := prices_loop l few l.length 0 (by omega)
  have h2 : loop (lombardlaw13_shows.r0 l (l.map (·.A)) (pr l)) (0, 0) = _ := shows_loop l few l.length 0 (by omega)
  have h3 : asset_Book_All.f (bookOf l) = some (l.map (·.A)) := by
    unfold asset_Book_All.f slices_Clone_api_Asset.f bookOf
    rw [if_pos (by simp only [List.length_map]; omega)]; rfl
  unfold lombardlaw13_shows.f asset_Book_Prices.f
  rw [h3, h1, Option.bind_some, Option.bind_some, Option.bind_some, if_neg (by simp), h2, Option.bind_some]
  simp

end Go.Proofs.Ytkcjlpiaaklnkaa

