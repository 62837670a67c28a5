/- The plain statement of AssetApart: a clone knows nothing of what is done to a book, and no book has nothing. -/
import Derived.Test.YtkcjlpiaaklnkaaPuShow13
import Derived.Test.YtkcjlpiaaklnkaaGx2
namespace Go.Proofs.Ytkcjlpiaaklnkaa
open Go Go.Pm Go.Pm.Arith
set_option linter.unusedVariables false
set_option linter.unusedSimpArgs false
set_option maxRecDepth 100000

theorem search_nil (d : Bs) : slices_BinarySearchFunc_string__asset_Book_place_1.f [] d = some (0, false) := by
  have e : loop (slices_BinarySearchFunc_string__asset_Book_place_1.r0 [] d) (0, ((List.length ([] : List api_Asset) : Nat) : Int)) = some 0 := loop_end (by
    unfold slices_BinarySearchFunc_string__asset_Book_place_1.r0 slices_BinarySearchFunc_string__asset_Book_place_1.b0
    rw [if_neg (by decide)])
  unfold slices_BinarySearchFunc_string__asset_Book_place_1.f
  rw [e]; rfl
abbrev none0 : asset_Book := ⟨[], [], false⟩
theorem get_nil (d : Bs) : asset_Book_Get_v2.f none0 d = some (⟨[], 0, 0, 0, []⟩, false) := by
  unfold asset_Book_Get_v2.f asset_Book_place.f
  rw [search_nil]; rfl
theorem prices_nil : asset_Book_Prices.f none0 = some [] := by
  have e : loop (asset_Book_Prices.r0 none0) (0, []) = some [] := loop_end (by
    unfold asset_Book_Prices.r0 asset_Book_Prices.b0
    rw [if_neg (by decide)])
  unfold asset_Book_Prices.f
  rw [e]; rfl
theorem ending_nil : asset_Book_Ending_v2.f none0 5 = some [] := by
  have e : loop (asset_Book_Ending_v2.r0 none0 5) (0, []) = some [] := loop_end (by
    unfold asset_Book_Ending_v2.r0 asset_Book_Ending_v2.b0
    rw [if_neg (by decide)])
  unfold asset_Book_Ending_v2.f
  rw [e]; rfl

theorem clone_is (l : List Kn) (few : l.length ≤ 64) : asset_Book_Clone.f (bookOf l) = some (bookOf l) := by
  unfold asset_Book_Clone.f slices_Clone_api_Asset.f slices_Clone_int.f bookOf
  rw [if_pos (by simp only [List.length_map]; omega), Option.bind_some, if_pos (by simp only [List.length_map]; omega)]
  rfl

theorem more_loop (acts : List lombardlaw13_Act) : ∀ (n i : Nat) (l : List Kn), (acts.length = i + n ∨ 30 ≤ i + n) → i ≤ 30 → Inv l →
    loop (lombardlaw13_AssetApart.r0 acts) ((i : Int), true, l.map (·.A), l.map (·.Price)) = some ()
  | n, i, l, h, hi, hv => by
    by_cases c : i < acts.length ∧ i < 30
    · obtain ⟨n, rfl⟩ : ∃ m, n = m + 1 := ⟨n - 1, by omega⟩
      have g : (0 : Int) ≤ (i : Int) ∧ (i : Int) < (acts.length : Int) := by omega
      have key : ∃ l', Inv l' ∧ lombardlaw13_AssetApart.r0 acts ((i : Int), true, l.map (·.A), l.map (·.Price)) = some (.inl (((i + 1 : Nat) : Int), true, l'.map (·.A), l'.map (·.Price))) := by
        obtain ⟨v, l1, _, e1, v1⟩ := addA_is l (nth acts (i : Int)).Asset hv
        have e1' : asset_Book_Add.f (⟨l.map (·.A), l.map (·.Price), true⟩ : asset_Book) (nth acts (i : Int)).Asset = some (v, bookOf l1) := e1
        unfold lombardlaw13_AssetApart.r0 lombardlaw13_AssetApart.b0
        dsimp only
        rw [if_pos (by simp; omega), if_pos g, e1', Option.bind_some, if_pos g, i64_nx i (by omega)]
        by_cases s : (decide (((nth acts (i : Int)).Prices.length : Int) ≤ 100)) = true
        · obtain ⟨m, e, l2, _, e2, v2⟩ := set_is l1 (nth acts (i : Int)).Prices v1 (by have := of_decide_eq_true s; omega)
          rw [if_pos s, if_pos g]
          dsimp only
          rw [e2, Option.bind_some]
          exact ⟨l2, v2, rfl⟩
        · rw [if_neg s]
          exact ⟨l1, v1, rfl⟩
      obtain ⟨l', v', e⟩ := key
      rw [loop_next e]
      exact more_loop acts n (i + 1) l' (by omega) (by omega) v'
    · refine loop_end ?_
      unfold lombardlaw13_AssetApart.r0 lombardlaw13_AssetApart.b0
      dsimp only
      rw [if_neg (by simp; omega)]

theorem Pure.AssetApart : ∀ (x0 : List lombardlaw13_Act) (x1 : List lombardlaw13_Act) (x2 : Bs), (x0.length * 88 ≤ reach ∧ ∀ y ∈ x0, lombardlaw13_Act.bd y) → (x1.length * 88 ≤ reach ∧ ∀ y ∈ x1, lombardlaw13_Act.bd y) → (x2.length ≤ reach) → lombardlaw13_AssetApart.f x0 x1 x2 = some true := by
  intro acts more d _ _ _
  obtain ⟨l, h, e⟩ := filled_is acts
  have mo : loop (lombardlaw13_AssetApart.r0 more) (0, (bookOf l).made, (bookOf l).l, (bookOf l).prices) = some () := more_loop more (more.length + 30) 0 l (by omega) (by omega) h
  have k0 : lombardlaw13_AssetApart.r1 d 0 = some (.inl 1) := by kernel_rfl
  have k1 : lombardlaw13_AssetApart.r1 d 1 = some (.inl 2) := by
    unfold lombardlaw13_AssetApart.r1 lombardlaw13_AssetApart.b1
    have e : nth [none, (some (⟨[], [], false⟩ : asset_Book))] 1 = some none0 := rfl
    rw [if_pos (by decide), if_pos (by decide), e]
    dsimp only
    have a : asset_Book_Set_v3.f none0 [] = some (0, 3) := rfl
    have b : asset_Book_Value_v2.f none0 (⟨d, 0⟩ : api_Lot) = some (0, 3) := rfl
    have c : asset_Book_Add_v3.f none0 (⟨[], 0, 0, 0, []⟩ : api_Asset) = some 3 := rfl
    have f : asset_Book_All.f none0 = some [] := rfl
    rw [a, Option.bind_some, b, Option.bind_some, get_nil, Option.bind_some, if_pos (by rfl), c, Option.bind_some, if_pos (by rfl), f, Option.bind_some, if_pos (by rfl), prices_nil, Option.bind_some, if_pos (by rfl), ending_nil, Option.bind_some, if_neg (by decide)]
    rfl
  have k2 : lombardlaw13_AssetApart.r1 d 2 = some (.inr (.inr ())) := by
    unfold lombardlaw13_AssetApart.r1 lombardlaw13_AssetApart.b1
    rw [if_neg (by decide)]
  unfold lombardlaw13_AssetApart.f
  rw [e, Option.bind_some]
  dsimp only
  rw [if_neg (by decide), clone_is l h.few, Option.bind_some, mo, Option.bind_some, shows_is l h.few, Option.bind_some, if_neg (by decide), loop_next k0, loop_next k1, loop_end k2, Option.bind_some]
  dsimp only
  rw [awake_is]; rfl
end Go.Proofs.Ytkcjlpiaaklnkaa

