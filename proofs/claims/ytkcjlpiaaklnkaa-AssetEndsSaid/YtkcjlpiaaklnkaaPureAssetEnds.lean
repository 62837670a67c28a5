/- The plain statement of AssetEnds. -/
import Derived.Test.YtkcjlpiaaklnkaaPuFill13
namespace Go.Proofs.Ytkcjlpiaaklnkaa
open Go Go.Pm Go.Pm.Arith
set_option linter.unusedVariables false
set_option linter.unusedSimpArgs false

theorem left_same (a : api_Asset) (d : Int) : ∃ v, asset_Left.f a d = some v ∧ lombardref13_Left.f a d = some v := by
  unfold asset_Left.f lombardref13_Left.f
  split
  · exact ⟨_, rfl, rfl⟩
  · exact ⟨_, rfl, rfl⟩

theorem ending_loop (l : List Kn) (d : Int) (few : l.length ≤ 64) : ∀ (j i : Nat) (acc : List Bs), l.length = i + j → acc.length ≤ i →
    ∃ out : List Bs, out.length ≤ 64 ∧ loop (asset_Book_Ending.r0 (bookOf l) d) ((i : Int), acc) = some out ∧ loop (lombardref13_Ending.r0 l d) ((i : Int), acc) = some out
  | 0, i, acc, h, ha => by
    refine ⟨acc, by omega, loop_end ?_, loop_end ?_⟩
    · unfold asset_Book_Ending.r0 asset_Book_Ending.b0 bookOf
      rw [if_neg (by simp; omega)]
    · unfold lombardref13_Ending.r0 lombardref13_Ending.b0
      rw [if_neg (by simp; omega)]
  | j + 1, i, acc, h, ha => by
    obtain ⟨v, v1, v2⟩ := left_same (l.getD i default).A d
    have hl : (i : Int) < ((bookOf l).l.length : Int) := by show (i : Int) < ((l.map _).length : Int); rw [List.length_map]; omega
    have nl : nth (bookOf l).l (i : Int) = (l.getD i default).A := nth_as l i
    by_cases c : v ≤ 0
    · have k1 : asset_Book_Ending.r0 (bookOf l) d ((i : Int), acc) = some (.inl (((i + 1 : Nat) : Int), acc ++ [(l.getD i default).A.ISIN])) := by
        unfold asset_Book_Ending.r0 asset_Book_Ending.b0
        simp only
        rw [if_pos (decide_eq_true hl), if_pos ⟨by omega, hl⟩, nl, v1, Option.bind_some, if_pos (decide_eq_true c), if_pos (by simp only [List.length_singleton]; omega), i64_nx i (by omega)]
      have k2 : lombardref13_Ending.r0 l d ((i : Int), acc) = some (.inl (((i + 1 : Nat) : Int), acc ++ [(l.getD i default).A.ISIN])) := by
        unfold lombardref13_Ending.r0 lombardref13_Ending.b0
        simp only [nth_kn]
        rw [if_pos (decide_eq_true (by omega)), if_pos (by omega), v2, Option.bind_some, if_pos (decide_eq_true c), if_pos (by omega), if_pos (by simp only [List.length_singleton]; omega), i64_nx i (by omega)]
      rw [loop_next k1, loop_next k2]
      exact ending_loop l d few j (i + 1) _ (by omega) (by simp only [List.length_append, List.length_singleton]; omega)
    · have k1 : asset_Book_Ending.r0 (bookOf l) d ((i : Int), acc) = some (.inl (((i + 1 : Nat) : Int), acc)) := by
        unfold asset_Book_Ending.r0 asset_Book_Ending.b0
        simp only
        rw [if_pos (decide_eq_true hl), if_pos ⟨by omega, hl⟩, nl, v1, Option.bind_some, if_neg (by simpa using c), i64_nx i (by omega)]
      have k2 : lombardref13_Ending.r0 l d ((i : Int), acc) = some (.inl (((i + 1 : Nat) : Int), acc)) := by
        unfold lombardref13_Ending.r0 lombardref13_Ending.b0
        simp only [nth_kn]
        rw [if_pos (decide_eq_true (by omega)), if_pos (by omega), v2, Option.bind_some, if_neg (by simpa using c), i64_nx i (by omega)]
      rw [loop_next k1, loop_next k2]
      exact ending_loop l d few j (i + 1) acc (by omega) (by omega)

theorem texts_loop (l : List Bs) (few : l.length ≤ 1000) : ∀ (j i : Nat), l.length = i + j → loop (lombardref07_Texts.r0 l l) (i : Int) = some (.inr ())
  | 0, i, h => loop_end (by unfold lombardref07_Texts.r0 lombardref07_Texts.b0; rw [if_neg (by simp; omega)])
  | j + 1, i, h => by
    have key : lombardref07_Texts.r0 l l (i : Int) = some (.inl ((i + 1 : Nat) : Int)) := by
      unfold lombardref07_Texts.r0 lombardref07_Texts.b0
      rw [if_pos (decide_eq_true (by omega)), if_pos (by omega), if_pos (by omega), if_neg (by simp), i64_nx i (by omega)]
    rw [loop_next key]
    exact texts_loop l few j (i + 1) (by omega)

theorem texts_is (l : List Bs) (few : l.length ≤ 1000) : lombardref07_Texts.f l l = some true := by
  have h : loop (lombardref07_Texts.r0 l l) 0 = _ := texts_loop l few l.length 0 (by omega)
  unfold lombardref07_Texts.f
  rw [if_neg (by simp), h]; rfl

theorem Pure.AssetEnds : ∀ (x0 : List lombardlaw13_Act) (x1 : api_Asset) (x2 : Int), (x0.length * 88 ≤ reach ∧ ∀ y ∈ x0, lombardlaw13_Act.bd y) → (api_Asset.bd x1) → (inK .i64 x2) → lombardlaw13_AssetEnds.f x0 x1 x2 = some true := by
  intro acts a d _ _ _
  obtain ⟨l, h, e⟩ := filled_is acts
  have few := h.few
  unfold lombardlaw13_AssetEnds.f
  rw [e, Option.bind_some]
  simp only
  by_cases c : (((!true) || (decide (a.Maturity < 0))) || (decide (a.Maturity > 200000))) = true
  · rw [if_pos c, if_pos trivial, awake_is]; rfl
  · rw [if_neg c]
    obtain ⟨v, v1, v2⟩ := left_same a d
    obtain ⟨out, o1, o2, o3⟩ := ending_loop l d few l.length 0 [] (by omega) (by simp)
    have o2' : loop (asset_Book_Ending.r0 (bookOf l) d) (0, []) = some out := o2
    have o3' : loop (lombardref13_Ending.r0 l d) (0, []) = some out := o3
    rw [v1, v2]
    simp only [Option.bind_some]
    unfold asset_Book_Ending.f lombardref13_Ending.f
    rw [o2', o3']
    simp only [beq_self_eq_true, if_true, Option.bind_some]
    rw [texts_is out (by omega), Option.bind_some, if_pos (by rfl), awake_is]; rfl

end Go.Proofs.Ytkcjlpiaaklnkaa

