/- The plain statement of LifeRolls: how a trade rolls, and how many days it has left, the program's and the document's, are the same. -/
import Derived.Test.YtknfdnlhadjbaaaPuLife
import Derived.Test.YtknfdnlhadjbaaaGx14
namespace Go.Proofs.Ytknfdnlhadjbaaa
open Go Go.Pm Go.Pm.Arith
set_option linter.unusedVariables false
set_option linter.unusedSimpArgs false

theorem left_is (x : api_Trade) (h : Stands x) (d : Int) (hd : inI64 d) : ∃ r, life_Left.f x d = some r ∧ lombardref24_Left.f x d = some r := by
  unfold life_Left.f lombardref24_Left.f life_Open.f
  rw [Option.bind_some]
  by_cases z : x.End = 0
  · have z' : (x.End == 0) = true := by simpa using z
    simp only [z', if_true]
    exact ⟨_, rfl, rfl⟩
  · have z' : (x.End == 0) = false := by simpa using z
    simp only [z', Bool.false_eq_true, if_false]
    have f : 0 ≤ x.End ∧ x.End ≤ 200000 := by
      rcases h.fin with k | k
      · exact absurd k z
      · exact ⟨k.1, k.2.1⟩
    unfold inI64 at hd
    have s0 := h.start
    have e1 : 1 ≤ x.End := by
      rcases h.fin with k | k
      · exact absurd k z
      · omega
    have A : (if (decide (d < 0)) = true then some 0 else some d : Option Int) = some (max d 0) := by
      by_cases k : d < 0
      · rw [if_pos (decide_eq_true k)]; congr 1; omega
      · rw [if_neg (by simpa using k)]; congr 1; omega
    rw [A, Option.bind_some]
    have m1 : minI d 200000 = min d 200000 := by unfold minI; split <;> omega
    have m2 : maxI 0 (min d 200000) = max 0 (min d 200000) := by unfold maxI; split <;> omega
    rw [m1, m2, i64_id _ (by omega) (by omega)]
    have m3 : maxI 0 (x.End - max 0 (min d 200000)) = max 0 (x.End - max 0 (min d 200000)) := by unfold maxI; split <;> omega
    rw [m3]
    by_cases k : max d 0 ≥ x.End
    · rw [if_pos (decide_eq_true k)]
      exact ⟨0, by congr 1; omega, rfl⟩
    · rw [if_neg (by simpa using k), i64_id _ (by omega) (by omega)]
      exact ⟨_, rfl, by congr 1; omega⟩

theorem roll_is (x y : api_Trade) (d r : Int) : ∃ z, life_Roll.f x y d r = some z ∧ lombardref24_Roll.f x y d r = some z := by
  have e : lombardref24_Roll.f x y d r = life_Roll.f x y d r := rfl
  rw [e]
  have t : ∃ z, life_Roll.f x y d r = some z := by
    unfold life_Roll.f life_Open.f life_Live.f
    rw [goodCal, Option.bind_some]
    obtain ⟨c, hc, -⟩ := and_then (p := (x.End == 0) = false) (m := some ((x.Stage == 2) || (x.Stage == 3))) rfl
    rw [hc, Option.bind_some]
    split
    · exact ⟨_, rfl⟩
    · split
      · exact ⟨_, rfl⟩
      · rw [Option.bind_some]
        split
        · exact ⟨_, rfl⟩
        · exact ⟨_, rfl⟩
  obtain ⟨z, hz⟩ := t
  exact ⟨z, hz, hz⟩

theorem Pure.LifeRolls : ∀ (x0 : api_Trade) (x1 : api_Trade) (x2 : Int) (x3 : Int) (x4 : Int), (api_Trade.bd x0) → (api_Trade.bd x1) → (inK .i64 x2) → (inK .i64 x3) → (inK .i64 x4) → lombardlaw24_LifeRolls.f x0 x1 x2 x3 x4 = some true := by
  intro x y d e r hx hy hd _ _
  obtain ⟨b, hb, k⟩ := good24 x hx
  obtain ⟨c, hc, _⟩ := good24 y hy
  unfold lombardlaw24_LifeRolls.f
  rw [hb, hc, awake_is, Option.bind_some]
  cases b with
  | false => rfl
  | true =>
    cases c with
    | false => rfl
    | true =>
      obtain ⟨z, h1, h2⟩ := roll_is x y e r
      obtain ⟨w, h3, h4⟩ := left_is x (k rfl) d (in64 hd)
      rw [h1, h2, h3, h4]
      simp

end Go.Proofs.Ytknfdnlhadjbaaa

