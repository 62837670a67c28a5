/- Shows that two amounts together are worth at least what they are apart and at most 1 more, for every two amounts and every price, of the printed functions. -/
import Derived.Test.YtkcjlpiaaklnkaaFixMAssetMore
namespace Go.Proofs.Ytkcjlpiaaklnkaa.Pure
open Go.RowKit Go.Proofs.Ytkcjlpiaaklnkaa.PAssetMore Go.Proofs.YtkcjlpiaaklnkaaW.PrintWords Go.Proofs.YtkcjlpiaaklnkaaW.PrintLast
set_option linter.unusedVariables false
set_option linter.unusedSimpArgs false

theorem awake_is (k : Nat) (hk : 65 < k) : lombardlaw13_awake.f k = some true := by
  unfold lombardlaw13_awake.f
  rw [worth_is k hk, worth_is k hk]
  rfl

theorem j0_true (k : Nat) (hk : 65 < k) (a b p : Int) : lombardlaw13_AssetMore.j0 (k + 1) a b p true = some true := by
  rw [lombardlaw13_AssetMore.j0, if_pos rfl, awake_is k hk]; rfl

theorem AssetMore : lombardlaw13_AssetMore.Pure := by
  intro a b p wa wb wp
  refine ⟨80, ?_⟩
  unfold lombardlaw13_AssetMore.f
  by_cases h1 : a < 0
  · rw [if_pos h1, j0_true _ (by decide)]
  by_cases h2 : b < 0
  · rw [if_neg h1, if_pos h2, j0_true _ (by decide)]
  by_cases h3 : a > 562949953421312
  · rw [if_neg h1, if_neg h2, if_pos h3, j0_true _ (by decide)]
  by_cases h4 : b > 562949953421312
  · rw [if_neg h1, if_neg h2, if_neg h3, decide_eq_true h4, j0_true _ (by decide)]
  rw [if_neg h1, if_neg h2, if_neg h3, decide_eq_false h4, lombardlaw13_AssetMore.j0, if_neg (by decide)]
  have hw : wrap64 (a + b) = a + b := by unfold wrap64; omega
  rw [worth_is _ (by decide), worth_is _ (by decide), worth_is _ (by decide), hw]
  simp only [Option.bind_some]
  by_cases hp : p < 1 ∨ p > 4294967296
  · have e : ∀ q, worth q p = (0, 1) := fun q => by unfold worth; rw [if_pos (by omega)]
    simp only [e]
    rw [if_neg (by decide), lombardlaw13_AssetMore.j1, if_pos rfl]
    rw [awake_is _ (by decide)]
    rfl
  · have e : ∀ q, 0 ≤ q → q ≤ 1125899906842624 → worth q p = (q * p / 1000000, 0) := fun q h h' => by unfold worth; rw [if_neg (by omega)]
    rw [e a (by omega) (by omega), e b (by omega) (by omega), e (a + b) (by omega) (by omega)]
    simp only
    rw [if_pos trivial, if_pos trivial, show ((0 : Int) != 0) = false from rfl, lombardlaw13_AssetMore.j1, if_neg (by decide), awake_is _ (by decide)]
    have ha0 : 0 ≤ a * p := Int.mul_nonneg (by omega) (by omega)
    have hb0 : 0 ≤ b * p := Int.mul_nonneg (by omega) (by omega)
    have ha1 : a * p ≤ 562949953421312 * 4294967296 := Int.mul_le_mul (by omega) (by omega) (by omega) (by decide)
    have hb1 : b * p ≤ 562949953421312 * 4294967296 := Int.mul_le_mul (by omega) (by omega) (by omega) (by decide)
    rw [Int.add_mul]
    generalize a * p = x at *
    generalize b * p = y at *
    have w1 : wrap64 (x / 1000000 + y / 1000000) = x / 1000000 + y / 1000000 := by unfold wrap64; omega
    have w2 : wrap64 (x / 1000000 + y / 1000000 + 1) = x / 1000000 + y / 1000000 + 1 := by unfold wrap64; omega
    rw [w1, w2, if_pos (by omega), if_pos (by omega), if_pos (by omega), if_pos (by omega)]
    rfl

end Go.Proofs.Ytkcjlpiaaklnkaa.Pure
