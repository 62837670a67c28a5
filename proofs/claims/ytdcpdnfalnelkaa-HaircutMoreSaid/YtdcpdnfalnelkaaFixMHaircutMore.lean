/- Shows, in plain whole numbers, what the printed divided product tells for every argument, and what a quantity is worth. -/
import Derived.Test.YtdcpdnfalnelkaaFixTHaircutMore
namespace Go.Proofs.Ytdcpdnfalnelkaa.PHaircutMore
open Go.RowKit Go.Proofs.YtdcpdnfalnelkaaW.PrintWords Go.Proofs.YtdcpdnfalnelkaaW.PrintLast Go.Proofs.YtdcpdnfalnelkaaW.PrintMore Go.Pm.Arith
set_option linter.unusedVariables false
set_option linter.unusedSimpArgs false

/-- A product of two that are not below 0, divided by one above 0, rounded down. -/
theorem muldiv_floor (k : Nat) (hk : 65 < k) (a b c : Int) (ha : 0 ≤ a) (ha' : a < 9223372036854775808) (hb : 0 ≤ b) (hb' : b < 9223372036854775808) (hc : 0 < c) (hc' : c < 9223372036854775808)
    (hq : a * b / c < 9223372036854775808) : fixnum_MulDiv.f k a b c 1 = some (a * b / c, 0) := by
  obtain ⟨k, rfl⟩ : ∃ n, k = n + 1 := ⟨k - 1, by omega⟩
  have hz : 0 ≤ a * b := Int.mul_nonneg ha hb
  have hz' : a * b ≤ 9223372036854775807 * 9223372036854775807 := Int.mul_le_mul (by omega) (by omega) hb (by decide)
  have hh : hiOf a b * 18446744073709551616 + loOf a b = a * b := by unfold hiOf loOf; omega
  have h1 : 0 ≤ hiOf a b := by unfold hiOf; omega
  have h2 : hiOf a b < 18446744073709551616 := by unfold hiOf; omega
  have h3 : 0 ≤ loOf a b := by unfold loOf; omega
  have h4 : loOf a b < 18446744073709551616 := by unfold loOf; omega
  -- the high half of the quotient is 0
  have hlt : hiOf a b < c := by
    by_cases h : c ≤ hiOf a b
    · exfalso
      have : 18446744073709551616 ≤ a * b / c := by
        rw [Int.le_ediv_iff_mul_le hc]
        omega
      omega
    · omega
  have e1 : hiOf a b / c = 0 := Int.ediv_eq_zero_of_lt h1 hlt
  have e2 : hiOf a b % c = hiOf a b := Int.emod_eq_of_lt h1 hlt
  have hq0 : 0 ≤ a * b / c := Int.ediv_nonneg hz (by omega)
  have nc : ((c.natAbs : Nat) : Int) = c := by omega
  have na : ((a.natAbs : Nat) : Int) = a := by omega
  have nb : ((b.natAbs : Nat) : Int) = b := by omega
  unfold fixnum_MulDiv.f
  rw [if_neg (by omega), if_neg (by omega)]
  rw [fixnum_MulDiv.j0]
  rw [if_neg (by decide), size_is a (by omega) (by omega), size_is b (by omega) (by omega), size_is c (by omega) (by omega)]
  simp only [Option.bind_some, na, nb, nc, show decide (a < 0) = false from decide_eq_false (by omega), show decide (b < 0) = false from decide_eq_false (by omega), show decide (c < 0) = false from decide_eq_false (by omega)]
  rw [mul_is a b ha (by omega) hb (by omega)]
  simp only [Option.bind_some]
  rw [div_is k (by omega) _ _ c hc (by omega) h1 h2 h3 h4, e1, e2, hh]
  simp only [Option.bind_some]
  rw [if_neg (by omega)]
  have hup : fixnum_up.f (a * b / c) (a * b % c) c ((false != false) != false) 1 = some false := by
    unfold fixnum_up.f; split <;> rfl
  rw [hup]
  simp only [Option.bind_some]
  rw [if_neg (by decide)]
  obtain ⟨k, rfl⟩ : ∃ n, k = n + 1 := ⟨k - 1, by omega⟩
  have hs : fixnum_signed.f (k + 1) (a * b / c) ((false != false) != false) = some (a * b / c, 0) := by
    unfold fixnum_signed.f
    rw [if_neg (by decide)]
    rw [fixnum_signed.j0]
    rw [if_neg (by decide), if_neg (by omega), if_neg (by decide)]
    have : wrap64 (a * b / c) = a * b / c := by unfold wrap64; omega
    rw [this]
  rw [hs]
  rfl

/-- What a quantity is worth at a price; it comes with the fault. -/
def worth (q p : Int) : Int × Int := if q < 0 ∨ q > 1125899906842624 ∨ p < 1 ∨ p > 4294967296 then (0, 1) else (q * p / 1000000, 0)

theorem worth_is (k : Nat) (hk : 65 < k) (q p : Int) : asset_Worth.f k q p = some (worth q p) := by
  unfold asset_Worth.f worth
  by_cases h1 : q < 0
  · rw [if_pos h1, if_pos (Or.inl h1)]
  by_cases h2 : q > 1125899906842624
  · rw [if_neg h1, if_pos h2, if_pos (Or.inr (Or.inl h2))]
  by_cases h3 : p < 1
  · rw [if_neg h1, if_neg h2, if_pos h3, if_pos (Or.inr (Or.inr (Or.inl h3)))]
  by_cases h4 : p > 4294967296
  · rw [if_neg h1, if_neg h2, if_neg h3, if_pos h4, if_pos (Or.inr (Or.inr (Or.inr h4)))]
  rw [if_neg h1, if_neg h2, if_neg h3, if_neg h4, if_neg (by omega)]
  have hz' : q * p ≤ 1125899906842624 * 4294967296 := Int.mul_le_mul (by omega) (by omega) (by omega) (by decide)
  rw [muldiv_floor k hk q p 1000000 (by omega) (by omega) (by omega) (by omega) (by decide) (by decide) (by omega)]
  rfl

end Go.Proofs.Ytdcpdnfalnelkaa.PHaircutMore
