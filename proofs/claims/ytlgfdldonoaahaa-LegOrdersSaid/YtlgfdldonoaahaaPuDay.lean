/- Shows, in plain whole numbers, what a day's interest is. -/
import Derived.Test.YtlgfdldonoaahaaPuRef
namespace Go.Proofs.Ytlgfdldonoaahaa
open Go Go.Pm Go.Pm.Arith Go.Pm.Big
set_option linter.unusedVariables false
set_option linter.unusedSimpArgs false

theorem in64 {a : Int} (h : inK .i64 a) : -9223372036854775808 ≤ a ∧ a < 9223372036854775808 := by
  obtain ⟨h1, h2⟩ := h; simp [IntKind.min, IntKind.max, IntKind.signed, IntKind.bits] at h1 h2; omega

theorem natAbs_mul' (a b : Int) : ((a * b).natAbs : Int) = (a.natAbs : Int) * (b.natAbs : Int) := by rw [Int.natAbs_mul]; simp

theorem md_floor (a b c : Int) (ha : 0 ≤ a) (hc : 0 < c) (h0 : -9223372036854775808 < a * b / c) (h1 : a * b / c < 9223372036854775808) : mdOf a b c 1 = (a * b / c, 0) := by
  unfold mdOf
  rw [if_neg (by omega)]
  have em : minusOf a b c = decide (b < 0) := by
    unfold minusOf
    rw [decide_eq_false (show ¬ a < 0 by omega), decide_eq_false (show ¬ c < 0 by omega)]
    cases decide (b < 0) <;> rfl
  rw [em, ← natAbs_mul', show (c.natAbs : Int) = c by omega]
  by_cases hb : b < 0
  · have hp : a * b ≤ 0 := Int.mul_nonpos_of_nonneg_of_nonpos ha (by omega)
    obtain ⟨p, e⟩ : ∃ p, a * b = -p := ⟨-(a * b), by omega⟩
    rw [e] at h0 h1 hp ⊢
    have pn : ((-p).natAbs : Int) = p := by omega
    rw [pn, decide_eq_true hb]
    have d1 := Int.mul_ediv_add_emod p c
    have m0 := Int.emod_nonneg p (show c ≠ 0 by omega)
    have m1 := Int.emod_lt_of_pos p hc
    have nonneg : 0 ≤ p / c := Int.ediv_nonneg (by omega) (by omega)
    have fl : -p / c = if p % c = 0 then -(p / c) else -(p / c) - 1 := by
      by_cases h : p % c = 0
      · rw [if_pos h]
        have : -p = c * (-(p / c)) := by rw [Int.mul_neg]; omega
        rw [this, Int.mul_ediv_cancel_left _ (by omega)]
      · rw [if_neg h]
        have : -p = (c - p % c) + c * (-(p / c) - 1) := by rw [Int.mul_sub, Int.mul_neg]; omega
        rw [this, Int.add_mul_ediv_left _ _ (by omega), Int.ediv_eq_zero_of_lt (by omega) (by omega)]; omega
    unfold quotOf roundUp signOf
    by_cases h : p % c = 0
    · rw [if_pos h] at fl
      rw [fl] at h0 h1 ⊢
      simp only [h, if_true, Bool.false_eq_true, if_false, Int.add_zero]
      rw [if_neg (by simp; omega)]
    · rw [if_neg h] at fl
      rw [fl] at h0 h1 ⊢
      simp only [h, if_true, if_false]
      rw [if_neg (by simp; omega)]
      congr 1; omega
  · have hp : 0 ≤ a * b := Int.mul_nonneg ha (by omega)
    rw [show ((a * b).natAbs : Int) = a * b by omega, decide_eq_false hb]
    have q : quotOf (a * b) c false 1 = a * b / c := by
      unfold quotOf roundUp
      by_cases h : a * b % c = 0
      · simp [h]
      · simp [h]
    rw [q]
    unfold signOf
    rw [if_neg (by omega)]
    rfl

theorem md_ceil (a b c : Int) (ha : 0 ≤ a) (hc : 0 < c) (h0 : -9223372036854775808 < -(a * b) / c) (h1 : -(a * b) / c < 9223372036854775808) : mdOf a b c 2 = (-(-(a * b) / c), 0) := by
  unfold mdOf
  rw [if_neg (by omega)]
  have em : minusOf a b c = decide (b < 0) := by
    unfold minusOf
    rw [decide_eq_false (show ¬ a < 0 by omega), decide_eq_false (show ¬ c < 0 by omega)]
    cases decide (b < 0) <;> rfl
  rw [em, ← natAbs_mul', show (c.natAbs : Int) = c by omega]
  by_cases hb : b < 0
  · have hp : a * b ≤ 0 := Int.mul_nonpos_of_nonneg_of_nonpos ha (by omega)
    rw [show ((a * b).natAbs : Int) = -(a * b) by omega, decide_eq_true hb]
    have q : quotOf (-(a * b)) c true 2 = -(a * b) / c := by
      unfold quotOf roundUp
      by_cases h : -(a * b) % c = 0
      · simp [h]
      · simp [h]
    rw [q]
    unfold signOf
    rw [if_neg (by simp; omega)]
    rfl
  · have hp : 0 ≤ a * b := Int.mul_nonneg ha (by omega)
    rw [show ((a * b).natAbs : Int) = a * b by omega, decide_eq_false hb]
    generalize a * b = p at *
    have d1 := Int.mul_ediv_add_emod p c
    have m0 := Int.emod_nonneg p (show c ≠ 0 by omega)
    have m1 := Int.emod_lt_of_pos p hc
    have nonneg : 0 ≤ p / c := Int.ediv_nonneg (by omega) (by omega)
    have fl : -p / c = if p % c = 0 then -(p / c) else -(p / c) - 1 := by
      by_cases h : p % c = 0
      · rw [if_pos h]
        have : -p = c * (-(p / c)) := by rw [Int.mul_neg]; omega
        rw [this, Int.mul_ediv_cancel_left _ (by omega)]
      · rw [if_neg h]
        have : -p = (c - p % c) + c * (-(p / c) - 1) := by rw [Int.mul_sub, Int.mul_neg]; omega
        rw [this, Int.add_mul_ediv_left _ _ (by omega), Int.ediv_eq_zero_of_lt (by omega) (by omega)]; omega
    unfold quotOf roundUp signOf
    by_cases h : p % c = 0
    · rw [if_pos h] at fl
      rw [fl] at h0 h1 ⊢
      simp only [h, if_true, Bool.false_eq_true, if_false, Int.add_zero]
      rw [if_neg (by simp; omega)]
      congr 1; omega
    · rw [if_neg h] at fl
      rw [fl] at h0 h1 ⊢
      simp only [h, if_true, if_false, Bool.not_false]
      rw [if_neg (by simp; omega)]
      simp only [Bool.false_eq_true, if_false]
      congr 1
      rw [if_pos (by decide)]; omega

/-- An amount and a rate that the program takes. -/
def goodAR (a r : Int) : Prop := 0 ≤ a ∧ a ≤ 1125899906842624 ∧ -1000000 ≤ r ∧ r ≤ 1000000
instance (a r : Int) : Decidable (goodAR a r) := by unfold goodAR; exact inferInstance

theorem good_is (a r : Int) : accrue_good.f a r = some (decide (goodAR a r)) := by
  unfold accrue_good.f
  congr 1
  by_cases h : goodAR a r
  · rw [decide_eq_true h]
    unfold goodAR at h
    simp [h]
  · rw [decide_eq_false h]
    unfold goodAR at h
    rw [Bool.eq_false_iff]
    simp only [ne_eq, Bool.and_eq_true, decide_eq_true_eq]
    omega

theorem mul_in {x y X Y : Int} (hx : -X ≤ x ∧ x ≤ X) (hy : -Y ≤ y ∧ y ≤ Y) : -(X * Y) ≤ x * y ∧ x * y ≤ X * Y := by
  have h1 : (x * y).natAbs ≤ (X * Y).natAbs := by
    rw [Int.natAbs_mul, Int.natAbs_mul]; exact Nat.mul_le_mul (by omega) (by omega)
  have h2 : 0 ≤ X * Y := Int.mul_nonneg (by omega) (by omega)
  omega

instance (a : Int) : Decidable (inI64 a) := by unfold inI64; exact inferInstance

/-- A day: units, rest, error. -/
def dayOf (U R a r : Int) : Int × Int × Int :=
  if goodAR a r ∧ 0 ≤ R ∧ R < 360000000 then
    if a * r % 360000000 + R ≥ 360000000 then
      if inI64 (U + (a * r / 360000000 + 1)) then (U + (a * r / 360000000 + 1), a * r % 360000000 + R - 360000000, 0) else (U, R, 9)
    else if inI64 (U + a * r / 360000000) then (U + a * r / 360000000, a * r % 360000000 + R, 0) else (U, R, 9)
  else (U, R, 1)

theorem day_bound {a r : Int} (h : goodAR a r) : -1125899906842624000000 ≤ a * r ∧ a * r ≤ 1125899906842624000000 := by
  obtain ⟨h1, h2, h3, h4⟩ := h
  have b1 := mul_in (x := a) (y := r) (X := 1125899906842624) (Y := 1000000) (by omega) (by omega)
  omega

theorem maxI_abs {r : Int} (h : -1000000 ≤ r ∧ r ≤ 1000000) : maxI r (IntKind.wrap .i64 (0 - r)) = (r.natAbs : Int) := by
  rw [i64_id _ (by omega) (by omega)]
  unfold maxI
  split <;> omega

theorem rest_of (p : Int) : (if p < 0 ∧ (p.natAbs : Int) % 360000000 > 0 then 360000000 - (p.natAbs : Int) % 360000000 else (p.natAbs : Int) % 360000000) = p % 360000000 := by
  split <;> omega

theorem sumOf_pos {s : Int} (h : inI64 s) : sumOf s = (s, 0) := if_pos h
theorem sumOf_neg {s : Int} (h : ¬ inI64 s) : sumOf s = (0, 9) := if_neg h

theorem day_is (U R a r : Int) (hU : inI64 U) (hR : inI64 R) : accrue_Meter_Day.f ⟨U, R⟩ a r = some (⟨(dayOf U R a r).1, (dayOf U R a r).2.1⟩, (dayOf U R a r).2.2) := by
  unfold accrue_Meter_Day.f dayOf
  rw [good_is, Option.bind_some]
  unfold inI64 at hU
  by_cases h : goodAR a r ∧ 0 ≤ R ∧ R < 360000000
  · have b2 := day_bound h.1
    have h' := h.1
    unfold goodAR at h'
    rw [if_pos h, if_neg (by simp [h.1]; omega), muldiv_is a r 360000000 1 (by omega) (by omega) (by omega), Option.bind_some, md_floor a r 360000000 (by omega) (by omega) (by omega) (by omega)]
    simp only [bne_self_eq_false, Bool.false_eq_true, if_false]
    have ab : a * (r.natAbs : Int) = ((a * r).natAbs : Int) := by rw [natAbs_mul', show (a.natAbs : Int) = a by omega]
    have hl : hiOf a (r.natAbs : Int) * 18446744073709551616 + loOf a (r.natAbs : Int) = ((a * r).natAbs : Int) ∧ 0 ≤ hiOf a (r.natAbs : Int) ∧ hiOf a (r.natAbs : Int) < 1000 ∧ 0 ≤ loOf a (r.natAbs : Int) ∧ loOf a (r.natAbs : Int) < 18446744073709551616 := by
      unfold hiOf loOf; rw [ab]; omega
    rw [u64_id a (by omega) (by omega), maxI_abs (by omega), u64_id _ (by omega) (by omega), mul_is a _ (by omega) (by omega) (by omega) (by omega), Option.bind_some,
      div_is _ _ 360000000 (by decide) (by decide) (by omega) (by omega) (by omega) (by omega), Option.bind_some]
    have er : (hiOf a (r.natAbs : Int) % 360000000 * 18446744073709551616 + loOf a (r.natAbs : Int)) % 360000000 = ((a * r).natAbs : Int) % 360000000 := by omega
    simp only [er]
    have ro := rest_of (a * r)
    have neg : a * r < 0 ∨ (a * r).natAbs % 360000000 = 0 ↔ r < 0 ∨ (a * r).natAbs % 360000000 = 0 := by
      constructor
      · rintro (h1 | h1)
        · left
          by_cases c : r < 0
          · exact c
          · have := Int.mul_nonneg h'.1 (show 0 ≤ r by omega); omega
        · exact Or.inr h1
      · rintro (h1 | h1)
        · have h2 := Int.mul_nonpos_of_nonneg_of_nonpos h'.1 (show r ≤ 0 by omega)
          by_cases c : a * r = 0
          · right; rw [c]; rfl
          · left; omega
        · exact Or.inr h1
    generalize a * r = p at *
    rw [i64_id (((p.natAbs : Int)) % 360000000) (by omega) (by omega)]
    have e1 : (if ((decide (r < 0)) && (decide (((p.natAbs : Int)) % 360000000 > 0))) = true then some (IntKind.wrap .i64 (360000000 - (((p.natAbs : Int)) % 360000000))) else some (((p.natAbs : Int)) % 360000000)) = some (p % 360000000) := by
      rw [← ro, i64_id _ (by omega) (by omega)]
      simp only [Bool.and_eq_true, decide_eq_true_eq]
      by_cases c : r < 0 ∧ ((p.natAbs : Int)) % 360000000 > 0
      · rw [if_pos c, if_pos (by omega)]
      · rw [if_neg c, if_neg (by omega)]
    rw [e1, Option.bind_some, i64_id (R + p % 360000000) (by omega) (by omega)]
    have cm : R + p % 360000000 = p % 360000000 + R := by omega
    rw [cm]
    by_cases c : p % 360000000 + R ≥ 360000000
    · rw [if_pos (decide_eq_true c), if_pos c, Option.bind_some, i64_id (p / 360000000 + 1) (by omega) (by omega), i64_id (p % 360000000 + R - 360000000) (by omega) (by omega), plus_is _ _ hU (by unfold inI64; omega), Option.bind_some]
      by_cases k : inI64 (U + (p / 360000000 + 1))
      · rw [sumOf_pos k, if_pos k]; rfl
      · rw [sumOf_neg k, if_neg k]; rfl
    · rw [if_neg (by simpa using c), if_neg c, Option.bind_some, plus_is _ _ hU (by unfold inI64; omega), Option.bind_some]
      by_cases k : inI64 (U + p / 360000000)
      · rw [sumOf_pos k, if_pos k]; rfl
      · rw [sumOf_neg k, if_neg k]; rfl
  · rw [if_neg h, if_pos]
    by_cases g : goodAR a r
    · have : R < 0 ∨ 360000000 ≤ R := by
        by_cases h1 : R < 0
        · exact Or.inl h1
        · exact Or.inr (by have h2 : ¬ (0 ≤ R ∧ R < 360000000) := fun h2 => h ⟨g, h2⟩; omega)
      simp [g, this]
    · simp [g]

end Go.Proofs.Ytlgfdldonoaahaa

