/- Shows, in plain whole numbers, what a day's interest is, the program's and the document's, and what many days make; and that the law's own example holds. -/
import Derived.Test.YtipgpnagfmlahaaPuRef
namespace Go.Proofs.Ytipgpnagfmlahaa
open Go Go.Pm Go.Pm.Arith Go.Pm.Big
set_option linter.unusedVariables false
set_option linter.unusedSimpArgs false

theorem in64 {a : Int} (h : inK .i64 a) : -9223372036854775808 ≤ a ∧ a < 9223372036854775808 := by
  obtain ⟨h1, h2⟩ := h; simp [IntKind.min, IntKind.max, IntKind.signed, IntKind.bits] at h1 h2; omega

theorem natAbs_mul' (a b : Int) : ((a * b).natAbs : Int) = (a.natAbs : Int) * (b.natAbs : Int) := by rw [Int.natAbs_mul]; simp

theorem md_floor (a b c : Int) (ha : 0 ≤ a) (hc : 0 < c) (h0 : -9223372036854775808 < a * b / c) (h1 : a * b / c < 9223372036854775808) : mdOf a b c 1 = (a * b / c, 0) := by
  unfold mdOf
  rw [if_neg (by omega)]
  have em : minusOf a b c = decide (b < 0) := by
    unfold minusOf
    rw [decide_eq_false (show ¬ a < 0 by omega), decide_eq_false (show ¬ c < 0 by omega)]
    cases decide (b < 0) <;> rfl
  rw [em, ← natAbs_mul', show (c.natAbs : Int) = c by omega]
  by_cases hb : b < 0
  · have hp : a * b ≤ 0 := Int.mul_nonpos_of_nonneg_of_nonpos ha (by omega)
    obtain ⟨p, e⟩ : ∃ p, a * b = -p := ⟨-(a * b), by omega⟩
    rw [e] at h0 h1 hp ⊢
    have pn : ((-p).natAbs : Int) = p := by omega
    rw [pn, decide_eq_true hb]
    have d1 := Int.mul_ediv_add_emod p c
    have m0 := Int.emod_nonneg p (show c ≠ 0 by omega)
    have m1 := Int.emod_lt_of_pos p hc
    have nonneg : 0 ≤ p / c := Int.ediv_nonneg (by omega) (by omega)
    have fl : -p / c = if p % c = 0 then -(p / c) else -(p / c) - 1 := by
      by_cases h : p % c = 0
      · rw [if_pos h]
        have : -p = c * (-(p / c)) := by rw [Int.mul_neg]; omega
        rw [this, Int.mul_ediv_cancel_left _ (by omega)]
      · rw [if_neg h]
        have : -p = (c - p % c) + c * (-(p / c) - 1) := by rw [Int.mul_sub, Int.mul_neg]; omega
        rw [this, Int.add_mul_ediv_left _ _ (by omega), Int.ediv_eq_zero_of_lt (by omega) (by omega)]; omega
    unfold quotOf roundUp signOf
    by_cases h : p % c = 0
    · rw [if_pos h] at fl
      rw [fl] at h0 h1 ⊢
      simp only [h, if_true, Bool.false_eq_true, if_false, Int.add_zero]
      rw [if_neg (by simp; omega)]
    · rw [if_neg h] at fl
      rw [fl] at h0 h1 ⊢
      simp only [h, if_true, if_false]
      rw [if_neg (by simp; omega)]
      congr 1; omega
  · have hp : 0 ≤ a * b := Int.mul_nonneg ha (by omega)
    rw [show ((a * b).natAbs : Int) = a * b by omega, decide_eq_false hb]
    have q : quotOf (a * b) c false 1 = a * b / c := by
      unfold quotOf roundUp
      by_cases h : a * b % c = 0
      · simp [h]
      · simp [h]
    rw [q]
    unfold signOf
    rw [if_neg (by omega)]
    rfl

theorem md_ceil (a b c : Int) (ha : 0 ≤ a) (hc : 0 < c) (h0 : -9223372036854775808 < -(a * b) / c) (h1 : -(a * b) / c < 9223372036854775808) : mdOf a b c 2 = (-(-(a * b) / c), 0) := by
  unfold mdOf
  rw [if_neg (by omega)]
  have em : minusOf a b c = decide (b < 0) := by
    unfold minusOf
    rw [decide_eq_false (show ¬ a < 0 by omega), decide_eq_false (show ¬ c < 0 by omega)]
    cases decide (b < 0) <;> rfl
  rw [em, ← natAbs_mul', show (c.natAbs : Int) = c by omega]
  by_cases hb : b < 0
  · have hp : a * b ≤ 0 := Int.mul_nonpos_of_nonneg_of_nonpos ha (by omega)
    rw [show ((a * b).natAbs : Int) = -(a * b) by omega, decide_eq_true hb]
    have q : quotOf (-(a * b)) c true 2 = -(a * b) / c := by
      unfold quotOf roundUp
      by_cases h : -(a * b) % c = 0
      · simp [h]
      · simp [h]
    rw [q]
    unfold signOf
    rw [if_neg (by simp; omega)]
    rfl
  · have hp : 0 ≤ a * b := Int.mul_nonneg ha (by omega)
    rw [show ((a * b).natAbs : Int) = a * b by omega, decide_eq_false hb]
    generalize a * b = p at *
    have d1 := Int.mul_ediv_add_emod p c
    have m0 := Int.emod_nonneg p (show c ≠ 0 by omega)
    have m1 := Int.emod_lt_of_pos p hc
    have nonneg : 0 ≤ p / c := Int.ediv_nonneg (by omega) (by omega)
    have fl : -p / c = if p % c = 0 then -(p / c) else -(p / c) - 1 := by
      by_cases h : p % c = 0
      · rw [if_pos h]
        have : -p = c * (-(p / c)) := by rw [Int.mul_neg]; omega
        rw [this, Int.mul_ediv_cancel_left _ (by omega)]
      · rw [if_neg h]
        have : -p = (c - p % c) + c * (-(p / c) - 1) := by rw [Int.mul_sub, Int.mul_neg]; omega
        rw [this, Int.add_mul_ediv_left _ _ (by omega), Int.ediv_eq_zero_of_lt (by omega) (by omega)]; omega
    unfold quotOf roundUp signOf
    by_cases h : p % c = 0
    · rw [if_pos h] at fl
      rw [fl] at h0 h1 ⊢
      simp only [h, if_true, Bool.false_eq_true, if_false, Int.add_zero]
      rw [if_neg (by simp; omega)]
      congr 1; omega
    · rw [if_neg h] at fl
      rw [fl] at h0 h1 ⊢
      simp only [h, if_true, if_false, Bool.not_false]
      rw [if_neg (by simp; omega)]
      simp only [Bool.false_eq_true, if_false]
      congr 1
      rw [if_pos (by decide)]; omega

/-- An amount and a rate that the program takes. -/
def goodAR (a r : Int) : Prop := 0 ≤ a ∧ a ≤ 1125899906842624 ∧ -1000000 ≤ r ∧ r ≤ 1000000
instance (a r : Int) : Decidable (goodAR a r) := by unfold goodAR; exact inferInstance

theorem good_is (a r : Int) : accrue_good.f a r = some (decide (goodAR a r)) := by
  unfold accrue_good.f
  congr 1
  by_cases h : goodAR a r
  · rw [decide_eq_true h]
    unfold goodAR at h
    simp [h]
  · rw [decide_eq_false h]
    unfold goodAR at h
    rw [Bool.eq_false_iff]
    simp only [ne_eq, Bool.and_eq_true, decide_eq_true_eq]
    omega

theorem ref_good_is (a r : Int) : ∃ x y, lombardref03_Amount.f a = some x ∧ (if (!x) = false then lombardref03_rated.f r else some default) = some y ∧ ((!x) || (!y)) = !decide (goodAR a r) := by
  unfold lombardref03_Amount.f lombardref03_rated.f
  by_cases h1 : (0 ≤ a ∧ a ≤ 1125899906842624)
  · have e : (decide (a ≥ 0) && decide (a ≤ 1125899906842624)) = true := by simp; omega
    rw [e]
    refine ⟨_, _, rfl, rfl, ?_⟩
    by_cases h2 : -1000000 ≤ r ∧ r ≤ 1000000
    · rw [decide_eq_true (show goodAR a r from ⟨h1.1, h1.2, h2.1, h2.2⟩)]
      simp; omega
    · rw [decide_eq_false (fun h : goodAR a r => h2 ⟨h.2.2.1, h.2.2.2⟩)]
      simp; omega
  · have e : (decide (a ≥ 0) && decide (a ≤ 1125899906842624)) = false := by simp; omega
    rw [e, decide_eq_false (fun h : goodAR a r => h1 ⟨h.1, h.2.1⟩)]
    exact ⟨_, _, rfl, rfl, by simp⟩

theorem mul_in {x y X Y : Int} (hx : -X ≤ x ∧ x ≤ X) (hy : -Y ≤ y ∧ y ≤ Y) : -(X * Y) ≤ x * y ∧ x * y ≤ X * Y := by
  have h1 : (x * y).natAbs ≤ (X * Y).natAbs := by
    rw [Int.natAbs_mul, Int.natAbs_mul]; exact Nat.mul_le_mul (by omega) (by omega)
  have h2 : 0 ≤ X * Y := Int.mul_nonneg (by omega) (by omega)
  omega

def simpleOf (a r n : Int) : Int × Int := if goodAR a r ∧ 0 ≤ n ∧ n ≤ 3660 then (a * (r * n) / 360000000, 0) else (0, 1)

theorem simple_bound {a r n : Int} (h : goodAR a r) (hn : 0 ≤ n ∧ n ≤ 3660) : (-3660000000 ≤ r * n ∧ r * n ≤ 3660000000) ∧ -4120793659044003840000000 ≤ a * (r * n) ∧ a * (r * n) ≤ 4120793659044003840000000 := by
  obtain ⟨h1, h2, h3, h4⟩ := h
  have b1 := mul_in (x := r) (y := n) (X := 1000000) (Y := 3660) (by omega) (by omega)
  have b2 := mul_in (x := a) (y := r * n) (X := 1125899906842624) (Y := 3660000000) (by omega) (by omega)
  omega

theorem simple_is (a r n : Int) : accrue_Simple.f a r n = some (simpleOf a r n) := by
  unfold accrue_Simple.f simpleOf
  rw [good_is, Option.bind_some]
  by_cases h : goodAR a r ∧ 0 ≤ n ∧ n ≤ 3660
  · obtain ⟨b1, b2⟩ := simple_bound h.1 h.2
    have h' := h.1
    unfold goodAR at h'
    rw [if_pos h, if_neg (by simp [h.1]; omega), i64_id _ (by omega) (by omega), muldiv_is a (r * n) 360000000 1 (by omega) (by omega) (by omega), Option.bind_some, md_floor a (r * n) 360000000 (by omega) (by omega) (by omega) (by omega)]
  · rw [if_neg h, if_pos]
    by_cases g : goodAR a r
    · have : n < 0 ∨ 3660 < n := by
        by_cases h1 : n < 0
        · exact Or.inl h1
        · exact Or.inr (by have h2 : ¬ (0 ≤ n ∧ n ≤ 3660) := fun h2 => h ⟨g, h2⟩; omega)
      simp [g, this]
    · simp [g]

theorem ref_simple_is (a r n : Int) : lombardref03_Simple.f a r n = some (simpleOf a r n) := by
  obtain ⟨x, y, e1, e2, e3⟩ := ref_good_is a r
  unfold lombardref03_Simple.f simpleOf
  rw [e1, Option.bind_some, e2, Option.bind_some, e3]
  by_cases h : goodAR a r ∧ 0 ≤ n ∧ n ≤ 3660
  · obtain ⟨b1, b2⟩ := simple_bound h.1 h.2
    have h' := h.1
    unfold goodAR at h'
    rw [if_pos h, if_neg (by simp [h.1]; omega), i64_id _ (by omega) (by omega), ref_muldiv_is a (r * n) 360000000 1 (by omega) (by omega) (by omega), Option.bind_some, md_floor a (r * n) 360000000 (by omega) (by omega) (by omega) (by omega)]
  · rw [if_neg h, if_pos]
    by_cases g : goodAR a r
    · have : n < 0 ∨ 3660 < n := by
        by_cases h1 : n < 0
        · exact Or.inl h1
        · exact Or.inr (by have h2 : ¬ (0 ≤ n ∧ n ≤ 3660) := fun h2 => h ⟨g, h2⟩; omega)
      simp [g, this]
    · simp [g]

instance (a : Int) : Decidable (inI64 a) := by unfold inI64; exact inferInstance

/-- A day: units, rest, error. -/
def dayOf (U R a r : Int) : Int × Int × Int :=
  if goodAR a r ∧ 0 ≤ R ∧ R < 360000000 then
    if a * r % 360000000 + R ≥ 360000000 then
      if inI64 (U + (a * r / 360000000 + 1)) then (U + (a * r / 360000000 + 1), a * r % 360000000 + R - 360000000, 0) else (U, R, 9)
    else if inI64 (U + a * r / 360000000) then (U + a * r / 360000000, a * r % 360000000 + R, 0) else (U, R, 9)
  else (U, R, 1)

theorem day_bound {a r : Int} (h : goodAR a r) : -1125899906842624000000 ≤ a * r ∧ a * r ≤ 1125899906842624000000 := by
  obtain ⟨h1, h2, h3, h4⟩ := h
  have b1 := mul_in (x := a) (y := r) (X := 1125899906842624) (Y := 1000000) (by omega) (by omega)
  omega

theorem maxI_abs {r : Int} (h : -1000000 ≤ r ∧ r ≤ 1000000) : maxI r (IntKind.wrap .i64 (0 - r)) = (r.natAbs : Int) := by
  rw [i64_id _ (by omega) (by omega)]
  unfold maxI
  split <;> omega

theorem rest_of (p : Int) : (if p < 0 ∧ (p.natAbs : Int) % 360000000 > 0 then 360000000 - (p.natAbs : Int) % 360000000 else (p.natAbs : Int) % 360000000) = p % 360000000 := by
  split <;> omega

theorem sumOf_pos {s : Int} (h : inI64 s) : sumOf s = (s, 0) := if_pos h
theorem sumOf_neg {s : Int} (h : ¬ inI64 s) : sumOf s = (0, 9) := if_neg h

theorem day_is (U R a r : Int) (hU : inI64 U) (hR : inI64 R) : accrue_Meter_Day.f ⟨U, R⟩ a r = some (⟨(dayOf U R a r).1, (dayOf U R a r).2.1⟩, (dayOf U R a r).2.2) := by
  unfold accrue_Meter_Day.f dayOf
  rw [good_is, Option.bind_some]
  unfold inI64 at hU
  by_cases h : goodAR a r ∧ 0 ≤ R ∧ R < 360000000
  · have b2 := day_bound h.1
    have h' := h.1
    unfold goodAR at h'
    rw [if_pos h, if_neg (by simp [h.1]; omega), muldiv_is a r 360000000 1 (by omega) (by omega) (by omega), Option.bind_some, md_floor a r 360000000 (by omega) (by omega) (by omega) (by omega)]
    simp only [bne_self_eq_false, Bool.false_eq_true, if_false]
    have ab : a * (r.natAbs : Int) = ((a * r).natAbs : Int) := by rw [natAbs_mul', show (a.natAbs : Int) = a by omega]
    have hl : hiOf a (r.natAbs : Int) * 18446744073709551616 + loOf a (r.natAbs : Int) = ((a * r).natAbs : Int) ∧ 0 ≤ hiOf a (r.natAbs : Int) ∧ hiOf a (r.natAbs : Int) < 1000 ∧ 0 ≤ loOf a (r.natAbs : Int) ∧ loOf a (r.natAbs : Int) < 18446744073709551616 := by
      unfold hiOf loOf; rw [ab]; omega
    rw [u64_id a (by omega) (by omega), maxI_abs (by omega), u64_id _ (by omega) (by omega), mul_is a _ (by omega) (by omega) (by omega) (by omega), Option.bind_some,
      div_is _ _ 360000000 (by decide) (by decide) (by omega) (by omega) (by omega) (by omega), Option.bind_some]
    have er : (hiOf a (r.natAbs : Int) % 360000000 * 18446744073709551616 + loOf a (r.natAbs : Int)) % 360000000 = ((a * r).natAbs : Int) % 360000000 := by omega
    simp only [er]
    have ro := rest_of (a * r)
    have neg : a * r < 0 ∨ (a * r).natAbs % 360000000 = 0 ↔ r < 0 ∨ (a * r).natAbs % 360000000 = 0 := by
      constructor
      · rintro (h1 | h1)
        · left
          by_cases c : r < 0
          · exact c
          · have := Int.mul_nonneg h'.1 (show 0 ≤ r by omega); omega
        · exact Or.inr h1
      · rintro (h1 | h1)
        · have h2 := Int.mul_nonpos_of_nonneg_of_nonpos h'.1 (show r ≤ 0 by omega)
          by_cases c : a * r = 0
          · right; rw [c]; rfl
          · left; omega
        · exact Or.inr h1
    generalize a * r = p at *
    rw [i64_id (((p.natAbs : Int)) % 360000000) (by omega) (by omega)]
    have e1 : (if ((decide (r < 0)) && (decide (((p.natAbs : Int)) % 360000000 > 0))) = true then some (IntKind.wrap .i64 (360000000 - (((p.natAbs : Int)) % 360000000))) else some (((p.natAbs : Int)) % 360000000)) = some (p % 360000000) := by
      rw [← ro, i64_id _ (by omega) (by omega)]
      simp only [Bool.and_eq_true, decide_eq_true_eq]
      by_cases c : r < 0 ∧ ((p.natAbs : Int)) % 360000000 > 0
      · rw [if_pos c, if_pos (by omega)]
      · rw [if_neg c, if_neg (by omega)]
    rw [e1, Option.bind_some, i64_id (R + p % 360000000) (by omega) (by omega)]
    have cm : R + p % 360000000 = p % 360000000 + R := by omega
    rw [cm]
    by_cases c : p % 360000000 + R ≥ 360000000
    · rw [if_pos (decide_eq_true c), if_pos c, Option.bind_some, i64_id (p / 360000000 + 1) (by omega) (by omega), i64_id (p % 360000000 + R - 360000000) (by omega) (by omega), plus_is _ _ hU (by unfold inI64; omega), Option.bind_some]
      by_cases k : inI64 (U + (p / 360000000 + 1))
      · rw [sumOf_pos k, if_pos k]; rfl
      · rw [sumOf_neg k, if_neg k]; rfl
    · rw [if_neg (by simpa using c), if_neg c, Option.bind_some, plus_is _ _ hU (by unfold inI64; omega), Option.bind_some]
      by_cases k : inI64 (U + p / 360000000)
      · rw [sumOf_pos k, if_pos k]; rfl
      · rw [sumOf_neg k, if_neg k]; rfl
  · rw [if_neg h, if_pos]
    by_cases g : goodAR a r
    · have : R < 0 ∨ 360000000 ≤ R := by
        by_cases h1 : R < 0
        · exact Or.inl h1
        · exact Or.inr (by have h2 : ¬ (0 ≤ R ∧ R < 360000000) := fun h2 => h ⟨g, h2⟩; omega)
      simp [g, this]
    · simp [g]


theorem tm (y : Int) : ∃ k, Int.tmod y 360000000 = y - 360000000 * k ∧ -360000000 < Int.tmod y 360000000 ∧ Int.tmod y 360000000 < 360000000 := by
  refine ⟨Int.tdiv y 360000000, ?_, Int.lt_tmod_of_pos _ (by decide), Int.tmod_lt_of_pos _ (by decide)⟩
  have := Int.mul_tdiv_add_tmod y 360000000
  omega

theorem big_left (a r : Int) (h : goodAR a r) :
    ∃ z, (if (decide ((Int.tmod (IntKind.wrap .i64 ((Int.tmod (IntKind.wrap .i64 ((Int.tmod (IntKind.wrap .i64 ((Int.tmod (IntKind.wrap .i64 (Int.tdiv a 1048576)) 360000000) * r)) 360000000) * 1048576)) 360000000) + (Int.tmod (IntKind.wrap .i64 ((Int.tmod a 1048576) * r)) 360000000))) 360000000) < 0)) = true then
        some (IntKind.wrap .i64 ((Int.tmod (IntKind.wrap .i64 ((Int.tmod (IntKind.wrap .i64 ((Int.tmod (IntKind.wrap .i64 ((Int.tmod (IntKind.wrap .i64 (Int.tdiv a 1048576)) 360000000) * r)) 360000000) * 1048576)) 360000000) + (Int.tmod (IntKind.wrap .i64 ((Int.tmod a 1048576) * r)) 360000000))) 360000000) + 360000000))
      else
        some (Int.tmod (IntKind.wrap .i64 ((Int.tmod (IntKind.wrap .i64 ((Int.tmod (IntKind.wrap .i64 ((Int.tmod (IntKind.wrap .i64 (Int.tdiv a 1048576)) 360000000) * r)) 360000000) * 1048576)) 360000000) + (Int.tmod (IntKind.wrap .i64 ((Int.tmod a 1048576) * r)) 360000000))) 360000000)) = some z ∧ z = a * r % 360000000 := by
  unfold goodAR at h
  rw [Int.tdiv_eq_ediv_of_nonneg h.1, Int.tmod_eq_emod_of_nonneg h.1, i64_id (a / 1048576) (by omega) (by omega)]
  obtain ⟨k1, e1, b1, c1⟩ := tm (a / 1048576)
  generalize Int.tmod (a / 1048576) 360000000 = y1 at *
  have p1 := mul_in (x := y1) (y := r) (X := 360000000) (Y := 1000000) (by omega) (by omega)
  rw [i64_id (y1 * r) (by omega) (by omega)]
  obtain ⟨k2, e2, b2, c2⟩ := tm (y1 * r)
  generalize Int.tmod (y1 * r) 360000000 = y2 at *
  rw [i64_id (y2 * 1048576) (by omega) (by omega)]
  obtain ⟨k3, e3, b3, c3⟩ := tm (y2 * 1048576)
  generalize Int.tmod (y2 * 1048576) 360000000 = y3 at *
  have p2 := mul_in (x := a % 1048576) (y := r) (X := 1048576) (Y := 1000000) (by omega) (by omega)
  rw [i64_id (a % 1048576 * r) (by omega) (by omega)]
  obtain ⟨k4, e4, b4, c4⟩ := tm (a % 1048576 * r)
  generalize Int.tmod (a % 1048576 * r) 360000000 = y4 at *
  rw [i64_id (y3 + y4) (by omega) (by omega)]
  obtain ⟨k5, e5, b5, c5⟩ := tm (y3 + y4)
  generalize Int.tmod (y3 + y4) 360000000 = y5 at *
  have tot : a * r = 1048576 * (a / 1048576 * r) + a % 1048576 * r := by
    rw [← Int.mul_assoc, ← Int.add_mul]; congr 1; omega
  have t2 : a / 1048576 * r = y1 * r + 360000000 * (k1 * r) := by
    rw [← Int.mul_assoc, ← Int.add_mul]; congr 1; omega
  rw [tot, t2]
  generalize y1 * r = w1 at *
  generalize a % 1048576 * r = w2 at *
  generalize k1 * r = w3 at *
  by_cases c : y5 < 0
  · rw [if_pos (decide_eq_true c), i64_id _ (by omega) (by omega)]
    exact ⟨_, rfl, by omega⟩
  · rw [if_neg (by simpa using c)]
    exact ⟨_, rfl, by omega⟩

theorem ref_plus_is (a b : Int) (ha : inI64 a) (hb : inI64 b) : lombardref01_Plus.f a b = some (sumOf (a + b)) := by
  unfold inI64 at ha hb
  unfold sumOf
  simp only [lombardref01_Plus.f, i64_wrap, Bool.or_eq_true, Bool.and_eq_true, decide_eq_true_eq]
  repeat' split
  all_goals first
    | (exfalso; omega)
    | rfl
    | (congr 2; omega)

theorem ref_day_is (U R a r : Int) (hU : inI64 U) (hR : inI64 R) : lombardref03_Meter_Day.f ⟨U, R⟩ a r = some (⟨(dayOf U R a r).1, (dayOf U R a r).2.1⟩, (dayOf U R a r).2.2) := by
  obtain ⟨x, y, q1, q2, q3⟩ := ref_good_is a r
  unfold lombardref03_Meter_Day.f dayOf
  rw [q1, Option.bind_some, q2, Option.bind_some, q3]
  unfold inI64 at hU
  by_cases h : goodAR a r ∧ 0 ≤ R ∧ R < 360000000
  · have b2 := day_bound h.1
    have h' := h.1
    unfold goodAR at h'
    rw [if_pos h, if_neg (by simp [h.1]; omega), ref_muldiv_is a r 360000000 1 (by omega) (by omega) (by omega), Option.bind_some, md_floor a r 360000000 (by omega) (by omega) (by omega) (by omega)]
    obtain ⟨z, e1, ez⟩ := big_left a r h.1
    rw [e1, Option.bind_some, ez]
    generalize a * r = p at *
    rw [i64_id (p % 360000000 + R) (by omega) (by omega)]
    simp only
    by_cases c : p % 360000000 + R ≥ 360000000
    · rw [if_pos (decide_eq_true c), if_pos c, Option.bind_some, i64_id (p / 360000000 + 1) (by omega) (by omega), i64_id (p % 360000000 + R - 360000000) (by omega) (by omega), ref_plus_is _ _ hU (by unfold inI64; omega), Option.bind_some]
      by_cases k : inI64 (U + (p / 360000000 + 1))
      · rw [sumOf_pos k, if_pos k]; rfl
      · rw [sumOf_neg k, if_neg k]; rfl
    · rw [if_neg (by simpa using c), if_neg c, Option.bind_some, ref_plus_is _ _ hU (by unfold inI64; omega), Option.bind_some]
      by_cases k : inI64 (U + p / 360000000)
      · rw [sumOf_pos k, if_pos k]; rfl
      · rw [sumOf_neg k, if_neg k]; rfl
  · rw [if_neg h, if_pos]
    by_cases g : goodAR a r
    · have : R < 0 ∨ 360000000 ≤ R := by
        by_cases h1 : R < 0
        · exact Or.inl h1
        · exact Or.inr (by have h2 : ¬ (0 ≤ R ∧ R < 360000000) := fun h2 => h ⟨g, h2⟩; omega)
      simp [g, this]
    · simp [g]

theorem dayOf_in (U R a r : Int) (hU : inI64 U) (hR : inI64 R) : inI64 (dayOf U R a r).1 ∧ inI64 (dayOf U R a r).2.1 := by
  unfold dayOf
  repeat' split
  all_goals first
    | (refine ⟨by assumption, ?_⟩; unfold inI64; simp only; omega)
    | exact ⟨hU, hR⟩

/-- Many days. -/
def daysOf (a r : Int) : Nat → Int → Int → Int ⊕ (Int × Int)
  | 0, U, R => .inr (U, R)
  | n + 1, U, R => if (dayOf U R a r).2.2 = 0 then daysOf a r n (dayOf U R a r).1 (dayOf U R a r).2.1 else .inl (dayOf U R a r).2.2

theorem days_loop (x : accrue_Meter) (y : lombardref03_Meter) (a r n : Int) (hn : n ≤ 3660) : ∀ (j : Nat) (i U R : Int), n - i = j → 0 ≤ i → inI64 U → inI64 R →
    loop (accrue_Meter_Days.r0 x a r n) (i, U, R) = some (match daysOf a r j U R with | .inl e => .inl (x, e) | .inr w => .inr w) ∧
    loop (lombardref03_Meter_Days.r0 y a r n) (i, U, R) = some (match daysOf a r j U R with | .inl e => .inl (y, e) | .inr w => .inr w)
  | 0, i, U, R, hj, hi, hU, hR => by
    constructor
    · refine loop_end ?_
      unfold accrue_Meter_Days.r0 accrue_Meter_Days.b0
      rw [if_neg (by simp; omega)]; rfl
    · refine loop_end ?_
      unfold lombardref03_Meter_Days.r0 lombardref03_Meter_Days.b0
      rw [if_neg (by simp; omega)]; rfl
  | j + 1, i, U, R, hj, hi, hU, hR => by
    have lt : i < n := by omega
    have w : IntKind.i64.wrap (i + 1) = i + 1 := i64_id _ (by omega) (by omega)
    obtain ⟨k1, k2⟩ := dayOf_in U R a r hU hR
    have s1 : accrue_Meter_Days.r0 x a r n (i, U, R) = if (dayOf U R a r).2.2 = 0 then some (.inl (i + 1, (dayOf U R a r).1, (dayOf U R a r).2.1)) else some (.inr (.inl (x, (dayOf U R a r).2.2))) := by
      unfold accrue_Meter_Days.r0 accrue_Meter_Days.b0
      simp only
      rw [if_pos (decide_eq_true lt), day_is _ _ _ _ hU hR, Option.bind_some, w]
      by_cases c : (dayOf U R a r).2.2 = 0
      · rw [if_pos c, if_neg (by simpa using c)]
      · rw [if_neg c, if_pos (by simpa using c)]
    have s2 : lombardref03_Meter_Days.r0 y a r n (i, U, R) = if (dayOf U R a r).2.2 = 0 then some (.inl (i + 1, (dayOf U R a r).1, (dayOf U R a r).2.1)) else some (.inr (.inl (y, (dayOf U R a r).2.2))) := by
      unfold lombardref03_Meter_Days.r0 lombardref03_Meter_Days.b0
      simp only
      rw [if_pos (decide_eq_true lt), ref_day_is _ _ _ _ hU hR, Option.bind_some, w]
      by_cases c : (dayOf U R a r).2.2 = 0
      · rw [if_pos c, if_neg (by simpa using c)]
      · rw [if_neg c, if_pos (by simpa using c)]
    unfold daysOf
    by_cases c : (dayOf U R a r).2.2 = 0
    · rw [if_pos c] at s1 s2 ⊢
      obtain ⟨l1, l2⟩ := days_loop x y a r n hn j (i + 1) _ _ (by omega) (by omega) k1 k2
      exact ⟨by rw [loop_next s1, l1], by rw [loop_next s2, l2]⟩
    · rw [if_neg c] at s1 s2 ⊢
      exact ⟨loop_end s1, loop_end s2⟩

def daysEnd (U R a r n : Int) : Int × Int × Int :=
  if n < 0 ∨ n > 3660 then (U, R, 1) else match daysOf a r n.toNat U R with | .inl e => (U, R, e) | .inr w => (w.1, w.2, 0)

theorem days_is (U R a r n : Int) (hU : inI64 U) (hR : inI64 R) :
    accrue_Meter_Days.f ⟨U, R⟩ a r n = some (⟨(daysEnd U R a r n).1, (daysEnd U R a r n).2.1⟩, (daysEnd U R a r n).2.2) ∧
    lombardref03_Meter_Days.f ⟨U, R⟩ a r n = some (⟨(daysEnd U R a r n).1, (daysEnd U R a r n).2.1⟩, (daysEnd U R a r n).2.2) := by
  unfold accrue_Meter_Days.f lombardref03_Meter_Days.f daysEnd
  simp only [Bool.or_eq_true, decide_eq_true_eq]
  by_cases c : n < 0 ∨ n > 3660
  · rw [if_pos c, if_pos c, if_pos c]; exact ⟨rfl, rfl⟩
  · rw [if_neg c, if_neg c, if_neg c]
    obtain ⟨l1, l2⟩ := days_loop ⟨U, R⟩ ⟨U, R⟩ a r n (by omega) n.toNat 0 U R (by omega) (by decide) hU hR
    rw [l1, l2, Option.bind_some, Option.bind_some]
    cases daysOf a r n.toNat U R <;> exact ⟨rfl, rfl⟩

theorem awake_is : lombardlaw03_awake.f = some true := by
  unfold lombardlaw03_awake.f
  rw [simple_is, Option.bind_some, (days_is 0 0 100 50000 71 (by decide) (by decide)).1, Option.bind_some, (days_is 0 0 100 50000 72 (by decide) (by decide)).1, Option.bind_some]
  have h1 : daysEnd 0 0 100 50000 71 = (0, 355000000, 0) := by decide +kernel
  have h2 : daysEnd 0 0 100 50000 72 = (1, 0, 0) := by decide +kernel
  have h3 : simpleOf 360000000 50000 1 = (50000, 0) := by decide +kernel
  rw [h1, h2, h3]; rfl

end Go.Proofs.Ytipgpnagfmlahaa

