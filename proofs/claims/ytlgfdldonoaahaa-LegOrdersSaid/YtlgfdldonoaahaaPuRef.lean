/- Shows, in plain whole numbers, what the document's divided product and sum tell, for every argument and every way to round. -/
import Derived.Test.YtlgfdldonoaahaaPuBig
namespace Go.Proofs.Ytlgfdldonoaahaa
open Go Go.Pm Go.Pm.Arith Go.Pm.Big
set_option linter.unusedVariables false
set_option linter.unusedSimpArgs false

theorem ref_round (e Q R d how : Int) (m : Bool) (q : List Int) (hR : ¬ R = 0) (k1 : (e > 0) ↔ R > d - R) (k2 : (e = 0) ↔ R = d - R) (hhow : how = 1 ∨ how = 2 ∨ how = 3 ∨ how = 4)
    (odd : (q.length : Int) > 0 → (Int.tmod (nth q 0) 2 == 1) = (Q % 2 == 1)) (even : ¬ (q.length : Int) > 0 → (Q % 2 == 1) = false) :
    ((((how == 1) && m) || ((how == 2) && (!m))) || ((how == 4) && ((decide (e > 0)) || ((e == 0) && ((decide ((List.length q : Int) > 0)) && ((Int.tmod (nth q 0) 2) == 1)))))) = roundUp Q R d m how := by
  unfold roundUp
  rw [if_neg hR]
  have last : (decide ((q.length : Int) > 0) && (Int.tmod (nth q 0) 2 == 1)) = (Q % 2 == 1) := by
    by_cases hq : (q.length : Int) > 0
    · rw [decide_eq_true hq, odd hq, Bool.true_and]
    · rw [decide_eq_false hq, even hq, Bool.false_and]
  have big : (decide (e > 0) || ((e == 0) && (Q % 2 == 1))) = (if R > d - R then true else if R = d - R then Q % 2 == 1 else false) := by
    by_cases h1 : e > 0
    · rw [if_pos (k1.1 h1), decide_eq_true h1, Bool.true_or]
    · rw [if_neg (fun h => h1 (k1.2 h)), decide_eq_false h1, Bool.false_or]
      by_cases h2 : e = 0
      · rw [if_pos (k2.1 h2), beq_iff_eq.mpr h2, Bool.true_and]
      · rw [if_neg (fun h => h2 (k2.2 h)), beq_eq_false_iff_ne.mpr h2, Bool.false_and]
  rw [last, big]
  rcases hhow with rfl | rfl | rfl | rfl
  · simp
  · simp
  · simp
  · simp

theorem ref_end (less : Bool) (q : List Int) (Q : Int) (hq : Is q Q) (hl : q.length < 1000000) (hQ : Q < 340282366920938463463374607431768211456) :
    ((lombardref01_Halves.f q).bind fun t76 =>
    if (((decide (t76.1 > 0)) || (decide (t76.2.1 > 9223372036854775808))) || ((t76.2.1 == 9223372036854775808) && (!less))) = true then
      some ((0 : Int), (9 : Int))
    else
      if (t76.2.1 == 9223372036854775808) = true then
        some (-9223372036854775808, 0)
      else
        if less = true then
          some ((IntKind.wrap .i64 (0 - (IntKind.wrap .i64 t76.2.1))), 0)
        else
          some ((IntKind.wrap .i64 t76.2.1), 0)) = some (signOf Q less) := by
  have h0 := hq.nonneg
  have hE := halves_is hq hl
  rw [if_pos hQ] at hE
  rw [hE, Option.bind_some]
  simp only [Bool.or_eq_true, Bool.and_eq_true, decide_eq_true_eq, beq_iff_eq]
  unfold signOf
  by_cases c1 : Q / 18446744073709551616 > 0
  · rw [if_pos (Or.inl (Or.inl c1)), if_pos (Or.inl (by omega))]
  · have e : Q % 18446744073709551616 = Q := by omega
    rw [e]
    by_cases c2 : Q > 9223372036854775808
    · rw [if_pos (Or.inl (Or.inr c2)), if_pos (Or.inl c2)]
    · by_cases c3 : Q = 9223372036854775808
      · subst c3
        cases less <;> rfl
      · have e1 : IntKind.i64.wrap Q = Q := i64_id _ (by omega) (by omega)
        have e2 : IntKind.i64.wrap (0 - Q) = -Q := by rw [i64_id _ (by omega) (by omega)]; omega
        have c4 : ¬ (Q > 9223372036854775808 ∨ Q = 9223372036854775808 ∧ less = false) := fun h => h.elim c2 (fun h => c3 h.1)
        rw [if_neg (by simp [c1, c2, c3]), if_neg c3, if_neg c4, e1, e2]
        cases less <;> rfl

theorem ref_muldiv_is (a b c how : Int) (ha : -9223372036854775808 ≤ a ∧ a < 9223372036854775808) (hb : -9223372036854775808 ≤ b ∧ b < 9223372036854775808) (hc : -9223372036854775808 ≤ c ∧ c < 9223372036854775808) :
    lombardref01_MulDiv.f a b c how = some (mdOf a b c how) := by
  unfold lombardref01_MulDiv.f
  by_cases bad : c = 0 ∨ how < 1 ∨ how > 4
  · unfold mdOf
    rw [if_pos bad, if_pos (by simpa [or_assoc] using bad)]
  · unfold mdOf
    rw [if_neg bad, if_neg (by simpa [or_assoc] using bad)]
    have c1 : ¬ c = 0 := fun h => bad (Or.inl h)
    have c2 : ¬ how < 1 := fun h => bad (Or.inr (Or.inl h))
    have c3 : ¬ how > 4 := fun h => bad (Or.inr (Or.inr h))
    have hhow : how = 1 ∨ how = 2 ∨ how = 3 ∨ how = 4 := by omega
    obtain ⟨x, hx, xl, hE1⟩ := big_size_is a ha.1 ha.2
    obtain ⟨y, hy, yl, hE2⟩ := big_size_is b hb.1 hb.2
    obtain ⟨z, hz, zl, hE3⟩ := big_size_is c hc.1 hc.2
    obtain ⟨p, hp, pl, hE4⟩ := big_mul_is hx hy (by omega) (by omega)
    have dp : 0 < (c.natAbs : Int) := by omega
    obtain ⟨q, r, hq, hr, ql, rl, hE5⟩ := big_div_is hp hz dp (by omega) (by omega)
    have bx : (a.natAbs : Int) ≤ 9223372036854775808 := by omega
    have by' : (b.natAbs : Int) ≤ 9223372036854775808 := by omega
    have pz' : (a.natAbs : Int) * (b.natAbs : Int) ≤ 9223372036854775808 * 9223372036854775808 := Int.mul_le_mul bx by' (by omega) (by decide)
    have qb : (a.natAbs : Int) * (b.natAbs : Int) / (c.natAbs : Int) ≤ (a.natAbs : Int) * (b.natAbs : Int) := Int.ediv_le_self _ (Int.mul_nonneg (by omega) (by omega))
    have r0 := Int.emod_nonneg ((a.natAbs : Int) * (b.natAbs : Int)) (show (c.natAbs : Int) ≠ 0 by omega)
    have r1 := Int.emod_lt_of_pos ((a.natAbs : Int) * (b.natAbs : Int)) dp
    have hm : (!((!((decide (a < 0)) == (decide (b < 0)))) == (decide (c < 0)))) = minusOf a b c := minus_eq _ _ _
    rw [hE1, Option.bind_some, hE2, Option.bind_some, hE4, Option.bind_some, hE3, Option.bind_some, hE5, Option.bind_some]
    rw [hm]
    generalize minusOf a b c = m at *
    unfold quotOf
    generalize (a.natAbs : Int) * (b.natAbs : Int) / (c.natAbs : Int) = Q at *
    generalize (a.natAbs : Int) * (b.natAbs : Int) % (c.natAbs : Int) = R at *
    generalize (c.natAbs : Int) = d at *
    simp only
    have U : (if (decide ((r.length : Int) > 0)) = true then
        (lombardref01_Add.f r r).bind fun t41 =>
        (some z).bind fun t43 =>
        (lombardref01_Compare.f t41 t43).bind fun t45 =>
        if ((decide ((List.length q : Int) > 0)) = true → (0 : Int) ≤ 0 ∧ 0 < (List.length q : Int)) then
        some (((((how == 1) && m) || ((how == 2) && (!m))) || ((how == 4) && ((decide (t45 > 0)) || ((t45 == 0) && ((decide ((List.length q : Int) > 0)) && ((Int.tmod (nth q 0) 2) == 1)))))))
        else none
      else
        some false : Option Bool) = some (roundUp Q R d m how) := by
      by_cases hR : R = 0
      · have hr0 : ¬ (r.length : Int) > 0 := by
          subst hR
          rw [hr.zero]; decide
        rw [if_neg (by simpa using hr0)]
        unfold roundUp
        rw [if_pos hR]
      · have hr0 := is_pos hr hR
        obtain ⟨t, ht, tl, hE6⟩ := add_is hr hr 100 (by decide) (by omega) (by omega)
        obtain ⟨e, e1, e2, hE7⟩ := compare_is ht hz (by omega) (by omega)
        rw [if_pos (decide_eq_true hr0), hE6, Option.bind_some, Option.bind_some, hE7, Option.bind_some, if_pos (fun h => by have := of_decide_eq_true h; omega)]
        rw [ref_round e Q R d how m q hR (by omega) (by omega) hhow (odd_is hq) (fun h => by
          have : Q = 0 := by
            have : q = [] := by cases q with | nil => rfl | cons x l => exact absurd (by simp) h
            rw [← hq.val, this]; rfl
          rw [this]; rfl)]
    rw [U, Option.bind_some]
    by_cases hr : roundUp Q R d m how = true
    · rw [if_pos hr, if_pos hr]
      obtain ⟨t, ht, tl, hE1⟩ := of_is 1 (by decide) (by decide)
      obtain ⟨s, hs, sl, hE2⟩ := add_is hq ht 100 (by decide) (by omega) (by omega)
      rw [hE1, Option.bind_some, hE2, Option.bind_some, Option.bind_some]
      exact ref_end m s _ hs (by omega) (by omega)
    · rw [if_neg hr, if_neg hr, Option.bind_some, Int.add_zero]
      exact ref_end m q _ hq (by omega) (by omega)

end Go.Proofs.Ytlgfdldonoaahaa

