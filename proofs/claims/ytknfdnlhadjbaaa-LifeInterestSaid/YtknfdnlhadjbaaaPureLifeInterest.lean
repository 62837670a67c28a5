/- The plain statement of LifeInterest: a trade's interest, what it owes, its interest of today and its rate, the program's and the document's, are the same. -/
import Derived.Test.YtknfdnlhadjbaaaPuLife
import Derived.Test.YtknfdnlhadjbaaaGx12
namespace Go.Proofs.Ytknfdnlhadjbaaa
open Go Go.Pm Go.Pm.Arith
set_option linter.unusedVariables false
set_option linter.unusedSimpArgs false

theorem ref_plus_is (a b : Int) (ha : inI64 a) (hb : inI64 b) : lombardref01_Plus.f a b = some (sumOf (a + b)) := by
  unfold inI64 at ha hb
  unfold sumOf
  simp only [lombardref01_Plus.f, i64_wrap, Bool.or_eq_true, Bool.and_eq_true, decide_eq_true_eq]
  repeat' split
  all_goals first
    | (exfalso; omega)
    | rfl
    | (congr 2; omega)

theorem ref_today_is (x : api_Trade) (hx : api_Trade.bd x) (d : Int) : lombardref24_Today.f x d = some (todayOf x d) := by
  unfold lombardref24_Today.f todayOf
  rw [(interest_is x hx d).2, Option.bind_some]
  by_cases c : (intOf x d).2 = 0
  · have dd := int_day c
    have e : (if (decide (d < 200000)) = true then some (IntKind.wrap .i64 (d + 1)) else some d : Option Int) = some (min (d + 1) 200000) := by
      by_cases k : d < 200000
      · rw [if_pos (decide_eq_true k), i64_id _ (by omega) (by omega)]; congr 1; omega
      · rw [if_neg (by simpa using k)]; congr 1; omega
    have b1 := intOf_in x d
    have b2 := intOf_in x (min (d + 1) 200000)
    have c' : ¬ (((intOf x d).2 != 0) = true) := by simpa using c
    rw [if_neg c', if_neg (show ¬ ((intOf x d).2 ≠ 0) from fun h => h c), e, Option.bind_some, (interest_is x hx _).2, Option.bind_some]
    by_cases c2 : (intOf x (min (d + 1) 200000)).2 = 0
    · rw [if_neg (by simpa using c2), if_neg (by simpa using c2), i64_id _ (by omega) (by omega)]
    · rw [if_pos (by simpa using c2), if_pos (by simpa using c2)]
  · rw [if_pos (by simpa using c), if_pos (by simpa using c)]

theorem owed_is (x : api_Trade) (hx : api_Trade.bd x) (d : Int) : ∃ r, life_Owed.f x d = some r ∧ lombardref24_Owed.f x d = some r := by
  have ha : inI64 x.Amount := in64 hx.2.2.2.2.2.1
  have b1 := intOf_in x d
  unfold life_Owed.f lombardref24_Owed.f
  rw [(interest_is x hx d).1, (interest_is x hx d).2, Option.bind_some, Option.bind_some, plus_is _ _ ha (by unfold inI64; omega), ref_plus_is _ _ ha (by unfold inI64; omega)]
  split <;> exact ⟨_, rfl, rfl⟩

theorem Pure.LifeInterest : ∀ (x0 : api_Trade) (x1 : Int), (api_Trade.bd x0) → (inK .i64 x1) → lombardlaw24_LifeInterest.f x0 x1 = some true := by
  intro x d hx _
  obtain ⟨b, hb, k⟩ := good24 x hx
  unfold lombardlaw24_LifeInterest.f
  rw [hb, awake_is, Option.bind_some]
  cases b with
  | false => rfl
  | true =>
    have fi := fine_of (k rfl).check
    obtain ⟨r, h1, h2⟩ := owed_is x hx d
    obtain ⟨c, hc, e⟩ := rate_is x.Resets d fi
    rw [if_neg (by decide), (interest_is x hx d).1, (interest_is x hx d).2, h1, h2, today_is x hx d, ref_today_is x hx d, ref_rate_is x.Resets d fi c hc]
    unfold life_Rate.f
    rw [e]
    simp

end Go.Proofs.Ytknfdnlhadjbaaa

