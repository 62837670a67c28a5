/- Shows what a trade's interest of today is, and that the law's own example holds. -/
import Derived.Test.YtknfdnlhadjbaaaPuTrade
namespace Go.Proofs.Ytknfdnlhadjbaaa
open Go Go.Pm Go.Pm.Arith Go.Pm.Big
set_option linter.unusedVariables false
set_option linter.unusedSimpArgs false

theorem good24 (x : api_Trade) (hx : api_Trade.bd x) : ∃ b, lombardlaw24_good.f x = some b ∧ (b = true → Stands x) := by
  unfold lombardlaw24_good.f
  obtain ⟨r, hr, k⟩ := check23 x hx
  by_cases c : (x.Resets.length : Int) ≤ 80
  · rw [if_pos (decide_eq_true c), hr, Option.bind_some, decide_eq_true c]
    exact ⟨_, rfl, fun h => k (by simpa using h)⟩
  · rw [if_neg (by simpa using c), Option.bind_some, decide_eq_false c]
    exact ⟨_, rfl, fun h => by simp at h⟩

theorem one_span (n : Nat) : S [⟨5, 10000⟩] 5 n = 10000 * n := by
  have fi : Fine [⟨5, 10000⟩] := fine_of (by decide)
  refine S_const n (fun u hu => ?_)
  rw [rateAt_cut fi (c := 1) ⟨by decide, fun k hk => by
    obtain rfl : k = 0 := by omega
    show (5 : Int) ≤ _
    omega, fun k hk hk2 => by simp at hk2; omega⟩]
  rfl

def T0 : api_Trade := ⟨1, 2, 1, 1, 1, 360000000, 5, 0, [(⟨5, 10000⟩ : api_Reset)], 2, false⟩
def T1 : api_Trade := ⟨1, 2, 1, 1, 1, 360000000, 5, 9, [(⟨5, 10000⟩ : api_Reset)], 3, false⟩

theorem bd_one : (fun l : List api_Reset => l.length * 16 ≤ reach ∧ ∀ x ∈ l, api_Reset.bd x) [(⟨5, 10000⟩ : api_Reset)] := by
  refine ⟨by decide, fun x hx => ?_⟩
  rw [List.mem_singleton] at hx
  subst hx
  exact ⟨⟨by decide, by decide⟩, ⟨by decide, by decide⟩, trivial⟩
theorem T0_bd : api_Trade.bd T0 := by
  refine ⟨?_, ?_, ?_, ?_, ?_, ?_, ?_, ?_, bd_one, ?_, trivial, trivial⟩ <;> exact ⟨by decide, by decide⟩
theorem T1_bd : api_Trade.bd T1 := by
  refine ⟨?_, ?_, ?_, ?_, ?_, ?_, ?_, ?_, bd_one, ?_, trivial, trivial⟩ <;> exact ⟨by decide, by decide⟩

theorem int_T0 (d : Int) (hd : 5 ≤ d ∧ d ≤ 20) : intOf T0 d = (10000 * (d - 5), 0) := by
  have u : untilOf T0 d = d := by
    unfold untilOf
    rw [if_neg (fun h => h.1 rfl)]
    show max d 5 = d
    omega
  have e : runErr 360000000 [(⟨5, 10000⟩ : api_Reset)] 5 d = 0 := by
    have g : goodSpan [(⟨5, 10000⟩ : api_Reset)] 5 d := by
      unfold goodSpan
      show _ ∧ _ ∧ _ ∧ _ ∧ _ ∧ _ ∧ (5 : Int) ≤ 5
      omega
    unfold runErr
    rw [if_neg (by decide), if_neg (fun h => h g), if_neg (by decide)]
  have hS := one_span (d - 5).toNat
  unfold intOf
  rw [if_pos (by omega), u]
  show (if runErr 360000000 [(⟨5, 10000⟩ : api_Reset)] 5 d = 0 then (360000000 * S [(⟨5, 10000⟩ : api_Reset)] 5 (d - 5).toNat / 360000000, (0 : Int)) else _) = _
  rw [if_pos e, hS]
  refine Prod.ext ?_ rfl
  simp only
  omega

theorem int_T1 : intOf T1 20 = (40000, 0) := by
  have u : untilOf T1 20 = 9 := by decide
  have e : runErr 360000000 [(⟨5, 10000⟩ : api_Reset)] 5 9 = 0 := by decide
  have hS := one_span 4
  unfold intOf
  rw [if_pos (by omega), u]
  show (if runErr 360000000 [(⟨5, 10000⟩ : api_Reset)] 5 9 = 0 then (360000000 * S [(⟨5, 10000⟩ : api_Reset)] 5 4 / 360000000, (0 : Int)) else _) = _
  rw [if_pos e, hS]
  rfl

noncomputable def todayOf (x : api_Trade) (d : Int) : Int × Int :=
  if (intOf x d).2 ≠ 0 then (0, (intOf x d).2) else if (intOf x (min (d + 1) 200000)).2 ≠ 0 then (0, (intOf x (min (d + 1) 200000)).2) else ((intOf x (min (d + 1) 200000)).1 - (intOf x d).1, 0)

theorem int_day {x : api_Trade} {d : Int} (h : (intOf x d).2 = 0) : 0 ≤ d ∧ d ≤ 200000 := by
  unfold intOf at h
  by_cases c : 0 ≤ d ∧ d ≤ 200000
  · exact c
  · rw [if_neg c] at h; simp at h

theorem today_is (x : api_Trade) (hx : api_Trade.bd x) (d : Int) : life_Today.f x d = some (todayOf x d) := by
  unfold life_Today.f todayOf
  rw [(interest_is x hx d).1, Option.bind_some]
  by_cases c : (intOf x d).2 = 0
  · have dd := int_day c
    have e : minI (IntKind.wrap .i64 (d + 1)) 200000 = min (d + 1) 200000 := by
      rw [i64_id _ (by omega) (by omega)]
      unfold minI
      split <;> omega
    have b1 := intOf_in x d
    have b2 := intOf_in x (min (d + 1) 200000)
    rw [if_neg (by simpa using c), if_neg (by simpa using c), e, (interest_is x hx _).1, Option.bind_some]
    by_cases c2 : (intOf x (min (d + 1) 200000)).2 = 0
    · rw [if_neg (by simpa using c2), if_neg (by simpa using c2), i64_id _ (by omega) (by omega)]
    · rw [if_pos (by simpa using c2), if_pos (by simpa using c2)]
  · rw [if_pos (by simpa using c), if_pos (by simpa using c)]

theorem awake_is : lombardlaw24_awake.f = some true := by
  unfold lombardlaw24_awake.f
  have e1 : life_Interest.f (⟨1, 2, 1, 1, 1, 360000000, 5, 0, [(⟨5, 10000⟩ : api_Reset)], 2, false⟩ : api_Trade) 8 = some (30000, 0) := by
    show life_Interest.f T0 8 = _
    rw [(interest_is T0 T0_bd 8).1, int_T0 8 (by omega)]; rfl
  have e2 : life_Today.f (⟨1, 2, 1, 1, 1, 360000000, 5, 0, [(⟨5, 10000⟩ : api_Reset)], 2, false⟩ : api_Trade) 8 = some (10000, 0) := by
    show life_Today.f T0 8 = _
    rw [today_is T0 T0_bd 8]
    unfold todayOf
    rw [show min ((8 : Int) + 1) 200000 = 9 by decide, int_T0 8 (by omega), int_T0 9 (by omega)]; rfl
  have e3 : life_Notice.f (⟨1, 2, 1, 1, 1, 360000000, 5, 0, [(⟨5, 10000⟩ : api_Reset)], 2, false⟩ : api_Trade) 8 9 = some (T1, 0) := by
    unfold life_Notice.f life_Open.f
    rw [goodCal, goodCal]
    rfl
  have e4 : life_Interest.f T1 20 = some (40000, 0) := by
    rw [(interest_is T1 T1_bd 20).1, int_T1]
  rw [e1, Option.bind_some, e2, Option.bind_some, e3, Option.bind_some, e4, Option.bind_some]
  rfl

end Go.Proofs.Ytknfdnlhadjbaaa

