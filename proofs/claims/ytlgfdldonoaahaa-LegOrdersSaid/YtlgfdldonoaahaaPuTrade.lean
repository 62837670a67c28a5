/- Shows, in plain whole numbers, what the document's check of a trade tells, and what a trade's interest is, the program's and the document's. -/
import Derived.Test.YtlgfdldonoaahaaPuSpan
namespace Go.Proofs.Ytlgfdldonoaahaa
open Go Go.Pm Go.Pm.Arith Go.Pm.Big
set_option linter.unusedVariables false
set_option linter.unusedSimpArgs false

/-- A trade that stands. -/
structure Stands (x : api_Trade) : Prop where
  check : checkOf x.Resets = 0
  first : dayAt x.Resets 0 = x.Start
  amount : 1 ≤ x.Amount ∧ x.Amount ≤ 1125899906842624
  start : 0 ≤ x.Start ∧ x.Start ≤ 200000
  fin : x.End = 0 ∨ (0 ≤ x.End ∧ x.End ≤ 200000 ∧ 1 ≤ x.End - x.Start ∧ x.End - x.Start ≤ 3660)
  stage : 1 ≤ x.Stage ∧ x.Stage ≤ 5

theorem in23 (x a b : Int) : lombardref23_in.f x a b = some (decide (a ≤ x ∧ x ≤ b)) := by
  unfold lombardref23_in.f
  congr 1
  by_cases h : a ≤ x ∧ x ≤ b
  · rw [decide_eq_true h]; simp; omega
  · rw [decide_eq_false h]; simp; omega

theorem good02 (x : Int) : lombardref02_Good.f x = some (decide (0 ≤ x ∧ x ≤ 200000)) := by
  unfold lombardref02_Good.f
  congr 1
  by_cases h : 0 ≤ x ∧ x ≤ 200000
  · rw [decide_eq_true h]; simp; omega
  · rw [decide_eq_false h]; simp; omega

theorem goodCal (x : Int) : calendar_Good.f x = some (decide (0 ≤ x ∧ x ≤ 200000)) := good02 x

theorem and_then {p : Prop} [Decidable p] {m : Option Bool} {b : Bool} (hm : m = some b) : ∃ c, (if p then m else some default) = some c ∧ (p → c = b) := by
  by_cases h : p
  · exact ⟨b, by rw [if_pos h, hm], fun _ => rfl⟩
  · exact ⟨default, by rw [if_neg h], fun k => absurd k h⟩

theorem terms23 (f : api_Fill) (hs : inI64 f.Start) (he : inI64 f.End) : ∃ r, lombardref23_Terms.f f = some r ∧
    (r = 0 → (1 ≤ f.Amount ∧ f.Amount ≤ 1125899906842624) ∧ (0 ≤ f.Start ∧ f.Start ≤ 200000) ∧ (f.End = 0 ∨ (0 ≤ f.End ∧ f.End ≤ 200000 ∧ 1 ≤ f.End - f.Start ∧ f.End - f.Start ≤ 3660))) := by
  unfold lombardref23_Terms.f
  rw [in23, Option.bind_some]
  obtain ⟨c2, e2, k2⟩ := and_then (p := (!decide (1 ≤ f.Basket ∧ f.Basket ≤ 64)) = false) (in23 f.Amount 1 1125899906842624)
  rw [e2, Option.bind_some]
  obtain ⟨c3, e3, k3⟩ := and_then (p := ((!decide (1 ≤ f.Basket ∧ f.Basket ≤ 64)) || !c2) = false) (in23 f.Rate (-1000000) 1000000)
  rw [e3, Option.bind_some]
  by_cases t : ((!decide (1 ≤ f.Basket ∧ f.Basket ≤ 64)) || !c2 || !c3) = true
  · rw [if_pos t]
    exact ⟨1, rfl, fun h => by omega⟩
  · rw [if_neg t, good02, Option.bind_some]
    simp only [Bool.or_eq_true, Bool.not_eq_true', decide_eq_false_iff_not, not_or, Decidable.not_not, Bool.not_eq_false] at t
    have k2' := k2 (by rw [decide_eq_true t.1.1]; rfl)
    rw [t.1.2] at k2'
    have am := of_decide_eq_true k2'.symm
    obtain ⟨c4, e4, k4⟩ := and_then (p := (!decide (0 ≤ f.Start ∧ f.Start ≤ 200000)) = false ∧ (f.End != 0) = true) (good02 f.End)
    rw [e4, Option.bind_some]
    obtain ⟨c5, e5, k5⟩ := and_then (p := (!decide (0 ≤ f.Start ∧ f.Start ≤ 200000)) = false ∧ (f.End != 0) = true ∧ (!c4) = false) (in23 (IntKind.wrap .i64 (f.End - f.Start)) 1 3660)
    rw [e5, Option.bind_some]
    by_cases t2 : ((!decide (0 ≤ f.Start ∧ f.Start ≤ 200000)) || f.End != 0 && (!c4 || !c5)) = true
    · rw [if_pos t2]
      exact ⟨10, rfl, fun h => by omega⟩
    · rw [if_neg t2]
      refine ⟨0, rfl, fun _ => ⟨am, ?_⟩⟩
      by_cases s : 0 ≤ f.Start ∧ f.Start ≤ 200000
      · refine ⟨s, ?_⟩
        by_cases z : f.End = 0
        · exact Or.inl z
        · right
          have z' : (f.End != 0) = true := by simpa using z
          have s' : (!decide (0 ≤ f.Start ∧ f.Start ≤ 200000)) = false := by rw [decide_eq_true s]; rfl
          rw [s', z', Bool.false_or, Bool.true_and] at t2
          simp only [Bool.or_eq_true, Bool.not_eq_true', not_or, Bool.not_eq_false] at t2
          have k4' := k4 ⟨s', z'⟩
          rw [t2.1] at k4'
          have g := of_decide_eq_true k4'.symm
          have k5' := k5 ⟨s', z', by rw [t2.1]; rfl⟩
          rw [t2.2] at k5'
          have g2 := of_decide_eq_true k5'.symm
          rw [i64_id _ (by omega) (by omega)] at g2
          omega
      · exact absurd (by rw [decide_eq_false s]; rfl) t2

theorem check23 (x : api_Trade) (hx : api_Trade.bd x) : ∃ r, lombardref23_Check.f x = some r ∧ (r = 0 → Stands x) := by
  have hs : inI64 x.Start := in64 hx.2.2.2.2.2.2.1
  have he : inI64 x.End := in64 hx.2.2.2.2.2.2.2.1
  unfold lombardref23_Check.f
  rw [in23, Option.bind_some]
  obtain ⟨c2, e2, -⟩ := and_then (p := (!decide (1 ≤ x.ID ∧ x.ID ≤ 1125899906842624)) = false) (in23 x.Twin 1 1125899906842624)
  rw [e2, Option.bind_some]
  obtain ⟨c3, e3, -⟩ := and_then (p := ((!decide (1 ≤ x.ID ∧ x.ID ≤ 1125899906842624)) || !c2) = false) (in23 x.Side 1 2)
  rw [e3, Option.bind_some]
  obtain ⟨c4, e4, k4⟩ := and_then (p := ((!decide (1 ≤ x.ID ∧ x.ID ≤ 1125899906842624)) || !c2 || !c3) = false) (in23 x.Stage 1 5)
  rw [e4, Option.bind_some]
  split
  · exact ⟨1, rfl, fun h => by omega⟩
  rename_i nb
  have stg : 1 ≤ x.Stage ∧ x.Stage ≤ 5 := by
    rw [Bool.or_eq_true, not_or] at nb
    have := k4 (by simpa using nb.1)
    rw [this] at nb
    simpa using nb.2
  split
  · exact ⟨32, rfl, fun h => by omega⟩
  rw [(check_is x.Resets).2, Option.bind_some]
  by_cases z : checkOf x.Resets = 0
  · have fi := fine_of z
    have ps := fi.pos
    have e : (nth x.Resets 0).Day = dayAt x.Resets 0 := rfl
    rw [if_neg (by simpa using z), if_pos (by omega), e]
    by_cases d : dayAt x.Resets 0 = x.Start
    · rw [if_neg (by simpa using d), in23, Option.bind_some]
      split
      · exact ⟨22, rfl, fun h => by omega⟩
      · rw [if_pos (by omega)]
        obtain ⟨r, hr, k⟩ := terms23 (⟨0, 0, x.Basket, x.Amount, (nth x.Resets 0).Rate, x.Start, x.End⟩ : api_Fill) hs he
        rw [hr]
        refine ⟨r, rfl, fun h => ?_⟩
        obtain ⟨k1, k2, k3⟩ := k h
        exact ⟨z, d, k1, k2, k3, stg⟩
    · rw [if_pos (by simpa using d)]
      exact ⟨10, rfl, fun h => by omega⟩
  · rw [if_pos (by simpa using z)]
    exact ⟨_, rfl, fun h => absurd h z⟩

def untilOf (x : api_Trade) (d : Int) : Int := max (if x.End ≠ 0 ∧ d > x.End then x.End else d) x.Start

noncomputable def intOf (x : api_Trade) (d : Int) : Int × Int :=
  if 0 ≤ d ∧ d ≤ 200000 then (if runErr x.Amount x.Resets x.Start (untilOf x d) = 0 then (x.Amount * S x.Resets x.Start (untilOf x d - x.Start).toNat / 360000000, 0) else (0, runErr x.Amount x.Resets x.Start (untilOf x d)))
  else (0, 10)

theorem until_no {x : api_Trade} {d : Int} (z : x.End = 0) : untilOf x d = max d x.Start := by unfold untilOf; rw [if_neg (fun (h : x.End ≠ 0 ∧ d > x.End) => h.1 z)]
theorem until_cut {x : api_Trade} {d : Int} (z : x.End ≠ 0) (k : d > x.End) : untilOf x d = max x.End x.Start := by unfold untilOf; rw [if_pos (show x.End ≠ 0 ∧ d > x.End from ⟨z, k⟩)]
theorem until_low {x : api_Trade} {d : Int} (k : ¬ d > x.End) : untilOf x d = max d x.Start := by unfold untilOf; rw [if_neg (fun (h : x.End ≠ 0 ∧ d > x.End) => k h.2)]

theorem until_in {x : api_Trade} (hs : inI64 x.Start) (he : inI64 x.End) {d : Int} (hd : 0 ≤ d ∧ d ≤ 200000) : inI64 (untilOf x d) := by
  unfold inI64 untilOf at *
  split <;> omega

theorem interest_is (x : api_Trade) (hx : api_Trade.bd x) (d : Int) : life_Interest.f x d = some (intOf x d) ∧ lombardref24_Interest.f x d = some (intOf x d) := by
  have hs : inI64 x.Start := in64 hx.2.2.2.2.2.2.1
  have he : inI64 x.End := in64 hx.2.2.2.2.2.2.2.1
  have ha : inI64 x.Amount := in64 hx.2.2.2.2.2.1
  unfold life_Interest.f lombardref24_Interest.f intOf
  rw [goodCal, good02, Option.bind_some, Option.bind_some]
  by_cases c : 0 ≤ d ∧ d ≤ 200000
  · have hu := until_in hs he c
    rw [if_pos c, decide_eq_true c]
    simp only [Bool.not_true, Bool.false_eq_true, if_false]
    have u1 : life_until.f x d = some (untilOf x d) := by
      unfold life_until.f life_Open.f maxI minI
      rw [Option.bind_some]
      by_cases z : x.End = 0
      · rw [if_neg (by simpa using z), until_no z]
        congr 1
        split <;> omega
      · rw [if_pos (by simpa using z)]
        congr 1
        by_cases k : d > x.End
        · rw [until_cut z k, if_pos (show x.End < d from k)]
          split <;> omega
        · rw [until_low k, if_neg (show ¬ x.End < d from k)]
          split <;> omega
    have u2 : ((if ((x.End != 0) && (decide (d > x.End))) = true then some x.End else some d : Option Int)).bind (fun o7 => (if (decide (o7 < x.Start)) = true then some x.Start else some o7 : Option Int)) = some (untilOf x d) := by
      by_cases k : x.End ≠ 0 ∧ d > x.End
      · rw [until_cut k.1 k.2, if_pos (by simp; exact k), Option.bind_some]
        by_cases k2 : x.End < x.Start
        · rw [if_pos (decide_eq_true k2)]; congr 1; omega
        · rw [if_neg (by simpa using k2)]; congr 1; omega
      · have e : untilOf x d = max d x.Start := by unfold untilOf; rw [if_neg k]
        rw [e, if_neg (by simp; exact fun h => by have := k; simp at this; exact this h), Option.bind_some]
        by_cases k2 : d < x.Start
        · rw [if_pos (decide_eq_true k2)]; congr 1; omega
        · rw [if_neg (by simpa using k2)]; congr 1; omega
    refine ⟨?_, ?_⟩
    · rw [u1, Option.bind_some, between_is _ _ _ _ hs hu]; rfl
    · rw [← Option.bind_assoc, u2, Option.bind_some, ref_between_is _ _ _ _ ha hs hu]; rfl
  · rw [if_neg c, decide_eq_false c]
    exact ⟨rfl, rfl⟩

theorem intOf_in (x : api_Trade) (d : Int) : -12000000000000000 ≤ (intOf x d).1 ∧ (intOf x d).1 ≤ 12000000000000000 := by
  unfold intOf
  split
  · split
    · rename_i c z
      obtain ⟨h, g, h1, h2⟩ := runErr_zero z
      unfold goodSpan at g
      have pb := prod_S h ⟨h1, h2⟩ x.Start (n := (untilOf x d - x.Start).toNat) (by omega)
      simp only
      omega
    · simp only; omega
  · simp only; omega

end Go.Proofs.Ytlgfdldonoaahaa

