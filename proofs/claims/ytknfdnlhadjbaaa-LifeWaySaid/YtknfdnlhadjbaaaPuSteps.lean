/- Shows what a trade's steps come to. -/
import Derived.Test.YtknfdnlhadjbaaaPuLife
import Derived.Test.YtknfdnlhadjbaaaGx11
import Derived.Test.YtknfdnlhadjbaaaGx6
import Derived.Test.YtknfdnlhadjbaaaGx6
import Derived.Test.YtknfdnlhadjbaaaGx4
import Derived.Test.YtknfdnlhadjbaaaGx6
namespace Go.Proofs.Ytknfdnlhadjbaaa
open Go Go.Pm Go.Pm.Arith Go.Pm.Big
set_option linter.unusedVariables false
set_option linter.unusedSimpArgs false

theorem resets_loop (l : List api_Reset) (hl : l.length < 100000000000000) : ∀ (j i : Nat), l.length = i + j → loop (lombardref23_Resets.r0 l l) (i : Int) = some (.inr ())
  | 0, i, h => loop_end (by unfold lombardref23_Resets.r0 lombardref23_Resets.b0; rw [if_neg (by simp; omega)])
  | j + 1, i, h => by
    have g : (0 : Int) ≤ (i : Int) ∧ (i : Int) < (l.length : Int) := by omega
    have w : IntKind.i64.wrap ((i : Int) + 1) = ((i + 1 : Nat) : Int) := by rw [i64_id _ (by omega) (by omega)]; omega
    have s1 : lombardref23_Resets.r0 l l (i : Int) = some (.inl ((i + 1 : Nat) : Int)) := by
      unfold lombardref23_Resets.r0 lombardref23_Resets.b0
      rw [if_pos (decide_eq_true g.2), if_pos g, if_pos g, if_neg (by simp), w]
    rw [loop_next s1, resets_loop l hl j (i + 1) (by omega)]

theorem resets_self (l : List api_Reset) (hl : l.length < 100000000000000) : lombardref23_Resets.f l l = some true := by
  unfold lombardref23_Resets.f
  have := resets_loop l hl l.length 0 (by omega)
  have h : loop (lombardref23_Resets.r0 l l) 0 = _ := this
  rw [if_neg (by simp), h]; rfl

theorem resets_len {x : api_Trade} (hx : api_Trade.bd x) : x.Resets.length < 8796093022208 := by
  have := hx.2.2.2.2.2.2.2.2.1.1
  unfold reach at this
  omega

noncomputable def beginOf (x : api_Trade) (d : Int) : api_Trade × Int :=
  if x.Stage ≠ 1 then (x, 8) else if ¬ (0 ≤ d ∧ d ≤ 200000) ∨ d < x.Start then (x, 10) else (⟨x.ID, x.Twin, x.Member, x.Side, x.Basket, x.Amount, x.Start, x.End, x.Resets, 2, x.Short⟩, 0)

theorem begin_is (x : api_Trade) (d : Int) : life_Begin.f x d = some (beginOf x d) := by
  unfold life_Begin.f beginOf
  rw [goodCal]
  simp only [Option.bind_some]
  by_cases c : x.Stage ≠ 1
  · rw [if_pos (by simpa using c), if_pos c]
  rw [if_neg (by simpa using c), if_neg c]
  by_cases c2 : ¬ (0 ≤ d ∧ d ≤ 200000) ∨ d < x.Start
  · rw [if_pos (by simp; omega), if_pos c2]
  · rw [if_neg (by simp; omega), if_neg c2]

noncomputable def noticeOf (x : api_Trade) (d e : Int) : api_Trade × Int :=
  if x.Stage ≠ 2 ∨ x.End ≠ 0 then (x, 8) else if ¬ (0 ≤ d ∧ d ≤ 200000) ∨ ¬ (0 ≤ e ∧ e ≤ 200000) ∨ e ≤ d ∨ e ≤ x.Start ∨ e - x.Start > 3660 then (x, 10)
  else (⟨x.ID, x.Twin, x.Member, x.Side, x.Basket, x.Amount, x.Start, e, x.Resets, 3, x.Short⟩, 0)

theorem two_days (d e : Int) (f : Int → Option Bool) (hf : ∀ d, f d = some (decide (0 ≤ d ∧ d ≤ 200000))) : ∃ c, (if (!decide (0 ≤ d ∧ d ≤ 200000)) = false then f e else some default) = some c ∧ ((0 ≤ d ∧ d ≤ 200000) → c = decide (0 ≤ e ∧ e ≤ 200000)) := by
  obtain ⟨c, h1, h2⟩ := and_then (p := (!decide (0 ≤ d ∧ d ≤ 200000)) = false) (hf e)
  exact ⟨c, h1, fun h => h2 (by rw [decide_eq_true h]; rfl)⟩

theorem notice_tail (x : api_Trade) (hs : 0 ≤ x.Start ∧ x.Start ≤ 200000) (d e : Int) (he : inI64 e) (c : Bool) (hc : (0 ≤ d ∧ d ≤ 200000) → c = decide (0 ≤ e ∧ e ≤ 200000)) :
    (((((!decide (0 ≤ d ∧ d ≤ 200000)) || (!c)) || (decide (e ≤ d))) || (decide (e ≤ x.Start))) || (decide ((IntKind.wrap .i64 (e - x.Start)) > 3660))) = true ↔
      (¬ (0 ≤ d ∧ d ≤ 200000) ∨ ¬ (0 ≤ e ∧ e ≤ 200000) ∨ e ≤ d ∨ e ≤ x.Start ∨ e - x.Start > 3660) := by
  by_cases g : 0 ≤ d ∧ d ≤ 200000
  · rw [hc g]
    by_cases g2 : 0 ≤ e ∧ e ≤ 200000
    · rw [i64_id _ (by omega) (by omega), decide_eq_true g, decide_eq_true g2]
      simp
      omega
    · rw [decide_eq_false g2]
      simp; omega
  · rw [decide_eq_false g]
    simp; omega

theorem notice_rest (x : api_Trade) (hs : 0 ≤ x.Start ∧ x.Start ≤ 200000) (d e : Int) (he : inI64 e) : ∀ (f : Int → Option Bool) (hf : ∀ d, f d = some (decide (0 ≤ d ∧ d ≤ 200000))), ((f d).bind fun t5 =>
  (if (!t5) = false then f e else some default).bind fun t7 =>
  if (((((!t5) || (!t7)) || (decide (e ≤ d))) || (decide (e ≤ x.Start))) || (decide ((IntKind.wrap .i64 (e - x.Start)) > 3660))) = true then
    some (x, (10 : Int))
  else
    some ((⟨x.ID, x.Twin, x.Member, x.Side, x.Basket, x.Amount, x.Start, e, x.Resets, 3, x.Short⟩ : api_Trade), 0)) =
    some (if ¬ (0 ≤ d ∧ d ≤ 200000) ∨ ¬ (0 ≤ e ∧ e ≤ 200000) ∨ e ≤ d ∨ e ≤ x.Start ∨ e - x.Start > 3660 then (x, 10) else ((⟨x.ID, x.Twin, x.Member, x.Side, x.Basket, x.Amount, x.Start, e, x.Resets, 3, x.Short⟩ : api_Trade), 0)) := by
  intro f hf
  obtain ⟨c, h1, h2⟩ := two_days d e f hf
  rw [hf, Option.bind_some, h1, Option.bind_some]
  have t := notice_tail x hs d e he c h2
  by_cases k : (¬ (0 ≤ d ∧ d ≤ 200000) ∨ ¬ (0 ≤ e ∧ e ≤ 200000) ∨ e ≤ d ∨ e ≤ x.Start ∨ e - x.Start > 3660)
  · rw [if_pos (t.2 k), if_pos k]
  · rw [if_neg (fun h => k (t.1 h)), if_neg k]
theorem notice_is (x : api_Trade) (hs : 0 ≤ x.Start ∧ x.Start ≤ 200000) (d e : Int) (he : inI64 e) : life_Notice.f x d e = some (noticeOf x d e) := by
  unfold life_Notice.f noticeOf life_Open.f
  by_cases c : x.Stage ≠ 2 ∨ x.End ≠ 0
  · rw [if_pos c]
    by_cases c1 : x.Stage = 2
    · have c3 : x.End ≠ 0 := c.elim (fun h => (h c1).elim) id
      simp [c1, c3]
    · simp [c1]
  · have c1 : x.Stage = 2 := by omega
    have c3 : x.End = 0 := by omega
    rw [if_neg c, if_pos (show (x.Stage != 2) = false by simpa using c1), Option.bind_some, if_neg (by simp [c1, c3]), notice_rest x hs d e he calendar_Good.f goodCal]

noncomputable def closeOf (x : api_Trade) (d : Int) : api_Trade × Int :=
  if ¬ (x.Stage = 2 ∨ x.Stage = 3) ∨ x.End = 0 then (x, 8) else if ¬ (0 ≤ d ∧ d ≤ 200000) ∨ d < x.End then (x, 10) else (⟨x.ID, x.Twin, x.Member, x.Side, x.Basket, x.Amount, x.Start, x.End, x.Resets, 4, x.Short⟩, 0)

theorem close_is (x : api_Trade) (d : Int) : life_Close.f x d = some (closeOf x d) := by
  unfold life_Close.f closeOf life_Live.f life_Open.f
  simp only [Option.bind_some]
  by_cases c : ¬ (x.Stage = 2 ∨ x.Stage = 3) ∨ x.End = 0
  · rw [if_pos c]
    by_cases c1 : x.Stage = 2 ∨ x.Stage = 3
    · have c3 : x.End = 0 := c.elim (fun h => (h c1).elim) id
      have e : (x.Stage == 2 || x.Stage == 3) = true := by simpa using c1
      rw [e]; simp [c3]
    · have e : (x.Stage == 2 || x.Stage == 3) = false := by simpa using c1
      rw [e]; simp
  · have e : (x.Stage == 2 || x.Stage == 3) = true := by simp; omega
    have z : (x.End == 0) = false := by simp; omega
    rw [if_neg c, e, z, goodCal]
    simp only [Bool.not_true, Option.bind_some, Bool.false_or, if_true, Bool.false_eq_true, if_false]
    by_cases c2 : ¬ (0 ≤ d ∧ d ≤ 200000) ∨ d < x.End
    · rw [if_pos (by simp; omega), if_pos c2]
    · rw [if_neg (by simp; omega), if_neg c2]

noncomputable def failOf (x : api_Trade) : api_Trade × Int :=
  if x.Stage < 1 ∨ x.Stage > 3 then (x, 8) else (⟨x.ID, x.Twin, x.Member, x.Side, x.Basket, x.Amount, x.Start, x.End, x.Resets, 5, x.Short⟩, 0)

theorem fail_is (x : api_Trade) : life_Fail.f x = some (failOf x) := by
  unfold life_Fail.f failOf life_Over.f
  rw [Option.bind_some]
  by_cases c : x.Stage < 1 ∨ x.Stage > 3
  · rw [if_pos c, if_pos (by simp; omega)]
  · rw [if_neg c, if_neg (by simp; omega)]

noncomputable def resetOf (x : api_Trade) (d : Int) (r : api_Reset) : api_Trade × Int :=
  if x.End ≠ 0 ∨ x.Stage > 3 then (x, 8) else if r.Rate > 1000000 ∨ r.Rate < -1000000 then (x, 1)
  else if ¬ (0 ≤ d ∧ d ≤ 200000) ∨ ¬ (0 ≤ r.Day ∧ r.Day ≤ 200000) ∨ r.Day ≤ d ∨ x.Resets.length = 0 ∨ r.Day ≤ (nth x.Resets ((x.Resets.length : Int) - 1)).Day then (x, 10)
  else if x.Resets.length ≥ 64 then (x, 2) else (⟨x.ID, x.Twin, x.Member, x.Side, x.Basket, x.Amount, x.Start, x.End, x.Resets ++ [r], x.Stage, x.Short⟩, 0)

theorem reset_tail (x : api_Trade) (d : Int) (r : api_Reset) (c : Bool) (hc : (0 ≤ d ∧ d ≤ 200000) → c = decide (0 ≤ r.Day ∧ r.Day ≤ 200000)) :
    (((((!decide (0 ≤ d ∧ d ≤ 200000)) || (!c)) || (decide (r.Day ≤ d))) || ((List.length x.Resets : Int) == 0)) || (decide (r.Day ≤ (nth x.Resets ((List.length x.Resets : Int) - 1)).Day))) = true ↔
      (¬ (0 ≤ d ∧ d ≤ 200000) ∨ ¬ (0 ≤ r.Day ∧ r.Day ≤ 200000) ∨ r.Day ≤ d ∨ x.Resets.length = 0 ∨ r.Day ≤ (nth x.Resets ((x.Resets.length : Int) - 1)).Day) := by
  by_cases g : 0 ≤ d ∧ d ≤ 200000
  · rw [hc g]
    by_cases g2 : 0 ≤ r.Day ∧ r.Day ≤ 200000
    · rw [decide_eq_true g, decide_eq_true g2]
      simp only [Bool.not_true, Bool.false_or, Bool.or_eq_true, decide_eq_true_eq, beq_iff_eq]
      omega
    · rw [decide_eq_false g2]
      simp only [Bool.not_false, Bool.or_true, Bool.true_or, true_iff]
      exact .inr (.inl g2)
  · rw [decide_eq_false g]
    simp only [Bool.not_false, Bool.true_or, true_iff]
    exact .inl g

theorem reset_rest (x : api_Trade) (d : Int) (r : api_Reset) : ∀ (f : Int → Option Bool) (hf : ∀ d, f d = some (decide (0 ≤ d ∧ d ≤ 200000))) (m : Option (api_Trade × Int)) (hm : m = if x.Resets.length ≥ 64 then some (x, 2) else some ((⟨x.ID, x.Twin, x.Member, x.Side, x.Basket, x.Amount, x.Start, x.End, x.Resets ++ [r], x.Stage, x.Short⟩ : api_Trade), 0)),
    ((f d).bind fun t9 =>
    (if (!t9) = false then f r.Day else some default).bind fun t11 =>
    if (((((!t9) || (!t11)) || (decide (r.Day ≤ d))) || ((List.length x.Resets : Int) == 0)) = false → (0 : Int) ≤ (List.length x.Resets : Int) - 1 ∧ (List.length x.Resets : Int) - 1 < (List.length x.Resets : Int)) then
    if (((((!t9) || (!t11)) || (decide (r.Day ≤ d))) || ((List.length x.Resets : Int) == 0)) || (decide (r.Day ≤ ((nth x.Resets ((List.length x.Resets : Int) - 1)).Day)))) = true then
      some (x, (10 : Int))
    else m else none) = some (if ¬ (0 ≤ d ∧ d ≤ 200000) ∨ ¬ (0 ≤ r.Day ∧ r.Day ≤ 200000) ∨ r.Day ≤ d ∨ x.Resets.length = 0 ∨ r.Day ≤ (nth x.Resets ((x.Resets.length : Int) - 1)).Day then (x, 10)
    else if x.Resets.length ≥ 64 then (x, 2) else ((⟨x.ID, x.Twin, x.Member, x.Side, x.Basket, x.Amount, x.Start, x.End, x.Resets ++ [r], x.Stage, x.Short⟩ : api_Trade), 0)) := by
  intro f hf m hm
  obtain ⟨b, h1, h2⟩ := two_days d r.Day f hf
  rw [hf, Option.bind_some, h1, Option.bind_some]
  have t := reset_tail x d r b h2
  rw [if_pos (by
    intro h
    have : x.Resets.length ≠ 0 := fun z => by rw [z] at h; simp at h
    omega)]
  by_cases q : (¬ (0 ≤ d ∧ d ≤ 200000) ∨ ¬ (0 ≤ r.Day ∧ r.Day ≤ 200000) ∨ r.Day ≤ d ∨ x.Resets.length = 0 ∨ r.Day ≤ (nth x.Resets ((x.Resets.length : Int) - 1)).Day)
  · rw [if_pos (t.2 q), if_pos q]
  · rw [if_neg (fun h => q (t.1 h)), if_neg q, hm]
    by_cases m6 : x.Resets.length ≥ 64
    · rw [if_pos m6, if_pos m6]
    · rw [if_neg m6, if_neg m6]
theorem reset_is (x : api_Trade) (hx : api_Trade.bd x) (st : 1 ≤ x.Stage ∧ x.Stage ≤ 5) (d : Int) (r : api_Reset) : life_Reset.f x d r = some (resetOf x d r) := by
  have len := resets_len hx
  have w : IntKind.i64.wrap ((x.Resets.length : Int) - 1) = (x.Resets.length : Int) - 1 := i64_id _ (by omega) (by omega)
  unfold life_Reset.f resetOf life_Open.f life_Over.f slices_Clone_api_Reset.f
  rw [w]
  by_cases c : x.End ≠ 0 ∨ x.Stage > 3
  · rw [if_pos c]
    by_cases c1 : x.End = 0
    · have c3 : x.Stage = 4 ∨ x.Stage = 5 := by omega
      have e : (x.Stage == 4 || x.Stage == 5) = true := by simpa using c3
      rw [e]; simp [c1]
    · simp [c1]
  have c1 : (x.End == 0) = true := by simp; omega
  have c3 : (x.Stage == 4 || x.Stage == 5) = false := by simp; omega
  rw [if_neg c, c1, c3]
  simp only [Bool.not_true, Option.bind_some, Bool.false_or, if_true, Bool.false_eq_true, if_false]
  by_cases k : r.Rate > 1000000 ∨ r.Rate < -1000000
  · rw [if_pos k, if_pos (by simp only [Bool.or_eq_true, decide_eq_true_eq]; omega)]
  · rw [if_neg k, if_neg (by simp only [Bool.or_eq_true, decide_eq_true_eq]; omega)]
    refine reset_rest x d r calendar_Good.f goodCal _ ?_
    by_cases m : x.Resets.length ≥ 64
    · rw [if_pos (decide_eq_true (by omega)), if_pos m]
    · rw [if_neg (by simp; omega), if_neg m, if_pos (by omega), Option.bind_some, if_pos (by simp; omega)]

end Go.Proofs.Ytknfdnlhadjbaaa

