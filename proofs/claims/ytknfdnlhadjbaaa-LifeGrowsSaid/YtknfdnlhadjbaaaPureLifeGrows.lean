/- The plain statement of LifeGrows: what each day adds makes the interest, and from the end on nothing is added. -/
import Derived.Test.YtknfdnlhadjbaaaPuLife
import Derived.Test.YtknfdnlhadjbaaaGx7
namespace Go.Proofs.Ytknfdnlhadjbaaa
open Go Go.Pm Go.Pm.Arith
set_option linter.unusedVariables false
set_option linter.unusedSimpArgs false

theorem int_next {x : api_Trade} {d : Int} (h : x.End ≠ 0) (hd : d ≥ x.End) (h0 : 0 ≤ d) (h1 : d + 1 ≤ 200000) : intOf x (d + 1) = intOf x d := by
  have u : untilOf x (d + 1) = untilOf x d := by
    rw [until_cut h (by omega)]
    by_cases k : d > x.End
    · rw [until_cut h k]
    · rw [until_low k]; congr 1; omega
  unfold intOf
  rw [if_pos (show 0 ≤ d + 1 ∧ d + 1 ≤ 200000 by omega), if_pos (show 0 ≤ d ∧ d ≤ 200000 by omega), u]

theorem grows_loop (x : api_Trade) (hx : api_Trade.bd x) (d m : Int) (hd : 0 ≤ d ∧ d ≤ 100000) (n : Int) (hn : 0 ≤ n ∧ n < 40) (hm : IntKind.wrap .i64 (Int.tmod m 40) = n) : ∀ (j : Nat) (i v : Int), n - i = j → 0 ≤ i → intOf x (d + i) = (v, 0) →
    ∃ o, loop (lombardlaw24_LifeGrows.r0 x d m) (v, i) = some o ∧ (match o with | .inl b => b = true | .inr w => intOf x (d + n) = (w, 0))
  | 0, i, v, hj, hi, hv => by
    refine ⟨.inr v, loop_end ?_, ?_⟩
    · unfold lombardlaw24_LifeGrows.r0 lombardlaw24_LifeGrows.b0
      rw [hm, if_neg (by simp; omega)]
    · simp only
      rw [← hv, show n = i by omega]
  | j + 1, i, v, hj, hi, hv => by
    have w1 : IntKind.i64.wrap (d + i) = d + i := i64_id _ (by omega) (by omega)
    have w2 : IntKind.i64.wrap (i + 1) = i + 1 := i64_id _ (by omega) (by omega)
    have mn : min (d + i + 1) 200000 = d + i + 1 := by omega
    have lt : i < n := by omega
    by_cases e : (intOf x (d + i + 1)).2 = 0
    · have t : todayOf x (d + i) = ((intOf x (d + i + 1)).1 - v, 0) := by
        unfold todayOf
        rw [mn, hv, if_neg (fun h => h rfl), if_neg (fun h => h e)]
      have b1 := intOf_in x (d + i)
      have b2 := intOf_in x (d + i + 1)
      rw [hv] at b1
      simp only at b1
      have key : lombardlaw24_LifeGrows.r0 x d m (v, i) = some (.inl ((intOf x (d + i + 1)).1, i + 1)) := by
        unfold lombardlaw24_LifeGrows.r0 lombardlaw24_LifeGrows.b0
        simp only
        rw [hm, if_pos (decide_eq_true lt), w1, today_is x hx, Option.bind_some, t, w2]
        simp only
        rw [if_neg (by decide), if_neg, show v + ((intOf x (d + i + 1)).1 - v) = (intOf x (d + i + 1)).1 by omega, i64_id _ (by omega) (by omega)]
        intro h
        simp only [Bool.and_eq_true, bne_iff_ne, ne_eq, decide_eq_true_eq] at h
        have := int_next h.1.1 h.1.2 (by omega) (by omega)
        rw [this, hv] at h
        exact h.2 (by simp only; omega)
      rw [loop_next key]
      have hv' : intOf x (d + (i + 1)) = ((intOf x (d + i + 1)).1, 0) := by
        rw [← Int.add_assoc]; exact Prod.ext rfl e
      exact grows_loop x hx d m hd n hn hm j (i + 1) _ (by omega) (by omega) hv'
    · have t : todayOf x (d + i) = (0, (intOf x (d + i + 1)).2) := by
        unfold todayOf
        rw [mn, hv, if_neg (fun h => h rfl), if_pos e]
      refine ⟨.inl true, loop_end ?_, rfl⟩
      unfold lombardlaw24_LifeGrows.r0 lombardlaw24_LifeGrows.b0
      simp only
      rw [hm, if_pos (decide_eq_true lt), w1, today_is x hx, Option.bind_some, t]
      simp only
      rw [if_pos (by simpa using e), awake_is]; rfl

theorem Pure.LifeGrows : ∀ (x0 : api_Trade) (x1 : Int) (x2 : Int), (api_Trade.bd x0) → (inK .i64 x1) → (inK .u8 x2) → lombardlaw24_LifeGrows.f x0 x1 x2 = some true := by
  intro x d m hx hd hm
  have m0 : 0 ≤ m ∧ m ≤ 255 := hm
  obtain ⟨b, hb, k⟩ := good24 x hx
  unfold lombardlaw24_LifeGrows.f
  rw [hb, awake_is, Option.bind_some]
  by_cases c : ((((!b) || (decide (d < 0))) || (decide (d > 100000))) || (decide ((IntKind.wrap .i64 (d - x.Start)) > 3000))) = true
  · rw [if_pos c]; rfl
  · rw [if_neg c, (interest_is x hx d).1, Option.bind_some]
    simp only [Bool.or_eq_true, decide_eq_true_eq, not_or] at c
    by_cases z : (intOf x d).2 = 0
    · have hn : IntKind.wrap .i64 (Int.tmod m 40) = m % 40 := by
        rw [Int.tmod_eq_emod_of_nonneg m0.1, i64_id _ (by omega) (by omega)]
      obtain ⟨o, h1, h2⟩ := grows_loop x hx d m (by omega) (m % 40) (by omega) hn (m % 40).toNat 0 (intOf x d).1 (by omega) (by omega) (by rw [Int.add_zero]; exact Prod.ext rfl z)
      rw [if_neg (by simpa using z), h1, Option.bind_some]
      cases o with
      | inl r => simp only at h2; rw [h2]
      | inr w =>
        simp only at h2
        simp only
        rw [hn, i64_id (d + m % 40) (by omega) (by omega), (interest_is x hx _).1, h2]
        simp
    · rw [if_pos (by simpa using z)]; rfl

end Go.Proofs.Ytknfdnlhadjbaaa

