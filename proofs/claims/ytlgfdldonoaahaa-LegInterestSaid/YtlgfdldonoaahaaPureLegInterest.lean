/- The plain statement of LegInterest: the second leg turns the first one round, and the cash differs by the interest. -/
import Derived.Test.YtlgfdldonoaahaaPuLeg
import Derived.Test.YtlgfdldonoaahaaGx16
namespace Go.Proofs.Ytlgfdldonoaahaa
open Go Go.Pm Go.Pm.Arith Go.Pm.Big
set_option linter.unusedVariables false
set_option linter.unusedSimpArgs false

theorem neg_zero (a : Int) : IntKind.wrap .i64 (a + IntKind.wrap .i64 (-a)) = 0 ∧ IntKind.wrap .i64 (IntKind.wrap .i64 (-a) + a) = 0 := by
  rw [i64_wrap, i64_wrap, i64_wrap]; omega

theorem turn_loop (x : lombardref25_Covered) (p q : api_Leg × Int) (neg : Bool) (hp : p.1.Lots = signed x.Lots neg) (hq : q.1.Lots = signed x.Lots (!neg)) (hl : x.Lots.length ≤ 64) : ∀ j i : Nat, x.Lots.length = i + j → loop (lombardlaw25_LegInterest.r0 x p q) (i : Int) = some (.inr ())
  | 0, i, h => loop_end (by unfold lombardlaw25_LegInterest.r0 lombardlaw25_LegInterest.b0; rw [if_neg (by simp; omega)])
  | j + 1, i, h => by
    have w : IntKind.i64.wrap ((i : Int) + 1) = ((i + 1 : Nat) : Int) := next64 i (by omega)
    have n : ∀ b : Bool, nth (signed x.Lots b) (i : Int) = ⟨(nth x.Lots (i : Int)).ISIN, if b = true then IntKind.wrap .i64 (0 - (nth x.Lots (i : Int)).Qty) else (nth x.Lots (i : Int)).Qty⟩ := fun b => by
      show (signed x.Lots b).getD i default = _
      unfold signed
      rw [List.getD_eq_getElem?_getD, List.getElem?_map, List.getElem?_eq_getElem (by omega)]
      show (⟨(x.Lots[i]'_).ISIN, if b = true then IntKind.wrap .i64 (0 - (x.Lots[i]'_).Qty) else (x.Lots[i]'_).Qty⟩ : api_Lot) = _
      have e : nth x.Lots (i : Int) = x.Lots[i]'(by omega) := by
        show x.Lots.getD i default = _
        rw [List.getD_eq_getElem?_getD, List.getElem?_eq_getElem (by omega)]; rfl
      rw [e]
    have gp : (0 : Int) ≤ (i : Int) ∧ (i : Int) < (p.1.Lots.length : Int) := by rw [hp]; unfold signed; simp; omega
    have gq : (0 : Int) ≤ (i : Int) ∧ (i : Int) < (q.1.Lots.length : Int) := by rw [hq]; unfold signed; simp; omega
    have z := neg_zero (nth x.Lots (i : Int)).Qty
    have key : lombardlaw25_LegInterest.r0 x p q (i : Int) = some (.inl ((i + 1 : Nat) : Int)) := by
      unfold lombardlaw25_LegInterest.r0 lombardlaw25_LegInterest.b0
      rw [if_pos (decide_eq_true (by omega)), if_pos gp, if_pos gq, if_pos (fun _ => gp), if_pos (fun _ => gq), hp, hq, n, n, w]
      cases neg
      · simp [z.1]
      · simp [z.2]
    rw [loop_next key]
    exact turn_loop x p q neg hp hq hl j (i + 1) (by omega)

theorem Pure.LegInterest : ∀ (x0 : lombardref25_Covered), (lombardref25_Covered.bd x0) → lombardlaw25_LegInterest.f x0 = some true := by
  intro x hx
  obtain ⟨b1, -⟩ := begin_is x hx
  obtain ⟨e1, -⟩ := end_is x hx
  unfold lombardlaw25_LegInterest.f lombardlaw25_short.f lombardlaw25_of.f
  simp only [Option.bind_some]
  rw [awake_is, b1, e1, (interest_is x.Trade hx.1 x.Trade.End).2]
  simp only [Option.bind_some]
  split
  · rfl
  · split
    · rfl
    · rename_i nz
      have nz' : (beginOf x).2 = 0 ∧ (endOf x).2 = 0 := by simpa using nz
      by_cases z : wrongOf x = 0
      · obtain ⟨t, hl⟩ := wrong_zero z
        have sd := (tchk_zero t).1
        have am := (tchk_zero t).2
        have B : beginOf x = (legOf x x.Trade.Start x.Trade.Amount (x.Trade.Side == 1), 0) := if_pos z
        by_cases e : x.Trade.End = 0
        · have E : endOf x = (noLeg, 33) := by unfold endOf; rw [if_pos z, if_pos e]
          rw [E] at nz'
          exact absurd nz'.2 (by decide)
        · by_cases c : (owedOf x.Trade).2 = 0
          · have E : endOf x = (legOf x x.Trade.End (owedOf x.Trade).1 (x.Trade.Side == 2), 0) := by unfold endOf; rw [if_pos z, if_neg e, if_pos c]
            have b := intOf_in x.Trade x.Trade.End
            have i0 : (intOf x.Trade x.Trade.End).2 = 0 := by
              by_cases k : (intOf x.Trade x.Trade.End).2 = 0
              · exact k
              · unfold owedOf at c
                rw [if_pos k] at c
                exact absurd c k
            have ow : (owedOf x.Trade).1 = x.Trade.Amount + (intOf x.Trade x.Trade.End).1 := by
              unfold owedOf
              rw [if_neg (fun k => k i0), sumOf_pos (by unfold inI64; omega)]
            have s2 : (x.Trade.Side == 2) = !(x.Trade.Side == 1) := by
              rcases sd with k | k <;> rw [k] <;> rfl
            have L := turn_loop x (beginOf x) (endOf x) (x.Trade.Side == 1) (by rw [B]; rfl) (by rw [E, s2]; rfl) hl x.Lots.length 0 (by omega)
            have L' : loop (lombardlaw25_LegInterest.r0 x (beginOf x) (endOf x)) 0 = some (.inr ()) := L
            rw [if_neg (by rw [B, E, leg_len, leg_len]; simp [i0]), L', Option.bind_some]
            simp only
            have c1 : (beginOf x).1.Cash = if (x.Trade.Side == 1) = true then x.Trade.Amount else IntKind.wrap .i64 (0 - x.Trade.Amount) := by rw [B]; rfl
            have c2 : (endOf x).1.Cash = if (x.Trade.Side == 2) = true then (owedOf x.Trade).1 else IntKind.wrap .i64 (0 - (owedOf x.Trade).1) := by rw [E]; rfl
            rw [c1, c2, ow]
            generalize (intOf x.Trade x.Trade.End).1 = I at *
            generalize x.Trade.Amount = A at *
            have e1 : IntKind.wrap .i64 (0 - (A + I)) = 0 - (A + I) := i64_id _ (by omega) (by omega)
            have e2 : IntKind.wrap .i64 (0 - A) = 0 - A := i64_id _ (by omega) (by omega)
            have e3 : IntKind.wrap .i64 (0 - A - I) = 0 - (A + I) := by rw [i64_id _ (by omega) (by omega)]; omega
            have e4 : IntKind.wrap .i64 (I - (0 - A)) = A + I := by rw [i64_id _ (by omega) (by omega)]; omega
            rcases sd with k | k
            · have k1 : (x.Trade.Side == 1) = true := by rw [k]; rfl
              have k2 : (x.Trade.Side == 2) = false := by rw [k]; rfl
              simp only [k1, k2, if_true, Bool.false_eq_true, if_false]
              rw [e1, e2, e3]
              simp only [beq_self_eq_true, Bool.and_self, if_true, Option.bind_some, Bool.true_and]
            · have k1 : (x.Trade.Side == 1) = false := by rw [k]; rfl
              have k2 : (x.Trade.Side == 2) = true := by rw [k]; rfl
              simp only [k1, k2, if_true, Bool.false_eq_true, if_false]
              rw [e2, e4]
              simp only [beq_self_eq_true, Bool.and_self, if_true, Option.bind_some, Bool.true_and]
          · have E : endOf x = (noLeg, (owedOf x.Trade).2) := by unfold endOf; rw [if_pos z, if_neg e, if_neg c]
            rw [E] at nz'
            exact absurd nz'.2 c
      · have B : beginOf x = (noLeg, wrongOf x) := if_neg z
        rw [B] at nz'
        exact absurd nz'.1 z

end Go.Proofs.Ytlgfdldonoaahaa

