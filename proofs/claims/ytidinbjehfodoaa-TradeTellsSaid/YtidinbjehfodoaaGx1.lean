/- Shows what functions of the program come to, each as a plain function: written by a program of the author's for this claim. -/
import Derived.Test.YtidinbjehfodoaaGx0
namespace Go.Proofs.Ytidinbjehfodoaa
open Go Go.Pm
set_option linter.unusedVariables false
set_option linter.unusedSimpArgs false
noncomputable def trade_Fill.f (x0 : api_Fill) : Option (Int) :=
  (trade_Fill_1.f x0.Lender).bind fun t1 =>
  (if (!t1) = false then trade_Fill_1.f x0.Borrower else some default).bind fun t3 =>
  if ((!t1) || (!t3)) = true then
    some 22
  else
    if (x0.Lender == x0.Borrower) = true then
      some 32
    else
      if ((((((decide (x0.Basket < 1)) || (decide (x0.Basket > 64))) || (decide (x0.Amount < 1))) || (decide (x0.Amount > 1125899906842624))) || (decide (x0.Rate < (-1000000)))) || (decide (x0.Rate > 1000000))) = true then
        some 1
      else
        (calendar_Good.f x0.Start).bind fun t14 =>
        (if (!t14) = false ∧ (x0.End != 0) = true then calendar_Good.f x0.End else some default).bind fun t16 =>
        if ((!t14) || ((x0.End != 0) && (((!t16) || (decide (x0.End ≤ x0.Start))) || (decide ((IntKind.wrap .i64 (x0.End - x0.Start)) > 3660))))) = true then
          some 10
        else
          some 0
set_option maxRecDepth 100000 in
set_option maxHeartbeats 4000000 in
theorem trade_Fill.ok {x0 : api_Fill} {r : Int} (h : trade_Fill.f x0 = some r) : Pm.Spec prog 9 [.agg [.imm (.val (.int .i64 x0.Lender)), .imm (.val (.int .i64 x0.Borrower)), .imm (.val (.int .i64 x0.Basket)), .imm (.val (.int .i64 x0.Amount)), .imm (.val (.int .i64 x0.Rate)), .imm (.val (.int .i64 x0.Start)), .imm (.val (.int .i64 x0.End))]] (.imm (.val (.int .i64 r))) [none] := by
 unfold trade_Fill.f at h
 refine Pm.Spec.of_body Try.func9 rfl (by kernel_rfl) (Nat.le_of_ble_eq_true rfl) (Nat.le_of_ble_eq_true rfl) ?_
 refine W.ghost (σ' := (mkSt [(0, some (.agg (api_Fill.av x0)))] [] 1000)) (Gives.entry (.c rfl .n) .n) ?_
 refine W.seq ?_
 refine W.pk ?_
 refine .t rfl rfl (O.box rfl rfl rfl rfl rfl) ?_
 refine .a rfl rfl rfl rfl ?_
 refine .nil ?_
 refine W.seq ?_
 refine W.pk ?_
 refine .a rfl rfl rfl rfl ?_
 refine .nil ?_
 refine W.seq ?_
 refine W.block ?_
 refine W.seq ?_
 obtain ⟨t1, b2, h⟩ := bnd1 h
 obtain ⟨t3, b4, h⟩ := bnd1 h
 refine W.fork (mkSt [(1, some (.ptr 1000 0)), (4, some (.b ((!t1) || (!t3))))] [(1000, some (.box [.i x0.Lender, .i x0.Borrower, .i x0.Basket, .i x0.Amount, .i x0.Rate, .i x0.Start, .i x0.End]))] 1001) ?_ ?_
 ·refine W.cond rfl (fun q6 => ?_) (fun q6 => ?_)
  ·have h := ifT q6 h
   refine W.seq ?_
   refine W.pk ?_
   refine .a rfl rfl rfl rfl ?_
   refine .nil ?_
   refine W.ret ?_
   cases h
   exact leaves (.inr rfl) rfl (.imm _) (cN .nil) rfl rfl
  ·have h := ifF q6 h
   refine W.seq ?_
   refine W.pk ?_
   refine .v rfl rfl (O.fld fld23_0 rfl rfl rfl) ?_
   refine .v rfl rfl (O.ld (y := .i x0.Lender) ty3 rfl rfl rfl) ?_
   refine .v rfl rfl (O.fld fld23_1 rfl rfl rfl) ?_
   refine .v rfl rfl (O.ld (y := .i x0.Borrower) ty3 rfl rfl rfl) ?_
   refine .v rfl rfl (OpL.binI rfl rfl rfl rfl) ?_
   refine .a rfl rfl rfl rfl ?_
   refine .nil ?_
   refine W.cond rfl (fun q7 => ?_) (fun q7 => ?_)
   ·have h := ifT q7 h
    refine W.seq ?_
    refine W.pk ?_
    refine .a rfl rfl rfl rfl ?_
    refine .nil ?_
    refine W.ret ?_
    cases h
    exact leaves (.inr rfl) rfl (.imm _) (cN .nil) rfl rfl
   ·have h := ifF q7 h
    refine W.seq ?_
    refine W.fork (mkSt [(1, some (.ptr 1000 0)), (23, some (.b ((((((decide (x0.Basket < 1)) || (decide (x0.Basket > 64))) || (decide (x0.Amount < 1))) || (decide (x0.Amount > 1125899906842624))) || (decide (x0.Rate < (-1000000)))) || (decide (x0.Rate > 1000000)))))] [(1000, some (.box [.i x0.Lender, .i x0.Borrower, .i x0.Basket, .i x0.Amount, .i x0.Rate, .i x0.Start, .i x0.End]))] 1001) ?_ ?_
    ·refine W.cond rfl (fun q13 => ?_) (fun q13 => ?_)
     ·have h := ifT q13 h
      refine W.seq ?_
      refine W.pk ?_
      refine .a rfl rfl rfl rfl ?_
      refine .nil ?_
      refine W.ret ?_
      cases h
      exact leaves (.inr rfl) rfl (.imm _) (cN .nil) rfl rfl
     ·have h := ifF q13 h
      refine W.seq ?_
      obtain ⟨t14, b15, h⟩ := bnd1 h
      obtain ⟨t16, b17, h⟩ := bnd1 h
      refine W.fork (mkSt [(52, some (.b ((!t14) || ((x0.End != 0) && (((!t16) || (decide (x0.End ≤ x0.Start))) || (decide ((IntKind.wrap .i64 (x0.End - x0.Start)) > 3660)))))))] [] 1001) ?_ ?_
      ·refine W.cond rfl (fun q22 => ?_) (fun q22 => ?_)
       ·have h := ifT q22 h
        refine W.seq ?_
        refine W.pk ?_
        refine .a rfl rfl rfl rfl ?_
        refine .nil ?_
        refine W.ret ?_
        cases h
        exact leaves (.inr rfl) rfl (.imm _) (cN .nil) rfl rfl
       ·have h := ifF q22 h
        refine W.skip ?_
        refine W.seq ?_
        refine W.pk ?_
        refine .a rfl rfl rfl rfl ?_
        refine .nil ?_
        refine W.ret ?_
        cases h
        exact leaves (.inr rfl) rfl (.imm _) (cN .nil) rfl rfl
      ·clear h
       rcases tf t14 with g18 | g18
       ·rcases tf (x0.End != 0) with g19 | g19
        ·rcases tf t16 with g20 | g20
         ·rcases tf (decide (x0.End ≤ x0.Start)) with g21 | g21
          ·refine W.pk ?_
           refine .v rfl rfl (O.fld fld23_5 rfl rfl rfl) ?_
           refine .v rfl rfl (O.ld (y := .i x0.Start) ty3 rfl rfl rfl) ?_
           refine .call (.b t14) [] 0 (calendar_Good.ok b15) rfl rfl rfl ca35 rfl rfl (cC (.imm _) .nil) rfl rfl rfl rfl rfl ?_
           refine .v rfl rfl (OpL.unV rfl rfl rfl) ?_
           refine .m rfl rfl rfl rfl ?_
           refine .v rfl (met rfl rfl rfl (notT g18)) (O.fld fld23_6 rfl rfl rfl) ?_
           refine .v rfl (met rfl rfl rfl (notT g18)) (O.ld (y := .i x0.End) ty3 rfl rfl rfl) ?_
           refine .v rfl (met rfl rfl rfl (notT g18)) (OpL.binI rfl rfl rfl rfl) ?_
           refine .m rfl (met rfl rfl rfl (notT g18)) rfl rfl ?_
           refine .v rfl (met rfl rfl rfl g19) (O.fld fld23_6 rfl rfl rfl) ?_
           refine .v rfl (met rfl rfl rfl g19) (O.ld (y := .i x0.End) ty3 rfl rfl rfl) ?_
           refine .call (.b t16) [] 0 (calendar_Good.ok ((if_pos ⟨(by first | (simp only [g18, g19, g20, g21, Bool.true_or, Bool.or_true, Bool.false_or, Bool.or_false, Bool.true_and, Bool.and_true, Bool.false_and, Bool.and_false, Bool.not_true, Bool.not_false, cond_true, cond_false]; done) | (repeat (first | rw [g18] | rw [g19] | rw [g20] | rw [g21])) <;> simp only [Bool.true_or, Bool.or_true, Bool.false_or, Bool.or_false, Bool.true_and, Bool.and_true, Bool.false_and, Bool.and_false, Bool.not_true, Bool.not_false, cond_true, cond_false]), (by first | (simp only [g18, g19, g20, g21, Bool.true_or, Bool.or_true, Bool.false_or, Bool.or_false, Bool.true_and, Bool.and_true, Bool.false_and, Bool.and_false, Bool.not_true, Bool.not_false, cond_true, cond_false]; done) | (repeat (first | rw [g18] | rw [g19] | rw [g20] | rw [g21])) <;> simp only [Bool.true_or, Bool.or_true, Bool.false_or, Bool.or_false, Bool.true_and, Bool.and_true, Bool.false_and, Bool.and_false, Bool.not_true, Bool.not_false, cond_true, cond_false])⟩).symm.trans b17)) rfl (met rfl rfl rfl g19) rfl ca35 rfl rfl (cC (.imm _) .nil) rfl rfl rfl rfl rfl ?_
           refine .v rfl (met rfl rfl rfl g19) (OpL.unV rfl rfl rfl) ?_
           refine .m rfl (met rfl rfl rfl g19) rfl rfl ?_
           refine .v rfl (met rfl rfl rfl (notT g20)) (O.fld fld23_6 rfl rfl rfl) ?_
           refine .v rfl (met rfl rfl rfl (notT g20)) (O.ld (y := .i x0.End) ty3 rfl rfl rfl) ?_
           refine .v rfl (met rfl rfl rfl (notT g20)) (O.fld fld23_5 rfl rfl rfl) ?_
           refine .v rfl (met rfl rfl rfl (notT g20)) (O.ld (y := .i x0.Start) ty3 rfl rfl rfl) ?_
           refine .v rfl (met rfl rfl rfl (notT g20)) (OpL.binI rfl rfl rfl rfl) ?_
           refine .v rfl (met rfl rfl rfl g19) (O.pickF (notT g20) rfl rfl rfl) ?_
           refine .m rfl (met rfl rfl rfl g19) rfl rfl ?_
           refine .x rfl (unmet rfl rfl rfl g21) ?_
           refine .x rfl (unmet rfl rfl rfl g21) ?_
           refine .x rfl (unmet rfl rfl rfl g21) ?_
           refine .x rfl (unmet rfl rfl rfl g21) ?_
           refine .x rfl (unmet rfl rfl rfl g21) ?_
           refine .x rfl (unmet rfl rfl rfl g21) ?_
           refine .v rfl (met rfl rfl rfl g19) (O.pickT g21 rfl rfl rfl) ?_
           refine .v rfl (met rfl rfl rfl (notT g18)) (O.pickT g19 rfl rfl rfl) ?_
           refine .v rfl rfl (O.pickF (notT g18) rfl rfl rfl) ?_
           refine .a rfl rfl rfl rfl ?_
           refine .nil ?_
           exact toN (Gives.mkR [] (.c rfl (sbb (by first | (simp only [g18, g19, g20, g21, Bool.true_or, Bool.or_true, Bool.false_or, Bool.or_false, Bool.true_and, Bool.and_true, Bool.false_and, Bool.and_false, Bool.not_true, Bool.not_false, cond_true, cond_false]; done) | (repeat (first | rw [g18] | rw [g19] | rw [g20] | rw [g21])) <;> simp only [Bool.true_or, Bool.or_true, Bool.false_or, Bool.or_false, Bool.true_and, Bool.and_true, Bool.false_and, Bool.and_false, Bool.not_true, Bool.not_false, cond_true, cond_false])) rfl .n) .n rfl rfl rfl)
          ·refine W.pk ?_
           refine .v rfl rfl (O.fld fld23_5 rfl rfl rfl) ?_
           refine .v rfl rfl (O.ld (y := .i x0.Start) ty3 rfl rfl rfl) ?_
           refine .call (.b t14) [] 0 (calendar_Good.ok b15) rfl rfl rfl ca35 rfl rfl (cC (.imm _) .nil) rfl rfl rfl rfl rfl ?_
           refine .v rfl rfl (OpL.unV rfl rfl rfl) ?_
           refine .m rfl rfl rfl rfl ?_
           refine .v rfl (met rfl rfl rfl (notT g18)) (O.fld fld23_6 rfl rfl rfl) ?_
           refine .v rfl (met rfl rfl rfl (notT g18)) (O.ld (y := .i x0.End) ty3 rfl rfl rfl) ?_
           refine .v rfl (met rfl rfl rfl (notT g18)) (OpL.binI rfl rfl rfl rfl) ?_
           refine .m rfl (met rfl rfl rfl (notT g18)) rfl rfl ?_
           refine .v rfl (met rfl rfl rfl g19) (O.fld fld23_6 rfl rfl rfl) ?_
           refine .v rfl (met rfl rfl rfl g19) (O.ld (y := .i x0.End) ty3 rfl rfl rfl) ?_
           refine .call (.b t16) [] 0 (calendar_Good.ok ((if_pos ⟨(by first | (simp only [g18, g19, g20, g21, Bool.true_or, Bool.or_true, Bool.false_or, Bool.or_false, Bool.true_and, Bool.and_true, Bool.false_and, Bool.and_false, Bool.not_true, Bool.not_false, cond_true, cond_false]; done) | (repeat (first | rw [g18] | rw [g19] | rw [g20] | rw [g21])) <;> simp only [Bool.true_or, Bool.or_true, Bool.false_or, Bool.or_false, Bool.true_and, Bool.and_true, Bool.false_and, Bool.and_false, Bool.not_true, Bool.not_false, cond_true, cond_false]), (by first | (simp only [g18, g19, g20, g21, Bool.true_or, Bool.or_true, Bool.false_or, Bool.or_false, Bool.true_and, Bool.and_true, Bool.false_and, Bool.and_false, Bool.not_true, Bool.not_false, cond_true, cond_false]; done) | (repeat (first | rw [g18] | rw [g19] | rw [g20] | rw [g21])) <;> simp only [Bool.true_or, Bool.or_true, Bool.false_or, Bool.or_false, Bool.true_and, Bool.and_true, Bool.false_and, Bool.and_false, Bool.not_true, Bool.not_false, cond_true, cond_false])⟩).symm.trans b17)) rfl (met rfl rfl rfl g19) rfl ca35 rfl rfl (cC (.imm _) .nil) rfl rfl rfl rfl rfl ?_
           refine .v rfl (met rfl rfl rfl g19) (OpL.unV rfl rfl rfl) ?_
           refine .m rfl (met rfl rfl rfl g19) rfl rfl ?_
           refine .v rfl (met rfl rfl rfl (notT g20)) (O.fld fld23_6 rfl rfl rfl) ?_
           refine .v rfl (met rfl rfl rfl (notT g20)) (O.ld (y := .i x0.End) ty3 rfl rfl rfl) ?_
           refine .v rfl (met rfl rfl rfl (notT g20)) (O.fld fld23_5 rfl rfl rfl) ?_
           refine .v rfl (met rfl rfl rfl (notT g20)) (O.ld (y := .i x0.Start) ty3 rfl rfl rfl) ?_
           refine .v rfl (met rfl rfl rfl (notT g20)) (OpL.binI rfl rfl rfl rfl) ?_
           refine .v rfl (met rfl rfl rfl g19) (O.pickF (notT g20) rfl rfl rfl) ?_
           refine .m rfl (met rfl rfl rfl g19) rfl rfl ?_
           refine .v rfl (met rfl rfl rfl g21) (O.fld fld23_6 rfl rfl rfl) ?_
           refine .v rfl (met rfl rfl rfl g21) (O.ld (y := .i x0.End) ty3 rfl rfl rfl) ?_
           refine .v rfl (met rfl rfl rfl g21) (O.fld fld23_5 rfl rfl rfl) ?_
           refine .v rfl (met rfl rfl rfl g21) (O.ld (y := .i x0.Start) ty3 rfl rfl rfl) ?_
           refine .v rfl (met rfl rfl rfl g21) (OpL.binI rfl rfl rfl rfl) ?_
           refine .v rfl (met rfl rfl rfl g21) (OpL.binI rfl rfl rfl rfl) ?_
           refine .v rfl (met rfl rfl rfl g19) (O.pickF g21 rfl rfl rfl) ?_
           refine .v rfl (met rfl rfl rfl (notT g18)) (O.pickT g19 rfl rfl rfl) ?_
           refine .v rfl rfl (O.pickF (notT g18) rfl rfl rfl) ?_
           refine .a rfl rfl rfl rfl ?_
           refine .nil ?_
           exact toN (Gives.mkR [] (.c rfl (sbb (by first | (simp only [g18, g19, g20, g21, Bool.true_or, Bool.or_true, Bool.false_or, Bool.or_false, Bool.true_and, Bool.and_true, Bool.false_and, Bool.and_false, Bool.not_true, Bool.not_false, cond_true, cond_false]; done) | (repeat (first | rw [g18] | rw [g19] | rw [g20] | rw [g21])) <;> simp only [Bool.true_or, Bool.or_true, Bool.false_or, Bool.or_false, Bool.true_and, Bool.and_true, Bool.false_and, Bool.and_false, Bool.not_true, Bool.not_false, cond_true, cond_false])) rfl .n) .n rfl rfl rfl)
         ·refine W.pk ?_
          refine .v rfl rfl (O.fld fld23_5 rfl rfl rfl) ?_
          refine .v rfl rfl (O.ld (y := .i x0.Start) ty3 rfl rfl rfl) ?_
          refine .call (.b t14) [] 0 (calendar_Good.ok b15) rfl rfl rfl ca35 rfl rfl (cC (.imm _) .nil) rfl rfl rfl rfl rfl ?_
          refine .v rfl rfl (OpL.unV rfl rfl rfl) ?_
          refine .m rfl rfl rfl rfl ?_
          refine .v rfl (met rfl rfl rfl (notT g18)) (O.fld fld23_6 rfl rfl rfl) ?_
          refine .v rfl (met rfl rfl rfl (notT g18)) (O.ld (y := .i x0.End) ty3 rfl rfl rfl) ?_
          refine .v rfl (met rfl rfl rfl (notT g18)) (OpL.binI rfl rfl rfl rfl) ?_
          refine .m rfl (met rfl rfl rfl (notT g18)) rfl rfl ?_
          refine .v rfl (met rfl rfl rfl g19) (O.fld fld23_6 rfl rfl rfl) ?_
          refine .v rfl (met rfl rfl rfl g19) (O.ld (y := .i x0.End) ty3 rfl rfl rfl) ?_
          refine .call (.b t16) [] 0 (calendar_Good.ok ((if_pos ⟨(by first | (simp only [g18, g19, g20, Bool.true_or, Bool.or_true, Bool.false_or, Bool.or_false, Bool.true_and, Bool.and_true, Bool.false_and, Bool.and_false, Bool.not_true, Bool.not_false, cond_true, cond_false]; done) | (repeat (first | rw [g18] | rw [g19] | rw [g20])) <;> simp only [Bool.true_or, Bool.or_true, Bool.false_or, Bool.or_false, Bool.true_and, Bool.and_true, Bool.false_and, Bool.and_false, Bool.not_true, Bool.not_false, cond_true, cond_false]), (by first | (simp only [g18, g19, g20, Bool.true_or, Bool.or_true, Bool.false_or, Bool.or_false, Bool.true_and, Bool.and_true, Bool.false_and, Bool.and_false, Bool.not_true, Bool.not_false, cond_true, cond_false]; done) | (repeat (first | rw [g18] | rw [g19] | rw [g20])) <;> simp only [Bool.true_or, Bool.or_true, Bool.false_or, Bool.or_false, Bool.true_and, Bool.and_true, Bool.false_and, Bool.and_false, Bool.not_true, Bool.not_false, cond_true, cond_false])⟩).symm.trans b17)) rfl (met rfl rfl rfl g19) rfl ca35 rfl rfl (cC (.imm _) .nil) rfl rfl rfl rfl rfl ?_
          refine .v rfl (met rfl rfl rfl g19) (OpL.unV rfl rfl rfl) ?_
          refine .m rfl (met rfl rfl rfl g19) rfl rfl ?_
          refine .x rfl (unmet rfl rfl rfl (notF g20)) ?_
          refine .x rfl (unmet rfl rfl rfl (notF g20)) ?_
          refine .x rfl (unmet rfl rfl rfl (notF g20)) ?_
          refine .x rfl (unmet rfl rfl rfl (notF g20)) ?_
          refine .x rfl (unmet rfl rfl rfl (notF g20)) ?_
          refine .v rfl (met rfl rfl rfl g19) (O.pickT (notF g20) rfl rfl rfl) ?_
          refine .m rfl (met rfl rfl rfl g19) rfl rfl ?_
          refine .x rfl (unmet rfl rfl rfl rfl) ?_
          refine .x rfl (unmet rfl rfl rfl rfl) ?_
          refine .x rfl (unmet rfl rfl rfl rfl) ?_
          refine .x rfl (unmet rfl rfl rfl rfl) ?_
          refine .x rfl (unmet rfl rfl rfl rfl) ?_
          refine .x rfl (unmet rfl rfl rfl rfl) ?_
          refine .v rfl (met rfl rfl rfl g19) (O.pickT rfl rfl rfl rfl) ?_
          refine .v rfl (met rfl rfl rfl (notT g18)) (O.pickT g19 rfl rfl rfl) ?_
          refine .v rfl rfl (O.pickF (notT g18) rfl rfl rfl) ?_
          refine .a rfl rfl rfl rfl ?_
          refine .nil ?_
          exact toN (Gives.mkR [] (.c rfl (sbb (by first | (simp only [g18, g19, g20, Bool.true_or, Bool.or_true, Bool.false_or, Bool.or_false, Bool.true_and, Bool.and_true, Bool.false_and, Bool.and_false, Bool.not_true, Bool.not_false, cond_true, cond_false]; done) | (repeat (first | rw [g18] | rw [g19] | rw [g20])) <;> simp only [Bool.true_or, Bool.or_true, Bool.false_or, Bool.or_false, Bool.true_and, Bool.and_true, Bool.false_and, Bool.and_false, Bool.not_true, Bool.not_false, cond_true, cond_false])) rfl .n) .n rfl rfl rfl)
        ·refine W.pk ?_
         refine .v rfl rfl (O.fld fld23_5 rfl rfl rfl) ?_
         refine .v rfl rfl (O.ld (y := .i x0.Start) ty3 rfl rfl rfl) ?_
         refine .call (.b t14) [] 0 (calendar_Good.ok b15) rfl rfl rfl ca35 rfl rfl (cC (.imm _) .nil) rfl rfl rfl rfl rfl ?_
         refine .v rfl rfl (OpL.unV rfl rfl rfl) ?_
         refine .m rfl rfl rfl rfl ?_
         refine .v rfl (met rfl rfl rfl (notT g18)) (O.fld fld23_6 rfl rfl rfl) ?_
         refine .v rfl (met rfl rfl rfl (notT g18)) (O.ld (y := .i x0.End) ty3 rfl rfl rfl) ?_
         refine .v rfl (met rfl rfl rfl (notT g18)) (OpL.binI rfl rfl rfl rfl) ?_
         refine .m rfl (met rfl rfl rfl (notT g18)) rfl rfl ?_
         refine .x rfl (unmet rfl rfl rfl g19) ?_
         refine .x rfl (unmet rfl rfl rfl g19) ?_
         refine .x rfl (unmet rfl rfl rfl g19) ?_
         refine .x rfl (unmet rfl rfl rfl g19) ?_
         refine .x rfl (unmet rfl rfl rfl g19) ?_
         refine .x rfl (unmetU rfl rfl rfl) ?_
         refine .x rfl (unmetU rfl rfl rfl) ?_
         refine .x rfl (unmetU rfl rfl rfl) ?_
         refine .x rfl (unmetU rfl rfl rfl) ?_
         refine .x rfl (unmetU rfl rfl rfl) ?_
         refine .x rfl (unmet rfl rfl rfl g19) ?_
         refine .x rfl (unmet rfl rfl rfl g19) ?_
         refine .x rfl (unmetU rfl rfl rfl) ?_
         refine .x rfl (unmetU rfl rfl rfl) ?_
         refine .x rfl (unmetU rfl rfl rfl) ?_
         refine .x rfl (unmetU rfl rfl rfl) ?_
         refine .x rfl (unmetU rfl rfl rfl) ?_
         refine .x rfl (unmetU rfl rfl rfl) ?_
         refine .x rfl (unmet rfl rfl rfl g19) ?_
         refine .v rfl (met rfl rfl rfl (notT g18)) (O.pickF g19 rfl rfl rfl) ?_
         refine .v rfl rfl (O.pickF (notT g18) rfl rfl rfl) ?_
         refine .a rfl rfl rfl rfl ?_
         refine .nil ?_
         exact toN (Gives.mkR [] (.c rfl (sbb (by first | (simp only [g18, g19, Bool.true_or, Bool.or_true, Bool.false_or, Bool.or_false, Bool.true_and, Bool.and_true, Bool.false_and, Bool.and_false, Bool.not_true, Bool.not_false, cond_true, cond_false]; done) | (repeat (first | rw [g18] | rw [g19])) <;> simp only [Bool.true_or, Bool.or_true, Bool.false_or, Bool.or_false, Bool.true_and, Bool.and_true, Bool.false_and, Bool.and_false, Bool.not_true, Bool.not_false, cond_true, cond_false])) rfl .n) .n rfl rfl rfl)
       ·refine W.pk ?_
        refine .v rfl rfl (O.fld fld23_5 rfl rfl rfl) ?_
        refine .v rfl rfl (O.ld (y := .i x0.Start) ty3 rfl rfl rfl) ?_
        refine .call (.b t14) [] 0 (calendar_Good.ok b15) rfl rfl rfl ca35 rfl rfl (cC (.imm _) .nil) rfl rfl rfl rfl rfl ?_
        refine .v rfl rfl (OpL.unV rfl rfl rfl) ?_
        refine .m rfl rfl rfl rfl ?_
        refine .x rfl (unmet rfl rfl rfl (notF g18)) ?_
        refine .x rfl (unmet rfl rfl rfl (notF g18)) ?_
        refine .x rfl (unmet rfl rfl rfl (notF g18)) ?_
        refine .x rfl (unmet rfl rfl rfl (notF g18)) ?_
        refine .x rfl (unmetU rfl rfl rfl) ?_
        refine .x rfl (unmetU rfl rfl rfl) ?_
        refine .x rfl (unmetU rfl rfl rfl) ?_
        refine .x rfl (unmetU rfl rfl rfl) ?_
        refine .x rfl (unmetU rfl rfl rfl) ?_
        refine .x rfl (unmetU rfl rfl rfl) ?_
        refine .x rfl (unmetU rfl rfl rfl) ?_
        refine .x rfl (unmetU rfl rfl rfl) ?_
        refine .x rfl (unmetU rfl rfl rfl) ?_
        refine .x rfl (unmetU rfl rfl rfl) ?_
        refine .x rfl (unmetU rfl rfl rfl) ?_
        refine .x rfl (unmetU rfl rfl rfl) ?_
        refine .x rfl (unmetU rfl rfl rfl) ?_
        refine .x rfl (unmetU rfl rfl rfl) ?_
        refine .x rfl (unmetU rfl rfl rfl) ?_
        refine .x rfl (unmetU rfl rfl rfl) ?_
        refine .x rfl (unmetU rfl rfl rfl) ?_
        refine .x rfl (unmetU rfl rfl rfl) ?_
        refine .x rfl (unmetU rfl rfl rfl) ?_
        refine .x rfl (unmet rfl rfl rfl (notF g18)) ?_
        refine .v rfl rfl (O.pickT (notF g18) rfl rfl rfl) ?_
        refine .a rfl rfl rfl rfl ?_
        refine .nil ?_
        exact toN (Gives.mkR [] (.c rfl (sbb (by simp only [g18, Bool.true_or, Bool.or_true, Bool.false_or, Bool.or_false, Bool.true_and, Bool.and_true, Bool.false_and, Bool.and_false, Bool.not_true, Bool.not_false, cond_true, cond_false])) rfl .n) .n rfl rfl rfl)
    ·clear h
     rcases tf (decide (x0.Basket < 1)) with g8 | g8
     ·refine W.pk ?_
      refine .v rfl rfl (O.fld fld23_2 rfl rfl rfl) ?_
      refine .v rfl rfl (O.ld (y := .i x0.Basket) ty3 rfl rfl rfl) ?_
      refine .v rfl rfl (OpL.binI rfl rfl rfl rfl) ?_
      refine .m rfl rfl rfl rfl ?_
      refine .x rfl (unmet rfl rfl rfl g8) ?_
      refine .x rfl (unmet rfl rfl rfl g8) ?_
      refine .x rfl (unmet rfl rfl rfl g8) ?_
      refine .v rfl rfl (O.pickT g8 rfl rfl rfl) ?_
      refine .m rfl rfl rfl rfl ?_
      refine .x rfl (unmet rfl rfl rfl rfl) ?_
      refine .x rfl (unmet rfl rfl rfl rfl) ?_
      refine .x rfl (unmet rfl rfl rfl rfl) ?_
      refine .v rfl rfl (O.pickT rfl rfl rfl rfl) ?_
      refine .m rfl rfl rfl rfl ?_
      refine .x rfl (unmet rfl rfl rfl rfl) ?_
      refine .x rfl (unmet rfl rfl rfl rfl) ?_
      refine .x rfl (unmet rfl rfl rfl rfl) ?_
      refine .v rfl rfl (O.pickT rfl rfl rfl rfl) ?_
      refine .m rfl rfl rfl rfl ?_
      refine .x rfl (unmet rfl rfl rfl rfl) ?_
      refine .x rfl (unmet rfl rfl rfl rfl) ?_
      refine .x rfl (unmet rfl rfl rfl rfl) ?_
      refine .v rfl rfl (O.pickT rfl rfl rfl rfl) ?_
      refine .m rfl rfl rfl rfl ?_
      refine .x rfl (unmet rfl rfl rfl rfl) ?_
      refine .x rfl (unmet rfl rfl rfl rfl) ?_
      refine .x rfl (unmet rfl rfl rfl rfl) ?_
      refine .v rfl rfl (O.pickT rfl rfl rfl rfl) ?_
      refine .a rfl rfl rfl rfl ?_
      refine .nil ?_
      exact toN (Gives.mkR [] (.r rfl rfl (.c rfl (sbb (by simp only [g8, Bool.true_or, Bool.or_true, Bool.false_or, Bool.or_false, Bool.true_and, Bool.and_true, Bool.false_and, Bool.and_false, Bool.not_true, Bool.not_false, cond_true, cond_false])) rfl .n)) (.r rfl rfl rfl .n) rfl rfl rfl)
     ·rcases tf (decide (x0.Basket > 64)) with g9 | g9
      ·refine W.pk ?_
       refine .v rfl rfl (O.fld fld23_2 rfl rfl rfl) ?_
       refine .v rfl rfl (O.ld (y := .i x0.Basket) ty3 rfl rfl rfl) ?_
       refine .v rfl rfl (OpL.binI rfl rfl rfl rfl) ?_
       refine .m rfl rfl rfl rfl ?_
       refine .v rfl (met rfl rfl rfl g8) (O.fld fld23_2 rfl rfl rfl) ?_
       refine .v rfl (met rfl rfl rfl g8) (O.ld (y := .i x0.Basket) ty3 rfl rfl rfl) ?_
       refine .v rfl (met rfl rfl rfl g8) (OpL.binI rfl rfl rfl rfl) ?_
       refine .v rfl rfl (O.pickF g8 rfl rfl rfl) ?_
       refine .m rfl rfl rfl rfl ?_
       refine .x rfl (unmet rfl rfl rfl g9) ?_
       refine .x rfl (unmet rfl rfl rfl g9) ?_
       refine .x rfl (unmet rfl rfl rfl g9) ?_
       refine .v rfl rfl (O.pickT g9 rfl rfl rfl) ?_
       refine .m rfl rfl rfl rfl ?_
       refine .x rfl (unmet rfl rfl rfl rfl) ?_
       refine .x rfl (unmet rfl rfl rfl rfl) ?_
       refine .x rfl (unmet rfl rfl rfl rfl) ?_
       refine .v rfl rfl (O.pickT rfl rfl rfl rfl) ?_
       refine .m rfl rfl rfl rfl ?_
       refine .x rfl (unmet rfl rfl rfl rfl) ?_
       refine .x rfl (unmet rfl rfl rfl rfl) ?_
       refine .x rfl (unmet rfl rfl rfl rfl) ?_
       refine .v rfl rfl (O.pickT rfl rfl rfl rfl) ?_
       refine .m rfl rfl rfl rfl ?_
       refine .x rfl (unmet rfl rfl rfl rfl) ?_
       refine .x rfl (unmet rfl rfl rfl rfl) ?_
       refine .x rfl (unmet rfl rfl rfl rfl) ?_
       refine .v rfl rfl (O.pickT rfl rfl rfl rfl) ?_
       refine .a rfl rfl rfl rfl ?_
       refine .nil ?_
       exact toN (Gives.mkR [] (.r rfl rfl (.c rfl (sbb (by first | (simp only [g8, g9, Bool.true_or, Bool.or_true, Bool.false_or, Bool.or_false, Bool.true_and, Bool.and_true, Bool.false_and, Bool.and_false, Bool.not_true, Bool.not_false, cond_true, cond_false]; done) | (repeat (first | rw [g8] | rw [g9])) <;> simp only [Bool.true_or, Bool.or_true, Bool.false_or, Bool.or_false, Bool.true_and, Bool.and_true, Bool.false_and, Bool.and_false, Bool.not_true, Bool.not_false, cond_true, cond_false])) rfl .n)) (.r rfl rfl rfl .n) rfl rfl rfl)
      ·rcases tf (decide (x0.Amount < 1)) with g10 | g10
       ·refine W.pk ?_
        refine .v rfl rfl (O.fld fld23_2 rfl rfl rfl) ?_
        refine .v rfl rfl (O.ld (y := .i x0.Basket) ty3 rfl rfl rfl) ?_
        refine .v rfl rfl (OpL.binI rfl rfl rfl rfl) ?_
        refine .m rfl rfl rfl rfl ?_
        refine .v rfl (met rfl rfl rfl g8) (O.fld fld23_2 rfl rfl rfl) ?_
        refine .v rfl (met rfl rfl rfl g8) (O.ld (y := .i x0.Basket) ty3 rfl rfl rfl) ?_
        refine .v rfl (met rfl rfl rfl g8) (OpL.binI rfl rfl rfl rfl) ?_
        refine .v rfl rfl (O.pickF g8 rfl rfl rfl) ?_
        refine .m rfl rfl rfl rfl ?_
        refine .v rfl (met rfl rfl rfl g9) (O.fld fld23_3 rfl rfl rfl) ?_
        refine .v rfl (met rfl rfl rfl g9) (O.ld (y := .i x0.Amount) ty3 rfl rfl rfl) ?_
        refine .v rfl (met rfl rfl rfl g9) (OpL.binI rfl rfl rfl rfl) ?_
        refine .v rfl rfl (O.pickF g9 rfl rfl rfl) ?_
        refine .m rfl rfl rfl rfl ?_
        refine .x rfl (unmet rfl rfl rfl g10) ?_
        refine .x rfl (unmet rfl rfl rfl g10) ?_
        refine .x rfl (unmet rfl rfl rfl g10) ?_
        refine .v rfl rfl (O.pickT g10 rfl rfl rfl) ?_
        refine .m rfl rfl rfl rfl ?_
        refine .x rfl (unmet rfl rfl rfl rfl) ?_
        refine .x rfl (unmet rfl rfl rfl rfl) ?_
        refine .x rfl (unmet rfl rfl rfl rfl) ?_
        refine .v rfl rfl (O.pickT rfl rfl rfl rfl) ?_
        refine .m rfl rfl rfl rfl ?_
        refine .x rfl (unmet rfl rfl rfl rfl) ?_
        refine .x rfl (unmet rfl rfl rfl rfl) ?_
        refine .x rfl (unmet rfl rfl rfl rfl) ?_
        refine .v rfl rfl (O.pickT rfl rfl rfl rfl) ?_
        refine .a rfl rfl rfl rfl ?_
        refine .nil ?_
        exact toN (Gives.mkR [] (.r rfl rfl (.c rfl (sbb (by first | (simp only [g8, g9, g10, Bool.true_or, Bool.or_true, Bool.false_or, Bool.or_false, Bool.true_and, Bool.and_true, Bool.false_and, Bool.and_false, Bool.not_true, Bool.not_false, cond_true, cond_false]; done) | (repeat (first | rw [g8] | rw [g9] | rw [g10])) <;> simp only [Bool.true_or, Bool.or_true, Bool.false_or, Bool.or_false, Bool.true_and, Bool.and_true, Bool.false_and, Bool.and_false, Bool.not_true, Bool.not_false, cond_true, cond_false])) rfl .n)) (.r rfl rfl rfl .n) rfl rfl rfl)
       ·rcases tf (decide (x0.Amount > 1125899906842624)) with g11 | g11
        ·refine W.pk ?_
         refine .v rfl rfl (O.fld fld23_2 rfl rfl rfl) ?_
         refine .v rfl rfl (O.ld (y := .i x0.Basket) ty3 rfl rfl rfl) ?_
         refine .v rfl rfl (OpL.binI rfl rfl rfl rfl) ?_
         refine .m rfl rfl rfl rfl ?_
         refine .v rfl (met rfl rfl rfl g8) (O.fld fld23_2 rfl rfl rfl) ?_
         refine .v rfl (met rfl rfl rfl g8) (O.ld (y := .i x0.Basket) ty3 rfl rfl rfl) ?_
         refine .v rfl (met rfl rfl rfl g8) (OpL.binI rfl rfl rfl rfl) ?_
         refine .v rfl rfl (O.pickF g8 rfl rfl rfl) ?_
         refine .m rfl rfl rfl rfl ?_
         refine .v rfl (met rfl rfl rfl g9) (O.fld fld23_3 rfl rfl rfl) ?_
         refine .v rfl (met rfl rfl rfl g9) (O.ld (y := .i x0.Amount) ty3 rfl rfl rfl) ?_
         refine .v rfl (met rfl rfl rfl g9) (OpL.binI rfl rfl rfl rfl) ?_
         refine .v rfl rfl (O.pickF g9 rfl rfl rfl) ?_
         refine .m rfl rfl rfl rfl ?_
         refine .v rfl (met rfl rfl rfl g10) (O.fld fld23_3 rfl rfl rfl) ?_
         refine .v rfl (met rfl rfl rfl g10) (O.ld (y := .i x0.Amount) ty3 rfl rfl rfl) ?_
         refine .v rfl (met rfl rfl rfl g10) (OpL.binI rfl rfl rfl rfl) ?_
         refine .v rfl rfl (O.pickF g10 rfl rfl rfl) ?_
         refine .m rfl rfl rfl rfl ?_
         refine .x rfl (unmet rfl rfl rfl g11) ?_
         refine .x rfl (unmet rfl rfl rfl g11) ?_
         refine .x rfl (unmet rfl rfl rfl g11) ?_
         refine .v rfl rfl (O.pickT g11 rfl rfl rfl) ?_
         refine .m rfl rfl rfl rfl ?_
         refine .x rfl (unmet rfl rfl rfl rfl) ?_
         refine .x rfl (unmet rfl rfl rfl rfl) ?_
         refine .x rfl (unmet rfl rfl rfl rfl) ?_
         refine .v rfl rfl (O.pickT rfl rfl rfl rfl) ?_
         refine .a rfl rfl rfl rfl ?_
         refine .nil ?_
         exact toN (Gives.mkR [] (.r rfl rfl (.c rfl (sbb (by first | (simp only [g8, g9, g10, g11, Bool.true_or, Bool.or_true, Bool.false_or, Bool.or_false, Bool.true_and, Bool.and_true, Bool.false_and, Bool.and_false, Bool.not_true, Bool.not_false, cond_true, cond_false]; done) | (repeat (first | rw [g8] | rw [g9] | rw [g10] | rw [g11])) <;> simp only [Bool.true_or, Bool.or_true, Bool.false_or, Bool.or_false, Bool.true_and, Bool.and_true, Bool.false_and, Bool.and_false, Bool.not_true, Bool.not_false, cond_true, cond_false])) rfl .n)) (.r rfl rfl rfl .n) rfl rfl rfl)
        ·rcases tf (decide (x0.Rate < (-1000000))) with g12 | g12
         ·refine W.pk ?_
          refine .v rfl rfl (O.fld fld23_2 rfl rfl rfl) ?_
          refine .v rfl rfl (O.ld (y := .i x0.Basket) ty3 rfl rfl rfl) ?_
          refine .v rfl rfl (OpL.binI rfl rfl rfl rfl) ?_
          refine .m rfl rfl rfl rfl ?_
          refine .v rfl (met rfl rfl rfl g8) (O.fld fld23_2 rfl rfl rfl) ?_
          refine .v rfl (met rfl rfl rfl g8) (O.ld (y := .i x0.Basket) ty3 rfl rfl rfl) ?_
          refine .v rfl (met rfl rfl rfl g8) (OpL.binI rfl rfl rfl rfl) ?_
          refine .v rfl rfl (O.pickF g8 rfl rfl rfl) ?_
          refine .m rfl rfl rfl rfl ?_
          refine .v rfl (met rfl rfl rfl g9) (O.fld fld23_3 rfl rfl rfl) ?_
          refine .v rfl (met rfl rfl rfl g9) (O.ld (y := .i x0.Amount) ty3 rfl rfl rfl) ?_
          refine .v rfl (met rfl rfl rfl g9) (OpL.binI rfl rfl rfl rfl) ?_
          refine .v rfl rfl (O.pickF g9 rfl rfl rfl) ?_
          refine .m rfl rfl rfl rfl ?_
          refine .v rfl (met rfl rfl rfl g10) (O.fld fld23_3 rfl rfl rfl) ?_
          refine .v rfl (met rfl rfl rfl g10) (O.ld (y := .i x0.Amount) ty3 rfl rfl rfl) ?_
          refine .v rfl (met rfl rfl rfl g10) (OpL.binI rfl rfl rfl rfl) ?_
          refine .v rfl rfl (O.pickF g10 rfl rfl rfl) ?_
          refine .m rfl rfl rfl rfl ?_
          refine .v rfl (met rfl rfl rfl g11) (O.fld fld23_4 rfl rfl rfl) ?_
          refine .v rfl (met rfl rfl rfl g11) (O.ld (y := .i x0.Rate) ty3 rfl rfl rfl) ?_
          refine .v rfl (met rfl rfl rfl g11) (OpL.binI rfl rfl rfl rfl) ?_
          refine .v rfl rfl (O.pickF g11 rfl rfl rfl) ?_
          refine .m rfl rfl rfl rfl ?_
          refine .x rfl (unmet rfl rfl rfl g12) ?_
          refine .x rfl (unmet rfl rfl rfl g12) ?_
          refine .x rfl (unmet rfl rfl rfl g12) ?_
          refine .v rfl rfl (O.pickT g12 rfl rfl rfl) ?_
          refine .a rfl rfl rfl rfl ?_
          refine .nil ?_
          exact toN (Gives.mkR [] (.r rfl rfl (.c rfl (sbb (by first | (simp only [g8, g9, g10, g11, g12, Bool.true_or, Bool.or_true, Bool.false_or, Bool.or_false, Bool.true_and, Bool.and_true, Bool.false_and, Bool.and_false, Bool.not_true, Bool.not_false, cond_true, cond_false]; done) | (repeat (first | rw [g8] | rw [g9] | rw [g10] | rw [g11] | rw [g12])) <;> simp only [Bool.true_or, Bool.or_true, Bool.false_or, Bool.or_false, Bool.true_and, Bool.and_true, Bool.false_and, Bool.and_false, Bool.not_true, Bool.not_false, cond_true, cond_false])) rfl .n)) (.r rfl rfl rfl .n) rfl rfl rfl)
         ·refine W.pk ?_
          refine .v rfl rfl (O.fld fld23_2 rfl rfl rfl) ?_
          refine .v rfl rfl (O.ld (y := .i x0.Basket) ty3 rfl rfl rfl) ?_
          refine .v rfl rfl (OpL.binI rfl rfl rfl rfl) ?_
          refine .m rfl rfl rfl rfl ?_
          refine .v rfl (met rfl rfl rfl g8) (O.fld fld23_2 rfl rfl rfl) ?_
          refine .v rfl (met rfl rfl rfl g8) (O.ld (y := .i x0.Basket) ty3 rfl rfl rfl) ?_
          refine .v rfl (met rfl rfl rfl g8) (OpL.binI rfl rfl rfl rfl) ?_
          refine .v rfl rfl (O.pickF g8 rfl rfl rfl) ?_
          refine .m rfl rfl rfl rfl ?_
          refine .v rfl (met rfl rfl rfl g9) (O.fld fld23_3 rfl rfl rfl) ?_
          refine .v rfl (met rfl rfl rfl g9) (O.ld (y := .i x0.Amount) ty3 rfl rfl rfl) ?_
          refine .v rfl (met rfl rfl rfl g9) (OpL.binI rfl rfl rfl rfl) ?_
          refine .v rfl rfl (O.pickF g9 rfl rfl rfl) ?_
          refine .m rfl rfl rfl rfl ?_
          refine .v rfl (met rfl rfl rfl g10) (O.fld fld23_3 rfl rfl rfl) ?_
          refine .v rfl (met rfl rfl rfl g10) (O.ld (y := .i x0.Amount) ty3 rfl rfl rfl) ?_
          refine .v rfl (met rfl rfl rfl g10) (OpL.binI rfl rfl rfl rfl) ?_
          refine .v rfl rfl (O.pickF g10 rfl rfl rfl) ?_
          refine .m rfl rfl rfl rfl ?_
          refine .v rfl (met rfl rfl rfl g11) (O.fld fld23_4 rfl rfl rfl) ?_
          refine .v rfl (met rfl rfl rfl g11) (O.ld (y := .i x0.Rate) ty3 rfl rfl rfl) ?_
          refine .v rfl (met rfl rfl rfl g11) (OpL.binI rfl rfl rfl rfl) ?_
          refine .v rfl rfl (O.pickF g11 rfl rfl rfl) ?_
          refine .m rfl rfl rfl rfl ?_
          refine .v rfl (met rfl rfl rfl g12) (O.fld fld23_4 rfl rfl rfl) ?_
          refine .v rfl (met rfl rfl rfl g12) (O.ld (y := .i x0.Rate) ty3 rfl rfl rfl) ?_
          refine .v rfl (met rfl rfl rfl g12) (OpL.binI rfl rfl rfl rfl) ?_
          refine .v rfl rfl (O.pickF g12 rfl rfl rfl) ?_
          refine .a rfl rfl rfl rfl ?_
          refine .nil ?_
          exact toN (Gives.mkR [] (.r rfl rfl (.c rfl (sbb (by first | (simp only [g8, g9, g10, g11, g12, Bool.true_or, Bool.or_true, Bool.false_or, Bool.or_false, Bool.true_and, Bool.and_true, Bool.false_and, Bool.and_false, Bool.not_true, Bool.not_false, cond_true, cond_false]; done) | (repeat (first | rw [g8] | rw [g9] | rw [g10] | rw [g11] | rw [g12])) <;> simp only [Bool.true_or, Bool.or_true, Bool.false_or, Bool.or_false, Bool.true_and, Bool.and_true, Bool.false_and, Bool.and_false, Bool.not_true, Bool.not_false, cond_true, cond_false])) rfl .n)) (.r rfl rfl rfl .n) rfl rfl rfl)
 ·clear h
  rcases tf t1 with g5 | g5
  ·refine W.pk ?_
   refine .m rfl rfl rfl rfl ?_
   refine .v rfl rfl (O.fld fld23_0 rfl rfl rfl) ?_
   refine .v rfl rfl (O.ld (y := .i x0.Lender) ty3 rfl rfl rfl) ?_
   refine .call (.b t1) [] 0 (trade_Fill_1.ok b2) rfl rfl rfl ca34 rfl rfl (cC (.imm _) .nil) rfl rfl rfl rfl rfl ?_
   refine .v rfl rfl (OpL.unV rfl rfl rfl) ?_
   refine .m rfl rfl rfl rfl ?_
   refine .m rfl (met rfl rfl rfl (notT g5)) rfl rfl ?_
   refine .v rfl (met rfl rfl rfl (notT g5)) (O.fld fld23_1 rfl rfl rfl) ?_
   refine .v rfl (met rfl rfl rfl (notT g5)) (O.ld (y := .i x0.Borrower) ty3 rfl rfl rfl) ?_
   refine .call (.b t3) [] 0 (trade_Fill_1.ok ((if_pos (by simp only [g5, Bool.true_or, Bool.or_true, Bool.false_or, Bool.or_false, Bool.true_and, Bool.and_true, Bool.false_and, Bool.and_false, Bool.not_true, Bool.not_false, cond_true, cond_false])).symm.trans b4)) rfl (met rfl rfl rfl (notT g5)) rfl ca34 rfl rfl (cC (.imm _) .nil) rfl rfl rfl rfl rfl ?_
   refine .v rfl (met rfl rfl rfl (notT g5)) (OpL.unV rfl rfl rfl) ?_
   refine .v rfl rfl (O.pickF (notT g5) rfl rfl rfl) ?_
   refine .a rfl rfl rfl rfl ?_
   refine .nil ?_
   exact toN (Gives.mkR [] (.r rfl rfl (.c rfl (sbb (by simp only [g5, Bool.true_or, Bool.or_true, Bool.false_or, Bool.or_false, Bool.true_and, Bool.and_true, Bool.false_and, Bool.and_false, Bool.not_true, Bool.not_false, cond_true, cond_false])) rfl .n)) (.r rfl rfl rfl .n) rfl rfl rfl)
  ·refine W.pk ?_
   refine .m rfl rfl rfl rfl ?_
   refine .v rfl rfl (O.fld fld23_0 rfl rfl rfl) ?_
   refine .v rfl rfl (O.ld (y := .i x0.Lender) ty3 rfl rfl rfl) ?_
   refine .call (.b t1) [] 0 (trade_Fill_1.ok b2) rfl rfl rfl ca34 rfl rfl (cC (.imm _) .nil) rfl rfl rfl rfl rfl ?_
   refine .v rfl rfl (OpL.unV rfl rfl rfl) ?_
   refine .m rfl rfl rfl rfl ?_
   refine .x rfl (unmet rfl rfl rfl (notF g5)) ?_
   refine .x rfl (unmet rfl rfl rfl (notF g5)) ?_
   refine .x rfl (unmet rfl rfl rfl (notF g5)) ?_
   refine .x rfl (unmet rfl rfl rfl (notF g5)) ?_
   refine .x rfl (unmet rfl rfl rfl (notF g5)) ?_
   refine .v rfl rfl (O.pickT (notF g5) rfl rfl rfl) ?_
   refine .a rfl rfl rfl rfl ?_
   refine .nil ?_
   exact toN (Gives.mkR [] (.r rfl rfl (.c rfl (sbb (by simp only [g5, Bool.true_or, Bool.or_true, Bool.false_or, Bool.or_false, Bool.true_and, Bool.and_true, Bool.false_and, Bool.and_false, Bool.not_true, Bool.not_false, cond_true, cond_false])) rfl .n)) (.r rfl rfl rfl .n) rfl rfl rfl)

noncomputable def trade_Book_Novate_1.f (x0 : Int) (x1 : Int) (x2 : Int) (x3 : Int) (x4 : api_Fill) : Option (api_Trade) :=
  some (⟨x0, x1, x2, x3, x4.Basket, x4.Amount, x4.Start, x4.End, [(⟨x4.Start, x4.Rate⟩ : api_Reset)], 1, false⟩ : api_Trade)
set_option maxRecDepth 100000 in
set_option maxHeartbeats 4000000 in
theorem trade_Book_Novate_1.ok {x0 : Int} {x1 : Int} {x2 : Int} {x3 : Int} {x4 : api_Fill} {r : api_Trade} (h : trade_Book_Novate_1.f x0 x1 x2 x3 x4 = some r) : Pm.Spec prog 47 [.imm (.val (.int .i64 x0)), .imm (.val (.int .i64 x1)), .imm (.val (.int .i64 x2)), .imm (.val (.int .i64 x3)), .xbox [.imm (.val (.int .i64 x4.Lender)), .imm (.val (.int .i64 x4.Borrower)), .imm (.val (.int .i64 x4.Basket)), .imm (.val (.int .i64 x4.Amount)), .imm (.val (.int .i64 x4.Rate)), .imm (.val (.int .i64 x4.Start)), .imm (.val (.int .i64 x4.End))]] (.agg [.imm (.val (.int .i64 r.ID)), .imm (.val (.int .i64 r.Twin)), .imm (.val (.int .i64 r.Member)), .imm (.val (.int .i64 r.Side)), .imm (.val (.int .i64 r.Basket)), .imm (.val (.int .i64 r.Amount)), .imm (.val (.int .i64 r.Start)), .imm (.val (.int .i64 r.End)), .imm (.row 2 (List.map api_Reset.enc r.Resets)), .imm (.val (.int .i64 r.Stage)), .imm (.val (.bool r.Short))]) [none, none, none, none, some (.xbox [.imm (.val (.int .i64 x4.Lender)), .imm (.val (.int .i64 x4.Borrower)), .imm (.val (.int .i64 x4.Basket)), .imm (.val (.int .i64 x4.Amount)), .imm (.val (.int .i64 x4.Rate)), .imm (.val (.int .i64 x4.Start)), .imm (.val (.int .i64 x4.End))])] := by
 unfold trade_Book_Novate_1.f at h
 refine Pm.Spec.of_body Try.func47 rfl (by kernel_rfl) (Nat.le_of_ble_eq_true rfl) (Nat.le_of_ble_eq_true rfl) ?_
 refine W.ghost (σ' := (mkSt [(0, some (.i x0)), (1, some (.i x1)), (2, some (.i x2)), (3, some (.i x3)), (4, some (.ptr 0 0))] [(0, some (.box [.i x4.Lender, .i x4.Borrower, .i x4.Basket, .i x4.Amount, .i x4.Rate, .i x4.Start, .i x4.End]))] 1000)) (Gives.entry (.c rfl (.c rfl (.c rfl (.c rfl (.c rfl .n))))) (.c rfl .n)) ?_
 refine W.seq ?_
 refine W.pk ?_
 refine .t rfl rfl (O.alloc z26 rfl) ?_
 refine .nil ?_
 refine W.seq ?_
 refine W.pk ?_
 refine .m rfl rfl rfl rfl ?_
 refine .m rfl rfl rfl rfl ?_
 refine .m rfl rfl rfl rfl ?_
 refine .m rfl rfl rfl rfl ?_
 refine .v rfl rfl (O.fld fld23_2 rfl rfl rfl) ?_
 refine .v rfl rfl (O.ld (y := .i x4.Basket) ty3 rfl rfl rfl) ?_
 refine .v rfl rfl (O.fld fld23_3 rfl rfl rfl) ?_
 refine .v rfl rfl (O.ld (y := .i x4.Amount) ty3 rfl rfl rfl) ?_
 refine .v rfl rfl (O.fld fld23_5 rfl rfl rfl) ?_
 refine .v rfl rfl (O.ld (y := .i x4.Start) ty3 rfl rfl rfl) ?_
 refine .v rfl rfl (O.fld fld23_6 rfl rfl rfl) ?_
 refine .v rfl rfl (O.ld (y := .i x4.End) ty3 rfl rfl rfl) ?_
 refine .v rfl rfl (O.fld fld23_5 rfl rfl rfl) ?_
 refine .v rfl rfl (O.ld (y := .i x4.Start) ty3 rfl rfl rfl) ?_
 refine .v rfl rfl (O.fld fld23_4 rfl rfl rfl) ?_
 refine .v rfl rfl (O.ld (y := .i x4.Rate) ty3 rfl rfl rfl) ?_
 refine .v rfl rfl (O.build (out := [.i x4.Start, .i x4.Rate]) bl60 rfl rfl rfl rfl (by kernel_rfl)) ?_
 refine .t rfl rfl (O.lit (enc := api_Reset.enc) (l := [(⟨x4.Start, x4.Rate⟩ : api_Reset)]) sl24 rfl rfl rfl rfl rfl rfl rfl rfl rfl) ?_
 refine .v rfl rfl (O.build (out := [.i x0, .i x1, .i x2, .i x3, .i x4.Basket, .i x4.Amount, .i x4.Start, .i x4.End, .own 1001, .i 1, .b false]) bl26 rfl rfl rfl rfl (by kernel_rfl)) ?_
 refine .s rfl rfl (O.st ty26 rfl rfl rfl rfl rfl rfl rfl rfl rfl rfl (all' := [.i x0, .i x1, .i x2, .i x3, .i x4.Basket, .i x4.Amount, .i x4.Start, .i x4.End, .own 1001, .i 1, .b false]) rfl) ?_
 refine .nil ?_
 refine W.ret ?_
 cases h
 exact leaves (.inr rfl) rfl (.agg _ _ _ _ (cC (.imm _) (cC (.imm _) (cC (.imm _) (cC (.imm _) (cC (.imm _) (cC (.imm _) (cC (.imm _) (cC (.imm _) (cC (.lend _ _ _ _ _ rfl) (cC (.imm _) (cC (.imm _) .nil)))))))))))) (cN (cN (cN (cN (cS (.ptr _ _ _ _ _ rfl (cC (.imm _) (cC (.imm _) (cC (.imm _) (cC (.imm _) (cC (.imm _) (cC (.imm _) (cC (.imm _) .nil)))))))) .nil))))) rfl rfl

noncomputable def trade_Book_Novate.f (x0 : trade_Book) (x1 : api_Fill) : Option (Int × Int × Int × trade_Book) :=
  if (!x0.made) = true then
    some (0, 0, 3, x0)
  else
    (trade_Fill.f x1).bind fun t2 =>
    if (t2 != 0) = true then
      some (0, 0, t2, x0)
    else
      if ((decide ((List.length x0.l : Int) > 62)) || (decide (x0.next > 1125899906842622))) = true then
        some (0, 0, 18, x0)
      else
        (trade_Book_Novate_1.f (IntKind.wrap .i64 (x0.next + 1)) (IntKind.wrap .i64 (x0.next + 2)) x1.Lender 1 x1).bind fun t7 =>
        (trade_Book_Novate_1.f (IntKind.wrap .i64 (x0.next + 2)) (IntKind.wrap .i64 (x0.next + 1)) x1.Borrower 2 x1).bind fun t9 =>
        if (List.length x0.l + List.length [t7, t9]) * 104 ≤ 140737488355328 then
        some ((IntKind.wrap .i64 (x0.next + 1)), (IntKind.wrap .i64 (x0.next + 2)), 0, (⟨(x0.l ++ [t7, t9]), (IntKind.wrap .i64 (x0.next + 2)), x0.made⟩ : trade_Book))
        else none
set_option maxRecDepth 100000 in
set_option maxHeartbeats 4000000 in
theorem trade_Book_Novate.ok {x0 : trade_Book} {x1 : api_Fill} {r : Int × Int × Int × trade_Book} (h : trade_Book_Novate.f x0 x1 = some r) : Pm.Spec prog 31 [.xbox [.xown 26 11 (List.map api_Trade.enc x0.l), .imm (.val (.int .i64 x0.next)), .imm (.val (.bool x0.made))], .agg [.imm (.val (.int .i64 x1.Lender)), .imm (.val (.int .i64 x1.Borrower)), .imm (.val (.int .i64 x1.Basket)), .imm (.val (.int .i64 x1.Amount)), .imm (.val (.int .i64 x1.Rate)), .imm (.val (.int .i64 x1.Start)), .imm (.val (.int .i64 x1.End))]] (.tup [.imm (.val (.int .i64 r.1)), .imm (.val (.int .i64 r.2.1)), .imm (.val (.int .i64 r.2.2.1))]) [some (.xbox [.xown 26 11 (List.map api_Trade.enc r.2.2.2.l), .imm (.val (.int .i64 r.2.2.2.next)), .imm (.val (.bool r.2.2.2.made))]), none] := by
 unfold trade_Book_Novate.f at h
 refine Pm.Spec.of_body Try.func31 rfl (by kernel_rfl) (Nat.le_of_ble_eq_true rfl) (Nat.le_of_ble_eq_true rfl) ?_
 refine W.ghost (σ' := (mkSt [(0, some (.ptr 0 0)), (1, some (.agg (api_Fill.av x1)))] [(0, some (.box [.own 1, .i x0.next, .b x0.made])), (1, some (.rows 26 11 (List.map api_Trade.enc x0.l) false))] 1000)) (Gives.entry (.c rfl (.c rfl .n)) (.c rfl (.c rfl .n))) ?_
 refine W.ghost (σ' := (mkSt [(0, some (.ptr 0 0)), (1, some (.agg (api_Fill.av x1)))] [(0, some (.box [.own 1000, .i x0.next, .b x0.made])), (1000, some (.rows 26 11 (List.map api_Trade.enc x0.l) false))] 1001)) (Gives.mkR [(1000, 1)] (.r rfl rfl (.r rfl rfl .n)) (.r rfl rfl rfl (.r rfl rfl rfl .n)) rfl rfl rfl) ?_
 refine W.seq ?_
 refine W.pk ?_
 refine .t rfl rfl (O.box rfl rfl rfl rfl rfl) ?_
 refine .a rfl rfl rfl rfl ?_
 refine .a rfl rfl rfl rfl ?_
 refine .a rfl rfl rfl rfl ?_
 refine .nil ?_
 refine W.seq ?_
 refine W.seq ?_
 refine W.pk ?_
 refine .m rfl rfl rfl rfl ?_
 refine .v rfl rfl (OpL.eqP rfl u36 rfl rfl rfl) ?_
 refine .m rfl rfl rfl rfl ?_
 refine .m rfl (met rfl rfl rfl rfl) rfl rfl ?_
 refine .v rfl (met rfl rfl rfl rfl) (OpL.nilP rfl rfl rfl) ?_
 refine .v rfl (met rfl rfl rfl rfl) (O.fld fld62_2 rfl rfl rfl) ?_
 refine .v rfl (met rfl rfl rfl rfl) (O.ld (y := .b x0.made) ty4 rfl rfl rfl) ?_
 refine .v rfl (met rfl rfl rfl rfl) (OpL.unV rfl rfl rfl) ?_
 refine .v rfl rfl (O.pickF rfl rfl rfl rfl) ?_
 refine .nil ?_
 refine W.cond rfl (fun q1 => ?_) (fun q1 => ?_)
 ·have h := ifT q1 h
  refine W.seq ?_
  refine W.pk ?_
  refine .a rfl rfl rfl rfl ?_
  refine .a rfl rfl rfl rfl ?_
  refine .a rfl rfl rfl rfl ?_
  refine .nil ?_
  refine W.ret ?_
  cases h
  exact leaves (.inr rfl) rfl (.tup _ _ _ _ (cC (.imm _) (cC (.imm _) (cC (.imm _) .nil)))) (cS (.ptr _ _ _ _ _ rfl (cC (.own _ _ _ _ rfl) (cC (.imm _) (cC (.imm _) .nil)))) (cN .nil)) rfl rfl
 ·have h := ifF q1 h
  refine W.skip ?_
  refine W.seq ?_
  refine W.seq ?_
  obtain ⟨t2, b3, h⟩ := bnd1 h
  refine W.pk ?_
  refine .v rfl rfl (O.ldN ty23 rfl rfl rfl) ?_
  refine .call (.i t2) [] 0 (trade_Fill.ok b3) rfl rfl rfl ca9 rfl rfl (cC (.agg _ _ _ _ (cC (.imm _) (cC (.imm _) (cC (.imm _) (cC (.imm _) (cC (.imm _) (cC (.imm _) (cC (.imm _) .nil)))))))) .nil) rfl rfl rfl rfl rfl ?_
  refine .a rfl rfl rfl rfl ?_
  refine .nil ?_
  refine W.seq ?_
  refine W.pk ?_
  refine .m rfl rfl rfl rfl ?_
  refine .v rfl rfl (OpL.binI rfl rfl rfl rfl) ?_
  refine .nil ?_
  refine W.cond rfl (fun q4 => ?_) (fun q4 => ?_)
  ·have h := ifT q4 h
   refine W.seq ?_
   refine W.pk ?_
   refine .m rfl rfl rfl rfl ?_
   refine .a rfl rfl rfl rfl ?_
   refine .a rfl rfl rfl rfl ?_
   refine .a rfl rfl rfl rfl ?_
   refine .nil ?_
   refine W.ret ?_
   cases h
   exact leaves (.inr rfl) rfl (.tup _ _ _ _ (cC (.imm _) (cC (.imm _) (cC (.imm _) .nil)))) (cS (.ptr _ _ _ _ _ rfl (cC (.own _ _ _ _ rfl) (cC (.imm _) (cC (.imm _) .nil)))) (cN .nil)) rfl rfl
  ·have h := ifF q4 h
   refine W.skip ?_
   refine W.seq ?_
   refine W.seq ?_
   refine W.fork (mkSt [(0, some (.ptr 0 0)), (3, some (.ptr 1001 0)), (37, some (.b ((decide ((List.length x0.l : Int) > 62)) || (decide (x0.next > 1125899906842622)))))] [(0, some (.box [.own 1000, .i x0.next, .b x0.made])), (1000, some (.rows 26 11 (List.map api_Trade.enc x0.l) false)), (1001, some (.box [.i x1.Lender, .i x1.Borrower, .i x1.Basket, .i x1.Amount, .i x1.Rate, .i x1.Start, .i x1.End]))] 1002) ?_ ?_
   ·refine W.cond rfl (fun q6 => ?_) (fun q6 => ?_)
    ·have h := ifT q6 h
     refine W.seq ?_
     refine W.pk ?_
     refine .a rfl rfl rfl rfl ?_
     refine .a rfl rfl rfl rfl ?_
     refine .a rfl rfl rfl rfl ?_
     refine .nil ?_
     refine W.ret ?_
     cases h
     exact leaves (.inr rfl) rfl (.tup _ _ _ _ (cC (.imm _) (cC (.imm _) (cC (.imm _) .nil)))) (cS (.ptr _ _ _ _ _ rfl (cC (.own _ _ _ _ rfl) (cC (.imm _) (cC (.imm _) .nil)))) (cN .nil)) rfl rfl
    ·have h := ifF q6 h
     refine W.skip ?_
     refine W.seq ?_
     refine W.pk ?_
     refine .v rfl rfl (OpL.mkfn rfl rfl) ?_
     refine .a rfl rfl rfl rfl ?_
     refine .nil ?_
     refine W.seq ?_
     refine W.dk (unm 12 [0, 1, 3, 7, 15, 0, 32, 96, 224, 480, 31, 2047]) rfl (by kernel_rfl) ?_
     refine .m rfl rfl rfl rfl ?_
     refine .v rfl rfl (OpL.nilP rfl rfl rfl) ?_
     refine .v rfl rfl (O.fld fld62_1 rfl rfl rfl) ?_
     refine .v rfl rfl (O.ld (y := .i x0.next) ty3 rfl rfl rfl) ?_
     refine .v rfl rfl (OpL.binI rfl rfl rfl rfl) ?_
     refine .m rfl rfl rfl rfl ?_
     refine .v rfl rfl (OpL.nilP rfl rfl rfl) ?_
     refine .v rfl rfl (O.fld fld62_1 rfl rfl rfl) ?_
     refine .v rfl rfl (O.ld (y := .i x0.next) ty3 rfl rfl rfl) ?_
     refine .v rfl rfl (OpL.binI rfl rfl rfl rfl) ?_
     refine .a rfl rfl rfl rfl ?_
     refine .a rfl rfl rfl rfl ?_
     refine .nil ?_
     refine ⟨by kernel_rfl, by kernel_rfl, ?_⟩
     refine W.seq ?_
     refine W.pk ?_
     refine .m rfl rfl rfl rfl ?_
     refine .m rfl rfl rfl rfl ?_
     refine .v rfl rfl (OpL.nilP rfl rfl rfl) ?_
     refine .v rfl rfl (O.fld fld62_1 rfl rfl rfl) ?_
     refine .s rfl rfl (O.st ty3 rfl rfl rfl rfl rfl rfl rfl rfl rfl rfl (all' := [.own 1000, .i (IntKind.wrap .i64 (x0.next + 2)), .b x0.made]) rfl) ?_
     refine .nil ?_
     refine W.seq ?_
     obtain ⟨t7, b8, h⟩ := bnd1 h
     obtain ⟨t9, b10, h⟩ := bnd1 h
     obtain ⟨c11, h⟩ := chk h
     refine W.dk (unm 22 [0, 0, 2, 6, 14, 0, 0, 0, 0, 256, 992, 0, 0, 0, 0, 16384, 65504, 131040, 262142, 524287, 1048575, 2097151]) rfl (by kernel_rfl) ?_
     refine .m rfl rfl rfl rfl ?_
     refine .m rfl rfl rfl rfl ?_
     refine .v rfl rfl (OpL.nilP rfl rfl rfl) ?_
     refine .v rfl rfl (O.fld fld62_0 rfl rfl rfl) ?_
     refine .v rfl rfl (O.ld (y := .own 1000) ty35 rfl rfl rfl) ?_
     refine .m rfl rfl rfl rfl ?_
     refine .m rfl rfl rfl rfl ?_
     refine .m rfl rfl rfl rfl ?_
     refine .v rfl rfl (O.fld fld23_0 rfl rfl rfl) ?_
     refine .v rfl rfl (O.ld (y := .i x1.Lender) ty3 rfl rfl rfl) ?_
     refine .callD (.agg (api_Trade.av t7)) [(1001, some (.box [.i x1.Lender, .i x1.Borrower, .i x1.Basket, .i x1.Amount, .i x1.Rate, .i x1.Start, .i x1.End])), (1001, none)] [1001] [] 0 (trade_Book_Novate_1.ok b8) rfl rfl rfl ca47 rfl rfl (cC (.imm _) (cC (.imm _) (cC (.imm _) (cC (.imm _) (cC (.ptr _ _ _ _ _ rfl (cC (.imm _) (cC (.imm _) (cC (.imm _) (cC (.imm _) (cC (.imm _) (cC (.imm _) (cC (.imm _) .nil)))))))) .nil))))) rfl rfl rfl rfl rfl (.c rfl rfl .n) rfl ?_
     refine .m rfl rfl rfl rfl ?_
     refine .m rfl rfl rfl rfl ?_
     refine .m rfl rfl rfl rfl ?_
     refine .v rfl rfl (O.fld fld23_1 rfl rfl rfl) ?_
     refine .v rfl rfl (O.ld (y := .i x1.Borrower) ty3 rfl rfl rfl) ?_
     refine .callD (.agg (api_Trade.av t9)) [(1001, some (.box [.i x1.Lender, .i x1.Borrower, .i x1.Basket, .i x1.Amount, .i x1.Rate, .i x1.Start, .i x1.End])), (1001, none)] [1001] [] 0 (trade_Book_Novate_1.ok b10) rfl rfl rfl ca47 rfl rfl (cC (.imm _) (cC (.imm _) (cC (.imm _) (cC (.imm _) (cC (.ptr _ _ _ _ _ rfl (cC (.imm _) (cC (.imm _) (cC (.imm _) (cC (.imm _) (cC (.imm _) (cC (.imm _) (cC (.imm _) .nil)))))))) .nil))))) rfl rfl rfl rfl rfl (.c rfl rfl .n) rfl ?_
     refine .t rfl rfl (O.lit (enc := api_Trade.enc) (l := [t7, t9]) sl35 rfl rfl rfl rfl rfl rfl rfl rfl rfl) ?_
     refine .t rfl rfl (O.appO sl35 api_Trade.ok c11 rfl rfl rfl rfl rfl) ?_
     refine .v rfl rfl (OpL.nilP rfl rfl rfl) ?_
     refine .v rfl rfl (O.fld fld62_0 rfl rfl rfl) ?_
     refine .s rfl rfl (O.st ty35 rfl rfl rfl rfl rfl rfl rfl rfl rfl rfl (all' := [.own 1003, .i (IntKind.wrap .i64 (x0.next + 2)), .b x0.made]) rfl) ?_
     refine .nil ?_
     refine ⟨by kernel_rfl, by kernel_rfl, ?_⟩
     refine W.seq ?_
     refine W.pk ?_
     refine .m rfl rfl rfl rfl ?_
     refine .m rfl rfl rfl rfl ?_
     refine .a rfl rfl rfl rfl ?_
     refine .a rfl rfl rfl rfl ?_
     refine .a rfl rfl rfl rfl ?_
     refine .nil ?_
     refine W.ret ?_
     cases h
     exact leaves (.inr rfl) rfl (.tup _ _ _ _ (cC (.imm _) (cC (.imm _) (cC (.imm _) .nil)))) (cS (.ptr _ _ _ _ _ rfl (cC (.own _ _ _ _ rfl) (cC (.imm _) (cC (.imm _) .nil)))) (cN .nil)) rfl rfl
   ·clear h
    rcases tf (decide ((List.length x0.l : Int) > 62)) with g5 | g5
    ·refine W.pk ?_
     refine .m rfl rfl rfl rfl ?_
     refine .v rfl rfl (OpL.nilP rfl rfl rfl) ?_
     refine .v rfl rfl (O.fld fld62_0 rfl rfl rfl) ?_
     refine .v rfl rfl (O.ld (y := .own 1000) ty35 rfl rfl rfl) ?_
     refine .v rfl rfl (O.lenO sl35 rfl rfl rfl) ?_
     refine .v rfl rfl (OpL.binI rfl rfl rfl rfl) ?_
     refine .m rfl rfl rfl rfl ?_
     refine .x rfl (unmet rfl rfl rfl g5) ?_
     refine .x rfl (unmet rfl rfl rfl g5) ?_
     refine .x rfl (unmet rfl rfl rfl g5) ?_
     refine .x rfl (unmet rfl rfl rfl g5) ?_
     refine .x rfl (unmet rfl rfl rfl g5) ?_
     refine .v rfl rfl (O.pickT g5 rfl rfl rfl) ?_
     refine .nil ?_
     exact toN (Gives.mkR [] (.r rfl rfl (.r rfl rfl (.c rfl (sbb (by simp only [g5, Bool.true_or, Bool.or_true, Bool.false_or, Bool.or_false, Bool.true_and, Bool.and_true, Bool.false_and, Bool.and_false, Bool.not_true, Bool.not_false, cond_true, cond_false])) rfl .n))) (.r rfl rfl rfl (.r rfl rfl rfl (.r rfl rfl rfl .n))) rfl rfl rfl)
    ·refine W.pk ?_
     refine .m rfl rfl rfl rfl ?_
     refine .v rfl rfl (OpL.nilP rfl rfl rfl) ?_
     refine .v rfl rfl (O.fld fld62_0 rfl rfl rfl) ?_
     refine .v rfl rfl (O.ld (y := .own 1000) ty35 rfl rfl rfl) ?_
     refine .v rfl rfl (O.lenO sl35 rfl rfl rfl) ?_
     refine .v rfl rfl (OpL.binI rfl rfl rfl rfl) ?_
     refine .m rfl rfl rfl rfl ?_
     refine .m rfl (met rfl rfl rfl g5) rfl rfl ?_
     refine .v rfl (met rfl rfl rfl g5) (OpL.nilP rfl rfl rfl) ?_
     refine .v rfl (met rfl rfl rfl g5) (O.fld fld62_1 rfl rfl rfl) ?_
     refine .v rfl (met rfl rfl rfl g5) (O.ld (y := .i x0.next) ty3 rfl rfl rfl) ?_
     refine .v rfl (met rfl rfl rfl g5) (OpL.binI rfl rfl rfl rfl) ?_
     refine .v rfl rfl (O.pickF g5 rfl rfl rfl) ?_
     refine .nil ?_
     exact toN (Gives.mkR [] (.r rfl rfl (.r rfl rfl (.c rfl (sbb (by simp only [g5, Bool.true_or, Bool.or_true, Bool.false_or, Bool.or_false, Bool.true_and, Bool.and_true, Bool.false_and, Bool.and_false, Bool.not_true, Bool.not_false, cond_true, cond_false])) rfl .n))) (.r rfl rfl rfl (.r rfl rfl rfl (.r rfl rfl rfl .n))) rfl rfl rfl)

noncomputable def lombardref03_rated.f (x0 : Int) : Option (Bool) :=
  some ((decide (x0 ≥ (-1000000))) && (decide (x0 ≤ 1000000)))
set_option maxRecDepth 100000 in
set_option maxHeartbeats 4000000 in
theorem lombardref03_rated.ok {x0 : Int} {r : Bool} (h : lombardref03_rated.f x0 = some r) : Pm.Spec prog 51 [.imm (.val (.int .i64 x0))] (.imm (.val (.bool r))) [none] := by
 unfold lombardref03_rated.f at h
 refine Pm.Spec.of_body Try.func51 rfl (by kernel_rfl) (Nat.le_of_ble_eq_true rfl) (Nat.le_of_ble_eq_true rfl) ?_
 refine W.ghost (σ' := (mkSt [(0, some (.i x0))] [] 1000)) (Gives.entry (.c rfl .n) .n) ?_
 refine W.seq ?_
 refine W.pk ?_
 refine .a rfl rfl rfl rfl ?_
 refine .nil ?_
 refine W.seq ?_
 refine W.fork (mkSt [(2, some (.b ((decide (x0 ≥ (-1000000))) && (decide (x0 ≤ 1000000)))))] [] 1000) ?_ ?_
 ·refine W.ret ?_
  cases h
  exact leaves (.inr rfl) rfl (.imm _) (cN .nil) rfl rfl
 ·clear h
  rcases tf (decide (x0 ≥ (-1000000))) with g1 | g1
  ·refine W.pk ?_
   refine .m rfl rfl rfl rfl ?_
   refine .v rfl rfl (OpL.binI rfl rfl rfl rfl) ?_
   refine .m rfl rfl rfl rfl ?_
   refine .m rfl (met rfl rfl rfl g1) rfl rfl ?_
   refine .v rfl (met rfl rfl rfl g1) (OpL.binI rfl rfl rfl rfl) ?_
   refine .v rfl rfl (O.pickT g1 rfl rfl rfl) ?_
   refine .a rfl rfl rfl rfl ?_
   refine .nil ?_
   exact toN (Gives.mkR [] (.c rfl (sbb (by simp only [g1, Bool.true_or, Bool.or_true, Bool.false_or, Bool.or_false, Bool.true_and, Bool.and_true, Bool.false_and, Bool.and_false, Bool.not_true, Bool.not_false, cond_true, cond_false])) rfl .n) .n rfl rfl rfl)
  ·refine W.pk ?_
   refine .m rfl rfl rfl rfl ?_
   refine .v rfl rfl (OpL.binI rfl rfl rfl rfl) ?_
   refine .m rfl rfl rfl rfl ?_
   refine .x rfl (unmet rfl rfl rfl g1) ?_
   refine .x rfl (unmet rfl rfl rfl g1) ?_
   refine .v rfl rfl (O.pickF g1 rfl rfl rfl) ?_
   refine .a rfl rfl rfl rfl ?_
   refine .nil ?_
   exact toN (Gives.mkR [] (.c rfl (sbb (by simp only [g1, Bool.true_or, Bool.or_true, Bool.false_or, Bool.or_false, Bool.true_and, Bool.and_true, Bool.false_and, Bool.and_false, Bool.not_true, Bool.not_false, cond_true, cond_false])) rfl .n) .n rfl rfl rfl)
end Go.Proofs.Ytidinbjehfodoaa
