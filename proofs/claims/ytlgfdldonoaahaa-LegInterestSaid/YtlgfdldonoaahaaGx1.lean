/- Shows what functions of the program come to, each as a plain function: written by a program of the author's for this claim. -/
import Derived.Test.YtlgfdldonoaahaaGx0
namespace Go.Proofs.Ytlgfdldonoaahaa
open Go Go.Pm
set_option linter.unusedVariables false
set_option linter.unusedSimpArgs false
noncomputable def trade_Fill.f (x0 : api_Fill) : Option (Int) :=
  (trade_Fill_1.f x0.Lender).bind fun t1 =>
  (if (!t1) = false then trade_Fill_1.f x0.Borrower else some default).bind fun t3 =>
  if ((!t1) || (!t3)) = true then
    some 22
  else
    if (x0.Lender == x0.Borrower) = true then
      some 32
    else
      if ((((((decide (x0.Basket < 1)) || (decide (x0.Basket > 64))) || (decide (x0.Amount < 1))) || (decide (x0.Amount > 1125899906842624))) || (decide (x0.Rate < (-1000000)))) || (decide (x0.Rate > 1000000))) = true then
        some 1
      else
        (calendar_Good.f x0.Start).bind fun t14 =>
        (if (!t14) = false ∧ (x0.End != 0) = true then calendar_Good.f x0.End else some default).bind fun t16 =>
        if ((!t14) || ((x0.End != 0) && (((!t16) || (decide (x0.End ≤ x0.Start))) || (decide ((IntKind.wrap .i64 (x0.End - x0.Start)) > 3660))))) = true then
          some 10
        else
          some 0
set_option maxRecDepth 100000 in
set_option maxHeartbeats 4000000 in
theorem trade_Fill.ok {x0 : api_Fill} {r : Int} (h : trade_Fill.f x0 = some r) : Pm.Spec prog 63 [.agg [.imm (.val (.int .i64 x0.Lender)), .imm (.val (.int .i64 x0.Borrower)), .imm (.val (.int .i64 x0.Basket)), .imm (.val (.int .i64 x0.Amount)), .imm (.val (.int .i64 x0.Rate)), .imm (.val (.int .i64 x0.Start)), .imm (.val (.int .i64 x0.End))]] (.imm (.val (.int .i64 r))) [none] := by
  unfold trade_Fill.f at h
  refine Pm.Spec.of_body Try.func63 rfl (by kernel_rfl) (Nat.le_of_ble_eq_true rfl) (Nat.le_of_ble_eq_true rfl) ?_
  refine W.ghost (σ' := (mkSt [(0, some (.agg [.imm (.val (.int .i64 x0.Lender)), .imm (.val (.int .i64 x0.Borrower)), .imm (.val (.int .i64 x0.Basket)), .imm (.val (.int .i64 x0.Amount)), .imm (.val (.int .i64 x0.Rate)), .imm (.val (.int .i64 x0.Start)), .imm (.val (.int .i64 x0.End))]))] [] 1000)) (Gives.entry (.c rfl .n) .n) ?_
  refine W.seq ?_
  refine W.pk ?_
  refine .t rfl rfl (O.box rfl rfl rfl rfl rfl) ?_
  refine .v rfl rfl (OpL.move (.inr rfl) rfl) ?_
  refine .nil ?_
  refine W.seq ?_
  refine W.pk ?_
  refine .v rfl rfl (OpL.move (.inr rfl) rfl) ?_
  refine .nil ?_
  refine W.seq ?_
  refine W.block ?_
  refine W.seq ?_
  obtain ⟨t1, b2, h⟩ := bnd1 h
  obtain ⟨t3, b4, h⟩ := bnd1 h
  refine W.fork (mkSt [(1, some (.ptr 1000 0)), (4, some (.imm (.val (.bool ((!t1) || (!t3))))))] [(1000, some (.box [.imm (.val (.int .i64 x0.Lender)), .imm (.val (.int .i64 x0.Borrower)), .imm (.val (.int .i64 x0.Basket)), .imm (.val (.int .i64 x0.Amount)), .imm (.val (.int .i64 x0.Rate)), .imm (.val (.int .i64 x0.Start)), .imm (.val (.int .i64 x0.End))]))] 1001) ?_ ?_
  · refine W.cond rfl (fun q6 => ?_) (fun q6 => ?_)
    · have h := ifT q6 h
      refine W.seq ?_
      refine W.pk ?_
      refine .v rfl rfl (OpL.move (.inr rfl) rfl) ?_
      refine .nil ?_
      refine W.ret ?_
      cases h
      exact leaves (.inr rfl) rfl (.imm _) (cN .nil) rfl rfl
    · have h := ifF q6 h
      refine W.seq ?_
      refine W.pk ?_
      refine .v rfl rfl (O.fld fld89_0 rfl rfl rfl) ?_
      refine .v rfl rfl (O.ld ty3 rfl rfl rfl) ?_
      refine .v rfl rfl (O.fld fld89_1 rfl rfl rfl) ?_
      refine .v rfl rfl (O.ld ty3 rfl rfl rfl) ?_
      refine .v rfl rfl (OpL.binI rfl rfl rfl rfl) ?_
      refine .v rfl rfl (OpL.move (.inr rfl) rfl) ?_
      refine .nil ?_
      refine W.cond rfl (fun q7 => ?_) (fun q7 => ?_)
      · have h := ifT q7 h
        refine W.seq ?_
        refine W.pk ?_
        refine .v rfl rfl (OpL.move (.inr rfl) rfl) ?_
        refine .nil ?_
        refine W.ret ?_
        cases h
        exact leaves (.inr rfl) rfl (.imm _) (cN .nil) rfl rfl
      · have h := ifF q7 h
        refine W.seq ?_
        refine W.fork (mkSt [(1, some (.ptr 1000 0)), (23, some (.imm (.val (.bool ((((((decide (x0.Basket < 1)) || (decide (x0.Basket > 64))) || (decide (x0.Amount < 1))) || (decide (x0.Amount > 1125899906842624))) || (decide (x0.Rate < (-1000000)))) || (decide (x0.Rate > 1000000)))))))] [(1000, some (.box [.imm (.val (.int .i64 x0.Lender)), .imm (.val (.int .i64 x0.Borrower)), .imm (.val (.int .i64 x0.Basket)), .imm (.val (.int .i64 x0.Amount)), .imm (.val (.int .i64 x0.Rate)), .imm (.val (.int .i64 x0.Start)), .imm (.val (.int .i64 x0.End))]))] 1001) ?_ ?_
        · refine W.cond rfl (fun q13 => ?_) (fun q13 => ?_)
          · have h := ifT q13 h
            refine W.seq ?_
            refine W.pk ?_
            refine .v rfl rfl (OpL.move (.inr rfl) rfl) ?_
            refine .nil ?_
            refine W.ret ?_
            cases h
            exact leaves (.inr rfl) rfl (.imm _) (cN .nil) rfl rfl
          · have h := ifF q13 h
            refine W.seq ?_
            obtain ⟨t14, b15, h⟩ := bnd1 h
            obtain ⟨t16, b17, h⟩ := bnd1 h
            refine W.fork (mkSt [(52, some (.imm (.val (.bool ((!t14) || ((x0.End != 0) && (((!t16) || (decide (x0.End ≤ x0.Start))) || (decide ((IntKind.wrap .i64 (x0.End - x0.Start)) > 3660)))))))))] [] 1001) ?_ ?_
            · refine W.cond rfl (fun q22 => ?_) (fun q22 => ?_)
              · have h := ifT q22 h
                refine W.seq ?_
                refine W.pk ?_
                refine .v rfl rfl (OpL.move (.inr rfl) rfl) ?_
                refine .nil ?_
                refine W.ret ?_
                cases h
                exact leaves (.inr rfl) rfl (.imm _) (cN .nil) rfl rfl
              · have h := ifF q22 h
                refine W.skip ?_
                refine W.seq ?_
                refine W.pk ?_
                refine .v rfl rfl (OpL.move (.inr rfl) rfl) ?_
                refine .nil ?_
                refine W.ret ?_
                cases h
                exact leaves (.inr rfl) rfl (.imm _) (cN .nil) rfl rfl
            · clear h
              rcases tf t14 with g18 | g18
              · rcases tf (x0.End != 0) with g19 | g19
                · rcases tf t16 with g20 | g20
                  · rcases tf (decide (x0.End ≤ x0.Start)) with g21 | g21
                    · refine W.pk ?_
                      refine .v rfl rfl (O.fld fld89_5 rfl rfl rfl) ?_
                      refine .v rfl rfl (O.ld ty3 rfl rfl rfl) ?_
                      refine .call (.imm (.val (.bool t14))) [] 0 (calendar_Good.ok b15) rfl rfl rfl ca44 rfl rfl (cC (.imm _) .nil) rfl rfl rfl rfl rfl ?_
                      refine .v rfl rfl (OpL.unV rfl rfl rfl) ?_
                      refine .v rfl rfl (OpL.move (.inl rfl) rfl) ?_
                      refine .v rfl (met rfl rfl rfl (notT g18)) (O.fld fld89_6 rfl rfl rfl) ?_
                      refine .v rfl (met rfl rfl rfl (notT g18)) (O.ld ty3 rfl rfl rfl) ?_
                      refine .v rfl (met rfl rfl rfl (notT g18)) (OpL.binI rfl rfl rfl rfl) ?_
                      refine .v rfl (met rfl rfl rfl (notT g18)) (OpL.move (.inl rfl) rfl) ?_
                      refine .v rfl (met rfl rfl rfl g19) (O.fld fld89_6 rfl rfl rfl) ?_
                      refine .v rfl (met rfl rfl rfl g19) (O.ld ty3 rfl rfl rfl) ?_
                      refine .call (.imm (.val (.bool t16))) [] 0 (calendar_Good.ok ((if_pos ⟨(by simp only [g18, g19, g20, g21, Bool.true_or, Bool.or_true, Bool.false_or, Bool.or_false, Bool.true_and, Bool.and_true, Bool.false_and, Bool.and_false, Bool.not_true, Bool.not_false, cond_true, cond_false]), (by simp only [g18, g19, g20, g21, Bool.true_or, Bool.or_true, Bool.false_or, Bool.or_false, Bool.true_and, Bool.and_true, Bool.false_and, Bool.and_false, Bool.not_true, Bool.not_false, cond_true, cond_false])⟩).symm.trans b17)) rfl (met rfl rfl rfl g19) rfl ca44 rfl rfl (cC (.imm _) .nil) rfl rfl rfl rfl rfl ?_
                      refine .v rfl (met rfl rfl rfl g19) (OpL.unV rfl rfl rfl) ?_
                      refine .v rfl (met rfl rfl rfl g19) (OpL.move (.inl rfl) rfl) ?_
                      refine .v rfl (met rfl rfl rfl (notT g20)) (O.fld fld89_6 rfl rfl rfl) ?_
                      refine .v rfl (met rfl rfl rfl (notT g20)) (O.ld ty3 rfl rfl rfl) ?_
                      refine .v rfl (met rfl rfl rfl (notT g20)) (O.fld fld89_5 rfl rfl rfl) ?_
                      refine .v rfl (met rfl rfl rfl (notT g20)) (O.ld ty3 rfl rfl rfl) ?_
                      refine .v rfl (met rfl rfl rfl (notT g20)) (OpL.binI rfl rfl rfl rfl) ?_
                      refine .v rfl (met rfl rfl rfl g19) (O.pickF (notT g20) rfl rfl rfl) ?_
                      refine .v rfl (met rfl rfl rfl g19) (OpL.move (.inl rfl) rfl) ?_
                      refine .x rfl (unmet rfl rfl rfl g21) ?_
                      refine .x rfl (unmet rfl rfl rfl g21) ?_
                      refine .x rfl (unmet rfl rfl rfl g21) ?_
                      refine .x rfl (unmet rfl rfl rfl g21) ?_
                      refine .x rfl (unmet rfl rfl rfl g21) ?_
                      refine .x rfl (unmet rfl rfl rfl g21) ?_
                      refine .v rfl (met rfl rfl rfl g19) (O.pickT g21 rfl rfl rfl) ?_
                      refine .v rfl (met rfl rfl rfl (notT g18)) (O.pickT g19 rfl rfl rfl) ?_
                      refine .v rfl rfl (O.pickF (notT g18) rfl rfl rfl) ?_
                      refine .v rfl rfl (OpL.move (.inr rfl) rfl) ?_
                      refine .nil ?_
                      exact toN (Gives.mkR [] (.c rfl (sbb (by simp only [g18, g19, g20, g21, Bool.true_or, Bool.or_true, Bool.false_or, Bool.or_false, Bool.true_and, Bool.and_true, Bool.false_and, Bool.and_false, Bool.not_true, Bool.not_false, cond_true, cond_false])) rfl .n) .n rfl rfl rfl)
                    · refine W.pk ?_
                      refine .v rfl rfl (O.fld fld89_5 rfl rfl rfl) ?_
                      refine .v rfl rfl (O.ld ty3 rfl rfl rfl) ?_
                      refine .call (.imm (.val (.bool t14))) [] 0 (calendar_Good.ok b15) rfl rfl rfl ca44 rfl rfl (cC (.imm _) .nil) rfl rfl rfl rfl rfl ?_
                      refine .v rfl rfl (OpL.unV rfl rfl rfl) ?_
                      refine .v rfl rfl (OpL.move (.inl rfl) rfl) ?_
                      refine .v rfl (met rfl rfl rfl (notT g18)) (O.fld fld89_6 rfl rfl rfl) ?_
                      refine .v rfl (met rfl rfl rfl (notT g18)) (O.ld ty3 rfl rfl rfl) ?_
                      refine .v rfl (met rfl rfl rfl (notT g18)) (OpL.binI rfl rfl rfl rfl) ?_
                      refine .v rfl (met rfl rfl rfl (notT g18)) (OpL.move (.inl rfl) rfl) ?_
                      refine .v rfl (met rfl rfl rfl g19) (O.fld fld89_6 rfl rfl rfl) ?_
                      refine .v rfl (met rfl rfl rfl g19) (O.ld ty3 rfl rfl rfl) ?_
                      refine .call (.imm (.val (.bool t16))) [] 0 (calendar_Good.ok ((if_pos ⟨(by simp only [g18, g19, g20, g21, Bool.true_or, Bool.or_true, Bool.false_or, Bool.or_false, Bool.true_and, Bool.and_true, Bool.false_and, Bool.and_false, Bool.not_true, Bool.not_false, cond_true, cond_false]), (by simp only [g18, g19, g20, g21, Bool.true_or, Bool.or_true, Bool.false_or, Bool.or_false, Bool.true_and, Bool.and_true, Bool.false_and, Bool.and_false, Bool.not_true, Bool.not_false, cond_true, cond_false])⟩).symm.trans b17)) rfl (met rfl rfl rfl g19) rfl ca44 rfl rfl (cC (.imm _) .nil) rfl rfl rfl rfl rfl ?_
                      refine .v rfl (met rfl rfl rfl g19) (OpL.unV rfl rfl rfl) ?_
                      refine .v rfl (met rfl rfl rfl g19) (OpL.move (.inl rfl) rfl) ?_
                      refine .v rfl (met rfl rfl rfl (notT g20)) (O.fld fld89_6 rfl rfl rfl) ?_
                      refine .v rfl (met rfl rfl rfl (notT g20)) (O.ld ty3 rfl rfl rfl) ?_
                      refine .v rfl (met rfl rfl rfl (notT g20)) (O.fld fld89_5 rfl rfl rfl) ?_
                      refine .v rfl (met rfl rfl rfl (notT g20)) (O.ld ty3 rfl rfl rfl) ?_
                      refine .v rfl (met rfl rfl rfl (notT g20)) (OpL.binI rfl rfl rfl rfl) ?_
                      refine .v rfl (met rfl rfl rfl g19) (O.pickF (notT g20) rfl rfl rfl) ?_
                      refine .v rfl (met rfl rfl rfl g19) (OpL.move (.inl rfl) rfl) ?_
                      refine .v rfl (met rfl rfl rfl g21) (O.fld fld89_6 rfl rfl rfl) ?_
                      refine .v rfl (met rfl rfl rfl g21) (O.ld ty3 rfl rfl rfl) ?_
                      refine .v rfl (met rfl rfl rfl g21) (O.fld fld89_5 rfl rfl rfl) ?_
                      refine .v rfl (met rfl rfl rfl g21) (O.ld ty3 rfl rfl rfl) ?_
                      refine .v rfl (met rfl rfl rfl g21) (OpL.binI rfl rfl rfl rfl) ?_
                      refine .v rfl (met rfl rfl rfl g21) (OpL.binI rfl rfl rfl rfl) ?_
                      refine .v rfl (met rfl rfl rfl g19) (O.pickF g21 rfl rfl rfl) ?_
                      refine .v rfl (met rfl rfl rfl (notT g18)) (O.pickT g19 rfl rfl rfl) ?_
                      refine .v rfl rfl (O.pickF (notT g18) rfl rfl rfl) ?_
                      refine .v rfl rfl (OpL.move (.inr rfl) rfl) ?_
                      refine .nil ?_
                      exact toN (Gives.mkR [] (.c rfl (sbb (by simp only [g18, g19, g20, g21, Bool.true_or, Bool.or_true, Bool.false_or, Bool.or_false, Bool.true_and, Bool.and_true, Bool.false_and, Bool.and_false, Bool.not_true, Bool.not_false, cond_true, cond_false])) rfl .n) .n rfl rfl rfl)
                  · refine W.pk ?_
                    refine .v rfl rfl (O.fld fld89_5 rfl rfl rfl) ?_
                    refine .v rfl rfl (O.ld ty3 rfl rfl rfl) ?_
                    refine .call (.imm (.val (.bool t14))) [] 0 (calendar_Good.ok b15) rfl rfl rfl ca44 rfl rfl (cC (.imm _) .nil) rfl rfl rfl rfl rfl ?_
                    refine .v rfl rfl (OpL.unV rfl rfl rfl) ?_
                    refine .v rfl rfl (OpL.move (.inl rfl) rfl) ?_
                    refine .v rfl (met rfl rfl rfl (notT g18)) (O.fld fld89_6 rfl rfl rfl) ?_
                    refine .v rfl (met rfl rfl rfl (notT g18)) (O.ld ty3 rfl rfl rfl) ?_
                    refine .v rfl (met rfl rfl rfl (notT g18)) (OpL.binI rfl rfl rfl rfl) ?_
                    refine .v rfl (met rfl rfl rfl (notT g18)) (OpL.move (.inl rfl) rfl) ?_
                    refine .v rfl (met rfl rfl rfl g19) (O.fld fld89_6 rfl rfl rfl) ?_
                    refine .v rfl (met rfl rfl rfl g19) (O.ld ty3 rfl rfl rfl) ?_
                    refine .call (.imm (.val (.bool t16))) [] 0 (calendar_Good.ok ((if_pos ⟨(by simp only [g18, g19, g20, Bool.true_or, Bool.or_true, Bool.false_or, Bool.or_false, Bool.true_and, Bool.and_true, Bool.false_and, Bool.and_false, Bool.not_true, Bool.not_false, cond_true, cond_false]), (by simp only [g18, g19, g20, Bool.true_or, Bool.or_true, Bool.false_or, Bool.or_false, Bool.true_and, Bool.and_true, Bool.false_and, Bool.and_false, Bool.not_true, Bool.not_false, cond_true, cond_false])⟩).symm.trans b17)) rfl (met rfl rfl rfl g19) rfl ca44 rfl rfl (cC (.imm _) .nil) rfl rfl rfl rfl rfl ?_
                    refine .v rfl (met rfl rfl rfl g19) (OpL.unV rfl rfl rfl) ?_
                    refine .v rfl (met rfl rfl rfl g19) (OpL.move (.inl rfl) rfl) ?_
                    refine .x rfl (unmet rfl rfl rfl (notF g20)) ?_
                    refine .x rfl (unmet rfl rfl rfl (notF g20)) ?_
                    refine .x rfl (unmet rfl rfl rfl (notF g20)) ?_
                    refine .x rfl (unmet rfl rfl rfl (notF g20)) ?_
                    refine .x rfl (unmet rfl rfl rfl (notF g20)) ?_
                    refine .v rfl (met rfl rfl rfl g19) (O.pickT (notF g20) rfl rfl rfl) ?_
                    refine .v rfl (met rfl rfl rfl g19) (OpL.move (.inl rfl) rfl) ?_
                    refine .x rfl (unmet rfl rfl rfl rfl) ?_
                    refine .x rfl (unmet rfl rfl rfl rfl) ?_
                    refine .x rfl (unmet rfl rfl rfl rfl) ?_
                    refine .x rfl (unmet rfl rfl rfl rfl) ?_
                    refine .x rfl (unmet rfl rfl rfl rfl) ?_
                    refine .x rfl (unmet rfl rfl rfl rfl) ?_
                    refine .v rfl (met rfl rfl rfl g19) (O.pickT rfl rfl rfl rfl) ?_
                    refine .v rfl (met rfl rfl rfl (notT g18)) (O.pickT g19 rfl rfl rfl) ?_
                    refine .v rfl rfl (O.pickF (notT g18) rfl rfl rfl) ?_
                    refine .v rfl rfl (OpL.move (.inr rfl) rfl) ?_
                    refine .nil ?_
                    exact toN (Gives.mkR [] (.c rfl (sbb (by simp only [g18, g19, g20, Bool.true_or, Bool.or_true, Bool.false_or, Bool.or_false, Bool.true_and, Bool.and_true, Bool.false_and, Bool.and_false, Bool.not_true, Bool.not_false, cond_true, cond_false])) rfl .n) .n rfl rfl rfl)
                · refine W.pk ?_
                  refine .v rfl rfl (O.fld fld89_5 rfl rfl rfl) ?_
                  refine .v rfl rfl (O.ld ty3 rfl rfl rfl) ?_
                  refine .call (.imm (.val (.bool t14))) [] 0 (calendar_Good.ok b15) rfl rfl rfl ca44 rfl rfl (cC (.imm _) .nil) rfl rfl rfl rfl rfl ?_
                  refine .v rfl rfl (OpL.unV rfl rfl rfl) ?_
                  refine .v rfl rfl (OpL.move (.inl rfl) rfl) ?_
                  refine .v rfl (met rfl rfl rfl (notT g18)) (O.fld fld89_6 rfl rfl rfl) ?_
                  refine .v rfl (met rfl rfl rfl (notT g18)) (O.ld ty3 rfl rfl rfl) ?_
                  refine .v rfl (met rfl rfl rfl (notT g18)) (OpL.binI rfl rfl rfl rfl) ?_
                  refine .v rfl (met rfl rfl rfl (notT g18)) (OpL.move (.inl rfl) rfl) ?_
                  refine .x rfl (unmet rfl rfl rfl g19) ?_
                  refine .x rfl (unmet rfl rfl rfl g19) ?_
                  refine .x rfl (unmet rfl rfl rfl g19) ?_
                  refine .x rfl (unmet rfl rfl rfl g19) ?_
                  refine .x rfl (unmet rfl rfl rfl g19) ?_
                  refine .x rfl (unmetU rfl rfl rfl) ?_
                  refine .x rfl (unmetU rfl rfl rfl) ?_
                  refine .x rfl (unmetU rfl rfl rfl) ?_
                  refine .x rfl (unmetU rfl rfl rfl) ?_
                  refine .x rfl (unmetU rfl rfl rfl) ?_
                  refine .x rfl (unmet rfl rfl rfl g19) ?_
                  refine .x rfl (unmet rfl rfl rfl g19) ?_
                  refine .x rfl (unmetU rfl rfl rfl) ?_
                  refine .x rfl (unmetU rfl rfl rfl) ?_
                  refine .x rfl (unmetU rfl rfl rfl) ?_
                  refine .x rfl (unmetU rfl rfl rfl) ?_
                  refine .x rfl (unmetU rfl rfl rfl) ?_
                  refine .x rfl (unmetU rfl rfl rfl) ?_
                  refine .x rfl (unmet rfl rfl rfl g19) ?_
                  refine .v rfl (met rfl rfl rfl (notT g18)) (O.pickF g19 rfl rfl rfl) ?_
                  refine .v rfl rfl (O.pickF (notT g18) rfl rfl rfl) ?_
                  refine .v rfl rfl (OpL.move (.inr rfl) rfl) ?_
                  refine .nil ?_
                  exact toN (Gives.mkR [] (.c rfl (sbb (by simp only [g18, g19, Bool.true_or, Bool.or_true, Bool.false_or, Bool.or_false, Bool.true_and, Bool.and_true, Bool.false_and, Bool.and_false, Bool.not_true, Bool.not_false, cond_true, cond_false])) rfl .n) .n rfl rfl rfl)
              · refine W.pk ?_
                refine .v rfl rfl (O.fld fld89_5 rfl rfl rfl) ?_
                refine .v rfl rfl (O.ld ty3 rfl rfl rfl) ?_
                refine .call (.imm (.val (.bool t14))) [] 0 (calendar_Good.ok b15) rfl rfl rfl ca44 rfl rfl (cC (.imm _) .nil) rfl rfl rfl rfl rfl ?_
                refine .v rfl rfl (OpL.unV rfl rfl rfl) ?_
                refine .v rfl rfl (OpL.move (.inl rfl) rfl) ?_
                refine .x rfl (unmet rfl rfl rfl (notF g18)) ?_
                refine .x rfl (unmet rfl rfl rfl (notF g18)) ?_
                refine .x rfl (unmet rfl rfl rfl (notF g18)) ?_
                refine .x rfl (unmet rfl rfl rfl (notF g18)) ?_
                refine .x rfl (unmetU rfl rfl rfl) ?_
                refine .x rfl (unmetU rfl rfl rfl) ?_
                refine .x rfl (unmetU rfl rfl rfl) ?_
                refine .x rfl (unmetU rfl rfl rfl) ?_
                refine .x rfl (unmetU rfl rfl rfl) ?_
                refine .x rfl (unmetU rfl rfl rfl) ?_
                refine .x rfl (unmetU rfl rfl rfl) ?_
                refine .x rfl (unmetU rfl rfl rfl) ?_
                refine .x rfl (unmetU rfl rfl rfl) ?_
                refine .x rfl (unmetU rfl rfl rfl) ?_
                refine .x rfl (unmetU rfl rfl rfl) ?_
                refine .x rfl (unmetU rfl rfl rfl) ?_
                refine .x rfl (unmetU rfl rfl rfl) ?_
                refine .x rfl (unmetU rfl rfl rfl) ?_
                refine .x rfl (unmetU rfl rfl rfl) ?_
                refine .x rfl (unmetU rfl rfl rfl) ?_
                refine .x rfl (unmetU rfl rfl rfl) ?_
                refine .x rfl (unmetU rfl rfl rfl) ?_
                refine .x rfl (unmetU rfl rfl rfl) ?_
                refine .x rfl (unmet rfl rfl rfl (notF g18)) ?_
                refine .v rfl rfl (O.pickT (notF g18) rfl rfl rfl) ?_
                refine .v rfl rfl (OpL.move (.inr rfl) rfl) ?_
                refine .nil ?_
                exact toN (Gives.mkR [] (.c rfl (sbb (by simp only [g18, Bool.true_or, Bool.or_true, Bool.false_or, Bool.or_false, Bool.true_and, Bool.and_true, Bool.false_and, Bool.and_false, Bool.not_true, Bool.not_false, cond_true, cond_false])) rfl .n) .n rfl rfl rfl)
        · clear h
          rcases tf (decide (x0.Basket < 1)) with g8 | g8
          · refine W.pk ?_
            refine .v rfl rfl (O.fld fld89_2 rfl rfl rfl) ?_
            refine .v rfl rfl (O.ld ty3 rfl rfl rfl) ?_
            refine .v rfl rfl (OpL.binI rfl rfl rfl rfl) ?_
            refine .v rfl rfl (OpL.move (.inl rfl) rfl) ?_
            refine .x rfl (unmet rfl rfl rfl g8) ?_
            refine .x rfl (unmet rfl rfl rfl g8) ?_
            refine .x rfl (unmet rfl rfl rfl g8) ?_
            refine .v rfl rfl (O.pickT g8 rfl rfl rfl) ?_
            refine .v rfl rfl (OpL.move (.inl rfl) rfl) ?_
            refine .x rfl (unmet rfl rfl rfl rfl) ?_
            refine .x rfl (unmet rfl rfl rfl rfl) ?_
            refine .x rfl (unmet rfl rfl rfl rfl) ?_
            refine .v rfl rfl (O.pickT rfl rfl rfl rfl) ?_
            refine .v rfl rfl (OpL.move (.inl rfl) rfl) ?_
            refine .x rfl (unmet rfl rfl rfl rfl) ?_
            refine .x rfl (unmet rfl rfl rfl rfl) ?_
            refine .x rfl (unmet rfl rfl rfl rfl) ?_
            refine .v rfl rfl (O.pickT rfl rfl rfl rfl) ?_
            refine .v rfl rfl (OpL.move (.inl rfl) rfl) ?_
            refine .x rfl (unmet rfl rfl rfl rfl) ?_
            refine .x rfl (unmet rfl rfl rfl rfl) ?_
            refine .x rfl (unmet rfl rfl rfl rfl) ?_
            refine .v rfl rfl (O.pickT rfl rfl rfl rfl) ?_
            refine .v rfl rfl (OpL.move (.inl rfl) rfl) ?_
            refine .x rfl (unmet rfl rfl rfl rfl) ?_
            refine .x rfl (unmet rfl rfl rfl rfl) ?_
            refine .x rfl (unmet rfl rfl rfl rfl) ?_
            refine .v rfl rfl (O.pickT rfl rfl rfl rfl) ?_
            refine .v rfl rfl (OpL.move (.inr rfl) rfl) ?_
            refine .nil ?_
            exact toN (Gives.mkR [] (.c rfl (.rfl _) rfl (.c rfl (sbb (by simp only [g8, Bool.true_or, Bool.or_true, Bool.false_or, Bool.or_false, Bool.true_and, Bool.and_true, Bool.false_and, Bool.and_false, Bool.not_true, Bool.not_false, cond_true, cond_false])) rfl .n)) (.c rfl (.rfl _) rfl rfl .n) rfl rfl rfl)
          · rcases tf (decide (x0.Basket > 64)) with g9 | g9
            · refine W.pk ?_
              refine .v rfl rfl (O.fld fld89_2 rfl rfl rfl) ?_
              refine .v rfl rfl (O.ld ty3 rfl rfl rfl) ?_
              refine .v rfl rfl (OpL.binI rfl rfl rfl rfl) ?_
              refine .v rfl rfl (OpL.move (.inl rfl) rfl) ?_
              refine .v rfl (met rfl rfl rfl g8) (O.fld fld89_2 rfl rfl rfl) ?_
              refine .v rfl (met rfl rfl rfl g8) (O.ld ty3 rfl rfl rfl) ?_
              refine .v rfl (met rfl rfl rfl g8) (OpL.binI rfl rfl rfl rfl) ?_
              refine .v rfl rfl (O.pickF g8 rfl rfl rfl) ?_
              refine .v rfl rfl (OpL.move (.inl rfl) rfl) ?_
              refine .x rfl (unmet rfl rfl rfl g9) ?_
              refine .x rfl (unmet rfl rfl rfl g9) ?_
              refine .x rfl (unmet rfl rfl rfl g9) ?_
              refine .v rfl rfl (O.pickT g9 rfl rfl rfl) ?_
              refine .v rfl rfl (OpL.move (.inl rfl) rfl) ?_
              refine .x rfl (unmet rfl rfl rfl rfl) ?_
              refine .x rfl (unmet rfl rfl rfl rfl) ?_
              refine .x rfl (unmet rfl rfl rfl rfl) ?_
              refine .v rfl rfl (O.pickT rfl rfl rfl rfl) ?_
              refine .v rfl rfl (OpL.move (.inl rfl) rfl) ?_
              refine .x rfl (unmet rfl rfl rfl rfl) ?_
              refine .x rfl (unmet rfl rfl rfl rfl) ?_
              refine .x rfl (unmet rfl rfl rfl rfl) ?_
              refine .v rfl rfl (O.pickT rfl rfl rfl rfl) ?_
              refine .v rfl rfl (OpL.move (.inl rfl) rfl) ?_
              refine .x rfl (unmet rfl rfl rfl rfl) ?_
              refine .x rfl (unmet rfl rfl rfl rfl) ?_
              refine .x rfl (unmet rfl rfl rfl rfl) ?_
              refine .v rfl rfl (O.pickT rfl rfl rfl rfl) ?_
              refine .v rfl rfl (OpL.move (.inr rfl) rfl) ?_
              refine .nil ?_
              exact toN (Gives.mkR [] (.c rfl (.rfl _) rfl (.c rfl (sbb (by simp only [g8, g9, Bool.true_or, Bool.or_true, Bool.false_or, Bool.or_false, Bool.true_and, Bool.and_true, Bool.false_and, Bool.and_false, Bool.not_true, Bool.not_false, cond_true, cond_false])) rfl .n)) (.c rfl (.rfl _) rfl rfl .n) rfl rfl rfl)
            · rcases tf (decide (x0.Amount < 1)) with g10 | g10
              · refine W.pk ?_
                refine .v rfl rfl (O.fld fld89_2 rfl rfl rfl) ?_
                refine .v rfl rfl (O.ld ty3 rfl rfl rfl) ?_
                refine .v rfl rfl (OpL.binI rfl rfl rfl rfl) ?_
                refine .v rfl rfl (OpL.move (.inl rfl) rfl) ?_
                refine .v rfl (met rfl rfl rfl g8) (O.fld fld89_2 rfl rfl rfl) ?_
                refine .v rfl (met rfl rfl rfl g8) (O.ld ty3 rfl rfl rfl) ?_
                refine .v rfl (met rfl rfl rfl g8) (OpL.binI rfl rfl rfl rfl) ?_
                refine .v rfl rfl (O.pickF g8 rfl rfl rfl) ?_
                refine .v rfl rfl (OpL.move (.inl rfl) rfl) ?_
                refine .v rfl (met rfl rfl rfl g9) (O.fld fld89_3 rfl rfl rfl) ?_
                refine .v rfl (met rfl rfl rfl g9) (O.ld ty3 rfl rfl rfl) ?_
                refine .v rfl (met rfl rfl rfl g9) (OpL.binI rfl rfl rfl rfl) ?_
                refine .v rfl rfl (O.pickF g9 rfl rfl rfl) ?_
                refine .v rfl rfl (OpL.move (.inl rfl) rfl) ?_
                refine .x rfl (unmet rfl rfl rfl g10) ?_
                refine .x rfl (unmet rfl rfl rfl g10) ?_
                refine .x rfl (unmet rfl rfl rfl g10) ?_
                refine .v rfl rfl (O.pickT g10 rfl rfl rfl) ?_
                refine .v rfl rfl (OpL.move (.inl rfl) rfl) ?_
                refine .x rfl (unmet rfl rfl rfl rfl) ?_
                refine .x rfl (unmet rfl rfl rfl rfl) ?_
                refine .x rfl (unmet rfl rfl rfl rfl) ?_
                refine .v rfl rfl (O.pickT rfl rfl rfl rfl) ?_
                refine .v rfl rfl (OpL.move (.inl rfl) rfl) ?_
                refine .x rfl (unmet rfl rfl rfl rfl) ?_
                refine .x rfl (unmet rfl rfl rfl rfl) ?_
                refine .x rfl (unmet rfl rfl rfl rfl) ?_
                refine .v rfl rfl (O.pickT rfl rfl rfl rfl) ?_
                refine .v rfl rfl (OpL.move (.inr rfl) rfl) ?_
                refine .nil ?_
                exact toN (Gives.mkR [] (.c rfl (.rfl _) rfl (.c rfl (sbb (by simp only [g8, g9, g10, Bool.true_or, Bool.or_true, Bool.false_or, Bool.or_false, Bool.true_and, Bool.and_true, Bool.false_and, Bool.and_false, Bool.not_true, Bool.not_false, cond_true, cond_false])) rfl .n)) (.c rfl (.rfl _) rfl rfl .n) rfl rfl rfl)
              · rcases tf (decide (x0.Amount > 1125899906842624)) with g11 | g11
                · refine W.pk ?_
                  refine .v rfl rfl (O.fld fld89_2 rfl rfl rfl) ?_
                  refine .v rfl rfl (O.ld ty3 rfl rfl rfl) ?_
                  refine .v rfl rfl (OpL.binI rfl rfl rfl rfl) ?_
                  refine .v rfl rfl (OpL.move (.inl rfl) rfl) ?_
                  refine .v rfl (met rfl rfl rfl g8) (O.fld fld89_2 rfl rfl rfl) ?_
                  refine .v rfl (met rfl rfl rfl g8) (O.ld ty3 rfl rfl rfl) ?_
                  refine .v rfl (met rfl rfl rfl g8) (OpL.binI rfl rfl rfl rfl) ?_
                  refine .v rfl rfl (O.pickF g8 rfl rfl rfl) ?_
                  refine .v rfl rfl (OpL.move (.inl rfl) rfl) ?_
                  refine .v rfl (met rfl rfl rfl g9) (O.fld fld89_3 rfl rfl rfl) ?_
                  refine .v rfl (met rfl rfl rfl g9) (O.ld ty3 rfl rfl rfl) ?_
                  refine .v rfl (met rfl rfl rfl g9) (OpL.binI rfl rfl rfl rfl) ?_
                  refine .v rfl rfl (O.pickF g9 rfl rfl rfl) ?_
                  refine .v rfl rfl (OpL.move (.inl rfl) rfl) ?_
                  refine .v rfl (met rfl rfl rfl g10) (O.fld fld89_3 rfl rfl rfl) ?_
                  refine .v rfl (met rfl rfl rfl g10) (O.ld ty3 rfl rfl rfl) ?_
                  refine .v rfl (met rfl rfl rfl g10) (OpL.binI rfl rfl rfl rfl) ?_
                  refine .v rfl rfl (O.pickF g10 rfl rfl rfl) ?_
                  refine .v rfl rfl (OpL.move (.inl rfl) rfl) ?_
                  refine .x rfl (unmet rfl rfl rfl g11) ?_
                  refine .x rfl (unmet rfl rfl rfl g11) ?_
                  refine .x rfl (unmet rfl rfl rfl g11) ?_
                  refine .v rfl rfl (O.pickT g11 rfl rfl rfl) ?_
                  refine .v rfl rfl (OpL.move (.inl rfl) rfl) ?_
                  refine .x rfl (unmet rfl rfl rfl rfl) ?_
                  refine .x rfl (unmet rfl rfl rfl rfl) ?_
                  refine .x rfl (unmet rfl rfl rfl rfl) ?_
                  refine .v rfl rfl (O.pickT rfl rfl rfl rfl) ?_
                  refine .v rfl rfl (OpL.move (.inr rfl) rfl) ?_
                  refine .nil ?_
                  exact toN (Gives.mkR [] (.c rfl (.rfl _) rfl (.c rfl (sbb (by simp only [g8, g9, g10, g11, Bool.true_or, Bool.or_true, Bool.false_or, Bool.or_false, Bool.true_and, Bool.and_true, Bool.false_and, Bool.and_false, Bool.not_true, Bool.not_false, cond_true, cond_false])) rfl .n)) (.c rfl (.rfl _) rfl rfl .n) rfl rfl rfl)
                · rcases tf (decide (x0.Rate < (-1000000))) with g12 | g12
                  · refine W.pk ?_
                    refine .v rfl rfl (O.fld fld89_2 rfl rfl rfl) ?_
                    refine .v rfl rfl (O.ld ty3 rfl rfl rfl) ?_
                    refine .v rfl rfl (OpL.binI rfl rfl rfl rfl) ?_
                    refine .v rfl rfl (OpL.move (.inl rfl) rfl) ?_
                    refine .v rfl (met rfl rfl rfl g8) (O.fld fld89_2 rfl rfl rfl) ?_
                    refine .v rfl (met rfl rfl rfl g8) (O.ld ty3 rfl rfl rfl) ?_
                    refine .v rfl (met rfl rfl rfl g8) (OpL.binI rfl rfl rfl rfl) ?_
                    refine .v rfl rfl (O.pickF g8 rfl rfl rfl) ?_
                    refine .v rfl rfl (OpL.move (.inl rfl) rfl) ?_
                    refine .v rfl (met rfl rfl rfl g9) (O.fld fld89_3 rfl rfl rfl) ?_
                    refine .v rfl (met rfl rfl rfl g9) (O.ld ty3 rfl rfl rfl) ?_
                    refine .v rfl (met rfl rfl rfl g9) (OpL.binI rfl rfl rfl rfl) ?_
                    refine .v rfl rfl (O.pickF g9 rfl rfl rfl) ?_
                    refine .v rfl rfl (OpL.move (.inl rfl) rfl) ?_
                    refine .v rfl (met rfl rfl rfl g10) (O.fld fld89_3 rfl rfl rfl) ?_
                    refine .v rfl (met rfl rfl rfl g10) (O.ld ty3 rfl rfl rfl) ?_
                    refine .v rfl (met rfl rfl rfl g10) (OpL.binI rfl rfl rfl rfl) ?_
                    refine .v rfl rfl (O.pickF g10 rfl rfl rfl) ?_
                    refine .v rfl rfl (OpL.move (.inl rfl) rfl) ?_
                    refine .v rfl (met rfl rfl rfl g11) (O.fld fld89_4 rfl rfl rfl) ?_
                    refine .v rfl (met rfl rfl rfl g11) (O.ld ty3 rfl rfl rfl) ?_
                    refine .v rfl (met rfl rfl rfl g11) (OpL.binI rfl rfl rfl rfl) ?_
                    refine .v rfl rfl (O.pickF g11 rfl rfl rfl) ?_
                    refine .v rfl rfl (OpL.move (.inl rfl) rfl) ?_
                    refine .x rfl (unmet rfl rfl rfl g12) ?_
                    refine .x rfl (unmet rfl rfl rfl g12) ?_
                    refine .x rfl (unmet rfl rfl rfl g12) ?_
                    refine .v rfl rfl (O.pickT g12 rfl rfl rfl) ?_
                    refine .v rfl rfl (OpL.move (.inr rfl) rfl) ?_
                    refine .nil ?_
                    exact toN (Gives.mkR [] (.c rfl (.rfl _) rfl (.c rfl (sbb (by simp only [g8, g9, g10, g11, g12, Bool.true_or, Bool.or_true, Bool.false_or, Bool.or_false, Bool.true_and, Bool.and_true, Bool.false_and, Bool.and_false, Bool.not_true, Bool.not_false, cond_true, cond_false])) rfl .n)) (.c rfl (.rfl _) rfl rfl .n) rfl rfl rfl)
                  · refine W.pk ?_
                    refine .v rfl rfl (O.fld fld89_2 rfl rfl rfl) ?_
                    refine .v rfl rfl (O.ld ty3 rfl rfl rfl) ?_
                    refine .v rfl rfl (OpL.binI rfl rfl rfl rfl) ?_
                    refine .v rfl rfl (OpL.move (.inl rfl) rfl) ?_
                    refine .v rfl (met rfl rfl rfl g8) (O.fld fld89_2 rfl rfl rfl) ?_
                    refine .v rfl (met rfl rfl rfl g8) (O.ld ty3 rfl rfl rfl) ?_
                    refine .v rfl (met rfl rfl rfl g8) (OpL.binI rfl rfl rfl rfl) ?_
                    refine .v rfl rfl (O.pickF g8 rfl rfl rfl) ?_
                    refine .v rfl rfl (OpL.move (.inl rfl) rfl) ?_
                    refine .v rfl (met rfl rfl rfl g9) (O.fld fld89_3 rfl rfl rfl) ?_
                    refine .v rfl (met rfl rfl rfl g9) (O.ld ty3 rfl rfl rfl) ?_
                    refine .v rfl (met rfl rfl rfl g9) (OpL.binI rfl rfl rfl rfl) ?_
                    refine .v rfl rfl (O.pickF g9 rfl rfl rfl) ?_
                    refine .v rfl rfl (OpL.move (.inl rfl) rfl) ?_
                    refine .v rfl (met rfl rfl rfl g10) (O.fld fld89_3 rfl rfl rfl) ?_
                    refine .v rfl (met rfl rfl rfl g10) (O.ld ty3 rfl rfl rfl) ?_
                    refine .v rfl (met rfl rfl rfl g10) (OpL.binI rfl rfl rfl rfl) ?_
                    refine .v rfl rfl (O.pickF g10 rfl rfl rfl) ?_
                    refine .v rfl rfl (OpL.move (.inl rfl) rfl) ?_
                    refine .v rfl (met rfl rfl rfl g11) (O.fld fld89_4 rfl rfl rfl) ?_
                    refine .v rfl (met rfl rfl rfl g11) (O.ld ty3 rfl rfl rfl) ?_
                    refine .v rfl (met rfl rfl rfl g11) (OpL.binI rfl rfl rfl rfl) ?_
                    refine .v rfl rfl (O.pickF g11 rfl rfl rfl) ?_
                    refine .v rfl rfl (OpL.move (.inl rfl) rfl) ?_
                    refine .v rfl (met rfl rfl rfl g12) (O.fld fld89_4 rfl rfl rfl) ?_
                    refine .v rfl (met rfl rfl rfl g12) (O.ld ty3 rfl rfl rfl) ?_
                    refine .v rfl (met rfl rfl rfl g12) (OpL.binI rfl rfl rfl rfl) ?_
                    refine .v rfl rfl (O.pickF g12 rfl rfl rfl) ?_
                    refine .v rfl rfl (OpL.move (.inr rfl) rfl) ?_
                    refine .nil ?_
                    exact toN (Gives.mkR [] (.c rfl (.rfl _) rfl (.c rfl (sbb (by simp only [g8, g9, g10, g11, g12, Bool.true_or, Bool.or_true, Bool.false_or, Bool.or_false, Bool.true_and, Bool.and_true, Bool.false_and, Bool.and_false, Bool.not_true, Bool.not_false, cond_true, cond_false])) rfl .n)) (.c rfl (.rfl _) rfl rfl .n) rfl rfl rfl)
  · clear h
    rcases tf t1 with g5 | g5
    · refine W.pk ?_
      refine .v rfl rfl (OpL.move (.inl rfl) rfl) ?_
      refine .v rfl rfl (O.fld fld89_0 rfl rfl rfl) ?_
      refine .v rfl rfl (O.ld ty3 rfl rfl rfl) ?_
      refine .call (.imm (.val (.bool t1))) [] 0 (trade_Fill_1.ok b2) rfl rfl rfl ca79 rfl rfl (cC (.imm _) .nil) rfl rfl rfl rfl rfl ?_
      refine .v rfl rfl (OpL.unV rfl rfl rfl) ?_
      refine .v rfl rfl (OpL.move (.inl rfl) rfl) ?_
      refine .v rfl (met rfl rfl rfl (notT g5)) (OpL.move (.inl rfl) rfl) ?_
      refine .v rfl (met rfl rfl rfl (notT g5)) (O.fld fld89_1 rfl rfl rfl) ?_
      refine .v rfl (met rfl rfl rfl (notT g5)) (O.ld ty3 rfl rfl rfl) ?_
      refine .call (.imm (.val (.bool t3))) [] 0 (trade_Fill_1.ok ((if_pos (by simp only [g5, Bool.true_or, Bool.or_true, Bool.false_or, Bool.or_false, Bool.true_and, Bool.and_true, Bool.false_and, Bool.and_false, Bool.not_true, Bool.not_false, cond_true, cond_false])).symm.trans b4)) rfl (met rfl rfl rfl (notT g5)) rfl ca79 rfl rfl (cC (.imm _) .nil) rfl rfl rfl rfl rfl ?_
      refine .v rfl (met rfl rfl rfl (notT g5)) (OpL.unV rfl rfl rfl) ?_
      refine .v rfl rfl (O.pickF (notT g5) rfl rfl rfl) ?_
      refine .v rfl rfl (OpL.move (.inr rfl) rfl) ?_
      refine .nil ?_
      exact toN (Gives.mkR [] (.c rfl (.rfl _) rfl (.c rfl (sbb (by simp only [g5, Bool.true_or, Bool.or_true, Bool.false_or, Bool.or_false, Bool.true_and, Bool.and_true, Bool.false_and, Bool.and_false, Bool.not_true, Bool.not_false, cond_true, cond_false])) rfl .n)) (.c rfl (.rfl _) rfl rfl .n) rfl rfl rfl)
    · refine W.pk ?_
      refine .v rfl rfl (OpL.move (.inl rfl) rfl) ?_
      refine .v rfl rfl (O.fld fld89_0 rfl rfl rfl) ?_
      refine .v rfl rfl (O.ld ty3 rfl rfl rfl) ?_
      refine .call (.imm (.val (.bool t1))) [] 0 (trade_Fill_1.ok b2) rfl rfl rfl ca79 rfl rfl (cC (.imm _) .nil) rfl rfl rfl rfl rfl ?_
      refine .v rfl rfl (OpL.unV rfl rfl rfl) ?_
      refine .v rfl rfl (OpL.move (.inl rfl) rfl) ?_
      refine .x rfl (unmet rfl rfl rfl (notF g5)) ?_
      refine .x rfl (unmet rfl rfl rfl (notF g5)) ?_
      refine .x rfl (unmet rfl rfl rfl (notF g5)) ?_
      refine .x rfl (unmet rfl rfl rfl (notF g5)) ?_
      refine .x rfl (unmet rfl rfl rfl (notF g5)) ?_
      refine .v rfl rfl (O.pickT (notF g5) rfl rfl rfl) ?_
      refine .v rfl rfl (OpL.move (.inr rfl) rfl) ?_
      refine .nil ?_
      exact toN (Gives.mkR [] (.c rfl (.rfl _) rfl (.c rfl (sbb (by simp only [g5, Bool.true_or, Bool.or_true, Bool.false_or, Bool.or_false, Bool.true_and, Bool.and_true, Bool.false_and, Bool.and_false, Bool.not_true, Bool.not_false, cond_true, cond_false])) rfl .n)) (.c rfl (.rfl _) rfl rfl .n) rfl rfl rfl)
end Go.Proofs.Ytlgfdldonoaahaa
