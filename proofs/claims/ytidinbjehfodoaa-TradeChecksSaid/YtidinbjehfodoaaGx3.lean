/- Shows what functions of the program come to, each as a plain function: written by a program of the author's for this claim. -/
import Derived.Test.YtidinbjehfodoaaGx2
namespace Go.Proofs.Ytidinbjehfodoaa
open Go Go.Pm
set_option linter.unusedVariables false
set_option linter.unusedSimpArgs false
noncomputable def lombardref23_Terms.f (x0 : api_Fill) : Option (Int) :=
  (lombardref23_in.f x0.Basket 1 64).bind fun t1 =>
  (if (!t1) = false then lombardref23_in.f x0.Amount 1 1125899906842624 else some default).bind fun t3 =>
  (if ((!t1) || (!t3)) = false then lombardref23_in.f x0.Rate (-1000000) 1000000 else some default).bind fun t5 =>
  if (((!t1) || (!t3)) || (!t5)) = true then
    some 1
  else
    (lombardref02_Good.f x0.Start).bind fun t10 =>
    (if (!t10) = false ∧ (x0.End != 0) = true then lombardref02_Good.f x0.End else some default).bind fun t12 =>
    (if (!t10) = false ∧ (x0.End != 0) = true ∧ (!t12) = false then lombardref23_in.f (IntKind.wrap .i64 (x0.End - x0.Start)) 1 3660 else some default).bind fun t14 =>
    if ((!t10) || ((x0.End != 0) && ((!t12) || (!t14)))) = true then
      some 10
    else
      some 0
set_option maxRecDepth 100000 in
set_option maxHeartbeats 4000000 in
theorem lombardref23_Terms.ok {x0 : api_Fill} {r : Int} (h : lombardref23_Terms.f x0 = some r) : Pm.Spec prog 37 [.agg [.imm (.val (.int .i64 x0.Lender)), .imm (.val (.int .i64 x0.Borrower)), .imm (.val (.int .i64 x0.Basket)), .imm (.val (.int .i64 x0.Amount)), .imm (.val (.int .i64 x0.Rate)), .imm (.val (.int .i64 x0.Start)), .imm (.val (.int .i64 x0.End))]] (.imm (.val (.int .i64 r))) [none] := by
  unfold lombardref23_Terms.f at h
  refine Pm.Spec.of_body Try.func37 rfl (by kernel_rfl) (Nat.le_of_ble_eq_true rfl) (Nat.le_of_ble_eq_true rfl) ?_
  refine W.ghost (σ' := (mkSt [(0, some (.agg (api_Fill.av x0)))] [] 1000)) (Gives.entry (.c rfl .n) .n) ?_
  refine W.seq ?_
  refine W.pk ?_
  refine .t rfl rfl (O.box rfl rfl rfl rfl rfl) ?_
  refine .v rfl rfl (OpL.move (.inr rfl) rfl) ?_
  refine .nil ?_
  refine W.seq ?_
  refine W.seq ?_
  obtain ⟨t1, b2, h⟩ := bnd1 h
  obtain ⟨t3, b4, h⟩ := bnd1 h
  obtain ⟨t5, b6, h⟩ := bnd1 h
  refine W.fork (mkSt [(1, some (.ptr 1000 0)), (18, some (.b (((!t1) || (!t3)) || (!t5))))] [(1000, some (.box [.i x0.Lender, .i x0.Borrower, .i x0.Basket, .i x0.Amount, .i x0.Rate, .i x0.Start, .i x0.End]))] 1001) ?_ ?_
  · refine W.cond rfl (fun q9 => ?_) (fun q9 => ?_)
    · have h := ifT q9 h
      refine W.seq ?_
      refine W.pk ?_
      refine .v rfl rfl (OpL.move (.inr rfl) rfl) ?_
      refine .nil ?_
      refine W.ret ?_
      cases h
      exact leaves (.inr rfl) rfl (.imm _) (cN .nil) rfl rfl
    · have h := ifF q9 h
      refine W.skip ?_
      refine W.seq ?_
      refine W.seq ?_
      obtain ⟨t10, b11, h⟩ := bnd1 h
      obtain ⟨t12, b13, h⟩ := bnd1 h
      obtain ⟨t14, b15, h⟩ := bnd1 h
      refine W.fork (mkSt [(42, some (.b ((!t10) || ((x0.End != 0) && ((!t12) || (!t14))))))] [] 1001) ?_ ?_
      · refine W.cond rfl (fun q19 => ?_) (fun q19 => ?_)
        · have h := ifT q19 h
          refine W.seq ?_
          refine W.pk ?_
          refine .v rfl rfl (OpL.move (.inr rfl) rfl) ?_
          refine .nil ?_
          refine W.ret ?_
          cases h
          exact leaves (.inr rfl) rfl (.imm _) (cN .nil) rfl rfl
        · have h := ifF q19 h
          refine W.skip ?_
          refine W.seq ?_
          refine W.pk ?_
          refine .v rfl rfl (OpL.move (.inr rfl) rfl) ?_
          refine .nil ?_
          refine W.ret ?_
          cases h
          exact leaves (.inr rfl) rfl (.imm _) (cN .nil) rfl rfl
      · clear h
        rcases tf t10 with g16 | g16
        · rcases tf (x0.End != 0) with g17 | g17
          · rcases tf t12 with g18 | g18
            · refine W.pk ?_
              refine .v rfl rfl (O.fld fld23_5 rfl rfl rfl) ?_
              refine .v rfl rfl (O.ld (y := .i x0.Start) ty3 rfl rfl rfl) ?_
              refine .call (.b t10) [] 0 (lombardref02_Good.ok b11) rfl rfl rfl ca50 rfl rfl (cC (.imm _) .nil) rfl rfl rfl rfl rfl ?_
              refine .v rfl rfl (OpL.unV rfl rfl rfl) ?_
              refine .v rfl rfl (OpL.move (.inl rfl) rfl) ?_
              refine .v rfl (met rfl rfl rfl (notT g16)) (O.fld fld23_6 rfl rfl rfl) ?_
              refine .v rfl (met rfl rfl rfl (notT g16)) (O.ld (y := .i x0.End) ty3 rfl rfl rfl) ?_
              refine .v rfl (met rfl rfl rfl (notT g16)) (OpL.binI rfl rfl rfl rfl) ?_
              refine .v rfl (met rfl rfl rfl (notT g16)) (OpL.move (.inl rfl) rfl) ?_
              refine .v rfl (met rfl rfl rfl g17) (O.fld fld23_6 rfl rfl rfl) ?_
              refine .v rfl (met rfl rfl rfl g17) (O.ld (y := .i x0.End) ty3 rfl rfl rfl) ?_
              refine .call (.b t12) [] 0 (lombardref02_Good.ok ((if_pos ⟨(by first | (simp only [g16, g17, g18, Bool.true_or, Bool.or_true, Bool.false_or, Bool.or_false, Bool.true_and, Bool.and_true, Bool.false_and, Bool.and_false, Bool.not_true, Bool.not_false, cond_true, cond_false]; done) | (repeat (first | rw [g16] | rw [g17] | rw [g18])) <;> simp only [Bool.true_or, Bool.or_true, Bool.false_or, Bool.or_false, Bool.true_and, Bool.and_true, Bool.false_and, Bool.and_false, Bool.not_true, Bool.not_false, cond_true, cond_false]), (by first | (simp only [g16, g17, g18, Bool.true_or, Bool.or_true, Bool.false_or, Bool.or_false, Bool.true_and, Bool.and_true, Bool.false_and, Bool.and_false, Bool.not_true, Bool.not_false, cond_true, cond_false]; done) | (repeat (first | rw [g16] | rw [g17] | rw [g18])) <;> simp only [Bool.true_or, Bool.or_true, Bool.false_or, Bool.or_false, Bool.true_and, Bool.and_true, Bool.false_and, Bool.and_false, Bool.not_true, Bool.not_false, cond_true, cond_false])⟩).symm.trans b13)) rfl (met rfl rfl rfl g17) rfl ca50 rfl rfl (cC (.imm _) .nil) rfl rfl rfl rfl rfl ?_
              refine .v rfl (met rfl rfl rfl g17) (OpL.unV rfl rfl rfl) ?_
              refine .v rfl (met rfl rfl rfl g17) (OpL.move (.inl rfl) rfl) ?_
              refine .v rfl (met rfl rfl rfl (notT g18)) (O.fld fld23_6 rfl rfl rfl) ?_
              refine .v rfl (met rfl rfl rfl (notT g18)) (O.ld (y := .i x0.End) ty3 rfl rfl rfl) ?_
              refine .v rfl (met rfl rfl rfl (notT g18)) (O.fld fld23_5 rfl rfl rfl) ?_
              refine .v rfl (met rfl rfl rfl (notT g18)) (O.ld (y := .i x0.Start) ty3 rfl rfl rfl) ?_
              refine .v rfl (met rfl rfl rfl (notT g18)) (OpL.binI rfl rfl rfl rfl) ?_
              refine .call (.b t14) [] 0 (lombardref23_in.ok ((if_pos ⟨(by first | (simp only [g16, g17, g18, Bool.true_or, Bool.or_true, Bool.false_or, Bool.or_false, Bool.true_and, Bool.and_true, Bool.false_and, Bool.and_false, Bool.not_true, Bool.not_false, cond_true, cond_false]; done) | (repeat (first | rw [g16] | rw [g17] | rw [g18])) <;> simp only [Bool.true_or, Bool.or_true, Bool.false_or, Bool.or_false, Bool.true_and, Bool.and_true, Bool.false_and, Bool.and_false, Bool.not_true, Bool.not_false, cond_true, cond_false]), (by first | (simp only [g16, g17, g18, Bool.true_or, Bool.or_true, Bool.false_or, Bool.or_false, Bool.true_and, Bool.and_true, Bool.false_and, Bool.and_false, Bool.not_true, Bool.not_false, cond_true, cond_false]; done) | (repeat (first | rw [g16] | rw [g17] | rw [g18])) <;> simp only [Bool.true_or, Bool.or_true, Bool.false_or, Bool.or_false, Bool.true_and, Bool.and_true, Bool.false_and, Bool.and_false, Bool.not_true, Bool.not_false, cond_true, cond_false]), (by first | (simp only [g16, g17, g18, Bool.true_or, Bool.or_true, Bool.false_or, Bool.or_false, Bool.true_and, Bool.and_true, Bool.false_and, Bool.and_false, Bool.not_true, Bool.not_false, cond_true, cond_false]; done) | (repeat (first | rw [g16] | rw [g17] | rw [g18])) <;> simp only [Bool.true_or, Bool.or_true, Bool.false_or, Bool.or_false, Bool.true_and, Bool.and_true, Bool.false_and, Bool.and_false, Bool.not_true, Bool.not_false, cond_true, cond_false])⟩).symm.trans b15)) rfl (met rfl rfl rfl (notT g18)) rfl ca36 rfl rfl (cC (.imm _) (cC (.imm _) (cC (.imm _) .nil))) rfl rfl rfl rfl rfl ?_
              refine .v rfl (met rfl rfl rfl (notT g18)) (OpL.unV rfl rfl rfl) ?_
              refine .v rfl (met rfl rfl rfl g17) (O.pickF (notT g18) rfl rfl rfl) ?_
              refine .v rfl (met rfl rfl rfl (notT g16)) (O.pickT g17 rfl rfl rfl) ?_
              refine .v rfl rfl (O.pickF (notT g16) rfl rfl rfl) ?_
              refine .nil ?_
              exact toN (Gives.mkR [] (.c rfl (sbb (by first | (simp only [g16, g17, g18, Bool.true_or, Bool.or_true, Bool.false_or, Bool.or_false, Bool.true_and, Bool.and_true, Bool.false_and, Bool.and_false, Bool.not_true, Bool.not_false, cond_true, cond_false]; done) | (repeat (first | rw [g16] | rw [g17] | rw [g18])) <;> simp only [Bool.true_or, Bool.or_true, Bool.false_or, Bool.or_false, Bool.true_and, Bool.and_true, Bool.false_and, Bool.and_false, Bool.not_true, Bool.not_false, cond_true, cond_false])) rfl .n) .n rfl rfl rfl)
            · refine W.pk ?_
              refine .v rfl rfl (O.fld fld23_5 rfl rfl rfl) ?_
              refine .v rfl rfl (O.ld (y := .i x0.Start) ty3 rfl rfl rfl) ?_
              refine .call (.b t10) [] 0 (lombardref02_Good.ok b11) rfl rfl rfl ca50 rfl rfl (cC (.imm _) .nil) rfl rfl rfl rfl rfl ?_
              refine .v rfl rfl (OpL.unV rfl rfl rfl) ?_
              refine .v rfl rfl (OpL.move (.inl rfl) rfl) ?_
              refine .v rfl (met rfl rfl rfl (notT g16)) (O.fld fld23_6 rfl rfl rfl) ?_
              refine .v rfl (met rfl rfl rfl (notT g16)) (O.ld (y := .i x0.End) ty3 rfl rfl rfl) ?_
              refine .v rfl (met rfl rfl rfl (notT g16)) (OpL.binI rfl rfl rfl rfl) ?_
              refine .v rfl (met rfl rfl rfl (notT g16)) (OpL.move (.inl rfl) rfl) ?_
              refine .v rfl (met rfl rfl rfl g17) (O.fld fld23_6 rfl rfl rfl) ?_
              refine .v rfl (met rfl rfl rfl g17) (O.ld (y := .i x0.End) ty3 rfl rfl rfl) ?_
              refine .call (.b t12) [] 0 (lombardref02_Good.ok ((if_pos ⟨(by first | (simp only [g16, g17, g18, Bool.true_or, Bool.or_true, Bool.false_or, Bool.or_false, Bool.true_and, Bool.and_true, Bool.false_and, Bool.and_false, Bool.not_true, Bool.not_false, cond_true, cond_false]; done) | (repeat (first | rw [g16] | rw [g17] | rw [g18])) <;> simp only [Bool.true_or, Bool.or_true, Bool.false_or, Bool.or_false, Bool.true_and, Bool.and_true, Bool.false_and, Bool.and_false, Bool.not_true, Bool.not_false, cond_true, cond_false]), (by first | (simp only [g16, g17, g18, Bool.true_or, Bool.or_true, Bool.false_or, Bool.or_false, Bool.true_and, Bool.and_true, Bool.false_and, Bool.and_false, Bool.not_true, Bool.not_false, cond_true, cond_false]; done) | (repeat (first | rw [g16] | rw [g17] | rw [g18])) <;> simp only [Bool.true_or, Bool.or_true, Bool.false_or, Bool.or_false, Bool.true_and, Bool.and_true, Bool.false_and, Bool.and_false, Bool.not_true, Bool.not_false, cond_true, cond_false])⟩).symm.trans b13)) rfl (met rfl rfl rfl g17) rfl ca50 rfl rfl (cC (.imm _) .nil) rfl rfl rfl rfl rfl ?_
              refine .v rfl (met rfl rfl rfl g17) (OpL.unV rfl rfl rfl) ?_
              refine .v rfl (met rfl rfl rfl g17) (OpL.move (.inl rfl) rfl) ?_
              refine .x rfl (unmet rfl rfl rfl (notF g18)) ?_
              refine .x rfl (unmet rfl rfl rfl (notF g18)) ?_
              refine .x rfl (unmet rfl rfl rfl (notF g18)) ?_
              refine .x rfl (unmet rfl rfl rfl (notF g18)) ?_
              refine .x rfl (unmet rfl rfl rfl (notF g18)) ?_
              refine .x rfl (unmet rfl rfl rfl (notF g18)) ?_
              refine .x rfl (unmet rfl rfl rfl (notF g18)) ?_
              refine .v rfl (met rfl rfl rfl g17) (O.pickT (notF g18) rfl rfl rfl) ?_
              refine .v rfl (met rfl rfl rfl (notT g16)) (O.pickT g17 rfl rfl rfl) ?_
              refine .v rfl rfl (O.pickF (notT g16) rfl rfl rfl) ?_
              refine .nil ?_
              exact toN (Gives.mkR [] (.c rfl (sbb (by first | (simp only [g16, g17, g18, Bool.true_or, Bool.or_true, Bool.false_or, Bool.or_false, Bool.true_and, Bool.and_true, Bool.false_and, Bool.and_false, Bool.not_true, Bool.not_false, cond_true, cond_false]; done) | (repeat (first | rw [g16] | rw [g17] | rw [g18])) <;> simp only [Bool.true_or, Bool.or_true, Bool.false_or, Bool.or_false, Bool.true_and, Bool.and_true, Bool.false_and, Bool.and_false, Bool.not_true, Bool.not_false, cond_true, cond_false])) rfl .n) .n rfl rfl rfl)
          · refine W.pk ?_
            refine .v rfl rfl (O.fld fld23_5 rfl rfl rfl) ?_
            refine .v rfl rfl (O.ld (y := .i x0.Start) ty3 rfl rfl rfl) ?_
            refine .call (.b t10) [] 0 (lombardref02_Good.ok b11) rfl rfl rfl ca50 rfl rfl (cC (.imm _) .nil) rfl rfl rfl rfl rfl ?_
            refine .v rfl rfl (OpL.unV rfl rfl rfl) ?_
            refine .v rfl rfl (OpL.move (.inl rfl) rfl) ?_
            refine .v rfl (met rfl rfl rfl (notT g16)) (O.fld fld23_6 rfl rfl rfl) ?_
            refine .v rfl (met rfl rfl rfl (notT g16)) (O.ld (y := .i x0.End) ty3 rfl rfl rfl) ?_
            refine .v rfl (met rfl rfl rfl (notT g16)) (OpL.binI rfl rfl rfl rfl) ?_
            refine .v rfl (met rfl rfl rfl (notT g16)) (OpL.move (.inl rfl) rfl) ?_
            refine .x rfl (unmet rfl rfl rfl g17) ?_
            refine .x rfl (unmet rfl rfl rfl g17) ?_
            refine .x rfl (unmet rfl rfl rfl g17) ?_
            refine .x rfl (unmet rfl rfl rfl g17) ?_
            refine .x rfl (unmet rfl rfl rfl g17) ?_
            refine .x rfl (unmetU rfl rfl rfl) ?_
            refine .x rfl (unmetU rfl rfl rfl) ?_
            refine .x rfl (unmetU rfl rfl rfl) ?_
            refine .x rfl (unmetU rfl rfl rfl) ?_
            refine .x rfl (unmetU rfl rfl rfl) ?_
            refine .x rfl (unmetU rfl rfl rfl) ?_
            refine .x rfl (unmetU rfl rfl rfl) ?_
            refine .x rfl (unmet rfl rfl rfl g17) ?_
            refine .v rfl (met rfl rfl rfl (notT g16)) (O.pickF g17 rfl rfl rfl) ?_
            refine .v rfl rfl (O.pickF (notT g16) rfl rfl rfl) ?_
            refine .nil ?_
            exact toN (Gives.mkR [] (.c rfl (sbb (by first | (simp only [g16, g17, Bool.true_or, Bool.or_true, Bool.false_or, Bool.or_false, Bool.true_and, Bool.and_true, Bool.false_and, Bool.and_false, Bool.not_true, Bool.not_false, cond_true, cond_false]; done) | (repeat (first | rw [g16] | rw [g17])) <;> simp only [Bool.true_or, Bool.or_true, Bool.false_or, Bool.or_false, Bool.true_and, Bool.and_true, Bool.false_and, Bool.and_false, Bool.not_true, Bool.not_false, cond_true, cond_false])) rfl .n) .n rfl rfl rfl)
        · refine W.pk ?_
          refine .v rfl rfl (O.fld fld23_5 rfl rfl rfl) ?_
          refine .v rfl rfl (O.ld (y := .i x0.Start) ty3 rfl rfl rfl) ?_
          refine .call (.b t10) [] 0 (lombardref02_Good.ok b11) rfl rfl rfl ca50 rfl rfl (cC (.imm _) .nil) rfl rfl rfl rfl rfl ?_
          refine .v rfl rfl (OpL.unV rfl rfl rfl) ?_
          refine .v rfl rfl (OpL.move (.inl rfl) rfl) ?_
          refine .x rfl (unmet rfl rfl rfl (notF g16)) ?_
          refine .x rfl (unmet rfl rfl rfl (notF g16)) ?_
          refine .x rfl (unmet rfl rfl rfl (notF g16)) ?_
          refine .x rfl (unmet rfl rfl rfl (notF g16)) ?_
          refine .x rfl (unmetU rfl rfl rfl) ?_
          refine .x rfl (unmetU rfl rfl rfl) ?_
          refine .x rfl (unmetU rfl rfl rfl) ?_
          refine .x rfl (unmetU rfl rfl rfl) ?_
          refine .x rfl (unmetU rfl rfl rfl) ?_
          refine .x rfl (unmetU rfl rfl rfl) ?_
          refine .x rfl (unmetU rfl rfl rfl) ?_
          refine .x rfl (unmetU rfl rfl rfl) ?_
          refine .x rfl (unmetU rfl rfl rfl) ?_
          refine .x rfl (unmetU rfl rfl rfl) ?_
          refine .x rfl (unmetU rfl rfl rfl) ?_
          refine .x rfl (unmetU rfl rfl rfl) ?_
          refine .x rfl (unmetU rfl rfl rfl) ?_
          refine .x rfl (unmet rfl rfl rfl (notF g16)) ?_
          refine .v rfl rfl (O.pickT (notF g16) rfl rfl rfl) ?_
          refine .nil ?_
          exact toN (Gives.mkR [] (.c rfl (sbb (by simp only [g16, Bool.true_or, Bool.or_true, Bool.false_or, Bool.or_false, Bool.true_and, Bool.and_true, Bool.false_and, Bool.and_false, Bool.not_true, Bool.not_false, cond_true, cond_false])) rfl .n) .n rfl rfl rfl)
  · clear h
    rcases tf t1 with g7 | g7
    · rcases tf t3 with g8 | g8
      · refine W.pk ?_
        refine .v rfl rfl (O.fld fld23_2 rfl rfl rfl) ?_
        refine .v rfl rfl (O.ld (y := .i x0.Basket) ty3 rfl rfl rfl) ?_
        refine .call (.b t1) [] 0 (lombardref23_in.ok b2) rfl rfl rfl ca36 rfl rfl (cC (.imm _) (cC (.imm _) (cC (.imm _) .nil))) rfl rfl rfl rfl rfl ?_
        refine .v rfl rfl (OpL.unV rfl rfl rfl) ?_
        refine .v rfl rfl (OpL.move (.inl rfl) rfl) ?_
        refine .v rfl (met rfl rfl rfl (notT g7)) (O.fld fld23_3 rfl rfl rfl) ?_
        refine .v rfl (met rfl rfl rfl (notT g7)) (O.ld (y := .i x0.Amount) ty3 rfl rfl rfl) ?_
        refine .call (.b t3) [] 0 (lombardref23_in.ok ((if_pos (by first | (simp only [g7, g8, Bool.true_or, Bool.or_true, Bool.false_or, Bool.or_false, Bool.true_and, Bool.and_true, Bool.false_and, Bool.and_false, Bool.not_true, Bool.not_false, cond_true, cond_false]; done) | (repeat (first | rw [g7] | rw [g8])) <;> simp only [Bool.true_or, Bool.or_true, Bool.false_or, Bool.or_false, Bool.true_and, Bool.and_true, Bool.false_and, Bool.and_false, Bool.not_true, Bool.not_false, cond_true, cond_false])).symm.trans b4)) rfl (met rfl rfl rfl (notT g7)) rfl ca36 rfl rfl (cC (.imm _) (cC (.imm _) (cC (.imm _) .nil))) rfl rfl rfl rfl rfl ?_
        refine .v rfl (met rfl rfl rfl (notT g7)) (OpL.unV rfl rfl rfl) ?_
        refine .v rfl rfl (O.pickF (notT g7) rfl rfl rfl) ?_
        refine .v rfl rfl (OpL.move (.inl rfl) rfl) ?_
        refine .v rfl (met rfl rfl rfl (notT g8)) (O.fld fld23_4 rfl rfl rfl) ?_
        refine .v rfl (met rfl rfl rfl (notT g8)) (O.ld (y := .i x0.Rate) ty3 rfl rfl rfl) ?_
        refine .call (.b t5) [] 0 (lombardref23_in.ok ((if_pos (by first | (simp only [g7, g8, Bool.true_or, Bool.or_true, Bool.false_or, Bool.or_false, Bool.true_and, Bool.and_true, Bool.false_and, Bool.and_false, Bool.not_true, Bool.not_false, cond_true, cond_false]; done) | (repeat (first | rw [g7] | rw [g8])) <;> simp only [Bool.true_or, Bool.or_true, Bool.false_or, Bool.or_false, Bool.true_and, Bool.and_true, Bool.false_and, Bool.and_false, Bool.not_true, Bool.not_false, cond_true, cond_false])).symm.trans b6)) rfl (met rfl rfl rfl (notT g8)) rfl ca36 rfl rfl (cC (.imm _) (cC (.imm _) (cC (.imm _) .nil))) rfl rfl rfl rfl rfl ?_
        refine .v rfl (met rfl rfl rfl (notT g8)) (OpL.unV rfl rfl rfl) ?_
        refine .v rfl rfl (O.pickF (notT g8) rfl rfl rfl) ?_
        refine .nil ?_
        exact toN (Gives.mkR [] (.c rfl (.rfl _) rfl (.c rfl (sbb (by first | (simp only [g7, g8, Bool.true_or, Bool.or_true, Bool.false_or, Bool.or_false, Bool.true_and, Bool.and_true, Bool.false_and, Bool.and_false, Bool.not_true, Bool.not_false, cond_true, cond_false]; done) | (repeat (first | rw [g7] | rw [g8])) <;> simp only [Bool.true_or, Bool.or_true, Bool.false_or, Bool.or_false, Bool.true_and, Bool.and_true, Bool.false_and, Bool.and_false, Bool.not_true, Bool.not_false, cond_true, cond_false])) rfl .n)) (.c rfl (.rfl _) rfl rfl .n) rfl rfl rfl)
      · refine W.pk ?_
        refine .v rfl rfl (O.fld fld23_2 rfl rfl rfl) ?_
        refine .v rfl rfl (O.ld (y := .i x0.Basket) ty3 rfl rfl rfl) ?_
        refine .call (.b t1) [] 0 (lombardref23_in.ok b2) rfl rfl rfl ca36 rfl rfl (cC (.imm _) (cC (.imm _) (cC (.imm _) .nil))) rfl rfl rfl rfl rfl ?_
        refine .v rfl rfl (OpL.unV rfl rfl rfl) ?_
        refine .v rfl rfl (OpL.move (.inl rfl) rfl) ?_
        refine .v rfl (met rfl rfl rfl (notT g7)) (O.fld fld23_3 rfl rfl rfl) ?_
        refine .v rfl (met rfl rfl rfl (notT g7)) (O.ld (y := .i x0.Amount) ty3 rfl rfl rfl) ?_
        refine .call (.b t3) [] 0 (lombardref23_in.ok ((if_pos (by first | (simp only [g7, g8, Bool.true_or, Bool.or_true, Bool.false_or, Bool.or_false, Bool.true_and, Bool.and_true, Bool.false_and, Bool.and_false, Bool.not_true, Bool.not_false, cond_true, cond_false]; done) | (repeat (first | rw [g7] | rw [g8])) <;> simp only [Bool.true_or, Bool.or_true, Bool.false_or, Bool.or_false, Bool.true_and, Bool.and_true, Bool.false_and, Bool.and_false, Bool.not_true, Bool.not_false, cond_true, cond_false])).symm.trans b4)) rfl (met rfl rfl rfl (notT g7)) rfl ca36 rfl rfl (cC (.imm _) (cC (.imm _) (cC (.imm _) .nil))) rfl rfl rfl rfl rfl ?_
        refine .v rfl (met rfl rfl rfl (notT g7)) (OpL.unV rfl rfl rfl) ?_
        refine .v rfl rfl (O.pickF (notT g7) rfl rfl rfl) ?_
        refine .v rfl rfl (OpL.move (.inl rfl) rfl) ?_
        refine .x rfl (unmet rfl rfl rfl (notF g8)) ?_
        refine .x rfl (unmet rfl rfl rfl (notF g8)) ?_
        refine .x rfl (unmet rfl rfl rfl (notF g8)) ?_
        refine .x rfl (unmet rfl rfl rfl (notF g8)) ?_
        refine .v rfl rfl (O.pickT (notF g8) rfl rfl rfl) ?_
        refine .nil ?_
        exact toN (Gives.mkR [] (.c rfl (.rfl _) rfl (.c rfl (sbb (by first | (simp only [g7, g8, Bool.true_or, Bool.or_true, Bool.false_or, Bool.or_false, Bool.true_and, Bool.and_true, Bool.false_and, Bool.and_false, Bool.not_true, Bool.not_false, cond_true, cond_false]; done) | (repeat (first | rw [g7] | rw [g8])) <;> simp only [Bool.true_or, Bool.or_true, Bool.false_or, Bool.or_false, Bool.true_and, Bool.and_true, Bool.false_and, Bool.and_false, Bool.not_true, Bool.not_false, cond_true, cond_false])) rfl .n)) (.c rfl (.rfl _) rfl rfl .n) rfl rfl rfl)
    · refine W.pk ?_
      refine .v rfl rfl (O.fld fld23_2 rfl rfl rfl) ?_
      refine .v rfl rfl (O.ld (y := .i x0.Basket) ty3 rfl rfl rfl) ?_
      refine .call (.b t1) [] 0 (lombardref23_in.ok b2) rfl rfl rfl ca36 rfl rfl (cC (.imm _) (cC (.imm _) (cC (.imm _) .nil))) rfl rfl rfl rfl rfl ?_
      refine .v rfl rfl (OpL.unV rfl rfl rfl) ?_
      refine .v rfl rfl (OpL.move (.inl rfl) rfl) ?_
      refine .x rfl (unmet rfl rfl rfl (notF g7)) ?_
      refine .x rfl (unmet rfl rfl rfl (notF g7)) ?_
      refine .x rfl (unmet rfl rfl rfl (notF g7)) ?_
      refine .x rfl (unmet rfl rfl rfl (notF g7)) ?_
      refine .v rfl rfl (O.pickT (notF g7) rfl rfl rfl) ?_
      refine .v rfl rfl (OpL.move (.inl rfl) rfl) ?_
      refine .x rfl (unmet rfl rfl rfl rfl) ?_
      refine .x rfl (unmet rfl rfl rfl rfl) ?_
      refine .x rfl (unmet rfl rfl rfl rfl) ?_
      refine .x rfl (unmet rfl rfl rfl rfl) ?_
      refine .v rfl rfl (O.pickT rfl rfl rfl rfl) ?_
      refine .nil ?_
      exact toN (Gives.mkR [] (.c rfl (.rfl _) rfl (.c rfl (sbb (by simp only [g7, Bool.true_or, Bool.or_true, Bool.false_or, Bool.or_false, Bool.true_and, Bool.and_true, Bool.false_and, Bool.and_false, Bool.not_true, Bool.not_false, cond_true, cond_false])) rfl .n)) (.c rfl (.rfl _) rfl rfl .n) rfl rfl rfl)

noncomputable def lombardref23_Fill.f (x0 : api_Fill) : Option (Int) :=
  (lombardref23_in.f x0.Lender 1 32).bind fun t1 =>
  (if (!t1) = false then lombardref23_in.f x0.Borrower 1 32 else some default).bind fun t3 =>
  if ((!t1) || (!t3)) = true then
    some 22
  else
    if (x0.Lender == x0.Borrower) = true then
      some 32
    else
      (lombardref23_Terms.f x0).bind fun t8 =>
      some t8
set_option maxRecDepth 100000 in
set_option maxHeartbeats 4000000 in
theorem lombardref23_Fill.ok {x0 : api_Fill} {r : Int} (h : lombardref23_Fill.f x0 = some r) : Pm.Spec prog 10 [.agg [.imm (.val (.int .i64 x0.Lender)), .imm (.val (.int .i64 x0.Borrower)), .imm (.val (.int .i64 x0.Basket)), .imm (.val (.int .i64 x0.Amount)), .imm (.val (.int .i64 x0.Rate)), .imm (.val (.int .i64 x0.Start)), .imm (.val (.int .i64 x0.End))]] (.imm (.val (.int .i64 r))) [none] := by
  unfold lombardref23_Fill.f at h
  refine Pm.Spec.of_body Try.func10 rfl (by kernel_rfl) (Nat.le_of_ble_eq_true rfl) (Nat.le_of_ble_eq_true rfl) ?_
  refine W.ghost (σ' := (mkSt [(0, some (.agg (api_Fill.av x0)))] [] 1000)) (Gives.entry (.c rfl .n) .n) ?_
  refine W.seq ?_
  refine W.pk ?_
  refine .t rfl rfl (O.box rfl rfl rfl rfl rfl) ?_
  refine .v rfl rfl (OpL.move (.inr rfl) rfl) ?_
  refine .nil ?_
  refine W.seq ?_
  refine W.seq ?_
  obtain ⟨t1, b2, h⟩ := bnd1 h
  obtain ⟨t3, b4, h⟩ := bnd1 h
  refine W.fork (mkSt [(1, some (.ptr 1000 0)), (12, some (.b ((!t1) || (!t3))))] [(1000, some (.box [.i x0.Lender, .i x0.Borrower, .i x0.Basket, .i x0.Amount, .i x0.Rate, .i x0.Start, .i x0.End]))] 1001) ?_ ?_
  · refine W.cond rfl (fun q6 => ?_) (fun q6 => ?_)
    · have h := ifT q6 h
      refine W.seq ?_
      refine W.pk ?_
      refine .v rfl rfl (OpL.move (.inr rfl) rfl) ?_
      refine .nil ?_
      refine W.ret ?_
      cases h
      exact leaves (.inr rfl) rfl (.imm _) (cN .nil) rfl rfl
    · have h := ifF q6 h
      refine W.skip ?_
      refine W.seq ?_
      refine W.seq ?_
      refine W.pk ?_
      refine .v rfl rfl (O.fld fld23_0 rfl rfl rfl) ?_
      refine .v rfl rfl (O.ld (y := .i x0.Lender) ty3 rfl rfl rfl) ?_
      refine .v rfl rfl (O.fld fld23_1 rfl rfl rfl) ?_
      refine .v rfl rfl (O.ld (y := .i x0.Borrower) ty3 rfl rfl rfl) ?_
      refine .v rfl rfl (OpL.binI rfl rfl rfl rfl) ?_
      refine .nil ?_
      refine W.cond rfl (fun q7 => ?_) (fun q7 => ?_)
      · have h := ifT q7 h
        refine W.seq ?_
        refine W.pk ?_
        refine .v rfl rfl (OpL.move (.inr rfl) rfl) ?_
        refine .nil ?_
        refine W.ret ?_
        cases h
        exact leaves (.inr rfl) rfl (.imm _) (cN .nil) rfl rfl
      · have h := ifF q7 h
        refine W.skip ?_
        refine W.seq ?_
        obtain ⟨t8, b9, h⟩ := bnd1 h
        refine W.pk ?_
        refine .v rfl rfl (O.ldN ty23 rfl rfl rfl) ?_
        refine .call (.i t8) [] 0 (lombardref23_Terms.ok b9) rfl rfl rfl ca37 rfl rfl (cC (.agg _ _ _ _ (cC (.imm _) (cC (.imm _) (cC (.imm _) (cC (.imm _) (cC (.imm _) (cC (.imm _) (cC (.imm _) .nil)))))))) .nil) rfl rfl rfl rfl rfl ?_
        refine .v rfl rfl (OpL.move (.inr rfl) rfl) ?_
        refine .nil ?_
        refine W.ret ?_
        cases h
        exact leaves (.inr rfl) rfl (.imm _) (cN .nil) rfl rfl
  · clear h
    rcases tf t1 with g5 | g5
    · refine W.pk ?_
      refine .v rfl rfl (O.fld fld23_0 rfl rfl rfl) ?_
      refine .v rfl rfl (O.ld (y := .i x0.Lender) ty3 rfl rfl rfl) ?_
      refine .call (.b t1) [] 0 (lombardref23_in.ok b2) rfl rfl rfl ca36 rfl rfl (cC (.imm _) (cC (.imm _) (cC (.imm _) .nil))) rfl rfl rfl rfl rfl ?_
      refine .v rfl rfl (OpL.unV rfl rfl rfl) ?_
      refine .v rfl rfl (OpL.move (.inl rfl) rfl) ?_
      refine .v rfl (met rfl rfl rfl (notT g5)) (O.fld fld23_1 rfl rfl rfl) ?_
      refine .v rfl (met rfl rfl rfl (notT g5)) (O.ld (y := .i x0.Borrower) ty3 rfl rfl rfl) ?_
      refine .call (.b t3) [] 0 (lombardref23_in.ok ((if_pos (by simp only [g5, Bool.true_or, Bool.or_true, Bool.false_or, Bool.or_false, Bool.true_and, Bool.and_true, Bool.false_and, Bool.and_false, Bool.not_true, Bool.not_false, cond_true, cond_false])).symm.trans b4)) rfl (met rfl rfl rfl (notT g5)) rfl ca36 rfl rfl (cC (.imm _) (cC (.imm _) (cC (.imm _) .nil))) rfl rfl rfl rfl rfl ?_
      refine .v rfl (met rfl rfl rfl (notT g5)) (OpL.unV rfl rfl rfl) ?_
      refine .v rfl rfl (O.pickF (notT g5) rfl rfl rfl) ?_
      refine .nil ?_
      exact toN (Gives.mkR [] (.c rfl (.rfl _) rfl (.c rfl (sbb (by simp only [g5, Bool.true_or, Bool.or_true, Bool.false_or, Bool.or_false, Bool.true_and, Bool.and_true, Bool.false_and, Bool.and_false, Bool.not_true, Bool.not_false, cond_true, cond_false])) rfl .n)) (.c rfl (.rfl _) rfl rfl .n) rfl rfl rfl)
    · refine W.pk ?_
      refine .v rfl rfl (O.fld fld23_0 rfl rfl rfl) ?_
      refine .v rfl rfl (O.ld (y := .i x0.Lender) ty3 rfl rfl rfl) ?_
      refine .call (.b t1) [] 0 (lombardref23_in.ok b2) rfl rfl rfl ca36 rfl rfl (cC (.imm _) (cC (.imm _) (cC (.imm _) .nil))) rfl rfl rfl rfl rfl ?_
      refine .v rfl rfl (OpL.unV rfl rfl rfl) ?_
      refine .v rfl rfl (OpL.move (.inl rfl) rfl) ?_
      refine .x rfl (unmet rfl rfl rfl (notF g5)) ?_
      refine .x rfl (unmet rfl rfl rfl (notF g5)) ?_
      refine .x rfl (unmet rfl rfl rfl (notF g5)) ?_
      refine .x rfl (unmet rfl rfl rfl (notF g5)) ?_
      refine .v rfl rfl (O.pickT (notF g5) rfl rfl rfl) ?_
      refine .nil ?_
      exact toN (Gives.mkR [] (.c rfl (.rfl _) rfl (.c rfl (sbb (by simp only [g5, Bool.true_or, Bool.or_true, Bool.false_or, Bool.or_false, Bool.true_and, Bool.and_true, Bool.false_and, Bool.and_false, Bool.not_true, Bool.not_false, cond_true, cond_false])) rfl .n)) (.c rfl (.rfl _) rfl rfl .n) rfl rfl rfl)

noncomputable def accrue_Check.b0 (x0 : List api_Reset) (v13 : Int) : Option (Int ⊕ (Int ⊕ Unit)) :=
  if (decide (v13 < (List.length x0 : Int))) = true then
    if (0 : Int) ≤ v13 ∧ v13 < (List.length x0 : Int) then
    (calendar_Good.f ((nth x0 v13).Day)).bind fun t40 =>
    if ((!t40) = false ∧ (decide (v13 > 0)) = true → (0 : Int) ≤ (IntKind.wrap .i64 (v13 - 1)) ∧ (IntKind.wrap .i64 (v13 - 1)) < (List.length x0 : Int)) then
    if ((!t40) || ((decide (v13 > 0)) && (decide (((nth x0 v13).Day) ≤ ((nth x0 (IntKind.wrap .i64 (v13 - 1))).Day))))) = true then
      some (.inr (.inl 10))
    else
      if ((decide (((nth x0 v13).Rate) < (-1000000))) || (decide (((nth x0 v13).Rate) > 1000000))) = true then
        some (.inr (.inl 1))
      else
        some (.inl (IntKind.wrap .i64 (v13 + 1)))
    else none
    else none
  else
    some (.inr (.inr ()))
noncomputable def accrue_Check.r0 (x0 : List api_Reset) (s : Int) : Option (Int ⊕ (Int ⊕ Unit)) := accrue_Check.b0 x0 s
noncomputable def accrue_Check.f (x0 : List api_Reset) : Option (Int) :=
  if ((List.length x0 : Int) == 0) = true then
    some 6
  else
    if (decide ((List.length x0 : Int) > 64)) = true then
      some 2
    else
      (loop (accrue_Check.r0 x0) 0).bind fun o35 =>
      match o35 with
      | .inl r48 => some r48
      | .inr w34 =>
        some 0
set_option maxRecDepth 100000 in
set_option maxHeartbeats 4000000 in
theorem accrue_Check.ok {x0 : List api_Reset} {r : Int} (h : accrue_Check.f x0 = some r) : Pm.Spec prog 38 [.imm (.row 2 (List.map api_Reset.enc x0))] (.imm (.val (.int .i64 r))) [none] := by
  unfold accrue_Check.f at h
  refine Pm.Spec.of_body Try.func38 rfl (by kernel_rfl) (Nat.le_of_ble_eq_true rfl) (Nat.le_of_ble_eq_true rfl) ?_
  refine W.ghost (σ' := (mkSt [(0, some (.imm (.row 2 (List.map api_Reset.enc x0))))] [] 1000)) (Gives.entry (.c rfl .n) .n) ?_
  refine W.seq ?_
  refine W.pk ?_
  refine .v rfl rfl (OpL.move (.inr rfl) rfl) ?_
  refine .nil ?_
  refine W.seq ?_
  refine W.block ?_
  refine W.seq ?_
  refine W.pk ?_
  refine .v rfl rfl (OpL.move (.inl rfl) rfl) ?_
  refine .v rfl rfl (O.lenR sl24 rfl rfl) ?_
  refine .v rfl rfl (OpL.binI rfl rfl rfl rfl) ?_
  refine .v rfl rfl (OpL.move (.inr rfl) rfl) ?_
  refine .nil ?_
  refine W.cond rfl (fun q1 => ?_) (fun q1 => ?_)
  · have h := ifT q1 h
    refine W.seq ?_
    refine W.pk ?_
    refine .v rfl rfl (OpL.move (.inr rfl) rfl) ?_
    refine .nil ?_
    refine W.ret ?_
    cases h
    exact leaves (.inr rfl) rfl (.imm _) (cN .nil) rfl rfl
  · have h := ifF q1 h
    refine W.seq ?_
    refine W.pk ?_
    refine .v rfl rfl (OpL.move (.inl rfl) rfl) ?_
    refine .v rfl rfl (O.lenR sl24 rfl rfl) ?_
    refine .v rfl rfl (OpL.binI rfl rfl rfl rfl) ?_
    refine .v rfl rfl (OpL.move (.inr rfl) rfl) ?_
    refine .nil ?_
    refine W.cond rfl (fun q2 => ?_) (fun q2 => ?_)
    · have h := ifT q2 h
      refine W.seq ?_
      refine W.pk ?_
      refine .v rfl rfl (OpL.move (.inr rfl) rfl) ?_
      refine .nil ?_
      refine W.ret ?_
      cases h
      exact leaves (.inr rfl) rfl (.imm _) (cN .nil) rfl rfl
    · have h := ifF q2 h
      refine W.skip ?_
      refine W.seq ?_
      refine W.seq ?_
      refine W.pk ?_
      refine .v rfl rfl (OpL.move (.inl rfl) rfl) ?_
      refine .v rfl rfl (O.lenR sl24 rfl rfl) ?_
      refine .v rfl rfl (OpL.move (.inl rfl) rfl) ?_
      refine .nil ?_
      obtain ⟨o35, b36, z37⟩ := bnd1 h
      refine W.fork2 (out := o35) (fun (w34 : Unit) => mkSt [] [] 1000) ?_ ?_
      · clear h
        refine W.block ?_
        refine W.loopF (fun (s_ : Int) => mkSt [(0, some (.imm (.row 2 (List.map api_Reset.enc x0)))), (13, some (.imm (.row 2 (List.map api_Reset.enc x0)))), (14, some (.i (List.length x0 : Int))), (15, some (.i s_))] [] 1000) b36 (Gives.mkR [] (.c rfl (.rfl _) rfl (.c rfl (.rfl _) rfl (.c rfl (.rfl _) rfl (.c rfl (.rfl _) rfl .n)))) .n rfl rfl rfl) ?_
        rintro v13 s_ hr
        have h : accrue_Check.b0 x0 v13 = some s_ := hr
        unfold accrue_Check.b0 at h
        refine W.seq ?_
        refine W.pk ?_
        refine .v rfl rfl (OpL.binI rfl rfl rfl rfl) ?_
        refine .nil ?_
        refine W.seq ?_
        refine W.cond rfl (fun q38 => ?_) (fun q38 => ?_)
        · have h := ifT q38 h
          refine W.skip ?_
          refine W.seq ?_
          refine W.block ?_
          refine W.seq ?_
          obtain ⟨c39, h⟩ := chk h
          refine W.pk ?_
          refine .v rfl rfl (OpL.move (.inl rfl) rfl) ?_
          refine .v rfl rfl (O.idx sl24 c39 rfl rfl rfl) ?_
          refine .v rfl rfl (O.ldN ty60 rfl rfl rfl) ?_
          refine .t rfl rfl (O.alloc z60 rfl) ?_
          refine .v rfl rfl (OpL.move (.inr rfl) rfl) ?_
          refine .s rfl rfl (O.st ty60 rfl rfl rfl rfl rfl rfl rfl rfl rfl rfl (all' := [.i ((nth x0 v13).Day), .i ((nth x0 v13).Rate)]) rfl) ?_
          refine .nil ?_
          refine W.block ?_
          refine W.seq ?_
          obtain ⟨t40, b41, h⟩ := bnd1 h
          obtain ⟨c42, h⟩ := chk h
          refine W.fork (mkSt [(0, some (.imm (.row 2 (List.map api_Reset.enc x0)))), (4, some (.ptr 1000 0)), (13, some (.imm (.row 2 (List.map api_Reset.enc x0)))), (14, some (.i (List.length x0 : Int))), (15, some (.i v13)), (20, some (.b ((!t40) || ((decide (v13 > 0)) && (decide (((nth x0 v13).Day) ≤ ((nth x0 (IntKind.wrap .i64 (v13 - 1))).Day)))))))] [(1000, some (.box [.i ((nth x0 v13).Day), .i ((nth x0 v13).Rate)]))] 1001) ?_ ?_
          · refine W.cond rfl (fun q45 => ?_) (fun q45 => ?_)
            · have h := ifT q45 h
              refine W.seq ?_
              refine W.pk ?_
              refine .v rfl rfl (OpL.move (.inr rfl) rfl) ?_
              refine .nil ?_
              refine W.ret ?_
              cases h
              refine rdR fun e_ => ?_
              subst e_
              have h := z37
              dsimp only at h
              refine fkR ?_
              cases h
              exact leaves (.inr rfl) rfl (.imm _) (cN .nil) rfl rfl
            · have h := ifF q45 h
              refine W.seq ?_
              refine W.fork (mkSt [(0, some (.imm (.row 2 (List.map api_Reset.enc x0)))), (13, some (.imm (.row 2 (List.map api_Reset.enc x0)))), (14, some (.i (List.length x0 : Int))), (15, some (.i v13)), (40, some (.b ((decide (((nth x0 v13).Rate) < (-1000000))) || (decide (((nth x0 v13).Rate) > 1000000)))))] [] 1001) ?_ ?_
              · refine W.cond rfl (fun q47 => ?_) (fun q47 => ?_)
                · have h := ifT q47 h
                  refine W.seq ?_
                  refine W.pk ?_
                  refine .v rfl rfl (OpL.move (.inr rfl) rfl) ?_
                  refine .nil ?_
                  refine W.ret ?_
                  cases h
                  refine rdR fun e_ => ?_
                  subst e_
                  have h := z37
                  dsimp only at h
                  refine fkR ?_
                  cases h
                  exact leaves (.inr rfl) rfl (.imm _) (cN .nil) rfl rfl
                · have h := ifF q47 h
                  refine W.skip ?_
                  refine W.pk ?_
                  refine .v rfl rfl (OpL.binI rfl rfl rfl rfl) ?_
                  refine .v rfl rfl (OpL.move (.inl rfl) rfl) ?_
                  refine .nil ?_
                  cases h
                  exact rdN (Gives.mkR [] (.c rfl (.rfl _) rfl (.c rfl (.rfl _) rfl (.c rfl (.rfl _) rfl (.c rfl (.rfl _) rfl .n)))) .n rfl rfl rfl)
              · clear h
                rcases tf (decide (((nth x0 v13).Rate) < (-1000000))) with g46 | g46
                · refine W.pk ?_
                  refine .v rfl rfl (O.fld fld60_1 rfl rfl rfl) ?_
                  refine .v rfl rfl (O.ld (y := .i ((nth x0 v13).Rate)) ty3 rfl rfl rfl) ?_
                  refine .v rfl rfl (OpL.binI rfl rfl rfl rfl) ?_
                  refine .v rfl rfl (OpL.move (.inl rfl) rfl) ?_
                  refine .x rfl (unmet rfl rfl rfl g46) ?_
                  refine .x rfl (unmet rfl rfl rfl g46) ?_
                  refine .x rfl (unmet rfl rfl rfl g46) ?_
                  refine .v rfl rfl (O.pickT g46 rfl rfl rfl) ?_
                  refine .v rfl rfl (OpL.move (.inr rfl) rfl) ?_
                  refine .nil ?_
                  exact toN (Gives.mkR [] (.c rfl (.rfl _) rfl (.c rfl (.rfl _) rfl (.c rfl (.rfl _) rfl (.c rfl (.rfl _) rfl (.c rfl (sbb (by simp only [g46, Bool.true_or, Bool.or_true, Bool.false_or, Bool.or_false, Bool.true_and, Bool.and_true, Bool.false_and, Bool.and_false, Bool.not_true, Bool.not_false, cond_true, cond_false])) rfl .n))))) .n rfl rfl rfl)
                · refine W.pk ?_
                  refine .v rfl rfl (O.fld fld60_1 rfl rfl rfl) ?_
                  refine .v rfl rfl (O.ld (y := .i ((nth x0 v13).Rate)) ty3 rfl rfl rfl) ?_
                  refine .v rfl rfl (OpL.binI rfl rfl rfl rfl) ?_
                  refine .v rfl rfl (OpL.move (.inl rfl) rfl) ?_
                  refine .v rfl (met rfl rfl rfl g46) (O.fld fld60_1 rfl rfl rfl) ?_
                  refine .v rfl (met rfl rfl rfl g46) (O.ld (y := .i ((nth x0 v13).Rate)) ty3 rfl rfl rfl) ?_
                  refine .v rfl (met rfl rfl rfl g46) (OpL.binI rfl rfl rfl rfl) ?_
                  refine .v rfl rfl (O.pickF g46 rfl rfl rfl) ?_
                  refine .v rfl rfl (OpL.move (.inr rfl) rfl) ?_
                  refine .nil ?_
                  exact toN (Gives.mkR [] (.c rfl (.rfl _) rfl (.c rfl (.rfl _) rfl (.c rfl (.rfl _) rfl (.c rfl (.rfl _) rfl (.c rfl (sbb (by simp only [g46, Bool.true_or, Bool.or_true, Bool.false_or, Bool.or_false, Bool.true_and, Bool.and_true, Bool.false_and, Bool.and_false, Bool.not_true, Bool.not_false, cond_true, cond_false])) rfl .n))))) .n rfl rfl rfl)
          · clear h
            rcases tf t40 with g43 | g43
            · rcases tf (decide (v13 > 0)) with g44 | g44
              · refine W.dk [[], [0], [0, 1], [0, 1, 2], [0, 1, 2, 3], [0, 1, 2, 3, 4], [0, 1, 2, 3, 4, 5], [0, 1, 2, 3, 4, 5, 6], [0, 1, 2, 3, 4, 5, 6, 7], [0, 1, 2, 3, 4, 5, 6, 7, 8], [0, 1, 2, 3, 4, 5, 6, 7], [0, 1, 2, 3, 4, 5, 6, 7], [0, 1, 2, 3, 4, 5, 6, 7, 11], [0, 1, 2, 3, 4, 5, 6, 7, 10, 11, 12], [0, 1, 2, 3, 4, 5, 6, 7, 10, 11, 12, 13], [0, 1, 2, 3, 4, 5, 6, 7, 10, 11, 12, 13, 14], [0, 1, 2, 3, 4, 5, 6, 7, 8, 9, 10, 11, 12, 13, 14, 15], [0, 1, 2, 3, 4, 5, 6, 7, 8, 9, 10, 11, 12, 13, 14, 15, 16], [0, 1, 2, 3, 4, 5, 6, 7, 8, 9, 10, 11, 12, 13, 14, 15, 16, 17], [0, 1, 2, 3, 4, 5, 6, 7, 8, 9, 10, 11, 12, 13, 14, 15, 16, 17, 18]] rfl (by kernel_rfl) ?_
                refine .v rfl rfl (O.fld fld60_0 rfl rfl rfl) ?_
                refine .v rfl rfl (O.ld (y := .i ((nth x0 v13).Day)) ty3 rfl rfl rfl) ?_
                refine .call (.b t40) [] 0 (calendar_Good.ok b41) rfl rfl rfl ca35 rfl rfl (cC (.imm _) .nil) rfl rfl rfl rfl rfl ?_
                refine .v rfl rfl (OpL.unV rfl rfl rfl) ?_
                refine .v rfl rfl (OpL.move (.inl rfl) rfl) ?_
                refine .v rfl (met rfl rfl rfl (notT g43)) (OpL.move (.inl rfl) rfl) ?_
                refine .v rfl (met rfl rfl rfl (notT g43)) (OpL.binI rfl rfl rfl rfl) ?_
                refine .v rfl (met rfl rfl rfl (notT g43)) (OpL.move (.inl rfl) rfl) ?_
                refine .v rfl (met rfl rfl rfl g44) (O.fld fld60_0 rfl rfl rfl) ?_
                refine .v rfl (met rfl rfl rfl g44) (O.ld (y := .i ((nth x0 v13).Day)) ty3 rfl rfl rfl) ?_
                refine .v rfl (met rfl rfl rfl g44) (OpL.move (.inl rfl) rfl) ?_
                refine .v rfl (met rfl rfl rfl g44) (OpL.move (.inl rfl) rfl) ?_
                refine .v rfl (met rfl rfl rfl g44) (OpL.binI rfl rfl rfl rfl) ?_
                refine .v rfl (met rfl rfl rfl g44) (O.idx sl24 (c42 ⟨(by first | (simp only [g43, g44, Bool.true_or, Bool.or_true, Bool.false_or, Bool.or_false, Bool.true_and, Bool.and_true, Bool.false_and, Bool.and_false, Bool.not_true, Bool.not_false, cond_true, cond_false]; done) | (repeat (first | rw [g43] | rw [g44])) <;> simp only [Bool.true_or, Bool.or_true, Bool.false_or, Bool.or_false, Bool.true_and, Bool.and_true, Bool.false_and, Bool.and_false, Bool.not_true, Bool.not_false, cond_true, cond_false]), (by first | (simp only [g43, g44, Bool.true_or, Bool.or_true, Bool.false_or, Bool.or_false, Bool.true_and, Bool.and_true, Bool.false_and, Bool.and_false, Bool.not_true, Bool.not_false, cond_true, cond_false]; done) | (repeat (first | rw [g43] | rw [g44])) <;> simp only [Bool.true_or, Bool.or_true, Bool.false_or, Bool.or_false, Bool.true_and, Bool.and_true, Bool.false_and, Bool.and_false, Bool.not_true, Bool.not_false, cond_true, cond_false])⟩) rfl rfl rfl) ?_
                refine .v rfl (met rfl rfl rfl g44) (O.fld fld60_0 rfl rfl rfl) ?_
                refine .v rfl (met rfl rfl rfl g44) (O.ld (y := .i ((nth x0 (IntKind.wrap .i64 (v13 - 1))).Day)) ty3 rfl rfl rfl) ?_
                refine .v rfl (met rfl rfl rfl g44) (OpL.binI rfl rfl rfl rfl) ?_
                refine .v rfl (met rfl rfl rfl (notT g43)) (O.pickT g44 rfl rfl rfl) ?_
                refine .v rfl rfl (O.pickF (notT g43) rfl rfl rfl) ?_
                refine .v rfl rfl (OpL.move (.inr rfl) rfl) ?_
                refine .nil ?_
                refine ⟨by kernel_rfl, by kernel_rfl, ?_⟩
                exact toN (Gives.mkR [] (.c rfl (.rfl _) rfl (.c rfl (.rfl _) rfl (.c rfl (.rfl _) rfl (.c rfl (.rfl _) rfl (.c rfl (.rfl _) rfl (.c rfl (sbb (by first | (simp only [g43, g44, Bool.true_or, Bool.or_true, Bool.false_or, Bool.or_false, Bool.true_and, Bool.and_true, Bool.false_and, Bool.and_false, Bool.not_true, Bool.not_false, cond_true, cond_false]; done) | (repeat (first | rw [g43] | rw [g44])) <;> simp only [Bool.true_or, Bool.or_true, Bool.false_or, Bool.or_false, Bool.true_and, Bool.and_true, Bool.false_and, Bool.and_false, Bool.not_true, Bool.not_false, cond_true, cond_false])) rfl .n)))))) (.c rfl (.rfl _) rfl rfl .n) rfl rfl rfl)
              · refine W.dk [[], [0], [0, 1], [0, 1, 2], [0, 1, 2, 3], [0, 1, 2, 3, 4], [0, 1, 2, 3, 4, 5], [0, 1, 2, 3, 4, 5, 6], [0, 1, 2, 3, 4, 5, 6, 7], [0, 1, 2, 3, 4, 5, 6, 7, 8], [0, 1, 2, 3, 4, 5, 6, 7], [0, 1, 2, 3, 4, 5, 6, 7], [0, 1, 2, 3, 4, 5, 6, 7, 11], [0, 1, 2, 3, 4, 5, 6, 7, 10, 11, 12], [0, 1, 2, 3, 4, 5, 6, 7, 10, 11, 12, 13], [0, 1, 2, 3, 4, 5, 6, 7, 10, 11, 12, 13, 14], [0, 1, 2, 3, 4, 5, 6, 7, 8, 9, 10, 11, 12, 13, 14, 15], [0, 1, 2, 3, 4, 5, 6, 7, 8, 9, 10, 11, 12, 13, 14, 15, 16], [0, 1, 2, 3, 4, 5, 6, 7, 8, 9, 10, 11, 12, 13, 14, 15, 16, 17], [0, 1, 2, 3, 4, 5, 6, 7, 8, 9, 10, 11, 12, 13, 14, 15, 16, 17, 18]] rfl (by kernel_rfl) ?_
                refine .v rfl rfl (O.fld fld60_0 rfl rfl rfl) ?_
                refine .v rfl rfl (O.ld (y := .i ((nth x0 v13).Day)) ty3 rfl rfl rfl) ?_
                refine .call (.b t40) [] 0 (calendar_Good.ok b41) rfl rfl rfl ca35 rfl rfl (cC (.imm _) .nil) rfl rfl rfl rfl rfl ?_
                refine .v rfl rfl (OpL.unV rfl rfl rfl) ?_
                refine .v rfl rfl (OpL.move (.inl rfl) rfl) ?_
                refine .v rfl (met rfl rfl rfl (notT g43)) (OpL.move (.inl rfl) rfl) ?_
                refine .v rfl (met rfl rfl rfl (notT g43)) (OpL.binI rfl rfl rfl rfl) ?_
                refine .v rfl (met rfl rfl rfl (notT g43)) (OpL.move (.inl rfl) rfl) ?_
                refine .x rfl (unmet rfl rfl rfl g44) ?_
                refine .x rfl (unmet rfl rfl rfl g44) ?_
                refine .x rfl (unmet rfl rfl rfl g44) ?_
                refine .x rfl (unmet rfl rfl rfl g44) ?_
                refine .x rfl (unmet rfl rfl rfl g44) ?_
                refine .x rfl (unmet rfl rfl rfl g44) ?_
                refine .x rfl (unmet rfl rfl rfl g44) ?_
                refine .x rfl (unmet rfl rfl rfl g44) ?_
                refine .x rfl (unmet rfl rfl rfl g44) ?_
                refine .v rfl (met rfl rfl rfl (notT g43)) (O.pickF g44 rfl rfl rfl) ?_
                refine .v rfl rfl (O.pickF (notT g43) rfl rfl rfl) ?_
                refine .v rfl rfl (OpL.move (.inr rfl) rfl) ?_
                refine .nil ?_
                refine ⟨by kernel_rfl, by kernel_rfl, ?_⟩
                exact toN (Gives.mkR [] (.c rfl (.rfl _) rfl (.c rfl (.rfl _) rfl (.c rfl (.rfl _) rfl (.c rfl (.rfl _) rfl (.c rfl (.rfl _) rfl (.c rfl (sbb (by first | (simp only [g43, g44, Bool.true_or, Bool.or_true, Bool.false_or, Bool.or_false, Bool.true_and, Bool.and_true, Bool.false_and, Bool.and_false, Bool.not_true, Bool.not_false, cond_true, cond_false]; done) | (repeat (first | rw [g43] | rw [g44])) <;> simp only [Bool.true_or, Bool.or_true, Bool.false_or, Bool.or_false, Bool.true_and, Bool.and_true, Bool.false_and, Bool.and_false, Bool.not_true, Bool.not_false, cond_true, cond_false])) rfl .n)))))) (.c rfl (.rfl _) rfl rfl .n) rfl rfl rfl)
            · refine W.dk [[], [0], [0, 1], [0, 1, 2], [0, 1, 2, 3], [0, 1, 2, 3, 4], [0, 1, 2, 3, 4, 5], [0, 1, 2, 3, 4, 5, 6], [0, 1, 2, 3, 4, 5, 6, 7], [0, 1, 2, 3, 4, 5, 6, 7, 8], [0, 1, 2, 3, 4, 5, 6, 7], [0, 1, 2, 3, 4, 5, 6, 7], [0, 1, 2, 3, 4, 5, 6, 7, 11], [0, 1, 2, 3, 4, 5, 6, 7, 10, 11, 12], [0, 1, 2, 3, 4, 5, 6, 7, 10, 11, 12, 13], [0, 1, 2, 3, 4, 5, 6, 7, 10, 11, 12, 13, 14], [0, 1, 2, 3, 4, 5, 6, 7, 8, 9, 10, 11, 12, 13, 14, 15], [0, 1, 2, 3, 4, 5, 6, 7, 8, 9, 10, 11, 12, 13, 14, 15, 16], [0, 1, 2, 3, 4, 5, 6, 7, 8, 9, 10, 11, 12, 13, 14, 15, 16, 17], [0, 1, 2, 3, 4, 5, 6, 7, 8, 9, 10, 11, 12, 13, 14, 15, 16, 17, 18]] rfl (by kernel_rfl) ?_
              refine .v rfl rfl (O.fld fld60_0 rfl rfl rfl) ?_
              refine .v rfl rfl (O.ld (y := .i ((nth x0 v13).Day)) ty3 rfl rfl rfl) ?_
              refine .call (.b t40) [] 0 (calendar_Good.ok b41) rfl rfl rfl ca35 rfl rfl (cC (.imm _) .nil) rfl rfl rfl rfl rfl ?_
              refine .v rfl rfl (OpL.unV rfl rfl rfl) ?_
              refine .v rfl rfl (OpL.move (.inl rfl) rfl) ?_
              refine .x rfl (unmet rfl rfl rfl (notF g43)) ?_
              refine .x rfl (unmet rfl rfl rfl (notF g43)) ?_
              refine .x rfl (unmet rfl rfl rfl (notF g43)) ?_
              refine .x rfl (unmetU rfl rfl rfl) ?_
              refine .x rfl (unmetU rfl rfl rfl) ?_
              refine .x rfl (unmetU rfl rfl rfl) ?_
              refine .x rfl (unmetU rfl rfl rfl) ?_
              refine .x rfl (unmetU rfl rfl rfl) ?_
              refine .x rfl (unmetU rfl rfl rfl) ?_
              refine .x rfl (unmetU rfl rfl rfl) ?_
              refine .x rfl (unmetU rfl rfl rfl) ?_
              refine .x rfl (unmetU rfl rfl rfl) ?_
              refine .x rfl (unmet rfl rfl rfl (notF g43)) ?_
              refine .v rfl rfl (O.pickT (notF g43) rfl rfl rfl) ?_
              refine .v rfl rfl (OpL.move (.inr rfl) rfl) ?_
              refine .nil ?_
              refine ⟨by kernel_rfl, by kernel_rfl, ?_⟩
              exact toN (Gives.mkR [] (.c rfl (.rfl _) rfl (.c rfl (.rfl _) rfl (.c rfl (.rfl _) rfl (.c rfl (.rfl _) rfl (.c rfl (.rfl _) rfl (.c rfl (sbb (by simp only [g43, Bool.true_or, Bool.or_true, Bool.false_or, Bool.or_false, Bool.true_and, Bool.and_true, Bool.false_and, Bool.and_false, Bool.not_true, Bool.not_false, cond_true, cond_false])) rfl .n)))))) (.c rfl (.rfl _) rfl rfl .n) rfl rfl rfl)
        · have h := ifF q38 h
          refine W.exit ?_
          cases h
          refine rdX fun e_ => ?_
          subst e_
          repeat with_reducible refine thru ?_
          refine hit ?_
          exact fkN (Gives.mkR [] .n .n rfl rfl rfl)
      · intro w34 e_
        subst e_
        clear h
        have h := z37
        dsimp only at h
        refine W.seq ?_
        refine W.pk ?_
        refine .v rfl rfl (OpL.move (.inr rfl) rfl) ?_
        refine .nil ?_
        refine W.ret ?_
        cases h
        exact leaves (.inr rfl) rfl (.imm _) (cN .nil) rfl rfl
end Go.Proofs.Ytidinbjehfodoaa
