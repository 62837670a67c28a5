/- Shows what functions of the program come to, each as a plain function: written by a program of the author's for this claim. -/
import Derived.Test.YtlgfdldonoaahaaGx7
namespace Go.Proofs.Ytlgfdldonoaahaa
open Go Go.Pm
set_option linter.unusedVariables false
set_option linter.unusedSimpArgs false
noncomputable def lombardref23_Terms.f (x0 : api_Fill) : Option (Int) :=
  (lombardref23_in.f x0.Basket 1 64).bind fun t1 =>
  (if (!t1) = false then lombardref23_in.f x0.Amount 1 1125899906842624 else some default).bind fun t3 =>
  (if ((!t1) || (!t3)) = false then lombardref23_in.f x0.Rate (-1000000) 1000000 else some default).bind fun t5 =>
  if (((!t1) || (!t3)) || (!t5)) = true then
    some 1
  else
    (lombardref02_Good.f x0.Start).bind fun t10 =>
    (if (!t10) = false ∧ (x0.End != 0) = true then lombardref02_Good.f x0.End else some default).bind fun t12 =>
    (if (!t10) = false ∧ (x0.End != 0) = true ∧ (!t12) = false then lombardref23_in.f (IntKind.wrap .i64 (x0.End - x0.Start)) 1 3660 else some default).bind fun t14 =>
    if ((!t10) || ((x0.End != 0) && ((!t12) || (!t14)))) = true then
      some 10
    else
      some 0
set_option maxRecDepth 100000 in
set_option maxHeartbeats 4000000 in
theorem lombardref23_Terms.ok {x0 : api_Fill} {r : Int} (h : lombardref23_Terms.f x0 = some r) : Pm.Spec prog 65 [.agg [.imm (.val (.int .i64 x0.Lender)), .imm (.val (.int .i64 x0.Borrower)), .imm (.val (.int .i64 x0.Basket)), .imm (.val (.int .i64 x0.Amount)), .imm (.val (.int .i64 x0.Rate)), .imm (.val (.int .i64 x0.Start)), .imm (.val (.int .i64 x0.End))]] (.imm (.val (.int .i64 r))) [none] := by
  unfold lombardref23_Terms.f at h
  refine Pm.Spec.of_body Try.func65 rfl (by kernel_rfl) (Nat.le_of_ble_eq_true rfl) (Nat.le_of_ble_eq_true rfl) ?_
  refine W.ghost (σ' := (mkSt [(0, some (.agg [.imm (.val (.int .i64 x0.Lender)), .imm (.val (.int .i64 x0.Borrower)), .imm (.val (.int .i64 x0.Basket)), .imm (.val (.int .i64 x0.Amount)), .imm (.val (.int .i64 x0.Rate)), .imm (.val (.int .i64 x0.Start)), .imm (.val (.int .i64 x0.End))]))] [] 1000)) (Gives.entry (.c rfl .n) .n) ?_
  refine W.seq ?_
  refine W.pk ?_
  refine .t rfl rfl (O.box rfl rfl rfl rfl rfl) ?_
  refine .v rfl rfl (OpL.move (.inr rfl) rfl) ?_
  refine .nil ?_
  refine W.seq ?_
  refine W.seq ?_
  obtain ⟨t1, b2, h⟩ := bnd1 h
  obtain ⟨t3, b4, h⟩ := bnd1 h
  obtain ⟨t5, b6, h⟩ := bnd1 h
  refine W.fork (mkSt [(1, some (.ptr 1000 0)), (18, some (.imm (.val (.bool (((!t1) || (!t3)) || (!t5))))))] [(1000, some (.box [.imm (.val (.int .i64 x0.Lender)), .imm (.val (.int .i64 x0.Borrower)), .imm (.val (.int .i64 x0.Basket)), .imm (.val (.int .i64 x0.Amount)), .imm (.val (.int .i64 x0.Rate)), .imm (.val (.int .i64 x0.Start)), .imm (.val (.int .i64 x0.End))]))] 1001) ?_ ?_
  · refine W.cond rfl (fun q9 => ?_) (fun q9 => ?_)
    · have h := ifT q9 h
      refine W.seq ?_
      refine W.pk ?_
      refine .v rfl rfl (OpL.move (.inr rfl) rfl) ?_
      refine .nil ?_
      refine W.ret ?_
      cases h
      exact leaves (.inr rfl) rfl (.imm _) (cN .nil) rfl rfl
    · have h := ifF q9 h
      refine W.skip ?_
      refine W.seq ?_
      refine W.seq ?_
      obtain ⟨t10, b11, h⟩ := bnd1 h
      obtain ⟨t12, b13, h⟩ := bnd1 h
      obtain ⟨t14, b15, h⟩ := bnd1 h
      refine W.fork (mkSt [(42, some (.imm (.val (.bool ((!t10) || ((x0.End != 0) && ((!t12) || (!t14))))))))] [] 1001) ?_ ?_
      · refine W.cond rfl (fun q19 => ?_) (fun q19 => ?_)
        · have h := ifT q19 h
          refine W.seq ?_
          refine W.pk ?_
          refine .v rfl rfl (OpL.move (.inr rfl) rfl) ?_
          refine .nil ?_
          refine W.ret ?_
          cases h
          exact leaves (.inr rfl) rfl (.imm _) (cN .nil) rfl rfl
        · have h := ifF q19 h
          refine W.skip ?_
          refine W.seq ?_
          refine W.pk ?_
          refine .v rfl rfl (OpL.move (.inr rfl) rfl) ?_
          refine .nil ?_
          refine W.ret ?_
          cases h
          exact leaves (.inr rfl) rfl (.imm _) (cN .nil) rfl rfl
      · clear h
        rcases tf t10 with g16 | g16
        · rcases tf (x0.End != 0) with g17 | g17
          · rcases tf t12 with g18 | g18
            · refine W.pk ?_
              refine .v rfl rfl (O.fld fld89_5 rfl rfl rfl) ?_
              refine .v rfl rfl (O.ld ty3 rfl rfl rfl) ?_
              refine .call (.imm (.val (.bool t10))) [] 0 (lombardref02_Good.ok b11) rfl rfl rfl ca36 rfl rfl (cC (.imm _) .nil) rfl rfl rfl rfl rfl ?_
              refine .v rfl rfl (OpL.unV rfl rfl rfl) ?_
              refine .v rfl rfl (OpL.move (.inl rfl) rfl) ?_
              refine .v rfl (met rfl rfl rfl (notT g16)) (O.fld fld89_6 rfl rfl rfl) ?_
              refine .v rfl (met rfl rfl rfl (notT g16)) (O.ld ty3 rfl rfl rfl) ?_
              refine .v rfl (met rfl rfl rfl (notT g16)) (OpL.binI rfl rfl rfl rfl) ?_
              refine .v rfl (met rfl rfl rfl (notT g16)) (OpL.move (.inl rfl) rfl) ?_
              refine .v rfl (met rfl rfl rfl g17) (O.fld fld89_6 rfl rfl rfl) ?_
              refine .v rfl (met rfl rfl rfl g17) (O.ld ty3 rfl rfl rfl) ?_
              refine .call (.imm (.val (.bool t12))) [] 0 (lombardref02_Good.ok ((if_pos ⟨(by simp only [g16, g17, g18, Bool.true_or, Bool.or_true, Bool.false_or, Bool.or_false, Bool.true_and, Bool.and_true, Bool.false_and, Bool.and_false, Bool.not_true, Bool.not_false, cond_true, cond_false]), (by simp only [g16, g17, g18, Bool.true_or, Bool.or_true, Bool.false_or, Bool.or_false, Bool.true_and, Bool.and_true, Bool.false_and, Bool.and_false, Bool.not_true, Bool.not_false, cond_true, cond_false])⟩).symm.trans b13)) rfl (met rfl rfl rfl g17) rfl ca36 rfl rfl (cC (.imm _) .nil) rfl rfl rfl rfl rfl ?_
              refine .v rfl (met rfl rfl rfl g17) (OpL.unV rfl rfl rfl) ?_
              refine .v rfl (met rfl rfl rfl g17) (OpL.move (.inl rfl) rfl) ?_
              refine .v rfl (met rfl rfl rfl (notT g18)) (O.fld fld89_6 rfl rfl rfl) ?_
              refine .v rfl (met rfl rfl rfl (notT g18)) (O.ld ty3 rfl rfl rfl) ?_
              refine .v rfl (met rfl rfl rfl (notT g18)) (O.fld fld89_5 rfl rfl rfl) ?_
              refine .v rfl (met rfl rfl rfl (notT g18)) (O.ld ty3 rfl rfl rfl) ?_
              refine .v rfl (met rfl rfl rfl (notT g18)) (OpL.binI rfl rfl rfl rfl) ?_
              refine .call (.imm (.val (.bool t14))) [] 0 (lombardref23_in.ok ((if_pos ⟨(by simp only [g16, g17, g18, Bool.true_or, Bool.or_true, Bool.false_or, Bool.or_false, Bool.true_and, Bool.and_true, Bool.false_and, Bool.and_false, Bool.not_true, Bool.not_false, cond_true, cond_false]), (by simp only [g16, g17, g18, Bool.true_or, Bool.or_true, Bool.false_or, Bool.or_false, Bool.true_and, Bool.and_true, Bool.false_and, Bool.and_false, Bool.not_true, Bool.not_false, cond_true, cond_false]), (by simp only [g16, g17, g18, Bool.true_or, Bool.or_true, Bool.false_or, Bool.or_false, Bool.true_and, Bool.and_true, Bool.false_and, Bool.and_false, Bool.not_true, Bool.not_false, cond_true, cond_false])⟩).symm.trans b15)) rfl (met rfl rfl rfl (notT g18)) rfl ca64 rfl rfl (cC (.imm _) (cC (.imm _) (cC (.imm _) .nil))) rfl rfl rfl rfl rfl ?_
              refine .v rfl (met rfl rfl rfl (notT g18)) (OpL.unV rfl rfl rfl) ?_
              refine .v rfl (met rfl rfl rfl g17) (O.pickF (notT g18) rfl rfl rfl) ?_
              refine .v rfl (met rfl rfl rfl (notT g16)) (O.pickT g17 rfl rfl rfl) ?_
              refine .v rfl rfl (O.pickF (notT g16) rfl rfl rfl) ?_
              refine .nil ?_
              exact toN (Gives.mkR [] (.c rfl (sbb (by simp only [g16, g17, g18, Bool.true_or, Bool.or_true, Bool.false_or, Bool.or_false, Bool.true_and, Bool.and_true, Bool.false_and, Bool.and_false, Bool.not_true, Bool.not_false, cond_true, cond_false])) rfl .n) .n rfl rfl rfl)
            · refine W.pk ?_
              refine .v rfl rfl (O.fld fld89_5 rfl rfl rfl) ?_
              refine .v rfl rfl (O.ld ty3 rfl rfl rfl) ?_
              refine .call (.imm (.val (.bool t10))) [] 0 (lombardref02_Good.ok b11) rfl rfl rfl ca36 rfl rfl (cC (.imm _) .nil) rfl rfl rfl rfl rfl ?_
              refine .v rfl rfl (OpL.unV rfl rfl rfl) ?_
              refine .v rfl rfl (OpL.move (.inl rfl) rfl) ?_
              refine .v rfl (met rfl rfl rfl (notT g16)) (O.fld fld89_6 rfl rfl rfl) ?_
              refine .v rfl (met rfl rfl rfl (notT g16)) (O.ld ty3 rfl rfl rfl) ?_
              refine .v rfl (met rfl rfl rfl (notT g16)) (OpL.binI rfl rfl rfl rfl) ?_
              refine .v rfl (met rfl rfl rfl (notT g16)) (OpL.move (.inl rfl) rfl) ?_
              refine .v rfl (met rfl rfl rfl g17) (O.fld fld89_6 rfl rfl rfl) ?_
              refine .v rfl (met rfl rfl rfl g17) (O.ld ty3 rfl rfl rfl) ?_
              refine .call (.imm (.val (.bool t12))) [] 0 (lombardref02_Good.ok ((if_pos ⟨(by simp only [g16, g17, g18, Bool.true_or, Bool.or_true, Bool.false_or, Bool.or_false, Bool.true_and, Bool.and_true, Bool.false_and, Bool.and_false, Bool.not_true, Bool.not_false, cond_true, cond_false]), (by simp only [g16, g17, g18, Bool.true_or, Bool.or_true, Bool.false_or, Bool.or_false, Bool.true_and, Bool.and_true, Bool.false_and, Bool.and_false, Bool.not_true, Bool.not_false, cond_true, cond_false])⟩).symm.trans b13)) rfl (met rfl rfl rfl g17) rfl ca36 rfl rfl (cC (.imm _) .nil) rfl rfl rfl rfl rfl ?_
              refine .v rfl (met rfl rfl rfl g17) (OpL.unV rfl rfl rfl) ?_
              refine .v rfl (met rfl rfl rfl g17) (OpL.move (.inl rfl) rfl) ?_
              refine .x rfl (unmet rfl rfl rfl (notF g18)) ?_
              refine .x rfl (unmet rfl rfl rfl (notF g18)) ?_
              refine .x rfl (unmet rfl rfl rfl (notF g18)) ?_
              refine .x rfl (unmet rfl rfl rfl (notF g18)) ?_
              refine .x rfl (unmet rfl rfl rfl (notF g18)) ?_
              refine .x rfl (unmet rfl rfl rfl (notF g18)) ?_
              refine .x rfl (unmet rfl rfl rfl (notF g18)) ?_
              refine .v rfl (met rfl rfl rfl g17) (O.pickT (notF g18) rfl rfl rfl) ?_
              refine .v rfl (met rfl rfl rfl (notT g16)) (O.pickT g17 rfl rfl rfl) ?_
              refine .v rfl rfl (O.pickF (notT g16) rfl rfl rfl) ?_
              refine .nil ?_
              exact toN (Gives.mkR [] (.c rfl (sbb (by simp only [g16, g17, g18, Bool.true_or, Bool.or_true, Bool.false_or, Bool.or_false, Bool.true_and, Bool.and_true, Bool.false_and, Bool.and_false, Bool.not_true, Bool.not_false, cond_true, cond_false])) rfl .n) .n rfl rfl rfl)
          · refine W.pk ?_
            refine .v rfl rfl (O.fld fld89_5 rfl rfl rfl) ?_
            refine .v rfl rfl (O.ld ty3 rfl rfl rfl) ?_
            refine .call (.imm (.val (.bool t10))) [] 0 (lombardref02_Good.ok b11) rfl rfl rfl ca36 rfl rfl (cC (.imm _) .nil) rfl rfl rfl rfl rfl ?_
            refine .v rfl rfl (OpL.unV rfl rfl rfl) ?_
            refine .v rfl rfl (OpL.move (.inl rfl) rfl) ?_
            refine .v rfl (met rfl rfl rfl (notT g16)) (O.fld fld89_6 rfl rfl rfl) ?_
            refine .v rfl (met rfl rfl rfl (notT g16)) (O.ld ty3 rfl rfl rfl) ?_
            refine .v rfl (met rfl rfl rfl (notT g16)) (OpL.binI rfl rfl rfl rfl) ?_
            refine .v rfl (met rfl rfl rfl (notT g16)) (OpL.move (.inl rfl) rfl) ?_
            refine .x rfl (unmet rfl rfl rfl g17) ?_
            refine .x rfl (unmet rfl rfl rfl g17) ?_
            refine .x rfl (unmet rfl rfl rfl g17) ?_
            refine .x rfl (unmet rfl rfl rfl g17) ?_
            refine .x rfl (unmet rfl rfl rfl g17) ?_
            refine .x rfl (unmetU rfl rfl rfl) ?_
            refine .x rfl (unmetU rfl rfl rfl) ?_
            refine .x rfl (unmetU rfl rfl rfl) ?_
            refine .x rfl (unmetU rfl rfl rfl) ?_
            refine .x rfl (unmetU rfl rfl rfl) ?_
            refine .x rfl (unmetU rfl rfl rfl) ?_
            refine .x rfl (unmetU rfl rfl rfl) ?_
            refine .x rfl (unmet rfl rfl rfl g17) ?_
            refine .v rfl (met rfl rfl rfl (notT g16)) (O.pickF g17 rfl rfl rfl) ?_
            refine .v rfl rfl (O.pickF (notT g16) rfl rfl rfl) ?_
            refine .nil ?_
            exact toN (Gives.mkR [] (.c rfl (sbb (by simp only [g16, g17, Bool.true_or, Bool.or_true, Bool.false_or, Bool.or_false, Bool.true_and, Bool.and_true, Bool.false_and, Bool.and_false, Bool.not_true, Bool.not_false, cond_true, cond_false])) rfl .n) .n rfl rfl rfl)
        · refine W.pk ?_
          refine .v rfl rfl (O.fld fld89_5 rfl rfl rfl) ?_
          refine .v rfl rfl (O.ld ty3 rfl rfl rfl) ?_
          refine .call (.imm (.val (.bool t10))) [] 0 (lombardref02_Good.ok b11) rfl rfl rfl ca36 rfl rfl (cC (.imm _) .nil) rfl rfl rfl rfl rfl ?_
          refine .v rfl rfl (OpL.unV rfl rfl rfl) ?_
          refine .v rfl rfl (OpL.move (.inl rfl) rfl) ?_
          refine .x rfl (unmet rfl rfl rfl (notF g16)) ?_
          refine .x rfl (unmet rfl rfl rfl (notF g16)) ?_
          refine .x rfl (unmet rfl rfl rfl (notF g16)) ?_
          refine .x rfl (unmet rfl rfl rfl (notF g16)) ?_
          refine .x rfl (unmetU rfl rfl rfl) ?_
          refine .x rfl (unmetU rfl rfl rfl) ?_
          refine .x rfl (unmetU rfl rfl rfl) ?_
          refine .x rfl (unmetU rfl rfl rfl) ?_
          refine .x rfl (unmetU rfl rfl rfl) ?_
          refine .x rfl (unmetU rfl rfl rfl) ?_
          refine .x rfl (unmetU rfl rfl rfl) ?_
          refine .x rfl (unmetU rfl rfl rfl) ?_
          refine .x rfl (unmetU rfl rfl rfl) ?_
          refine .x rfl (unmetU rfl rfl rfl) ?_
          refine .x rfl (unmetU rfl rfl rfl) ?_
          refine .x rfl (unmetU rfl rfl rfl) ?_
          refine .x rfl (unmetU rfl rfl rfl) ?_
          refine .x rfl (unmet rfl rfl rfl (notF g16)) ?_
          refine .v rfl rfl (O.pickT (notF g16) rfl rfl rfl) ?_
          refine .nil ?_
          exact toN (Gives.mkR [] (.c rfl (sbb (by simp only [g16, Bool.true_or, Bool.or_true, Bool.false_or, Bool.or_false, Bool.true_and, Bool.and_true, Bool.false_and, Bool.and_false, Bool.not_true, Bool.not_false, cond_true, cond_false])) rfl .n) .n rfl rfl rfl)
  · clear h
    rcases tf t1 with g7 | g7
    · rcases tf t3 with g8 | g8
      · refine W.pk ?_
        refine .v rfl rfl (O.fld fld89_2 rfl rfl rfl) ?_
        refine .v rfl rfl (O.ld ty3 rfl rfl rfl) ?_
        refine .call (.imm (.val (.bool t1))) [] 0 (lombardref23_in.ok b2) rfl rfl rfl ca64 rfl rfl (cC (.imm _) (cC (.imm _) (cC (.imm _) .nil))) rfl rfl rfl rfl rfl ?_
        refine .v rfl rfl (OpL.unV rfl rfl rfl) ?_
        refine .v rfl rfl (OpL.move (.inl rfl) rfl) ?_
        refine .v rfl (met rfl rfl rfl (notT g7)) (O.fld fld89_3 rfl rfl rfl) ?_
        refine .v rfl (met rfl rfl rfl (notT g7)) (O.ld ty3 rfl rfl rfl) ?_
        refine .call (.imm (.val (.bool t3))) [] 0 (lombardref23_in.ok ((if_pos (by simp only [g7, g8, Bool.true_or, Bool.or_true, Bool.false_or, Bool.or_false, Bool.true_and, Bool.and_true, Bool.false_and, Bool.and_false, Bool.not_true, Bool.not_false, cond_true, cond_false])).symm.trans b4)) rfl (met rfl rfl rfl (notT g7)) rfl ca64 rfl rfl (cC (.imm _) (cC (.imm _) (cC (.imm _) .nil))) rfl rfl rfl rfl rfl ?_
        refine .v rfl (met rfl rfl rfl (notT g7)) (OpL.unV rfl rfl rfl) ?_
        refine .v rfl rfl (O.pickF (notT g7) rfl rfl rfl) ?_
        refine .v rfl rfl (OpL.move (.inl rfl) rfl) ?_
        refine .v rfl (met rfl rfl rfl (notT g8)) (O.fld fld89_4 rfl rfl rfl) ?_
        refine .v rfl (met rfl rfl rfl (notT g8)) (O.ld ty3 rfl rfl rfl) ?_
        refine .call (.imm (.val (.bool t5))) [] 0 (lombardref23_in.ok ((if_pos (by simp only [g7, g8, Bool.true_or, Bool.or_true, Bool.false_or, Bool.or_false, Bool.true_and, Bool.and_true, Bool.false_and, Bool.and_false, Bool.not_true, Bool.not_false, cond_true, cond_false])).symm.trans b6)) rfl (met rfl rfl rfl (notT g8)) rfl ca64 rfl rfl (cC (.imm _) (cC (.imm _) (cC (.imm _) .nil))) rfl rfl rfl rfl rfl ?_
        refine .v rfl (met rfl rfl rfl (notT g8)) (OpL.unV rfl rfl rfl) ?_
        refine .v rfl rfl (O.pickF (notT g8) rfl rfl rfl) ?_
        refine .nil ?_
        exact toN (Gives.mkR [] (.c rfl (.rfl _) rfl (.c rfl (sbb (by simp only [g7, g8, Bool.true_or, Bool.or_true, Bool.false_or, Bool.or_false, Bool.true_and, Bool.and_true, Bool.false_and, Bool.and_false, Bool.not_true, Bool.not_false, cond_true, cond_false])) rfl .n)) (.c rfl (.rfl _) rfl rfl .n) rfl rfl rfl)
      · refine W.pk ?_
        refine .v rfl rfl (O.fld fld89_2 rfl rfl rfl) ?_
        refine .v rfl rfl (O.ld ty3 rfl rfl rfl) ?_
        refine .call (.imm (.val (.bool t1))) [] 0 (lombardref23_in.ok b2) rfl rfl rfl ca64 rfl rfl (cC (.imm _) (cC (.imm _) (cC (.imm _) .nil))) rfl rfl rfl rfl rfl ?_
        refine .v rfl rfl (OpL.unV rfl rfl rfl) ?_
        refine .v rfl rfl (OpL.move (.inl rfl) rfl) ?_
        refine .v rfl (met rfl rfl rfl (notT g7)) (O.fld fld89_3 rfl rfl rfl) ?_
        refine .v rfl (met rfl rfl rfl (notT g7)) (O.ld ty3 rfl rfl rfl) ?_
        refine .call (.imm (.val (.bool t3))) [] 0 (lombardref23_in.ok ((if_pos (by simp only [g7, g8, Bool.true_or, Bool.or_true, Bool.false_or, Bool.or_false, Bool.true_and, Bool.and_true, Bool.false_and, Bool.and_false, Bool.not_true, Bool.not_false, cond_true, cond_false])).symm.trans b4)) rfl (met rfl rfl rfl (notT g7)) rfl ca64 rfl rfl (cC (.imm _) (cC (.imm _) (cC (.imm _) .nil))) rfl rfl rfl rfl rfl ?_
        refine .v rfl (met rfl rfl rfl (notT g7)) (OpL.unV rfl rfl rfl) ?_
        refine .v rfl rfl (O.pickF (notT g7) rfl rfl rfl) ?_
        refine .v rfl rfl (OpL.move (.inl rfl) rfl) ?_
        refine .x rfl (unmet rfl rfl rfl (notF g8)) ?_
        refine .x rfl (unmet rfl rfl rfl (notF g8)) ?_
        refine .x rfl (unmet rfl rfl rfl (notF g8)) ?_
        refine .x rfl (unmet rfl rfl rfl (notF g8)) ?_
        refine .v rfl rfl (O.pickT (notF g8) rfl rfl rfl) ?_
        refine .nil ?_
        exact toN (Gives.mkR [] (.c rfl (.rfl _) rfl (.c rfl (sbb (by simp only [g7, g8, Bool.true_or, Bool.or_true, Bool.false_or, Bool.or_false, Bool.true_and, Bool.and_true, Bool.false_and, Bool.and_false, Bool.not_true, Bool.not_false, cond_true, cond_false])) rfl .n)) (.c rfl (.rfl _) rfl rfl .n) rfl rfl rfl)
    · refine W.pk ?_
      refine .v rfl rfl (O.fld fld89_2 rfl rfl rfl) ?_
      refine .v rfl rfl (O.ld ty3 rfl rfl rfl) ?_
      refine .call (.imm (.val (.bool t1))) [] 0 (lombardref23_in.ok b2) rfl rfl rfl ca64 rfl rfl (cC (.imm _) (cC (.imm _) (cC (.imm _) .nil))) rfl rfl rfl rfl rfl ?_
      refine .v rfl rfl (OpL.unV rfl rfl rfl) ?_
      refine .v rfl rfl (OpL.move (.inl rfl) rfl) ?_
      refine .x rfl (unmet rfl rfl rfl (notF g7)) ?_
      refine .x rfl (unmet rfl rfl rfl (notF g7)) ?_
      refine .x rfl (unmet rfl rfl rfl (notF g7)) ?_
      refine .x rfl (unmet rfl rfl rfl (notF g7)) ?_
      refine .v rfl rfl (O.pickT (notF g7) rfl rfl rfl) ?_
      refine .v rfl rfl (OpL.move (.inl rfl) rfl) ?_
      refine .x rfl (unmet rfl rfl rfl rfl) ?_
      refine .x rfl (unmet rfl rfl rfl rfl) ?_
      refine .x rfl (unmet rfl rfl rfl rfl) ?_
      refine .x rfl (unmet rfl rfl rfl rfl) ?_
      refine .v rfl rfl (O.pickT rfl rfl rfl rfl) ?_
      refine .nil ?_
      exact toN (Gives.mkR [] (.c rfl (.rfl _) rfl (.c rfl (sbb (by simp only [g7, Bool.true_or, Bool.or_true, Bool.false_or, Bool.or_false, Bool.true_and, Bool.and_true, Bool.false_and, Bool.and_false, Bool.not_true, Bool.not_false, cond_true, cond_false])) rfl .n)) (.c rfl (.rfl _) rfl rfl .n) rfl rfl rfl)

noncomputable def lombardref23_Check.f (x0 : api_Trade) : Option (Int) :=
  (lombardref23_in.f x0.ID 1 1125899906842624).bind fun t1 =>
  (if (!t1) = false then lombardref23_in.f x0.Twin 1 1125899906842624 else some default).bind fun t3 =>
  (if ((!t1) || (!t3)) = false then lombardref23_in.f x0.Side 1 2 else some default).bind fun t5 =>
  (if (((!t1) || (!t3)) || (!t5)) = false then lombardref23_in.f x0.Stage 1 5 else some default).bind fun t7 =>
  if ((((!t1) || (!t3)) || (!t5)) || (!t7)) = true then
    some 1
  else
    if (((x0.Side == 1) && ((IntKind.wrap .i64 (x0.Twin - x0.ID)) != 1)) || ((x0.Side == 2) && ((IntKind.wrap .i64 (x0.ID - x0.Twin)) != 1))) = true then
      some 32
    else
      (lombardref03_Check.f x0.Resets).bind fun t18 =>
      if (t18 != 0) = true then
        some t18
      else
        if (0 : Int) ≤ 0 ∧ 0 < (List.length x0.Resets : Int) then
        if (((nth x0.Resets 0).Day) != x0.Start) = true then
          some 10
        else
          (lombardref23_in.f x0.Member 1 32).bind fun t23 =>
          if (!t23) = true then
            some 22
          else
            if (0 : Int) ≤ 0 ∧ 0 < (List.length x0.Resets : Int) then
            (lombardref23_Terms.f (⟨0, 0, x0.Basket, x0.Amount, (nth x0.Resets 0).Rate, x0.Start, x0.End⟩ : api_Fill)).bind fun t27 =>
            some t27
            else none
        else none
set_option maxRecDepth 100000 in
set_option maxHeartbeats 4000000 in
theorem lombardref23_Check.ok {x0 : api_Trade} {r : Int} (h : lombardref23_Check.f x0 = some r) : Pm.Spec prog 51 [.agg [.imm (.val (.int .i64 x0.ID)), .imm (.val (.int .i64 x0.Twin)), .imm (.val (.int .i64 x0.Member)), .imm (.val (.int .i64 x0.Side)), .imm (.val (.int .i64 x0.Basket)), .imm (.val (.int .i64 x0.Amount)), .imm (.val (.int .i64 x0.Start)), .imm (.val (.int .i64 x0.End)), .imm (.row 2 (List.map api_Reset.enc x0.Resets)), .imm (.val (.int .i64 x0.Stage)), .imm (.val (.bool x0.Short))]] (.imm (.val (.int .i64 r))) [none] := by
  unfold lombardref23_Check.f at h
  refine Pm.Spec.of_body Try.func51 rfl (by kernel_rfl) (Nat.le_of_ble_eq_true rfl) (Nat.le_of_ble_eq_true rfl) ?_
  refine W.ghost (σ' := (mkSt [(0, some (.agg [.imm (.val (.int .i64 x0.ID)), .imm (.val (.int .i64 x0.Twin)), .imm (.val (.int .i64 x0.Member)), .imm (.val (.int .i64 x0.Side)), .imm (.val (.int .i64 x0.Basket)), .imm (.val (.int .i64 x0.Amount)), .imm (.val (.int .i64 x0.Start)), .imm (.val (.int .i64 x0.End)), .imm (.row 2 (List.map api_Reset.enc x0.Resets)), .imm (.val (.int .i64 x0.Stage)), .imm (.val (.bool x0.Short))]))] [] 1000)) (Gives.entry (.c rfl .n) .n) ?_
  refine W.seq ?_
  refine W.pk ?_
  refine .t rfl rfl (O.box rfl rfl rfl rfl rfl) ?_
  refine .v rfl rfl (OpL.move (.inr rfl) rfl) ?_
  refine .nil ?_
  refine W.seq ?_
  refine W.seq ?_
  obtain ⟨t1, b2, h⟩ := bnd1 h
  obtain ⟨t3, b4, h⟩ := bnd1 h
  obtain ⟨t5, b6, h⟩ := bnd1 h
  obtain ⟨t7, b8, h⟩ := bnd1 h
  refine W.fork (mkSt [(1, some (.ptr 1000 0)), (25, some (.imm (.val (.bool ((((!t1) || (!t3)) || (!t5)) || (!t7))))))] [(1000, some (.box [.imm (.val (.int .i64 x0.ID)), .imm (.val (.int .i64 x0.Twin)), .imm (.val (.int .i64 x0.Member)), .imm (.val (.int .i64 x0.Side)), .imm (.val (.int .i64 x0.Basket)), .imm (.val (.int .i64 x0.Amount)), .imm (.val (.int .i64 x0.Start)), .imm (.val (.int .i64 x0.End)), .imm (.row 2 (List.map api_Reset.enc x0.Resets)), .imm (.val (.int .i64 x0.Stage)), .imm (.val (.bool x0.Short))]))] 1001) ?_ ?_
  · refine W.cond rfl (fun q12 => ?_) (fun q12 => ?_)
    · have h := ifT q12 h
      refine W.seq ?_
      refine W.pk ?_
      refine .v rfl rfl (OpL.move (.inr rfl) rfl) ?_
      refine .nil ?_
      refine W.ret ?_
      cases h
      exact leaves (.inr rfl) rfl (.imm _) (cN .nil) rfl rfl
    · have h := ifF q12 h
      refine W.skip ?_
      refine W.seq ?_
      refine W.seq ?_
      refine W.fork (mkSt [(1, some (.ptr 1000 0)), (49, some (.imm (.val (.bool (((x0.Side == 1) && ((IntKind.wrap .i64 (x0.Twin - x0.ID)) != 1)) || ((x0.Side == 2) && ((IntKind.wrap .i64 (x0.ID - x0.Twin)) != 1)))))))] [(1000, some (.box [.imm (.val (.int .i64 x0.ID)), .imm (.val (.int .i64 x0.Twin)), .imm (.val (.int .i64 x0.Member)), .imm (.val (.int .i64 x0.Side)), .imm (.val (.int .i64 x0.Basket)), .imm (.val (.int .i64 x0.Amount)), .imm (.val (.int .i64 x0.Start)), .imm (.val (.int .i64 x0.End)), .imm (.row 2 (List.map api_Reset.enc x0.Resets)), .imm (.val (.int .i64 x0.Stage)), .imm (.val (.bool x0.Short))]))] 1001) ?_ ?_
      · refine W.cond rfl (fun q17 => ?_) (fun q17 => ?_)
        · have h := ifT q17 h
          refine W.seq ?_
          refine W.pk ?_
          refine .v rfl rfl (OpL.move (.inr rfl) rfl) ?_
          refine .nil ?_
          refine W.ret ?_
          cases h
          exact leaves (.inr rfl) rfl (.imm _) (cN .nil) rfl rfl
        · have h := ifF q17 h
          refine W.skip ?_
          refine W.seq ?_
          refine W.seq ?_
          obtain ⟨t18, b19, h⟩ := bnd1 h
          refine W.pk ?_
          refine .v rfl rfl (O.fld fld24_8 rfl rfl rfl) ?_
          refine .v rfl rfl (O.ld ty22 rfl rfl rfl) ?_
          refine .call (.imm (.val (.int .i64 t18))) [] 0 (lombardref03_Check.ok b19) rfl rfl rfl ca56 rfl rfl (cC (.imm _) .nil) rfl rfl rfl rfl rfl ?_
          refine .v rfl rfl (OpL.move (.inr rfl) rfl) ?_
          refine .nil ?_
          refine W.seq ?_
          refine W.pk ?_
          refine .v rfl rfl (OpL.move (.inl rfl) rfl) ?_
          refine .v rfl rfl (OpL.binI rfl rfl rfl rfl) ?_
          refine .nil ?_
          refine W.cond rfl (fun q20 => ?_) (fun q20 => ?_)
          · have h := ifT q20 h
            refine W.seq ?_
            refine W.pk ?_
            refine .v rfl rfl (OpL.move (.inl rfl) rfl) ?_
            refine .v rfl rfl (OpL.move (.inr rfl) rfl) ?_
            refine .nil ?_
            refine W.ret ?_
            cases h
            exact leaves (.inr rfl) rfl (.imm _) (cN .nil) rfl rfl
          · have h := ifF q20 h
            refine W.skip ?_
            refine W.seq ?_
            refine W.seq ?_
            obtain ⟨c21, h⟩ := chk h
            refine W.dk [[], [0], [0, 1], [0, 1, 2], [0, 1, 2, 3], [], [5], [0, 1, 2, 3, 4, 5, 6]] rfl (by kernel_rfl) ?_
            refine .v rfl rfl (O.fld fld24_8 rfl rfl rfl) ?_
            refine .v rfl rfl (O.ld ty22 rfl rfl rfl) ?_
            refine .v rfl rfl (O.idx sl22 c21 rfl rfl rfl) ?_
            refine .v rfl rfl (O.fld fld75_0 rfl rfl rfl) ?_
            refine .v rfl rfl (O.ld ty3 rfl rfl rfl) ?_
            refine .v rfl rfl (O.fld fld24_6 rfl rfl rfl) ?_
            refine .v rfl rfl (O.ld ty3 rfl rfl rfl) ?_
            refine .v rfl rfl (OpL.binI rfl rfl rfl rfl) ?_
            refine .nil ?_
            refine ⟨by kernel_rfl, by kernel_rfl, ?_⟩
            refine W.cond rfl (fun q22 => ?_) (fun q22 => ?_)
            · have h := ifT q22 h
              refine W.seq ?_
              refine W.pk ?_
              refine .v rfl rfl (OpL.move (.inr rfl) rfl) ?_
              refine .nil ?_
              refine W.ret ?_
              cases h
              exact leaves (.inr rfl) rfl (.imm _) (cN .nil) rfl rfl
            · have h := ifF q22 h
              refine W.skip ?_
              refine W.seq ?_
              refine W.seq ?_
              obtain ⟨t23, b24, h⟩ := bnd1 h
              refine W.pk ?_
              refine .v rfl rfl (O.fld fld24_2 rfl rfl rfl) ?_
              refine .v rfl rfl (O.ld ty3 rfl rfl rfl) ?_
              refine .call (.imm (.val (.bool t23))) [] 0 (lombardref23_in.ok b24) rfl rfl rfl ca64 rfl rfl (cC (.imm _) (cC (.imm _) (cC (.imm _) .nil))) rfl rfl rfl rfl rfl ?_
              refine .v rfl rfl (OpL.unV rfl rfl rfl) ?_
              refine .nil ?_
              refine W.cond rfl (fun q25 => ?_) (fun q25 => ?_)
              · have h := ifT q25 h
                refine W.seq ?_
                refine W.pk ?_
                refine .v rfl rfl (OpL.move (.inr rfl) rfl) ?_
                refine .nil ?_
                refine W.ret ?_
                cases h
                exact leaves (.inr rfl) rfl (.imm _) (cN .nil) rfl rfl
              · have h := ifF q25 h
                refine W.skip ?_
                refine W.seq ?_
                obtain ⟨c26, h⟩ := chk h
                obtain ⟨t27, b28, h⟩ := bnd1 h
                refine W.dk [[], [0], [], [2], [], [4], [4, 5], [4, 5, 6], [4, 5, 6, 7], [], [9], [], [11], [0, 1, 2, 3, 4, 5, 6, 7, 8, 9, 10, 11, 12], [0, 1, 2, 3, 4, 5, 6, 7, 8, 9, 10, 11, 12, 13], [0, 1, 2, 3, 4, 5, 6, 7, 8, 9, 10, 11, 12, 13, 14]] rfl (by kernel_rfl) ?_
                refine .v rfl rfl (O.fld fld24_4 rfl rfl rfl) ?_
                refine .v rfl rfl (O.ld ty3 rfl rfl rfl) ?_
                refine .v rfl rfl (O.fld fld24_5 rfl rfl rfl) ?_
                refine .v rfl rfl (O.ld ty3 rfl rfl rfl) ?_
                refine .v rfl rfl (O.fld fld24_8 rfl rfl rfl) ?_
                refine .v rfl rfl (O.ld ty22 rfl rfl rfl) ?_
                refine .v rfl rfl (O.idx sl22 c26 rfl rfl rfl) ?_
                refine .v rfl rfl (O.fld fld75_1 rfl rfl rfl) ?_
                refine .v rfl rfl (O.ld ty3 rfl rfl rfl) ?_
                refine .v rfl rfl (O.fld fld24_6 rfl rfl rfl) ?_
                refine .v rfl rfl (O.ld ty3 rfl rfl rfl) ?_
                refine .v rfl rfl (O.fld fld24_7 rfl rfl rfl) ?_
                refine .v rfl rfl (O.ld ty3 rfl rfl rfl) ?_
                refine .v rfl rfl (O.build (out := [.imm (.val (.int .i64 0)), .imm (.val (.int .i64 0)), .imm (.val (.int .i64 x0.Basket)), .imm (.val (.int .i64 x0.Amount)), .imm (.val (.int .i64 ((nth x0.Resets 0).Rate))), .imm (.val (.int .i64 x0.Start)), .imm (.val (.int .i64 x0.End))]) bl89 rfl rfl rfl rfl rfl) ?_
                refine .call (.imm (.val (.int .i64 t27))) [] 0 (lombardref23_Terms.ok b28) rfl rfl rfl ca65 rfl rfl (cC (.agg _ _ _ _ (cC (.imm _) (cC (.imm _) (cC (.imm _) (cC (.imm _) (cC (.imm _) (cC (.imm _) (cC (.imm _) .nil)))))))) .nil) rfl rfl rfl rfl rfl ?_
                refine .v rfl rfl (OpL.move (.inr rfl) rfl) ?_
                refine .nil ?_
                refine ⟨by kernel_rfl, by kernel_rfl, ?_⟩
                refine W.ret ?_
                cases h
                exact leaves (.inr rfl) rfl (.imm _) (cN .nil) rfl rfl
      · clear h
        rcases tf (x0.Side == 1) with g13 | g13
        · rcases tf ((IntKind.wrap .i64 (x0.Twin - x0.ID)) != 1) with g14 | g14
          · refine W.pk ?_
            refine .v rfl rfl (O.fld fld24_3 rfl rfl rfl) ?_
            refine .v rfl rfl (O.ld ty3 rfl rfl rfl) ?_
            refine .v rfl rfl (OpL.binI rfl rfl rfl rfl) ?_
            refine .v rfl rfl (OpL.move (.inl rfl) rfl) ?_
            refine .v rfl (met rfl rfl rfl g13) (O.fld fld24_1 rfl rfl rfl) ?_
            refine .v rfl (met rfl rfl rfl g13) (O.ld ty3 rfl rfl rfl) ?_
            refine .v rfl (met rfl rfl rfl g13) (O.fld fld24_0 rfl rfl rfl) ?_
            refine .v rfl (met rfl rfl rfl g13) (O.ld ty3 rfl rfl rfl) ?_
            refine .v rfl (met rfl rfl rfl g13) (OpL.binI rfl rfl rfl rfl) ?_
            refine .v rfl (met rfl rfl rfl g13) (OpL.binI rfl rfl rfl rfl) ?_
            refine .v rfl rfl (O.pickT g13 rfl rfl rfl) ?_
            refine .v rfl rfl (OpL.move (.inl rfl) rfl) ?_
            refine .x rfl (unmet rfl rfl rfl g14) ?_
            refine .x rfl (unmet rfl rfl rfl g14) ?_
            refine .x rfl (unmet rfl rfl rfl g14) ?_
            refine .x rfl (unmet rfl rfl rfl g14) ?_
            refine .x rfl (unmetU rfl rfl rfl) ?_
            refine .x rfl (unmetU rfl rfl rfl) ?_
            refine .x rfl (unmetU rfl rfl rfl) ?_
            refine .x rfl (unmetU rfl rfl rfl) ?_
            refine .x rfl (unmetU rfl rfl rfl) ?_
            refine .x rfl (unmetU rfl rfl rfl) ?_
            refine .x rfl (unmet rfl rfl rfl g14) ?_
            refine .v rfl rfl (O.pickT g14 rfl rfl rfl) ?_
            refine .nil ?_
            exact toN (Gives.mkR [] (.c rfl (.rfl _) rfl (.c rfl (sbb (by simp only [g13, g14, Bool.true_or, Bool.or_true, Bool.false_or, Bool.or_false, Bool.true_and, Bool.and_true, Bool.false_and, Bool.and_false, Bool.not_true, Bool.not_false, cond_true, cond_false])) rfl .n)) (.c rfl (.rfl _) rfl rfl .n) rfl rfl rfl)
          · rcases tf (x0.Side == 2) with g15 | g15
            · refine W.pk ?_
              refine .v rfl rfl (O.fld fld24_3 rfl rfl rfl) ?_
              refine .v rfl rfl (O.ld ty3 rfl rfl rfl) ?_
              refine .v rfl rfl (OpL.binI rfl rfl rfl rfl) ?_
              refine .v rfl rfl (OpL.move (.inl rfl) rfl) ?_
              refine .v rfl (met rfl rfl rfl g13) (O.fld fld24_1 rfl rfl rfl) ?_
              refine .v rfl (met rfl rfl rfl g13) (O.ld ty3 rfl rfl rfl) ?_
              refine .v rfl (met rfl rfl rfl g13) (O.fld fld24_0 rfl rfl rfl) ?_
              refine .v rfl (met rfl rfl rfl g13) (O.ld ty3 rfl rfl rfl) ?_
              refine .v rfl (met rfl rfl rfl g13) (OpL.binI rfl rfl rfl rfl) ?_
              refine .v rfl (met rfl rfl rfl g13) (OpL.binI rfl rfl rfl rfl) ?_
              refine .v rfl rfl (O.pickT g13 rfl rfl rfl) ?_
              refine .v rfl rfl (OpL.move (.inl rfl) rfl) ?_
              refine .v rfl (met rfl rfl rfl g14) (O.fld fld24_3 rfl rfl rfl) ?_
              refine .v rfl (met rfl rfl rfl g14) (O.ld ty3 rfl rfl rfl) ?_
              refine .v rfl (met rfl rfl rfl g14) (OpL.binI rfl rfl rfl rfl) ?_
              refine .v rfl (met rfl rfl rfl g14) (OpL.move (.inl rfl) rfl) ?_
              refine .v rfl (met rfl rfl rfl g15) (O.fld fld24_0 rfl rfl rfl) ?_
              refine .v rfl (met rfl rfl rfl g15) (O.ld ty3 rfl rfl rfl) ?_
              refine .v rfl (met rfl rfl rfl g15) (O.fld fld24_1 rfl rfl rfl) ?_
              refine .v rfl (met rfl rfl rfl g15) (O.ld ty3 rfl rfl rfl) ?_
              refine .v rfl (met rfl rfl rfl g15) (OpL.binI rfl rfl rfl rfl) ?_
              refine .v rfl (met rfl rfl rfl g15) (OpL.binI rfl rfl rfl rfl) ?_
              refine .v rfl (met rfl rfl rfl g14) (O.pickT g15 rfl rfl rfl) ?_
              refine .v rfl rfl (O.pickF g14 rfl rfl rfl) ?_
              refine .nil ?_
              exact toN (Gives.mkR [] (.c rfl (.rfl _) rfl (.c rfl (sbb (by simp only [g13, g14, g15, Bool.true_or, Bool.or_true, Bool.false_or, Bool.or_false, Bool.true_and, Bool.and_true, Bool.false_and, Bool.and_false, Bool.not_true, Bool.not_false, cond_true, cond_false])) rfl .n)) (.c rfl (.rfl _) rfl rfl .n) rfl rfl rfl)
            · refine W.pk ?_
              refine .v rfl rfl (O.fld fld24_3 rfl rfl rfl) ?_
              refine .v rfl rfl (O.ld ty3 rfl rfl rfl) ?_
              refine .v rfl rfl (OpL.binI rfl rfl rfl rfl) ?_
              refine .v rfl rfl (OpL.move (.inl rfl) rfl) ?_
              refine .v rfl (met rfl rfl rfl g13) (O.fld fld24_1 rfl rfl rfl) ?_
              refine .v rfl (met rfl rfl rfl g13) (O.ld ty3 rfl rfl rfl) ?_
              refine .v rfl (met rfl rfl rfl g13) (O.fld fld24_0 rfl rfl rfl) ?_
              refine .v rfl (met rfl rfl rfl g13) (O.ld ty3 rfl rfl rfl) ?_
              refine .v rfl (met rfl rfl rfl g13) (OpL.binI rfl rfl rfl rfl) ?_
              refine .v rfl (met rfl rfl rfl g13) (OpL.binI rfl rfl rfl rfl) ?_
              refine .v rfl rfl (O.pickT g13 rfl rfl rfl) ?_
              refine .v rfl rfl (OpL.move (.inl rfl) rfl) ?_
              refine .v rfl (met rfl rfl rfl g14) (O.fld fld24_3 rfl rfl rfl) ?_
              refine .v rfl (met rfl rfl rfl g14) (O.ld ty3 rfl rfl rfl) ?_
              refine .v rfl (met rfl rfl rfl g14) (OpL.binI rfl rfl rfl rfl) ?_
              refine .v rfl (met rfl rfl rfl g14) (OpL.move (.inl rfl) rfl) ?_
              refine .x rfl (unmet rfl rfl rfl g15) ?_
              refine .x rfl (unmet rfl rfl rfl g15) ?_
              refine .x rfl (unmet rfl rfl rfl g15) ?_
              refine .x rfl (unmet rfl rfl rfl g15) ?_
              refine .x rfl (unmet rfl rfl rfl g15) ?_
              refine .x rfl (unmet rfl rfl rfl g15) ?_
              refine .v rfl (met rfl rfl rfl g14) (O.pickF g15 rfl rfl rfl) ?_
              refine .v rfl rfl (O.pickF g14 rfl rfl rfl) ?_
              refine .nil ?_
              exact toN (Gives.mkR [] (.c rfl (.rfl _) rfl (.c rfl (sbb (by simp only [g13, g14, g15, Bool.true_or, Bool.or_true, Bool.false_or, Bool.or_false, Bool.true_and, Bool.and_true, Bool.false_and, Bool.and_false, Bool.not_true, Bool.not_false, cond_true, cond_false])) rfl .n)) (.c rfl (.rfl _) rfl rfl .n) rfl rfl rfl)
        · rcases tf (x0.Side == 2) with g16 | g16
          · refine W.pk ?_
            refine .v rfl rfl (O.fld fld24_3 rfl rfl rfl) ?_
            refine .v rfl rfl (O.ld ty3 rfl rfl rfl) ?_
            refine .v rfl rfl (OpL.binI rfl rfl rfl rfl) ?_
            refine .v rfl rfl (OpL.move (.inl rfl) rfl) ?_
            refine .x rfl (unmet rfl rfl rfl g13) ?_
            refine .x rfl (unmet rfl rfl rfl g13) ?_
            refine .x rfl (unmet rfl rfl rfl g13) ?_
            refine .x rfl (unmet rfl rfl rfl g13) ?_
            refine .x rfl (unmet rfl rfl rfl g13) ?_
            refine .x rfl (unmet rfl rfl rfl g13) ?_
            refine .v rfl rfl (O.pickF g13 rfl rfl rfl) ?_
            refine .v rfl rfl (OpL.move (.inl rfl) rfl) ?_
            refine .v rfl (met rfl rfl rfl rfl) (O.fld fld24_3 rfl rfl rfl) ?_
            refine .v rfl (met rfl rfl rfl rfl) (O.ld ty3 rfl rfl rfl) ?_
            refine .v rfl (met rfl rfl rfl rfl) (OpL.binI rfl rfl rfl rfl) ?_
            refine .v rfl (met rfl rfl rfl rfl) (OpL.move (.inl rfl) rfl) ?_
            refine .v rfl (met rfl rfl rfl g16) (O.fld fld24_0 rfl rfl rfl) ?_
            refine .v rfl (met rfl rfl rfl g16) (O.ld ty3 rfl rfl rfl) ?_
            refine .v rfl (met rfl rfl rfl g16) (O.fld fld24_1 rfl rfl rfl) ?_
            refine .v rfl (met rfl rfl rfl g16) (O.ld ty3 rfl rfl rfl) ?_
            refine .v rfl (met rfl rfl rfl g16) (OpL.binI rfl rfl rfl rfl) ?_
            refine .v rfl (met rfl rfl rfl g16) (OpL.binI rfl rfl rfl rfl) ?_
            refine .v rfl (met rfl rfl rfl rfl) (O.pickT g16 rfl rfl rfl) ?_
            refine .v rfl rfl (O.pickF rfl rfl rfl rfl) ?_
            refine .nil ?_
            exact toN (Gives.mkR [] (.c rfl (.rfl _) rfl (.c rfl (sbb (by simp only [g13, g16, Bool.true_or, Bool.or_true, Bool.false_or, Bool.or_false, Bool.true_and, Bool.and_true, Bool.false_and, Bool.and_false, Bool.not_true, Bool.not_false, cond_true, cond_false])) rfl .n)) (.c rfl (.rfl _) rfl rfl .n) rfl rfl rfl)
          · refine W.pk ?_
            refine .v rfl rfl (O.fld fld24_3 rfl rfl rfl) ?_
            refine .v rfl rfl (O.ld ty3 rfl rfl rfl) ?_
            refine .v rfl rfl (OpL.binI rfl rfl rfl rfl) ?_
            refine .v rfl rfl (OpL.move (.inl rfl) rfl) ?_
            refine .x rfl (unmet rfl rfl rfl g13) ?_
            refine .x rfl (unmet rfl rfl rfl g13) ?_
            refine .x rfl (unmet rfl rfl rfl g13) ?_
            refine .x rfl (unmet rfl rfl rfl g13) ?_
            refine .x rfl (unmet rfl rfl rfl g13) ?_
            refine .x rfl (unmet rfl rfl rfl g13) ?_
            refine .v rfl rfl (O.pickF g13 rfl rfl rfl) ?_
            refine .v rfl rfl (OpL.move (.inl rfl) rfl) ?_
            refine .v rfl (met rfl rfl rfl rfl) (O.fld fld24_3 rfl rfl rfl) ?_
            refine .v rfl (met rfl rfl rfl rfl) (O.ld ty3 rfl rfl rfl) ?_
            refine .v rfl (met rfl rfl rfl rfl) (OpL.binI rfl rfl rfl rfl) ?_
            refine .v rfl (met rfl rfl rfl rfl) (OpL.move (.inl rfl) rfl) ?_
            refine .x rfl (unmet rfl rfl rfl g16) ?_
            refine .x rfl (unmet rfl rfl rfl g16) ?_
            refine .x rfl (unmet rfl rfl rfl g16) ?_
            refine .x rfl (unmet rfl rfl rfl g16) ?_
            refine .x rfl (unmet rfl rfl rfl g16) ?_
            refine .x rfl (unmet rfl rfl rfl g16) ?_
            refine .v rfl (met rfl rfl rfl rfl) (O.pickF g16 rfl rfl rfl) ?_
            refine .v rfl rfl (O.pickF rfl rfl rfl rfl) ?_
            refine .nil ?_
            exact toN (Gives.mkR [] (.c rfl (.rfl _) rfl (.c rfl (sbb (by simp only [g13, g16, Bool.true_or, Bool.or_true, Bool.false_or, Bool.or_false, Bool.true_and, Bool.and_true, Bool.false_and, Bool.and_false, Bool.not_true, Bool.not_false, cond_true, cond_false])) rfl .n)) (.c rfl (.rfl _) rfl rfl .n) rfl rfl rfl)
  · clear h
    rcases tf t1 with g9 | g9
    · rcases tf t3 with g10 | g10
      · rcases tf t5 with g11 | g11
        · refine W.pk ?_
          refine .v rfl rfl (O.fld fld24_0 rfl rfl rfl) ?_
          refine .v rfl rfl (O.ld ty3 rfl rfl rfl) ?_
          refine .call (.imm (.val (.bool t1))) [] 0 (lombardref23_in.ok b2) rfl rfl rfl ca64 rfl rfl (cC (.imm _) (cC (.imm _) (cC (.imm _) .nil))) rfl rfl rfl rfl rfl ?_
          refine .v rfl rfl (OpL.unV rfl rfl rfl) ?_
          refine .v rfl rfl (OpL.move (.inl rfl) rfl) ?_
          refine .v rfl (met rfl rfl rfl (notT g9)) (O.fld fld24_1 rfl rfl rfl) ?_
          refine .v rfl (met rfl rfl rfl (notT g9)) (O.ld ty3 rfl rfl rfl) ?_
          refine .call (.imm (.val (.bool t3))) [] 0 (lombardref23_in.ok ((if_pos (by simp only [g9, g10, g11, Bool.true_or, Bool.or_true, Bool.false_or, Bool.or_false, Bool.true_and, Bool.and_true, Bool.false_and, Bool.and_false, Bool.not_true, Bool.not_false, cond_true, cond_false])).symm.trans b4)) rfl (met rfl rfl rfl (notT g9)) rfl ca64 rfl rfl (cC (.imm _) (cC (.imm _) (cC (.imm _) .nil))) rfl rfl rfl rfl rfl ?_
          refine .v rfl (met rfl rfl rfl (notT g9)) (OpL.unV rfl rfl rfl) ?_
          refine .v rfl rfl (O.pickF (notT g9) rfl rfl rfl) ?_
          refine .v rfl rfl (OpL.move (.inl rfl) rfl) ?_
          refine .v rfl (met rfl rfl rfl (notT g10)) (O.fld fld24_3 rfl rfl rfl) ?_
          refine .v rfl (met rfl rfl rfl (notT g10)) (O.ld ty3 rfl rfl rfl) ?_
          refine .call (.imm (.val (.bool t5))) [] 0 (lombardref23_in.ok ((if_pos (by simp only [g9, g10, g11, Bool.true_or, Bool.or_true, Bool.false_or, Bool.or_false, Bool.true_and, Bool.and_true, Bool.false_and, Bool.and_false, Bool.not_true, Bool.not_false, cond_true, cond_false])).symm.trans b6)) rfl (met rfl rfl rfl (notT g10)) rfl ca64 rfl rfl (cC (.imm _) (cC (.imm _) (cC (.imm _) .nil))) rfl rfl rfl rfl rfl ?_
          refine .v rfl (met rfl rfl rfl (notT g10)) (OpL.unV rfl rfl rfl) ?_
          refine .v rfl rfl (O.pickF (notT g10) rfl rfl rfl) ?_
          refine .v rfl rfl (OpL.move (.inl rfl) rfl) ?_
          refine .v rfl (met rfl rfl rfl (notT g11)) (O.fld fld24_9 rfl rfl rfl) ?_
          refine .v rfl (met rfl rfl rfl (notT g11)) (O.ld ty3 rfl rfl rfl) ?_
          refine .call (.imm (.val (.bool t7))) [] 0 (lombardref23_in.ok ((if_pos (by simp only [g9, g10, g11, Bool.true_or, Bool.or_true, Bool.false_or, Bool.or_false, Bool.true_and, Bool.and_true, Bool.false_and, Bool.and_false, Bool.not_true, Bool.not_false, cond_true, cond_false])).symm.trans b8)) rfl (met rfl rfl rfl (notT g11)) rfl ca64 rfl rfl (cC (.imm _) (cC (.imm _) (cC (.imm _) .nil))) rfl rfl rfl rfl rfl ?_
          refine .v rfl (met rfl rfl rfl (notT g11)) (OpL.unV rfl rfl rfl) ?_
          refine .v rfl rfl (O.pickF (notT g11) rfl rfl rfl) ?_
          refine .nil ?_
          exact toN (Gives.mkR [] (.c rfl (.rfl _) rfl (.c rfl (sbb (by simp only [g9, g10, g11, Bool.true_or, Bool.or_true, Bool.false_or, Bool.or_false, Bool.true_and, Bool.and_true, Bool.false_and, Bool.and_false, Bool.not_true, Bool.not_false, cond_true, cond_false])) rfl .n)) (.c rfl (.rfl _) rfl rfl .n) rfl rfl rfl)
        · refine W.pk ?_
          refine .v rfl rfl (O.fld fld24_0 rfl rfl rfl) ?_
          refine .v rfl rfl (O.ld ty3 rfl rfl rfl) ?_
          refine .call (.imm (.val (.bool t1))) [] 0 (lombardref23_in.ok b2) rfl rfl rfl ca64 rfl rfl (cC (.imm _) (cC (.imm _) (cC (.imm _) .nil))) rfl rfl rfl rfl rfl ?_
          refine .v rfl rfl (OpL.unV rfl rfl rfl) ?_
          refine .v rfl rfl (OpL.move (.inl rfl) rfl) ?_
          refine .v rfl (met rfl rfl rfl (notT g9)) (O.fld fld24_1 rfl rfl rfl) ?_
          refine .v rfl (met rfl rfl rfl (notT g9)) (O.ld ty3 rfl rfl rfl) ?_
          refine .call (.imm (.val (.bool t3))) [] 0 (lombardref23_in.ok ((if_pos (by simp only [g9, g10, g11, Bool.true_or, Bool.or_true, Bool.false_or, Bool.or_false, Bool.true_and, Bool.and_true, Bool.false_and, Bool.and_false, Bool.not_true, Bool.not_false, cond_true, cond_false])).symm.trans b4)) rfl (met rfl rfl rfl (notT g9)) rfl ca64 rfl rfl (cC (.imm _) (cC (.imm _) (cC (.imm _) .nil))) rfl rfl rfl rfl rfl ?_
          refine .v rfl (met rfl rfl rfl (notT g9)) (OpL.unV rfl rfl rfl) ?_
          refine .v rfl rfl (O.pickF (notT g9) rfl rfl rfl) ?_
          refine .v rfl rfl (OpL.move (.inl rfl) rfl) ?_
          refine .v rfl (met rfl rfl rfl (notT g10)) (O.fld fld24_3 rfl rfl rfl) ?_
          refine .v rfl (met rfl rfl rfl (notT g10)) (O.ld ty3 rfl rfl rfl) ?_
          refine .call (.imm (.val (.bool t5))) [] 0 (lombardref23_in.ok ((if_pos (by simp only [g9, g10, g11, Bool.true_or, Bool.or_true, Bool.false_or, Bool.or_false, Bool.true_and, Bool.and_true, Bool.false_and, Bool.and_false, Bool.not_true, Bool.not_false, cond_true, cond_false])).symm.trans b6)) rfl (met rfl rfl rfl (notT g10)) rfl ca64 rfl rfl (cC (.imm _) (cC (.imm _) (cC (.imm _) .nil))) rfl rfl rfl rfl rfl ?_
          refine .v rfl (met rfl rfl rfl (notT g10)) (OpL.unV rfl rfl rfl) ?_
          refine .v rfl rfl (O.pickF (notT g10) rfl rfl rfl) ?_
          refine .v rfl rfl (OpL.move (.inl rfl) rfl) ?_
          refine .x rfl (unmet rfl rfl rfl (notF g11)) ?_
          refine .x rfl (unmet rfl rfl rfl (notF g11)) ?_
          refine .x rfl (unmet rfl rfl rfl (notF g11)) ?_
          refine .x rfl (unmet rfl rfl rfl (notF g11)) ?_
          refine .v rfl rfl (O.pickT (notF g11) rfl rfl rfl) ?_
          refine .nil ?_
          exact toN (Gives.mkR [] (.c rfl (.rfl _) rfl (.c rfl (sbb (by simp only [g9, g10, g11, Bool.true_or, Bool.or_true, Bool.false_or, Bool.or_false, Bool.true_and, Bool.and_true, Bool.false_and, Bool.and_false, Bool.not_true, Bool.not_false, cond_true, cond_false])) rfl .n)) (.c rfl (.rfl _) rfl rfl .n) rfl rfl rfl)
      · refine W.pk ?_
        refine .v rfl rfl (O.fld fld24_0 rfl rfl rfl) ?_
        refine .v rfl rfl (O.ld ty3 rfl rfl rfl) ?_
        refine .call (.imm (.val (.bool t1))) [] 0 (lombardref23_in.ok b2) rfl rfl rfl ca64 rfl rfl (cC (.imm _) (cC (.imm _) (cC (.imm _) .nil))) rfl rfl rfl rfl rfl ?_
        refine .v rfl rfl (OpL.unV rfl rfl rfl) ?_
        refine .v rfl rfl (OpL.move (.inl rfl) rfl) ?_
        refine .v rfl (met rfl rfl rfl (notT g9)) (O.fld fld24_1 rfl rfl rfl) ?_
        refine .v rfl (met rfl rfl rfl (notT g9)) (O.ld ty3 rfl rfl rfl) ?_
        refine .call (.imm (.val (.bool t3))) [] 0 (lombardref23_in.ok ((if_pos (by simp only [g9, g10, Bool.true_or, Bool.or_true, Bool.false_or, Bool.or_false, Bool.true_and, Bool.and_true, Bool.false_and, Bool.and_false, Bool.not_true, Bool.not_false, cond_true, cond_false])).symm.trans b4)) rfl (met rfl rfl rfl (notT g9)) rfl ca64 rfl rfl (cC (.imm _) (cC (.imm _) (cC (.imm _) .nil))) rfl rfl rfl rfl rfl ?_
        refine .v rfl (met rfl rfl rfl (notT g9)) (OpL.unV rfl rfl rfl) ?_
        refine .v rfl rfl (O.pickF (notT g9) rfl rfl rfl) ?_
        refine .v rfl rfl (OpL.move (.inl rfl) rfl) ?_
        refine .x rfl (unmet rfl rfl rfl (notF g10)) ?_
        refine .x rfl (unmet rfl rfl rfl (notF g10)) ?_
        refine .x rfl (unmet rfl rfl rfl (notF g10)) ?_
        refine .x rfl (unmet rfl rfl rfl (notF g10)) ?_
        refine .v rfl rfl (O.pickT (notF g10) rfl rfl rfl) ?_
        refine .v rfl rfl (OpL.move (.inl rfl) rfl) ?_
        refine .x rfl (unmet rfl rfl rfl rfl) ?_
        refine .x rfl (unmet rfl rfl rfl rfl) ?_
        refine .x rfl (unmet rfl rfl rfl rfl) ?_
        refine .x rfl (unmet rfl rfl rfl rfl) ?_
        refine .v rfl rfl (O.pickT rfl rfl rfl rfl) ?_
        refine .nil ?_
        exact toN (Gives.mkR [] (.c rfl (.rfl _) rfl (.c rfl (sbb (by simp only [g9, g10, Bool.true_or, Bool.or_true, Bool.false_or, Bool.or_false, Bool.true_and, Bool.and_true, Bool.false_and, Bool.and_false, Bool.not_true, Bool.not_false, cond_true, cond_false])) rfl .n)) (.c rfl (.rfl _) rfl rfl .n) rfl rfl rfl)
    · refine W.pk ?_
      refine .v rfl rfl (O.fld fld24_0 rfl rfl rfl) ?_
      refine .v rfl rfl (O.ld ty3 rfl rfl rfl) ?_
      refine .call (.imm (.val (.bool t1))) [] 0 (lombardref23_in.ok b2) rfl rfl rfl ca64 rfl rfl (cC (.imm _) (cC (.imm _) (cC (.imm _) .nil))) rfl rfl rfl rfl rfl ?_
      refine .v rfl rfl (OpL.unV rfl rfl rfl) ?_
      refine .v rfl rfl (OpL.move (.inl rfl) rfl) ?_
      refine .x rfl (unmet rfl rfl rfl (notF g9)) ?_
      refine .x rfl (unmet rfl rfl rfl (notF g9)) ?_
      refine .x rfl (unmet rfl rfl rfl (notF g9)) ?_
      refine .x rfl (unmet rfl rfl rfl (notF g9)) ?_
      refine .v rfl rfl (O.pickT (notF g9) rfl rfl rfl) ?_
      refine .v rfl rfl (OpL.move (.inl rfl) rfl) ?_
      refine .x rfl (unmet rfl rfl rfl rfl) ?_
      refine .x rfl (unmet rfl rfl rfl rfl) ?_
      refine .x rfl (unmet rfl rfl rfl rfl) ?_
      refine .x rfl (unmet rfl rfl rfl rfl) ?_
      refine .v rfl rfl (O.pickT rfl rfl rfl rfl) ?_
      refine .v rfl rfl (OpL.move (.inl rfl) rfl) ?_
      refine .x rfl (unmet rfl rfl rfl rfl) ?_
      refine .x rfl (unmet rfl rfl rfl rfl) ?_
      refine .x rfl (unmet rfl rfl rfl rfl) ?_
      refine .x rfl (unmet rfl rfl rfl rfl) ?_
      refine .v rfl rfl (O.pickT rfl rfl rfl rfl) ?_
      refine .nil ?_
      exact toN (Gives.mkR [] (.c rfl (.rfl _) rfl (.c rfl (sbb (by simp only [g9, Bool.true_or, Bool.or_true, Bool.false_or, Bool.or_false, Bool.true_and, Bool.and_true, Bool.false_and, Bool.and_false, Bool.not_true, Bool.not_false, cond_true, cond_false])) rfl .n)) (.c rfl (.rfl _) rfl rfl .n) rfl rfl rfl)

noncomputable def lombardref17_good.f (x0 : Int) : Option (Bool) :=
  some ((decide (x0 ≥ 1)) && (decide (x0 ≤ 1125899906842624)))
set_option maxRecDepth 100000 in
set_option maxHeartbeats 4000000 in
theorem lombardref17_good.ok {x0 : Int} {r : Bool} (h : lombardref17_good.f x0 = some r) : Pm.Spec prog 66 [.imm (.val (.int .i64 x0))] (.imm (.val (.bool r))) [none] := by
  unfold lombardref17_good.f at h
  refine Pm.Spec.of_body Try.func66 rfl (by kernel_rfl) (Nat.le_of_ble_eq_true rfl) (Nat.le_of_ble_eq_true rfl) ?_
  refine W.ghost (σ' := (mkSt [(0, some (.imm (.val (.int .i64 x0))))] [] 1000)) (Gives.entry (.c rfl .n) .n) ?_
  refine W.seq ?_
  refine W.pk ?_
  refine .v rfl rfl (OpL.move (.inr rfl) rfl) ?_
  refine .nil ?_
  refine W.seq ?_
  refine W.fork (mkSt [(2, some (.imm (.val (.bool ((decide (x0 ≥ 1)) && (decide (x0 ≤ 1125899906842624)))))))] [] 1000) ?_ ?_
  · refine W.ret ?_
    cases h
    exact leaves (.inr rfl) rfl (.imm _) (cN .nil) rfl rfl
  · clear h
    rcases tf (decide (x0 ≥ 1)) with g1 | g1
    · refine W.pk ?_
      refine .v rfl rfl (OpL.move (.inl rfl) rfl) ?_
      refine .v rfl rfl (OpL.binI rfl rfl rfl rfl) ?_
      refine .v rfl rfl (OpL.move (.inl rfl) rfl) ?_
      refine .v rfl (met rfl rfl rfl g1) (OpL.move (.inl rfl) rfl) ?_
      refine .v rfl (met rfl rfl rfl g1) (OpL.binI rfl rfl rfl rfl) ?_
      refine .v rfl rfl (O.pickT g1 rfl rfl rfl) ?_
      refine .v rfl rfl (OpL.move (.inr rfl) rfl) ?_
      refine .nil ?_
      exact toN (Gives.mkR [] (.c rfl (sbb (by simp only [g1, Bool.true_or, Bool.or_true, Bool.false_or, Bool.or_false, Bool.true_and, Bool.and_true, Bool.false_and, Bool.and_false, Bool.not_true, Bool.not_false, cond_true, cond_false])) rfl .n) .n rfl rfl rfl)
    · refine W.pk ?_
      refine .v rfl rfl (OpL.move (.inl rfl) rfl) ?_
      refine .v rfl rfl (OpL.binI rfl rfl rfl rfl) ?_
      refine .v rfl rfl (OpL.move (.inl rfl) rfl) ?_
      refine .x rfl (unmet rfl rfl rfl g1) ?_
      refine .x rfl (unmet rfl rfl rfl g1) ?_
      refine .v rfl rfl (O.pickF g1 rfl rfl rfl) ?_
      refine .v rfl rfl (OpL.move (.inr rfl) rfl) ?_
      refine .nil ?_
      exact toN (Gives.mkR [] (.c rfl (sbb (by simp only [g1, Bool.true_or, Bool.or_true, Bool.false_or, Bool.or_false, Bool.true_and, Bool.and_true, Bool.false_and, Bool.and_false, Bool.not_true, Bool.not_false, cond_true, cond_false])) rfl .n) .n rfl rfl rfl)
end Go.Proofs.Ytlgfdldonoaahaa
