/- Shows what functions of the program come to, each as a plain function: written by a program of the author's for this claim. -/
import Derived.Test.YtknfdnlhadjbaaaGx12
namespace Go.Proofs.Ytknfdnlhadjbaaa
open Go Go.Pm
set_option linter.unusedVariables false
set_option linter.unusedSimpArgs false
noncomputable def life_Roll.f (x0 : api_Trade) (x1 : api_Trade) (x2 : Int) (x3 : Int) : Option (api_Fill × Int) :=
  (life_Open.f x0).bind fun t1 =>
  (if t1 = false then life_Live.f x0 else some default).bind fun t3 =>
  if (t1 || (!t3)) = true then
    some ((⟨0, 0, 0, 0, 0, 0, 0⟩ : api_Fill), 8)
  else
    if (((x0.Side != 1) || (x1.Side != 2)) || (x0.Twin != x1.ID)) = true then
      some ((⟨0, 0, 0, 0, 0, 0, 0⟩ : api_Fill), 32)
    else
      (calendar_Good.f x2).bind fun t10 =>
      if (((!t10) || (decide (x2 ≤ x0.End))) || (decide ((IntKind.wrap .i64 (x2 - x0.End)) > 3660))) = true then
        some ((⟨0, 0, 0, 0, 0, 0, 0⟩ : api_Fill), 10)
      else
        some ((⟨x0.Member, x1.Member, x0.Basket, x0.Amount, x3, x0.End, x2⟩ : api_Fill), 0)
set_option maxRecDepth 100000 in
set_option maxHeartbeats 4000000 in
theorem life_Roll.ok {x0 : api_Trade} {x1 : api_Trade} {x2 : Int} {x3 : Int} {r : api_Fill × Int} (h : life_Roll.f x0 x1 x2 x3 = some r) : Pm.Spec prog 19 [.agg [.imm (.val (.int .i64 x0.ID)), .imm (.val (.int .i64 x0.Twin)), .imm (.val (.int .i64 x0.Member)), .imm (.val (.int .i64 x0.Side)), .imm (.val (.int .i64 x0.Basket)), .imm (.val (.int .i64 x0.Amount)), .imm (.val (.int .i64 x0.Start)), .imm (.val (.int .i64 x0.End)), .imm (.row 2 (List.map api_Reset.enc x0.Resets)), .imm (.val (.int .i64 x0.Stage)), .imm (.val (.bool x0.Short))], .agg [.imm (.val (.int .i64 x1.ID)), .imm (.val (.int .i64 x1.Twin)), .imm (.val (.int .i64 x1.Member)), .imm (.val (.int .i64 x1.Side)), .imm (.val (.int .i64 x1.Basket)), .imm (.val (.int .i64 x1.Amount)), .imm (.val (.int .i64 x1.Start)), .imm (.val (.int .i64 x1.End)), .imm (.row 2 (List.map api_Reset.enc x1.Resets)), .imm (.val (.int .i64 x1.Stage)), .imm (.val (.bool x1.Short))], .imm (.val (.int .i64 x2)), .imm (.val (.int .i64 x3))] (.tup [.agg [.imm (.val (.int .i64 r.1.Lender)), .imm (.val (.int .i64 r.1.Borrower)), .imm (.val (.int .i64 r.1.Basket)), .imm (.val (.int .i64 r.1.Amount)), .imm (.val (.int .i64 r.1.Rate)), .imm (.val (.int .i64 r.1.Start)), .imm (.val (.int .i64 r.1.End))], .imm (.val (.int .i64 r.2))]) [none, none, none, none] := by
  unfold life_Roll.f at h
  refine Pm.Spec.of_body Try.func19 rfl (by kernel_rfl) (Nat.le_of_ble_eq_true rfl) (Nat.le_of_ble_eq_true rfl) ?_
  refine W.ghost (σ' := (mkSt [(0, some (.agg [.imm (.val (.int .i64 x0.ID)), .imm (.val (.int .i64 x0.Twin)), .imm (.val (.int .i64 x0.Member)), .imm (.val (.int .i64 x0.Side)), .imm (.val (.int .i64 x0.Basket)), .imm (.val (.int .i64 x0.Amount)), .imm (.val (.int .i64 x0.Start)), .imm (.val (.int .i64 x0.End)), .imm (.row 2 (List.map api_Reset.enc x0.Resets)), .imm (.val (.int .i64 x0.Stage)), .imm (.val (.bool x0.Short))])), (1, some (.agg [.imm (.val (.int .i64 x1.ID)), .imm (.val (.int .i64 x1.Twin)), .imm (.val (.int .i64 x1.Member)), .imm (.val (.int .i64 x1.Side)), .imm (.val (.int .i64 x1.Basket)), .imm (.val (.int .i64 x1.Amount)), .imm (.val (.int .i64 x1.Start)), .imm (.val (.int .i64 x1.End)), .imm (.row 2 (List.map api_Reset.enc x1.Resets)), .imm (.val (.int .i64 x1.Stage)), .imm (.val (.bool x1.Short))])), (2, some (.imm (.val (.int .i64 x2)))), (3, some (.imm (.val (.int .i64 x3))))] [] 1000)) (Gives.entry (.c rfl (.c rfl (.c rfl (.c rfl .n)))) .n) ?_
  refine W.seq ?_
  refine W.pk ?_
  refine .t rfl rfl (O.box rfl rfl rfl rfl rfl) ?_
  refine .t rfl rfl (O.box rfl rfl rfl rfl rfl) ?_
  refine .t rfl rfl (O.alloc z38 rfl) ?_
  refine .v rfl rfl (OpL.move (.inr rfl) rfl) ?_
  refine .nil ?_
  refine W.seq ?_
  refine W.block ?_
  refine W.seq ?_
  obtain ⟨t1, b2, h⟩ := bnd1 h
  obtain ⟨t3, b4, h⟩ := bnd1 h
  refine W.fork (mkSt [(2, some (.imm (.val (.int .i64 x2)))), (3, some (.imm (.val (.int .i64 x3)))), (4, some (.ptr 1000 0)), (5, some (.ptr 1001 0)), (8, some (.ptr 1002 0)), (10, some (.imm (.val (.bool (t1 || (!t3))))))] [(1000, some (.box [.imm (.val (.int .i64 x0.ID)), .imm (.val (.int .i64 x0.Twin)), .imm (.val (.int .i64 x0.Member)), .imm (.val (.int .i64 x0.Side)), .imm (.val (.int .i64 x0.Basket)), .imm (.val (.int .i64 x0.Amount)), .imm (.val (.int .i64 x0.Start)), .imm (.val (.int .i64 x0.End)), .imm (.row 2 (List.map api_Reset.enc x0.Resets)), .imm (.val (.int .i64 x0.Stage)), .imm (.val (.bool x0.Short))])), (1001, some (.box [.imm (.val (.int .i64 x1.ID)), .imm (.val (.int .i64 x1.Twin)), .imm (.val (.int .i64 x1.Member)), .imm (.val (.int .i64 x1.Side)), .imm (.val (.int .i64 x1.Basket)), .imm (.val (.int .i64 x1.Amount)), .imm (.val (.int .i64 x1.Start)), .imm (.val (.int .i64 x1.End)), .imm (.row 2 (List.map api_Reset.enc x1.Resets)), .imm (.val (.int .i64 x1.Stage)), .imm (.val (.bool x1.Short))])), (1002, some (.box [.imm (.val (.int .i64 0)), .imm (.val (.int .i64 0)), .imm (.val (.int .i64 0)), .imm (.val (.int .i64 0)), .imm (.val (.int .i64 0)), .imm (.val (.int .i64 0)), .imm (.val (.int .i64 0))]))] 1003) ?_ ?_
  · refine W.cond rfl (fun q6 => ?_) (fun q6 => ?_)
    · have h := ifT q6 h
      refine W.seq ?_
      refine W.pk ?_
      refine .v rfl rfl (O.build (out := [.imm (.val (.int .i64 0)), .imm (.val (.int .i64 0)), .imm (.val (.int .i64 0)), .imm (.val (.int .i64 0)), .imm (.val (.int .i64 0)), .imm (.val (.int .i64 0)), .imm (.val (.int .i64 0))]) bl38 rfl rfl rfl rfl rfl) ?_
      refine .s rfl rfl (O.st ty38 rfl rfl rfl rfl rfl rfl rfl rfl rfl rfl (all' := [.imm (.val (.int .i64 0)), .imm (.val (.int .i64 0)), .imm (.val (.int .i64 0)), .imm (.val (.int .i64 0)), .imm (.val (.int .i64 0)), .imm (.val (.int .i64 0)), .imm (.val (.int .i64 0))]) rfl) ?_
      refine .v rfl rfl (OpL.move (.inr rfl) rfl) ?_
      refine .nil ?_
      refine W.ret ?_
      cases h
      exact leaves (.inr rfl) rfl (.tup _ _ _ _ (cC (.agg _ _ _ _ (cC (.imm _) (cC (.imm _) (cC (.imm _) (cC (.imm _) (cC (.imm _) (cC (.imm _) (cC (.imm _) .nil)))))))) (cC (.imm _) .nil))) (cN (cN (cN (cN .nil)))) rfl rfl
    · have h := ifF q6 h
      refine W.seq ?_
      refine W.fork (mkSt [(2, some (.imm (.val (.int .i64 x2)))), (3, some (.imm (.val (.int .i64 x3)))), (4, some (.ptr 1000 0)), (5, some (.ptr 1001 0)), (8, some (.ptr 1002 0)), (19, some (.imm (.val (.bool (((x0.Side != 1) || (x1.Side != 2)) || (x0.Twin != x1.ID))))))] [(1000, some (.box [.imm (.val (.int .i64 x0.ID)), .imm (.val (.int .i64 x0.Twin)), .imm (.val (.int .i64 x0.Member)), .imm (.val (.int .i64 x0.Side)), .imm (.val (.int .i64 x0.Basket)), .imm (.val (.int .i64 x0.Amount)), .imm (.val (.int .i64 x0.Start)), .imm (.val (.int .i64 x0.End)), .imm (.row 2 (List.map api_Reset.enc x0.Resets)), .imm (.val (.int .i64 x0.Stage)), .imm (.val (.bool x0.Short))])), (1001, some (.box [.imm (.val (.int .i64 x1.ID)), .imm (.val (.int .i64 x1.Twin)), .imm (.val (.int .i64 x1.Member)), .imm (.val (.int .i64 x1.Side)), .imm (.val (.int .i64 x1.Basket)), .imm (.val (.int .i64 x1.Amount)), .imm (.val (.int .i64 x1.Start)), .imm (.val (.int .i64 x1.End)), .imm (.row 2 (List.map api_Reset.enc x1.Resets)), .imm (.val (.int .i64 x1.Stage)), .imm (.val (.bool x1.Short))])), (1002, some (.box [.imm (.val (.int .i64 0)), .imm (.val (.int .i64 0)), .imm (.val (.int .i64 0)), .imm (.val (.int .i64 0)), .imm (.val (.int .i64 0)), .imm (.val (.int .i64 0)), .imm (.val (.int .i64 0))]))] 1003) ?_ ?_
      · refine W.cond rfl (fun q9 => ?_) (fun q9 => ?_)
        · have h := ifT q9 h
          refine W.seq ?_
          refine W.pk ?_
          refine .v rfl rfl (O.build (out := [.imm (.val (.int .i64 0)), .imm (.val (.int .i64 0)), .imm (.val (.int .i64 0)), .imm (.val (.int .i64 0)), .imm (.val (.int .i64 0)), .imm (.val (.int .i64 0)), .imm (.val (.int .i64 0))]) bl38 rfl rfl rfl rfl rfl) ?_
          refine .s rfl rfl (O.st ty38 rfl rfl rfl rfl rfl rfl rfl rfl rfl rfl (all' := [.imm (.val (.int .i64 0)), .imm (.val (.int .i64 0)), .imm (.val (.int .i64 0)), .imm (.val (.int .i64 0)), .imm (.val (.int .i64 0)), .imm (.val (.int .i64 0)), .imm (.val (.int .i64 0))]) rfl) ?_
          refine .v rfl rfl (OpL.move (.inr rfl) rfl) ?_
          refine .nil ?_
          refine W.ret ?_
          cases h
          exact leaves (.inr rfl) rfl (.tup _ _ _ _ (cC (.agg _ _ _ _ (cC (.imm _) (cC (.imm _) (cC (.imm _) (cC (.imm _) (cC (.imm _) (cC (.imm _) (cC (.imm _) .nil)))))))) (cC (.imm _) .nil))) (cN (cN (cN (cN .nil)))) rfl rfl
        · have h := ifF q9 h
          refine W.seq ?_
          obtain ⟨t10, b11, h⟩ := bnd1 h
          refine W.fork (mkSt [(2, some (.imm (.val (.int .i64 x2)))), (3, some (.imm (.val (.int .i64 x3)))), (4, some (.ptr 1000 0)), (5, some (.ptr 1001 0)), (8, some (.ptr 1002 0)), (36, some (.imm (.val (.bool (((!t10) || (decide (x2 ≤ x0.End))) || (decide ((IntKind.wrap .i64 (x2 - x0.End)) > 3660)))))))] [(1000, some (.box [.imm (.val (.int .i64 x0.ID)), .imm (.val (.int .i64 x0.Twin)), .imm (.val (.int .i64 x0.Member)), .imm (.val (.int .i64 x0.Side)), .imm (.val (.int .i64 x0.Basket)), .imm (.val (.int .i64 x0.Amount)), .imm (.val (.int .i64 x0.Start)), .imm (.val (.int .i64 x0.End)), .imm (.row 2 (List.map api_Reset.enc x0.Resets)), .imm (.val (.int .i64 x0.Stage)), .imm (.val (.bool x0.Short))])), (1001, some (.box [.imm (.val (.int .i64 x1.ID)), .imm (.val (.int .i64 x1.Twin)), .imm (.val (.int .i64 x1.Member)), .imm (.val (.int .i64 x1.Side)), .imm (.val (.int .i64 x1.Basket)), .imm (.val (.int .i64 x1.Amount)), .imm (.val (.int .i64 x1.Start)), .imm (.val (.int .i64 x1.End)), .imm (.row 2 (List.map api_Reset.enc x1.Resets)), .imm (.val (.int .i64 x1.Stage)), .imm (.val (.bool x1.Short))])), (1002, some (.box [.imm (.val (.int .i64 0)), .imm (.val (.int .i64 0)), .imm (.val (.int .i64 0)), .imm (.val (.int .i64 0)), .imm (.val (.int .i64 0)), .imm (.val (.int .i64 0)), .imm (.val (.int .i64 0))]))] 1003) ?_ ?_
          · refine W.cond rfl (fun q14 => ?_) (fun q14 => ?_)
            · have h := ifT q14 h
              refine W.seq ?_
              refine W.pk ?_
              refine .v rfl rfl (O.build (out := [.imm (.val (.int .i64 0)), .imm (.val (.int .i64 0)), .imm (.val (.int .i64 0)), .imm (.val (.int .i64 0)), .imm (.val (.int .i64 0)), .imm (.val (.int .i64 0)), .imm (.val (.int .i64 0))]) bl38 rfl rfl rfl rfl rfl) ?_
              refine .s rfl rfl (O.st ty38 rfl rfl rfl rfl rfl rfl rfl rfl rfl rfl (all' := [.imm (.val (.int .i64 0)), .imm (.val (.int .i64 0)), .imm (.val (.int .i64 0)), .imm (.val (.int .i64 0)), .imm (.val (.int .i64 0)), .imm (.val (.int .i64 0)), .imm (.val (.int .i64 0))]) rfl) ?_
              refine .v rfl rfl (OpL.move (.inr rfl) rfl) ?_
              refine .nil ?_
              refine W.ret ?_
              cases h
              exact leaves (.inr rfl) rfl (.tup _ _ _ _ (cC (.agg _ _ _ _ (cC (.imm _) (cC (.imm _) (cC (.imm _) (cC (.imm _) (cC (.imm _) (cC (.imm _) (cC (.imm _) .nil)))))))) (cC (.imm _) .nil))) (cN (cN (cN (cN .nil)))) rfl rfl
            · have h := ifF q14 h
              refine W.skip ?_
              refine W.seq ?_
              refine W.pk ?_
              refine .v rfl rfl (O.fld fld24_2 rfl rfl rfl) ?_
              refine .v rfl rfl (O.ld ty3 rfl rfl rfl) ?_
              refine .v rfl rfl (O.fld fld24_2 rfl rfl rfl) ?_
              refine .v rfl rfl (O.ld ty3 rfl rfl rfl) ?_
              refine .v rfl rfl (O.fld fld24_4 rfl rfl rfl) ?_
              refine .v rfl rfl (O.ld ty3 rfl rfl rfl) ?_
              refine .v rfl rfl (O.fld fld24_5 rfl rfl rfl) ?_
              refine .v rfl rfl (O.ld ty3 rfl rfl rfl) ?_
              refine .v rfl rfl (OpL.move (.inl rfl) rfl) ?_
              refine .v rfl rfl (O.fld fld24_7 rfl rfl rfl) ?_
              refine .v rfl rfl (O.ld ty3 rfl rfl rfl) ?_
              refine .v rfl rfl (OpL.move (.inl rfl) rfl) ?_
              refine .v rfl rfl (O.build (out := [.imm (.val (.int .i64 x0.Member)), .imm (.val (.int .i64 x1.Member)), .imm (.val (.int .i64 x0.Basket)), .imm (.val (.int .i64 x0.Amount)), .imm (.val (.int .i64 x3)), .imm (.val (.int .i64 x0.End)), .imm (.val (.int .i64 x2))]) bl38 rfl rfl rfl rfl rfl) ?_
              refine .s rfl rfl (O.st ty38 rfl rfl rfl rfl rfl rfl rfl rfl rfl rfl (all' := [.imm (.val (.int .i64 x0.Member)), .imm (.val (.int .i64 x1.Member)), .imm (.val (.int .i64 x0.Basket)), .imm (.val (.int .i64 x0.Amount)), .imm (.val (.int .i64 x3)), .imm (.val (.int .i64 x0.End)), .imm (.val (.int .i64 x2))]) rfl) ?_
              refine .v rfl rfl (OpL.move (.inr rfl) rfl) ?_
              refine .nil ?_
              refine W.ret ?_
              cases h
              exact leaves (.inr rfl) rfl (.tup _ _ _ _ (cC (.agg _ _ _ _ (cC (.imm _) (cC (.imm _) (cC (.imm _) (cC (.imm _) (cC (.imm _) (cC (.imm _) (cC (.imm _) .nil)))))))) (cC (.imm _) .nil))) (cN (cN (cN (cN .nil)))) rfl rfl
          · clear h
            rcases tf t10 with g12 | g12
            · rcases tf (decide (x2 ≤ x0.End)) with g13 | g13
              · refine W.pk ?_
                refine .v rfl rfl (OpL.move (.inl rfl) rfl) ?_
                refine .call (.imm (.val (.bool t10))) [] 0 (calendar_Good.ok b11) rfl rfl rfl ca41 rfl rfl (cC (.imm _) .nil) rfl rfl rfl rfl rfl ?_
                refine .v rfl rfl (OpL.unV rfl rfl rfl) ?_
                refine .v rfl rfl (OpL.move (.inl rfl) rfl) ?_
                refine .v rfl (met rfl rfl rfl (notT g12)) (OpL.move (.inl rfl) rfl) ?_
                refine .v rfl (met rfl rfl rfl (notT g12)) (O.fld fld24_7 rfl rfl rfl) ?_
                refine .v rfl (met rfl rfl rfl (notT g12)) (O.ld ty3 rfl rfl rfl) ?_
                refine .v rfl (met rfl rfl rfl (notT g12)) (OpL.binI rfl rfl rfl rfl) ?_
                refine .v rfl rfl (O.pickF (notT g12) rfl rfl rfl) ?_
                refine .v rfl rfl (OpL.move (.inl rfl) rfl) ?_
                refine .x rfl (unmet rfl rfl rfl g13) ?_
                refine .x rfl (unmet rfl rfl rfl g13) ?_
                refine .x rfl (unmet rfl rfl rfl g13) ?_
                refine .x rfl (unmet rfl rfl rfl g13) ?_
                refine .x rfl (unmet rfl rfl rfl g13) ?_
                refine .v rfl rfl (O.pickT g13 rfl rfl rfl) ?_
                refine .v rfl rfl (OpL.move (.inr rfl) rfl) ?_
                refine .nil ?_
                exact toN (Gives.mkR [] (.c rfl (.rfl _) rfl (.c rfl (.rfl _) rfl (.c rfl (.rfl _) rfl (.c rfl (.rfl _) rfl (.c rfl (.rfl _) rfl (.c rfl (sbb (by simp only [g12, g13, Bool.true_or, Bool.or_true, Bool.false_or, Bool.or_false, Bool.true_and, Bool.and_true, Bool.false_and, Bool.and_false, Bool.not_true, Bool.not_false, cond_true, cond_false])) rfl .n)))))) (.c rfl (.rfl _) rfl rfl (.c rfl (.rfl _) rfl rfl (.c rfl (.rfl _) rfl rfl .n))) rfl rfl rfl)
              · refine W.pk ?_
                refine .v rfl rfl (OpL.move (.inl rfl) rfl) ?_
                refine .call (.imm (.val (.bool t10))) [] 0 (calendar_Good.ok b11) rfl rfl rfl ca41 rfl rfl (cC (.imm _) .nil) rfl rfl rfl rfl rfl ?_
                refine .v rfl rfl (OpL.unV rfl rfl rfl) ?_
                refine .v rfl rfl (OpL.move (.inl rfl) rfl) ?_
                refine .v rfl (met rfl rfl rfl (notT g12)) (OpL.move (.inl rfl) rfl) ?_
                refine .v rfl (met rfl rfl rfl (notT g12)) (O.fld fld24_7 rfl rfl rfl) ?_
                refine .v rfl (met rfl rfl rfl (notT g12)) (O.ld ty3 rfl rfl rfl) ?_
                refine .v rfl (met rfl rfl rfl (notT g12)) (OpL.binI rfl rfl rfl rfl) ?_
                refine .v rfl rfl (O.pickF (notT g12) rfl rfl rfl) ?_
                refine .v rfl rfl (OpL.move (.inl rfl) rfl) ?_
                refine .v rfl (met rfl rfl rfl g13) (OpL.move (.inl rfl) rfl) ?_
                refine .v rfl (met rfl rfl rfl g13) (O.fld fld24_7 rfl rfl rfl) ?_
                refine .v rfl (met rfl rfl rfl g13) (O.ld ty3 rfl rfl rfl) ?_
                refine .v rfl (met rfl rfl rfl g13) (OpL.binI rfl rfl rfl rfl) ?_
                refine .v rfl (met rfl rfl rfl g13) (OpL.binI rfl rfl rfl rfl) ?_
                refine .v rfl rfl (O.pickF g13 rfl rfl rfl) ?_
                refine .v rfl rfl (OpL.move (.inr rfl) rfl) ?_
                refine .nil ?_
                exact toN (Gives.mkR [] (.c rfl (.rfl _) rfl (.c rfl (.rfl _) rfl (.c rfl (.rfl _) rfl (.c rfl (.rfl _) rfl (.c rfl (.rfl _) rfl (.c rfl (sbb (by simp only [g12, g13, Bool.true_or, Bool.or_true, Bool.false_or, Bool.or_false, Bool.true_and, Bool.and_true, Bool.false_and, Bool.and_false, Bool.not_true, Bool.not_false, cond_true, cond_false])) rfl .n)))))) (.c rfl (.rfl _) rfl rfl (.c rfl (.rfl _) rfl rfl (.c rfl (.rfl _) rfl rfl .n))) rfl rfl rfl)
            · refine W.pk ?_
              refine .v rfl rfl (OpL.move (.inl rfl) rfl) ?_
              refine .call (.imm (.val (.bool t10))) [] 0 (calendar_Good.ok b11) rfl rfl rfl ca41 rfl rfl (cC (.imm _) .nil) rfl rfl rfl rfl rfl ?_
              refine .v rfl rfl (OpL.unV rfl rfl rfl) ?_
              refine .v rfl rfl (OpL.move (.inl rfl) rfl) ?_
              refine .x rfl (unmet rfl rfl rfl (notF g12)) ?_
              refine .x rfl (unmet rfl rfl rfl (notF g12)) ?_
              refine .x rfl (unmet rfl rfl rfl (notF g12)) ?_
              refine .x rfl (unmet rfl rfl rfl (notF g12)) ?_
              refine .v rfl rfl (O.pickT (notF g12) rfl rfl rfl) ?_
              refine .v rfl rfl (OpL.move (.inl rfl) rfl) ?_
              refine .x rfl (unmet rfl rfl rfl rfl) ?_
              refine .x rfl (unmet rfl rfl rfl rfl) ?_
              refine .x rfl (unmet rfl rfl rfl rfl) ?_
              refine .x rfl (unmet rfl rfl rfl rfl) ?_
              refine .x rfl (unmet rfl rfl rfl rfl) ?_
              refine .v rfl rfl (O.pickT rfl rfl rfl rfl) ?_
              refine .v rfl rfl (OpL.move (.inr rfl) rfl) ?_
              refine .nil ?_
              exact toN (Gives.mkR [] (.c rfl (.rfl _) rfl (.c rfl (.rfl _) rfl (.c rfl (.rfl _) rfl (.c rfl (.rfl _) rfl (.c rfl (.rfl _) rfl (.c rfl (sbb (by simp only [g12, Bool.true_or, Bool.or_true, Bool.false_or, Bool.or_false, Bool.true_and, Bool.and_true, Bool.false_and, Bool.and_false, Bool.not_true, Bool.not_false, cond_true, cond_false])) rfl .n)))))) (.c rfl (.rfl _) rfl rfl (.c rfl (.rfl _) rfl rfl (.c rfl (.rfl _) rfl rfl .n))) rfl rfl rfl)
      · clear h
        rcases tf (x0.Side != 1) with g7 | g7
        · refine W.pk ?_
          refine .v rfl rfl (O.fld fld24_3 rfl rfl rfl) ?_
          refine .v rfl rfl (O.ld ty3 rfl rfl rfl) ?_
          refine .v rfl rfl (OpL.binI rfl rfl rfl rfl) ?_
          refine .v rfl rfl (OpL.move (.inl rfl) rfl) ?_
          refine .x rfl (unmet rfl rfl rfl g7) ?_
          refine .x rfl (unmet rfl rfl rfl g7) ?_
          refine .x rfl (unmet rfl rfl rfl g7) ?_
          refine .v rfl rfl (O.pickT g7 rfl rfl rfl) ?_
          refine .v rfl rfl (OpL.move (.inl rfl) rfl) ?_
          refine .x rfl (unmet rfl rfl rfl rfl) ?_
          refine .x rfl (unmet rfl rfl rfl rfl) ?_
          refine .x rfl (unmet rfl rfl rfl rfl) ?_
          refine .x rfl (unmet rfl rfl rfl rfl) ?_
          refine .x rfl (unmet rfl rfl rfl rfl) ?_
          refine .v rfl rfl (O.pickT rfl rfl rfl rfl) ?_
          refine .v rfl rfl (OpL.move (.inr rfl) rfl) ?_
          refine .nil ?_
          exact toN (Gives.mkR [] (.c rfl (.rfl _) rfl (.c rfl (.rfl _) rfl (.c rfl (.rfl _) rfl (.c rfl (.rfl _) rfl (.c rfl (.rfl _) rfl (.c rfl (sbb (by simp only [g7, Bool.true_or, Bool.or_true, Bool.false_or, Bool.or_false, Bool.true_and, Bool.and_true, Bool.false_and, Bool.and_false, Bool.not_true, Bool.not_false, cond_true, cond_false])) rfl .n)))))) (.c rfl (.rfl _) rfl rfl (.c rfl (.rfl _) rfl rfl (.c rfl (.rfl _) rfl rfl .n))) rfl rfl rfl)
        · rcases tf (x1.Side != 2) with g8 | g8
          · refine W.pk ?_
            refine .v rfl rfl (O.fld fld24_3 rfl rfl rfl) ?_
            refine .v rfl rfl (O.ld ty3 rfl rfl rfl) ?_
            refine .v rfl rfl (OpL.binI rfl rfl rfl rfl) ?_
            refine .v rfl rfl (OpL.move (.inl rfl) rfl) ?_
            refine .v rfl (met rfl rfl rfl g7) (O.fld fld24_3 rfl rfl rfl) ?_
            refine .v rfl (met rfl rfl rfl g7) (O.ld ty3 rfl rfl rfl) ?_
            refine .v rfl (met rfl rfl rfl g7) (OpL.binI rfl rfl rfl rfl) ?_
            refine .v rfl rfl (O.pickF g7 rfl rfl rfl) ?_
            refine .v rfl rfl (OpL.move (.inl rfl) rfl) ?_
            refine .x rfl (unmet rfl rfl rfl g8) ?_
            refine .x rfl (unmet rfl rfl rfl g8) ?_
            refine .x rfl (unmet rfl rfl rfl g8) ?_
            refine .x rfl (unmet rfl rfl rfl g8) ?_
            refine .x rfl (unmet rfl rfl rfl g8) ?_
            refine .v rfl rfl (O.pickT g8 rfl rfl rfl) ?_
            refine .v rfl rfl (OpL.move (.inr rfl) rfl) ?_
            refine .nil ?_
            exact toN (Gives.mkR [] (.c rfl (.rfl _) rfl (.c rfl (.rfl _) rfl (.c rfl (.rfl _) rfl (.c rfl (.rfl _) rfl (.c rfl (.rfl _) rfl (.c rfl (sbb (by simp only [g7, g8, Bool.true_or, Bool.or_true, Bool.false_or, Bool.or_false, Bool.true_and, Bool.and_true, Bool.false_and, Bool.and_false, Bool.not_true, Bool.not_false, cond_true, cond_false])) rfl .n)))))) (.c rfl (.rfl _) rfl rfl (.c rfl (.rfl _) rfl rfl (.c rfl (.rfl _) rfl rfl .n))) rfl rfl rfl)
          · refine W.pk ?_
            refine .v rfl rfl (O.fld fld24_3 rfl rfl rfl) ?_
            refine .v rfl rfl (O.ld ty3 rfl rfl rfl) ?_
            refine .v rfl rfl (OpL.binI rfl rfl rfl rfl) ?_
            refine .v rfl rfl (OpL.move (.inl rfl) rfl) ?_
            refine .v rfl (met rfl rfl rfl g7) (O.fld fld24_3 rfl rfl rfl) ?_
            refine .v rfl (met rfl rfl rfl g7) (O.ld ty3 rfl rfl rfl) ?_
            refine .v rfl (met rfl rfl rfl g7) (OpL.binI rfl rfl rfl rfl) ?_
            refine .v rfl rfl (O.pickF g7 rfl rfl rfl) ?_
            refine .v rfl rfl (OpL.move (.inl rfl) rfl) ?_
            refine .v rfl (met rfl rfl rfl g8) (O.fld fld24_1 rfl rfl rfl) ?_
            refine .v rfl (met rfl rfl rfl g8) (O.ld ty3 rfl rfl rfl) ?_
            refine .v rfl (met rfl rfl rfl g8) (O.fld fld24_0 rfl rfl rfl) ?_
            refine .v rfl (met rfl rfl rfl g8) (O.ld ty3 rfl rfl rfl) ?_
            refine .v rfl (met rfl rfl rfl g8) (OpL.binI rfl rfl rfl rfl) ?_
            refine .v rfl rfl (O.pickF g8 rfl rfl rfl) ?_
            refine .v rfl rfl (OpL.move (.inr rfl) rfl) ?_
            refine .nil ?_
            exact toN (Gives.mkR [] (.c rfl (.rfl _) rfl (.c rfl (.rfl _) rfl (.c rfl (.rfl _) rfl (.c rfl (.rfl _) rfl (.c rfl (.rfl _) rfl (.c rfl (sbb (by simp only [g7, g8, Bool.true_or, Bool.or_true, Bool.false_or, Bool.or_false, Bool.true_and, Bool.and_true, Bool.false_and, Bool.and_false, Bool.not_true, Bool.not_false, cond_true, cond_false])) rfl .n)))))) (.c rfl (.rfl _) rfl rfl (.c rfl (.rfl _) rfl rfl (.c rfl (.rfl _) rfl rfl .n))) rfl rfl rfl)
  · clear h
    rcases tf t1 with g5 | g5
    · refine W.pk ?_
      refine .v rfl rfl (O.ldN ty24 rfl rfl rfl) ?_
      refine .call (.imm (.val (.bool t1))) [] 0 (life_Open.ok b2) rfl rfl rfl ca34 rfl rfl (cC (.agg _ _ _ _ (cC (.imm _) (cC (.imm _) (cC (.imm _) (cC (.imm _) (cC (.imm _) (cC (.imm _) (cC (.imm _) (cC (.imm _) (cC (.imm _) (cC (.imm _) (cC (.imm _) .nil)))))))))))) .nil) rfl rfl rfl rfl rfl ?_
      refine .v rfl rfl (OpL.move (.inl rfl) rfl) ?_
      refine .x rfl (unmet rfl rfl rfl g5) ?_
      refine .x rfl (unmet rfl rfl rfl g5) ?_
      refine .x rfl (unmet rfl rfl rfl g5) ?_
      refine .v rfl rfl (O.pickT g5 rfl rfl rfl) ?_
      refine .v rfl rfl (OpL.move (.inr rfl) rfl) ?_
      refine .nil ?_
      exact toN (Gives.mkR [] (.c rfl (.rfl _) rfl (.c rfl (.rfl _) rfl (.c rfl (.rfl _) rfl (.c rfl (.rfl _) rfl (.c rfl (.rfl _) rfl (.c rfl (sbb (by simp only [g5, Bool.true_or, Bool.or_true, Bool.false_or, Bool.or_false, Bool.true_and, Bool.and_true, Bool.false_and, Bool.and_false, Bool.not_true, Bool.not_false, cond_true, cond_false])) rfl .n)))))) (.c rfl (.rfl _) rfl rfl (.c rfl (.rfl _) rfl rfl (.c rfl (.rfl _) rfl rfl .n))) rfl rfl rfl)
    · refine W.pk ?_
      refine .v rfl rfl (O.ldN ty24 rfl rfl rfl) ?_
      refine .call (.imm (.val (.bool t1))) [] 0 (life_Open.ok b2) rfl rfl rfl ca34 rfl rfl (cC (.agg _ _ _ _ (cC (.imm _) (cC (.imm _) (cC (.imm _) (cC (.imm _) (cC (.imm _) (cC (.imm _) (cC (.imm _) (cC (.imm _) (cC (.imm _) (cC (.imm _) (cC (.imm _) .nil)))))))))))) .nil) rfl rfl rfl rfl rfl ?_
      refine .v rfl rfl (OpL.move (.inl rfl) rfl) ?_
      refine .v rfl (met rfl rfl rfl g5) (O.ldN ty24 rfl rfl rfl) ?_
      refine .call (.imm (.val (.bool t3))) [] 0 (life_Live.ok ((if_pos (by simp only [g5, Bool.true_or, Bool.or_true, Bool.false_or, Bool.or_false, Bool.true_and, Bool.and_true, Bool.false_and, Bool.and_false, Bool.not_true, Bool.not_false, cond_true, cond_false])).symm.trans b4)) rfl (met rfl rfl rfl g5) rfl ca35 rfl rfl (cC (.agg _ _ _ _ (cC (.imm _) (cC (.imm _) (cC (.imm _) (cC (.imm _) (cC (.imm _) (cC (.imm _) (cC (.imm _) (cC (.imm _) (cC (.imm _) (cC (.imm _) (cC (.imm _) .nil)))))))))))) .nil) rfl rfl rfl rfl rfl ?_
      refine .v rfl (met rfl rfl rfl g5) (OpL.unV rfl rfl rfl) ?_
      refine .v rfl rfl (O.pickF g5 rfl rfl rfl) ?_
      refine .v rfl rfl (OpL.move (.inr rfl) rfl) ?_
      refine .nil ?_
      exact toN (Gives.mkR [] (.c rfl (.rfl _) rfl (.c rfl (.rfl _) rfl (.c rfl (.rfl _) rfl (.c rfl (.rfl _) rfl (.c rfl (.rfl _) rfl (.c rfl (sbb (by simp only [g5, Bool.true_or, Bool.or_true, Bool.false_or, Bool.or_false, Bool.true_and, Bool.and_true, Bool.false_and, Bool.and_false, Bool.not_true, Bool.not_false, cond_true, cond_false])) rfl .n)))))) (.c rfl (.rfl _) rfl rfl (.c rfl (.rfl _) rfl rfl (.c rfl (.rfl _) rfl rfl .n))) rfl rfl rfl)

noncomputable def lombardref24_Live.f (x0 : api_Trade) : Option (Bool) :=
  some ((x0.Stage == 2) || (x0.Stage == 3))
set_option maxRecDepth 100000 in
set_option maxHeartbeats 4000000 in
theorem lombardref24_Live.ok {x0 : api_Trade} {r : Bool} (h : lombardref24_Live.f x0 = some r) : Pm.Spec prog 36 [.agg [.imm (.val (.int .i64 x0.ID)), .imm (.val (.int .i64 x0.Twin)), .imm (.val (.int .i64 x0.Member)), .imm (.val (.int .i64 x0.Side)), .imm (.val (.int .i64 x0.Basket)), .imm (.val (.int .i64 x0.Amount)), .imm (.val (.int .i64 x0.Start)), .imm (.val (.int .i64 x0.End)), .imm (.row 2 (List.map api_Reset.enc x0.Resets)), .imm (.val (.int .i64 x0.Stage)), .imm (.val (.bool x0.Short))]] (.imm (.val (.bool r))) [none] := by
  unfold lombardref24_Live.f at h
  refine Pm.Spec.of_body Try.func36 rfl (by kernel_rfl) (Nat.le_of_ble_eq_true rfl) (Nat.le_of_ble_eq_true rfl) ?_
  refine W.ghost (σ' := (mkSt [(0, some (.agg [.imm (.val (.int .i64 x0.ID)), .imm (.val (.int .i64 x0.Twin)), .imm (.val (.int .i64 x0.Member)), .imm (.val (.int .i64 x0.Side)), .imm (.val (.int .i64 x0.Basket)), .imm (.val (.int .i64 x0.Amount)), .imm (.val (.int .i64 x0.Start)), .imm (.val (.int .i64 x0.End)), .imm (.row 2 (List.map api_Reset.enc x0.Resets)), .imm (.val (.int .i64 x0.Stage)), .imm (.val (.bool x0.Short))]))] [] 1000)) (Gives.entry (.c rfl .n) .n) ?_
  refine W.seq ?_
  refine W.pk ?_
  refine .t rfl rfl (O.box rfl rfl rfl rfl rfl) ?_
  refine .v rfl rfl (OpL.move (.inr rfl) rfl) ?_
  refine .nil ?_
  refine W.seq ?_
  refine W.fork (mkSt [(2, some (.imm (.val (.bool ((x0.Stage == 2) || (x0.Stage == 3))))))] [] 1001) ?_ ?_
  · refine W.ret ?_
    cases h
    exact leaves (.inr rfl) rfl (.imm _) (cN .nil) rfl rfl
  · clear h
    rcases tf (x0.Stage == 2) with g1 | g1
    · refine W.pk ?_
      refine .v rfl rfl (O.fld fld24_9 rfl rfl rfl) ?_
      refine .v rfl rfl (O.ld ty3 rfl rfl rfl) ?_
      refine .v rfl rfl (OpL.binI rfl rfl rfl rfl) ?_
      refine .v rfl rfl (OpL.move (.inl rfl) rfl) ?_
      refine .x rfl (unmet rfl rfl rfl g1) ?_
      refine .x rfl (unmet rfl rfl rfl g1) ?_
      refine .x rfl (unmet rfl rfl rfl g1) ?_
      refine .v rfl rfl (O.pickT g1 rfl rfl rfl) ?_
      refine .v rfl rfl (OpL.move (.inr rfl) rfl) ?_
      refine .nil ?_
      exact toN (Gives.mkR [] (.c rfl (sbb (by simp only [g1, Bool.true_or, Bool.or_true, Bool.false_or, Bool.or_false, Bool.true_and, Bool.and_true, Bool.false_and, Bool.and_false, Bool.not_true, Bool.not_false, cond_true, cond_false])) rfl .n) .n rfl rfl rfl)
    · refine W.pk ?_
      refine .v rfl rfl (O.fld fld24_9 rfl rfl rfl) ?_
      refine .v rfl rfl (O.ld ty3 rfl rfl rfl) ?_
      refine .v rfl rfl (OpL.binI rfl rfl rfl rfl) ?_
      refine .v rfl rfl (OpL.move (.inl rfl) rfl) ?_
      refine .v rfl (met rfl rfl rfl g1) (O.fld fld24_9 rfl rfl rfl) ?_
      refine .v rfl (met rfl rfl rfl g1) (O.ld ty3 rfl rfl rfl) ?_
      refine .v rfl (met rfl rfl rfl g1) (OpL.binI rfl rfl rfl rfl) ?_
      refine .v rfl rfl (O.pickF g1 rfl rfl rfl) ?_
      refine .v rfl rfl (OpL.move (.inr rfl) rfl) ?_
      refine .nil ?_
      exact toN (Gives.mkR [] (.c rfl (sbb (by simp only [g1, Bool.true_or, Bool.or_true, Bool.false_or, Bool.or_false, Bool.true_and, Bool.and_true, Bool.false_and, Bool.and_false, Bool.not_true, Bool.not_false, cond_true, cond_false])) rfl .n) .n rfl rfl rfl)

noncomputable def lombardref24_Roll.f (x0 : api_Trade) (x1 : api_Trade) (x2 : Int) (x3 : Int) : Option (api_Fill × Int) :=
  (if (x0.End == 0) = false then lombardref24_Live.f x0 else some default).bind fun t1 =>
  if ((x0.End == 0) || (!t1)) = true then
    some ((⟨0, 0, 0, 0, 0, 0, 0⟩ : api_Fill), 8)
  else
    if (((x0.Side != 1) || (x1.Side != 2)) || (x0.Twin != x1.ID)) = true then
      some ((⟨0, 0, 0, 0, 0, 0, 0⟩ : api_Fill), 32)
    else
      (lombardref02_Good.f x2).bind fun t8 =>
      if (((!t8) || (decide (x2 ≤ x0.End))) || (decide ((IntKind.wrap .i64 (x2 - x0.End)) > 3660))) = true then
        some ((⟨0, 0, 0, 0, 0, 0, 0⟩ : api_Fill), 10)
      else
        some ((⟨x0.Member, x1.Member, x0.Basket, x0.Amount, x3, x0.End, x2⟩ : api_Fill), 0)
set_option maxRecDepth 100000 in
set_option maxHeartbeats 4000000 in
theorem lombardref24_Roll.ok {x0 : api_Trade} {x1 : api_Trade} {x2 : Int} {x3 : Int} {r : api_Fill × Int} (h : lombardref24_Roll.f x0 x1 x2 x3 = some r) : Pm.Spec prog 20 [.agg [.imm (.val (.int .i64 x0.ID)), .imm (.val (.int .i64 x0.Twin)), .imm (.val (.int .i64 x0.Member)), .imm (.val (.int .i64 x0.Side)), .imm (.val (.int .i64 x0.Basket)), .imm (.val (.int .i64 x0.Amount)), .imm (.val (.int .i64 x0.Start)), .imm (.val (.int .i64 x0.End)), .imm (.row 2 (List.map api_Reset.enc x0.Resets)), .imm (.val (.int .i64 x0.Stage)), .imm (.val (.bool x0.Short))], .agg [.imm (.val (.int .i64 x1.ID)), .imm (.val (.int .i64 x1.Twin)), .imm (.val (.int .i64 x1.Member)), .imm (.val (.int .i64 x1.Side)), .imm (.val (.int .i64 x1.Basket)), .imm (.val (.int .i64 x1.Amount)), .imm (.val (.int .i64 x1.Start)), .imm (.val (.int .i64 x1.End)), .imm (.row 2 (List.map api_Reset.enc x1.Resets)), .imm (.val (.int .i64 x1.Stage)), .imm (.val (.bool x1.Short))], .imm (.val (.int .i64 x2)), .imm (.val (.int .i64 x3))] (.tup [.agg [.imm (.val (.int .i64 r.1.Lender)), .imm (.val (.int .i64 r.1.Borrower)), .imm (.val (.int .i64 r.1.Basket)), .imm (.val (.int .i64 r.1.Amount)), .imm (.val (.int .i64 r.1.Rate)), .imm (.val (.int .i64 r.1.Start)), .imm (.val (.int .i64 r.1.End))], .imm (.val (.int .i64 r.2))]) [none, none, none, none] := by
  unfold lombardref24_Roll.f at h
  refine Pm.Spec.of_body Try.func20 rfl (by kernel_rfl) (Nat.le_of_ble_eq_true rfl) (Nat.le_of_ble_eq_true rfl) ?_
  refine W.ghost (σ' := (mkSt [(0, some (.agg [.imm (.val (.int .i64 x0.ID)), .imm (.val (.int .i64 x0.Twin)), .imm (.val (.int .i64 x0.Member)), .imm (.val (.int .i64 x0.Side)), .imm (.val (.int .i64 x0.Basket)), .imm (.val (.int .i64 x0.Amount)), .imm (.val (.int .i64 x0.Start)), .imm (.val (.int .i64 x0.End)), .imm (.row 2 (List.map api_Reset.enc x0.Resets)), .imm (.val (.int .i64 x0.Stage)), .imm (.val (.bool x0.Short))])), (1, some (.agg [.imm (.val (.int .i64 x1.ID)), .imm (.val (.int .i64 x1.Twin)), .imm (.val (.int .i64 x1.Member)), .imm (.val (.int .i64 x1.Side)), .imm (.val (.int .i64 x1.Basket)), .imm (.val (.int .i64 x1.Amount)), .imm (.val (.int .i64 x1.Start)), .imm (.val (.int .i64 x1.End)), .imm (.row 2 (List.map api_Reset.enc x1.Resets)), .imm (.val (.int .i64 x1.Stage)), .imm (.val (.bool x1.Short))])), (2, some (.imm (.val (.int .i64 x2)))), (3, some (.imm (.val (.int .i64 x3))))] [] 1000)) (Gives.entry (.c rfl (.c rfl (.c rfl (.c rfl .n)))) .n) ?_
  refine W.seq ?_
  refine W.pk ?_
  refine .t rfl rfl (O.box rfl rfl rfl rfl rfl) ?_
  refine .t rfl rfl (O.box rfl rfl rfl rfl rfl) ?_
  refine .t rfl rfl (O.alloc z38 rfl) ?_
  refine .v rfl rfl (OpL.move (.inr rfl) rfl) ?_
  refine .nil ?_
  refine W.seq ?_
  refine W.seq ?_
  obtain ⟨t1, b2, h⟩ := bnd1 h
  refine W.fork (mkSt [(2, some (.imm (.val (.int .i64 x2)))), (3, some (.imm (.val (.int .i64 x3)))), (4, some (.ptr 1000 0)), (5, some (.ptr 1001 0)), (8, some (.ptr 1002 0)), (17, some (.imm (.val (.bool ((x0.End == 0) || (!t1))))))] [(1000, some (.box [.imm (.val (.int .i64 x0.ID)), .imm (.val (.int .i64 x0.Twin)), .imm (.val (.int .i64 x0.Member)), .imm (.val (.int .i64 x0.Side)), .imm (.val (.int .i64 x0.Basket)), .imm (.val (.int .i64 x0.Amount)), .imm (.val (.int .i64 x0.Start)), .imm (.val (.int .i64 x0.End)), .imm (.row 2 (List.map api_Reset.enc x0.Resets)), .imm (.val (.int .i64 x0.Stage)), .imm (.val (.bool x0.Short))])), (1001, some (.box [.imm (.val (.int .i64 x1.ID)), .imm (.val (.int .i64 x1.Twin)), .imm (.val (.int .i64 x1.Member)), .imm (.val (.int .i64 x1.Side)), .imm (.val (.int .i64 x1.Basket)), .imm (.val (.int .i64 x1.Amount)), .imm (.val (.int .i64 x1.Start)), .imm (.val (.int .i64 x1.End)), .imm (.row 2 (List.map api_Reset.enc x1.Resets)), .imm (.val (.int .i64 x1.Stage)), .imm (.val (.bool x1.Short))])), (1002, some (.box [.imm (.val (.int .i64 0)), .imm (.val (.int .i64 0)), .imm (.val (.int .i64 0)), .imm (.val (.int .i64 0)), .imm (.val (.int .i64 0)), .imm (.val (.int .i64 0)), .imm (.val (.int .i64 0))]))] 1003) ?_ ?_
  · refine W.cond rfl (fun q4 => ?_) (fun q4 => ?_)
    · have h := ifT q4 h
      refine W.seq ?_
      refine W.pk ?_
      refine .v rfl rfl (O.build (out := [.imm (.val (.int .i64 0)), .imm (.val (.int .i64 0)), .imm (.val (.int .i64 0)), .imm (.val (.int .i64 0)), .imm (.val (.int .i64 0)), .imm (.val (.int .i64 0)), .imm (.val (.int .i64 0))]) bl38 rfl rfl rfl rfl rfl) ?_
      refine .s rfl rfl (O.st ty38 rfl rfl rfl rfl rfl rfl rfl rfl rfl rfl (all' := [.imm (.val (.int .i64 0)), .imm (.val (.int .i64 0)), .imm (.val (.int .i64 0)), .imm (.val (.int .i64 0)), .imm (.val (.int .i64 0)), .imm (.val (.int .i64 0)), .imm (.val (.int .i64 0))]) rfl) ?_
      refine .v rfl rfl (OpL.move (.inr rfl) rfl) ?_
      refine .nil ?_
      refine W.ret ?_
      cases h
      exact leaves (.inr rfl) rfl (.tup _ _ _ _ (cC (.agg _ _ _ _ (cC (.imm _) (cC (.imm _) (cC (.imm _) (cC (.imm _) (cC (.imm _) (cC (.imm _) (cC (.imm _) .nil)))))))) (cC (.imm _) .nil))) (cN (cN (cN (cN .nil)))) rfl rfl
    · have h := ifF q4 h
      refine W.skip ?_
      refine W.seq ?_
      refine W.seq ?_
      refine W.fork (mkSt [(2, some (.imm (.val (.int .i64 x2)))), (3, some (.imm (.val (.int .i64 x3)))), (4, some (.ptr 1000 0)), (5, some (.ptr 1001 0)), (8, some (.ptr 1002 0)), (33, some (.imm (.val (.bool (((x0.Side != 1) || (x1.Side != 2)) || (x0.Twin != x1.ID))))))] [(1000, some (.box [.imm (.val (.int .i64 x0.ID)), .imm (.val (.int .i64 x0.Twin)), .imm (.val (.int .i64 x0.Member)), .imm (.val (.int .i64 x0.Side)), .imm (.val (.int .i64 x0.Basket)), .imm (.val (.int .i64 x0.Amount)), .imm (.val (.int .i64 x0.Start)), .imm (.val (.int .i64 x0.End)), .imm (.row 2 (List.map api_Reset.enc x0.Resets)), .imm (.val (.int .i64 x0.Stage)), .imm (.val (.bool x0.Short))])), (1001, some (.box [.imm (.val (.int .i64 x1.ID)), .imm (.val (.int .i64 x1.Twin)), .imm (.val (.int .i64 x1.Member)), .imm (.val (.int .i64 x1.Side)), .imm (.val (.int .i64 x1.Basket)), .imm (.val (.int .i64 x1.Amount)), .imm (.val (.int .i64 x1.Start)), .imm (.val (.int .i64 x1.End)), .imm (.row 2 (List.map api_Reset.enc x1.Resets)), .imm (.val (.int .i64 x1.Stage)), .imm (.val (.bool x1.Short))])), (1002, some (.box [.imm (.val (.int .i64 0)), .imm (.val (.int .i64 0)), .imm (.val (.int .i64 0)), .imm (.val (.int .i64 0)), .imm (.val (.int .i64 0)), .imm (.val (.int .i64 0)), .imm (.val (.int .i64 0))]))] 1003) ?_ ?_
      · refine W.cond rfl (fun q7 => ?_) (fun q7 => ?_)
        · have h := ifT q7 h
          refine W.seq ?_
          refine W.pk ?_
          refine .v rfl rfl (O.build (out := [.imm (.val (.int .i64 0)), .imm (.val (.int .i64 0)), .imm (.val (.int .i64 0)), .imm (.val (.int .i64 0)), .imm (.val (.int .i64 0)), .imm (.val (.int .i64 0)), .imm (.val (.int .i64 0))]) bl38 rfl rfl rfl rfl rfl) ?_
          refine .s rfl rfl (O.st ty38 rfl rfl rfl rfl rfl rfl rfl rfl rfl rfl (all' := [.imm (.val (.int .i64 0)), .imm (.val (.int .i64 0)), .imm (.val (.int .i64 0)), .imm (.val (.int .i64 0)), .imm (.val (.int .i64 0)), .imm (.val (.int .i64 0)), .imm (.val (.int .i64 0))]) rfl) ?_
          refine .v rfl rfl (OpL.move (.inr rfl) rfl) ?_
          refine .nil ?_
          refine W.ret ?_
          cases h
          exact leaves (.inr rfl) rfl (.tup _ _ _ _ (cC (.agg _ _ _ _ (cC (.imm _) (cC (.imm _) (cC (.imm _) (cC (.imm _) (cC (.imm _) (cC (.imm _) (cC (.imm _) .nil)))))))) (cC (.imm _) .nil))) (cN (cN (cN (cN .nil)))) rfl rfl
        · have h := ifF q7 h
          refine W.skip ?_
          refine W.seq ?_
          refine W.seq ?_
          obtain ⟨t8, b9, h⟩ := bnd1 h
          refine W.fork (mkSt [(2, some (.imm (.val (.int .i64 x2)))), (3, some (.imm (.val (.int .i64 x3)))), (4, some (.ptr 1000 0)), (5, some (.ptr 1001 0)), (8, some (.ptr 1002 0)), (50, some (.imm (.val (.bool (((!t8) || (decide (x2 ≤ x0.End))) || (decide ((IntKind.wrap .i64 (x2 - x0.End)) > 3660)))))))] [(1000, some (.box [.imm (.val (.int .i64 x0.ID)), .imm (.val (.int .i64 x0.Twin)), .imm (.val (.int .i64 x0.Member)), .imm (.val (.int .i64 x0.Side)), .imm (.val (.int .i64 x0.Basket)), .imm (.val (.int .i64 x0.Amount)), .imm (.val (.int .i64 x0.Start)), .imm (.val (.int .i64 x0.End)), .imm (.row 2 (List.map api_Reset.enc x0.Resets)), .imm (.val (.int .i64 x0.Stage)), .imm (.val (.bool x0.Short))])), (1001, some (.box [.imm (.val (.int .i64 x1.ID)), .imm (.val (.int .i64 x1.Twin)), .imm (.val (.int .i64 x1.Member)), .imm (.val (.int .i64 x1.Side)), .imm (.val (.int .i64 x1.Basket)), .imm (.val (.int .i64 x1.Amount)), .imm (.val (.int .i64 x1.Start)), .imm (.val (.int .i64 x1.End)), .imm (.row 2 (List.map api_Reset.enc x1.Resets)), .imm (.val (.int .i64 x1.Stage)), .imm (.val (.bool x1.Short))])), (1002, some (.box [.imm (.val (.int .i64 0)), .imm (.val (.int .i64 0)), .imm (.val (.int .i64 0)), .imm (.val (.int .i64 0)), .imm (.val (.int .i64 0)), .imm (.val (.int .i64 0)), .imm (.val (.int .i64 0))]))] 1003) ?_ ?_
          · refine W.cond rfl (fun q12 => ?_) (fun q12 => ?_)
            · have h := ifT q12 h
              refine W.seq ?_
              refine W.pk ?_
              refine .v rfl rfl (O.build (out := [.imm (.val (.int .i64 0)), .imm (.val (.int .i64 0)), .imm (.val (.int .i64 0)), .imm (.val (.int .i64 0)), .imm (.val (.int .i64 0)), .imm (.val (.int .i64 0)), .imm (.val (.int .i64 0))]) bl38 rfl rfl rfl rfl rfl) ?_
              refine .s rfl rfl (O.st ty38 rfl rfl rfl rfl rfl rfl rfl rfl rfl rfl (all' := [.imm (.val (.int .i64 0)), .imm (.val (.int .i64 0)), .imm (.val (.int .i64 0)), .imm (.val (.int .i64 0)), .imm (.val (.int .i64 0)), .imm (.val (.int .i64 0)), .imm (.val (.int .i64 0))]) rfl) ?_
              refine .v rfl rfl (OpL.move (.inr rfl) rfl) ?_
              refine .nil ?_
              refine W.ret ?_
              cases h
              exact leaves (.inr rfl) rfl (.tup _ _ _ _ (cC (.agg _ _ _ _ (cC (.imm _) (cC (.imm _) (cC (.imm _) (cC (.imm _) (cC (.imm _) (cC (.imm _) (cC (.imm _) .nil)))))))) (cC (.imm _) .nil))) (cN (cN (cN (cN .nil)))) rfl rfl
            · have h := ifF q12 h
              refine W.skip ?_
              refine W.seq ?_
              refine W.pk ?_
              refine .v rfl rfl (O.fld fld24_2 rfl rfl rfl) ?_
              refine .v rfl rfl (O.ld ty3 rfl rfl rfl) ?_
              refine .v rfl rfl (O.fld fld24_2 rfl rfl rfl) ?_
              refine .v rfl rfl (O.ld ty3 rfl rfl rfl) ?_
              refine .v rfl rfl (O.fld fld24_4 rfl rfl rfl) ?_
              refine .v rfl rfl (O.ld ty3 rfl rfl rfl) ?_
              refine .v rfl rfl (O.fld fld24_5 rfl rfl rfl) ?_
              refine .v rfl rfl (O.ld ty3 rfl rfl rfl) ?_
              refine .v rfl rfl (OpL.move (.inl rfl) rfl) ?_
              refine .v rfl rfl (O.fld fld24_7 rfl rfl rfl) ?_
              refine .v rfl rfl (O.ld ty3 rfl rfl rfl) ?_
              refine .v rfl rfl (OpL.move (.inl rfl) rfl) ?_
              refine .v rfl rfl (O.build (out := [.imm (.val (.int .i64 x0.Member)), .imm (.val (.int .i64 x1.Member)), .imm (.val (.int .i64 x0.Basket)), .imm (.val (.int .i64 x0.Amount)), .imm (.val (.int .i64 x3)), .imm (.val (.int .i64 x0.End)), .imm (.val (.int .i64 x2))]) bl38 rfl rfl rfl rfl rfl) ?_
              refine .s rfl rfl (O.st ty38 rfl rfl rfl rfl rfl rfl rfl rfl rfl rfl (all' := [.imm (.val (.int .i64 x0.Member)), .imm (.val (.int .i64 x1.Member)), .imm (.val (.int .i64 x0.Basket)), .imm (.val (.int .i64 x0.Amount)), .imm (.val (.int .i64 x3)), .imm (.val (.int .i64 x0.End)), .imm (.val (.int .i64 x2))]) rfl) ?_
              refine .v rfl rfl (OpL.move (.inr rfl) rfl) ?_
              refine .nil ?_
              refine W.ret ?_
              cases h
              exact leaves (.inr rfl) rfl (.tup _ _ _ _ (cC (.agg _ _ _ _ (cC (.imm _) (cC (.imm _) (cC (.imm _) (cC (.imm _) (cC (.imm _) (cC (.imm _) (cC (.imm _) .nil)))))))) (cC (.imm _) .nil))) (cN (cN (cN (cN .nil)))) rfl rfl
          · clear h
            rcases tf t8 with g10 | g10
            · rcases tf (decide (x2 ≤ x0.End)) with g11 | g11
              · refine W.pk ?_
                refine .v rfl rfl (OpL.move (.inl rfl) rfl) ?_
                refine .call (.imm (.val (.bool t8))) [] 0 (lombardref02_Good.ok b9) rfl rfl rfl ca44 rfl rfl (cC (.imm _) .nil) rfl rfl rfl rfl rfl ?_
                refine .v rfl rfl (OpL.unV rfl rfl rfl) ?_
                refine .v rfl rfl (OpL.move (.inl rfl) rfl) ?_
                refine .v rfl (met rfl rfl rfl (notT g10)) (OpL.move (.inl rfl) rfl) ?_
                refine .v rfl (met rfl rfl rfl (notT g10)) (O.fld fld24_7 rfl rfl rfl) ?_
                refine .v rfl (met rfl rfl rfl (notT g10)) (O.ld ty3 rfl rfl rfl) ?_
                refine .v rfl (met rfl rfl rfl (notT g10)) (OpL.binI rfl rfl rfl rfl) ?_
                refine .v rfl rfl (O.pickF (notT g10) rfl rfl rfl) ?_
                refine .v rfl rfl (OpL.move (.inl rfl) rfl) ?_
                refine .x rfl (unmet rfl rfl rfl g11) ?_
                refine .x rfl (unmet rfl rfl rfl g11) ?_
                refine .x rfl (unmet rfl rfl rfl g11) ?_
                refine .x rfl (unmet rfl rfl rfl g11) ?_
                refine .x rfl (unmet rfl rfl rfl g11) ?_
                refine .v rfl rfl (O.pickT g11 rfl rfl rfl) ?_
                refine .nil ?_
                exact toN (Gives.mkR [] (.c rfl (.rfl _) rfl (.c rfl (.rfl _) rfl (.c rfl (.rfl _) rfl (.c rfl (.rfl _) rfl (.c rfl (.rfl _) rfl (.c rfl (sbb (by simp only [g10, g11, Bool.true_or, Bool.or_true, Bool.false_or, Bool.or_false, Bool.true_and, Bool.and_true, Bool.false_and, Bool.and_false, Bool.not_true, Bool.not_false, cond_true, cond_false])) rfl .n)))))) (.c rfl (.rfl _) rfl rfl (.c rfl (.rfl _) rfl rfl (.c rfl (.rfl _) rfl rfl .n))) rfl rfl rfl)
              · refine W.pk ?_
                refine .v rfl rfl (OpL.move (.inl rfl) rfl) ?_
                refine .call (.imm (.val (.bool t8))) [] 0 (lombardref02_Good.ok b9) rfl rfl rfl ca44 rfl rfl (cC (.imm _) .nil) rfl rfl rfl rfl rfl ?_
                refine .v rfl rfl (OpL.unV rfl rfl rfl) ?_
                refine .v rfl rfl (OpL.move (.inl rfl) rfl) ?_
                refine .v rfl (met rfl rfl rfl (notT g10)) (OpL.move (.inl rfl) rfl) ?_
                refine .v rfl (met rfl rfl rfl (notT g10)) (O.fld fld24_7 rfl rfl rfl) ?_
                refine .v rfl (met rfl rfl rfl (notT g10)) (O.ld ty3 rfl rfl rfl) ?_
                refine .v rfl (met rfl rfl rfl (notT g10)) (OpL.binI rfl rfl rfl rfl) ?_
                refine .v rfl rfl (O.pickF (notT g10) rfl rfl rfl) ?_
                refine .v rfl rfl (OpL.move (.inl rfl) rfl) ?_
                refine .v rfl (met rfl rfl rfl g11) (OpL.move (.inl rfl) rfl) ?_
                refine .v rfl (met rfl rfl rfl g11) (O.fld fld24_7 rfl rfl rfl) ?_
                refine .v rfl (met rfl rfl rfl g11) (O.ld ty3 rfl rfl rfl) ?_
                refine .v rfl (met rfl rfl rfl g11) (OpL.binI rfl rfl rfl rfl) ?_
                refine .v rfl (met rfl rfl rfl g11) (OpL.binI rfl rfl rfl rfl) ?_
                refine .v rfl rfl (O.pickF g11 rfl rfl rfl) ?_
                refine .nil ?_
                exact toN (Gives.mkR [] (.c rfl (.rfl _) rfl (.c rfl (.rfl _) rfl (.c rfl (.rfl _) rfl (.c rfl (.rfl _) rfl (.c rfl (.rfl _) rfl (.c rfl (sbb (by simp only [g10, g11, Bool.true_or, Bool.or_true, Bool.false_or, Bool.or_false, Bool.true_and, Bool.and_true, Bool.false_and, Bool.and_false, Bool.not_true, Bool.not_false, cond_true, cond_false])) rfl .n)))))) (.c rfl (.rfl _) rfl rfl (.c rfl (.rfl _) rfl rfl (.c rfl (.rfl _) rfl rfl .n))) rfl rfl rfl)
            · refine W.pk ?_
              refine .v rfl rfl (OpL.move (.inl rfl) rfl) ?_
              refine .call (.imm (.val (.bool t8))) [] 0 (lombardref02_Good.ok b9) rfl rfl rfl ca44 rfl rfl (cC (.imm _) .nil) rfl rfl rfl rfl rfl ?_
              refine .v rfl rfl (OpL.unV rfl rfl rfl) ?_
              refine .v rfl rfl (OpL.move (.inl rfl) rfl) ?_
              refine .x rfl (unmet rfl rfl rfl (notF g10)) ?_
              refine .x rfl (unmet rfl rfl rfl (notF g10)) ?_
              refine .x rfl (unmet rfl rfl rfl (notF g10)) ?_
              refine .x rfl (unmet rfl rfl rfl (notF g10)) ?_
              refine .v rfl rfl (O.pickT (notF g10) rfl rfl rfl) ?_
              refine .v rfl rfl (OpL.move (.inl rfl) rfl) ?_
              refine .x rfl (unmet rfl rfl rfl rfl) ?_
              refine .x rfl (unmet rfl rfl rfl rfl) ?_
              refine .x rfl (unmet rfl rfl rfl rfl) ?_
              refine .x rfl (unmet rfl rfl rfl rfl) ?_
              refine .x rfl (unmet rfl rfl rfl rfl) ?_
              refine .v rfl rfl (O.pickT rfl rfl rfl rfl) ?_
              refine .nil ?_
              exact toN (Gives.mkR [] (.c rfl (.rfl _) rfl (.c rfl (.rfl _) rfl (.c rfl (.rfl _) rfl (.c rfl (.rfl _) rfl (.c rfl (.rfl _) rfl (.c rfl (sbb (by simp only [g10, Bool.true_or, Bool.or_true, Bool.false_or, Bool.or_false, Bool.true_and, Bool.and_true, Bool.false_and, Bool.and_false, Bool.not_true, Bool.not_false, cond_true, cond_false])) rfl .n)))))) (.c rfl (.rfl _) rfl rfl (.c rfl (.rfl _) rfl rfl (.c rfl (.rfl _) rfl rfl .n))) rfl rfl rfl)
      · clear h
        rcases tf (x0.Side != 1) with g5 | g5
        · refine W.pk ?_
          refine .v rfl rfl (O.fld fld24_3 rfl rfl rfl) ?_
          refine .v rfl rfl (O.ld ty3 rfl rfl rfl) ?_
          refine .v rfl rfl (OpL.binI rfl rfl rfl rfl) ?_
          refine .v rfl rfl (OpL.move (.inl rfl) rfl) ?_
          refine .x rfl (unmet rfl rfl rfl g5) ?_
          refine .x rfl (unmet rfl rfl rfl g5) ?_
          refine .x rfl (unmet rfl rfl rfl g5) ?_
          refine .v rfl rfl (O.pickT g5 rfl rfl rfl) ?_
          refine .v rfl rfl (OpL.move (.inl rfl) rfl) ?_
          refine .x rfl (unmet rfl rfl rfl rfl) ?_
          refine .x rfl (unmet rfl rfl rfl rfl) ?_
          refine .x rfl (unmet rfl rfl rfl rfl) ?_
          refine .x rfl (unmet rfl rfl rfl rfl) ?_
          refine .x rfl (unmet rfl rfl rfl rfl) ?_
          refine .v rfl rfl (O.pickT rfl rfl rfl rfl) ?_
          refine .nil ?_
          exact toN (Gives.mkR [] (.c rfl (.rfl _) rfl (.c rfl (.rfl _) rfl (.c rfl (.rfl _) rfl (.c rfl (.rfl _) rfl (.c rfl (.rfl _) rfl (.c rfl (sbb (by simp only [g5, Bool.true_or, Bool.or_true, Bool.false_or, Bool.or_false, Bool.true_and, Bool.and_true, Bool.false_and, Bool.and_false, Bool.not_true, Bool.not_false, cond_true, cond_false])) rfl .n)))))) (.c rfl (.rfl _) rfl rfl (.c rfl (.rfl _) rfl rfl (.c rfl (.rfl _) rfl rfl .n))) rfl rfl rfl)
        · rcases tf (x1.Side != 2) with g6 | g6
          · refine W.pk ?_
            refine .v rfl rfl (O.fld fld24_3 rfl rfl rfl) ?_
            refine .v rfl rfl (O.ld ty3 rfl rfl rfl) ?_
            refine .v rfl rfl (OpL.binI rfl rfl rfl rfl) ?_
            refine .v rfl rfl (OpL.move (.inl rfl) rfl) ?_
            refine .v rfl (met rfl rfl rfl g5) (O.fld fld24_3 rfl rfl rfl) ?_
            refine .v rfl (met rfl rfl rfl g5) (O.ld ty3 rfl rfl rfl) ?_
            refine .v rfl (met rfl rfl rfl g5) (OpL.binI rfl rfl rfl rfl) ?_
            refine .v rfl rfl (O.pickF g5 rfl rfl rfl) ?_
            refine .v rfl rfl (OpL.move (.inl rfl) rfl) ?_
            refine .x rfl (unmet rfl rfl rfl g6) ?_
            refine .x rfl (unmet rfl rfl rfl g6) ?_
            refine .x rfl (unmet rfl rfl rfl g6) ?_
            refine .x rfl (unmet rfl rfl rfl g6) ?_
            refine .x rfl (unmet rfl rfl rfl g6) ?_
            refine .v rfl rfl (O.pickT g6 rfl rfl rfl) ?_
            refine .nil ?_
            exact toN (Gives.mkR [] (.c rfl (.rfl _) rfl (.c rfl (.rfl _) rfl (.c rfl (.rfl _) rfl (.c rfl (.rfl _) rfl (.c rfl (.rfl _) rfl (.c rfl (sbb (by simp only [g5, g6, Bool.true_or, Bool.or_true, Bool.false_or, Bool.or_false, Bool.true_and, Bool.and_true, Bool.false_and, Bool.and_false, Bool.not_true, Bool.not_false, cond_true, cond_false])) rfl .n)))))) (.c rfl (.rfl _) rfl rfl (.c rfl (.rfl _) rfl rfl (.c rfl (.rfl _) rfl rfl .n))) rfl rfl rfl)
          · refine W.pk ?_
            refine .v rfl rfl (O.fld fld24_3 rfl rfl rfl) ?_
            refine .v rfl rfl (O.ld ty3 rfl rfl rfl) ?_
            refine .v rfl rfl (OpL.binI rfl rfl rfl rfl) ?_
            refine .v rfl rfl (OpL.move (.inl rfl) rfl) ?_
            refine .v rfl (met rfl rfl rfl g5) (O.fld fld24_3 rfl rfl rfl) ?_
            refine .v rfl (met rfl rfl rfl g5) (O.ld ty3 rfl rfl rfl) ?_
            refine .v rfl (met rfl rfl rfl g5) (OpL.binI rfl rfl rfl rfl) ?_
            refine .v rfl rfl (O.pickF g5 rfl rfl rfl) ?_
            refine .v rfl rfl (OpL.move (.inl rfl) rfl) ?_
            refine .v rfl (met rfl rfl rfl g6) (O.fld fld24_1 rfl rfl rfl) ?_
            refine .v rfl (met rfl rfl rfl g6) (O.ld ty3 rfl rfl rfl) ?_
            refine .v rfl (met rfl rfl rfl g6) (O.fld fld24_0 rfl rfl rfl) ?_
            refine .v rfl (met rfl rfl rfl g6) (O.ld ty3 rfl rfl rfl) ?_
            refine .v rfl (met rfl rfl rfl g6) (OpL.binI rfl rfl rfl rfl) ?_
            refine .v rfl rfl (O.pickF g6 rfl rfl rfl) ?_
            refine .nil ?_
            exact toN (Gives.mkR [] (.c rfl (.rfl _) rfl (.c rfl (.rfl _) rfl (.c rfl (.rfl _) rfl (.c rfl (.rfl _) rfl (.c rfl (.rfl _) rfl (.c rfl (sbb (by simp only [g5, g6, Bool.true_or, Bool.or_true, Bool.false_or, Bool.or_false, Bool.true_and, Bool.and_true, Bool.false_and, Bool.and_false, Bool.not_true, Bool.not_false, cond_true, cond_false])) rfl .n)))))) (.c rfl (.rfl _) rfl rfl (.c rfl (.rfl _) rfl rfl (.c rfl (.rfl _) rfl rfl .n))) rfl rfl rfl)
  · clear h
    rcases tf (x0.End == 0) with g3 | g3
    · refine W.pk ?_
      refine .v rfl rfl (O.fld fld24_7 rfl rfl rfl) ?_
      refine .v rfl rfl (O.ld ty3 rfl rfl rfl) ?_
      refine .v rfl rfl (OpL.binI rfl rfl rfl rfl) ?_
      refine .v rfl rfl (OpL.move (.inl rfl) rfl) ?_
      refine .x rfl (unmet rfl rfl rfl g3) ?_
      refine .x rfl (unmet rfl rfl rfl g3) ?_
      refine .x rfl (unmet rfl rfl rfl g3) ?_
      refine .v rfl rfl (O.pickT g3 rfl rfl rfl) ?_
      refine .nil ?_
      exact toN (Gives.mkR [] (.c rfl (.rfl _) rfl (.c rfl (.rfl _) rfl (.c rfl (.rfl _) rfl (.c rfl (.rfl _) rfl (.c rfl (.rfl _) rfl (.c rfl (sbb (by simp only [g3, Bool.true_or, Bool.or_true, Bool.false_or, Bool.or_false, Bool.true_and, Bool.and_true, Bool.false_and, Bool.and_false, Bool.not_true, Bool.not_false, cond_true, cond_false])) rfl .n)))))) (.c rfl (.rfl _) rfl rfl (.c rfl (.rfl _) rfl rfl (.c rfl (.rfl _) rfl rfl .n))) rfl rfl rfl)
    · refine W.pk ?_
      refine .v rfl rfl (O.fld fld24_7 rfl rfl rfl) ?_
      refine .v rfl rfl (O.ld ty3 rfl rfl rfl) ?_
      refine .v rfl rfl (OpL.binI rfl rfl rfl rfl) ?_
      refine .v rfl rfl (OpL.move (.inl rfl) rfl) ?_
      refine .v rfl (met rfl rfl rfl g3) (O.ldN ty24 rfl rfl rfl) ?_
      refine .call (.imm (.val (.bool t1))) [] 0 (lombardref24_Live.ok ((if_pos (by simp only [g3, Bool.true_or, Bool.or_true, Bool.false_or, Bool.or_false, Bool.true_and, Bool.and_true, Bool.false_and, Bool.and_false, Bool.not_true, Bool.not_false, cond_true, cond_false])).symm.trans b2)) rfl (met rfl rfl rfl g3) rfl ca36 rfl rfl (cC (.agg _ _ _ _ (cC (.imm _) (cC (.imm _) (cC (.imm _) (cC (.imm _) (cC (.imm _) (cC (.imm _) (cC (.imm _) (cC (.imm _) (cC (.imm _) (cC (.imm _) (cC (.imm _) .nil)))))))))))) .nil) rfl rfl rfl rfl rfl ?_
      refine .v rfl (met rfl rfl rfl g3) (OpL.unV rfl rfl rfl) ?_
      refine .v rfl rfl (O.pickF g3 rfl rfl rfl) ?_
      refine .nil ?_
      exact toN (Gives.mkR [] (.c rfl (.rfl _) rfl (.c rfl (.rfl _) rfl (.c rfl (.rfl _) rfl (.c rfl (.rfl _) rfl (.c rfl (.rfl _) rfl (.c rfl (sbb (by simp only [g3, Bool.true_or, Bool.or_true, Bool.false_or, Bool.or_false, Bool.true_and, Bool.and_true, Bool.false_and, Bool.and_false, Bool.not_true, Bool.not_false, cond_true, cond_false])) rfl .n)))))) (.c rfl (.rfl _) rfl rfl (.c rfl (.rfl _) rfl rfl (.c rfl (.rfl _) rfl rfl .n))) rfl rfl rfl)

noncomputable def life_Left.f (x0 : api_Trade) (x1 : Int) : Option (Int) :=
  (life_Open.f x0).bind fun t1 =>
  if t1 = true then
    some (-1)
  else
    some (maxI 0 (IntKind.wrap .i64 (x0.End - (maxI 0 (minI x1 200000)))))
set_option maxRecDepth 100000 in
set_option maxHeartbeats 4000000 in
theorem life_Left.ok {x0 : api_Trade} {x1 : Int} {r : Int} (h : life_Left.f x0 x1 = some r) : Pm.Spec prog 21 [.agg [.imm (.val (.int .i64 x0.ID)), .imm (.val (.int .i64 x0.Twin)), .imm (.val (.int .i64 x0.Member)), .imm (.val (.int .i64 x0.Side)), .imm (.val (.int .i64 x0.Basket)), .imm (.val (.int .i64 x0.Amount)), .imm (.val (.int .i64 x0.Start)), .imm (.val (.int .i64 x0.End)), .imm (.row 2 (List.map api_Reset.enc x0.Resets)), .imm (.val (.int .i64 x0.Stage)), .imm (.val (.bool x0.Short))], .imm (.val (.int .i64 x1))] (.imm (.val (.int .i64 r))) [none, none] := by
  unfold life_Left.f at h
  refine Pm.Spec.of_body Try.func21 rfl (by kernel_rfl) (Nat.le_of_ble_eq_true rfl) (Nat.le_of_ble_eq_true rfl) ?_
  refine W.ghost (σ' := (mkSt [(0, some (.agg [.imm (.val (.int .i64 x0.ID)), .imm (.val (.int .i64 x0.Twin)), .imm (.val (.int .i64 x0.Member)), .imm (.val (.int .i64 x0.Side)), .imm (.val (.int .i64 x0.Basket)), .imm (.val (.int .i64 x0.Amount)), .imm (.val (.int .i64 x0.Start)), .imm (.val (.int .i64 x0.End)), .imm (.row 2 (List.map api_Reset.enc x0.Resets)), .imm (.val (.int .i64 x0.Stage)), .imm (.val (.bool x0.Short))])), (1, some (.imm (.val (.int .i64 x1))))] [] 1000)) (Gives.entry (.c rfl (.c rfl .n)) .n) ?_
  refine W.seq ?_
  refine W.pk ?_
  refine .t rfl rfl (O.box rfl rfl rfl rfl rfl) ?_
  refine .v rfl rfl (OpL.move (.inr rfl) rfl) ?_
  refine .nil ?_
  refine W.seq ?_
  refine W.seq ?_
  obtain ⟨t1, b2, h⟩ := bnd1 h
  refine W.pk ?_
  refine .v rfl rfl (O.ldN ty24 rfl rfl rfl) ?_
  refine .call (.imm (.val (.bool t1))) [] 0 (life_Open.ok b2) rfl rfl rfl ca34 rfl rfl (cC (.agg _ _ _ _ (cC (.imm _) (cC (.imm _) (cC (.imm _) (cC (.imm _) (cC (.imm _) (cC (.imm _) (cC (.imm _) (cC (.imm _) (cC (.imm _) (cC (.imm _) (cC (.imm _) .nil)))))))))))) .nil) rfl rfl rfl rfl rfl ?_
  refine .nil ?_
  refine W.cond rfl (fun q3 => ?_) (fun q3 => ?_)
  · have h := ifT q3 h
    refine W.seq ?_
    refine W.pk ?_
    refine .v rfl rfl (OpL.move (.inr rfl) rfl) ?_
    refine .nil ?_
    refine W.ret ?_
    cases h
    exact leaves (.inr rfl) rfl (.imm _) (cN (cN .nil)) rfl rfl
  · have h := ifF q3 h
    refine W.skip ?_
    refine W.seq ?_
    refine W.pk ?_
    refine .v rfl rfl (O.fld fld24_7 rfl rfl rfl) ?_
    refine .v rfl rfl (O.ld ty3 rfl rfl rfl) ?_
    refine .v rfl rfl (OpL.move (.inl rfl) rfl) ?_
    refine .v rfl rfl (O.min2 rfl rfl rfl) ?_
    refine .v rfl rfl (O.max2 rfl rfl rfl) ?_
    refine .v rfl rfl (OpL.binI rfl rfl rfl rfl) ?_
    refine .v rfl rfl (O.max2 rfl rfl rfl) ?_
    refine .v rfl rfl (OpL.move (.inr rfl) rfl) ?_
    refine .nil ?_
    refine W.ret ?_
    cases h
    exact leaves (.inr rfl) rfl (.imm _) (cN (cN .nil)) rfl rfl
end Go.Proofs.Ytknfdnlhadjbaaa
