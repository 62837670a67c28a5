/- Shows what functions of the program come to, each as a plain function: written by a program of the author's for this claim. -/
import Derived.Test.YtidinbjehfodoaaGx8
namespace Go.Proofs.Ytidinbjehfodoaa
open Go Go.Pm
set_option linter.unusedVariables false
set_option linter.unusedSimpArgs false
noncomputable def lombardlaw23_TradeChecks.f (x0 : api_Fill) (x1 : api_Trade) (x2 : api_Trade) : Option (Bool) :=
  if ((decide ((List.length x1.Resets : Int) > 80)) || (decide ((List.length x2.Resets : Int) > 80))) = true then
    (lombardlaw23_awake.f).bind fun t3 =>
    some t3
  else
    (trade_Fill.f x0).bind fun t5 =>
    (lombardref23_Fill.f x0).bind fun t7 =>
    (if (t5 == t7) = true then trade_Check.f x1 else some default).bind fun t9 =>
    (if (t5 == t7) = true then lombardref23_Check.f x1 else some default).bind fun t11 =>
    (if ((t5 == t7) && (t9 == t11)) = true then trade_Twins.f x1 x2 else some default).bind fun t13 =>
    (if ((t5 == t7) && (t9 == t11)) = true then lombardref23_Twins.f x1 x2 else some default).bind fun t15 =>
    (if (((t5 == t7) && (t9 == t11)) && (t13 == t15)) = true then lombardlaw23_awake.f else some default).bind fun t17 =>
    some ((((t5 == t7) && (t9 == t11)) && (t13 == t15)) && t17)
set_option maxRecDepth 100000 in
set_option maxHeartbeats 4000000 in
theorem lombardlaw23_TradeChecks.ok {x0 : api_Fill} {x1 : api_Trade} {x2 : api_Trade} {r : Bool} (h : lombardlaw23_TradeChecks.f x0 x1 x2 = some r) : Pm.Spec prog 3 [.agg [.imm (.val (.int .i64 x0.Lender)), .imm (.val (.int .i64 x0.Borrower)), .imm (.val (.int .i64 x0.Basket)), .imm (.val (.int .i64 x0.Amount)), .imm (.val (.int .i64 x0.Rate)), .imm (.val (.int .i64 x0.Start)), .imm (.val (.int .i64 x0.End))], .agg [.imm (.val (.int .i64 x1.ID)), .imm (.val (.int .i64 x1.Twin)), .imm (.val (.int .i64 x1.Member)), .imm (.val (.int .i64 x1.Side)), .imm (.val (.int .i64 x1.Basket)), .imm (.val (.int .i64 x1.Amount)), .imm (.val (.int .i64 x1.Start)), .imm (.val (.int .i64 x1.End)), .imm (.row 2 (List.map api_Reset.enc x1.Resets)), .imm (.val (.int .i64 x1.Stage)), .imm (.val (.bool x1.Short))], .agg [.imm (.val (.int .i64 x2.ID)), .imm (.val (.int .i64 x2.Twin)), .imm (.val (.int .i64 x2.Member)), .imm (.val (.int .i64 x2.Side)), .imm (.val (.int .i64 x2.Basket)), .imm (.val (.int .i64 x2.Amount)), .imm (.val (.int .i64 x2.Start)), .imm (.val (.int .i64 x2.End)), .imm (.row 2 (List.map api_Reset.enc x2.Resets)), .imm (.val (.int .i64 x2.Stage)), .imm (.val (.bool x2.Short))]] (.imm (.val (.bool r))) [none, none, none] := by
  unfold lombardlaw23_TradeChecks.f at h
  refine Pm.Spec.of_body Try.func3 rfl (by kernel_rfl) (Nat.le_of_ble_eq_true rfl) (Nat.le_of_ble_eq_true rfl) ?_
  refine W.ghost (σ' := (mkSt [(0, some (.agg (api_Fill.av x0))), (1, some (.agg (api_Trade.av x1))), (2, some (.agg (api_Trade.av x2)))] [] 1000)) (Gives.entry (.c rfl (.c rfl (.c rfl .n))) .n) ?_
  refine W.seq ?_
  refine W.pk ?_
  refine .t rfl rfl (O.box rfl rfl rfl rfl rfl) ?_
  refine .t rfl rfl (O.box rfl rfl rfl rfl rfl) ?_
  refine .t rfl rfl (O.box rfl rfl rfl rfl rfl) ?_
  refine .v rfl rfl (OpL.move (.inr rfl) rfl) ?_
  refine .nil ?_
  refine W.seq ?_
  refine W.seq ?_
  refine W.fork (mkSt [(3, some (.ptr 1000 0)), (4, some (.ptr 1001 0)), (5, some (.ptr 1002 0)), (16, some (.b ((decide ((List.length x1.Resets : Int) > 80)) || (decide ((List.length x2.Resets : Int) > 80)))))] [(1000, some (.box [.i x0.Lender, .i x0.Borrower, .i x0.Basket, .i x0.Amount, .i x0.Rate, .i x0.Start, .i x0.End])), (1001, some (.box [.i x1.ID, .i x1.Twin, .i x1.Member, .i x1.Side, .i x1.Basket, .i x1.Amount, .i x1.Start, .i x1.End, .imm (.row 2 (List.map api_Reset.enc x1.Resets)), .i x1.Stage, .b x1.Short])), (1002, some (.box [.i x2.ID, .i x2.Twin, .i x2.Member, .i x2.Side, .i x2.Basket, .i x2.Amount, .i x2.Start, .i x2.End, .imm (.row 2 (List.map api_Reset.enc x2.Resets)), .i x2.Stage, .b x2.Short]))] 1003) ?_ ?_
  · refine W.cond rfl (fun q2 => ?_) (fun q2 => ?_)
    · have h := ifT q2 h
      refine W.seq ?_
      obtain ⟨t3, b4, h⟩ := bnd1 h
      refine W.pk ?_
      refine .call (.b t3) [] 0 (lombardlaw23_awake.ok b4) rfl rfl rfl ca8 rfl rfl .nil rfl rfl rfl rfl rfl ?_
      refine .v rfl rfl (OpL.move (.inr rfl) rfl) ?_
      refine .nil ?_
      refine W.ret ?_
      cases h
      exact leaves (.inr rfl) rfl (.imm _) (cN (cN (cN .nil))) rfl rfl
    · have h := ifF q2 h
      refine W.skip ?_
      refine W.seq ?_
      obtain ⟨t5, b6, h⟩ := bnd1 h
      obtain ⟨t7, b8, h⟩ := bnd1 h
      obtain ⟨t9, b10, h⟩ := bnd1 h
      obtain ⟨t11, b12, h⟩ := bnd1 h
      obtain ⟨t13, b14, h⟩ := bnd1 h
      obtain ⟨t15, b16, h⟩ := bnd1 h
      obtain ⟨t17, b18, h⟩ := bnd1 h
      refine W.fork (mkSt [(6, some (.b ((((t5 == t7) && (t9 == t11)) && (t13 == t15)) && t17)))] [] 1003) ?_ ?_
      · refine W.ret ?_
        cases h
        exact leaves (.inr rfl) rfl (.imm _) (cN (cN (cN .nil))) rfl rfl
      · clear h
        rcases tf (t5 == t7) with g19 | g19
        · rcases tf (t9 == t11) with g20 | g20
          · rcases tf (t13 == t15) with g21 | g21
            · refine W.dk [[], [0], [], [0, 1, 2], [0, 1, 2, 3], [0, 1, 2, 3, 4], [0, 1, 2, 3, 4, 5], [0, 1, 2, 3, 4, 5, 6], [0, 1, 2, 3, 4, 5], [0, 1, 2, 3, 4, 5, 6, 7, 8], [0, 1, 2, 3, 4, 5, 6, 7, 8, 9], [0, 1, 2, 3, 4, 5, 6, 7, 8, 9, 10], [0, 1, 2, 3, 4, 5, 6, 7, 8, 9, 10, 11], [0, 1, 2, 3, 4, 5, 6, 7, 8, 9, 10, 11, 12], [0, 1, 2, 3, 4, 5, 6, 7, 8, 9, 10, 11, 12], [0, 1, 2, 3, 4, 5, 6, 7, 8, 9, 10, 11, 12, 13, 14], [0, 1, 2, 3, 4, 5, 6, 7, 8, 9, 10, 11, 12], [0, 1, 2, 3, 4, 5, 6, 7, 8, 9, 10, 11, 12], [0, 1, 2, 3, 4, 5, 6, 7, 8, 9, 10, 11, 12, 13, 14, 15, 16, 17], [0, 1, 2, 3, 4, 5, 6, 7, 8, 9, 10, 11, 12, 13, 14, 15, 16, 17, 18], [0, 1, 2, 3, 4, 5, 6, 7, 8, 9, 10, 11, 12, 13, 14, 15, 16, 17, 18, 19], [0, 1, 2, 3, 4, 5, 6, 7, 8, 9, 10, 11, 12, 13, 14, 15, 16, 17, 18, 19, 20], [0, 1, 2, 3, 4, 5, 6, 7, 8, 9, 10, 11, 12, 13, 14, 15, 16, 17, 18, 19, 20, 21], [0, 1, 2, 3, 4, 5, 6, 7, 8, 9, 10, 11, 12, 13, 14, 15, 16, 17, 18, 19, 20, 21, 22], [0, 1, 2, 3, 4, 5, 6, 7, 8, 9, 10, 11, 12, 13, 14, 15, 16, 17, 18, 19, 20, 21, 22, 23]] rfl (by kernel_rfl) ?_
              refine .v rfl rfl (O.ldN ty23 rfl rfl rfl) ?_
              refine .call (.i t5) [] 0 (trade_Fill.ok b6) rfl rfl rfl ca9 rfl rfl (cC (.agg _ _ _ _ (cC (.imm _) (cC (.imm _) (cC (.imm _) (cC (.imm _) (cC (.imm _) (cC (.imm _) (cC (.imm _) .nil)))))))) .nil) rfl rfl rfl rfl rfl ?_
              refine .v rfl rfl (O.ldN ty23 rfl rfl rfl) ?_
              refine .call (.i t7) [] 0 (lombardref23_Fill.ok b8) rfl rfl rfl ca10 rfl rfl (cC (.agg _ _ _ _ (cC (.imm _) (cC (.imm _) (cC (.imm _) (cC (.imm _) (cC (.imm _) (cC (.imm _) (cC (.imm _) .nil)))))))) .nil) rfl rfl rfl rfl rfl ?_
              refine .v rfl rfl (OpL.binI rfl rfl rfl rfl) ?_
              refine .v rfl rfl (OpL.move (.inl rfl) rfl) ?_
              refine .v rfl (met rfl rfl rfl g19) (O.ldN ty26 rfl rfl rfl) ?_
              refine .call (.i t9) [] 0 (trade_Check.ok ((if_pos (by first | (simp only [g19, g20, g21, Bool.true_or, Bool.or_true, Bool.false_or, Bool.or_false, Bool.true_and, Bool.and_true, Bool.false_and, Bool.and_false, Bool.not_true, Bool.not_false, cond_true, cond_false]; done) | (repeat (first | rw [g19] | rw [g20] | rw [g21])) <;> simp only [Bool.true_or, Bool.or_true, Bool.false_or, Bool.or_false, Bool.true_and, Bool.and_true, Bool.false_and, Bool.and_false, Bool.not_true, Bool.not_false, cond_true, cond_false])).symm.trans b10)) rfl (met rfl rfl rfl g19) rfl ca11 rfl rfl (cC (.agg _ _ _ _ (cC (.imm _) (cC (.imm _) (cC (.imm _) (cC (.imm _) (cC (.imm _) (cC (.imm _) (cC (.imm _) (cC (.imm _) (cC (.imm _) (cC (.imm _) (cC (.imm _) .nil)))))))))))) .nil) rfl rfl rfl rfl rfl ?_
              refine .v rfl (met rfl rfl rfl g19) (O.ldN ty26 rfl rfl rfl) ?_
              refine .call (.i t11) [] 0 (lombardref23_Check.ok ((if_pos (by first | (simp only [g19, g20, g21, Bool.true_or, Bool.or_true, Bool.false_or, Bool.or_false, Bool.true_and, Bool.and_true, Bool.false_and, Bool.and_false, Bool.not_true, Bool.not_false, cond_true, cond_false]; done) | (repeat (first | rw [g19] | rw [g20] | rw [g21])) <;> simp only [Bool.true_or, Bool.or_true, Bool.false_or, Bool.or_false, Bool.true_and, Bool.and_true, Bool.false_and, Bool.and_false, Bool.not_true, Bool.not_false, cond_true, cond_false])).symm.trans b12)) rfl (met rfl rfl rfl g19) rfl ca12 rfl rfl (cC (.agg _ _ _ _ (cC (.imm _) (cC (.imm _) (cC (.imm _) (cC (.imm _) (cC (.imm _) (cC (.imm _) (cC (.imm _) (cC (.imm _) (cC (.imm _) (cC (.imm _) (cC (.imm _) .nil)))))))))))) .nil) rfl rfl rfl rfl rfl ?_
              refine .v rfl (met rfl rfl rfl g19) (OpL.binI rfl rfl rfl rfl) ?_
              refine .v rfl rfl (O.pickT g19 rfl rfl rfl) ?_
              refine .v rfl rfl (OpL.move (.inl rfl) rfl) ?_
              refine .v rfl (met rfl rfl rfl g20) (O.ldN ty26 rfl rfl rfl) ?_
              refine .v rfl (met rfl rfl rfl g20) (O.ldN ty26 rfl rfl rfl) ?_
              refine .call (.b t13) [] 0 (trade_Twins.ok ((if_pos (by first | (simp only [g19, g20, g21, Bool.true_or, Bool.or_true, Bool.false_or, Bool.or_false, Bool.true_and, Bool.and_true, Bool.false_and, Bool.and_false, Bool.not_true, Bool.not_false, cond_true, cond_false]; done) | (repeat (first | rw [g19] | rw [g20] | rw [g21])) <;> simp only [Bool.true_or, Bool.or_true, Bool.false_or, Bool.or_false, Bool.true_and, Bool.and_true, Bool.false_and, Bool.and_false, Bool.not_true, Bool.not_false, cond_true, cond_false])).symm.trans b14)) rfl (met rfl rfl rfl g20) rfl ca13 rfl rfl (cC (.agg _ _ _ _ (cC (.imm _) (cC (.imm _) (cC (.imm _) (cC (.imm _) (cC (.imm _) (cC (.imm _) (cC (.imm _) (cC (.imm _) (cC (.imm _) (cC (.imm _) (cC (.imm _) .nil)))))))))))) (cC (.agg _ _ _ _ (cC (.imm _) (cC (.imm _) (cC (.imm _) (cC (.imm _) (cC (.imm _) (cC (.imm _) (cC (.imm _) (cC (.imm _) (cC (.imm _) (cC (.imm _) (cC (.imm _) .nil)))))))))))) .nil)) rfl rfl rfl rfl rfl ?_
              refine .v rfl (met rfl rfl rfl g20) (O.ldN ty26 rfl rfl rfl) ?_
              refine .v rfl (met rfl rfl rfl g20) (O.ldN ty26 rfl rfl rfl) ?_
              refine .call (.b t15) [] 0 (lombardref23_Twins.ok ((if_pos (by first | (simp only [g19, g20, g21, Bool.true_or, Bool.or_true, Bool.false_or, Bool.or_false, Bool.true_and, Bool.and_true, Bool.false_and, Bool.and_false, Bool.not_true, Bool.not_false, cond_true, cond_false]; done) | (repeat (first | rw [g19] | rw [g20] | rw [g21])) <;> simp only [Bool.true_or, Bool.or_true, Bool.false_or, Bool.or_false, Bool.true_and, Bool.and_true, Bool.false_and, Bool.and_false, Bool.not_true, Bool.not_false, cond_true, cond_false])).symm.trans b16)) rfl (met rfl rfl rfl g20) rfl ca14 rfl rfl (cC (.agg _ _ _ _ (cC (.imm _) (cC (.imm _) (cC (.imm _) (cC (.imm _) (cC (.imm _) (cC (.imm _) (cC (.imm _) (cC (.imm _) (cC (.imm _) (cC (.imm _) (cC (.imm _) .nil)))))))))))) (cC (.agg _ _ _ _ (cC (.imm _) (cC (.imm _) (cC (.imm _) (cC (.imm _) (cC (.imm _) (cC (.imm _) (cC (.imm _) (cC (.imm _) (cC (.imm _) (cC (.imm _) (cC (.imm _) .nil)))))))))))) .nil)) rfl rfl rfl rfl rfl ?_
              refine .v rfl (met rfl rfl rfl g20) (OpL.eqB rfl u4 rfl rfl) ?_
              refine .v rfl rfl (O.pickT g20 rfl rfl rfl) ?_
              refine .v rfl rfl (OpL.move (.inl rfl) rfl) ?_
              refine .call (.b t17) [] 0 (lombardlaw23_awake.ok ((if_pos (by first | (simp only [g19, g20, g21, Bool.true_or, Bool.or_true, Bool.false_or, Bool.or_false, Bool.true_and, Bool.and_true, Bool.false_and, Bool.and_false, Bool.not_true, Bool.not_false, cond_true, cond_false]; done) | (repeat (first | rw [g19] | rw [g20] | rw [g21])) <;> simp only [Bool.true_or, Bool.or_true, Bool.false_or, Bool.or_false, Bool.true_and, Bool.and_true, Bool.false_and, Bool.and_false, Bool.not_true, Bool.not_false, cond_true, cond_false])).symm.trans b18)) rfl (met rfl rfl rfl g21) rfl ca8 rfl rfl .nil rfl rfl rfl rfl rfl ?_
              refine .v rfl rfl (O.pickT g21 rfl rfl rfl) ?_
              refine .v rfl rfl (OpL.move (.inr rfl) rfl) ?_
              refine .nil ?_
              refine ⟨by kernel_rfl, by kernel_rfl, ?_⟩
              exact toN (Gives.mkR [] (.c rfl (sbb (by first | (simp only [g19, g20, g21, Bool.true_or, Bool.or_true, Bool.false_or, Bool.or_false, Bool.true_and, Bool.and_true, Bool.false_and, Bool.and_false, Bool.not_true, Bool.not_false, cond_true, cond_false]; done) | (repeat (first | rw [g19] | rw [g20] | rw [g21])) <;> simp only [Bool.true_or, Bool.or_true, Bool.false_or, Bool.or_false, Bool.true_and, Bool.and_true, Bool.false_and, Bool.and_false, Bool.not_true, Bool.not_false, cond_true, cond_false])) rfl .n) .n rfl rfl rfl)
            · refine W.dk [[], [0], [], [0, 1, 2], [0, 1, 2, 3], [0, 1, 2, 3, 4], [0, 1, 2, 3, 4, 5], [0, 1, 2, 3, 4, 5, 6], [0, 1, 2, 3, 4, 5], [0, 1, 2, 3, 4, 5, 6, 7, 8], [0, 1, 2, 3, 4, 5, 6, 7, 8, 9], [0, 1, 2, 3, 4, 5, 6, 7, 8, 9, 10], [0, 1, 2, 3, 4, 5, 6, 7, 8, 9, 10, 11], [0, 1, 2, 3, 4, 5, 6, 7, 8, 9, 10, 11, 12], [0, 1, 2, 3, 4, 5, 6, 7, 8, 9, 10, 11, 12], [0, 1, 2, 3, 4, 5, 6, 7, 8, 9, 10, 11, 12, 13, 14], [0, 1, 2, 3, 4, 5, 6, 7, 8, 9, 10, 11, 12], [0, 1, 2, 3, 4, 5, 6, 7, 8, 9, 10, 11, 12], [0, 1, 2, 3, 4, 5, 6, 7, 8, 9, 10, 11, 12, 13, 14, 15, 16, 17], [0, 1, 2, 3, 4, 5, 6, 7, 8, 9, 10, 11, 12, 13, 14, 15, 16, 17, 18], [0, 1, 2, 3, 4, 5, 6, 7, 8, 9, 10, 11, 12, 13, 14, 15, 16, 17, 18, 19], [0, 1, 2, 3, 4, 5, 6, 7, 8, 9, 10, 11, 12, 13, 14, 15, 16, 17, 18, 19, 20], [0, 1, 2, 3, 4, 5, 6, 7, 8, 9, 10, 11, 12, 13, 14, 15, 16, 17, 18, 19, 20, 21], [0, 1, 2, 3, 4, 5, 6, 7, 8, 9, 10, 11, 12, 13, 14, 15, 16, 17, 18, 19, 20, 21, 22], [0, 1, 2, 3, 4, 5, 6, 7, 8, 9, 10, 11, 12, 13, 14, 15, 16, 17, 18, 19, 20, 21, 22, 23]] rfl (by kernel_rfl) ?_
              refine .v rfl rfl (O.ldN ty23 rfl rfl rfl) ?_
              refine .call (.i t5) [] 0 (trade_Fill.ok b6) rfl rfl rfl ca9 rfl rfl (cC (.agg _ _ _ _ (cC (.imm _) (cC (.imm _) (cC (.imm _) (cC (.imm _) (cC (.imm _) (cC (.imm _) (cC (.imm _) .nil)))))))) .nil) rfl rfl rfl rfl rfl ?_
              refine .v rfl rfl (O.ldN ty23 rfl rfl rfl) ?_
              refine .call (.i t7) [] 0 (lombardref23_Fill.ok b8) rfl rfl rfl ca10 rfl rfl (cC (.agg _ _ _ _ (cC (.imm _) (cC (.imm _) (cC (.imm _) (cC (.imm _) (cC (.imm _) (cC (.imm _) (cC (.imm _) .nil)))))))) .nil) rfl rfl rfl rfl rfl ?_
              refine .v rfl rfl (OpL.binI rfl rfl rfl rfl) ?_
              refine .v rfl rfl (OpL.move (.inl rfl) rfl) ?_
              refine .v rfl (met rfl rfl rfl g19) (O.ldN ty26 rfl rfl rfl) ?_
              refine .call (.i t9) [] 0 (trade_Check.ok ((if_pos (by first | (simp only [g19, g20, g21, Bool.true_or, Bool.or_true, Bool.false_or, Bool.or_false, Bool.true_and, Bool.and_true, Bool.false_and, Bool.and_false, Bool.not_true, Bool.not_false, cond_true, cond_false]; done) | (repeat (first | rw [g19] | rw [g20] | rw [g21])) <;> simp only [Bool.true_or, Bool.or_true, Bool.false_or, Bool.or_false, Bool.true_and, Bool.and_true, Bool.false_and, Bool.and_false, Bool.not_true, Bool.not_false, cond_true, cond_false])).symm.trans b10)) rfl (met rfl rfl rfl g19) rfl ca11 rfl rfl (cC (.agg _ _ _ _ (cC (.imm _) (cC (.imm _) (cC (.imm _) (cC (.imm _) (cC (.imm _) (cC (.imm _) (cC (.imm _) (cC (.imm _) (cC (.imm _) (cC (.imm _) (cC (.imm _) .nil)))))))))))) .nil) rfl rfl rfl rfl rfl ?_
              refine .v rfl (met rfl rfl rfl g19) (O.ldN ty26 rfl rfl rfl) ?_
              refine .call (.i t11) [] 0 (lombardref23_Check.ok ((if_pos (by first | (simp only [g19, g20, g21, Bool.true_or, Bool.or_true, Bool.false_or, Bool.or_false, Bool.true_and, Bool.and_true, Bool.false_and, Bool.and_false, Bool.not_true, Bool.not_false, cond_true, cond_false]; done) | (repeat (first | rw [g19] | rw [g20] | rw [g21])) <;> simp only [Bool.true_or, Bool.or_true, Bool.false_or, Bool.or_false, Bool.true_and, Bool.and_true, Bool.false_and, Bool.and_false, Bool.not_true, Bool.not_false, cond_true, cond_false])).symm.trans b12)) rfl (met rfl rfl rfl g19) rfl ca12 rfl rfl (cC (.agg _ _ _ _ (cC (.imm _) (cC (.imm _) (cC (.imm _) (cC (.imm _) (cC (.imm _) (cC (.imm _) (cC (.imm _) (cC (.imm _) (cC (.imm _) (cC (.imm _) (cC (.imm _) .nil)))))))))))) .nil) rfl rfl rfl rfl rfl ?_
              refine .v rfl (met rfl rfl rfl g19) (OpL.binI rfl rfl rfl rfl) ?_
              refine .v rfl rfl (O.pickT g19 rfl rfl rfl) ?_
              refine .v rfl rfl (OpL.move (.inl rfl) rfl) ?_
              refine .v rfl (met rfl rfl rfl g20) (O.ldN ty26 rfl rfl rfl) ?_
              refine .v rfl (met rfl rfl rfl g20) (O.ldN ty26 rfl rfl rfl) ?_
              refine .call (.b t13) [] 0 (trade_Twins.ok ((if_pos (by first | (simp only [g19, g20, g21, Bool.true_or, Bool.or_true, Bool.false_or, Bool.or_false, Bool.true_and, Bool.and_true, Bool.false_and, Bool.and_false, Bool.not_true, Bool.not_false, cond_true, cond_false]; done) | (repeat (first | rw [g19] | rw [g20] | rw [g21])) <;> simp only [Bool.true_or, Bool.or_true, Bool.false_or, Bool.or_false, Bool.true_and, Bool.and_true, Bool.false_and, Bool.and_false, Bool.not_true, Bool.not_false, cond_true, cond_false])).symm.trans b14)) rfl (met rfl rfl rfl g20) rfl ca13 rfl rfl (cC (.agg _ _ _ _ (cC (.imm _) (cC (.imm _) (cC (.imm _) (cC (.imm _) (cC (.imm _) (cC (.imm _) (cC (.imm _) (cC (.imm _) (cC (.imm _) (cC (.imm _) (cC (.imm _) .nil)))))))))))) (cC (.agg _ _ _ _ (cC (.imm _) (cC (.imm _) (cC (.imm _) (cC (.imm _) (cC (.imm _) (cC (.imm _) (cC (.imm _) (cC (.imm _) (cC (.imm _) (cC (.imm _) (cC (.imm _) .nil)))))))))))) .nil)) rfl rfl rfl rfl rfl ?_
              refine .v rfl (met rfl rfl rfl g20) (O.ldN ty26 rfl rfl rfl) ?_
              refine .v rfl (met rfl rfl rfl g20) (O.ldN ty26 rfl rfl rfl) ?_
              refine .call (.b t15) [] 0 (lombardref23_Twins.ok ((if_pos (by first | (simp only [g19, g20, g21, Bool.true_or, Bool.or_true, Bool.false_or, Bool.or_false, Bool.true_and, Bool.and_true, Bool.false_and, Bool.and_false, Bool.not_true, Bool.not_false, cond_true, cond_false]; done) | (repeat (first | rw [g19] | rw [g20] | rw [g21])) <;> simp only [Bool.true_or, Bool.or_true, Bool.false_or, Bool.or_false, Bool.true_and, Bool.and_true, Bool.false_and, Bool.and_false, Bool.not_true, Bool.not_false, cond_true, cond_false])).symm.trans b16)) rfl (met rfl rfl rfl g20) rfl ca14 rfl rfl (cC (.agg _ _ _ _ (cC (.imm _) (cC (.imm _) (cC (.imm _) (cC (.imm _) (cC (.imm _) (cC (.imm _) (cC (.imm _) (cC (.imm _) (cC (.imm _) (cC (.imm _) (cC (.imm _) .nil)))))))))))) (cC (.agg _ _ _ _ (cC (.imm _) (cC (.imm _) (cC (.imm _) (cC (.imm _) (cC (.imm _) (cC (.imm _) (cC (.imm _) (cC (.imm _) (cC (.imm _) (cC (.imm _) (cC (.imm _) .nil)))))))))))) .nil)) rfl rfl rfl rfl rfl ?_
              refine .v rfl (met rfl rfl rfl g20) (OpL.eqB rfl u4 rfl rfl) ?_
              refine .v rfl rfl (O.pickT g20 rfl rfl rfl) ?_
              refine .v rfl rfl (OpL.move (.inl rfl) rfl) ?_
              refine .x rfl (unmet rfl rfl rfl g21) ?_
              refine .v rfl rfl (O.pickF g21 rfl rfl rfl) ?_
              refine .v rfl rfl (OpL.move (.inr rfl) rfl) ?_
              refine .nil ?_
              refine ⟨by kernel_rfl, by kernel_rfl, ?_⟩
              exact toN (Gives.mkR [] (.c rfl (sbb (by first | (simp only [g19, g20, g21, Bool.true_or, Bool.or_true, Bool.false_or, Bool.or_false, Bool.true_and, Bool.and_true, Bool.false_and, Bool.and_false, Bool.not_true, Bool.not_false, cond_true, cond_false]; done) | (repeat (first | rw [g19] | rw [g20] | rw [g21])) <;> simp only [Bool.true_or, Bool.or_true, Bool.false_or, Bool.or_false, Bool.true_and, Bool.and_true, Bool.false_and, Bool.and_false, Bool.not_true, Bool.not_false, cond_true, cond_false])) rfl .n) .n rfl rfl rfl)
          · refine W.dk [[], [0], [], [0, 1, 2], [0, 1, 2, 3], [0, 1, 2, 3, 4], [0, 1, 2, 3, 4, 5], [0, 1, 2, 3, 4, 5, 6], [0, 1, 2, 3, 4, 5], [0, 1, 2, 3, 4, 5, 6, 7, 8], [0, 1, 2, 3, 4, 5, 6, 7, 8, 9], [0, 1, 2, 3, 4, 5, 6, 7, 8, 9, 10], [0, 1, 2, 3, 4, 5, 6, 7, 8, 9, 10, 11], [0, 1, 2, 3, 4, 5, 6, 7, 8, 9, 10, 11, 12], [0, 1, 2, 3, 4, 5, 6, 7, 8, 9, 10, 11, 12], [0, 1, 2, 3, 4, 5, 6, 7, 8, 9, 10, 11, 12, 13, 14], [0, 1, 2, 3, 4, 5, 6, 7, 8, 9, 10, 11, 12], [0, 1, 2, 3, 4, 5, 6, 7, 8, 9, 10, 11, 12], [0, 1, 2, 3, 4, 5, 6, 7, 8, 9, 10, 11, 12, 13, 14, 15, 16, 17], [0, 1, 2, 3, 4, 5, 6, 7, 8, 9, 10, 11, 12, 13, 14, 15, 16, 17, 18], [0, 1, 2, 3, 4, 5, 6, 7, 8, 9, 10, 11, 12, 13, 14, 15, 16, 17, 18, 19], [0, 1, 2, 3, 4, 5, 6, 7, 8, 9, 10, 11, 12, 13, 14, 15, 16, 17, 18, 19, 20], [0, 1, 2, 3, 4, 5, 6, 7, 8, 9, 10, 11, 12, 13, 14, 15, 16, 17, 18, 19, 20, 21], [0, 1, 2, 3, 4, 5, 6, 7, 8, 9, 10, 11, 12, 13, 14, 15, 16, 17, 18, 19, 20, 21, 22], [0, 1, 2, 3, 4, 5, 6, 7, 8, 9, 10, 11, 12, 13, 14, 15, 16, 17, 18, 19, 20, 21, 22, 23]] rfl (by kernel_rfl) ?_
            refine .v rfl rfl (O.ldN ty23 rfl rfl rfl) ?_
            refine .call (.i t5) [] 0 (trade_Fill.ok b6) rfl rfl rfl ca9 rfl rfl (cC (.agg _ _ _ _ (cC (.imm _) (cC (.imm _) (cC (.imm _) (cC (.imm _) (cC (.imm _) (cC (.imm _) (cC (.imm _) .nil)))))))) .nil) rfl rfl rfl rfl rfl ?_
            refine .v rfl rfl (O.ldN ty23 rfl rfl rfl) ?_
            refine .call (.i t7) [] 0 (lombardref23_Fill.ok b8) rfl rfl rfl ca10 rfl rfl (cC (.agg _ _ _ _ (cC (.imm _) (cC (.imm _) (cC (.imm _) (cC (.imm _) (cC (.imm _) (cC (.imm _) (cC (.imm _) .nil)))))))) .nil) rfl rfl rfl rfl rfl ?_
            refine .v rfl rfl (OpL.binI rfl rfl rfl rfl) ?_
            refine .v rfl rfl (OpL.move (.inl rfl) rfl) ?_
            refine .v rfl (met rfl rfl rfl g19) (O.ldN ty26 rfl rfl rfl) ?_
            refine .call (.i t9) [] 0 (trade_Check.ok ((if_pos (by first | (simp only [g19, g20, Bool.true_or, Bool.or_true, Bool.false_or, Bool.or_false, Bool.true_and, Bool.and_true, Bool.false_and, Bool.and_false, Bool.not_true, Bool.not_false, cond_true, cond_false]; done) | (repeat (first | rw [g19] | rw [g20])) <;> simp only [Bool.true_or, Bool.or_true, Bool.false_or, Bool.or_false, Bool.true_and, Bool.and_true, Bool.false_and, Bool.and_false, Bool.not_true, Bool.not_false, cond_true, cond_false])).symm.trans b10)) rfl (met rfl rfl rfl g19) rfl ca11 rfl rfl (cC (.agg _ _ _ _ (cC (.imm _) (cC (.imm _) (cC (.imm _) (cC (.imm _) (cC (.imm _) (cC (.imm _) (cC (.imm _) (cC (.imm _) (cC (.imm _) (cC (.imm _) (cC (.imm _) .nil)))))))))))) .nil) rfl rfl rfl rfl rfl ?_
            refine .v rfl (met rfl rfl rfl g19) (O.ldN ty26 rfl rfl rfl) ?_
            refine .call (.i t11) [] 0 (lombardref23_Check.ok ((if_pos (by first | (simp only [g19, g20, Bool.true_or, Bool.or_true, Bool.false_or, Bool.or_false, Bool.true_and, Bool.and_true, Bool.false_and, Bool.and_false, Bool.not_true, Bool.not_false, cond_true, cond_false]; done) | (repeat (first | rw [g19] | rw [g20])) <;> simp only [Bool.true_or, Bool.or_true, Bool.false_or, Bool.or_false, Bool.true_and, Bool.and_true, Bool.false_and, Bool.and_false, Bool.not_true, Bool.not_false, cond_true, cond_false])).symm.trans b12)) rfl (met rfl rfl rfl g19) rfl ca12 rfl rfl (cC (.agg _ _ _ _ (cC (.imm _) (cC (.imm _) (cC (.imm _) (cC (.imm _) (cC (.imm _) (cC (.imm _) (cC (.imm _) (cC (.imm _) (cC (.imm _) (cC (.imm _) (cC (.imm _) .nil)))))))))))) .nil) rfl rfl rfl rfl rfl ?_
            refine .v rfl (met rfl rfl rfl g19) (OpL.binI rfl rfl rfl rfl) ?_
            refine .v rfl rfl (O.pickT g19 rfl rfl rfl) ?_
            refine .v rfl rfl (OpL.move (.inl rfl) rfl) ?_
            refine .x rfl (unmet rfl rfl rfl g20) ?_
            refine .x rfl (unmet rfl rfl rfl g20) ?_
            refine .x rfl (unmet rfl rfl rfl g20) ?_
            refine .x rfl (unmet rfl rfl rfl g20) ?_
            refine .x rfl (unmet rfl rfl rfl g20) ?_
            refine .x rfl (unmet rfl rfl rfl g20) ?_
            refine .x rfl (unmet rfl rfl rfl g20) ?_
            refine .v rfl rfl (O.pickF g20 rfl rfl rfl) ?_
            refine .v rfl rfl (OpL.move (.inl rfl) rfl) ?_
            refine .x rfl (unmet rfl rfl rfl rfl) ?_
            refine .v rfl rfl (O.pickF rfl rfl rfl rfl) ?_
            refine .v rfl rfl (OpL.move (.inr rfl) rfl) ?_
            refine .nil ?_
            refine ⟨by kernel_rfl, by kernel_rfl, ?_⟩
            exact toN (Gives.mkR [] (.c rfl (sbb (by first | (simp only [g19, g20, Bool.true_or, Bool.or_true, Bool.false_or, Bool.or_false, Bool.true_and, Bool.and_true, Bool.false_and, Bool.and_false, Bool.not_true, Bool.not_false, cond_true, cond_false]; done) | (repeat (first | rw [g19] | rw [g20])) <;> simp only [Bool.true_or, Bool.or_true, Bool.false_or, Bool.or_false, Bool.true_and, Bool.and_true, Bool.false_and, Bool.and_false, Bool.not_true, Bool.not_false, cond_true, cond_false])) rfl .n) .n rfl rfl rfl)
        · refine W.dk [[], [0], [], [0, 1, 2], [0, 1, 2, 3], [0, 1, 2, 3, 4], [0, 1, 2, 3, 4, 5], [0, 1, 2, 3, 4, 5, 6], [0, 1, 2, 3, 4, 5], [0, 1, 2, 3, 4, 5, 6, 7, 8], [0, 1, 2, 3, 4, 5, 6, 7, 8, 9], [0, 1, 2, 3, 4, 5, 6, 7, 8, 9, 10], [0, 1, 2, 3, 4, 5, 6, 7, 8, 9, 10, 11], [0, 1, 2, 3, 4, 5, 6, 7, 8, 9, 10, 11, 12], [0, 1, 2, 3, 4, 5, 6, 7, 8, 9, 10, 11, 12], [0, 1, 2, 3, 4, 5, 6, 7, 8, 9, 10, 11, 12, 13, 14], [0, 1, 2, 3, 4, 5, 6, 7, 8, 9, 10, 11, 12], [0, 1, 2, 3, 4, 5, 6, 7, 8, 9, 10, 11, 12], [0, 1, 2, 3, 4, 5, 6, 7, 8, 9, 10, 11, 12, 13, 14, 15, 16, 17], [0, 1, 2, 3, 4, 5, 6, 7, 8, 9, 10, 11, 12, 13, 14, 15, 16, 17, 18], [0, 1, 2, 3, 4, 5, 6, 7, 8, 9, 10, 11, 12, 13, 14, 15, 16, 17, 18, 19], [0, 1, 2, 3, 4, 5, 6, 7, 8, 9, 10, 11, 12, 13, 14, 15, 16, 17, 18, 19, 20], [0, 1, 2, 3, 4, 5, 6, 7, 8, 9, 10, 11, 12, 13, 14, 15, 16, 17, 18, 19, 20, 21], [0, 1, 2, 3, 4, 5, 6, 7, 8, 9, 10, 11, 12, 13, 14, 15, 16, 17, 18, 19, 20, 21, 22], [0, 1, 2, 3, 4, 5, 6, 7, 8, 9, 10, 11, 12, 13, 14, 15, 16, 17, 18, 19, 20, 21, 22, 23]] rfl (by kernel_rfl) ?_
          refine .v rfl rfl (O.ldN ty23 rfl rfl rfl) ?_
          refine .call (.i t5) [] 0 (trade_Fill.ok b6) rfl rfl rfl ca9 rfl rfl (cC (.agg _ _ _ _ (cC (.imm _) (cC (.imm _) (cC (.imm _) (cC (.imm _) (cC (.imm _) (cC (.imm _) (cC (.imm _) .nil)))))))) .nil) rfl rfl rfl rfl rfl ?_
          refine .v rfl rfl (O.ldN ty23 rfl rfl rfl) ?_
          refine .call (.i t7) [] 0 (lombardref23_Fill.ok b8) rfl rfl rfl ca10 rfl rfl (cC (.agg _ _ _ _ (cC (.imm _) (cC (.imm _) (cC (.imm _) (cC (.imm _) (cC (.imm _) (cC (.imm _) (cC (.imm _) .nil)))))))) .nil) rfl rfl rfl rfl rfl ?_
          refine .v rfl rfl (OpL.binI rfl rfl rfl rfl) ?_
          refine .v rfl rfl (OpL.move (.inl rfl) rfl) ?_
          refine .x rfl (unmet rfl rfl rfl g19) ?_
          refine .x rfl (unmet rfl rfl rfl g19) ?_
          refine .x rfl (unmet rfl rfl rfl g19) ?_
          refine .x rfl (unmet rfl rfl rfl g19) ?_
          refine .x rfl (unmet rfl rfl rfl g19) ?_
          refine .v rfl rfl (O.pickF g19 rfl rfl rfl) ?_
          refine .v rfl rfl (OpL.move (.inl rfl) rfl) ?_
          refine .x rfl (unmet rfl rfl rfl rfl) ?_
          refine .x rfl (unmet rfl rfl rfl rfl) ?_
          refine .x rfl (unmet rfl rfl rfl rfl) ?_
          refine .x rfl (unmet rfl rfl rfl rfl) ?_
          refine .x rfl (unmet rfl rfl rfl rfl) ?_
          refine .x rfl (unmet rfl rfl rfl rfl) ?_
          refine .x rfl (unmet rfl rfl rfl rfl) ?_
          refine .v rfl rfl (O.pickF rfl rfl rfl rfl) ?_
          refine .v rfl rfl (OpL.move (.inl rfl) rfl) ?_
          refine .x rfl (unmet rfl rfl rfl rfl) ?_
          refine .v rfl rfl (O.pickF rfl rfl rfl rfl) ?_
          refine .v rfl rfl (OpL.move (.inr rfl) rfl) ?_
          refine .nil ?_
          refine ⟨by kernel_rfl, by kernel_rfl, ?_⟩
          exact toN (Gives.mkR [] (.c rfl (sbb (by simp only [g19, Bool.true_or, Bool.or_true, Bool.false_or, Bool.or_false, Bool.true_and, Bool.and_true, Bool.false_and, Bool.and_false, Bool.not_true, Bool.not_false, cond_true, cond_false])) rfl .n) .n rfl rfl rfl)
  · clear h
    rcases tf (decide ((List.length x1.Resets : Int) > 80)) with g1 | g1
    · refine W.pk ?_
      refine .v rfl rfl (O.fld fld26_8 rfl rfl rfl) ?_
      refine .v rfl rfl (O.ld (y := .imm (.row 2 (List.map api_Reset.enc x1.Resets))) ty24 rfl rfl rfl) ?_
      refine .v rfl rfl (O.lenR sl24 rfl rfl) ?_
      refine .v rfl rfl (OpL.binI rfl rfl rfl rfl) ?_
      refine .v rfl rfl (OpL.move (.inl rfl) rfl) ?_
      refine .x rfl (unmet rfl rfl rfl g1) ?_
      refine .x rfl (unmet rfl rfl rfl g1) ?_
      refine .x rfl (unmet rfl rfl rfl g1) ?_
      refine .x rfl (unmet rfl rfl rfl g1) ?_
      refine .v rfl rfl (O.pickT g1 rfl rfl rfl) ?_
      refine .nil ?_
      exact toN (Gives.mkR [] (.c rfl (.rfl _) rfl (.c rfl (.rfl _) rfl (.c rfl (.rfl _) rfl (.c rfl (sbb (by simp only [g1, Bool.true_or, Bool.or_true, Bool.false_or, Bool.or_false, Bool.true_and, Bool.and_true, Bool.false_and, Bool.and_false, Bool.not_true, Bool.not_false, cond_true, cond_false])) rfl .n)))) (.c rfl (.rfl _) rfl rfl (.c rfl (.rfl _) rfl rfl (.c rfl (.rfl _) rfl rfl .n))) rfl rfl rfl)
    · refine W.pk ?_
      refine .v rfl rfl (O.fld fld26_8 rfl rfl rfl) ?_
      refine .v rfl rfl (O.ld (y := .imm (.row 2 (List.map api_Reset.enc x1.Resets))) ty24 rfl rfl rfl) ?_
      refine .v rfl rfl (O.lenR sl24 rfl rfl) ?_
      refine .v rfl rfl (OpL.binI rfl rfl rfl rfl) ?_
      refine .v rfl rfl (OpL.move (.inl rfl) rfl) ?_
      refine .v rfl (met rfl rfl rfl g1) (O.fld fld26_8 rfl rfl rfl) ?_
      refine .v rfl (met rfl rfl rfl g1) (O.ld (y := .imm (.row 2 (List.map api_Reset.enc x2.Resets))) ty24 rfl rfl rfl) ?_
      refine .v rfl (met rfl rfl rfl g1) (O.lenR sl24 rfl rfl) ?_
      refine .v rfl (met rfl rfl rfl g1) (OpL.binI rfl rfl rfl rfl) ?_
      refine .v rfl rfl (O.pickF g1 rfl rfl rfl) ?_
      refine .nil ?_
      exact toN (Gives.mkR [] (.c rfl (.rfl _) rfl (.c rfl (.rfl _) rfl (.c rfl (.rfl _) rfl (.c rfl (sbb (by simp only [g1, Bool.true_or, Bool.or_true, Bool.false_or, Bool.or_false, Bool.true_and, Bool.and_true, Bool.false_and, Bool.and_false, Bool.not_true, Bool.not_false, cond_true, cond_false])) rfl .n)))) (.c rfl (.rfl _) rfl rfl (.c rfl (.rfl _) rfl rfl (.c rfl (.rfl _) rfl rfl .n))) rfl rfl rfl)

noncomputable def lombardlaw23_short.f (x0 : lombardlaw23_Act) : Option (Bool) :=
  some ((decide ((List.length x0.X.Resets : Int) ≤ 80)) && (decide ((List.length x0.Y.Resets : Int) ≤ 80)))
set_option maxRecDepth 100000 in
set_option maxHeartbeats 4000000 in
theorem lombardlaw23_short.ok {x0 : lombardlaw23_Act} {r : Bool} (h : lombardlaw23_short.f x0 = some r) : Pm.Spec prog 21 [.agg [.imm (.val (.int .i64 x0.Kind)), .imm (.val (.int .i64 x0.Fill.Lender)), .imm (.val (.int .i64 x0.Fill.Borrower)), .imm (.val (.int .i64 x0.Fill.Basket)), .imm (.val (.int .i64 x0.Fill.Amount)), .imm (.val (.int .i64 x0.Fill.Rate)), .imm (.val (.int .i64 x0.Fill.Start)), .imm (.val (.int .i64 x0.Fill.End)), .imm (.val (.int .i64 x0.X.ID)), .imm (.val (.int .i64 x0.X.Twin)), .imm (.val (.int .i64 x0.X.Member)), .imm (.val (.int .i64 x0.X.Side)), .imm (.val (.int .i64 x0.X.Basket)), .imm (.val (.int .i64 x0.X.Amount)), .imm (.val (.int .i64 x0.X.Start)), .imm (.val (.int .i64 x0.X.End)), .imm (.row 2 (List.map api_Reset.enc x0.X.Resets)), .imm (.val (.int .i64 x0.X.Stage)), .imm (.val (.bool x0.X.Short)), .imm (.val (.int .i64 x0.Y.ID)), .imm (.val (.int .i64 x0.Y.Twin)), .imm (.val (.int .i64 x0.Y.Member)), .imm (.val (.int .i64 x0.Y.Side)), .imm (.val (.int .i64 x0.Y.Basket)), .imm (.val (.int .i64 x0.Y.Amount)), .imm (.val (.int .i64 x0.Y.Start)), .imm (.val (.int .i64 x0.Y.End)), .imm (.row 2 (List.map api_Reset.enc x0.Y.Resets)), .imm (.val (.int .i64 x0.Y.Stage)), .imm (.val (.bool x0.Y.Short)), .imm (.val (.int .i64 x0.ID))]] (.imm (.val (.bool r))) [none] := by
  unfold lombardlaw23_short.f at h
  refine Pm.Spec.of_body Try.func21 rfl (by kernel_rfl) (Nat.le_of_ble_eq_true rfl) (Nat.le_of_ble_eq_true rfl) ?_
  refine W.ghost (σ' := (mkSt [(0, some (.agg (lombardlaw23_Act.av x0)))] [] 1000)) (Gives.entry (.c rfl .n) .n) ?_
  refine W.seq ?_
  refine W.pk ?_
  refine .t rfl rfl (O.box rfl rfl rfl rfl rfl) ?_
  refine .v rfl rfl (OpL.move (.inr rfl) rfl) ?_
  refine .nil ?_
  refine W.seq ?_
  refine W.fork (mkSt [(2, some (.b ((decide ((List.length x0.X.Resets : Int) ≤ 80)) && (decide ((List.length x0.Y.Resets : Int) ≤ 80)))))] [] 1001) ?_ ?_
  · refine W.ret ?_
    cases h
    exact leaves (.inr rfl) rfl (.imm _) (cN .nil) rfl rfl
  · clear h
    rcases tf (decide ((List.length x0.X.Resets : Int) ≤ 80)) with g1 | g1
    · refine W.pk ?_
      refine .v rfl rfl (O.fld fld50_2 rfl rfl rfl) ?_
      refine .v rfl rfl (O.fld fld26_8 rfl rfl rfl) ?_
      refine .v rfl rfl (O.ld (y := .imm (.row 2 (List.map api_Reset.enc x0.X.Resets))) ty24 rfl rfl rfl) ?_
      refine .v rfl rfl (O.lenR sl24 rfl rfl) ?_
      refine .v rfl rfl (OpL.binI rfl rfl rfl rfl) ?_
      refine .v rfl rfl (OpL.move (.inl rfl) rfl) ?_
      refine .v rfl (met rfl rfl rfl g1) (O.fld fld50_3 rfl rfl rfl) ?_
      refine .v rfl (met rfl rfl rfl g1) (O.fld fld26_8 rfl rfl rfl) ?_
      refine .v rfl (met rfl rfl rfl g1) (O.ld (y := .imm (.row 2 (List.map api_Reset.enc x0.Y.Resets))) ty24 rfl rfl rfl) ?_
      refine .v rfl (met rfl rfl rfl g1) (O.lenR sl24 rfl rfl) ?_
      refine .v rfl (met rfl rfl rfl g1) (OpL.binI rfl rfl rfl rfl) ?_
      refine .v rfl rfl (O.pickT g1 rfl rfl rfl) ?_
      refine .v rfl rfl (OpL.move (.inr rfl) rfl) ?_
      refine .nil ?_
      exact toN (Gives.mkR [] (.c rfl (sbb (by simp only [g1, Bool.true_or, Bool.or_true, Bool.false_or, Bool.or_false, Bool.true_and, Bool.and_true, Bool.false_and, Bool.and_false, Bool.not_true, Bool.not_false, cond_true, cond_false])) rfl .n) .n rfl rfl rfl)
    · refine W.pk ?_
      refine .v rfl rfl (O.fld fld50_2 rfl rfl rfl) ?_
      refine .v rfl rfl (O.fld fld26_8 rfl rfl rfl) ?_
      refine .v rfl rfl (O.ld (y := .imm (.row 2 (List.map api_Reset.enc x0.X.Resets))) ty24 rfl rfl rfl) ?_
      refine .v rfl rfl (O.lenR sl24 rfl rfl) ?_
      refine .v rfl rfl (OpL.binI rfl rfl rfl rfl) ?_
      refine .v rfl rfl (OpL.move (.inl rfl) rfl) ?_
      refine .x rfl (unmet rfl rfl rfl g1) ?_
      refine .x rfl (unmet rfl rfl rfl g1) ?_
      refine .x rfl (unmet rfl rfl rfl g1) ?_
      refine .x rfl (unmet rfl rfl rfl g1) ?_
      refine .x rfl (unmet rfl rfl rfl g1) ?_
      refine .v rfl rfl (O.pickF g1 rfl rfl rfl) ?_
      refine .v rfl rfl (OpL.move (.inr rfl) rfl) ?_
      refine .nil ?_
      exact toN (Gives.mkR [] (.c rfl (sbb (by simp only [g1, Bool.true_or, Bool.or_true, Bool.false_or, Bool.or_false, Bool.true_and, Bool.and_true, Bool.false_and, Bool.and_false, Bool.not_true, Bool.not_false, cond_true, cond_false])) rfl .n) .n rfl rfl rfl)
end Go.Proofs.Ytidinbjehfodoaa
