/- Shows what functions of the program come to, each as a plain function: written by a program of the author's for this claim. -/
import Derived.Test.YtlgfdldonoaahaaGx6
namespace Go.Proofs.Ytlgfdldonoaahaa
open Go Go.Pm
set_option linter.unusedVariables false
set_option linter.unusedSimpArgs false
noncomputable def lombardref25_Same.f (x0 : api_Leg) (x1 : api_Leg) : Option (Bool) :=
  (if ((((x0.Day == x1.Day) && (x0.Member == x1.Member)) && (x0.Trade == x1.Trade)) && (x0.Cash == x1.Cash)) = true then lombardref10_Lots.f x0.Lots x1.Lots else some default).bind fun t1 =>
  some (((((x0.Day == x1.Day) && (x0.Member == x1.Member)) && (x0.Trade == x1.Trade)) && (x0.Cash == x1.Cash)) && t1)
set_option maxRecDepth 100000 in
set_option maxHeartbeats 4000000 in
theorem lombardref25_Same.ok {x0 : api_Leg} {x1 : api_Leg} {r : Bool} (h : lombardref25_Same.f x0 x1 = some r) : Pm.Spec prog 15 [.agg [.imm (.val (.int .i64 x0.Day)), .imm (.val (.int .i64 x0.Member)), .imm (.val (.int .i64 x0.Trade)), .imm (.val (.int .i64 x0.Cash)), .imm (.row 2 (List.map api_Lot.enc x0.Lots))], .agg [.imm (.val (.int .i64 x1.Day)), .imm (.val (.int .i64 x1.Member)), .imm (.val (.int .i64 x1.Trade)), .imm (.val (.int .i64 x1.Cash)), .imm (.row 2 (List.map api_Lot.enc x1.Lots))]] (.imm (.val (.bool r))) [none, none] := by
  unfold lombardref25_Same.f at h
  refine Pm.Spec.of_body Try.func15 rfl (by kernel_rfl) (Nat.le_of_ble_eq_true rfl) (Nat.le_of_ble_eq_true rfl) ?_
  refine W.ghost (σ' := (mkSt [(0, some (.agg [.imm (.val (.int .i64 x0.Day)), .imm (.val (.int .i64 x0.Member)), .imm (.val (.int .i64 x0.Trade)), .imm (.val (.int .i64 x0.Cash)), .imm (.row 2 (List.map api_Lot.enc x0.Lots))])), (1, some (.agg [.imm (.val (.int .i64 x1.Day)), .imm (.val (.int .i64 x1.Member)), .imm (.val (.int .i64 x1.Trade)), .imm (.val (.int .i64 x1.Cash)), .imm (.row 2 (List.map api_Lot.enc x1.Lots))]))] [] 1000)) (Gives.entry (.c rfl (.c rfl .n)) .n) ?_
  refine W.seq ?_
  refine W.pk ?_
  refine .t rfl rfl (O.box rfl rfl rfl rfl rfl) ?_
  refine .t rfl rfl (O.box rfl rfl rfl rfl rfl) ?_
  refine .v rfl rfl (OpL.move (.inr rfl) rfl) ?_
  refine .nil ?_
  refine W.seq ?_
  obtain ⟨t1, b2, h⟩ := bnd1 h
  refine W.fork (mkSt [(4, some (.imm (.val (.bool (((((x0.Day == x1.Day) && (x0.Member == x1.Member)) && (x0.Trade == x1.Trade)) && (x0.Cash == x1.Cash)) && t1)))))] [] 1002) ?_ ?_
  · refine W.ret ?_
    cases h
    exact leaves (.inr rfl) rfl (.imm _) (cN (cN .nil)) rfl rfl
  · clear h
    rcases tf (x0.Day == x1.Day) with g3 | g3
    · rcases tf (x0.Member == x1.Member) with g4 | g4
      · rcases tf (x0.Trade == x1.Trade) with g5 | g5
        · rcases tf (x0.Cash == x1.Cash) with g6 | g6
          · refine W.pk ?_
            refine .v rfl rfl (O.fld fld31_0 rfl rfl rfl) ?_
            refine .v rfl rfl (O.ld ty3 rfl rfl rfl) ?_
            refine .v rfl rfl (O.fld fld31_0 rfl rfl rfl) ?_
            refine .v rfl rfl (O.ld ty3 rfl rfl rfl) ?_
            refine .v rfl rfl (OpL.binI rfl rfl rfl rfl) ?_
            refine .v rfl rfl (OpL.move (.inl rfl) rfl) ?_
            refine .v rfl (met rfl rfl rfl g3) (O.fld fld31_1 rfl rfl rfl) ?_
            refine .v rfl (met rfl rfl rfl g3) (O.ld ty3 rfl rfl rfl) ?_
            refine .v rfl (met rfl rfl rfl g3) (O.fld fld31_1 rfl rfl rfl) ?_
            refine .v rfl (met rfl rfl rfl g3) (O.ld ty3 rfl rfl rfl) ?_
            refine .v rfl (met rfl rfl rfl g3) (OpL.binI rfl rfl rfl rfl) ?_
            refine .v rfl rfl (O.pickT g3 rfl rfl rfl) ?_
            refine .v rfl rfl (OpL.move (.inl rfl) rfl) ?_
            refine .v rfl (met rfl rfl rfl g4) (O.fld fld31_2 rfl rfl rfl) ?_
            refine .v rfl (met rfl rfl rfl g4) (O.ld ty3 rfl rfl rfl) ?_
            refine .v rfl (met rfl rfl rfl g4) (O.fld fld31_2 rfl rfl rfl) ?_
            refine .v rfl (met rfl rfl rfl g4) (O.ld ty3 rfl rfl rfl) ?_
            refine .v rfl (met rfl rfl rfl g4) (OpL.binI rfl rfl rfl rfl) ?_
            refine .v rfl rfl (O.pickT g4 rfl rfl rfl) ?_
            refine .v rfl rfl (OpL.move (.inl rfl) rfl) ?_
            refine .v rfl (met rfl rfl rfl g5) (O.fld fld31_3 rfl rfl rfl) ?_
            refine .v rfl (met rfl rfl rfl g5) (O.ld ty3 rfl rfl rfl) ?_
            refine .v rfl (met rfl rfl rfl g5) (O.fld fld31_3 rfl rfl rfl) ?_
            refine .v rfl (met rfl rfl rfl g5) (O.ld ty3 rfl rfl rfl) ?_
            refine .v rfl (met rfl rfl rfl g5) (OpL.binI rfl rfl rfl rfl) ?_
            refine .v rfl rfl (O.pickT g5 rfl rfl rfl) ?_
            refine .v rfl rfl (OpL.move (.inl rfl) rfl) ?_
            refine .v rfl (met rfl rfl rfl g6) (O.fld fld31_4 rfl rfl rfl) ?_
            refine .v rfl (met rfl rfl rfl g6) (O.ld ty25 rfl rfl rfl) ?_
            refine .v rfl (met rfl rfl rfl g6) (O.fld fld31_4 rfl rfl rfl) ?_
            refine .v rfl (met rfl rfl rfl g6) (O.ld ty25 rfl rfl rfl) ?_
            refine .call (.imm (.val (.bool t1))) [] 0 (lombardref10_Lots.ok ((if_pos (by simp only [g3, g4, g5, g6, Bool.true_or, Bool.or_true, Bool.false_or, Bool.or_false, Bool.true_and, Bool.and_true, Bool.false_and, Bool.and_false, Bool.not_true, Bool.not_false, cond_true, cond_false])).symm.trans b2)) rfl (met rfl rfl rfl g6) rfl ca35 rfl rfl (cC (.imm _) (cC (.imm _) .nil)) rfl rfl rfl rfl rfl ?_
            refine .v rfl rfl (O.pickT g6 rfl rfl rfl) ?_
            refine .v rfl rfl (OpL.move (.inr rfl) rfl) ?_
            refine .nil ?_
            exact toN (Gives.mkR [] (.c rfl (sbb (by simp only [g3, g4, g5, g6, Bool.true_or, Bool.or_true, Bool.false_or, Bool.or_false, Bool.true_and, Bool.and_true, Bool.false_and, Bool.and_false, Bool.not_true, Bool.not_false, cond_true, cond_false])) rfl .n) .n rfl rfl rfl)
          · refine W.pk ?_
            refine .v rfl rfl (O.fld fld31_0 rfl rfl rfl) ?_
            refine .v rfl rfl (O.ld ty3 rfl rfl rfl) ?_
            refine .v rfl rfl (O.fld fld31_0 rfl rfl rfl) ?_
            refine .v rfl rfl (O.ld ty3 rfl rfl rfl) ?_
            refine .v rfl rfl (OpL.binI rfl rfl rfl rfl) ?_
            refine .v rfl rfl (OpL.move (.inl rfl) rfl) ?_
            refine .v rfl (met rfl rfl rfl g3) (O.fld fld31_1 rfl rfl rfl) ?_
            refine .v rfl (met rfl rfl rfl g3) (O.ld ty3 rfl rfl rfl) ?_
            refine .v rfl (met rfl rfl rfl g3) (O.fld fld31_1 rfl rfl rfl) ?_
            refine .v rfl (met rfl rfl rfl g3) (O.ld ty3 rfl rfl rfl) ?_
            refine .v rfl (met rfl rfl rfl g3) (OpL.binI rfl rfl rfl rfl) ?_
            refine .v rfl rfl (O.pickT g3 rfl rfl rfl) ?_
            refine .v rfl rfl (OpL.move (.inl rfl) rfl) ?_
            refine .v rfl (met rfl rfl rfl g4) (O.fld fld31_2 rfl rfl rfl) ?_
            refine .v rfl (met rfl rfl rfl g4) (O.ld ty3 rfl rfl rfl) ?_
            refine .v rfl (met rfl rfl rfl g4) (O.fld fld31_2 rfl rfl rfl) ?_
            refine .v rfl (met rfl rfl rfl g4) (O.ld ty3 rfl rfl rfl) ?_
            refine .v rfl (met rfl rfl rfl g4) (OpL.binI rfl rfl rfl rfl) ?_
            refine .v rfl rfl (O.pickT g4 rfl rfl rfl) ?_
            refine .v rfl rfl (OpL.move (.inl rfl) rfl) ?_
            refine .v rfl (met rfl rfl rfl g5) (O.fld fld31_3 rfl rfl rfl) ?_
            refine .v rfl (met rfl rfl rfl g5) (O.ld ty3 rfl rfl rfl) ?_
            refine .v rfl (met rfl rfl rfl g5) (O.fld fld31_3 rfl rfl rfl) ?_
            refine .v rfl (met rfl rfl rfl g5) (O.ld ty3 rfl rfl rfl) ?_
            refine .v rfl (met rfl rfl rfl g5) (OpL.binI rfl rfl rfl rfl) ?_
            refine .v rfl rfl (O.pickT g5 rfl rfl rfl) ?_
            refine .v rfl rfl (OpL.move (.inl rfl) rfl) ?_
            refine .x rfl (unmet rfl rfl rfl g6) ?_
            refine .x rfl (unmet rfl rfl rfl g6) ?_
            refine .x rfl (unmet rfl rfl rfl g6) ?_
            refine .x rfl (unmet rfl rfl rfl g6) ?_
            refine .x rfl (unmet rfl rfl rfl g6) ?_
            refine .v rfl rfl (O.pickF g6 rfl rfl rfl) ?_
            refine .v rfl rfl (OpL.move (.inr rfl) rfl) ?_
            refine .nil ?_
            exact toN (Gives.mkR [] (.c rfl (sbb (by simp only [g3, g4, g5, g6, Bool.true_or, Bool.or_true, Bool.false_or, Bool.or_false, Bool.true_and, Bool.and_true, Bool.false_and, Bool.and_false, Bool.not_true, Bool.not_false, cond_true, cond_false])) rfl .n) .n rfl rfl rfl)
        · refine W.pk ?_
          refine .v rfl rfl (O.fld fld31_0 rfl rfl rfl) ?_
          refine .v rfl rfl (O.ld ty3 rfl rfl rfl) ?_
          refine .v rfl rfl (O.fld fld31_0 rfl rfl rfl) ?_
          refine .v rfl rfl (O.ld ty3 rfl rfl rfl) ?_
          refine .v rfl rfl (OpL.binI rfl rfl rfl rfl) ?_
          refine .v rfl rfl (OpL.move (.inl rfl) rfl) ?_
          refine .v rfl (met rfl rfl rfl g3) (O.fld fld31_1 rfl rfl rfl) ?_
          refine .v rfl (met rfl rfl rfl g3) (O.ld ty3 rfl rfl rfl) ?_
          refine .v rfl (met rfl rfl rfl g3) (O.fld fld31_1 rfl rfl rfl) ?_
          refine .v rfl (met rfl rfl rfl g3) (O.ld ty3 rfl rfl rfl) ?_
          refine .v rfl (met rfl rfl rfl g3) (OpL.binI rfl rfl rfl rfl) ?_
          refine .v rfl rfl (O.pickT g3 rfl rfl rfl) ?_
          refine .v rfl rfl (OpL.move (.inl rfl) rfl) ?_
          refine .v rfl (met rfl rfl rfl g4) (O.fld fld31_2 rfl rfl rfl) ?_
          refine .v rfl (met rfl rfl rfl g4) (O.ld ty3 rfl rfl rfl) ?_
          refine .v rfl (met rfl rfl rfl g4) (O.fld fld31_2 rfl rfl rfl) ?_
          refine .v rfl (met rfl rfl rfl g4) (O.ld ty3 rfl rfl rfl) ?_
          refine .v rfl (met rfl rfl rfl g4) (OpL.binI rfl rfl rfl rfl) ?_
          refine .v rfl rfl (O.pickT g4 rfl rfl rfl) ?_
          refine .v rfl rfl (OpL.move (.inl rfl) rfl) ?_
          refine .x rfl (unmet rfl rfl rfl g5) ?_
          refine .x rfl (unmet rfl rfl rfl g5) ?_
          refine .x rfl (unmet rfl rfl rfl g5) ?_
          refine .x rfl (unmet rfl rfl rfl g5) ?_
          refine .x rfl (unmet rfl rfl rfl g5) ?_
          refine .v rfl rfl (O.pickF g5 rfl rfl rfl) ?_
          refine .v rfl rfl (OpL.move (.inl rfl) rfl) ?_
          refine .x rfl (unmet rfl rfl rfl rfl) ?_
          refine .x rfl (unmet rfl rfl rfl rfl) ?_
          refine .x rfl (unmet rfl rfl rfl rfl) ?_
          refine .x rfl (unmet rfl rfl rfl rfl) ?_
          refine .x rfl (unmet rfl rfl rfl rfl) ?_
          refine .v rfl rfl (O.pickF rfl rfl rfl rfl) ?_
          refine .v rfl rfl (OpL.move (.inr rfl) rfl) ?_
          refine .nil ?_
          exact toN (Gives.mkR [] (.c rfl (sbb (by simp only [g3, g4, g5, Bool.true_or, Bool.or_true, Bool.false_or, Bool.or_false, Bool.true_and, Bool.and_true, Bool.false_and, Bool.and_false, Bool.not_true, Bool.not_false, cond_true, cond_false])) rfl .n) .n rfl rfl rfl)
      · refine W.pk ?_
        refine .v rfl rfl (O.fld fld31_0 rfl rfl rfl) ?_
        refine .v rfl rfl (O.ld ty3 rfl rfl rfl) ?_
        refine .v rfl rfl (O.fld fld31_0 rfl rfl rfl) ?_
        refine .v rfl rfl (O.ld ty3 rfl rfl rfl) ?_
        refine .v rfl rfl (OpL.binI rfl rfl rfl rfl) ?_
        refine .v rfl rfl (OpL.move (.inl rfl) rfl) ?_
        refine .v rfl (met rfl rfl rfl g3) (O.fld fld31_1 rfl rfl rfl) ?_
        refine .v rfl (met rfl rfl rfl g3) (O.ld ty3 rfl rfl rfl) ?_
        refine .v rfl (met rfl rfl rfl g3) (O.fld fld31_1 rfl rfl rfl) ?_
        refine .v rfl (met rfl rfl rfl g3) (O.ld ty3 rfl rfl rfl) ?_
        refine .v rfl (met rfl rfl rfl g3) (OpL.binI rfl rfl rfl rfl) ?_
        refine .v rfl rfl (O.pickT g3 rfl rfl rfl) ?_
        refine .v rfl rfl (OpL.move (.inl rfl) rfl) ?_
        refine .x rfl (unmet rfl rfl rfl g4) ?_
        refine .x rfl (unmet rfl rfl rfl g4) ?_
        refine .x rfl (unmet rfl rfl rfl g4) ?_
        refine .x rfl (unmet rfl rfl rfl g4) ?_
        refine .x rfl (unmet rfl rfl rfl g4) ?_
        refine .v rfl rfl (O.pickF g4 rfl rfl rfl) ?_
        refine .v rfl rfl (OpL.move (.inl rfl) rfl) ?_
        refine .x rfl (unmet rfl rfl rfl rfl) ?_
        refine .x rfl (unmet rfl rfl rfl rfl) ?_
        refine .x rfl (unmet rfl rfl rfl rfl) ?_
        refine .x rfl (unmet rfl rfl rfl rfl) ?_
        refine .x rfl (unmet rfl rfl rfl rfl) ?_
        refine .v rfl rfl (O.pickF rfl rfl rfl rfl) ?_
        refine .v rfl rfl (OpL.move (.inl rfl) rfl) ?_
        refine .x rfl (unmet rfl rfl rfl rfl) ?_
        refine .x rfl (unmet rfl rfl rfl rfl) ?_
        refine .x rfl (unmet rfl rfl rfl rfl) ?_
        refine .x rfl (unmet rfl rfl rfl rfl) ?_
        refine .x rfl (unmet rfl rfl rfl rfl) ?_
        refine .v rfl rfl (O.pickF rfl rfl rfl rfl) ?_
        refine .v rfl rfl (OpL.move (.inr rfl) rfl) ?_
        refine .nil ?_
        exact toN (Gives.mkR [] (.c rfl (sbb (by simp only [g3, g4, Bool.true_or, Bool.or_true, Bool.false_or, Bool.or_false, Bool.true_and, Bool.and_true, Bool.false_and, Bool.and_false, Bool.not_true, Bool.not_false, cond_true, cond_false])) rfl .n) .n rfl rfl rfl)
    · refine W.pk ?_
      refine .v rfl rfl (O.fld fld31_0 rfl rfl rfl) ?_
      refine .v rfl rfl (O.ld ty3 rfl rfl rfl) ?_
      refine .v rfl rfl (O.fld fld31_0 rfl rfl rfl) ?_
      refine .v rfl rfl (O.ld ty3 rfl rfl rfl) ?_
      refine .v rfl rfl (OpL.binI rfl rfl rfl rfl) ?_
      refine .v rfl rfl (OpL.move (.inl rfl) rfl) ?_
      refine .x rfl (unmet rfl rfl rfl g3) ?_
      refine .x rfl (unmet rfl rfl rfl g3) ?_
      refine .x rfl (unmet rfl rfl rfl g3) ?_
      refine .x rfl (unmet rfl rfl rfl g3) ?_
      refine .x rfl (unmet rfl rfl rfl g3) ?_
      refine .v rfl rfl (O.pickF g3 rfl rfl rfl) ?_
      refine .v rfl rfl (OpL.move (.inl rfl) rfl) ?_
      refine .x rfl (unmet rfl rfl rfl rfl) ?_
      refine .x rfl (unmet rfl rfl rfl rfl) ?_
      refine .x rfl (unmet rfl rfl rfl rfl) ?_
      refine .x rfl (unmet rfl rfl rfl rfl) ?_
      refine .x rfl (unmet rfl rfl rfl rfl) ?_
      refine .v rfl rfl (O.pickF rfl rfl rfl rfl) ?_
      refine .v rfl rfl (OpL.move (.inl rfl) rfl) ?_
      refine .x rfl (unmet rfl rfl rfl rfl) ?_
      refine .x rfl (unmet rfl rfl rfl rfl) ?_
      refine .x rfl (unmet rfl rfl rfl rfl) ?_
      refine .x rfl (unmet rfl rfl rfl rfl) ?_
      refine .x rfl (unmet rfl rfl rfl rfl) ?_
      refine .v rfl rfl (O.pickF rfl rfl rfl rfl) ?_
      refine .v rfl rfl (OpL.move (.inl rfl) rfl) ?_
      refine .x rfl (unmet rfl rfl rfl rfl) ?_
      refine .x rfl (unmet rfl rfl rfl rfl) ?_
      refine .x rfl (unmet rfl rfl rfl rfl) ?_
      refine .x rfl (unmet rfl rfl rfl rfl) ?_
      refine .x rfl (unmet rfl rfl rfl rfl) ?_
      refine .v rfl rfl (O.pickF rfl rfl rfl rfl) ?_
      refine .v rfl rfl (OpL.move (.inr rfl) rfl) ?_
      refine .nil ?_
      exact toN (Gives.mkR [] (.c rfl (sbb (by simp only [g3, Bool.true_or, Bool.or_true, Bool.false_or, Bool.or_false, Bool.true_and, Bool.and_true, Bool.false_and, Bool.and_false, Bool.not_true, Bool.not_false, cond_true, cond_false])) rfl .n) .n rfl rfl rfl)

noncomputable def lombardlaw25_awake.f  : Option (Bool) :=
  (lombardlaw25_some.f).bind fun t1 =>
  (lombardlaw25_of.f t1).bind fun t3 =>
  (leg_Covered_Begin.f t3).bind fun t5 =>
  (lombardlaw25_some.f).bind fun t7 =>
  (lombardlaw25_of.f t7).bind fun t9 =>
  (leg_Covered_End.f t9).bind fun t11 =>
  (if (t5.2 == 0) = true then lombardref25_Same.f t5.1 (⟨0, 1, 1, 100, [(⟨[65], -7⟩ : api_Lot)]⟩ : api_Leg) else some default).bind fun t13 =>
  some (((t5.2 == 0) && t13) && (t11.2 == 33))
set_option maxRecDepth 100000 in
set_option maxHeartbeats 4000000 in
theorem lombardlaw25_awake.ok  {r : Bool} (h : lombardlaw25_awake.f  = some r) : Pm.Spec prog 9 [] (.imm (.val (.bool r))) [] := by
  unfold lombardlaw25_awake.f at h
  refine Pm.Spec.of_body Try.func9 rfl (by kernel_rfl) (Nat.le_of_ble_eq_true rfl) (Nat.le_of_ble_eq_true rfl) ?_
  refine W.ghost (σ' := (mkSt [] [] 1000)) (Gives.entry .n .n) ?_
  refine W.seq ?_
  refine W.pk ?_
  refine .v rfl rfl (OpL.move (.inr rfl) rfl) ?_
  refine .nil ?_
  refine W.seq ?_
  obtain ⟨t1, b2, h⟩ := bnd1 h
  obtain ⟨t3, b4, h⟩ := bnd1 h
  obtain ⟨t5, b6, h⟩ := bnd1 h
  refine W.pk ?_
  refine .call (.agg [.imm (.val (.int .i64 t1.Trade.ID)), .imm (.val (.int .i64 t1.Trade.Twin)), .imm (.val (.int .i64 t1.Trade.Member)), .imm (.val (.int .i64 t1.Trade.Side)), .imm (.val (.int .i64 t1.Trade.Basket)), .imm (.val (.int .i64 t1.Trade.Amount)), .imm (.val (.int .i64 t1.Trade.Start)), .imm (.val (.int .i64 t1.Trade.End)), .imm (.row 2 (List.map api_Reset.enc t1.Trade.Resets)), .imm (.val (.int .i64 t1.Trade.Stage)), .imm (.val (.bool t1.Trade.Short)), .imm (.row 2 (List.map api_Lot.enc t1.Lots))]) [] 0 (lombardlaw25_some.ok b2) rfl rfl rfl ca26 rfl rfl .nil rfl rfl rfl rfl rfl ?_
  refine .call (.agg [.imm (.val (.int .i64 t3.Trade.ID)), .imm (.val (.int .i64 t3.Trade.Twin)), .imm (.val (.int .i64 t3.Trade.Member)), .imm (.val (.int .i64 t3.Trade.Side)), .imm (.val (.int .i64 t3.Trade.Basket)), .imm (.val (.int .i64 t3.Trade.Amount)), .imm (.val (.int .i64 t3.Trade.Start)), .imm (.val (.int .i64 t3.Trade.End)), .imm (.row 2 (List.map api_Reset.enc t3.Trade.Resets)), .imm (.val (.int .i64 t3.Trade.Stage)), .imm (.val (.bool t3.Trade.Short)), .imm (.row 2 (List.map api_Lot.enc t3.Lots))]) [] 0 (lombardlaw25_of.ok b4) rfl rfl rfl ca10 rfl rfl (cC (.agg _ _ _ _ (cC (.imm _) (cC (.imm _) (cC (.imm _) (cC (.imm _) (cC (.imm _) (cC (.imm _) (cC (.imm _) (cC (.imm _) (cC (.imm _) (cC (.imm _) (cC (.imm _) (cC (.imm _) .nil))))))))))))) .nil) rfl rfl rfl rfl rfl ?_
  refine .call (.tup [.agg [.imm (.val (.int .i64 t5.1.Day)), .imm (.val (.int .i64 t5.1.Member)), .imm (.val (.int .i64 t5.1.Trade)), .imm (.val (.int .i64 t5.1.Cash)), .imm (.row 2 (List.map api_Lot.enc t5.1.Lots))], .imm (.val (.int .i64 t5.2))]) [] 0 (leg_Covered_Begin.ok b6) rfl rfl rfl ca11 rfl rfl (cC (.agg _ _ _ _ (cC (.imm _) (cC (.imm _) (cC (.imm _) (cC (.imm _) (cC (.imm _) (cC (.imm _) (cC (.imm _) (cC (.imm _) (cC (.imm _) (cC (.imm _) (cC (.imm _) (cC (.imm _) .nil))))))))))))) .nil) rfl rfl rfl rfl rfl ?_
  refine .v rfl rfl (OpL.move (.inl rfl) rfl) ?_
  refine .v rfl rfl (OpL.extract rfl rfl rfl) ?_
  refine .v rfl rfl (OpL.extract rfl rfl rfl) ?_
  refine .t rfl rfl (O.alloc z31 rfl) ?_
  refine .s rfl rfl (O.st ty31 rfl rfl rfl rfl rfl rfl rfl rfl rfl rfl (all' := [.imm (.val (.int .i64 t5.1.Day)), .imm (.val (.int .i64 t5.1.Member)), .imm (.val (.int .i64 t5.1.Trade)), .imm (.val (.int .i64 t5.1.Cash)), .imm (.row 2 (List.map api_Lot.enc t5.1.Lots))]) rfl) ?_
  refine .v rfl rfl (OpL.move (.inr rfl) rfl) ?_
  refine .nil ?_
  refine W.seq ?_
  obtain ⟨t7, b8, h⟩ := bnd1 h
  obtain ⟨t9, b10, h⟩ := bnd1 h
  obtain ⟨t11, b12, h⟩ := bnd1 h
  refine W.pk ?_
  refine .call (.agg [.imm (.val (.int .i64 t7.Trade.ID)), .imm (.val (.int .i64 t7.Trade.Twin)), .imm (.val (.int .i64 t7.Trade.Member)), .imm (.val (.int .i64 t7.Trade.Side)), .imm (.val (.int .i64 t7.Trade.Basket)), .imm (.val (.int .i64 t7.Trade.Amount)), .imm (.val (.int .i64 t7.Trade.Start)), .imm (.val (.int .i64 t7.Trade.End)), .imm (.row 2 (List.map api_Reset.enc t7.Trade.Resets)), .imm (.val (.int .i64 t7.Trade.Stage)), .imm (.val (.bool t7.Trade.Short)), .imm (.row 2 (List.map api_Lot.enc t7.Lots))]) [] 0 (lombardlaw25_some.ok b8) rfl rfl rfl ca26 rfl rfl .nil rfl rfl rfl rfl rfl ?_
  refine .call (.agg [.imm (.val (.int .i64 t9.Trade.ID)), .imm (.val (.int .i64 t9.Trade.Twin)), .imm (.val (.int .i64 t9.Trade.Member)), .imm (.val (.int .i64 t9.Trade.Side)), .imm (.val (.int .i64 t9.Trade.Basket)), .imm (.val (.int .i64 t9.Trade.Amount)), .imm (.val (.int .i64 t9.Trade.Start)), .imm (.val (.int .i64 t9.Trade.End)), .imm (.row 2 (List.map api_Reset.enc t9.Trade.Resets)), .imm (.val (.int .i64 t9.Trade.Stage)), .imm (.val (.bool t9.Trade.Short)), .imm (.row 2 (List.map api_Lot.enc t9.Lots))]) [] 0 (lombardlaw25_of.ok b10) rfl rfl rfl ca10 rfl rfl (cC (.agg _ _ _ _ (cC (.imm _) (cC (.imm _) (cC (.imm _) (cC (.imm _) (cC (.imm _) (cC (.imm _) (cC (.imm _) (cC (.imm _) (cC (.imm _) (cC (.imm _) (cC (.imm _) (cC (.imm _) .nil))))))))))))) .nil) rfl rfl rfl rfl rfl ?_
  refine .call (.tup [.agg [.imm (.val (.int .i64 t11.1.Day)), .imm (.val (.int .i64 t11.1.Member)), .imm (.val (.int .i64 t11.1.Trade)), .imm (.val (.int .i64 t11.1.Cash)), .imm (.row 2 (List.map api_Lot.enc t11.1.Lots))], .imm (.val (.int .i64 t11.2))]) [] 0 (leg_Covered_End.ok b12) rfl rfl rfl ca13 rfl rfl (cC (.agg _ _ _ _ (cC (.imm _) (cC (.imm _) (cC (.imm _) (cC (.imm _) (cC (.imm _) (cC (.imm _) (cC (.imm _) (cC (.imm _) (cC (.imm _) (cC (.imm _) (cC (.imm _) (cC (.imm _) .nil))))))))))))) .nil) rfl rfl rfl rfl rfl ?_
  refine .v rfl rfl (OpL.move (.inl rfl) rfl) ?_
  refine .v rfl rfl (OpL.extract rfl rfl rfl) ?_
  refine .v rfl rfl (OpL.extract rfl rfl rfl) ?_
  refine .t rfl rfl (O.alloc z31 rfl) ?_
  refine .s rfl rfl (O.st ty31 rfl rfl rfl rfl rfl rfl rfl rfl rfl rfl (all' := [.imm (.val (.int .i64 t11.1.Day)), .imm (.val (.int .i64 t11.1.Member)), .imm (.val (.int .i64 t11.1.Trade)), .imm (.val (.int .i64 t11.1.Cash)), .imm (.row 2 (List.map api_Lot.enc t11.1.Lots))]) rfl) ?_
  refine .v rfl rfl (OpL.move (.inr rfl) rfl) ?_
  refine .nil ?_
  refine W.seq ?_
  obtain ⟨t13, b14, h⟩ := bnd1 h
  refine W.fork (mkSt [(0, some (.imm (.val (.bool (((t5.2 == 0) && t13) && (t11.2 == 33))))))] [] 1003) ?_ ?_
  · refine W.ret ?_
    cases h
    exact leaves (.inr rfl) rfl (.imm _) .nil rfl rfl
  · clear h
    rcases tf (t5.2 == 0) with g15 | g15
    · rcases tf t13 with g16 | g16
      · refine W.pk ?_
        refine .v rfl rfl (OpL.move (.inl rfl) rfl) ?_
        refine .v rfl rfl (OpL.binI rfl rfl rfl rfl) ?_
        refine .v rfl rfl (OpL.move (.inl rfl) rfl) ?_
        refine .v rfl (met rfl rfl rfl g15) (O.ldN ty31 rfl rfl rfl) ?_
        refine .v rfl (met rfl rfl rfl g15) (O.build (out := [.imm (.val (.string (tx [65]))), .imm (.val (.int .i64 (-7)))]) bl44 rfl rfl rfl rfl rfl) ?_
        refine .t rfl (met rfl rfl rfl g15) (O.lit (enc := api_Lot.enc) (l := [(⟨[65], -7⟩ : api_Lot)]) sl25 rfl rfl rfl rfl rfl rfl rfl rfl rfl) ?_
        refine .v rfl (met rfl rfl rfl g15) (O.build (out := [.imm (.val (.int .i64 0)), .imm (.val (.int .i64 1)), .imm (.val (.int .i64 1)), .imm (.val (.int .i64 100)), .own 1002]) bl31 rfl rfl rfl rfl rfl) ?_
        refine .call (.imm (.val (.bool t13))) [(1002, some (.rows 44 2 (List.map api_Lot.enc [(⟨[65], -7⟩ : api_Lot)]) true))] 0 (lombardref25_Same.ok ((if_pos (by simp only [g15, g16, Bool.true_or, Bool.or_true, Bool.false_or, Bool.or_false, Bool.true_and, Bool.and_true, Bool.false_and, Bool.and_false, Bool.not_true, Bool.not_false, cond_true, cond_false])).symm.trans b14)) rfl (met rfl rfl rfl g15) rfl ca15 rfl rfl (cC (.agg _ _ _ _ (cC (.imm _) (cC (.imm _) (cC (.imm _) (cC (.imm _) (cC (.imm _) .nil)))))) (cC (.agg _ _ _ _ (cC (.imm _) (cC (.imm _) (cC (.imm _) (cC (.imm _) (cC (.lend _ _ _ _ _ rfl) .nil)))))) .nil)) rfl rfl rfl rfl rfl ?_
        refine .v rfl rfl (O.pickT g15 rfl rfl rfl) ?_
        refine .v rfl rfl (OpL.move (.inl rfl) rfl) ?_
        refine .v rfl (met rfl rfl rfl g16) (OpL.move (.inl rfl) rfl) ?_
        refine .v rfl (met rfl rfl rfl g16) (OpL.binI rfl rfl rfl rfl) ?_
        refine .v rfl rfl (O.pickT g16 rfl rfl rfl) ?_
        refine .v rfl rfl (OpL.move (.inr rfl) rfl) ?_
        refine .nil ?_
        exact toN (Gives.mkR [] (.c rfl (sbb (by simp only [g15, g16, Bool.true_or, Bool.or_true, Bool.false_or, Bool.or_false, Bool.true_and, Bool.and_true, Bool.false_and, Bool.and_false, Bool.not_true, Bool.not_false, cond_true, cond_false])) rfl .n) .n rfl rfl rfl)
      · refine W.pk ?_
        refine .v rfl rfl (OpL.move (.inl rfl) rfl) ?_
        refine .v rfl rfl (OpL.binI rfl rfl rfl rfl) ?_
        refine .v rfl rfl (OpL.move (.inl rfl) rfl) ?_
        refine .v rfl (met rfl rfl rfl g15) (O.ldN ty31 rfl rfl rfl) ?_
        refine .v rfl (met rfl rfl rfl g15) (O.build (out := [.imm (.val (.string (tx [65]))), .imm (.val (.int .i64 (-7)))]) bl44 rfl rfl rfl rfl rfl) ?_
        refine .t rfl (met rfl rfl rfl g15) (O.lit (enc := api_Lot.enc) (l := [(⟨[65], -7⟩ : api_Lot)]) sl25 rfl rfl rfl rfl rfl rfl rfl rfl rfl) ?_
        refine .v rfl (met rfl rfl rfl g15) (O.build (out := [.imm (.val (.int .i64 0)), .imm (.val (.int .i64 1)), .imm (.val (.int .i64 1)), .imm (.val (.int .i64 100)), .own 1002]) bl31 rfl rfl rfl rfl rfl) ?_
        refine .call (.imm (.val (.bool t13))) [(1002, some (.rows 44 2 (List.map api_Lot.enc [(⟨[65], -7⟩ : api_Lot)]) true))] 0 (lombardref25_Same.ok ((if_pos (by simp only [g15, g16, Bool.true_or, Bool.or_true, Bool.false_or, Bool.or_false, Bool.true_and, Bool.and_true, Bool.false_and, Bool.and_false, Bool.not_true, Bool.not_false, cond_true, cond_false])).symm.trans b14)) rfl (met rfl rfl rfl g15) rfl ca15 rfl rfl (cC (.agg _ _ _ _ (cC (.imm _) (cC (.imm _) (cC (.imm _) (cC (.imm _) (cC (.imm _) .nil)))))) (cC (.agg _ _ _ _ (cC (.imm _) (cC (.imm _) (cC (.imm _) (cC (.imm _) (cC (.lend _ _ _ _ _ rfl) .nil)))))) .nil)) rfl rfl rfl rfl rfl ?_
        refine .v rfl rfl (O.pickT g15 rfl rfl rfl) ?_
        refine .v rfl rfl (OpL.move (.inl rfl) rfl) ?_
        refine .x rfl (unmet rfl rfl rfl g16) ?_
        refine .x rfl (unmet rfl rfl rfl g16) ?_
        refine .v rfl rfl (O.pickF g16 rfl rfl rfl) ?_
        refine .v rfl rfl (OpL.move (.inr rfl) rfl) ?_
        refine .nil ?_
        exact toN (Gives.mkR [] (.c rfl (sbb (by simp only [g15, g16, Bool.true_or, Bool.or_true, Bool.false_or, Bool.or_false, Bool.true_and, Bool.and_true, Bool.false_and, Bool.and_false, Bool.not_true, Bool.not_false, cond_true, cond_false])) rfl .n) .n rfl rfl rfl)
    · refine W.pk ?_
      refine .v rfl rfl (OpL.move (.inl rfl) rfl) ?_
      refine .v rfl rfl (OpL.binI rfl rfl rfl rfl) ?_
      refine .v rfl rfl (OpL.move (.inl rfl) rfl) ?_
      refine .x rfl (unmet rfl rfl rfl g15) ?_
      refine .x rfl (unmet rfl rfl rfl g15) ?_
      refine .x rfl (unmet rfl rfl rfl g15) ?_
      refine .x rfl (unmet rfl rfl rfl g15) ?_
      refine .x rfl (unmet rfl rfl rfl g15) ?_
      refine .v rfl rfl (O.pickF g15 rfl rfl rfl) ?_
      refine .v rfl rfl (OpL.move (.inl rfl) rfl) ?_
      refine .x rfl (unmet rfl rfl rfl rfl) ?_
      refine .x rfl (unmet rfl rfl rfl rfl) ?_
      refine .v rfl rfl (O.pickF rfl rfl rfl rfl) ?_
      refine .v rfl rfl (OpL.move (.inr rfl) rfl) ?_
      refine .nil ?_
      exact toN (Gives.mkR [] (.c rfl (sbb (by simp only [g15, Bool.true_or, Bool.or_true, Bool.false_or, Bool.or_false, Bool.true_and, Bool.and_true, Bool.false_and, Bool.and_false, Bool.not_true, Bool.not_false, cond_true, cond_false])) rfl .n) .n rfl rfl rfl)

noncomputable def lombardref23_in.f (x0 : Int) (x1 : Int) (x2 : Int) : Option (Bool) :=
  some ((decide (x0 ≥ x1)) && (decide (x0 ≤ x2)))
set_option maxRecDepth 100000 in
set_option maxHeartbeats 4000000 in
theorem lombardref23_in.ok {x0 : Int} {x1 : Int} {x2 : Int} {r : Bool} (h : lombardref23_in.f x0 x1 x2 = some r) : Pm.Spec prog 64 [.imm (.val (.int .i64 x0)), .imm (.val (.int .i64 x1)), .imm (.val (.int .i64 x2))] (.imm (.val (.bool r))) [none, none, none] := by
  unfold lombardref23_in.f at h
  refine Pm.Spec.of_body Try.func64 rfl (by kernel_rfl) (Nat.le_of_ble_eq_true rfl) (Nat.le_of_ble_eq_true rfl) ?_
  refine W.ghost (σ' := (mkSt [(0, some (.imm (.val (.int .i64 x0)))), (1, some (.imm (.val (.int .i64 x1)))), (2, some (.imm (.val (.int .i64 x2))))] [] 1000)) (Gives.entry (.c rfl (.c rfl (.c rfl .n))) .n) ?_
  refine W.seq ?_
  refine W.pk ?_
  refine .v rfl rfl (OpL.move (.inr rfl) rfl) ?_
  refine .nil ?_
  refine W.seq ?_
  refine W.fork (mkSt [(6, some (.imm (.val (.bool ((decide (x0 ≥ x1)) && (decide (x0 ≤ x2)))))))] [] 1000) ?_ ?_
  · refine W.ret ?_
    cases h
    exact leaves (.inr rfl) rfl (.imm _) (cN (cN (cN .nil))) rfl rfl
  · clear h
    rcases tf (decide (x0 ≥ x1)) with g1 | g1
    · refine W.pk ?_
      refine .v rfl rfl (OpL.move (.inl rfl) rfl) ?_
      refine .v rfl rfl (OpL.move (.inl rfl) rfl) ?_
      refine .v rfl rfl (OpL.binI rfl rfl rfl rfl) ?_
      refine .v rfl rfl (OpL.move (.inl rfl) rfl) ?_
      refine .v rfl (met rfl rfl rfl g1) (OpL.move (.inl rfl) rfl) ?_
      refine .v rfl (met rfl rfl rfl g1) (OpL.move (.inl rfl) rfl) ?_
      refine .v rfl (met rfl rfl rfl g1) (OpL.binI rfl rfl rfl rfl) ?_
      refine .v rfl rfl (O.pickT g1 rfl rfl rfl) ?_
      refine .v rfl rfl (OpL.move (.inr rfl) rfl) ?_
      refine .nil ?_
      exact toN (Gives.mkR [] (.c rfl (sbb (by simp only [g1, Bool.true_or, Bool.or_true, Bool.false_or, Bool.or_false, Bool.true_and, Bool.and_true, Bool.false_and, Bool.and_false, Bool.not_true, Bool.not_false, cond_true, cond_false])) rfl .n) .n rfl rfl rfl)
    · refine W.pk ?_
      refine .v rfl rfl (OpL.move (.inl rfl) rfl) ?_
      refine .v rfl rfl (OpL.move (.inl rfl) rfl) ?_
      refine .v rfl rfl (OpL.binI rfl rfl rfl rfl) ?_
      refine .v rfl rfl (OpL.move (.inl rfl) rfl) ?_
      refine .x rfl (unmet rfl rfl rfl g1) ?_
      refine .x rfl (unmet rfl rfl rfl g1) ?_
      refine .x rfl (unmet rfl rfl rfl g1) ?_
      refine .v rfl rfl (O.pickF g1 rfl rfl rfl) ?_
      refine .v rfl rfl (OpL.move (.inr rfl) rfl) ?_
      refine .nil ?_
      exact toN (Gives.mkR [] (.c rfl (sbb (by simp only [g1, Bool.true_or, Bool.or_true, Bool.false_or, Bool.or_false, Bool.true_and, Bool.and_true, Bool.false_and, Bool.and_false, Bool.not_true, Bool.not_false, cond_true, cond_false])) rfl .n) .n rfl rfl rfl)

noncomputable def lombardref02_Good.f (x0 : Int) : Option (Bool) :=
  some ((decide (x0 ≥ 0)) && (decide (x0 ≤ 200000)))
set_option maxRecDepth 100000 in
set_option maxHeartbeats 4000000 in
theorem lombardref02_Good.ok {x0 : Int} {r : Bool} (h : lombardref02_Good.f x0 = some r) : Pm.Spec prog 36 [.imm (.val (.int .i64 x0))] (.imm (.val (.bool r))) [none] := by
  unfold lombardref02_Good.f at h
  refine Pm.Spec.of_body Try.func36 rfl (by kernel_rfl) (Nat.le_of_ble_eq_true rfl) (Nat.le_of_ble_eq_true rfl) ?_
  refine W.ghost (σ' := (mkSt [(0, some (.imm (.val (.int .i64 x0))))] [] 1000)) (Gives.entry (.c rfl .n) .n) ?_
  refine W.seq ?_
  refine W.pk ?_
  refine .v rfl rfl (OpL.move (.inr rfl) rfl) ?_
  refine .nil ?_
  refine W.seq ?_
  refine W.fork (mkSt [(2, some (.imm (.val (.bool ((decide (x0 ≥ 0)) && (decide (x0 ≤ 200000)))))))] [] 1000) ?_ ?_
  · refine W.ret ?_
    cases h
    exact leaves (.inr rfl) rfl (.imm _) (cN .nil) rfl rfl
  · clear h
    rcases tf (decide (x0 ≥ 0)) with g1 | g1
    · refine W.pk ?_
      refine .v rfl rfl (OpL.move (.inl rfl) rfl) ?_
      refine .v rfl rfl (OpL.binI rfl rfl rfl rfl) ?_
      refine .v rfl rfl (OpL.move (.inl rfl) rfl) ?_
      refine .v rfl (met rfl rfl rfl g1) (OpL.move (.inl rfl) rfl) ?_
      refine .v rfl (met rfl rfl rfl g1) (OpL.binI rfl rfl rfl rfl) ?_
      refine .v rfl rfl (O.pickT g1 rfl rfl rfl) ?_
      refine .v rfl rfl (OpL.move (.inr rfl) rfl) ?_
      refine .nil ?_
      exact toN (Gives.mkR [] (.c rfl (sbb (by simp only [g1, Bool.true_or, Bool.or_true, Bool.false_or, Bool.or_false, Bool.true_and, Bool.and_true, Bool.false_and, Bool.and_false, Bool.not_true, Bool.not_false, cond_true, cond_false])) rfl .n) .n rfl rfl rfl)
    · refine W.pk ?_
      refine .v rfl rfl (OpL.move (.inl rfl) rfl) ?_
      refine .v rfl rfl (OpL.binI rfl rfl rfl rfl) ?_
      refine .v rfl rfl (OpL.move (.inl rfl) rfl) ?_
      refine .x rfl (unmet rfl rfl rfl g1) ?_
      refine .x rfl (unmet rfl rfl rfl g1) ?_
      refine .v rfl rfl (O.pickF g1 rfl rfl rfl) ?_
      refine .v rfl rfl (OpL.move (.inr rfl) rfl) ?_
      refine .nil ?_
      exact toN (Gives.mkR [] (.c rfl (sbb (by simp only [g1, Bool.true_or, Bool.or_true, Bool.false_or, Bool.or_false, Bool.true_and, Bool.and_true, Bool.false_and, Bool.and_false, Bool.not_true, Bool.not_false, cond_true, cond_false])) rfl .n) .n rfl rfl rfl)

noncomputable def lombardref03_rated.f (x0 : Int) : Option (Bool) :=
  some ((decide (x0 ≥ (-1000000))) && (decide (x0 ≤ 1000000)))
set_option maxRecDepth 100000 in
set_option maxHeartbeats 4000000 in
theorem lombardref03_rated.ok {x0 : Int} {r : Bool} (h : lombardref03_rated.f x0 = some r) : Pm.Spec prog 69 [.imm (.val (.int .i64 x0))] (.imm (.val (.bool r))) [none] := by
  unfold lombardref03_rated.f at h
  refine Pm.Spec.of_body Try.func69 rfl (by kernel_rfl) (Nat.le_of_ble_eq_true rfl) (Nat.le_of_ble_eq_true rfl) ?_
  refine W.ghost (σ' := (mkSt [(0, some (.imm (.val (.int .i64 x0))))] [] 1000)) (Gives.entry (.c rfl .n) .n) ?_
  refine W.seq ?_
  refine W.pk ?_
  refine .v rfl rfl (OpL.move (.inr rfl) rfl) ?_
  refine .nil ?_
  refine W.seq ?_
  refine W.fork (mkSt [(2, some (.imm (.val (.bool ((decide (x0 ≥ (-1000000))) && (decide (x0 ≤ 1000000)))))))] [] 1000) ?_ ?_
  · refine W.ret ?_
    cases h
    exact leaves (.inr rfl) rfl (.imm _) (cN .nil) rfl rfl
  · clear h
    rcases tf (decide (x0 ≥ (-1000000))) with g1 | g1
    · refine W.pk ?_
      refine .v rfl rfl (OpL.move (.inl rfl) rfl) ?_
      refine .v rfl rfl (OpL.binI rfl rfl rfl rfl) ?_
      refine .v rfl rfl (OpL.move (.inl rfl) rfl) ?_
      refine .v rfl (met rfl rfl rfl g1) (OpL.move (.inl rfl) rfl) ?_
      refine .v rfl (met rfl rfl rfl g1) (OpL.binI rfl rfl rfl rfl) ?_
      refine .v rfl rfl (O.pickT g1 rfl rfl rfl) ?_
      refine .v rfl rfl (OpL.move (.inr rfl) rfl) ?_
      refine .nil ?_
      exact toN (Gives.mkR [] (.c rfl (sbb (by simp only [g1, Bool.true_or, Bool.or_true, Bool.false_or, Bool.or_false, Bool.true_and, Bool.and_true, Bool.false_and, Bool.and_false, Bool.not_true, Bool.not_false, cond_true, cond_false])) rfl .n) .n rfl rfl rfl)
    · refine W.pk ?_
      refine .v rfl rfl (OpL.move (.inl rfl) rfl) ?_
      refine .v rfl rfl (OpL.binI rfl rfl rfl rfl) ?_
      refine .v rfl rfl (OpL.move (.inl rfl) rfl) ?_
      refine .x rfl (unmet rfl rfl rfl g1) ?_
      refine .x rfl (unmet rfl rfl rfl g1) ?_
      refine .v rfl rfl (O.pickF g1 rfl rfl rfl) ?_
      refine .v rfl rfl (OpL.move (.inr rfl) rfl) ?_
      refine .nil ?_
      exact toN (Gives.mkR [] (.c rfl (sbb (by simp only [g1, Bool.true_or, Bool.or_true, Bool.false_or, Bool.or_false, Bool.true_and, Bool.and_true, Bool.false_and, Bool.and_false, Bool.not_true, Bool.not_false, cond_true, cond_false])) rfl .n) .n rfl rfl rfl)

noncomputable def lombardref03_Check.b0 (x0 : List api_Reset) (v16 : Int) : Option (Int ⊕ (Int ⊕ Unit)) :=
  if (decide (v16 < (List.length x0 : Int))) = true then
    if (0 : Int) ≤ v16 ∧ v16 < (List.length x0 : Int) then
    (lombardref02_Good.f ((nth x0 v16).Day)).bind fun t49 =>
    if ((!t49) = false ∧ (decide (v16 > 0)) = true → (0 : Int) ≤ v16 ∧ v16 < (List.length x0 : Int)) then
    if ((!t49) = false ∧ (decide (v16 > 0)) = true → (0 : Int) ≤ (IntKind.wrap .i64 (v16 - 1)) ∧ (IntKind.wrap .i64 (v16 - 1)) < (List.length x0 : Int)) then
    if ((!t49) || ((decide (v16 > 0)) && (decide (((nth x0 v16).Day) ≤ ((nth x0 (IntKind.wrap .i64 (v16 - 1))).Day))))) = true then
      some (.inr (.inl 10))
    else
      if (0 : Int) ≤ v16 ∧ v16 < (List.length x0 : Int) then
      (lombardref03_rated.f ((nth x0 v16).Rate)).bind fun t57 =>
      if (!t57) = true then
        some (.inr (.inl 1))
      else
        some (.inl (IntKind.wrap .i64 (v16 + 1)))
      else none
    else none
    else none
    else none
  else
    some (.inr (.inr ()))
noncomputable def lombardref03_Check.r0 (x0 : List api_Reset) (s : Int) : Option (Int ⊕ (Int ⊕ Unit)) := lombardref03_Check.b0 x0 s
noncomputable def lombardref03_Check.f (x0 : List api_Reset) : Option (Int) :=
  if ((List.length x0 : Int) == 0) = true then
    some 6
  else
    if (decide ((List.length x0 : Int) > 64)) = true then
      some 2
    else
      (loop (lombardref03_Check.r0 x0) 0).bind fun o44 =>
      match o44 with
      | .inl r60 => some r60
      | .inr w43 =>
        some 0
set_option maxRecDepth 100000 in
set_option maxHeartbeats 4000000 in
theorem lombardref03_Check.ok {x0 : List api_Reset} {r : Int} (h : lombardref03_Check.f x0 = some r) : Pm.Spec prog 56 [.imm (.row 2 (List.map api_Reset.enc x0))] (.imm (.val (.int .i64 r))) [none] := by
  unfold lombardref03_Check.f at h
  refine Pm.Spec.of_body Try.func56 rfl (by kernel_rfl) (Nat.le_of_ble_eq_true rfl) (Nat.le_of_ble_eq_true rfl) ?_
  refine W.ghost (σ' := (mkSt [(0, some (.imm (.row 2 (List.map api_Reset.enc x0))))] [] 1000)) (Gives.entry (.c rfl .n) .n) ?_
  refine W.seq ?_
  refine W.pk ?_
  refine .v rfl rfl (OpL.move (.inr rfl) rfl) ?_
  refine .nil ?_
  refine W.seq ?_
  refine W.seq ?_
  refine W.pk ?_
  refine .v rfl rfl (OpL.move (.inl rfl) rfl) ?_
  refine .v rfl rfl (O.lenR sl22 rfl rfl) ?_
  refine .v rfl rfl (OpL.binI rfl rfl rfl rfl) ?_
  refine .nil ?_
  refine W.cond rfl (fun q1 => ?_) (fun q1 => ?_)
  · have h := ifT q1 h
    refine W.seq ?_
    refine W.pk ?_
    refine .v rfl rfl (OpL.move (.inr rfl) rfl) ?_
    refine .nil ?_
    refine W.ret ?_
    cases h
    exact leaves (.inr rfl) rfl (.imm _) (cN .nil) rfl rfl
  · have h := ifF q1 h
    refine W.skip ?_
    refine W.seq ?_
    refine W.seq ?_
    refine W.pk ?_
    refine .v rfl rfl (OpL.move (.inl rfl) rfl) ?_
    refine .v rfl rfl (O.lenR sl22 rfl rfl) ?_
    refine .v rfl rfl (OpL.binI rfl rfl rfl rfl) ?_
    refine .nil ?_
    refine W.cond rfl (fun q2 => ?_) (fun q2 => ?_)
    · have h := ifT q2 h
      refine W.seq ?_
      refine W.pk ?_
      refine .v rfl rfl (OpL.move (.inr rfl) rfl) ?_
      refine .nil ?_
      refine W.ret ?_
      cases h
      exact leaves (.inr rfl) rfl (.imm _) (cN .nil) rfl rfl
    · have h := ifF q2 h
      refine W.skip ?_
      refine W.seq ?_
      refine W.seq ?_
      refine W.pk ?_
      refine .v rfl rfl (OpL.move (.inr rfl) rfl) ?_
      refine .nil ?_
      obtain ⟨o44, b45, z46⟩ := bnd1 h
      refine W.fork2 (out := o44) (fun (w43 : Unit) => mkSt [] [] 1000) ?_ ?_
      · clear h
        refine W.block ?_
        refine W.loopF (fun (s_ : Int) => mkSt [(0, some (.imm (.row 2 (List.map api_Reset.enc x0)))), (3, some (.imm (.val (.int .i64 s_))))] [] 1000) b45 (Gives.mkR [] (.c rfl (.rfl _) rfl (.c rfl (.rfl _) rfl .n)) .n rfl rfl rfl) ?_
        rintro v16 s_ hr
        have h : lombardref03_Check.b0 x0 v16 = some s_ := hr
        unfold lombardref03_Check.b0 at h
        refine W.seq ?_
        refine W.seq ?_
        refine W.pk ?_
        refine .v rfl rfl (OpL.move (.inl rfl) rfl) ?_
        refine .v rfl rfl (OpL.move (.inl rfl) rfl) ?_
        refine .v rfl rfl (O.lenR sl22 rfl rfl) ?_
        refine .v rfl rfl (OpL.binI rfl rfl rfl rfl) ?_
        refine .nil ?_
        refine W.cond rfl (fun q47 => ?_) (fun q47 => ?_)
        · have h := ifT q47 h
          refine W.skip ?_
          refine W.seq ?_
          refine W.block ?_
          refine W.seq ?_
          refine W.seq ?_
          obtain ⟨c48, h⟩ := chk h
          obtain ⟨t49, b50, h⟩ := bnd1 h
          obtain ⟨c51, h⟩ := chk h
          obtain ⟨c52, h⟩ := chk h
          refine W.fork (mkSt [(0, some (.imm (.row 2 (List.map api_Reset.enc x0)))), (3, some (.imm (.val (.int .i64 v16)))), (40, some (.imm (.val (.bool ((!t49) || ((decide (v16 > 0)) && (decide (((nth x0 v16).Day) ≤ ((nth x0 (IntKind.wrap .i64 (v16 - 1))).Day)))))))))] [] 1000) ?_ ?_
          · refine W.cond rfl (fun q55 => ?_) (fun q55 => ?_)
            · have h := ifT q55 h
              refine W.seq ?_
              refine W.pk ?_
              refine .v rfl rfl (OpL.move (.inr rfl) rfl) ?_
              refine .nil ?_
              refine W.ret ?_
              cases h
              refine rdR fun e_ => ?_
              subst e_
              have h := z46
              dsimp only at h
              refine fkR ?_
              cases h
              exact leaves (.inr rfl) rfl (.imm _) (cN .nil) rfl rfl
            · have h := ifF q55 h
              refine W.skip ?_
              refine W.seq ?_
              obtain ⟨c56, h⟩ := chk h
              obtain ⟨t57, b58, h⟩ := bnd1 h
              refine W.pk ?_
              refine .v rfl rfl (OpL.move (.inl rfl) rfl) ?_
              refine .v rfl rfl (OpL.move (.inl rfl) rfl) ?_
              refine .v rfl rfl (O.idx sl22 c56 rfl rfl rfl) ?_
              refine .v rfl rfl (O.fld fld75_1 rfl rfl rfl) ?_
              refine .v rfl rfl (O.ld ty3 rfl rfl rfl) ?_
              refine .call (.imm (.val (.bool t57))) [] 0 (lombardref03_rated.ok b58) rfl rfl rfl ca69 rfl rfl (cC (.imm _) .nil) rfl rfl rfl rfl rfl ?_
              refine .v rfl rfl (OpL.unV rfl rfl rfl) ?_
              refine .nil ?_
              refine W.cond rfl (fun q59 => ?_) (fun q59 => ?_)
              · have h := ifT q59 h
                refine W.seq ?_
                refine W.pk ?_
                refine .v rfl rfl (OpL.move (.inr rfl) rfl) ?_
                refine .nil ?_
                refine W.ret ?_
                cases h
                refine rdR fun e_ => ?_
                subst e_
                have h := z46
                dsimp only at h
                refine fkR ?_
                cases h
                exact leaves (.inr rfl) rfl (.imm _) (cN .nil) rfl rfl
              · have h := ifF q59 h
                refine W.skip ?_
                refine W.pk ?_
                refine .v rfl rfl (OpL.move (.inl rfl) rfl) ?_
                refine .v rfl rfl (OpL.binI rfl rfl rfl rfl) ?_
                refine .v rfl rfl (OpL.move (.inr rfl) rfl) ?_
                refine .nil ?_
                cases h
                exact rdN (Gives.mkR [] (.c rfl (.rfl _) rfl (.c rfl (.rfl _) rfl .n)) .n rfl rfl rfl)
          · clear h
            rcases tf t49 with g53 | g53
            · rcases tf (decide (v16 > 0)) with g54 | g54
              · refine W.dk [[], [], [0, 1], [0, 1, 2], [0, 1, 2, 3], [0, 1, 2, 3, 4], [0, 1, 2, 3, 4, 5], [0, 1, 2, 3, 4, 5, 6], [0, 1, 2, 3, 4, 5, 6, 7], [0, 1, 2, 3, 4, 5, 6, 7, 8], [0, 1, 2, 3, 4, 5, 6, 7, 8, 9], [0, 1, 2, 3, 4, 5, 6, 7, 8, 9, 10], [0, 1, 2, 3, 4, 5, 6, 7, 8, 9, 10], [0, 1, 2, 3, 4, 5, 6, 7, 8, 9, 10, 11, 12], [0, 1, 2, 3, 4, 5, 6, 7, 8, 9, 10, 11, 12, 13], [0, 1, 2, 3, 4, 5, 6, 7, 8, 9, 10, 11, 12, 13, 14], [0, 1, 2, 3, 4, 5, 6, 7, 8, 9, 10], [0, 1, 2, 3, 4, 5, 6, 7, 8, 9, 10], [0, 1, 2, 3, 4, 5, 6, 7, 8, 9, 10, 17], [0, 1, 2, 3, 4, 5, 6, 7, 8, 9, 10, 16, 17, 18], [0, 1, 2, 3, 4, 5, 6, 7, 8, 9, 10, 16, 17, 18, 19], [0, 1, 2, 3, 4, 5, 6, 7, 8, 9, 10, 16, 17, 18, 19, 20], [0, 1, 2, 3, 4, 5, 6, 7, 8, 9, 10, 11, 12, 13, 14, 15, 16, 17, 18, 19, 20, 21], [0, 1, 2, 3, 4, 5, 6, 7, 8, 9, 10, 11, 12, 13, 14, 15, 16, 17, 18, 19, 20, 21, 22], [0, 1, 2, 3, 4, 5, 6, 7, 8, 9, 10, 11, 12, 13, 14, 15, 16, 17, 18, 19, 20, 21, 22, 23]] rfl (by kernel_rfl) ?_
                refine .v rfl rfl (OpL.move (.inl rfl) rfl) ?_
                refine .v rfl rfl (OpL.move (.inl rfl) rfl) ?_
                refine .v rfl rfl (O.idx sl22 c48 rfl rfl rfl) ?_
                refine .v rfl rfl (O.fld fld75_0 rfl rfl rfl) ?_
                refine .v rfl rfl (O.ld ty3 rfl rfl rfl) ?_
                refine .call (.imm (.val (.bool t49))) [] 0 (lombardref02_Good.ok b50) rfl rfl rfl ca36 rfl rfl (cC (.imm _) .nil) rfl rfl rfl rfl rfl ?_
                refine .v rfl rfl (OpL.unV rfl rfl rfl) ?_
                refine .v rfl rfl (OpL.move (.inl rfl) rfl) ?_
                refine .v rfl (met rfl rfl rfl (notT g53)) (OpL.move (.inl rfl) rfl) ?_
                refine .v rfl (met rfl rfl rfl (notT g53)) (OpL.binI rfl rfl rfl rfl) ?_
                refine .v rfl (met rfl rfl rfl (notT g53)) (OpL.move (.inl rfl) rfl) ?_
                refine .v rfl (met rfl rfl rfl g54) (OpL.move (.inl rfl) rfl) ?_
                refine .v rfl (met rfl rfl rfl g54) (OpL.move (.inl rfl) rfl) ?_
                refine .v rfl (met rfl rfl rfl g54) (O.idx sl22 (c51 ⟨(by simp only [g53, g54, Bool.true_or, Bool.or_true, Bool.false_or, Bool.or_false, Bool.true_and, Bool.and_true, Bool.false_and, Bool.and_false, Bool.not_true, Bool.not_false, cond_true, cond_false]), (by simp only [g53, g54, Bool.true_or, Bool.or_true, Bool.false_or, Bool.or_false, Bool.true_and, Bool.and_true, Bool.false_and, Bool.and_false, Bool.not_true, Bool.not_false, cond_true, cond_false])⟩) rfl rfl rfl) ?_
                refine .v rfl (met rfl rfl rfl g54) (O.fld fld75_0 rfl rfl rfl) ?_
                refine .v rfl (met rfl rfl rfl g54) (O.ld ty3 rfl rfl rfl) ?_
                refine .v rfl (met rfl rfl rfl g54) (OpL.move (.inl rfl) rfl) ?_
                refine .v rfl (met rfl rfl rfl g54) (OpL.move (.inl rfl) rfl) ?_
                refine .v rfl (met rfl rfl rfl g54) (OpL.binI rfl rfl rfl rfl) ?_
                refine .v rfl (met rfl rfl rfl g54) (O.idx sl22 (c52 ⟨(by simp only [g53, g54, Bool.true_or, Bool.or_true, Bool.false_or, Bool.or_false, Bool.true_and, Bool.and_true, Bool.false_and, Bool.and_false, Bool.not_true, Bool.not_false, cond_true, cond_false]), (by simp only [g53, g54, Bool.true_or, Bool.or_true, Bool.false_or, Bool.or_false, Bool.true_and, Bool.and_true, Bool.false_and, Bool.and_false, Bool.not_true, Bool.not_false, cond_true, cond_false])⟩) rfl rfl rfl) ?_
                refine .v rfl (met rfl rfl rfl g54) (O.fld fld75_0 rfl rfl rfl) ?_
                refine .v rfl (met rfl rfl rfl g54) (O.ld ty3 rfl rfl rfl) ?_
                refine .v rfl (met rfl rfl rfl g54) (OpL.binI rfl rfl rfl rfl) ?_
                refine .v rfl (met rfl rfl rfl (notT g53)) (O.pickT g54 rfl rfl rfl) ?_
                refine .v rfl rfl (O.pickF (notT g53) rfl rfl rfl) ?_
                refine .nil ?_
                refine ⟨by kernel_rfl, by kernel_rfl, ?_⟩
                exact toN (Gives.mkR [] (.c rfl (.rfl _) rfl (.c rfl (.rfl _) rfl (.c rfl (sbb (by simp only [g53, g54, Bool.true_or, Bool.or_true, Bool.false_or, Bool.or_false, Bool.true_and, Bool.and_true, Bool.false_and, Bool.and_false, Bool.not_true, Bool.not_false, cond_true, cond_false])) rfl .n))) .n rfl rfl rfl)
              · refine W.dk [[], [], [0, 1], [0, 1, 2], [0, 1, 2, 3], [0, 1, 2, 3, 4], [0, 1, 2, 3, 4, 5], [0, 1, 2, 3, 4, 5, 6], [0, 1, 2, 3, 4, 5, 6, 7], [0, 1, 2, 3, 4, 5, 6, 7, 8], [0, 1, 2, 3, 4, 5, 6, 7, 8, 9], [0, 1, 2, 3, 4, 5, 6, 7, 8, 9, 10], [0, 1, 2, 3, 4, 5, 6, 7, 8, 9, 10], [0, 1, 2, 3, 4, 5, 6, 7, 8, 9, 10, 11, 12], [0, 1, 2, 3, 4, 5, 6, 7, 8, 9, 10, 11, 12, 13], [0, 1, 2, 3, 4, 5, 6, 7, 8, 9, 10, 11, 12, 13, 14], [0, 1, 2, 3, 4, 5, 6, 7, 8, 9, 10], [0, 1, 2, 3, 4, 5, 6, 7, 8, 9, 10], [0, 1, 2, 3, 4, 5, 6, 7, 8, 9, 10, 17], [0, 1, 2, 3, 4, 5, 6, 7, 8, 9, 10, 16, 17, 18], [0, 1, 2, 3, 4, 5, 6, 7, 8, 9, 10, 16, 17, 18, 19], [0, 1, 2, 3, 4, 5, 6, 7, 8, 9, 10, 16, 17, 18, 19, 20], [0, 1, 2, 3, 4, 5, 6, 7, 8, 9, 10, 11, 12, 13, 14, 15, 16, 17, 18, 19, 20, 21], [0, 1, 2, 3, 4, 5, 6, 7, 8, 9, 10, 11, 12, 13, 14, 15, 16, 17, 18, 19, 20, 21, 22], [0, 1, 2, 3, 4, 5, 6, 7, 8, 9, 10, 11, 12, 13, 14, 15, 16, 17, 18, 19, 20, 21, 22, 23]] rfl (by kernel_rfl) ?_
                refine .v rfl rfl (OpL.move (.inl rfl) rfl) ?_
                refine .v rfl rfl (OpL.move (.inl rfl) rfl) ?_
                refine .v rfl rfl (O.idx sl22 c48 rfl rfl rfl) ?_
                refine .v rfl rfl (O.fld fld75_0 rfl rfl rfl) ?_
                refine .v rfl rfl (O.ld ty3 rfl rfl rfl) ?_
                refine .call (.imm (.val (.bool t49))) [] 0 (lombardref02_Good.ok b50) rfl rfl rfl ca36 rfl rfl (cC (.imm _) .nil) rfl rfl rfl rfl rfl ?_
                refine .v rfl rfl (OpL.unV rfl rfl rfl) ?_
                refine .v rfl rfl (OpL.move (.inl rfl) rfl) ?_
                refine .v rfl (met rfl rfl rfl (notT g53)) (OpL.move (.inl rfl) rfl) ?_
                refine .v rfl (met rfl rfl rfl (notT g53)) (OpL.binI rfl rfl rfl rfl) ?_
                refine .v rfl (met rfl rfl rfl (notT g53)) (OpL.move (.inl rfl) rfl) ?_
                refine .x rfl (unmet rfl rfl rfl g54) ?_
                refine .x rfl (unmet rfl rfl rfl g54) ?_
                refine .x rfl (unmet rfl rfl rfl g54) ?_
                refine .x rfl (unmet rfl rfl rfl g54) ?_
                refine .x rfl (unmet rfl rfl rfl g54) ?_
                refine .x rfl (unmet rfl rfl rfl g54) ?_
                refine .x rfl (unmet rfl rfl rfl g54) ?_
                refine .x rfl (unmet rfl rfl rfl g54) ?_
                refine .x rfl (unmet rfl rfl rfl g54) ?_
                refine .x rfl (unmet rfl rfl rfl g54) ?_
                refine .x rfl (unmet rfl rfl rfl g54) ?_
                refine .x rfl (unmet rfl rfl rfl g54) ?_
                refine .v rfl (met rfl rfl rfl (notT g53)) (O.pickF g54 rfl rfl rfl) ?_
                refine .v rfl rfl (O.pickF (notT g53) rfl rfl rfl) ?_
                refine .nil ?_
                refine ⟨by kernel_rfl, by kernel_rfl, ?_⟩
                exact toN (Gives.mkR [] (.c rfl (.rfl _) rfl (.c rfl (.rfl _) rfl (.c rfl (sbb (by simp only [g53, g54, Bool.true_or, Bool.or_true, Bool.false_or, Bool.or_false, Bool.true_and, Bool.and_true, Bool.false_and, Bool.and_false, Bool.not_true, Bool.not_false, cond_true, cond_false])) rfl .n))) .n rfl rfl rfl)
            · refine W.dk [[], [], [0, 1], [0, 1, 2], [0, 1, 2, 3], [0, 1, 2, 3, 4], [0, 1, 2, 3, 4, 5], [0, 1, 2, 3, 4, 5, 6], [0, 1, 2, 3, 4, 5, 6, 7], [0, 1, 2, 3, 4, 5, 6, 7, 8], [0, 1, 2, 3, 4, 5, 6, 7, 8, 9], [0, 1, 2, 3, 4, 5, 6, 7, 8, 9, 10], [0, 1, 2, 3, 4, 5, 6, 7, 8, 9, 10], [0, 1, 2, 3, 4, 5, 6, 7, 8, 9, 10, 11, 12], [0, 1, 2, 3, 4, 5, 6, 7, 8, 9, 10, 11, 12, 13], [0, 1, 2, 3, 4, 5, 6, 7, 8, 9, 10, 11, 12, 13, 14], [0, 1, 2, 3, 4, 5, 6, 7, 8, 9, 10], [0, 1, 2, 3, 4, 5, 6, 7, 8, 9, 10], [0, 1, 2, 3, 4, 5, 6, 7, 8, 9, 10, 17], [0, 1, 2, 3, 4, 5, 6, 7, 8, 9, 10, 16, 17, 18], [0, 1, 2, 3, 4, 5, 6, 7, 8, 9, 10, 16, 17, 18, 19], [0, 1, 2, 3, 4, 5, 6, 7, 8, 9, 10, 16, 17, 18, 19, 20], [0, 1, 2, 3, 4, 5, 6, 7, 8, 9, 10, 11, 12, 13, 14, 15, 16, 17, 18, 19, 20, 21], [0, 1, 2, 3, 4, 5, 6, 7, 8, 9, 10, 11, 12, 13, 14, 15, 16, 17, 18, 19, 20, 21, 22], [0, 1, 2, 3, 4, 5, 6, 7, 8, 9, 10, 11, 12, 13, 14, 15, 16, 17, 18, 19, 20, 21, 22, 23]] rfl (by kernel_rfl) ?_
              refine .v rfl rfl (OpL.move (.inl rfl) rfl) ?_
              refine .v rfl rfl (OpL.move (.inl rfl) rfl) ?_
              refine .v rfl rfl (O.idx sl22 c48 rfl rfl rfl) ?_
              refine .v rfl rfl (O.fld fld75_0 rfl rfl rfl) ?_
              refine .v rfl rfl (O.ld ty3 rfl rfl rfl) ?_
              refine .call (.imm (.val (.bool t49))) [] 0 (lombardref02_Good.ok b50) rfl rfl rfl ca36 rfl rfl (cC (.imm _) .nil) rfl rfl rfl rfl rfl ?_
              refine .v rfl rfl (OpL.unV rfl rfl rfl) ?_
              refine .v rfl rfl (OpL.move (.inl rfl) rfl) ?_
              refine .x rfl (unmet rfl rfl rfl (notF g53)) ?_
              refine .x rfl (unmet rfl rfl rfl (notF g53)) ?_
              refine .x rfl (unmet rfl rfl rfl (notF g53)) ?_
              refine .x rfl (unmetU rfl rfl rfl) ?_
              refine .x rfl (unmetU rfl rfl rfl) ?_
              refine .x rfl (unmetU rfl rfl rfl) ?_
              refine .x rfl (unmetU rfl rfl rfl) ?_
              refine .x rfl (unmetU rfl rfl rfl) ?_
              refine .x rfl (unmetU rfl rfl rfl) ?_
              refine .x rfl (unmetU rfl rfl rfl) ?_
              refine .x rfl (unmetU rfl rfl rfl) ?_
              refine .x rfl (unmetU rfl rfl rfl) ?_
              refine .x rfl (unmetU rfl rfl rfl) ?_
              refine .x rfl (unmetU rfl rfl rfl) ?_
              refine .x rfl (unmetU rfl rfl rfl) ?_
              refine .x rfl (unmet rfl rfl rfl (notF g53)) ?_
              refine .v rfl rfl (O.pickT (notF g53) rfl rfl rfl) ?_
              refine .nil ?_
              refine ⟨by kernel_rfl, by kernel_rfl, ?_⟩
              exact toN (Gives.mkR [] (.c rfl (.rfl _) rfl (.c rfl (.rfl _) rfl (.c rfl (sbb (by simp only [g53, Bool.true_or, Bool.or_true, Bool.false_or, Bool.or_false, Bool.true_and, Bool.and_true, Bool.false_and, Bool.and_false, Bool.not_true, Bool.not_false, cond_true, cond_false])) rfl .n))) .n rfl rfl rfl)
        · have h := ifF q47 h
          refine W.exit ?_
          cases h
          refine rdX fun e_ => ?_
          subst e_
          refine hit ?_
          exact fkN (Gives.mkR [] .n .n rfl rfl rfl)
      · intro w43 e_
        subst e_
        clear h
        have h := z46
        dsimp only at h
        refine W.seq ?_
        refine W.pk ?_
        refine .v rfl rfl (OpL.move (.inr rfl) rfl) ?_
        refine .nil ?_
        refine W.ret ?_
        cases h
        exact leaves (.inr rfl) rfl (.imm _) (cN .nil) rfl rfl
end Go.Proofs.Ytlgfdldonoaahaa
