/- Shows what functions of the program come to, each as a plain function: written by a program of the author's for this claim. -/
import Derived.Test.YtlgfdldonoaahaaGx14
namespace Go.Proofs.Ytlgfdldonoaahaa
open Go Go.Pm
set_option linter.unusedVariables false
set_option linter.unusedSimpArgs false
noncomputable def lombardlaw25_LegTwins.f (x0 : lombardref25_Covered) (x1 : Int) : Option (Bool) :=
  (lombardlaw25_short.f x0).bind fun t1 =>
  if (((!t1) || (decide (x0.Trade.ID > 1125899906842624))) || (decide (x0.Trade.ID < 1))) = true then
    (lombardlaw25_awake.f).bind fun t6 =>
    some t6
  else
    (lombardlaw25_of.f x0).bind fun t8 =>
    (leg_Covered_Begin.f t8).bind fun t10 =>
    (lombardlaw25_of.f (⟨(⟨x0.Trade.Twin, x0.Trade.ID, x1, (IntKind.wrap .i64 (3 - x0.Trade.Side)), x0.Trade.Basket, x0.Trade.Amount, x0.Trade.Start, x0.Trade.End, x0.Trade.Resets, x0.Trade.Stage, x0.Trade.Short⟩ : api_Trade), x0.Lots⟩ : lombardref25_Covered)).bind fun t12 =>
    (leg_Covered_Begin.f t12).bind fun t14 =>
    if ((t10.2 != 0) || (t14.2 != 0)) = true then
      (lombardlaw25_awake.f).bind fun t18 =>
      some t18
    else
      (lombardlaw25_of.f x0).bind fun t20 =>
      (leg_Covered_End.f t20).bind fun t22 =>
      (lombardlaw25_of.f (⟨(⟨x0.Trade.Twin, x0.Trade.ID, x1, (IntKind.wrap .i64 (3 - x0.Trade.Side)), x0.Trade.Basket, x0.Trade.Amount, x0.Trade.Start, x0.Trade.End, x0.Trade.Resets, x0.Trade.Stage, x0.Trade.Short⟩ : api_Trade), x0.Lots⟩ : lombardref25_Covered)).bind fun t24 =>
      (leg_Covered_End.f t24).bind fun t26 =>
      (lombardref25_Against.f t10.1 t14.1).bind fun t28 =>
      (if (t28 && (t22.2 == t26.2)) = true then lombardref25_Against.f t22.1 t26.1 else some default).bind fun t30 =>
      (if ((t28 && (t22.2 == t26.2)) && t30) = true then lombardlaw25_awake.f else some default).bind fun t32 =>
      some (((t28 && (t22.2 == t26.2)) && t30) && t32)
set_option maxRecDepth 100000 in
set_option maxHeartbeats 4000000 in
theorem lombardlaw25_LegTwins.ok {x0 : lombardref25_Covered} {x1 : Int} {r : Bool} (h : lombardlaw25_LegTwins.f x0 x1 = some r) : Pm.Spec prog 4 [.agg [.imm (.val (.int .i64 x0.Trade.ID)), .imm (.val (.int .i64 x0.Trade.Twin)), .imm (.val (.int .i64 x0.Trade.Member)), .imm (.val (.int .i64 x0.Trade.Side)), .imm (.val (.int .i64 x0.Trade.Basket)), .imm (.val (.int .i64 x0.Trade.Amount)), .imm (.val (.int .i64 x0.Trade.Start)), .imm (.val (.int .i64 x0.Trade.End)), .imm (.row 2 (List.map api_Reset.enc x0.Trade.Resets)), .imm (.val (.int .i64 x0.Trade.Stage)), .imm (.val (.bool x0.Trade.Short)), .imm (.row 2 (List.map api_Lot.enc x0.Lots))], .imm (.val (.int .i64 x1))] (.imm (.val (.bool r))) [none, none] := by
  unfold lombardlaw25_LegTwins.f at h
  refine Pm.Spec.of_body Try.func4 rfl (by kernel_rfl) (Nat.le_of_ble_eq_true rfl) (Nat.le_of_ble_eq_true rfl) ?_
  refine W.ghost (σ' := (mkSt [(0, some (.agg [.imm (.val (.int .i64 x0.Trade.ID)), .imm (.val (.int .i64 x0.Trade.Twin)), .imm (.val (.int .i64 x0.Trade.Member)), .imm (.val (.int .i64 x0.Trade.Side)), .imm (.val (.int .i64 x0.Trade.Basket)), .imm (.val (.int .i64 x0.Trade.Amount)), .imm (.val (.int .i64 x0.Trade.Start)), .imm (.val (.int .i64 x0.Trade.End)), .imm (.row 2 (List.map api_Reset.enc x0.Trade.Resets)), .imm (.val (.int .i64 x0.Trade.Stage)), .imm (.val (.bool x0.Trade.Short)), .imm (.row 2 (List.map api_Lot.enc x0.Lots))])), (1, some (.imm (.val (.int .i64 x1))))] [] 1000)) (Gives.entry (.c rfl (.c rfl .n)) .n) ?_
  refine W.seq ?_
  refine W.pk ?_
  refine .t rfl rfl (O.box rfl rfl rfl rfl rfl) ?_
  refine .v rfl rfl (OpL.move (.inr rfl) rfl) ?_
  refine .nil ?_
  refine W.seq ?_
  refine W.seq ?_
  obtain ⟨t1, b2, h⟩ := bnd1 h
  refine W.fork (mkSt [(1, some (.imm (.val (.int .i64 x1)))), (2, some (.ptr 1000 0)), (28, some (.imm (.val (.bool (((!t1) || (decide (x0.Trade.ID > 1125899906842624))) || (decide (x0.Trade.ID < 1)))))))] [(1000, some (.box [.imm (.val (.int .i64 x0.Trade.ID)), .imm (.val (.int .i64 x0.Trade.Twin)), .imm (.val (.int .i64 x0.Trade.Member)), .imm (.val (.int .i64 x0.Trade.Side)), .imm (.val (.int .i64 x0.Trade.Basket)), .imm (.val (.int .i64 x0.Trade.Amount)), .imm (.val (.int .i64 x0.Trade.Start)), .imm (.val (.int .i64 x0.Trade.End)), .imm (.row 2 (List.map api_Reset.enc x0.Trade.Resets)), .imm (.val (.int .i64 x0.Trade.Stage)), .imm (.val (.bool x0.Trade.Short)), .imm (.row 2 (List.map api_Lot.enc x0.Lots))]))] 1001) ?_ ?_
  · refine W.cond rfl (fun q5 => ?_) (fun q5 => ?_)
    · have h := ifT q5 h
      refine W.seq ?_
      obtain ⟨t6, b7, h⟩ := bnd1 h
      refine W.pk ?_
      refine .call (.imm (.val (.bool t6))) [] 0 (lombardlaw25_awake.ok b7) rfl rfl rfl ca9 rfl rfl .nil rfl rfl rfl rfl rfl ?_
      refine .v rfl rfl (OpL.move (.inr rfl) rfl) ?_
      refine .nil ?_
      refine W.ret ?_
      cases h
      exact leaves (.inr rfl) rfl (.imm _) (cN (cN .nil)) rfl rfl
    · have h := ifF q5 h
      refine W.skip ?_
      refine W.seq ?_
      refine W.pk ?_
      refine .v rfl rfl (O.ldN ty27 rfl rfl rfl) ?_
      refine .t rfl rfl (O.alloc z27 rfl) ?_
      refine .s rfl rfl (O.st ty27 rfl rfl rfl rfl rfl rfl rfl rfl rfl rfl (all' := [.imm (.val (.int .i64 x0.Trade.ID)), .imm (.val (.int .i64 x0.Trade.Twin)), .imm (.val (.int .i64 x0.Trade.Member)), .imm (.val (.int .i64 x0.Trade.Side)), .imm (.val (.int .i64 x0.Trade.Basket)), .imm (.val (.int .i64 x0.Trade.Amount)), .imm (.val (.int .i64 x0.Trade.Start)), .imm (.val (.int .i64 x0.Trade.End)), .imm (.row 2 (List.map api_Reset.enc x0.Trade.Resets)), .imm (.val (.int .i64 x0.Trade.Stage)), .imm (.val (.bool x0.Trade.Short)), .imm (.row 2 (List.map api_Lot.enc x0.Lots))]) rfl) ?_
      refine .nil ?_
      refine W.seq ?_
      refine W.dk [[], [0], [0, 1], [], [3], [3, 4], [], [6], [6, 7], [6, 7, 8], [], [0, 1, 2], [0, 1, 2, 11], [0, 1, 2, 11, 12], [0, 1, 2, 3, 4, 5, 11, 12, 13], [0, 1, 2, 3, 4, 5, 11, 12, 13, 14], [0, 1, 2, 3, 4, 5, 11, 12, 13, 14, 15], [0, 1, 2, 3, 4, 5, 6, 7, 8, 9, 11, 12, 13, 14, 15, 16], [0, 1, 2, 3, 4, 5, 6, 7, 8, 9, 11, 12, 13, 14, 15, 16, 17], [0, 1, 2, 3, 4, 5, 6, 7, 8, 9, 11, 12, 13, 14, 15, 16, 17, 18], [0, 1, 2, 3, 4, 5, 6, 7, 8, 9, 10, 11, 12, 13, 14, 15, 16, 17, 18, 19], [0, 1, 2, 3, 4, 5, 6, 7, 8, 9, 10, 11, 12, 13, 14, 15, 16, 17, 18, 19, 20], [0, 1, 2, 3, 4, 5, 6, 7, 8, 9, 10, 11, 12, 13, 14, 15, 16, 17, 18, 19, 20, 21]] rfl (by kernel_rfl) ?_
      refine .v rfl rfl (O.fld fld27_0 rfl rfl rfl) ?_
      refine .v rfl rfl (O.fld fld24_1 rfl rfl rfl) ?_
      refine .v rfl rfl (O.ld ty3 rfl rfl rfl) ?_
      refine .v rfl rfl (O.fld fld27_0 rfl rfl rfl) ?_
      refine .v rfl rfl (O.fld fld24_0 rfl rfl rfl) ?_
      refine .v rfl rfl (O.ld ty3 rfl rfl rfl) ?_
      refine .v rfl rfl (O.fld fld27_0 rfl rfl rfl) ?_
      refine .v rfl rfl (O.fld fld24_3 rfl rfl rfl) ?_
      refine .v rfl rfl (O.ld ty3 rfl rfl rfl) ?_
      refine .v rfl rfl (OpL.binI rfl rfl rfl rfl) ?_
      refine .v rfl rfl (OpL.move (.inl rfl) rfl) ?_
      refine .v rfl rfl (O.fld fld27_0 rfl rfl rfl) ?_
      refine .v rfl rfl (O.fld fld24_0 rfl rfl rfl) ?_
      refine .s rfl rfl (O.st ty3 rfl rfl rfl rfl rfl rfl rfl rfl rfl rfl (all' := [.imm (.val (.int .i64 x0.Trade.Twin)), .imm (.val (.int .i64 x0.Trade.Twin)), .imm (.val (.int .i64 x0.Trade.Member)), .imm (.val (.int .i64 x0.Trade.Side)), .imm (.val (.int .i64 x0.Trade.Basket)), .imm (.val (.int .i64 x0.Trade.Amount)), .imm (.val (.int .i64 x0.Trade.Start)), .imm (.val (.int .i64 x0.Trade.End)), .imm (.row 2 (List.map api_Reset.enc x0.Trade.Resets)), .imm (.val (.int .i64 x0.Trade.Stage)), .imm (.val (.bool x0.Trade.Short)), .imm (.row 2 (List.map api_Lot.enc x0.Lots))]) rfl) ?_
      refine .v rfl rfl (O.fld fld27_0 rfl rfl rfl) ?_
      refine .v rfl rfl (O.fld fld24_1 rfl rfl rfl) ?_
      refine .s rfl rfl (O.st ty3 rfl rfl rfl rfl rfl rfl rfl rfl rfl rfl (all' := [.imm (.val (.int .i64 x0.Trade.Twin)), .imm (.val (.int .i64 x0.Trade.ID)), .imm (.val (.int .i64 x0.Trade.Member)), .imm (.val (.int .i64 x0.Trade.Side)), .imm (.val (.int .i64 x0.Trade.Basket)), .imm (.val (.int .i64 x0.Trade.Amount)), .imm (.val (.int .i64 x0.Trade.Start)), .imm (.val (.int .i64 x0.Trade.End)), .imm (.row 2 (List.map api_Reset.enc x0.Trade.Resets)), .imm (.val (.int .i64 x0.Trade.Stage)), .imm (.val (.bool x0.Trade.Short)), .imm (.row 2 (List.map api_Lot.enc x0.Lots))]) rfl) ?_
      refine .v rfl rfl (O.fld fld27_0 rfl rfl rfl) ?_
      refine .v rfl rfl (O.fld fld24_3 rfl rfl rfl) ?_
      refine .s rfl rfl (O.st ty3 rfl rfl rfl rfl rfl rfl rfl rfl rfl rfl (all' := [.imm (.val (.int .i64 x0.Trade.Twin)), .imm (.val (.int .i64 x0.Trade.ID)), .imm (.val (.int .i64 x0.Trade.Member)), .imm (.val (.int .i64 (IntKind.wrap .i64 (3 - x0.Trade.Side)))), .imm (.val (.int .i64 x0.Trade.Basket)), .imm (.val (.int .i64 x0.Trade.Amount)), .imm (.val (.int .i64 x0.Trade.Start)), .imm (.val (.int .i64 x0.Trade.End)), .imm (.row 2 (List.map api_Reset.enc x0.Trade.Resets)), .imm (.val (.int .i64 x0.Trade.Stage)), .imm (.val (.bool x0.Trade.Short)), .imm (.row 2 (List.map api_Lot.enc x0.Lots))]) rfl) ?_
      refine .v rfl rfl (O.fld fld27_0 rfl rfl rfl) ?_
      refine .v rfl rfl (O.fld fld24_2 rfl rfl rfl) ?_
      refine .s rfl rfl (O.st ty3 rfl rfl rfl rfl rfl rfl rfl rfl rfl rfl (all' := [.imm (.val (.int .i64 x0.Trade.Twin)), .imm (.val (.int .i64 x0.Trade.ID)), .imm (.val (.int .i64 x1)), .imm (.val (.int .i64 (IntKind.wrap .i64 (3 - x0.Trade.Side)))), .imm (.val (.int .i64 x0.Trade.Basket)), .imm (.val (.int .i64 x0.Trade.Amount)), .imm (.val (.int .i64 x0.Trade.Start)), .imm (.val (.int .i64 x0.Trade.End)), .imm (.row 2 (List.map api_Reset.enc x0.Trade.Resets)), .imm (.val (.int .i64 x0.Trade.Stage)), .imm (.val (.bool x0.Trade.Short)), .imm (.row 2 (List.map api_Lot.enc x0.Lots))]) rfl) ?_
      refine .nil ?_
      refine ⟨by kernel_rfl, by kernel_rfl, ?_⟩
      refine W.seq ?_
      obtain ⟨t8, b9, h⟩ := bnd1 h
      obtain ⟨t10, b11, h⟩ := bnd1 h
      refine W.pk ?_
      refine .v rfl rfl (O.ldN ty27 rfl rfl rfl) ?_
      refine .call (.agg [.imm (.val (.int .i64 t8.Trade.ID)), .imm (.val (.int .i64 t8.Trade.Twin)), .imm (.val (.int .i64 t8.Trade.Member)), .imm (.val (.int .i64 t8.Trade.Side)), .imm (.val (.int .i64 t8.Trade.Basket)), .imm (.val (.int .i64 t8.Trade.Amount)), .imm (.val (.int .i64 t8.Trade.Start)), .imm (.val (.int .i64 t8.Trade.End)), .imm (.row 2 (List.map api_Reset.enc t8.Trade.Resets)), .imm (.val (.int .i64 t8.Trade.Stage)), .imm (.val (.bool t8.Trade.Short)), .imm (.row 2 (List.map api_Lot.enc t8.Lots))]) [] 0 (lombardlaw25_of.ok b9) rfl rfl rfl ca10 rfl rfl (cC (.agg _ _ _ _ (cC (.imm _) (cC (.imm _) (cC (.imm _) (cC (.imm _) (cC (.imm _) (cC (.imm _) (cC (.imm _) (cC (.imm _) (cC (.imm _) (cC (.imm _) (cC (.imm _) (cC (.imm _) .nil))))))))))))) .nil) rfl rfl rfl rfl rfl ?_
      refine .call (.tup [.agg [.imm (.val (.int .i64 t10.1.Day)), .imm (.val (.int .i64 t10.1.Member)), .imm (.val (.int .i64 t10.1.Trade)), .imm (.val (.int .i64 t10.1.Cash)), .imm (.row 2 (List.map api_Lot.enc t10.1.Lots))], .imm (.val (.int .i64 t10.2))]) [] 0 (leg_Covered_Begin.ok b11) rfl rfl rfl ca11 rfl rfl (cC (.agg _ _ _ _ (cC (.imm _) (cC (.imm _) (cC (.imm _) (cC (.imm _) (cC (.imm _) (cC (.imm _) (cC (.imm _) (cC (.imm _) (cC (.imm _) (cC (.imm _) (cC (.imm _) (cC (.imm _) .nil))))))))))))) .nil) rfl rfl rfl rfl rfl ?_
      refine .v rfl rfl (OpL.move (.inl rfl) rfl) ?_
      refine .v rfl rfl (OpL.extract rfl rfl rfl) ?_
      refine .v rfl rfl (OpL.extract rfl rfl rfl) ?_
      refine .t rfl rfl (O.alloc z31 rfl) ?_
      refine .s rfl rfl (O.st ty31 rfl rfl rfl rfl rfl rfl rfl rfl rfl rfl (all' := [.imm (.val (.int .i64 t10.1.Day)), .imm (.val (.int .i64 t10.1.Member)), .imm (.val (.int .i64 t10.1.Trade)), .imm (.val (.int .i64 t10.1.Cash)), .imm (.row 2 (List.map api_Lot.enc t10.1.Lots))]) rfl) ?_
      refine .v rfl rfl (OpL.move (.inr rfl) rfl) ?_
      refine .nil ?_
      refine W.seq ?_
      obtain ⟨t12, b13, h⟩ := bnd1 h
      obtain ⟨t14, b15, h⟩ := bnd1 h
      refine W.pk ?_
      refine .v rfl rfl (O.ldN ty27 rfl rfl rfl) ?_
      refine .call (.agg [.imm (.val (.int .i64 t12.Trade.ID)), .imm (.val (.int .i64 t12.Trade.Twin)), .imm (.val (.int .i64 t12.Trade.Member)), .imm (.val (.int .i64 t12.Trade.Side)), .imm (.val (.int .i64 t12.Trade.Basket)), .imm (.val (.int .i64 t12.Trade.Amount)), .imm (.val (.int .i64 t12.Trade.Start)), .imm (.val (.int .i64 t12.Trade.End)), .imm (.row 2 (List.map api_Reset.enc t12.Trade.Resets)), .imm (.val (.int .i64 t12.Trade.Stage)), .imm (.val (.bool t12.Trade.Short)), .imm (.row 2 (List.map api_Lot.enc t12.Lots))]) [] 0 (lombardlaw25_of.ok b13) rfl rfl rfl ca10 rfl rfl (cC (.agg _ _ _ _ (cC (.imm _) (cC (.imm _) (cC (.imm _) (cC (.imm _) (cC (.imm _) (cC (.imm _) (cC (.imm _) (cC (.imm _) (cC (.imm _) (cC (.imm _) (cC (.imm _) (cC (.imm _) .nil))))))))))))) .nil) rfl rfl rfl rfl rfl ?_
      refine .call (.tup [.agg [.imm (.val (.int .i64 t14.1.Day)), .imm (.val (.int .i64 t14.1.Member)), .imm (.val (.int .i64 t14.1.Trade)), .imm (.val (.int .i64 t14.1.Cash)), .imm (.row 2 (List.map api_Lot.enc t14.1.Lots))], .imm (.val (.int .i64 t14.2))]) [] 0 (leg_Covered_Begin.ok b15) rfl rfl rfl ca11 rfl rfl (cC (.agg _ _ _ _ (cC (.imm _) (cC (.imm _) (cC (.imm _) (cC (.imm _) (cC (.imm _) (cC (.imm _) (cC (.imm _) (cC (.imm _) (cC (.imm _) (cC (.imm _) (cC (.imm _) (cC (.imm _) .nil))))))))))))) .nil) rfl rfl rfl rfl rfl ?_
      refine .v rfl rfl (OpL.move (.inl rfl) rfl) ?_
      refine .v rfl rfl (OpL.extract rfl rfl rfl) ?_
      refine .v rfl rfl (OpL.extract rfl rfl rfl) ?_
      refine .t rfl rfl (O.alloc z31 rfl) ?_
      refine .s rfl rfl (O.st ty31 rfl rfl rfl rfl rfl rfl rfl rfl rfl rfl (all' := [.imm (.val (.int .i64 t14.1.Day)), .imm (.val (.int .i64 t14.1.Member)), .imm (.val (.int .i64 t14.1.Trade)), .imm (.val (.int .i64 t14.1.Cash)), .imm (.row 2 (List.map api_Lot.enc t14.1.Lots))]) rfl) ?_
      refine .v rfl rfl (OpL.move (.inr rfl) rfl) ?_
      refine .nil ?_
      refine W.seq ?_
      refine W.seq ?_
      refine W.fork (mkSt [(2, some (.ptr 1000 0)), (5, some (.ptr 1001 0)), (6, some (.ptr 1002 0)), (8, some (.ptr 1003 0)), (67, some (.imm (.val (.bool ((t10.2 != 0) || (t14.2 != 0))))))] [(1000, some (.box [.imm (.val (.int .i64 x0.Trade.ID)), .imm (.val (.int .i64 x0.Trade.Twin)), .imm (.val (.int .i64 x0.Trade.Member)), .imm (.val (.int .i64 x0.Trade.Side)), .imm (.val (.int .i64 x0.Trade.Basket)), .imm (.val (.int .i64 x0.Trade.Amount)), .imm (.val (.int .i64 x0.Trade.Start)), .imm (.val (.int .i64 x0.Trade.End)), .imm (.row 2 (List.map api_Reset.enc x0.Trade.Resets)), .imm (.val (.int .i64 x0.Trade.Stage)), .imm (.val (.bool x0.Trade.Short)), .imm (.row 2 (List.map api_Lot.enc x0.Lots))])), (1001, some (.box [.imm (.val (.int .i64 x0.Trade.Twin)), .imm (.val (.int .i64 x0.Trade.ID)), .imm (.val (.int .i64 x1)), .imm (.val (.int .i64 (IntKind.wrap .i64 (3 - x0.Trade.Side)))), .imm (.val (.int .i64 x0.Trade.Basket)), .imm (.val (.int .i64 x0.Trade.Amount)), .imm (.val (.int .i64 x0.Trade.Start)), .imm (.val (.int .i64 x0.Trade.End)), .imm (.row 2 (List.map api_Reset.enc x0.Trade.Resets)), .imm (.val (.int .i64 x0.Trade.Stage)), .imm (.val (.bool x0.Trade.Short)), .imm (.row 2 (List.map api_Lot.enc x0.Lots))])), (1002, some (.box [.imm (.val (.int .i64 t10.1.Day)), .imm (.val (.int .i64 t10.1.Member)), .imm (.val (.int .i64 t10.1.Trade)), .imm (.val (.int .i64 t10.1.Cash)), .imm (.row 2 (List.map api_Lot.enc t10.1.Lots))])), (1003, some (.box [.imm (.val (.int .i64 t14.1.Day)), .imm (.val (.int .i64 t14.1.Member)), .imm (.val (.int .i64 t14.1.Trade)), .imm (.val (.int .i64 t14.1.Cash)), .imm (.row 2 (List.map api_Lot.enc t14.1.Lots))]))] 1004) ?_ ?_
      · refine W.cond rfl (fun q17 => ?_) (fun q17 => ?_)
        · have h := ifT q17 h
          refine W.seq ?_
          obtain ⟨t18, b19, h⟩ := bnd1 h
          refine W.pk ?_
          refine .call (.imm (.val (.bool t18))) [] 0 (lombardlaw25_awake.ok b19) rfl rfl rfl ca9 rfl rfl .nil rfl rfl rfl rfl rfl ?_
          refine .v rfl rfl (OpL.move (.inr rfl) rfl) ?_
          refine .nil ?_
          refine W.ret ?_
          cases h
          exact leaves (.inr rfl) rfl (.imm _) (cN (cN .nil)) rfl rfl
        · have h := ifF q17 h
          refine W.skip ?_
          refine W.seq ?_
          obtain ⟨t20, b21, h⟩ := bnd1 h
          obtain ⟨t22, b23, h⟩ := bnd1 h
          refine W.pk ?_
          refine .v rfl rfl (O.ldN ty27 rfl rfl rfl) ?_
          refine .call (.agg [.imm (.val (.int .i64 t20.Trade.ID)), .imm (.val (.int .i64 t20.Trade.Twin)), .imm (.val (.int .i64 t20.Trade.Member)), .imm (.val (.int .i64 t20.Trade.Side)), .imm (.val (.int .i64 t20.Trade.Basket)), .imm (.val (.int .i64 t20.Trade.Amount)), .imm (.val (.int .i64 t20.Trade.Start)), .imm (.val (.int .i64 t20.Trade.End)), .imm (.row 2 (List.map api_Reset.enc t20.Trade.Resets)), .imm (.val (.int .i64 t20.Trade.Stage)), .imm (.val (.bool t20.Trade.Short)), .imm (.row 2 (List.map api_Lot.enc t20.Lots))]) [] 0 (lombardlaw25_of.ok b21) rfl rfl rfl ca10 rfl rfl (cC (.agg _ _ _ _ (cC (.imm _) (cC (.imm _) (cC (.imm _) (cC (.imm _) (cC (.imm _) (cC (.imm _) (cC (.imm _) (cC (.imm _) (cC (.imm _) (cC (.imm _) (cC (.imm _) (cC (.imm _) .nil))))))))))))) .nil) rfl rfl rfl rfl rfl ?_
          refine .call (.tup [.agg [.imm (.val (.int .i64 t22.1.Day)), .imm (.val (.int .i64 t22.1.Member)), .imm (.val (.int .i64 t22.1.Trade)), .imm (.val (.int .i64 t22.1.Cash)), .imm (.row 2 (List.map api_Lot.enc t22.1.Lots))], .imm (.val (.int .i64 t22.2))]) [] 0 (leg_Covered_End.ok b23) rfl rfl rfl ca13 rfl rfl (cC (.agg _ _ _ _ (cC (.imm _) (cC (.imm _) (cC (.imm _) (cC (.imm _) (cC (.imm _) (cC (.imm _) (cC (.imm _) (cC (.imm _) (cC (.imm _) (cC (.imm _) (cC (.imm _) (cC (.imm _) .nil))))))))))))) .nil) rfl rfl rfl rfl rfl ?_
          refine .v rfl rfl (OpL.move (.inl rfl) rfl) ?_
          refine .v rfl rfl (OpL.extract rfl rfl rfl) ?_
          refine .v rfl rfl (OpL.extract rfl rfl rfl) ?_
          refine .t rfl rfl (O.alloc z31 rfl) ?_
          refine .s rfl rfl (O.st ty31 rfl rfl rfl rfl rfl rfl rfl rfl rfl rfl (all' := [.imm (.val (.int .i64 t22.1.Day)), .imm (.val (.int .i64 t22.1.Member)), .imm (.val (.int .i64 t22.1.Trade)), .imm (.val (.int .i64 t22.1.Cash)), .imm (.row 2 (List.map api_Lot.enc t22.1.Lots))]) rfl) ?_
          refine .v rfl rfl (OpL.move (.inr rfl) rfl) ?_
          refine .nil ?_
          refine W.seq ?_
          obtain ⟨t24, b25, h⟩ := bnd1 h
          obtain ⟨t26, b27, h⟩ := bnd1 h
          refine W.pk ?_
          refine .v rfl rfl (O.ldN ty27 rfl rfl rfl) ?_
          refine .call (.agg [.imm (.val (.int .i64 t24.Trade.ID)), .imm (.val (.int .i64 t24.Trade.Twin)), .imm (.val (.int .i64 t24.Trade.Member)), .imm (.val (.int .i64 t24.Trade.Side)), .imm (.val (.int .i64 t24.Trade.Basket)), .imm (.val (.int .i64 t24.Trade.Amount)), .imm (.val (.int .i64 t24.Trade.Start)), .imm (.val (.int .i64 t24.Trade.End)), .imm (.row 2 (List.map api_Reset.enc t24.Trade.Resets)), .imm (.val (.int .i64 t24.Trade.Stage)), .imm (.val (.bool t24.Trade.Short)), .imm (.row 2 (List.map api_Lot.enc t24.Lots))]) [] 0 (lombardlaw25_of.ok b25) rfl rfl rfl ca10 rfl rfl (cC (.agg _ _ _ _ (cC (.imm _) (cC (.imm _) (cC (.imm _) (cC (.imm _) (cC (.imm _) (cC (.imm _) (cC (.imm _) (cC (.imm _) (cC (.imm _) (cC (.imm _) (cC (.imm _) (cC (.imm _) .nil))))))))))))) .nil) rfl rfl rfl rfl rfl ?_
          refine .call (.tup [.agg [.imm (.val (.int .i64 t26.1.Day)), .imm (.val (.int .i64 t26.1.Member)), .imm (.val (.int .i64 t26.1.Trade)), .imm (.val (.int .i64 t26.1.Cash)), .imm (.row 2 (List.map api_Lot.enc t26.1.Lots))], .imm (.val (.int .i64 t26.2))]) [] 0 (leg_Covered_End.ok b27) rfl rfl rfl ca13 rfl rfl (cC (.agg _ _ _ _ (cC (.imm _) (cC (.imm _) (cC (.imm _) (cC (.imm _) (cC (.imm _) (cC (.imm _) (cC (.imm _) (cC (.imm _) (cC (.imm _) (cC (.imm _) (cC (.imm _) (cC (.imm _) .nil))))))))))))) .nil) rfl rfl rfl rfl rfl ?_
          refine .v rfl rfl (OpL.move (.inl rfl) rfl) ?_
          refine .v rfl rfl (OpL.extract rfl rfl rfl) ?_
          refine .v rfl rfl (OpL.extract rfl rfl rfl) ?_
          refine .t rfl rfl (O.alloc z31 rfl) ?_
          refine .s rfl rfl (O.st ty31 rfl rfl rfl rfl rfl rfl rfl rfl rfl rfl (all' := [.imm (.val (.int .i64 t26.1.Day)), .imm (.val (.int .i64 t26.1.Member)), .imm (.val (.int .i64 t26.1.Trade)), .imm (.val (.int .i64 t26.1.Cash)), .imm (.row 2 (List.map api_Lot.enc t26.1.Lots))]) rfl) ?_
          refine .v rfl rfl (OpL.move (.inr rfl) rfl) ?_
          refine .nil ?_
          refine W.seq ?_
          obtain ⟨t28, b29, h⟩ := bnd1 h
          obtain ⟨t30, b31, h⟩ := bnd1 h
          obtain ⟨t32, b33, h⟩ := bnd1 h
          refine W.fork (mkSt [(4, some (.imm (.val (.bool (((t28 && (t22.2 == t26.2)) && t30) && t32)))))] [] 1006) ?_ ?_
          · refine W.ret ?_
            cases h
            exact leaves (.inr rfl) rfl (.imm _) (cN (cN .nil)) rfl rfl
          · clear h
            rcases tf t28 with g34 | g34
            · rcases tf (t22.2 == t26.2) with g35 | g35
              · rcases tf t30 with g36 | g36
                · refine W.pk ?_
                  refine .v rfl rfl (O.ldN ty31 rfl rfl rfl) ?_
                  refine .v rfl rfl (O.ldN ty31 rfl rfl rfl) ?_
                  refine .call (.imm (.val (.bool t28))) [] 0 (lombardref25_Against.ok b29) rfl rfl rfl ca16 rfl rfl (cC (.agg _ _ _ _ (cC (.imm _) (cC (.imm _) (cC (.imm _) (cC (.imm _) (cC (.imm _) .nil)))))) (cC (.agg _ _ _ _ (cC (.imm _) (cC (.imm _) (cC (.imm _) (cC (.imm _) (cC (.imm _) .nil)))))) .nil)) rfl rfl rfl rfl rfl ?_
                  refine .v rfl rfl (OpL.move (.inl rfl) rfl) ?_
                  refine .v rfl (met rfl rfl rfl g34) (OpL.move (.inl rfl) rfl) ?_
                  refine .v rfl (met rfl rfl rfl g34) (OpL.move (.inl rfl) rfl) ?_
                  refine .v rfl (met rfl rfl rfl g34) (OpL.binI rfl rfl rfl rfl) ?_
                  refine .v rfl rfl (O.pickT g34 rfl rfl rfl) ?_
                  refine .v rfl rfl (OpL.move (.inl rfl) rfl) ?_
                  refine .v rfl (met rfl rfl rfl g35) (O.ldN ty31 rfl rfl rfl) ?_
                  refine .v rfl (met rfl rfl rfl g35) (O.ldN ty31 rfl rfl rfl) ?_
                  refine .call (.imm (.val (.bool t30))) [] 0 (lombardref25_Against.ok ((if_pos (by simp only [g34, g35, g36, Bool.true_or, Bool.or_true, Bool.false_or, Bool.or_false, Bool.true_and, Bool.and_true, Bool.false_and, Bool.and_false, Bool.not_true, Bool.not_false, cond_true, cond_false])).symm.trans b31)) rfl (met rfl rfl rfl g35) rfl ca16 rfl rfl (cC (.agg _ _ _ _ (cC (.imm _) (cC (.imm _) (cC (.imm _) (cC (.imm _) (cC (.imm _) .nil)))))) (cC (.agg _ _ _ _ (cC (.imm _) (cC (.imm _) (cC (.imm _) (cC (.imm _) (cC (.imm _) .nil)))))) .nil)) rfl rfl rfl rfl rfl ?_
                  refine .v rfl rfl (O.pickT g35 rfl rfl rfl) ?_
                  refine .v rfl rfl (OpL.move (.inl rfl) rfl) ?_
                  refine .call (.imm (.val (.bool t32))) [] 0 (lombardlaw25_awake.ok ((if_pos (by simp only [g34, g35, g36, Bool.true_or, Bool.or_true, Bool.false_or, Bool.or_false, Bool.true_and, Bool.and_true, Bool.false_and, Bool.and_false, Bool.not_true, Bool.not_false, cond_true, cond_false])).symm.trans b33)) rfl (met rfl rfl rfl g36) rfl ca9 rfl rfl .nil rfl rfl rfl rfl rfl ?_
                  refine .v rfl rfl (O.pickT g36 rfl rfl rfl) ?_
                  refine .v rfl rfl (OpL.move (.inr rfl) rfl) ?_
                  refine .nil ?_
                  exact toN (Gives.mkR [] (.c rfl (sbb (by simp only [g34, g35, g36, Bool.true_or, Bool.or_true, Bool.false_or, Bool.or_false, Bool.true_and, Bool.and_true, Bool.false_and, Bool.and_false, Bool.not_true, Bool.not_false, cond_true, cond_false])) rfl .n) .n rfl rfl rfl)
                · refine W.pk ?_
                  refine .v rfl rfl (O.ldN ty31 rfl rfl rfl) ?_
                  refine .v rfl rfl (O.ldN ty31 rfl rfl rfl) ?_
                  refine .call (.imm (.val (.bool t28))) [] 0 (lombardref25_Against.ok b29) rfl rfl rfl ca16 rfl rfl (cC (.agg _ _ _ _ (cC (.imm _) (cC (.imm _) (cC (.imm _) (cC (.imm _) (cC (.imm _) .nil)))))) (cC (.agg _ _ _ _ (cC (.imm _) (cC (.imm _) (cC (.imm _) (cC (.imm _) (cC (.imm _) .nil)))))) .nil)) rfl rfl rfl rfl rfl ?_
                  refine .v rfl rfl (OpL.move (.inl rfl) rfl) ?_
                  refine .v rfl (met rfl rfl rfl g34) (OpL.move (.inl rfl) rfl) ?_
                  refine .v rfl (met rfl rfl rfl g34) (OpL.move (.inl rfl) rfl) ?_
                  refine .v rfl (met rfl rfl rfl g34) (OpL.binI rfl rfl rfl rfl) ?_
                  refine .v rfl rfl (O.pickT g34 rfl rfl rfl) ?_
                  refine .v rfl rfl (OpL.move (.inl rfl) rfl) ?_
                  refine .v rfl (met rfl rfl rfl g35) (O.ldN ty31 rfl rfl rfl) ?_
                  refine .v rfl (met rfl rfl rfl g35) (O.ldN ty31 rfl rfl rfl) ?_
                  refine .call (.imm (.val (.bool t30))) [] 0 (lombardref25_Against.ok ((if_pos (by simp only [g34, g35, g36, Bool.true_or, Bool.or_true, Bool.false_or, Bool.or_false, Bool.true_and, Bool.and_true, Bool.false_and, Bool.and_false, Bool.not_true, Bool.not_false, cond_true, cond_false])).symm.trans b31)) rfl (met rfl rfl rfl g35) rfl ca16 rfl rfl (cC (.agg _ _ _ _ (cC (.imm _) (cC (.imm _) (cC (.imm _) (cC (.imm _) (cC (.imm _) .nil)))))) (cC (.agg _ _ _ _ (cC (.imm _) (cC (.imm _) (cC (.imm _) (cC (.imm _) (cC (.imm _) .nil)))))) .nil)) rfl rfl rfl rfl rfl ?_
                  refine .v rfl rfl (O.pickT g35 rfl rfl rfl) ?_
                  refine .v rfl rfl (OpL.move (.inl rfl) rfl) ?_
                  refine .x rfl (unmet rfl rfl rfl g36) ?_
                  refine .v rfl rfl (O.pickF g36 rfl rfl rfl) ?_
                  refine .v rfl rfl (OpL.move (.inr rfl) rfl) ?_
                  refine .nil ?_
                  exact toN (Gives.mkR [] (.c rfl (sbb (by simp only [g34, g35, g36, Bool.true_or, Bool.or_true, Bool.false_or, Bool.or_false, Bool.true_and, Bool.and_true, Bool.false_and, Bool.and_false, Bool.not_true, Bool.not_false, cond_true, cond_false])) rfl .n) .n rfl rfl rfl)
              · refine W.pk ?_
                refine .v rfl rfl (O.ldN ty31 rfl rfl rfl) ?_
                refine .v rfl rfl (O.ldN ty31 rfl rfl rfl) ?_
                refine .call (.imm (.val (.bool t28))) [] 0 (lombardref25_Against.ok b29) rfl rfl rfl ca16 rfl rfl (cC (.agg _ _ _ _ (cC (.imm _) (cC (.imm _) (cC (.imm _) (cC (.imm _) (cC (.imm _) .nil)))))) (cC (.agg _ _ _ _ (cC (.imm _) (cC (.imm _) (cC (.imm _) (cC (.imm _) (cC (.imm _) .nil)))))) .nil)) rfl rfl rfl rfl rfl ?_
                refine .v rfl rfl (OpL.move (.inl rfl) rfl) ?_
                refine .v rfl (met rfl rfl rfl g34) (OpL.move (.inl rfl) rfl) ?_
                refine .v rfl (met rfl rfl rfl g34) (OpL.move (.inl rfl) rfl) ?_
                refine .v rfl (met rfl rfl rfl g34) (OpL.binI rfl rfl rfl rfl) ?_
                refine .v rfl rfl (O.pickT g34 rfl rfl rfl) ?_
                refine .v rfl rfl (OpL.move (.inl rfl) rfl) ?_
                refine .x rfl (unmet rfl rfl rfl g35) ?_
                refine .x rfl (unmet rfl rfl rfl g35) ?_
                refine .x rfl (unmet rfl rfl rfl g35) ?_
                refine .v rfl rfl (O.pickF g35 rfl rfl rfl) ?_
                refine .v rfl rfl (OpL.move (.inl rfl) rfl) ?_
                refine .x rfl (unmet rfl rfl rfl rfl) ?_
                refine .v rfl rfl (O.pickF rfl rfl rfl rfl) ?_
                refine .v rfl rfl (OpL.move (.inr rfl) rfl) ?_
                refine .nil ?_
                exact toN (Gives.mkR [] (.c rfl (sbb (by simp only [g34, g35, Bool.true_or, Bool.or_true, Bool.false_or, Bool.or_false, Bool.true_and, Bool.and_true, Bool.false_and, Bool.and_false, Bool.not_true, Bool.not_false, cond_true, cond_false])) rfl .n) .n rfl rfl rfl)
            · refine W.pk ?_
              refine .v rfl rfl (O.ldN ty31 rfl rfl rfl) ?_
              refine .v rfl rfl (O.ldN ty31 rfl rfl rfl) ?_
              refine .call (.imm (.val (.bool t28))) [] 0 (lombardref25_Against.ok b29) rfl rfl rfl ca16 rfl rfl (cC (.agg _ _ _ _ (cC (.imm _) (cC (.imm _) (cC (.imm _) (cC (.imm _) (cC (.imm _) .nil)))))) (cC (.agg _ _ _ _ (cC (.imm _) (cC (.imm _) (cC (.imm _) (cC (.imm _) (cC (.imm _) .nil)))))) .nil)) rfl rfl rfl rfl rfl ?_
              refine .v rfl rfl (OpL.move (.inl rfl) rfl) ?_
              refine .x rfl (unmet rfl rfl rfl g34) ?_
              refine .x rfl (unmet rfl rfl rfl g34) ?_
              refine .x rfl (unmet rfl rfl rfl g34) ?_
              refine .v rfl rfl (O.pickF g34 rfl rfl rfl) ?_
              refine .v rfl rfl (OpL.move (.inl rfl) rfl) ?_
              refine .x rfl (unmet rfl rfl rfl rfl) ?_
              refine .x rfl (unmet rfl rfl rfl rfl) ?_
              refine .x rfl (unmet rfl rfl rfl rfl) ?_
              refine .v rfl rfl (O.pickF rfl rfl rfl rfl) ?_
              refine .v rfl rfl (OpL.move (.inl rfl) rfl) ?_
              refine .x rfl (unmet rfl rfl rfl rfl) ?_
              refine .v rfl rfl (O.pickF rfl rfl rfl rfl) ?_
              refine .v rfl rfl (OpL.move (.inr rfl) rfl) ?_
              refine .nil ?_
              exact toN (Gives.mkR [] (.c rfl (sbb (by simp only [g34, Bool.true_or, Bool.or_true, Bool.false_or, Bool.or_false, Bool.true_and, Bool.and_true, Bool.false_and, Bool.and_false, Bool.not_true, Bool.not_false, cond_true, cond_false])) rfl .n) .n rfl rfl rfl)
      · clear h
        rcases tf (t10.2 != 0) with g16 | g16
        · refine W.pk ?_
          refine .v rfl rfl (OpL.move (.inl rfl) rfl) ?_
          refine .v rfl rfl (OpL.binI rfl rfl rfl rfl) ?_
          refine .v rfl rfl (OpL.move (.inl rfl) rfl) ?_
          refine .x rfl (unmet rfl rfl rfl g16) ?_
          refine .x rfl (unmet rfl rfl rfl g16) ?_
          refine .v rfl rfl (O.pickT g16 rfl rfl rfl) ?_
          refine .nil ?_
          exact toN (Gives.mkR [] (.c rfl (.rfl _) rfl (.c rfl (.rfl _) rfl (.c rfl (.rfl _) rfl (.c rfl (.rfl _) rfl (.c rfl (sbb (by simp only [g16, Bool.true_or, Bool.or_true, Bool.false_or, Bool.or_false, Bool.true_and, Bool.and_true, Bool.false_and, Bool.and_false, Bool.not_true, Bool.not_false, cond_true, cond_false])) rfl .n))))) (.c rfl (.rfl _) rfl rfl (.c rfl (.rfl _) rfl rfl (.c rfl (.rfl _) rfl rfl (.c rfl (.rfl _) rfl rfl .n)))) rfl rfl rfl)
        · refine W.pk ?_
          refine .v rfl rfl (OpL.move (.inl rfl) rfl) ?_
          refine .v rfl rfl (OpL.binI rfl rfl rfl rfl) ?_
          refine .v rfl rfl (OpL.move (.inl rfl) rfl) ?_
          refine .v rfl (met rfl rfl rfl g16) (OpL.move (.inl rfl) rfl) ?_
          refine .v rfl (met rfl rfl rfl g16) (OpL.binI rfl rfl rfl rfl) ?_
          refine .v rfl rfl (O.pickF g16 rfl rfl rfl) ?_
          refine .nil ?_
          exact toN (Gives.mkR [] (.c rfl (.rfl _) rfl (.c rfl (.rfl _) rfl (.c rfl (.rfl _) rfl (.c rfl (.rfl _) rfl (.c rfl (sbb (by simp only [g16, Bool.true_or, Bool.or_true, Bool.false_or, Bool.or_false, Bool.true_and, Bool.and_true, Bool.false_and, Bool.and_false, Bool.not_true, Bool.not_false, cond_true, cond_false])) rfl .n))))) (.c rfl (.rfl _) rfl rfl (.c rfl (.rfl _) rfl rfl (.c rfl (.rfl _) rfl rfl (.c rfl (.rfl _) rfl rfl .n)))) rfl rfl rfl)
  · clear h
    rcases tf t1 with g3 | g3
    · rcases tf (decide (x0.Trade.ID > 1125899906842624)) with g4 | g4
      · refine W.pk ?_
        refine .v rfl rfl (O.ldN ty27 rfl rfl rfl) ?_
        refine .call (.imm (.val (.bool t1))) [] 0 (lombardlaw25_short.ok b2) rfl rfl rfl ca8 rfl rfl (cC (.agg _ _ _ _ (cC (.imm _) (cC (.imm _) (cC (.imm _) (cC (.imm _) (cC (.imm _) (cC (.imm _) (cC (.imm _) (cC (.imm _) (cC (.imm _) (cC (.imm _) (cC (.imm _) (cC (.imm _) .nil))))))))))))) .nil) rfl rfl rfl rfl rfl ?_
        refine .v rfl rfl (OpL.unV rfl rfl rfl) ?_
        refine .v rfl rfl (OpL.move (.inl rfl) rfl) ?_
        refine .v rfl (met rfl rfl rfl (notT g3)) (O.fld fld27_0 rfl rfl rfl) ?_
        refine .v rfl (met rfl rfl rfl (notT g3)) (O.fld fld24_0 rfl rfl rfl) ?_
        refine .v rfl (met rfl rfl rfl (notT g3)) (O.ld ty3 rfl rfl rfl) ?_
        refine .v rfl (met rfl rfl rfl (notT g3)) (OpL.binI rfl rfl rfl rfl) ?_
        refine .v rfl rfl (O.pickF (notT g3) rfl rfl rfl) ?_
        refine .v rfl rfl (OpL.move (.inl rfl) rfl) ?_
        refine .x rfl (unmet rfl rfl rfl g4) ?_
        refine .x rfl (unmet rfl rfl rfl g4) ?_
        refine .x rfl (unmet rfl rfl rfl g4) ?_
        refine .x rfl (unmet rfl rfl rfl g4) ?_
        refine .v rfl rfl (O.pickT g4 rfl rfl rfl) ?_
        refine .nil ?_
        exact toN (Gives.mkR [] (.c rfl (.rfl _) rfl (.c rfl (.rfl _) rfl (.c rfl (sbb (by simp only [g3, g4, Bool.true_or, Bool.or_true, Bool.false_or, Bool.or_false, Bool.true_and, Bool.and_true, Bool.false_and, Bool.and_false, Bool.not_true, Bool.not_false, cond_true, cond_false])) rfl .n))) (.c rfl (.rfl _) rfl rfl .n) rfl rfl rfl)
      · refine W.pk ?_
        refine .v rfl rfl (O.ldN ty27 rfl rfl rfl) ?_
        refine .call (.imm (.val (.bool t1))) [] 0 (lombardlaw25_short.ok b2) rfl rfl rfl ca8 rfl rfl (cC (.agg _ _ _ _ (cC (.imm _) (cC (.imm _) (cC (.imm _) (cC (.imm _) (cC (.imm _) (cC (.imm _) (cC (.imm _) (cC (.imm _) (cC (.imm _) (cC (.imm _) (cC (.imm _) (cC (.imm _) .nil))))))))))))) .nil) rfl rfl rfl rfl rfl ?_
        refine .v rfl rfl (OpL.unV rfl rfl rfl) ?_
        refine .v rfl rfl (OpL.move (.inl rfl) rfl) ?_
        refine .v rfl (met rfl rfl rfl (notT g3)) (O.fld fld27_0 rfl rfl rfl) ?_
        refine .v rfl (met rfl rfl rfl (notT g3)) (O.fld fld24_0 rfl rfl rfl) ?_
        refine .v rfl (met rfl rfl rfl (notT g3)) (O.ld ty3 rfl rfl rfl) ?_
        refine .v rfl (met rfl rfl rfl (notT g3)) (OpL.binI rfl rfl rfl rfl) ?_
        refine .v rfl rfl (O.pickF (notT g3) rfl rfl rfl) ?_
        refine .v rfl rfl (OpL.move (.inl rfl) rfl) ?_
        refine .v rfl (met rfl rfl rfl g4) (O.fld fld27_0 rfl rfl rfl) ?_
        refine .v rfl (met rfl rfl rfl g4) (O.fld fld24_0 rfl rfl rfl) ?_
        refine .v rfl (met rfl rfl rfl g4) (O.ld ty3 rfl rfl rfl) ?_
        refine .v rfl (met rfl rfl rfl g4) (OpL.binI rfl rfl rfl rfl) ?_
        refine .v rfl rfl (O.pickF g4 rfl rfl rfl) ?_
        refine .nil ?_
        exact toN (Gives.mkR [] (.c rfl (.rfl _) rfl (.c rfl (.rfl _) rfl (.c rfl (sbb (by simp only [g3, g4, Bool.true_or, Bool.or_true, Bool.false_or, Bool.or_false, Bool.true_and, Bool.and_true, Bool.false_and, Bool.and_false, Bool.not_true, Bool.not_false, cond_true, cond_false])) rfl .n))) (.c rfl (.rfl _) rfl rfl .n) rfl rfl rfl)
    · refine W.pk ?_
      refine .v rfl rfl (O.ldN ty27 rfl rfl rfl) ?_
      refine .call (.imm (.val (.bool t1))) [] 0 (lombardlaw25_short.ok b2) rfl rfl rfl ca8 rfl rfl (cC (.agg _ _ _ _ (cC (.imm _) (cC (.imm _) (cC (.imm _) (cC (.imm _) (cC (.imm _) (cC (.imm _) (cC (.imm _) (cC (.imm _) (cC (.imm _) (cC (.imm _) (cC (.imm _) (cC (.imm _) .nil))))))))))))) .nil) rfl rfl rfl rfl rfl ?_
      refine .v rfl rfl (OpL.unV rfl rfl rfl) ?_
      refine .v rfl rfl (OpL.move (.inl rfl) rfl) ?_
      refine .x rfl (unmet rfl rfl rfl (notF g3)) ?_
      refine .x rfl (unmet rfl rfl rfl (notF g3)) ?_
      refine .x rfl (unmet rfl rfl rfl (notF g3)) ?_
      refine .x rfl (unmet rfl rfl rfl (notF g3)) ?_
      refine .v rfl rfl (O.pickT (notF g3) rfl rfl rfl) ?_
      refine .v rfl rfl (OpL.move (.inl rfl) rfl) ?_
      refine .x rfl (unmet rfl rfl rfl rfl) ?_
      refine .x rfl (unmet rfl rfl rfl rfl) ?_
      refine .x rfl (unmet rfl rfl rfl rfl) ?_
      refine .x rfl (unmet rfl rfl rfl rfl) ?_
      refine .v rfl rfl (O.pickT rfl rfl rfl rfl) ?_
      refine .nil ?_
      exact toN (Gives.mkR [] (.c rfl (.rfl _) rfl (.c rfl (.rfl _) rfl (.c rfl (sbb (by simp only [g3, Bool.true_or, Bool.or_true, Bool.false_or, Bool.or_false, Bool.true_and, Bool.and_true, Bool.false_and, Bool.and_false, Bool.not_true, Bool.not_false, cond_true, cond_false])) rfl .n))) (.c rfl (.rfl _) rfl rfl .n) rfl rfl rfl)
end Go.Proofs.Ytlgfdldonoaahaa
