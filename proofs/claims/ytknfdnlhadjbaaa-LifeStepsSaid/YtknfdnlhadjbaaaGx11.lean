/- Shows what functions of the program come to, each as a plain function: written by a program of the author's for this claim. -/
import Derived.Test.YtknfdnlhadjbaaaGx10
namespace Go.Proofs.Ytknfdnlhadjbaaa
open Go Go.Pm
set_option linter.unusedVariables false
set_option linter.unusedSimpArgs false
noncomputable def lombardlaw24_LifeSteps.f (x0 : api_Trade) (x1 : Int) (x2 : Int) (x3 : api_Reset) : Option (Bool) :=
  (lombardlaw24_good.f x0).bind fun t1 =>
  if (!t1) = true then
    (lombardlaw24_awake.f).bind fun t4 =>
    some t4
  else
    (life_Begin.f x0 x1).bind fun t6 =>
    (lombardref24_Begin.f x0 x1).bind fun t8 =>
    (life_Notice.f x0 x1 x2).bind fun t10 =>
    (lombardref24_Notice.f x0 x1 x2).bind fun t12 =>
    (lombardref23_Same.f t6.1 t8.1).bind fun t14 =>
    (if ((!t14) || (t6.2 != t8.2)) = false then lombardref23_Same.f t10.1 t12.1 else some default).bind fun t16 =>
    if ((((!t14) || (t6.2 != t8.2)) || (!t16)) || (t10.2 != t12.2)) = true then
      some false
    else
      (life_Reset.f x0 x1 x3).bind fun t22 =>
      (lombardref24_Reset.f x0 x1 x3).bind fun t24 =>
      (life_Close.f x0 x1).bind fun t26 =>
      (lombardref24_Close.f x0 x1).bind fun t28 =>
      (life_Fail.f x0).bind fun t30 =>
      (lombardref24_Fail.f x0).bind fun t32 =>
      (lombardref23_Same.f t22.1 t24.1).bind fun t34 =>
      (if ((!t34) || (t22.2 != t24.2)) = false then lombardref23_Same.f t26.1 t28.1 else some default).bind fun t36 =>
      (if ((((!t34) || (t22.2 != t24.2)) || (!t36)) || (t26.2 != t28.2)) = false then lombardref23_Same.f t30.1 t32.1 else some default).bind fun t38 =>
      if ((((((!t34) || (t22.2 != t24.2)) || (!t36)) || (t26.2 != t28.2)) || (!t38)) || (t30.2 != t32.2)) = true then
        some false
      else
        (life_Open.f x0).bind fun t46 =>
        (if (t46 == (x0.End == 0)) = true then life_Live.f x0 else some default).bind fun t48 =>
        (if (t46 == (x0.End == 0)) = true then lombardref24_Live.f x0 else some default).bind fun t50 =>
        (if ((t46 == (x0.End == 0)) && (t48 == t50)) = true then life_Over.f x0 else some default).bind fun t52 =>
        (if (((t46 == (x0.End == 0)) && (t48 == t50)) && (t52 == (decide (x0.Stage > 3)))) = true then life_Due.f x0 x1 else some default).bind fun t54 =>
        (if (((t46 == (x0.End == 0)) && (t48 == t50)) && (t52 == (decide (x0.Stage > 3)))) = true then lombardref24_Live.f x0 else some default).bind fun t56 =>
        (if ((((t46 == (x0.End == 0)) && (t48 == t50)) && (t52 == (decide (x0.Stage > 3)))) && (t54 == ((t56 && (x0.End != 0)) && (decide (x0.End ≤ x1))))) = true then lombardlaw24_awake.f else some default).bind fun t58 =>
        some (((((t46 == (x0.End == 0)) && (t48 == t50)) && (t52 == (decide (x0.Stage > 3)))) && (t54 == ((t56 && (x0.End != 0)) && (decide (x0.End ≤ x1))))) && t58)
set_option maxRecDepth 100000 in
set_option maxHeartbeats 4000000 in
theorem lombardlaw24_LifeSteps.ok {x0 : api_Trade} {x1 : Int} {x2 : Int} {x3 : api_Reset} {r : Bool} (h : lombardlaw24_LifeSteps.f x0 x1 x2 x3 = some r) : Pm.Spec prog 6 [.agg [.imm (.val (.int .i64 x0.ID)), .imm (.val (.int .i64 x0.Twin)), .imm (.val (.int .i64 x0.Member)), .imm (.val (.int .i64 x0.Side)), .imm (.val (.int .i64 x0.Basket)), .imm (.val (.int .i64 x0.Amount)), .imm (.val (.int .i64 x0.Start)), .imm (.val (.int .i64 x0.End)), .imm (.row 2 (List.map api_Reset.enc x0.Resets)), .imm (.val (.int .i64 x0.Stage)), .imm (.val (.bool x0.Short))], .imm (.val (.int .i64 x1)), .imm (.val (.int .i64 x2)), .agg [.imm (.val (.int .i64 x3.Day)), .imm (.val (.int .i64 x3.Rate))]] (.imm (.val (.bool r))) [none, none, none, none] := by
 unfold lombardlaw24_LifeSteps.f at h
 refine Pm.Spec.of_body Try.func6 rfl (by kernel_rfl) (Nat.le_of_ble_eq_true rfl) (Nat.le_of_ble_eq_true rfl) ?_
 refine W.ghost (σ' := (mkSt [(0, some (.agg (api_Trade.av x0))), (1, some (.i x1)), (2, some (.i x2)), (3, some (.agg [.i x3.Day, .i x3.Rate]))] [] 1000)) (Gives.entry (.c rfl (.c rfl (.c rfl (.c rfl .n)))) .n) ?_
 refine W.seq ?_
 refine W.pk ?_
 refine .t rfl rfl (O.box rfl rfl rfl rfl rfl) ?_
 refine .t rfl rfl (O.box rfl rfl rfl rfl rfl) ?_
 refine .a rfl rfl rfl rfl ?_
 refine .nil ?_
 refine W.seq ?_
 refine W.seq ?_
 obtain ⟨t1, b2, h⟩ := bnd1 h
 refine W.pk ?_
 refine .v rfl rfl (O.ldN ty24 rfl rfl rfl) ?_
 refine .call (.b t1) [] 0 (lombardlaw24_good.ok b2) rfl rfl rfl ca9 rfl rfl (cC (.agg _ _ _ _ (cC (.imm _) (cC (.imm _) (cC (.imm _) (cC (.imm _) (cC (.imm _) (cC (.imm _) (cC (.imm _) (cC (.imm _) (cC (.imm _) (cC (.imm _) (cC (.imm _) .nil)))))))))))) .nil) rfl rfl rfl rfl rfl ?_
 refine .v rfl rfl (OpL.unV rfl rfl rfl) ?_
 refine .nil ?_
 refine W.cond rfl (fun q3 => ?_) (fun q3 => ?_)
 ·have h := ifT q3 h
  refine W.seq ?_
  obtain ⟨t4, b5, h⟩ := bnd1 h
  refine W.pk ?_
  refine .call (.b t4) [] 0 (lombardlaw24_awake.ok b5) rfl rfl rfl ca10 rfl rfl .nil rfl rfl rfl rfl rfl ?_
  refine .a rfl rfl rfl rfl ?_
  refine .nil ?_
  refine W.ret ?_
  cases h
  exact leaves (.inr rfl) rfl (.imm _) (cN (cN (cN (cN .nil)))) rfl rfl
 ·have h := ifF q3 h
  refine W.skip ?_
  refine W.seq ?_
  obtain ⟨t6, b7, h⟩ := bnd1 h
  refine W.pk ?_
  refine .v rfl rfl (O.ldN ty24 rfl rfl rfl) ?_
  refine .m rfl rfl rfl rfl ?_
  refine .call (.tup [.agg (api_Trade.av t6.1), .i t6.2]) [] 0 (life_Begin.ok b7) rfl rfl rfl ca23 rfl rfl (cC (.agg _ _ _ _ (cC (.imm _) (cC (.imm _) (cC (.imm _) (cC (.imm _) (cC (.imm _) (cC (.imm _) (cC (.imm _) (cC (.imm _) (cC (.imm _) (cC (.imm _) (cC (.imm _) .nil)))))))))))) (cC (.imm _) .nil)) rfl rfl rfl rfl rfl ?_
  refine .m rfl rfl rfl rfl ?_
  refine .v rfl rfl (OpL.extract rfl rfl rfl) ?_
  refine .v rfl rfl (OpL.extract rfl rfl rfl) ?_
  refine .t rfl rfl (O.alloc z24 rfl) ?_
  refine .s rfl rfl (O.st ty24 rfl rfl rfl rfl rfl rfl rfl rfl rfl rfl (all' := [.i t6.1.ID, .i t6.1.Twin, .i t6.1.Member, .i t6.1.Side, .i t6.1.Basket, .i t6.1.Amount, .i t6.1.Start, .i t6.1.End, .imm (.row 2 (List.map api_Reset.enc t6.1.Resets)), .i t6.1.Stage, .b t6.1.Short]) rfl) ?_
  refine .a rfl rfl rfl rfl ?_
  refine .nil ?_
  refine W.seq ?_
  obtain ⟨t8, b9, h⟩ := bnd1 h
  refine W.pk ?_
  refine .v rfl rfl (O.ldN ty24 rfl rfl rfl) ?_
  refine .m rfl rfl rfl rfl ?_
  refine .call (.tup [.agg (api_Trade.av t8.1), .i t8.2]) [] 0 (lombardref24_Begin.ok b9) rfl rfl rfl ca24 rfl rfl (cC (.agg _ _ _ _ (cC (.imm _) (cC (.imm _) (cC (.imm _) (cC (.imm _) (cC (.imm _) (cC (.imm _) (cC (.imm _) (cC (.imm _) (cC (.imm _) (cC (.imm _) (cC (.imm _) .nil)))))))))))) (cC (.imm _) .nil)) rfl rfl rfl rfl rfl ?_
  refine .m rfl rfl rfl rfl ?_
  refine .v rfl rfl (OpL.extract rfl rfl rfl) ?_
  refine .v rfl rfl (OpL.extract rfl rfl rfl) ?_
  refine .t rfl rfl (O.alloc z24 rfl) ?_
  refine .s rfl rfl (O.st ty24 rfl rfl rfl rfl rfl rfl rfl rfl rfl rfl (all' := [.i t8.1.ID, .i t8.1.Twin, .i t8.1.Member, .i t8.1.Side, .i t8.1.Basket, .i t8.1.Amount, .i t8.1.Start, .i t8.1.End, .imm (.row 2 (List.map api_Reset.enc t8.1.Resets)), .i t8.1.Stage, .b t8.1.Short]) rfl) ?_
  refine .a rfl rfl rfl rfl ?_
  refine .nil ?_
  refine W.seq ?_
  obtain ⟨t10, b11, h⟩ := bnd1 h
  refine W.pk ?_
  refine .v rfl rfl (O.ldN ty24 rfl rfl rfl) ?_
  refine .m rfl rfl rfl rfl ?_
  refine .m rfl rfl rfl rfl ?_
  refine .call (.tup [.agg (api_Trade.av t10.1), .i t10.2]) [] 0 (life_Notice.ok b11) rfl rfl rfl ca25 rfl rfl (cC (.agg _ _ _ _ (cC (.imm _) (cC (.imm _) (cC (.imm _) (cC (.imm _) (cC (.imm _) (cC (.imm _) (cC (.imm _) (cC (.imm _) (cC (.imm _) (cC (.imm _) (cC (.imm _) .nil)))))))))))) (cC (.imm _) (cC (.imm _) .nil))) rfl rfl rfl rfl rfl ?_
  refine .m rfl rfl rfl rfl ?_
  refine .v rfl rfl (OpL.extract rfl rfl rfl) ?_
  refine .v rfl rfl (OpL.extract rfl rfl rfl) ?_
  refine .t rfl rfl (O.alloc z24 rfl) ?_
  refine .s rfl rfl (O.st ty24 rfl rfl rfl rfl rfl rfl rfl rfl rfl rfl (all' := [.i t10.1.ID, .i t10.1.Twin, .i t10.1.Member, .i t10.1.Side, .i t10.1.Basket, .i t10.1.Amount, .i t10.1.Start, .i t10.1.End, .imm (.row 2 (List.map api_Reset.enc t10.1.Resets)), .i t10.1.Stage, .b t10.1.Short]) rfl) ?_
  refine .a rfl rfl rfl rfl ?_
  refine .nil ?_
  refine W.seq ?_
  obtain ⟨t12, b13, h⟩ := bnd1 h
  refine W.pk ?_
  refine .v rfl rfl (O.ldN ty24 rfl rfl rfl) ?_
  refine .m rfl rfl rfl rfl ?_
  refine .m rfl rfl rfl rfl ?_
  refine .call (.tup [.agg (api_Trade.av t12.1), .i t12.2]) [] 0 (lombardref24_Notice.ok b13) rfl rfl rfl ca26 rfl rfl (cC (.agg _ _ _ _ (cC (.imm _) (cC (.imm _) (cC (.imm _) (cC (.imm _) (cC (.imm _) (cC (.imm _) (cC (.imm _) (cC (.imm _) (cC (.imm _) (cC (.imm _) (cC (.imm _) .nil)))))))))))) (cC (.imm _) (cC (.imm _) .nil))) rfl rfl rfl rfl rfl ?_
  refine .m rfl rfl rfl rfl ?_
  refine .v rfl rfl (OpL.extract rfl rfl rfl) ?_
  refine .v rfl rfl (OpL.extract rfl rfl rfl) ?_
  refine .t rfl rfl (O.alloc z24 rfl) ?_
  refine .s rfl rfl (O.st ty24 rfl rfl rfl rfl rfl rfl rfl rfl rfl rfl (all' := [.i t12.1.ID, .i t12.1.Twin, .i t12.1.Member, .i t12.1.Side, .i t12.1.Basket, .i t12.1.Amount, .i t12.1.Start, .i t12.1.End, .imm (.row 2 (List.map api_Reset.enc t12.1.Resets)), .i t12.1.Stage, .b t12.1.Short]) rfl) ?_
  refine .a rfl rfl rfl rfl ?_
  refine .nil ?_
  refine W.seq ?_
  refine W.seq ?_
  obtain ⟨t14, b15, h⟩ := bnd1 h
  obtain ⟨t16, b17, h⟩ := bnd1 h
  refine W.fork (mkSt [(1, some (.i x1)), (4, some (.ptr 1000 0)), (7, some (.ptr 1001 0)), (9, some (.ptr 1002 0)), (11, some (.ptr 1003 0)), (13, some (.ptr 1004 0)), (15, some (.ptr 1005 0)), (70, some (.b ((((!t14) || (t6.2 != t8.2)) || (!t16)) || (t10.2 != t12.2))))] [(1000, some (.box [.i x0.ID, .i x0.Twin, .i x0.Member, .i x0.Side, .i x0.Basket, .i x0.Amount, .i x0.Start, .i x0.End, .imm (.row 2 (List.map api_Reset.enc x0.Resets)), .i x0.Stage, .b x0.Short])), (1001, some (.box [.i x3.Day, .i x3.Rate])), (1002, some (.box [.i t6.1.ID, .i t6.1.Twin, .i t6.1.Member, .i t6.1.Side, .i t6.1.Basket, .i t6.1.Amount, .i t6.1.Start, .i t6.1.End, .imm (.row 2 (List.map api_Reset.enc t6.1.Resets)), .i t6.1.Stage, .b t6.1.Short])), (1003, some (.box [.i t8.1.ID, .i t8.1.Twin, .i t8.1.Member, .i t8.1.Side, .i t8.1.Basket, .i t8.1.Amount, .i t8.1.Start, .i t8.1.End, .imm (.row 2 (List.map api_Reset.enc t8.1.Resets)), .i t8.1.Stage, .b t8.1.Short])), (1004, some (.box [.i t10.1.ID, .i t10.1.Twin, .i t10.1.Member, .i t10.1.Side, .i t10.1.Basket, .i t10.1.Amount, .i t10.1.Start, .i t10.1.End, .imm (.row 2 (List.map api_Reset.enc t10.1.Resets)), .i t10.1.Stage, .b t10.1.Short])), (1005, some (.box [.i t12.1.ID, .i t12.1.Twin, .i t12.1.Member, .i t12.1.Side, .i t12.1.Basket, .i t12.1.Amount, .i t12.1.Start, .i t12.1.End, .imm (.row 2 (List.map api_Reset.enc t12.1.Resets)), .i t12.1.Stage, .b t12.1.Short]))] 1006) ?_ ?_
  ·refine W.cond rfl (fun q21 => ?_) (fun q21 => ?_)
   ·have h := ifT q21 h
    refine W.seq ?_
    refine W.pk ?_
    refine .a rfl rfl rfl rfl ?_
    refine .nil ?_
    refine W.ret ?_
    cases h
    exact leaves (.inr rfl) rfl (.imm _) (cN (cN (cN (cN .nil)))) rfl rfl
   ·have h := ifF q21 h
    refine W.skip ?_
    refine W.seq ?_
    obtain ⟨t22, b23, h⟩ := bnd1 h
    refine W.pk ?_
    refine .v rfl rfl (O.ldN ty24 rfl rfl rfl) ?_
    refine .m rfl rfl rfl rfl ?_
    refine .v rfl rfl (O.ldN ty46 rfl rfl rfl) ?_
    refine .call (.tup [.agg (api_Trade.av t22.1), .i t22.2]) [] 0 (life_Reset.ok b23) rfl rfl rfl ca28 rfl rfl (cC (.agg _ _ _ _ (cC (.imm _) (cC (.imm _) (cC (.imm _) (cC (.imm _) (cC (.imm _) (cC (.imm _) (cC (.imm _) (cC (.imm _) (cC (.imm _) (cC (.imm _) (cC (.imm _) .nil)))))))))))) (cC (.imm _) (cC (.agg _ _ _ _ (cC (.imm _) (cC (.imm _) .nil))) .nil))) rfl rfl rfl rfl rfl ?_
    refine .m rfl rfl rfl rfl ?_
    refine .v rfl rfl (OpL.extract rfl rfl rfl) ?_
    refine .v rfl rfl (OpL.extract rfl rfl rfl) ?_
    refine .s rfl rfl (O.st ty24 rfl rfl rfl rfl rfl rfl rfl rfl rfl rfl (all' := [.i t22.1.ID, .i t22.1.Twin, .i t22.1.Member, .i t22.1.Side, .i t22.1.Basket, .i t22.1.Amount, .i t22.1.Start, .i t22.1.End, .imm (.row 2 (List.map api_Reset.enc t22.1.Resets)), .i t22.1.Stage, .b t22.1.Short]) rfl) ?_
    refine .a rfl rfl rfl rfl ?_
    refine .nil ?_
    refine W.seq ?_
    obtain ⟨t24, b25, h⟩ := bnd1 h
    refine W.pk ?_
    refine .v rfl rfl (O.ldN ty24 rfl rfl rfl) ?_
    refine .m rfl rfl rfl rfl ?_
    refine .v rfl rfl (O.ldN ty46 rfl rfl rfl) ?_
    refine .call (.tup [.agg (api_Trade.av t24.1), .i t24.2]) [] 0 (lombardref24_Reset.ok b25) rfl rfl rfl ca29 rfl rfl (cC (.agg _ _ _ _ (cC (.imm _) (cC (.imm _) (cC (.imm _) (cC (.imm _) (cC (.imm _) (cC (.imm _) (cC (.imm _) (cC (.imm _) (cC (.imm _) (cC (.imm _) (cC (.imm _) .nil)))))))))))) (cC (.imm _) (cC (.agg _ _ _ _ (cC (.imm _) (cC (.imm _) .nil))) .nil))) rfl rfl rfl rfl rfl ?_
    refine .m rfl rfl rfl rfl ?_
    refine .v rfl rfl (OpL.extract rfl rfl rfl) ?_
    refine .v rfl rfl (OpL.extract rfl rfl rfl) ?_
    refine .s rfl rfl (O.st ty24 rfl rfl rfl rfl rfl rfl rfl rfl rfl rfl (all' := [.i t24.1.ID, .i t24.1.Twin, .i t24.1.Member, .i t24.1.Side, .i t24.1.Basket, .i t24.1.Amount, .i t24.1.Start, .i t24.1.End, .imm (.row 2 (List.map api_Reset.enc t24.1.Resets)), .i t24.1.Stage, .b t24.1.Short]) rfl) ?_
    refine .a rfl rfl rfl rfl ?_
    refine .nil ?_
    refine W.seq ?_
    obtain ⟨t26, b27, h⟩ := bnd1 h
    refine W.pk ?_
    refine .v rfl rfl (O.ldN ty24 rfl rfl rfl) ?_
    refine .m rfl rfl rfl rfl ?_
    refine .call (.tup [.agg (api_Trade.av t26.1), .i t26.2]) [] 0 (life_Close.ok b27) rfl rfl rfl ca30 rfl rfl (cC (.agg _ _ _ _ (cC (.imm _) (cC (.imm _) (cC (.imm _) (cC (.imm _) (cC (.imm _) (cC (.imm _) (cC (.imm _) (cC (.imm _) (cC (.imm _) (cC (.imm _) (cC (.imm _) .nil)))))))))))) (cC (.imm _) .nil)) rfl rfl rfl rfl rfl ?_
    refine .m rfl rfl rfl rfl ?_
    refine .v rfl rfl (OpL.extract rfl rfl rfl) ?_
    refine .v rfl rfl (OpL.extract rfl rfl rfl) ?_
    refine .s rfl rfl (O.st ty24 rfl rfl rfl rfl rfl rfl rfl rfl rfl rfl (all' := [.i t26.1.ID, .i t26.1.Twin, .i t26.1.Member, .i t26.1.Side, .i t26.1.Basket, .i t26.1.Amount, .i t26.1.Start, .i t26.1.End, .imm (.row 2 (List.map api_Reset.enc t26.1.Resets)), .i t26.1.Stage, .b t26.1.Short]) rfl) ?_
    refine .a rfl rfl rfl rfl ?_
    refine .nil ?_
    refine W.seq ?_
    obtain ⟨t28, b29, h⟩ := bnd1 h
    refine W.pk ?_
    refine .v rfl rfl (O.ldN ty24 rfl rfl rfl) ?_
    refine .m rfl rfl rfl rfl ?_
    refine .call (.tup [.agg (api_Trade.av t28.1), .i t28.2]) [] 0 (lombardref24_Close.ok b29) rfl rfl rfl ca31 rfl rfl (cC (.agg _ _ _ _ (cC (.imm _) (cC (.imm _) (cC (.imm _) (cC (.imm _) (cC (.imm _) (cC (.imm _) (cC (.imm _) (cC (.imm _) (cC (.imm _) (cC (.imm _) (cC (.imm _) .nil)))))))))))) (cC (.imm _) .nil)) rfl rfl rfl rfl rfl ?_
    refine .m rfl rfl rfl rfl ?_
    refine .v rfl rfl (OpL.extract rfl rfl rfl) ?_
    refine .v rfl rfl (OpL.extract rfl rfl rfl) ?_
    refine .s rfl rfl (O.st ty24 rfl rfl rfl rfl rfl rfl rfl rfl rfl rfl (all' := [.i t28.1.ID, .i t28.1.Twin, .i t28.1.Member, .i t28.1.Side, .i t28.1.Basket, .i t28.1.Amount, .i t28.1.Start, .i t28.1.End, .imm (.row 2 (List.map api_Reset.enc t28.1.Resets)), .i t28.1.Stage, .b t28.1.Short]) rfl) ?_
    refine .a rfl rfl rfl rfl ?_
    refine .nil ?_
    refine W.seq ?_
    obtain ⟨t30, b31, h⟩ := bnd1 h
    refine W.pk ?_
    refine .v rfl rfl (O.ldN ty24 rfl rfl rfl) ?_
    refine .call (.tup [.agg (api_Trade.av t30.1), .i t30.2]) [] 0 (life_Fail.ok b31) rfl rfl rfl ca32 rfl rfl (cC (.agg _ _ _ _ (cC (.imm _) (cC (.imm _) (cC (.imm _) (cC (.imm _) (cC (.imm _) (cC (.imm _) (cC (.imm _) (cC (.imm _) (cC (.imm _) (cC (.imm _) (cC (.imm _) .nil)))))))))))) .nil) rfl rfl rfl rfl rfl ?_
    refine .m rfl rfl rfl rfl ?_
    refine .v rfl rfl (OpL.extract rfl rfl rfl) ?_
    refine .v rfl rfl (OpL.extract rfl rfl rfl) ?_
    refine .t rfl rfl (O.alloc z24 rfl) ?_
    refine .s rfl rfl (O.st ty24 rfl rfl rfl rfl rfl rfl rfl rfl rfl rfl (all' := [.i t30.1.ID, .i t30.1.Twin, .i t30.1.Member, .i t30.1.Side, .i t30.1.Basket, .i t30.1.Amount, .i t30.1.Start, .i t30.1.End, .imm (.row 2 (List.map api_Reset.enc t30.1.Resets)), .i t30.1.Stage, .b t30.1.Short]) rfl) ?_
    refine .a rfl rfl rfl rfl ?_
    refine .nil ?_
    refine W.seq ?_
    obtain ⟨t32, b33, h⟩ := bnd1 h
    refine W.pk ?_
    refine .v rfl rfl (O.ldN ty24 rfl rfl rfl) ?_
    refine .call (.tup [.agg (api_Trade.av t32.1), .i t32.2]) [] 0 (lombardref24_Fail.ok b33) rfl rfl rfl ca33 rfl rfl (cC (.agg _ _ _ _ (cC (.imm _) (cC (.imm _) (cC (.imm _) (cC (.imm _) (cC (.imm _) (cC (.imm _) (cC (.imm _) (cC (.imm _) (cC (.imm _) (cC (.imm _) (cC (.imm _) .nil)))))))))))) .nil) rfl rfl rfl rfl rfl ?_
    refine .m rfl rfl rfl rfl ?_
    refine .v rfl rfl (OpL.extract rfl rfl rfl) ?_
    refine .v rfl rfl (OpL.extract rfl rfl rfl) ?_
    refine .t rfl rfl (O.alloc z24 rfl) ?_
    refine .s rfl rfl (O.st ty24 rfl rfl rfl rfl rfl rfl rfl rfl rfl rfl (all' := [.i t32.1.ID, .i t32.1.Twin, .i t32.1.Member, .i t32.1.Side, .i t32.1.Basket, .i t32.1.Amount, .i t32.1.Start, .i t32.1.End, .imm (.row 2 (List.map api_Reset.enc t32.1.Resets)), .i t32.1.Stage, .b t32.1.Short]) rfl) ?_
    refine .a rfl rfl rfl rfl ?_
    refine .nil ?_
    refine W.seq ?_
    refine W.seq ?_
    obtain ⟨t34, b35, h⟩ := bnd1 h
    obtain ⟨t36, b37, h⟩ := bnd1 h
    obtain ⟨t38, b39, h⟩ := bnd1 h
    refine W.fork (mkSt [(1, some (.i x1)), (4, some (.ptr 1000 0)), (137, some (.b ((((((!t34) || (t22.2 != t24.2)) || (!t36)) || (t26.2 != t28.2)) || (!t38)) || (t30.2 != t32.2))))] [(1000, some (.box [.i x0.ID, .i x0.Twin, .i x0.Member, .i x0.Side, .i x0.Basket, .i x0.Amount, .i x0.Start, .i x0.End, .imm (.row 2 (List.map api_Reset.enc x0.Resets)), .i x0.Stage, .b x0.Short]))] 1008) ?_ ?_
    ·refine W.cond rfl (fun q45 => ?_) (fun q45 => ?_)
     ·have h := ifT q45 h
      refine W.seq ?_
      refine W.pk ?_
      refine .a rfl rfl rfl rfl ?_
      refine .nil ?_
      refine W.ret ?_
      cases h
      exact leaves (.inr rfl) rfl (.imm _) (cN (cN (cN (cN .nil)))) rfl rfl
     ·have h := ifF q45 h
      refine W.skip ?_
      refine W.seq ?_
      obtain ⟨t46, b47, h⟩ := bnd1 h
      obtain ⟨t48, b49, h⟩ := bnd1 h
      obtain ⟨t50, b51, h⟩ := bnd1 h
      obtain ⟨t52, b53, h⟩ := bnd1 h
      obtain ⟨t54, b55, h⟩ := bnd1 h
      obtain ⟨t56, b57, h⟩ := bnd1 h
      obtain ⟨t58, b59, h⟩ := bnd1 h
      refine W.fork (mkSt [(8, some (.b (((((t46 == (x0.End == 0)) && (t48 == t50)) && (t52 == (decide (x0.Stage > 3)))) && (t54 == ((t56 && (x0.End != 0)) && (decide (x0.End ≤ x1))))) && t58)))] [] 1008) ?_ ?_
      ·refine W.ret ?_
       cases h
       exact leaves (.inr rfl) rfl (.imm _) (cN (cN (cN (cN .nil)))) rfl rfl
      ·clear h
       rcases tf (t46 == (x0.End == 0)) with g60 | g60
       ·rcases tf (t48 == t50) with g61 | g61
        ·rcases tf (t52 == (decide (x0.Stage > 3))) with g62 | g62
         ·rcases tf t56 with g63 | g63
          ·rcases tf (x0.End != 0) with g64 | g64
           ·rcases tf (t54 == (decide (x0.End ≤ x1))) with g65 | g65
            ·refine W.dk (unm 44 [0, 1, 0, 4, 12, 31, 63, 127, 255, 127, 1023, 2047, 4095, 8191, 16383, 32767, 16383, 81919, 212991, 524287, 1048575, 2097151, 4194303, 4194303, 16777215, 4194303, 67108863, 134217727, 268435455, 536870911, 1073741823, 2147483647, 4294967295, 8589934591, 17179869183, 8589934591, 68719476735, 137438953471, 274877906943, 549755813887, 1099511627775, 2199023255551, 4398046511103, 8796093022207]) rfl (by kernel_rfl) ?_
             refine .v rfl rfl (O.ldN ty24 rfl rfl rfl) ?_
             refine .call (.b t46) [] 0 (life_Open.ok b47) rfl rfl rfl ca34 rfl rfl (cC (.agg _ _ _ _ (cC (.imm _) (cC (.imm _) (cC (.imm _) (cC (.imm _) (cC (.imm _) (cC (.imm _) (cC (.imm _) (cC (.imm _) (cC (.imm _) (cC (.imm _) (cC (.imm _) .nil)))))))))))) .nil) rfl rfl rfl rfl rfl ?_
             refine .v rfl rfl (O.fld fld24_7 rfl rfl rfl) ?_
             refine .v rfl rfl (O.ld (y := .i x0.End) ty3 rfl rfl rfl) ?_
             refine .v rfl rfl (OpL.binI rfl rfl rfl rfl) ?_
             refine .v rfl rfl (OpL.eqB rfl u4 rfl rfl) ?_
             refine .m rfl rfl rfl rfl ?_
             refine .v rfl (met rfl rfl rfl g60) (O.ldN ty24 rfl rfl rfl) ?_
             refine .call (.b t48) [] 0 (life_Live.ok ((if_pos (by first | (simp only [g60, g61, g62, g63, g64, g65, Bool.true_or, Bool.or_true, Bool.false_or, Bool.or_false, Bool.true_and, Bool.and_true, Bool.false_and, Bool.and_false, Bool.not_true, Bool.not_false, cond_true, cond_false]; done) | (repeat (first | rw [g60] | rw [g61] | rw [g62] | rw [g63] | rw [g64] | rw [g65])) <;> simp only [Bool.true_or, Bool.or_true, Bool.false_or, Bool.or_false, Bool.true_and, Bool.and_true, Bool.false_and, Bool.and_false, Bool.not_true, Bool.not_false, cond_true, cond_false])).symm.trans b49)) rfl (met rfl rfl rfl g60) rfl ca35 rfl rfl (cC (.agg _ _ _ _ (cC (.imm _) (cC (.imm _) (cC (.imm _) (cC (.imm _) (cC (.imm _) (cC (.imm _) (cC (.imm _) (cC (.imm _) (cC (.imm _) (cC (.imm _) (cC (.imm _) .nil)))))))))))) .nil) rfl rfl rfl rfl rfl ?_
             refine .v rfl (met rfl rfl rfl g60) (O.ldN ty24 rfl rfl rfl) ?_
             refine .call (.b t50) [] 0 (lombardref24_Live.ok ((if_pos (by first | (simp only [g60, g61, g62, g63, g64, g65, Bool.true_or, Bool.or_true, Bool.false_or, Bool.or_false, Bool.true_and, Bool.and_true, Bool.false_and, Bool.and_false, Bool.not_true, Bool.not_false, cond_true, cond_false]; done) | (repeat (first | rw [g60] | rw [g61] | rw [g62] | rw [g63] | rw [g64] | rw [g65])) <;> simp only [Bool.true_or, Bool.or_true, Bool.false_or, Bool.or_false, Bool.true_and, Bool.and_true, Bool.false_and, Bool.and_false, Bool.not_true, Bool.not_false, cond_true, cond_false])).symm.trans b51)) rfl (met rfl rfl rfl g60) rfl ca36 rfl rfl (cC (.agg _ _ _ _ (cC (.imm _) (cC (.imm _) (cC (.imm _) (cC (.imm _) (cC (.imm _) (cC (.imm _) (cC (.imm _) (cC (.imm _) (cC (.imm _) (cC (.imm _) (cC (.imm _) .nil)))))))))))) .nil) rfl rfl rfl rfl rfl ?_
             refine .v rfl (met rfl rfl rfl g60) (OpL.eqB rfl u4 rfl rfl) ?_
             refine .v rfl rfl (O.pickT g60 rfl rfl rfl) ?_
             refine .m rfl rfl rfl rfl ?_
             refine .v rfl (met rfl rfl rfl g61) (O.ldN ty24 rfl rfl rfl) ?_
             refine .call (.b t52) [] 0 (life_Over.ok ((if_pos (by first | (simp only [g60, g61, g62, g63, g64, g65, Bool.true_or, Bool.or_true, Bool.false_or, Bool.or_false, Bool.true_and, Bool.and_true, Bool.false_and, Bool.and_false, Bool.not_true, Bool.not_false, cond_true, cond_false]; done) | (repeat (first | rw [g60] | rw [g61] | rw [g62] | rw [g63] | rw [g64] | rw [g65])) <;> simp only [Bool.true_or, Bool.or_true, Bool.false_or, Bool.or_false, Bool.true_and, Bool.and_true, Bool.false_and, Bool.and_false, Bool.not_true, Bool.not_false, cond_true, cond_false])).symm.trans b53)) rfl (met rfl rfl rfl g61) rfl ca37 rfl rfl (cC (.agg _ _ _ _ (cC (.imm _) (cC (.imm _) (cC (.imm _) (cC (.imm _) (cC (.imm _) (cC (.imm _) (cC (.imm _) (cC (.imm _) (cC (.imm _) (cC (.imm _) (cC (.imm _) .nil)))))))))))) .nil) rfl rfl rfl rfl rfl ?_
             refine .v rfl (met rfl rfl rfl g61) (O.fld fld24_9 rfl rfl rfl) ?_
             refine .v rfl (met rfl rfl rfl g61) (O.ld (y := .i x0.Stage) ty3 rfl rfl rfl) ?_
             refine .v rfl (met rfl rfl rfl g61) (OpL.binI rfl rfl rfl rfl) ?_
             refine .v rfl (met rfl rfl rfl g61) (OpL.eqB rfl u4 rfl rfl) ?_
             refine .v rfl rfl (O.pickT g61 rfl rfl rfl) ?_
             refine .m rfl rfl rfl rfl ?_
             refine .v rfl (met rfl rfl rfl g62) (O.ldN ty24 rfl rfl rfl) ?_
             refine .m rfl (met rfl rfl rfl g62) rfl rfl ?_
             refine .call (.b t54) [] 0 (life_Due.ok ((if_pos (by first | (simp only [g60, g61, g62, g63, g64, g65, Bool.true_or, Bool.or_true, Bool.false_or, Bool.or_false, Bool.true_and, Bool.and_true, Bool.false_and, Bool.and_false, Bool.not_true, Bool.not_false, cond_true, cond_false]; done) | (repeat (first | rw [g60] | rw [g61] | rw [g62] | rw [g63] | rw [g64] | rw [g65])) <;> simp only [Bool.true_or, Bool.or_true, Bool.false_or, Bool.or_false, Bool.true_and, Bool.and_true, Bool.false_and, Bool.and_false, Bool.not_true, Bool.not_false, cond_true, cond_false])).symm.trans b55)) rfl (met rfl rfl rfl g62) rfl ca38 rfl rfl (cC (.agg _ _ _ _ (cC (.imm _) (cC (.imm _) (cC (.imm _) (cC (.imm _) (cC (.imm _) (cC (.imm _) (cC (.imm _) (cC (.imm _) (cC (.imm _) (cC (.imm _) (cC (.imm _) .nil)))))))))))) (cC (.imm _) .nil)) rfl rfl rfl rfl rfl ?_
             refine .v rfl (met rfl rfl rfl g62) (O.ldN ty24 rfl rfl rfl) ?_
             refine .call (.b t56) [] 0 (lombardref24_Live.ok ((if_pos (by first | (simp only [g60, g61, g62, g63, g64, g65, Bool.true_or, Bool.or_true, Bool.false_or, Bool.or_false, Bool.true_and, Bool.and_true, Bool.false_and, Bool.and_false, Bool.not_true, Bool.not_false, cond_true, cond_false]; done) | (repeat (first | rw [g60] | rw [g61] | rw [g62] | rw [g63] | rw [g64] | rw [g65])) <;> simp only [Bool.true_or, Bool.or_true, Bool.false_or, Bool.or_false, Bool.true_and, Bool.and_true, Bool.false_and, Bool.and_false, Bool.not_true, Bool.not_false, cond_true, cond_false])).symm.trans b57)) rfl (met rfl rfl rfl g62) rfl ca36 rfl rfl (cC (.agg _ _ _ _ (cC (.imm _) (cC (.imm _) (cC (.imm _) (cC (.imm _) (cC (.imm _) (cC (.imm _) (cC (.imm _) (cC (.imm _) (cC (.imm _) (cC (.imm _) (cC (.imm _) .nil)))))))))))) .nil) rfl rfl rfl rfl rfl ?_
             refine .m rfl (met rfl rfl rfl g62) rfl rfl ?_
             refine .v rfl (met rfl rfl rfl g63) (O.fld fld24_7 rfl rfl rfl) ?_
             refine .v rfl (met rfl rfl rfl g63) (O.ld (y := .i x0.End) ty3 rfl rfl rfl) ?_
             refine .v rfl (met rfl rfl rfl g63) (OpL.binI rfl rfl rfl rfl) ?_
             refine .v rfl (met rfl rfl rfl g62) (O.pickT g63 rfl rfl rfl) ?_
             refine .m rfl (met rfl rfl rfl g62) rfl rfl ?_
             refine .v rfl (met rfl rfl rfl g64) (O.fld fld24_7 rfl rfl rfl) ?_
             refine .v rfl (met rfl rfl rfl g64) (O.ld (y := .i x0.End) ty3 rfl rfl rfl) ?_
             refine .m rfl (met rfl rfl rfl g64) rfl rfl ?_
             refine .v rfl (met rfl rfl rfl g64) (OpL.binI rfl rfl rfl rfl) ?_
             refine .v rfl (met rfl rfl rfl g62) (O.pickT g64 rfl rfl rfl) ?_
             refine .v rfl (met rfl rfl rfl g62) (OpL.eqB rfl u4 rfl rfl) ?_
             refine .v rfl rfl (O.pickT g62 rfl rfl rfl) ?_
             refine .m rfl rfl rfl rfl ?_
             refine .call (.b t58) [] 0 (lombardlaw24_awake.ok ((if_pos (by first | (simp only [g60, g61, g62, g63, g64, g65, Bool.true_or, Bool.or_true, Bool.false_or, Bool.or_false, Bool.true_and, Bool.and_true, Bool.false_and, Bool.and_false, Bool.not_true, Bool.not_false, cond_true, cond_false]; done) | (repeat (first | rw [g60] | rw [g61] | rw [g62] | rw [g63] | rw [g64] | rw [g65])) <;> simp only [Bool.true_or, Bool.or_true, Bool.false_or, Bool.or_false, Bool.true_and, Bool.and_true, Bool.false_and, Bool.and_false, Bool.not_true, Bool.not_false, cond_true, cond_false])).symm.trans b59)) rfl (met rfl rfl rfl g65) rfl ca10 rfl rfl .nil rfl rfl rfl rfl rfl ?_
             refine .v rfl rfl (O.pickT g65 rfl rfl rfl) ?_
             refine .a rfl rfl rfl rfl ?_
             refine .nil ?_
             refine ⟨by kernel_rfl, by kernel_rfl, ?_⟩
             exact toN (Gives.mkR [] (.c rfl (sbb (by first | (simp only [g60, g61, g62, g63, g64, g65, Bool.true_or, Bool.or_true, Bool.false_or, Bool.or_false, Bool.true_and, Bool.and_true, Bool.false_and, Bool.and_false, Bool.not_true, Bool.not_false, cond_true, cond_false]; done) | (repeat (first | rw [g60] | rw [g61] | rw [g62] | rw [g63] | rw [g64] | rw [g65])) <;> simp only [Bool.true_or, Bool.or_true, Bool.false_or, Bool.or_false, Bool.true_and, Bool.and_true, Bool.false_and, Bool.and_false, Bool.not_true, Bool.not_false, cond_true, cond_false])) rfl .n) .n rfl rfl rfl)
            ·refine W.dk (unm 44 [0, 1, 0, 4, 12, 31, 63, 127, 255, 127, 1023, 2047, 4095, 8191, 16383, 32767, 16383, 81919, 212991, 524287, 1048575, 2097151, 4194303, 4194303, 16777215, 4194303, 67108863, 134217727, 268435455, 536870911, 1073741823, 2147483647, 4294967295, 8589934591, 17179869183, 8589934591, 68719476735, 137438953471, 274877906943, 549755813887, 1099511627775, 2199023255551, 4398046511103, 8796093022207]) rfl (by kernel_rfl) ?_
             refine .v rfl rfl (O.ldN ty24 rfl rfl rfl) ?_
             refine .call (.b t46) [] 0 (life_Open.ok b47) rfl rfl rfl ca34 rfl rfl (cC (.agg _ _ _ _ (cC (.imm _) (cC (.imm _) (cC (.imm _) (cC (.imm _) (cC (.imm _) (cC (.imm _) (cC (.imm _) (cC (.imm _) (cC (.imm _) (cC (.imm _) (cC (.imm _) .nil)))))))))))) .nil) rfl rfl rfl rfl rfl ?_
             refine .v rfl rfl (O.fld fld24_7 rfl rfl rfl) ?_
             refine .v rfl rfl (O.ld (y := .i x0.End) ty3 rfl rfl rfl) ?_
             refine .v rfl rfl (OpL.binI rfl rfl rfl rfl) ?_
             refine .v rfl rfl (OpL.eqB rfl u4 rfl rfl) ?_
             refine .m rfl rfl rfl rfl ?_
             refine .v rfl (met rfl rfl rfl g60) (O.ldN ty24 rfl rfl rfl) ?_
             refine .call (.b t48) [] 0 (life_Live.ok ((if_pos (by first | (simp only [g60, g61, g62, g63, g64, g65, Bool.true_or, Bool.or_true, Bool.false_or, Bool.or_false, Bool.true_and, Bool.and_true, Bool.false_and, Bool.and_false, Bool.not_true, Bool.not_false, cond_true, cond_false]; done) | (repeat (first | rw [g60] | rw [g61] | rw [g62] | rw [g63] | rw [g64] | rw [g65])) <;> simp only [Bool.true_or, Bool.or_true, Bool.false_or, Bool.or_false, Bool.true_and, Bool.and_true, Bool.false_and, Bool.and_false, Bool.not_true, Bool.not_false, cond_true, cond_false])).symm.trans b49)) rfl (met rfl rfl rfl g60) rfl ca35 rfl rfl (cC (.agg _ _ _ _ (cC (.imm _) (cC (.imm _) (cC (.imm _) (cC (.imm _) (cC (.imm _) (cC (.imm _) (cC (.imm _) (cC (.imm _) (cC (.imm _) (cC (.imm _) (cC (.imm _) .nil)))))))))))) .nil) rfl rfl rfl rfl rfl ?_
             refine .v rfl (met rfl rfl rfl g60) (O.ldN ty24 rfl rfl rfl) ?_
             refine .call (.b t50) [] 0 (lombardref24_Live.ok ((if_pos (by first | (simp only [g60, g61, g62, g63, g64, g65, Bool.true_or, Bool.or_true, Bool.false_or, Bool.or_false, Bool.true_and, Bool.and_true, Bool.false_and, Bool.and_false, Bool.not_true, Bool.not_false, cond_true, cond_false]; done) | (repeat (first | rw [g60] | rw [g61] | rw [g62] | rw [g63] | rw [g64] | rw [g65])) <;> simp only [Bool.true_or, Bool.or_true, Bool.false_or, Bool.or_false, Bool.true_and, Bool.and_true, Bool.false_and, Bool.and_false, Bool.not_true, Bool.not_false, cond_true, cond_false])).symm.trans b51)) rfl (met rfl rfl rfl g60) rfl ca36 rfl rfl (cC (.agg _ _ _ _ (cC (.imm _) (cC (.imm _) (cC (.imm _) (cC (.imm _) (cC (.imm _) (cC (.imm _) (cC (.imm _) (cC (.imm _) (cC (.imm _) (cC (.imm _) (cC (.imm _) .nil)))))))))))) .nil) rfl rfl rfl rfl rfl ?_
             refine .v rfl (met rfl rfl rfl g60) (OpL.eqB rfl u4 rfl rfl) ?_
             refine .v rfl rfl (O.pickT g60 rfl rfl rfl) ?_
             refine .m rfl rfl rfl rfl ?_
             refine .v rfl (met rfl rfl rfl g61) (O.ldN ty24 rfl rfl rfl) ?_
             refine .call (.b t52) [] 0 (life_Over.ok ((if_pos (by first | (simp only [g60, g61, g62, g63, g64, g65, Bool.true_or, Bool.or_true, Bool.false_or, Bool.or_false, Bool.true_and, Bool.and_true, Bool.false_and, Bool.and_false, Bool.not_true, Bool.not_false, cond_true, cond_false]; done) | (repeat (first | rw [g60] | rw [g61] | rw [g62] | rw [g63] | rw [g64] | rw [g65])) <;> simp only [Bool.true_or, Bool.or_true, Bool.false_or, Bool.or_false, Bool.true_and, Bool.and_true, Bool.false_and, Bool.and_false, Bool.not_true, Bool.not_false, cond_true, cond_false])).symm.trans b53)) rfl (met rfl rfl rfl g61) rfl ca37 rfl rfl (cC (.agg _ _ _ _ (cC (.imm _) (cC (.imm _) (cC (.imm _) (cC (.imm _) (cC (.imm _) (cC (.imm _) (cC (.imm _) (cC (.imm _) (cC (.imm _) (cC (.imm _) (cC (.imm _) .nil)))))))))))) .nil) rfl rfl rfl rfl rfl ?_
             refine .v rfl (met rfl rfl rfl g61) (O.fld fld24_9 rfl rfl rfl) ?_
             refine .v rfl (met rfl rfl rfl g61) (O.ld (y := .i x0.Stage) ty3 rfl rfl rfl) ?_
             refine .v rfl (met rfl rfl rfl g61) (OpL.binI rfl rfl rfl rfl) ?_
             refine .v rfl (met rfl rfl rfl g61) (OpL.eqB rfl u4 rfl rfl) ?_
             refine .v rfl rfl (O.pickT g61 rfl rfl rfl) ?_
             refine .m rfl rfl rfl rfl ?_
             refine .v rfl (met rfl rfl rfl g62) (O.ldN ty24 rfl rfl rfl) ?_
             refine .m rfl (met rfl rfl rfl g62) rfl rfl ?_
             refine .call (.b t54) [] 0 (life_Due.ok ((if_pos (by first | (simp only [g60, g61, g62, g63, g64, g65, Bool.true_or, Bool.or_true, Bool.false_or, Bool.or_false, Bool.true_and, Bool.and_true, Bool.false_and, Bool.and_false, Bool.not_true, Bool.not_false, cond_true, cond_false]; done) | (repeat (first | rw [g60] | rw [g61] | rw [g62] | rw [g63] | rw [g64] | rw [g65])) <;> simp only [Bool.true_or, Bool.or_true, Bool.false_or, Bool.or_false, Bool.true_and, Bool.and_true, Bool.false_and, Bool.and_false, Bool.not_true, Bool.not_false, cond_true, cond_false])).symm.trans b55)) rfl (met rfl rfl rfl g62) rfl ca38 rfl rfl (cC (.agg _ _ _ _ (cC (.imm _) (cC (.imm _) (cC (.imm _) (cC (.imm _) (cC (.imm _) (cC (.imm _) (cC (.imm _) (cC (.imm _) (cC (.imm _) (cC (.imm _) (cC (.imm _) .nil)))))))))))) (cC (.imm _) .nil)) rfl rfl rfl rfl rfl ?_
             refine .v rfl (met rfl rfl rfl g62) (O.ldN ty24 rfl rfl rfl) ?_
             refine .call (.b t56) [] 0 (lombardref24_Live.ok ((if_pos (by first | (simp only [g60, g61, g62, g63, g64, g65, Bool.true_or, Bool.or_true, Bool.false_or, Bool.or_false, Bool.true_and, Bool.and_true, Bool.false_and, Bool.and_false, Bool.not_true, Bool.not_false, cond_true, cond_false]; done) | (repeat (first | rw [g60] | rw [g61] | rw [g62] | rw [g63] | rw [g64] | rw [g65])) <;> simp only [Bool.true_or, Bool.or_true, Bool.false_or, Bool.or_false, Bool.true_and, Bool.and_true, Bool.false_and, Bool.and_false, Bool.not_true, Bool.not_false, cond_true, cond_false])).symm.trans b57)) rfl (met rfl rfl rfl g62) rfl ca36 rfl rfl (cC (.agg _ _ _ _ (cC (.imm _) (cC (.imm _) (cC (.imm _) (cC (.imm _) (cC (.imm _) (cC (.imm _) (cC (.imm _) (cC (.imm _) (cC (.imm _) (cC (.imm _) (cC (.imm _) .nil)))))))))))) .nil) rfl rfl rfl rfl rfl ?_
             refine .m rfl (met rfl rfl rfl g62) rfl rfl ?_
             refine .v rfl (met rfl rfl rfl g63) (O.fld fld24_7 rfl rfl rfl) ?_
             refine .v rfl (met rfl rfl rfl g63) (O.ld (y := .i x0.End) ty3 rfl rfl rfl) ?_
             refine .v rfl (met rfl rfl rfl g63) (OpL.binI rfl rfl rfl rfl) ?_
             refine .v rfl (met rfl rfl rfl g62) (O.pickT g63 rfl rfl rfl) ?_
             refine .m rfl (met rfl rfl rfl g62) rfl rfl ?_
             refine .v rfl (met rfl rfl rfl g64) (O.fld fld24_7 rfl rfl rfl) ?_
             refine .v rfl (met rfl rfl rfl g64) (O.ld (y := .i x0.End) ty3 rfl rfl rfl) ?_
             refine .m rfl (met rfl rfl rfl g64) rfl rfl ?_
             refine .v rfl (met rfl rfl rfl g64) (OpL.binI rfl rfl rfl rfl) ?_
             refine .v rfl (met rfl rfl rfl g62) (O.pickT g64 rfl rfl rfl) ?_
             refine .v rfl (met rfl rfl rfl g62) (OpL.eqB rfl u4 rfl rfl) ?_
             refine .v rfl rfl (O.pickT g62 rfl rfl rfl) ?_
             refine .m rfl rfl rfl rfl ?_
             refine .x rfl (unmet rfl rfl rfl g65) ?_
             refine .v rfl rfl (O.pickF g65 rfl rfl rfl) ?_
             refine .a rfl rfl rfl rfl ?_
             refine .nil ?_
             refine ⟨by kernel_rfl, by kernel_rfl, ?_⟩
             exact toN (Gives.mkR [] (.c rfl (sbb (by first | (simp only [g60, g61, g62, g63, g64, g65, Bool.true_or, Bool.or_true, Bool.false_or, Bool.or_false, Bool.true_and, Bool.and_true, Bool.false_and, Bool.and_false, Bool.not_true, Bool.not_false, cond_true, cond_false]; done) | (repeat (first | rw [g60] | rw [g61] | rw [g62] | rw [g63] | rw [g64] | rw [g65])) <;> simp only [Bool.true_or, Bool.or_true, Bool.false_or, Bool.or_false, Bool.true_and, Bool.and_true, Bool.false_and, Bool.and_false, Bool.not_true, Bool.not_false, cond_true, cond_false])) rfl .n) .n rfl rfl rfl)
           ·rcases tf (t54 == false) with g66 | g66
            ·refine W.dk (unm 44 [0, 1, 0, 4, 12, 31, 63, 127, 255, 127, 1023, 2047, 4095, 8191, 16383, 32767, 16383, 81919, 212991, 524287, 1048575, 2097151, 4194303, 4194303, 16777215, 4194303, 67108863, 134217727, 268435455, 536870911, 1073741823, 2147483647, 4294967295, 8589934591, 17179869183, 8589934591, 68719476735, 137438953471, 274877906943, 549755813887, 1099511627775, 2199023255551, 4398046511103, 8796093022207]) rfl (by kernel_rfl) ?_
             refine .v rfl rfl (O.ldN ty24 rfl rfl rfl) ?_
             refine .call (.b t46) [] 0 (life_Open.ok b47) rfl rfl rfl ca34 rfl rfl (cC (.agg _ _ _ _ (cC (.imm _) (cC (.imm _) (cC (.imm _) (cC (.imm _) (cC (.imm _) (cC (.imm _) (cC (.imm _) (cC (.imm _) (cC (.imm _) (cC (.imm _) (cC (.imm _) .nil)))))))))))) .nil) rfl rfl rfl rfl rfl ?_
             refine .v rfl rfl (O.fld fld24_7 rfl rfl rfl) ?_
             refine .v rfl rfl (O.ld (y := .i x0.End) ty3 rfl rfl rfl) ?_
             refine .v rfl rfl (OpL.binI rfl rfl rfl rfl) ?_
             refine .v rfl rfl (OpL.eqB rfl u4 rfl rfl) ?_
             refine .m rfl rfl rfl rfl ?_
             refine .v rfl (met rfl rfl rfl g60) (O.ldN ty24 rfl rfl rfl) ?_
             refine .call (.b t48) [] 0 (life_Live.ok ((if_pos (by first | (simp only [g60, g61, g62, g63, g64, g66, Bool.true_or, Bool.or_true, Bool.false_or, Bool.or_false, Bool.true_and, Bool.and_true, Bool.false_and, Bool.and_false, Bool.not_true, Bool.not_false, cond_true, cond_false]; done) | (repeat (first | rw [g60] | rw [g61] | rw [g62] | rw [g63] | rw [g64] | rw [g66])) <;> simp only [Bool.true_or, Bool.or_true, Bool.false_or, Bool.or_false, Bool.true_and, Bool.and_true, Bool.false_and, Bool.and_false, Bool.not_true, Bool.not_false, cond_true, cond_false])).symm.trans b49)) rfl (met rfl rfl rfl g60) rfl ca35 rfl rfl (cC (.agg _ _ _ _ (cC (.imm _) (cC (.imm _) (cC (.imm _) (cC (.imm _) (cC (.imm _) (cC (.imm _) (cC (.imm _) (cC (.imm _) (cC (.imm _) (cC (.imm _) (cC (.imm _) .nil)))))))))))) .nil) rfl rfl rfl rfl rfl ?_
             refine .v rfl (met rfl rfl rfl g60) (O.ldN ty24 rfl rfl rfl) ?_
             refine .call (.b t50) [] 0 (lombardref24_Live.ok ((if_pos (by first | (simp only [g60, g61, g62, g63, g64, g66, Bool.true_or, Bool.or_true, Bool.false_or, Bool.or_false, Bool.true_and, Bool.and_true, Bool.false_and, Bool.and_false, Bool.not_true, Bool.not_false, cond_true, cond_false]; done) | (repeat (first | rw [g60] | rw [g61] | rw [g62] | rw [g63] | rw [g64] | rw [g66])) <;> simp only [Bool.true_or, Bool.or_true, Bool.false_or, Bool.or_false, Bool.true_and, Bool.and_true, Bool.false_and, Bool.and_false, Bool.not_true, Bool.not_false, cond_true, cond_false])).symm.trans b51)) rfl (met rfl rfl rfl g60) rfl ca36 rfl rfl (cC (.agg _ _ _ _ (cC (.imm _) (cC (.imm _) (cC (.imm _) (cC (.imm _) (cC (.imm _) (cC (.imm _) (cC (.imm _) (cC (.imm _) (cC (.imm _) (cC (.imm _) (cC (.imm _) .nil)))))))))))) .nil) rfl rfl rfl rfl rfl ?_
             refine .v rfl (met rfl rfl rfl g60) (OpL.eqB rfl u4 rfl rfl) ?_
             refine .v rfl rfl (O.pickT g60 rfl rfl rfl) ?_
             refine .m rfl rfl rfl rfl ?_
             refine .v rfl (met rfl rfl rfl g61) (O.ldN ty24 rfl rfl rfl) ?_
             refine .call (.b t52) [] 0 (life_Over.ok ((if_pos (by first | (simp only [g60, g61, g62, g63, g64, g66, Bool.true_or, Bool.or_true, Bool.false_or, Bool.or_false, Bool.true_and, Bool.and_true, Bool.false_and, Bool.and_false, Bool.not_true, Bool.not_false, cond_true, cond_false]; done) | (repeat (first | rw [g60] | rw [g61] | rw [g62] | rw [g63] | rw [g64] | rw [g66])) <;> simp only [Bool.true_or, Bool.or_true, Bool.false_or, Bool.or_false, Bool.true_and, Bool.and_true, Bool.false_and, Bool.and_false, Bool.not_true, Bool.not_false, cond_true, cond_false])).symm.trans b53)) rfl (met rfl rfl rfl g61) rfl ca37 rfl rfl (cC (.agg _ _ _ _ (cC (.imm _) (cC (.imm _) (cC (.imm _) (cC (.imm _) (cC (.imm _) (cC (.imm _) (cC (.imm _) (cC (.imm _) (cC (.imm _) (cC (.imm _) (cC (.imm _) .nil)))))))))))) .nil) rfl rfl rfl rfl rfl ?_
             refine .v rfl (met rfl rfl rfl g61) (O.fld fld24_9 rfl rfl rfl) ?_
             refine .v rfl (met rfl rfl rfl g61) (O.ld (y := .i x0.Stage) ty3 rfl rfl rfl) ?_
             refine .v rfl (met rfl rfl rfl g61) (OpL.binI rfl rfl rfl rfl) ?_
             refine .v rfl (met rfl rfl rfl g61) (OpL.eqB rfl u4 rfl rfl) ?_
             refine .v rfl rfl (O.pickT g61 rfl rfl rfl) ?_
             refine .m rfl rfl rfl rfl ?_
             refine .v rfl (met rfl rfl rfl g62) (O.ldN ty24 rfl rfl rfl) ?_
             refine .m rfl (met rfl rfl rfl g62) rfl rfl ?_
             refine .call (.b t54) [] 0 (life_Due.ok ((if_pos (by first | (simp only [g60, g61, g62, g63, g64, g66, Bool.true_or, Bool.or_true, Bool.false_or, Bool.or_false, Bool.true_and, Bool.and_true, Bool.false_and, Bool.and_false, Bool.not_true, Bool.not_false, cond_true, cond_false]; done) | (repeat (first | rw [g60] | rw [g61] | rw [g62] | rw [g63] | rw [g64] | rw [g66])) <;> simp only [Bool.true_or, Bool.or_true, Bool.false_or, Bool.or_false, Bool.true_and, Bool.and_true, Bool.false_and, Bool.and_false, Bool.not_true, Bool.not_false, cond_true, cond_false])).symm.trans b55)) rfl (met rfl rfl rfl g62) rfl ca38 rfl rfl (cC (.agg _ _ _ _ (cC (.imm _) (cC (.imm _) (cC (.imm _) (cC (.imm _) (cC (.imm _) (cC (.imm _) (cC (.imm _) (cC (.imm _) (cC (.imm _) (cC (.imm _) (cC (.imm _) .nil)))))))))))) (cC (.imm _) .nil)) rfl rfl rfl rfl rfl ?_
             refine .v rfl (met rfl rfl rfl g62) (O.ldN ty24 rfl rfl rfl) ?_
             refine .call (.b t56) [] 0 (lombardref24_Live.ok ((if_pos (by first | (simp only [g60, g61, g62, g63, g64, g66, Bool.true_or, Bool.or_true, Bool.false_or, Bool.or_false, Bool.true_and, Bool.and_true, Bool.false_and, Bool.and_false, Bool.not_true, Bool.not_false, cond_true, cond_false]; done) | (repeat (first | rw [g60] | rw [g61] | rw [g62] | rw [g63] | rw [g64] | rw [g66])) <;> simp only [Bool.true_or, Bool.or_true, Bool.false_or, Bool.or_false, Bool.true_and, Bool.and_true, Bool.false_and, Bool.and_false, Bool.not_true, Bool.not_false, cond_true, cond_false])).symm.trans b57)) rfl (met rfl rfl rfl g62) rfl ca36 rfl rfl (cC (.agg _ _ _ _ (cC (.imm _) (cC (.imm _) (cC (.imm _) (cC (.imm _) (cC (.imm _) (cC (.imm _) (cC (.imm _) (cC (.imm _) (cC (.imm _) (cC (.imm _) (cC (.imm _) .nil)))))))))))) .nil) rfl rfl rfl rfl rfl ?_
             refine .m rfl (met rfl rfl rfl g62) rfl rfl ?_
             refine .v rfl (met rfl rfl rfl g63) (O.fld fld24_7 rfl rfl rfl) ?_
             refine .v rfl (met rfl rfl rfl g63) (O.ld (y := .i x0.End) ty3 rfl rfl rfl) ?_
             refine .v rfl (met rfl rfl rfl g63) (OpL.binI rfl rfl rfl rfl) ?_
             refine .v rfl (met rfl rfl rfl g62) (O.pickT g63 rfl rfl rfl) ?_
             refine .m rfl (met rfl rfl rfl g62) rfl rfl ?_
             refine .x rfl (unmet rfl rfl rfl g64) ?_
             refine .x rfl (unmet rfl rfl rfl g64) ?_
             refine .x rfl (unmet rfl rfl rfl g64) ?_
             refine .x rfl (unmet rfl rfl rfl g64) ?_
             refine .v rfl (met rfl rfl rfl g62) (O.pickF g64 rfl rfl rfl) ?_
             refine .v rfl (met rfl rfl rfl g62) (OpL.eqB rfl u4 rfl rfl) ?_
             refine .v rfl rfl (O.pickT g62 rfl rfl rfl) ?_
             refine .m rfl rfl rfl rfl ?_
             refine .call (.b t58) [] 0 (lombardlaw24_awake.ok ((if_pos (by first | (simp only [g60, g61, g62, g63, g64, g66, Bool.true_or, Bool.or_true, Bool.false_or, Bool.or_false, Bool.true_and, Bool.and_true, Bool.false_and, Bool.and_false, Bool.not_true, Bool.not_false, cond_true, cond_false]; done) | (repeat (first | rw [g60] | rw [g61] | rw [g62] | rw [g63] | rw [g64] | rw [g66])) <;> simp only [Bool.true_or, Bool.or_true, Bool.false_or, Bool.or_false, Bool.true_and, Bool.and_true, Bool.false_and, Bool.and_false, Bool.not_true, Bool.not_false, cond_true, cond_false])).symm.trans b59)) rfl (met rfl rfl rfl g66) rfl ca10 rfl rfl .nil rfl rfl rfl rfl rfl ?_
             refine .v rfl rfl (O.pickT g66 rfl rfl rfl) ?_
             refine .a rfl rfl rfl rfl ?_
             refine .nil ?_
             refine ⟨by kernel_rfl, by kernel_rfl, ?_⟩
             exact toN (Gives.mkR [] (.c rfl (sbb (by first | (simp only [g60, g61, g62, g63, g64, g66, Bool.true_or, Bool.or_true, Bool.false_or, Bool.or_false, Bool.true_and, Bool.and_true, Bool.false_and, Bool.and_false, Bool.not_true, Bool.not_false, cond_true, cond_false]; done) | (repeat (first | rw [g60] | rw [g61] | rw [g62] | rw [g63] | rw [g64] | rw [g66])) <;> simp only [Bool.true_or, Bool.or_true, Bool.false_or, Bool.or_false, Bool.true_and, Bool.and_true, Bool.false_and, Bool.and_false, Bool.not_true, Bool.not_false, cond_true, cond_false])) rfl .n) .n rfl rfl rfl)
            ·refine W.dk (unm 44 [0, 1, 0, 4, 12, 31, 63, 127, 255, 127, 1023, 2047, 4095, 8191, 16383, 32767, 16383, 81919, 212991, 524287, 1048575, 2097151, 4194303, 4194303, 16777215, 4194303, 67108863, 134217727, 268435455, 536870911, 1073741823, 2147483647, 4294967295, 8589934591, 17179869183, 8589934591, 68719476735, 137438953471, 274877906943, 549755813887, 1099511627775, 2199023255551, 4398046511103, 8796093022207]) rfl (by kernel_rfl) ?_
             refine .v rfl rfl (O.ldN ty24 rfl rfl rfl) ?_
             refine .call (.b t46) [] 0 (life_Open.ok b47) rfl rfl rfl ca34 rfl rfl (cC (.agg _ _ _ _ (cC (.imm _) (cC (.imm _) (cC (.imm _) (cC (.imm _) (cC (.imm _) (cC (.imm _) (cC (.imm _) (cC (.imm _) (cC (.imm _) (cC (.imm _) (cC (.imm _) .nil)))))))))))) .nil) rfl rfl rfl rfl rfl ?_
             refine .v rfl rfl (O.fld fld24_7 rfl rfl rfl) ?_
             refine .v rfl rfl (O.ld (y := .i x0.End) ty3 rfl rfl rfl) ?_
             refine .v rfl rfl (OpL.binI rfl rfl rfl rfl) ?_
             refine .v rfl rfl (OpL.eqB rfl u4 rfl rfl) ?_
             refine .m rfl rfl rfl rfl ?_
             refine .v rfl (met rfl rfl rfl g60) (O.ldN ty24 rfl rfl rfl) ?_
             refine .call (.b t48) [] 0 (life_Live.ok ((if_pos (by first | (simp only [g60, g61, g62, g63, g64, g66, Bool.true_or, Bool.or_true, Bool.false_or, Bool.or_false, Bool.true_and, Bool.and_true, Bool.false_and, Bool.and_false, Bool.not_true, Bool.not_false, cond_true, cond_false]; done) | (repeat (first | rw [g60] | rw [g61] | rw [g62] | rw [g63] | rw [g64] | rw [g66])) <;> simp only [Bool.true_or, Bool.or_true, Bool.false_or, Bool.or_false, Bool.true_and, Bool.and_true, Bool.false_and, Bool.and_false, Bool.not_true, Bool.not_false, cond_true, cond_false])).symm.trans b49)) rfl (met rfl rfl rfl g60) rfl ca35 rfl rfl (cC (.agg _ _ _ _ (cC (.imm _) (cC (.imm _) (cC (.imm _) (cC (.imm _) (cC (.imm _) (cC (.imm _) (cC (.imm _) (cC (.imm _) (cC (.imm _) (cC (.imm _) (cC (.imm _) .nil)))))))))))) .nil) rfl rfl rfl rfl rfl ?_
             refine .v rfl (met rfl rfl rfl g60) (O.ldN ty24 rfl rfl rfl) ?_
             refine .call (.b t50) [] 0 (lombardref24_Live.ok ((if_pos (by first | (simp only [g60, g61, g62, g63, g64, g66, Bool.true_or, Bool.or_true, Bool.false_or, Bool.or_false, Bool.true_and, Bool.and_true, Bool.false_and, Bool.and_false, Bool.not_true, Bool.not_false, cond_true, cond_false]; done) | (repeat (first | rw [g60] | rw [g61] | rw [g62] | rw [g63] | rw [g64] | rw [g66])) <;> simp only [Bool.true_or, Bool.or_true, Bool.false_or, Bool.or_false, Bool.true_and, Bool.and_true, Bool.false_and, Bool.and_false, Bool.not_true, Bool.not_false, cond_true, cond_false])).symm.trans b51)) rfl (met rfl rfl rfl g60) rfl ca36 rfl rfl (cC (.agg _ _ _ _ (cC (.imm _) (cC (.imm _) (cC (.imm _) (cC (.imm _) (cC (.imm _) (cC (.imm _) (cC (.imm _) (cC (.imm _) (cC (.imm _) (cC (.imm _) (cC (.imm _) .nil)))))))))))) .nil) rfl rfl rfl rfl rfl ?_
             refine .v rfl (met rfl rfl rfl g60) (OpL.eqB rfl u4 rfl rfl) ?_
             refine .v rfl rfl (O.pickT g60 rfl rfl rfl) ?_
             refine .m rfl rfl rfl rfl ?_
             refine .v rfl (met rfl rfl rfl g61) (O.ldN ty24 rfl rfl rfl) ?_
             refine .call (.b t52) [] 0 (life_Over.ok ((if_pos (by first | (simp only [g60, g61, g62, g63, g64, g66, Bool.true_or, Bool.or_true, Bool.false_or, Bool.or_false, Bool.true_and, Bool.and_true, Bool.false_and, Bool.and_false, Bool.not_true, Bool.not_false, cond_true, cond_false]; done) | (repeat (first | rw [g60] | rw [g61] | rw [g62] | rw [g63] | rw [g64] | rw [g66])) <;> simp only [Bool.true_or, Bool.or_true, Bool.false_or, Bool.or_false, Bool.true_and, Bool.and_true, Bool.false_and, Bool.and_false, Bool.not_true, Bool.not_false, cond_true, cond_false])).symm.trans b53)) rfl (met rfl rfl rfl g61) rfl ca37 rfl rfl (cC (.agg _ _ _ _ (cC (.imm _) (cC (.imm _) (cC (.imm _) (cC (.imm _) (cC (.imm _) (cC (.imm _) (cC (.imm _) (cC (.imm _) (cC (.imm _) (cC (.imm _) (cC (.imm _) .nil)))))))))))) .nil) rfl rfl rfl rfl rfl ?_
             refine .v rfl (met rfl rfl rfl g61) (O.fld fld24_9 rfl rfl rfl) ?_
             refine .v rfl (met rfl rfl rfl g61) (O.ld (y := .i x0.Stage) ty3 rfl rfl rfl) ?_
             refine .v rfl (met rfl rfl rfl g61) (OpL.binI rfl rfl rfl rfl) ?_
             refine .v rfl (met rfl rfl rfl g61) (OpL.eqB rfl u4 rfl rfl) ?_
             refine .v rfl rfl (O.pickT g61 rfl rfl rfl) ?_
             refine .m rfl rfl rfl rfl ?_
             refine .v rfl (met rfl rfl rfl g62) (O.ldN ty24 rfl rfl rfl) ?_
             refine .m rfl (met rfl rfl rfl g62) rfl rfl ?_
             refine .call (.b t54) [] 0 (life_Due.ok ((if_pos (by first | (simp only [g60, g61, g62, g63, g64, g66, Bool.true_or, Bool.or_true, Bool.false_or, Bool.or_false, Bool.true_and, Bool.and_true, Bool.false_and, Bool.and_false, Bool.not_true, Bool.not_false, cond_true, cond_false]; done) | (repeat (first | rw [g60] | rw [g61] | rw [g62] | rw [g63] | rw [g64] | rw [g66])) <;> simp only [Bool.true_or, Bool.or_true, Bool.false_or, Bool.or_false, Bool.true_and, Bool.and_true, Bool.false_and, Bool.and_false, Bool.not_true, Bool.not_false, cond_true, cond_false])).symm.trans b55)) rfl (met rfl rfl rfl g62) rfl ca38 rfl rfl (cC (.agg _ _ _ _ (cC (.imm _) (cC (.imm _) (cC (.imm _) (cC (.imm _) (cC (.imm _) (cC (.imm _) (cC (.imm _) (cC (.imm _) (cC (.imm _) (cC (.imm _) (cC (.imm _) .nil)))))))))))) (cC (.imm _) .nil)) rfl rfl rfl rfl rfl ?_
             refine .v rfl (met rfl rfl rfl g62) (O.ldN ty24 rfl rfl rfl) ?_
             refine .call (.b t56) [] 0 (lombardref24_Live.ok ((if_pos (by first | (simp only [g60, g61, g62, g63, g64, g66, Bool.true_or, Bool.or_true, Bool.false_or, Bool.or_false, Bool.true_and, Bool.and_true, Bool.false_and, Bool.and_false, Bool.not_true, Bool.not_false, cond_true, cond_false]; done) | (repeat (first | rw [g60] | rw [g61] | rw [g62] | rw [g63] | rw [g64] | rw [g66])) <;> simp only [Bool.true_or, Bool.or_true, Bool.false_or, Bool.or_false, Bool.true_and, Bool.and_true, Bool.false_and, Bool.and_false, Bool.not_true, Bool.not_false, cond_true, cond_false])).symm.trans b57)) rfl (met rfl rfl rfl g62) rfl ca36 rfl rfl (cC (.agg _ _ _ _ (cC (.imm _) (cC (.imm _) (cC (.imm _) (cC (.imm _) (cC (.imm _) (cC (.imm _) (cC (.imm _) (cC (.imm _) (cC (.imm _) (cC (.imm _) (cC (.imm _) .nil)))))))))))) .nil) rfl rfl rfl rfl rfl ?_
             refine .m rfl (met rfl rfl rfl g62) rfl rfl ?_
             refine .v rfl (met rfl rfl rfl g63) (O.fld fld24_7 rfl rfl rfl) ?_
             refine .v rfl (met rfl rfl rfl g63) (O.ld (y := .i x0.End) ty3 rfl rfl rfl) ?_
             refine .v rfl (met rfl rfl rfl g63) (OpL.binI rfl rfl rfl rfl) ?_
             refine .v rfl (met rfl rfl rfl g62) (O.pickT g63 rfl rfl rfl) ?_
             refine .m rfl (met rfl rfl rfl g62) rfl rfl ?_
             refine .x rfl (unmet rfl rfl rfl g64) ?_
             refine .x rfl (unmet rfl rfl rfl g64) ?_
             refine .x rfl (unmet rfl rfl rfl g64) ?_
             refine .x rfl (unmet rfl rfl rfl g64) ?_
             refine .v rfl (met rfl rfl rfl g62) (O.pickF g64 rfl rfl rfl) ?_
             refine .v rfl (met rfl rfl rfl g62) (OpL.eqB rfl u4 rfl rfl) ?_
             refine .v rfl rfl (O.pickT g62 rfl rfl rfl) ?_
             refine .m rfl rfl rfl rfl ?_
             refine .x rfl (unmet rfl rfl rfl g66) ?_
             refine .v rfl rfl (O.pickF g66 rfl rfl rfl) ?_
             refine .a rfl rfl rfl rfl ?_
             refine .nil ?_
             refine ⟨by kernel_rfl, by kernel_rfl, ?_⟩
             exact toN (Gives.mkR [] (.c rfl (sbb (by first | (simp only [g60, g61, g62, g63, g64, g66, Bool.true_or, Bool.or_true, Bool.false_or, Bool.or_false, Bool.true_and, Bool.and_true, Bool.false_and, Bool.and_false, Bool.not_true, Bool.not_false, cond_true, cond_false]; done) | (repeat (first | rw [g60] | rw [g61] | rw [g62] | rw [g63] | rw [g64] | rw [g66])) <;> simp only [Bool.true_or, Bool.or_true, Bool.false_or, Bool.or_false, Bool.true_and, Bool.and_true, Bool.false_and, Bool.and_false, Bool.not_true, Bool.not_false, cond_true, cond_false])) rfl .n) .n rfl rfl rfl)
          ·rcases tf (t54 == false) with g67 | g67
           ·refine W.dk (unm 44 [0, 1, 0, 4, 12, 31, 63, 127, 255, 127, 1023, 2047, 4095, 8191, 16383, 32767, 16383, 81919, 212991, 524287, 1048575, 2097151, 4194303, 4194303, 16777215, 4194303, 67108863, 134217727, 268435455, 536870911, 1073741823, 2147483647, 4294967295, 8589934591, 17179869183, 8589934591, 68719476735, 137438953471, 274877906943, 549755813887, 1099511627775, 2199023255551, 4398046511103, 8796093022207]) rfl (by kernel_rfl) ?_
            refine .v rfl rfl (O.ldN ty24 rfl rfl rfl) ?_
            refine .call (.b t46) [] 0 (life_Open.ok b47) rfl rfl rfl ca34 rfl rfl (cC (.agg _ _ _ _ (cC (.imm _) (cC (.imm _) (cC (.imm _) (cC (.imm _) (cC (.imm _) (cC (.imm _) (cC (.imm _) (cC (.imm _) (cC (.imm _) (cC (.imm _) (cC (.imm _) .nil)))))))))))) .nil) rfl rfl rfl rfl rfl ?_
            refine .v rfl rfl (O.fld fld24_7 rfl rfl rfl) ?_
            refine .v rfl rfl (O.ld (y := .i x0.End) ty3 rfl rfl rfl) ?_
            refine .v rfl rfl (OpL.binI rfl rfl rfl rfl) ?_
            refine .v rfl rfl (OpL.eqB rfl u4 rfl rfl) ?_
            refine .m rfl rfl rfl rfl ?_
            refine .v rfl (met rfl rfl rfl g60) (O.ldN ty24 rfl rfl rfl) ?_
            refine .call (.b t48) [] 0 (life_Live.ok ((if_pos (by first | (simp only [g60, g61, g62, g63, g67, Bool.true_or, Bool.or_true, Bool.false_or, Bool.or_false, Bool.true_and, Bool.and_true, Bool.false_and, Bool.and_false, Bool.not_true, Bool.not_false, cond_true, cond_false]; done) | (repeat (first | rw [g60] | rw [g61] | rw [g62] | rw [g63] | rw [g67])) <;> simp only [Bool.true_or, Bool.or_true, Bool.false_or, Bool.or_false, Bool.true_and, Bool.and_true, Bool.false_and, Bool.and_false, Bool.not_true, Bool.not_false, cond_true, cond_false])).symm.trans b49)) rfl (met rfl rfl rfl g60) rfl ca35 rfl rfl (cC (.agg _ _ _ _ (cC (.imm _) (cC (.imm _) (cC (.imm _) (cC (.imm _) (cC (.imm _) (cC (.imm _) (cC (.imm _) (cC (.imm _) (cC (.imm _) (cC (.imm _) (cC (.imm _) .nil)))))))))))) .nil) rfl rfl rfl rfl rfl ?_
            refine .v rfl (met rfl rfl rfl g60) (O.ldN ty24 rfl rfl rfl) ?_
            refine .call (.b t50) [] 0 (lombardref24_Live.ok ((if_pos (by first | (simp only [g60, g61, g62, g63, g67, Bool.true_or, Bool.or_true, Bool.false_or, Bool.or_false, Bool.true_and, Bool.and_true, Bool.false_and, Bool.and_false, Bool.not_true, Bool.not_false, cond_true, cond_false]; done) | (repeat (first | rw [g60] | rw [g61] | rw [g62] | rw [g63] | rw [g67])) <;> simp only [Bool.true_or, Bool.or_true, Bool.false_or, Bool.or_false, Bool.true_and, Bool.and_true, Bool.false_and, Bool.and_false, Bool.not_true, Bool.not_false, cond_true, cond_false])).symm.trans b51)) rfl (met rfl rfl rfl g60) rfl ca36 rfl rfl (cC (.agg _ _ _ _ (cC (.imm _) (cC (.imm _) (cC (.imm _) (cC (.imm _) (cC (.imm _) (cC (.imm _) (cC (.imm _) (cC (.imm _) (cC (.imm _) (cC (.imm _) (cC (.imm _) .nil)))))))))))) .nil) rfl rfl rfl rfl rfl ?_
            refine .v rfl (met rfl rfl rfl g60) (OpL.eqB rfl u4 rfl rfl) ?_
            refine .v rfl rfl (O.pickT g60 rfl rfl rfl) ?_
            refine .m rfl rfl rfl rfl ?_
            refine .v rfl (met rfl rfl rfl g61) (O.ldN ty24 rfl rfl rfl) ?_
            refine .call (.b t52) [] 0 (life_Over.ok ((if_pos (by first | (simp only [g60, g61, g62, g63, g67, Bool.true_or, Bool.or_true, Bool.false_or, Bool.or_false, Bool.true_and, Bool.and_true, Bool.false_and, Bool.and_false, Bool.not_true, Bool.not_false, cond_true, cond_false]; done) | (repeat (first | rw [g60] | rw [g61] | rw [g62] | rw [g63] | rw [g67])) <;> simp only [Bool.true_or, Bool.or_true, Bool.false_or, Bool.or_false, Bool.true_and, Bool.and_true, Bool.false_and, Bool.and_false, Bool.not_true, Bool.not_false, cond_true, cond_false])).symm.trans b53)) rfl (met rfl rfl rfl g61) rfl ca37 rfl rfl (cC (.agg _ _ _ _ (cC (.imm _) (cC (.imm _) (cC (.imm _) (cC (.imm _) (cC (.imm _) (cC (.imm _) (cC (.imm _) (cC (.imm _) (cC (.imm _) (cC (.imm _) (cC (.imm _) .nil)))))))))))) .nil) rfl rfl rfl rfl rfl ?_
            refine .v rfl (met rfl rfl rfl g61) (O.fld fld24_9 rfl rfl rfl) ?_
            refine .v rfl (met rfl rfl rfl g61) (O.ld (y := .i x0.Stage) ty3 rfl rfl rfl) ?_
            refine .v rfl (met rfl rfl rfl g61) (OpL.binI rfl rfl rfl rfl) ?_
            refine .v rfl (met rfl rfl rfl g61) (OpL.eqB rfl u4 rfl rfl) ?_
            refine .v rfl rfl (O.pickT g61 rfl rfl rfl) ?_
            refine .m rfl rfl rfl rfl ?_
            refine .v rfl (met rfl rfl rfl g62) (O.ldN ty24 rfl rfl rfl) ?_
            refine .m rfl (met rfl rfl rfl g62) rfl rfl ?_
            refine .call (.b t54) [] 0 (life_Due.ok ((if_pos (by first | (simp only [g60, g61, g62, g63, g67, Bool.true_or, Bool.or_true, Bool.false_or, Bool.or_false, Bool.true_and, Bool.and_true, Bool.false_and, Bool.and_false, Bool.not_true, Bool.not_false, cond_true, cond_false]; done) | (repeat (first | rw [g60] | rw [g61] | rw [g62] | rw [g63] | rw [g67])) <;> simp only [Bool.true_or, Bool.or_true, Bool.false_or, Bool.or_false, Bool.true_and, Bool.and_true, Bool.false_and, Bool.and_false, Bool.not_true, Bool.not_false, cond_true, cond_false])).symm.trans b55)) rfl (met rfl rfl rfl g62) rfl ca38 rfl rfl (cC (.agg _ _ _ _ (cC (.imm _) (cC (.imm _) (cC (.imm _) (cC (.imm _) (cC (.imm _) (cC (.imm _) (cC (.imm _) (cC (.imm _) (cC (.imm _) (cC (.imm _) (cC (.imm _) .nil)))))))))))) (cC (.imm _) .nil)) rfl rfl rfl rfl rfl ?_
            refine .v rfl (met rfl rfl rfl g62) (O.ldN ty24 rfl rfl rfl) ?_
            refine .call (.b t56) [] 0 (lombardref24_Live.ok ((if_pos (by first | (simp only [g60, g61, g62, g63, g67, Bool.true_or, Bool.or_true, Bool.false_or, Bool.or_false, Bool.true_and, Bool.and_true, Bool.false_and, Bool.and_false, Bool.not_true, Bool.not_false, cond_true, cond_false]; done) | (repeat (first | rw [g60] | rw [g61] | rw [g62] | rw [g63] | rw [g67])) <;> simp only [Bool.true_or, Bool.or_true, Bool.false_or, Bool.or_false, Bool.true_and, Bool.and_true, Bool.false_and, Bool.and_false, Bool.not_true, Bool.not_false, cond_true, cond_false])).symm.trans b57)) rfl (met rfl rfl rfl g62) rfl ca36 rfl rfl (cC (.agg _ _ _ _ (cC (.imm _) (cC (.imm _) (cC (.imm _) (cC (.imm _) (cC (.imm _) (cC (.imm _) (cC (.imm _) (cC (.imm _) (cC (.imm _) (cC (.imm _) (cC (.imm _) .nil)))))))))))) .nil) rfl rfl rfl rfl rfl ?_
            refine .m rfl (met rfl rfl rfl g62) rfl rfl ?_
            refine .x rfl (unmet rfl rfl rfl g63) ?_
            refine .x rfl (unmet rfl rfl rfl g63) ?_
            refine .x rfl (unmet rfl rfl rfl g63) ?_
            refine .v rfl (met rfl rfl rfl g62) (O.pickF g63 rfl rfl rfl) ?_
            refine .m rfl (met rfl rfl rfl g62) rfl rfl ?_
            refine .x rfl (unmet rfl rfl rfl rfl) ?_
            refine .x rfl (unmet rfl rfl rfl rfl) ?_
            refine .x rfl (unmet rfl rfl rfl rfl) ?_
            refine .x rfl (unmet rfl rfl rfl rfl) ?_
            refine .v rfl (met rfl rfl rfl g62) (O.pickF rfl rfl rfl rfl) ?_
            refine .v rfl (met rfl rfl rfl g62) (OpL.eqB rfl u4 rfl rfl) ?_
            refine .v rfl rfl (O.pickT g62 rfl rfl rfl) ?_
            refine .m rfl rfl rfl rfl ?_
            refine .call (.b t58) [] 0 (lombardlaw24_awake.ok ((if_pos (by first | (simp only [g60, g61, g62, g63, g67, Bool.true_or, Bool.or_true, Bool.false_or, Bool.or_false, Bool.true_and, Bool.and_true, Bool.false_and, Bool.and_false, Bool.not_true, Bool.not_false, cond_true, cond_false]; done) | (repeat (first | rw [g60] | rw [g61] | rw [g62] | rw [g63] | rw [g67])) <;> simp only [Bool.true_or, Bool.or_true, Bool.false_or, Bool.or_false, Bool.true_and, Bool.and_true, Bool.false_and, Bool.and_false, Bool.not_true, Bool.not_false, cond_true, cond_false])).symm.trans b59)) rfl (met rfl rfl rfl g67) rfl ca10 rfl rfl .nil rfl rfl rfl rfl rfl ?_
            refine .v rfl rfl (O.pickT g67 rfl rfl rfl) ?_
            refine .a rfl rfl rfl rfl ?_
            refine .nil ?_
            refine ⟨by kernel_rfl, by kernel_rfl, ?_⟩
            exact toN (Gives.mkR [] (.c rfl (sbb (by first | (simp only [g60, g61, g62, g63, g67, Bool.true_or, Bool.or_true, Bool.false_or, Bool.or_false, Bool.true_and, Bool.and_true, Bool.false_and, Bool.and_false, Bool.not_true, Bool.not_false, cond_true, cond_false]; done) | (repeat (first | rw [g60] | rw [g61] | rw [g62] | rw [g63] | rw [g67])) <;> simp only [Bool.true_or, Bool.or_true, Bool.false_or, Bool.or_false, Bool.true_and, Bool.and_true, Bool.false_and, Bool.and_false, Bool.not_true, Bool.not_false, cond_true, cond_false])) rfl .n) .n rfl rfl rfl)
           ·refine W.dk (unm 44 [0, 1, 0, 4, 12, 31, 63, 127, 255, 127, 1023, 2047, 4095, 8191, 16383, 32767, 16383, 81919, 212991, 524287, 1048575, 2097151, 4194303, 4194303, 16777215, 4194303, 67108863, 134217727, 268435455, 536870911, 1073741823, 2147483647, 4294967295, 8589934591, 17179869183, 8589934591, 68719476735, 137438953471, 274877906943, 549755813887, 1099511627775, 2199023255551, 4398046511103, 8796093022207]) rfl (by kernel_rfl) ?_
            refine .v rfl rfl (O.ldN ty24 rfl rfl rfl) ?_
            refine .call (.b t46) [] 0 (life_Open.ok b47) rfl rfl rfl ca34 rfl rfl (cC (.agg _ _ _ _ (cC (.imm _) (cC (.imm _) (cC (.imm _) (cC (.imm _) (cC (.imm _) (cC (.imm _) (cC (.imm _) (cC (.imm _) (cC (.imm _) (cC (.imm _) (cC (.imm _) .nil)))))))))))) .nil) rfl rfl rfl rfl rfl ?_
            refine .v rfl rfl (O.fld fld24_7 rfl rfl rfl) ?_
            refine .v rfl rfl (O.ld (y := .i x0.End) ty3 rfl rfl rfl) ?_
            refine .v rfl rfl (OpL.binI rfl rfl rfl rfl) ?_
            refine .v rfl rfl (OpL.eqB rfl u4 rfl rfl) ?_
            refine .m rfl rfl rfl rfl ?_
            refine .v rfl (met rfl rfl rfl g60) (O.ldN ty24 rfl rfl rfl) ?_
            refine .call (.b t48) [] 0 (life_Live.ok ((if_pos (by first | (simp only [g60, g61, g62, g63, g67, Bool.true_or, Bool.or_true, Bool.false_or, Bool.or_false, Bool.true_and, Bool.and_true, Bool.false_and, Bool.and_false, Bool.not_true, Bool.not_false, cond_true, cond_false]; done) | (repeat (first | rw [g60] | rw [g61] | rw [g62] | rw [g63] | rw [g67])) <;> simp only [Bool.true_or, Bool.or_true, Bool.false_or, Bool.or_false, Bool.true_and, Bool.and_true, Bool.false_and, Bool.and_false, Bool.not_true, Bool.not_false, cond_true, cond_false])).symm.trans b49)) rfl (met rfl rfl rfl g60) rfl ca35 rfl rfl (cC (.agg _ _ _ _ (cC (.imm _) (cC (.imm _) (cC (.imm _) (cC (.imm _) (cC (.imm _) (cC (.imm _) (cC (.imm _) (cC (.imm _) (cC (.imm _) (cC (.imm _) (cC (.imm _) .nil)))))))))))) .nil) rfl rfl rfl rfl rfl ?_
            refine .v rfl (met rfl rfl rfl g60) (O.ldN ty24 rfl rfl rfl) ?_
            refine .call (.b t50) [] 0 (lombardref24_Live.ok ((if_pos (by first | (simp only [g60, g61, g62, g63, g67, Bool.true_or, Bool.or_true, Bool.false_or, Bool.or_false, Bool.true_and, Bool.and_true, Bool.false_and, Bool.and_false, Bool.not_true, Bool.not_false, cond_true, cond_false]; done) | (repeat (first | rw [g60] | rw [g61] | rw [g62] | rw [g63] | rw [g67])) <;> simp only [Bool.true_or, Bool.or_true, Bool.false_or, Bool.or_false, Bool.true_and, Bool.and_true, Bool.false_and, Bool.and_false, Bool.not_true, Bool.not_false, cond_true, cond_false])).symm.trans b51)) rfl (met rfl rfl rfl g60) rfl ca36 rfl rfl (cC (.agg _ _ _ _ (cC (.imm _) (cC (.imm _) (cC (.imm _) (cC (.imm _) (cC (.imm _) (cC (.imm _) (cC (.imm _) (cC (.imm _) (cC (.imm _) (cC (.imm _) (cC (.imm _) .nil)))))))))))) .nil) rfl rfl rfl rfl rfl ?_
            refine .v rfl (met rfl rfl rfl g60) (OpL.eqB rfl u4 rfl rfl) ?_
            refine .v rfl rfl (O.pickT g60 rfl rfl rfl) ?_
            refine .m rfl rfl rfl rfl ?_
            refine .v rfl (met rfl rfl rfl g61) (O.ldN ty24 rfl rfl rfl) ?_
            refine .call (.b t52) [] 0 (life_Over.ok ((if_pos (by first | (simp only [g60, g61, g62, g63, g67, Bool.true_or, Bool.or_true, Bool.false_or, Bool.or_false, Bool.true_and, Bool.and_true, Bool.false_and, Bool.and_false, Bool.not_true, Bool.not_false, cond_true, cond_false]; done) | (repeat (first | rw [g60] | rw [g61] | rw [g62] | rw [g63] | rw [g67])) <;> simp only [Bool.true_or, Bool.or_true, Bool.false_or, Bool.or_false, Bool.true_and, Bool.and_true, Bool.false_and, Bool.and_false, Bool.not_true, Bool.not_false, cond_true, cond_false])).symm.trans b53)) rfl (met rfl rfl rfl g61) rfl ca37 rfl rfl (cC (.agg _ _ _ _ (cC (.imm _) (cC (.imm _) (cC (.imm _) (cC (.imm _) (cC (.imm _) (cC (.imm _) (cC (.imm _) (cC (.imm _) (cC (.imm _) (cC (.imm _) (cC (.imm _) .nil)))))))))))) .nil) rfl rfl rfl rfl rfl ?_
            refine .v rfl (met rfl rfl rfl g61) (O.fld fld24_9 rfl rfl rfl) ?_
            refine .v rfl (met rfl rfl rfl g61) (O.ld (y := .i x0.Stage) ty3 rfl rfl rfl) ?_
            refine .v rfl (met rfl rfl rfl g61) (OpL.binI rfl rfl rfl rfl) ?_
            refine .v rfl (met rfl rfl rfl g61) (OpL.eqB rfl u4 rfl rfl) ?_
            refine .v rfl rfl (O.pickT g61 rfl rfl rfl) ?_
            refine .m rfl rfl rfl rfl ?_
            refine .v rfl (met rfl rfl rfl g62) (O.ldN ty24 rfl rfl rfl) ?_
            refine .m rfl (met rfl rfl rfl g62) rfl rfl ?_
            refine .call (.b t54) [] 0 (life_Due.ok ((if_pos (by first | (simp only [g60, g61, g62, g63, g67, Bool.true_or, Bool.or_true, Bool.false_or, Bool.or_false, Bool.true_and, Bool.and_true, Bool.false_and, Bool.and_false, Bool.not_true, Bool.not_false, cond_true, cond_false]; done) | (repeat (first | rw [g60] | rw [g61] | rw [g62] | rw [g63] | rw [g67])) <;> simp only [Bool.true_or, Bool.or_true, Bool.false_or, Bool.or_false, Bool.true_and, Bool.and_true, Bool.false_and, Bool.and_false, Bool.not_true, Bool.not_false, cond_true, cond_false])).symm.trans b55)) rfl (met rfl rfl rfl g62) rfl ca38 rfl rfl (cC (.agg _ _ _ _ (cC (.imm _) (cC (.imm _) (cC (.imm _) (cC (.imm _) (cC (.imm _) (cC (.imm _) (cC (.imm _) (cC (.imm _) (cC (.imm _) (cC (.imm _) (cC (.imm _) .nil)))))))))))) (cC (.imm _) .nil)) rfl rfl rfl rfl rfl ?_
            refine .v rfl (met rfl rfl rfl g62) (O.ldN ty24 rfl rfl rfl) ?_
            refine .call (.b t56) [] 0 (lombardref24_Live.ok ((if_pos (by first | (simp only [g60, g61, g62, g63, g67, Bool.true_or, Bool.or_true, Bool.false_or, Bool.or_false, Bool.true_and, Bool.and_true, Bool.false_and, Bool.and_false, Bool.not_true, Bool.not_false, cond_true, cond_false]; done) | (repeat (first | rw [g60] | rw [g61] | rw [g62] | rw [g63] | rw [g67])) <;> simp only [Bool.true_or, Bool.or_true, Bool.false_or, Bool.or_false, Bool.true_and, Bool.and_true, Bool.false_and, Bool.and_false, Bool.not_true, Bool.not_false, cond_true, cond_false])).symm.trans b57)) rfl (met rfl rfl rfl g62) rfl ca36 rfl rfl (cC (.agg _ _ _ _ (cC (.imm _) (cC (.imm _) (cC (.imm _) (cC (.imm _) (cC (.imm _) (cC (.imm _) (cC (.imm _) (cC (.imm _) (cC (.imm _) (cC (.imm _) (cC (.imm _) .nil)))))))))))) .nil) rfl rfl rfl rfl rfl ?_
            refine .m rfl (met rfl rfl rfl g62) rfl rfl ?_
            refine .x rfl (unmet rfl rfl rfl g63) ?_
            refine .x rfl (unmet rfl rfl rfl g63) ?_
            refine .x rfl (unmet rfl rfl rfl g63) ?_
            refine .v rfl (met rfl rfl rfl g62) (O.pickF g63 rfl rfl rfl) ?_
            refine .m rfl (met rfl rfl rfl g62) rfl rfl ?_
            refine .x rfl (unmet rfl rfl rfl rfl) ?_
            refine .x rfl (unmet rfl rfl rfl rfl) ?_
            refine .x rfl (unmet rfl rfl rfl rfl) ?_
            refine .x rfl (unmet rfl rfl rfl rfl) ?_
            refine .v rfl (met rfl rfl rfl g62) (O.pickF rfl rfl rfl rfl) ?_
            refine .v rfl (met rfl rfl rfl g62) (OpL.eqB rfl u4 rfl rfl) ?_
            refine .v rfl rfl (O.pickT g62 rfl rfl rfl) ?_
            refine .m rfl rfl rfl rfl ?_
            refine .x rfl (unmet rfl rfl rfl g67) ?_
            refine .v rfl rfl (O.pickF g67 rfl rfl rfl) ?_
            refine .a rfl rfl rfl rfl ?_
            refine .nil ?_
            refine ⟨by kernel_rfl, by kernel_rfl, ?_⟩
            exact toN (Gives.mkR [] (.c rfl (sbb (by first | (simp only [g60, g61, g62, g63, g67, Bool.true_or, Bool.or_true, Bool.false_or, Bool.or_false, Bool.true_and, Bool.and_true, Bool.false_and, Bool.and_false, Bool.not_true, Bool.not_false, cond_true, cond_false]; done) | (repeat (first | rw [g60] | rw [g61] | rw [g62] | rw [g63] | rw [g67])) <;> simp only [Bool.true_or, Bool.or_true, Bool.false_or, Bool.or_false, Bool.true_and, Bool.and_true, Bool.false_and, Bool.and_false, Bool.not_true, Bool.not_false, cond_true, cond_false])) rfl .n) .n rfl rfl rfl)
         ·refine W.dk (unm 44 [0, 1, 0, 4, 12, 31, 63, 127, 255, 127, 1023, 2047, 4095, 8191, 16383, 32767, 16383, 81919, 212991, 524287, 1048575, 2097151, 4194303, 4194303, 16777215, 4194303, 67108863, 134217727, 268435455, 536870911, 1073741823, 2147483647, 4294967295, 8589934591, 17179869183, 8589934591, 68719476735, 137438953471, 274877906943, 549755813887, 1099511627775, 2199023255551, 4398046511103, 8796093022207]) rfl (by kernel_rfl) ?_
          refine .v rfl rfl (O.ldN ty24 rfl rfl rfl) ?_
          refine .call (.b t46) [] 0 (life_Open.ok b47) rfl rfl rfl ca34 rfl rfl (cC (.agg _ _ _ _ (cC (.imm _) (cC (.imm _) (cC (.imm _) (cC (.imm _) (cC (.imm _) (cC (.imm _) (cC (.imm _) (cC (.imm _) (cC (.imm _) (cC (.imm _) (cC (.imm _) .nil)))))))))))) .nil) rfl rfl rfl rfl rfl ?_
          refine .v rfl rfl (O.fld fld24_7 rfl rfl rfl) ?_
          refine .v rfl rfl (O.ld (y := .i x0.End) ty3 rfl rfl rfl) ?_
          refine .v rfl rfl (OpL.binI rfl rfl rfl rfl) ?_
          refine .v rfl rfl (OpL.eqB rfl u4 rfl rfl) ?_
          refine .m rfl rfl rfl rfl ?_
          refine .v rfl (met rfl rfl rfl g60) (O.ldN ty24 rfl rfl rfl) ?_
          refine .call (.b t48) [] 0 (life_Live.ok ((if_pos (by first | (simp only [g60, g61, g62, Bool.true_or, Bool.or_true, Bool.false_or, Bool.or_false, Bool.true_and, Bool.and_true, Bool.false_and, Bool.and_false, Bool.not_true, Bool.not_false, cond_true, cond_false]; done) | (repeat (first | rw [g60] | rw [g61] | rw [g62])) <;> simp only [Bool.true_or, Bool.or_true, Bool.false_or, Bool.or_false, Bool.true_and, Bool.and_true, Bool.false_and, Bool.and_false, Bool.not_true, Bool.not_false, cond_true, cond_false])).symm.trans b49)) rfl (met rfl rfl rfl g60) rfl ca35 rfl rfl (cC (.agg _ _ _ _ (cC (.imm _) (cC (.imm _) (cC (.imm _) (cC (.imm _) (cC (.imm _) (cC (.imm _) (cC (.imm _) (cC (.imm _) (cC (.imm _) (cC (.imm _) (cC (.imm _) .nil)))))))))))) .nil) rfl rfl rfl rfl rfl ?_
          refine .v rfl (met rfl rfl rfl g60) (O.ldN ty24 rfl rfl rfl) ?_
          refine .call (.b t50) [] 0 (lombardref24_Live.ok ((if_pos (by first | (simp only [g60, g61, g62, Bool.true_or, Bool.or_true, Bool.false_or, Bool.or_false, Bool.true_and, Bool.and_true, Bool.false_and, Bool.and_false, Bool.not_true, Bool.not_false, cond_true, cond_false]; done) | (repeat (first | rw [g60] | rw [g61] | rw [g62])) <;> simp only [Bool.true_or, Bool.or_true, Bool.false_or, Bool.or_false, Bool.true_and, Bool.and_true, Bool.false_and, Bool.and_false, Bool.not_true, Bool.not_false, cond_true, cond_false])).symm.trans b51)) rfl (met rfl rfl rfl g60) rfl ca36 rfl rfl (cC (.agg _ _ _ _ (cC (.imm _) (cC (.imm _) (cC (.imm _) (cC (.imm _) (cC (.imm _) (cC (.imm _) (cC (.imm _) (cC (.imm _) (cC (.imm _) (cC (.imm _) (cC (.imm _) .nil)))))))))))) .nil) rfl rfl rfl rfl rfl ?_
          refine .v rfl (met rfl rfl rfl g60) (OpL.eqB rfl u4 rfl rfl) ?_
          refine .v rfl rfl (O.pickT g60 rfl rfl rfl) ?_
          refine .m rfl rfl rfl rfl ?_
          refine .v rfl (met rfl rfl rfl g61) (O.ldN ty24 rfl rfl rfl) ?_
          refine .call (.b t52) [] 0 (life_Over.ok ((if_pos (by first | (simp only [g60, g61, g62, Bool.true_or, Bool.or_true, Bool.false_or, Bool.or_false, Bool.true_and, Bool.and_true, Bool.false_and, Bool.and_false, Bool.not_true, Bool.not_false, cond_true, cond_false]; done) | (repeat (first | rw [g60] | rw [g61] | rw [g62])) <;> simp only [Bool.true_or, Bool.or_true, Bool.false_or, Bool.or_false, Bool.true_and, Bool.and_true, Bool.false_and, Bool.and_false, Bool.not_true, Bool.not_false, cond_true, cond_false])).symm.trans b53)) rfl (met rfl rfl rfl g61) rfl ca37 rfl rfl (cC (.agg _ _ _ _ (cC (.imm _) (cC (.imm _) (cC (.imm _) (cC (.imm _) (cC (.imm _) (cC (.imm _) (cC (.imm _) (cC (.imm _) (cC (.imm _) (cC (.imm _) (cC (.imm _) .nil)))))))))))) .nil) rfl rfl rfl rfl rfl ?_
          refine .v rfl (met rfl rfl rfl g61) (O.fld fld24_9 rfl rfl rfl) ?_
          refine .v rfl (met rfl rfl rfl g61) (O.ld (y := .i x0.Stage) ty3 rfl rfl rfl) ?_
          refine .v rfl (met rfl rfl rfl g61) (OpL.binI rfl rfl rfl rfl) ?_
          refine .v rfl (met rfl rfl rfl g61) (OpL.eqB rfl u4 rfl rfl) ?_
          refine .v rfl rfl (O.pickT g61 rfl rfl rfl) ?_
          refine .m rfl rfl rfl rfl ?_
          refine .x rfl (unmet rfl rfl rfl g62) ?_
          refine .x rfl (unmet rfl rfl rfl g62) ?_
          refine .x rfl (unmet rfl rfl rfl g62) ?_
          refine .x rfl (unmet rfl rfl rfl g62) ?_
          refine .x rfl (unmet rfl rfl rfl g62) ?_
          refine .x rfl (unmet rfl rfl rfl g62) ?_
          refine .x rfl (unmetU rfl rfl rfl) ?_
          refine .x rfl (unmetU rfl rfl rfl) ?_
          refine .x rfl (unmetU rfl rfl rfl) ?_
          refine .x rfl (unmet rfl rfl rfl g62) ?_
          refine .x rfl (unmet rfl rfl rfl g62) ?_
          refine .x rfl (unmetU rfl rfl rfl) ?_
          refine .x rfl (unmetU rfl rfl rfl) ?_
          refine .x rfl (unmetU rfl rfl rfl) ?_
          refine .x rfl (unmetU rfl rfl rfl) ?_
          refine .x rfl (unmet rfl rfl rfl g62) ?_
          refine .x rfl (unmet rfl rfl rfl g62) ?_
          refine .v rfl rfl (O.pickF g62 rfl rfl rfl) ?_
          refine .m rfl rfl rfl rfl ?_
          refine .x rfl (unmet rfl rfl rfl rfl) ?_
          refine .v rfl rfl (O.pickF rfl rfl rfl rfl) ?_
          refine .a rfl rfl rfl rfl ?_
          refine .nil ?_
          refine ⟨by kernel_rfl, by kernel_rfl, ?_⟩
          exact toN (Gives.mkR [] (.c rfl (sbb (by first | (simp only [g60, g61, g62, Bool.true_or, Bool.or_true, Bool.false_or, Bool.or_false, Bool.true_and, Bool.and_true, Bool.false_and, Bool.and_false, Bool.not_true, Bool.not_false, cond_true, cond_false]; done) | (repeat (first | rw [g60] | rw [g61] | rw [g62])) <;> simp only [Bool.true_or, Bool.or_true, Bool.false_or, Bool.or_false, Bool.true_and, Bool.and_true, Bool.false_and, Bool.and_false, Bool.not_true, Bool.not_false, cond_true, cond_false])) rfl .n) .n rfl rfl rfl)
        ·refine W.dk (unm 44 [0, 1, 0, 4, 12, 31, 63, 127, 255, 127, 1023, 2047, 4095, 8191, 16383, 32767, 16383, 81919, 212991, 524287, 1048575, 2097151, 4194303, 4194303, 16777215, 4194303, 67108863, 134217727, 268435455, 536870911, 1073741823, 2147483647, 4294967295, 8589934591, 17179869183, 8589934591, 68719476735, 137438953471, 274877906943, 549755813887, 1099511627775, 2199023255551, 4398046511103, 8796093022207]) rfl (by kernel_rfl) ?_
         refine .v rfl rfl (O.ldN ty24 rfl rfl rfl) ?_
         refine .call (.b t46) [] 0 (life_Open.ok b47) rfl rfl rfl ca34 rfl rfl (cC (.agg _ _ _ _ (cC (.imm _) (cC (.imm _) (cC (.imm _) (cC (.imm _) (cC (.imm _) (cC (.imm _) (cC (.imm _) (cC (.imm _) (cC (.imm _) (cC (.imm _) (cC (.imm _) .nil)))))))))))) .nil) rfl rfl rfl rfl rfl ?_
         refine .v rfl rfl (O.fld fld24_7 rfl rfl rfl) ?_
         refine .v rfl rfl (O.ld (y := .i x0.End) ty3 rfl rfl rfl) ?_
         refine .v rfl rfl (OpL.binI rfl rfl rfl rfl) ?_
         refine .v rfl rfl (OpL.eqB rfl u4 rfl rfl) ?_
         refine .m rfl rfl rfl rfl ?_
         refine .v rfl (met rfl rfl rfl g60) (O.ldN ty24 rfl rfl rfl) ?_
         refine .call (.b t48) [] 0 (life_Live.ok ((if_pos (by first | (simp only [g60, g61, Bool.true_or, Bool.or_true, Bool.false_or, Bool.or_false, Bool.true_and, Bool.and_true, Bool.false_and, Bool.and_false, Bool.not_true, Bool.not_false, cond_true, cond_false]; done) | (repeat (first | rw [g60] | rw [g61])) <;> simp only [Bool.true_or, Bool.or_true, Bool.false_or, Bool.or_false, Bool.true_and, Bool.and_true, Bool.false_and, Bool.and_false, Bool.not_true, Bool.not_false, cond_true, cond_false])).symm.trans b49)) rfl (met rfl rfl rfl g60) rfl ca35 rfl rfl (cC (.agg _ _ _ _ (cC (.imm _) (cC (.imm _) (cC (.imm _) (cC (.imm _) (cC (.imm _) (cC (.imm _) (cC (.imm _) (cC (.imm _) (cC (.imm _) (cC (.imm _) (cC (.imm _) .nil)))))))))))) .nil) rfl rfl rfl rfl rfl ?_
         refine .v rfl (met rfl rfl rfl g60) (O.ldN ty24 rfl rfl rfl) ?_
         refine .call (.b t50) [] 0 (lombardref24_Live.ok ((if_pos (by first | (simp only [g60, g61, Bool.true_or, Bool.or_true, Bool.false_or, Bool.or_false, Bool.true_and, Bool.and_true, Bool.false_and, Bool.and_false, Bool.not_true, Bool.not_false, cond_true, cond_false]; done) | (repeat (first | rw [g60] | rw [g61])) <;> simp only [Bool.true_or, Bool.or_true, Bool.false_or, Bool.or_false, Bool.true_and, Bool.and_true, Bool.false_and, Bool.and_false, Bool.not_true, Bool.not_false, cond_true, cond_false])).symm.trans b51)) rfl (met rfl rfl rfl g60) rfl ca36 rfl rfl (cC (.agg _ _ _ _ (cC (.imm _) (cC (.imm _) (cC (.imm _) (cC (.imm _) (cC (.imm _) (cC (.imm _) (cC (.imm _) (cC (.imm _) (cC (.imm _) (cC (.imm _) (cC (.imm _) .nil)))))))))))) .nil) rfl rfl rfl rfl rfl ?_
         refine .v rfl (met rfl rfl rfl g60) (OpL.eqB rfl u4 rfl rfl) ?_
         refine .v rfl rfl (O.pickT g60 rfl rfl rfl) ?_
         refine .m rfl rfl rfl rfl ?_
         refine .x rfl (unmet rfl rfl rfl g61) ?_
         refine .x rfl (unmet rfl rfl rfl g61) ?_
         refine .x rfl (unmet rfl rfl rfl g61) ?_
         refine .x rfl (unmet rfl rfl rfl g61) ?_
         refine .x rfl (unmet rfl rfl rfl g61) ?_
         refine .x rfl (unmet rfl rfl rfl g61) ?_
         refine .v rfl rfl (O.pickF g61 rfl rfl rfl) ?_
         refine .m rfl rfl rfl rfl ?_
         refine .x rfl (unmet rfl rfl rfl rfl) ?_
         refine .x rfl (unmet rfl rfl rfl rfl) ?_
         refine .x rfl (unmet rfl rfl rfl rfl) ?_
         refine .x rfl (unmet rfl rfl rfl rfl) ?_
         refine .x rfl (unmet rfl rfl rfl rfl) ?_
         refine .x rfl (unmet rfl rfl rfl rfl) ?_
         refine .x rfl (unmetU rfl rfl rfl) ?_
         refine .x rfl (unmetU rfl rfl rfl) ?_
         refine .x rfl (unmetU rfl rfl rfl) ?_
         refine .x rfl (unmet rfl rfl rfl rfl) ?_
         refine .x rfl (unmet rfl rfl rfl rfl) ?_
         refine .x rfl (unmetU rfl rfl rfl) ?_
         refine .x rfl (unmetU rfl rfl rfl) ?_
         refine .x rfl (unmetU rfl rfl rfl) ?_
         refine .x rfl (unmetU rfl rfl rfl) ?_
         refine .x rfl (unmet rfl rfl rfl rfl) ?_
         refine .x rfl (unmet rfl rfl rfl rfl) ?_
         refine .v rfl rfl (O.pickF rfl rfl rfl rfl) ?_
         refine .m rfl rfl rfl rfl ?_
         refine .x rfl (unmet rfl rfl rfl rfl) ?_
         refine .v rfl rfl (O.pickF rfl rfl rfl rfl) ?_
         refine .a rfl rfl rfl rfl ?_
         refine .nil ?_
         refine ⟨by kernel_rfl, by kernel_rfl, ?_⟩
         exact toN (Gives.mkR [] (.c rfl (sbb (by first | (simp only [g60, g61, Bool.true_or, Bool.or_true, Bool.false_or, Bool.or_false, Bool.true_and, Bool.and_true, Bool.false_and, Bool.and_false, Bool.not_true, Bool.not_false, cond_true, cond_false]; done) | (repeat (first | rw [g60] | rw [g61])) <;> simp only [Bool.true_or, Bool.or_true, Bool.false_or, Bool.or_false, Bool.true_and, Bool.and_true, Bool.false_and, Bool.and_false, Bool.not_true, Bool.not_false, cond_true, cond_false])) rfl .n) .n rfl rfl rfl)
       ·refine W.dk (unm 44 [0, 1, 0, 4, 12, 31, 63, 127, 255, 127, 1023, 2047, 4095, 8191, 16383, 32767, 16383, 81919, 212991, 524287, 1048575, 2097151, 4194303, 4194303, 16777215, 4194303, 67108863, 134217727, 268435455, 536870911, 1073741823, 2147483647, 4294967295, 8589934591, 17179869183, 8589934591, 68719476735, 137438953471, 274877906943, 549755813887, 1099511627775, 2199023255551, 4398046511103, 8796093022207]) rfl (by kernel_rfl) ?_
        refine .v rfl rfl (O.ldN ty24 rfl rfl rfl) ?_
        refine .call (.b t46) [] 0 (life_Open.ok b47) rfl rfl rfl ca34 rfl rfl (cC (.agg _ _ _ _ (cC (.imm _) (cC (.imm _) (cC (.imm _) (cC (.imm _) (cC (.imm _) (cC (.imm _) (cC (.imm _) (cC (.imm _) (cC (.imm _) (cC (.imm _) (cC (.imm _) .nil)))))))))))) .nil) rfl rfl rfl rfl rfl ?_
        refine .v rfl rfl (O.fld fld24_7 rfl rfl rfl) ?_
        refine .v rfl rfl (O.ld (y := .i x0.End) ty3 rfl rfl rfl) ?_
        refine .v rfl rfl (OpL.binI rfl rfl rfl rfl) ?_
        refine .v rfl rfl (OpL.eqB rfl u4 rfl rfl) ?_
        refine .m rfl rfl rfl rfl ?_
        refine .x rfl (unmet rfl rfl rfl g60) ?_
        refine .x rfl (unmet rfl rfl rfl g60) ?_
        refine .x rfl (unmet rfl rfl rfl g60) ?_
        refine .x rfl (unmet rfl rfl rfl g60) ?_
        refine .x rfl (unmet rfl rfl rfl g60) ?_
        refine .v rfl rfl (O.pickF g60 rfl rfl rfl) ?_
        refine .m rfl rfl rfl rfl ?_
        refine .x rfl (unmet rfl rfl rfl rfl) ?_
        refine .x rfl (unmet rfl rfl rfl rfl) ?_
        refine .x rfl (unmet rfl rfl rfl rfl) ?_
        refine .x rfl (unmet rfl rfl rfl rfl) ?_
        refine .x rfl (unmet rfl rfl rfl rfl) ?_
        refine .x rfl (unmet rfl rfl rfl rfl) ?_
        refine .v rfl rfl (O.pickF rfl rfl rfl rfl) ?_
        refine .m rfl rfl rfl rfl ?_
        refine .x rfl (unmet rfl rfl rfl rfl) ?_
        refine .x rfl (unmet rfl rfl rfl rfl) ?_
        refine .x rfl (unmet rfl rfl rfl rfl) ?_
        refine .x rfl (unmet rfl rfl rfl rfl) ?_
        refine .x rfl (unmet rfl rfl rfl rfl) ?_
        refine .x rfl (unmet rfl rfl rfl rfl) ?_
        refine .x rfl (unmetU rfl rfl rfl) ?_
        refine .x rfl (unmetU rfl rfl rfl) ?_
        refine .x rfl (unmetU rfl rfl rfl) ?_
        refine .x rfl (unmet rfl rfl rfl rfl) ?_
        refine .x rfl (unmet rfl rfl rfl rfl) ?_
        refine .x rfl (unmetU rfl rfl rfl) ?_
        refine .x rfl (unmetU rfl rfl rfl) ?_
        refine .x rfl (unmetU rfl rfl rfl) ?_
        refine .x rfl (unmetU rfl rfl rfl) ?_
        refine .x rfl (unmet rfl rfl rfl rfl) ?_
        refine .x rfl (unmet rfl rfl rfl rfl) ?_
        refine .v rfl rfl (O.pickF rfl rfl rfl rfl) ?_
        refine .m rfl rfl rfl rfl ?_
        refine .x rfl (unmet rfl rfl rfl rfl) ?_
        refine .v rfl rfl (O.pickF rfl rfl rfl rfl) ?_
        refine .a rfl rfl rfl rfl ?_
        refine .nil ?_
        refine ⟨by kernel_rfl, by kernel_rfl, ?_⟩
        exact toN (Gives.mkR [] (.c rfl (sbb (by simp only [g60, Bool.true_or, Bool.or_true, Bool.false_or, Bool.or_false, Bool.true_and, Bool.and_true, Bool.false_and, Bool.and_false, Bool.not_true, Bool.not_false, cond_true, cond_false])) rfl .n) .n rfl rfl rfl)
    ·clear h
     rcases tf t34 with g40 | g40
     ·rcases tf (t22.2 != t24.2) with g41 | g41
      ·refine W.pk ?_
       refine .v rfl rfl (O.ldN ty24 rfl rfl rfl) ?_
       refine .v rfl rfl (O.ldN ty24 rfl rfl rfl) ?_
       refine .call (.b t34) [] 0 (lombardref23_Same.ok b35) rfl rfl rfl ca27 rfl rfl (cC (.agg _ _ _ _ (cC (.imm _) (cC (.imm _) (cC (.imm _) (cC (.imm _) (cC (.imm _) (cC (.imm _) (cC (.imm _) (cC (.imm _) (cC (.imm _) (cC (.imm _) (cC (.imm _) .nil)))))))))))) (cC (.agg _ _ _ _ (cC (.imm _) (cC (.imm _) (cC (.imm _) (cC (.imm _) (cC (.imm _) (cC (.imm _) (cC (.imm _) (cC (.imm _) (cC (.imm _) (cC (.imm _) (cC (.imm _) .nil)))))))))))) .nil)) rfl rfl rfl rfl rfl ?_
       refine .v rfl rfl (OpL.unV rfl rfl rfl) ?_
       refine .m rfl rfl rfl rfl ?_
       refine .m rfl (met rfl rfl rfl (notT g40)) rfl rfl ?_
       refine .m rfl (met rfl rfl rfl (notT g40)) rfl rfl ?_
       refine .v rfl (met rfl rfl rfl (notT g40)) (OpL.binI rfl rfl rfl rfl) ?_
       refine .v rfl rfl (O.pickF (notT g40) rfl rfl rfl) ?_
       refine .m rfl rfl rfl rfl ?_
       refine .x rfl (unmet rfl rfl rfl g41) ?_
       refine .x rfl (unmet rfl rfl rfl g41) ?_
       refine .x rfl (unmet rfl rfl rfl g41) ?_
       refine .x rfl (unmet rfl rfl rfl g41) ?_
       refine .v rfl rfl (O.pickT g41 rfl rfl rfl) ?_
       refine .m rfl rfl rfl rfl ?_
       refine .x rfl (unmet rfl rfl rfl rfl) ?_
       refine .x rfl (unmet rfl rfl rfl rfl) ?_
       refine .x rfl (unmet rfl rfl rfl rfl) ?_
       refine .v rfl rfl (O.pickT rfl rfl rfl rfl) ?_
       refine .m rfl rfl rfl rfl ?_
       refine .x rfl (unmet rfl rfl rfl rfl) ?_
       refine .x rfl (unmet rfl rfl rfl rfl) ?_
       refine .x rfl (unmet rfl rfl rfl rfl) ?_
       refine .x rfl (unmet rfl rfl rfl rfl) ?_
       refine .v rfl rfl (O.pickT rfl rfl rfl rfl) ?_
       refine .m rfl rfl rfl rfl ?_
       refine .x rfl (unmet rfl rfl rfl rfl) ?_
       refine .x rfl (unmet rfl rfl rfl rfl) ?_
       refine .x rfl (unmet rfl rfl rfl rfl) ?_
       refine .v rfl rfl (O.pickT rfl rfl rfl rfl) ?_
       refine .nil ?_
       exact toN (Gives.mkR [] (.r rfl rfl (.r rfl rfl (.c rfl (sbb (by first | (simp only [g40, g41, Bool.true_or, Bool.or_true, Bool.false_or, Bool.or_false, Bool.true_and, Bool.and_true, Bool.false_and, Bool.and_false, Bool.not_true, Bool.not_false, cond_true, cond_false]; done) | (repeat (first | rw [g40] | rw [g41])) <;> simp only [Bool.true_or, Bool.or_true, Bool.false_or, Bool.or_false, Bool.true_and, Bool.and_true, Bool.false_and, Bool.and_false, Bool.not_true, Bool.not_false, cond_true, cond_false])) rfl .n))) (.r rfl rfl rfl .n) rfl rfl rfl)
      ·rcases tf t36 with g42 | g42
       ·rcases tf (t26.2 != t28.2) with g43 | g43
        ·refine W.pk ?_
         refine .v rfl rfl (O.ldN ty24 rfl rfl rfl) ?_
         refine .v rfl rfl (O.ldN ty24 rfl rfl rfl) ?_
         refine .call (.b t34) [] 0 (lombardref23_Same.ok b35) rfl rfl rfl ca27 rfl rfl (cC (.agg _ _ _ _ (cC (.imm _) (cC (.imm _) (cC (.imm _) (cC (.imm _) (cC (.imm _) (cC (.imm _) (cC (.imm _) (cC (.imm _) (cC (.imm _) (cC (.imm _) (cC (.imm _) .nil)))))))))))) (cC (.agg _ _ _ _ (cC (.imm _) (cC (.imm _) (cC (.imm _) (cC (.imm _) (cC (.imm _) (cC (.imm _) (cC (.imm _) (cC (.imm _) (cC (.imm _) (cC (.imm _) (cC (.imm _) .nil)))))))))))) .nil)) rfl rfl rfl rfl rfl ?_
         refine .v rfl rfl (OpL.unV rfl rfl rfl) ?_
         refine .m rfl rfl rfl rfl ?_
         refine .m rfl (met rfl rfl rfl (notT g40)) rfl rfl ?_
         refine .m rfl (met rfl rfl rfl (notT g40)) rfl rfl ?_
         refine .v rfl (met rfl rfl rfl (notT g40)) (OpL.binI rfl rfl rfl rfl) ?_
         refine .v rfl rfl (O.pickF (notT g40) rfl rfl rfl) ?_
         refine .m rfl rfl rfl rfl ?_
         refine .v rfl (met rfl rfl rfl g41) (O.ldN ty24 rfl rfl rfl) ?_
         refine .v rfl (met rfl rfl rfl g41) (O.ldN ty24 rfl rfl rfl) ?_
         refine .call (.b t36) [] 0 (lombardref23_Same.ok ((if_pos (by first | (simp only [g40, g41, g42, g43, Bool.true_or, Bool.or_true, Bool.false_or, Bool.or_false, Bool.true_and, Bool.and_true, Bool.false_and, Bool.and_false, Bool.not_true, Bool.not_false, cond_true, cond_false]; done) | (repeat (first | rw [g40] | rw [g41] | rw [g42] | rw [g43])) <;> simp only [Bool.true_or, Bool.or_true, Bool.false_or, Bool.or_false, Bool.true_and, Bool.and_true, Bool.false_and, Bool.and_false, Bool.not_true, Bool.not_false, cond_true, cond_false])).symm.trans b37)) rfl (met rfl rfl rfl g41) rfl ca27 rfl rfl (cC (.agg _ _ _ _ (cC (.imm _) (cC (.imm _) (cC (.imm _) (cC (.imm _) (cC (.imm _) (cC (.imm _) (cC (.imm _) (cC (.imm _) (cC (.imm _) (cC (.imm _) (cC (.imm _) .nil)))))))))))) (cC (.agg _ _ _ _ (cC (.imm _) (cC (.imm _) (cC (.imm _) (cC (.imm _) (cC (.imm _) (cC (.imm _) (cC (.imm _) (cC (.imm _) (cC (.imm _) (cC (.imm _) (cC (.imm _) .nil)))))))))))) .nil)) rfl rfl rfl rfl rfl ?_
         refine .v rfl (met rfl rfl rfl g41) (OpL.unV rfl rfl rfl) ?_
         refine .v rfl rfl (O.pickF g41 rfl rfl rfl) ?_
         refine .m rfl rfl rfl rfl ?_
         refine .m rfl (met rfl rfl rfl (notT g42)) rfl rfl ?_
         refine .m rfl (met rfl rfl rfl (notT g42)) rfl rfl ?_
         refine .v rfl (met rfl rfl rfl (notT g42)) (OpL.binI rfl rfl rfl rfl) ?_
         refine .v rfl rfl (O.pickF (notT g42) rfl rfl rfl) ?_
         refine .m rfl rfl rfl rfl ?_
         refine .x rfl (unmet rfl rfl rfl g43) ?_
         refine .x rfl (unmet rfl rfl rfl g43) ?_
         refine .x rfl (unmet rfl rfl rfl g43) ?_
         refine .x rfl (unmet rfl rfl rfl g43) ?_
         refine .v rfl rfl (O.pickT g43 rfl rfl rfl) ?_
         refine .m rfl rfl rfl rfl ?_
         refine .x rfl (unmet rfl rfl rfl rfl) ?_
         refine .x rfl (unmet rfl rfl rfl rfl) ?_
         refine .x rfl (unmet rfl rfl rfl rfl) ?_
         refine .v rfl rfl (O.pickT rfl rfl rfl rfl) ?_
         refine .nil ?_
         exact toN (Gives.mkR [] (.r rfl rfl (.r rfl rfl (.c rfl (sbb (by first | (simp only [g40, g41, g42, g43, Bool.true_or, Bool.or_true, Bool.false_or, Bool.or_false, Bool.true_and, Bool.and_true, Bool.false_and, Bool.and_false, Bool.not_true, Bool.not_false, cond_true, cond_false]; done) | (repeat (first | rw [g40] | rw [g41] | rw [g42] | rw [g43])) <;> simp only [Bool.true_or, Bool.or_true, Bool.false_or, Bool.or_false, Bool.true_and, Bool.and_true, Bool.false_and, Bool.and_false, Bool.not_true, Bool.not_false, cond_true, cond_false])) rfl .n))) (.r rfl rfl rfl .n) rfl rfl rfl)
        ·rcases tf t38 with g44 | g44
         ·refine W.pk ?_
          refine .v rfl rfl (O.ldN ty24 rfl rfl rfl) ?_
          refine .v rfl rfl (O.ldN ty24 rfl rfl rfl) ?_
          refine .call (.b t34) [] 0 (lombardref23_Same.ok b35) rfl rfl rfl ca27 rfl rfl (cC (.agg _ _ _ _ (cC (.imm _) (cC (.imm _) (cC (.imm _) (cC (.imm _) (cC (.imm _) (cC (.imm _) (cC (.imm _) (cC (.imm _) (cC (.imm _) (cC (.imm _) (cC (.imm _) .nil)))))))))))) (cC (.agg _ _ _ _ (cC (.imm _) (cC (.imm _) (cC (.imm _) (cC (.imm _) (cC (.imm _) (cC (.imm _) (cC (.imm _) (cC (.imm _) (cC (.imm _) (cC (.imm _) (cC (.imm _) .nil)))))))))))) .nil)) rfl rfl rfl rfl rfl ?_
          refine .v rfl rfl (OpL.unV rfl rfl rfl) ?_
          refine .m rfl rfl rfl rfl ?_
          refine .m rfl (met rfl rfl rfl (notT g40)) rfl rfl ?_
          refine .m rfl (met rfl rfl rfl (notT g40)) rfl rfl ?_
          refine .v rfl (met rfl rfl rfl (notT g40)) (OpL.binI rfl rfl rfl rfl) ?_
          refine .v rfl rfl (O.pickF (notT g40) rfl rfl rfl) ?_
          refine .m rfl rfl rfl rfl ?_
          refine .v rfl (met rfl rfl rfl g41) (O.ldN ty24 rfl rfl rfl) ?_
          refine .v rfl (met rfl rfl rfl g41) (O.ldN ty24 rfl rfl rfl) ?_
          refine .call (.b t36) [] 0 (lombardref23_Same.ok ((if_pos (by first | (simp only [g40, g41, g42, g43, g44, Bool.true_or, Bool.or_true, Bool.false_or, Bool.or_false, Bool.true_and, Bool.and_true, Bool.false_and, Bool.and_false, Bool.not_true, Bool.not_false, cond_true, cond_false]; done) | (repeat (first | rw [g40] | rw [g41] | rw [g42] | rw [g43] | rw [g44])) <;> simp only [Bool.true_or, Bool.or_true, Bool.false_or, Bool.or_false, Bool.true_and, Bool.and_true, Bool.false_and, Bool.and_false, Bool.not_true, Bool.not_false, cond_true, cond_false])).symm.trans b37)) rfl (met rfl rfl rfl g41) rfl ca27 rfl rfl (cC (.agg _ _ _ _ (cC (.imm _) (cC (.imm _) (cC (.imm _) (cC (.imm _) (cC (.imm _) (cC (.imm _) (cC (.imm _) (cC (.imm _) (cC (.imm _) (cC (.imm _) (cC (.imm _) .nil)))))))))))) (cC (.agg _ _ _ _ (cC (.imm _) (cC (.imm _) (cC (.imm _) (cC (.imm _) (cC (.imm _) (cC (.imm _) (cC (.imm _) (cC (.imm _) (cC (.imm _) (cC (.imm _) (cC (.imm _) .nil)))))))))))) .nil)) rfl rfl rfl rfl rfl ?_
          refine .v rfl (met rfl rfl rfl g41) (OpL.unV rfl rfl rfl) ?_
          refine .v rfl rfl (O.pickF g41 rfl rfl rfl) ?_
          refine .m rfl rfl rfl rfl ?_
          refine .m rfl (met rfl rfl rfl (notT g42)) rfl rfl ?_
          refine .m rfl (met rfl rfl rfl (notT g42)) rfl rfl ?_
          refine .v rfl (met rfl rfl rfl (notT g42)) (OpL.binI rfl rfl rfl rfl) ?_
          refine .v rfl rfl (O.pickF (notT g42) rfl rfl rfl) ?_
          refine .m rfl rfl rfl rfl ?_
          refine .v rfl (met rfl rfl rfl g43) (O.ldN ty24 rfl rfl rfl) ?_
          refine .v rfl (met rfl rfl rfl g43) (O.ldN ty24 rfl rfl rfl) ?_
          refine .call (.b t38) [] 0 (lombardref23_Same.ok ((if_pos (by first | (simp only [g40, g41, g42, g43, g44, Bool.true_or, Bool.or_true, Bool.false_or, Bool.or_false, Bool.true_and, Bool.and_true, Bool.false_and, Bool.and_false, Bool.not_true, Bool.not_false, cond_true, cond_false]; done) | (repeat (first | rw [g40] | rw [g41] | rw [g42] | rw [g43] | rw [g44])) <;> simp only [Bool.true_or, Bool.or_true, Bool.false_or, Bool.or_false, Bool.true_and, Bool.and_true, Bool.false_and, Bool.and_false, Bool.not_true, Bool.not_false, cond_true, cond_false])).symm.trans b39)) rfl (met rfl rfl rfl g43) rfl ca27 rfl rfl (cC (.agg _ _ _ _ (cC (.imm _) (cC (.imm _) (cC (.imm _) (cC (.imm _) (cC (.imm _) (cC (.imm _) (cC (.imm _) (cC (.imm _) (cC (.imm _) (cC (.imm _) (cC (.imm _) .nil)))))))))))) (cC (.agg _ _ _ _ (cC (.imm _) (cC (.imm _) (cC (.imm _) (cC (.imm _) (cC (.imm _) (cC (.imm _) (cC (.imm _) (cC (.imm _) (cC (.imm _) (cC (.imm _) (cC (.imm _) .nil)))))))))))) .nil)) rfl rfl rfl rfl rfl ?_
          refine .v rfl (met rfl rfl rfl g43) (OpL.unV rfl rfl rfl) ?_
          refine .v rfl rfl (O.pickF g43 rfl rfl rfl) ?_
          refine .m rfl rfl rfl rfl ?_
          refine .m rfl (met rfl rfl rfl (notT g44)) rfl rfl ?_
          refine .m rfl (met rfl rfl rfl (notT g44)) rfl rfl ?_
          refine .v rfl (met rfl rfl rfl (notT g44)) (OpL.binI rfl rfl rfl rfl) ?_
          refine .v rfl rfl (O.pickF (notT g44) rfl rfl rfl) ?_
          refine .nil ?_
          exact toN (Gives.mkR [] (.r rfl rfl (.r rfl rfl (.c rfl (sbb (by first | (simp only [g40, g41, g42, g43, g44, Bool.true_or, Bool.or_true, Bool.false_or, Bool.or_false, Bool.true_and, Bool.and_true, Bool.false_and, Bool.and_false, Bool.not_true, Bool.not_false, cond_true, cond_false]; done) | (repeat (first | rw [g40] | rw [g41] | rw [g42] | rw [g43] | rw [g44])) <;> simp only [Bool.true_or, Bool.or_true, Bool.false_or, Bool.or_false, Bool.true_and, Bool.and_true, Bool.false_and, Bool.and_false, Bool.not_true, Bool.not_false, cond_true, cond_false])) rfl .n))) (.r rfl rfl rfl .n) rfl rfl rfl)
         ·refine W.pk ?_
          refine .v rfl rfl (O.ldN ty24 rfl rfl rfl) ?_
          refine .v rfl rfl (O.ldN ty24 rfl rfl rfl) ?_
          refine .call (.b t34) [] 0 (lombardref23_Same.ok b35) rfl rfl rfl ca27 rfl rfl (cC (.agg _ _ _ _ (cC (.imm _) (cC (.imm _) (cC (.imm _) (cC (.imm _) (cC (.imm _) (cC (.imm _) (cC (.imm _) (cC (.imm _) (cC (.imm _) (cC (.imm _) (cC (.imm _) .nil)))))))))))) (cC (.agg _ _ _ _ (cC (.imm _) (cC (.imm _) (cC (.imm _) (cC (.imm _) (cC (.imm _) (cC (.imm _) (cC (.imm _) (cC (.imm _) (cC (.imm _) (cC (.imm _) (cC (.imm _) .nil)))))))))))) .nil)) rfl rfl rfl rfl rfl ?_
          refine .v rfl rfl (OpL.unV rfl rfl rfl) ?_
          refine .m rfl rfl rfl rfl ?_
          refine .m rfl (met rfl rfl rfl (notT g40)) rfl rfl ?_
          refine .m rfl (met rfl rfl rfl (notT g40)) rfl rfl ?_
          refine .v rfl (met rfl rfl rfl (notT g40)) (OpL.binI rfl rfl rfl rfl) ?_
          refine .v rfl rfl (O.pickF (notT g40) rfl rfl rfl) ?_
          refine .m rfl rfl rfl rfl ?_
          refine .v rfl (met rfl rfl rfl g41) (O.ldN ty24 rfl rfl rfl) ?_
          refine .v rfl (met rfl rfl rfl g41) (O.ldN ty24 rfl rfl rfl) ?_
          refine .call (.b t36) [] 0 (lombardref23_Same.ok ((if_pos (by first | (simp only [g40, g41, g42, g43, g44, Bool.true_or, Bool.or_true, Bool.false_or, Bool.or_false, Bool.true_and, Bool.and_true, Bool.false_and, Bool.and_false, Bool.not_true, Bool.not_false, cond_true, cond_false]; done) | (repeat (first | rw [g40] | rw [g41] | rw [g42] | rw [g43] | rw [g44])) <;> simp only [Bool.true_or, Bool.or_true, Bool.false_or, Bool.or_false, Bool.true_and, Bool.and_true, Bool.false_and, Bool.and_false, Bool.not_true, Bool.not_false, cond_true, cond_false])).symm.trans b37)) rfl (met rfl rfl rfl g41) rfl ca27 rfl rfl (cC (.agg _ _ _ _ (cC (.imm _) (cC (.imm _) (cC (.imm _) (cC (.imm _) (cC (.imm _) (cC (.imm _) (cC (.imm _) (cC (.imm _) (cC (.imm _) (cC (.imm _) (cC (.imm _) .nil)))))))))))) (cC (.agg _ _ _ _ (cC (.imm _) (cC (.imm _) (cC (.imm _) (cC (.imm _) (cC (.imm _) (cC (.imm _) (cC (.imm _) (cC (.imm _) (cC (.imm _) (cC (.imm _) (cC (.imm _) .nil)))))))))))) .nil)) rfl rfl rfl rfl rfl ?_
          refine .v rfl (met rfl rfl rfl g41) (OpL.unV rfl rfl rfl) ?_
          refine .v rfl rfl (O.pickF g41 rfl rfl rfl) ?_
          refine .m rfl rfl rfl rfl ?_
          refine .m rfl (met rfl rfl rfl (notT g42)) rfl rfl ?_
          refine .m rfl (met rfl rfl rfl (notT g42)) rfl rfl ?_
          refine .v rfl (met rfl rfl rfl (notT g42)) (OpL.binI rfl rfl rfl rfl) ?_
          refine .v rfl rfl (O.pickF (notT g42) rfl rfl rfl) ?_
          refine .m rfl rfl rfl rfl ?_
          refine .v rfl (met rfl rfl rfl g43) (O.ldN ty24 rfl rfl rfl) ?_
          refine .v rfl (met rfl rfl rfl g43) (O.ldN ty24 rfl rfl rfl) ?_
          refine .call (.b t38) [] 0 (lombardref23_Same.ok ((if_pos (by first | (simp only [g40, g41, g42, g43, g44, Bool.true_or, Bool.or_true, Bool.false_or, Bool.or_false, Bool.true_and, Bool.and_true, Bool.false_and, Bool.and_false, Bool.not_true, Bool.not_false, cond_true, cond_false]; done) | (repeat (first | rw [g40] | rw [g41] | rw [g42] | rw [g43] | rw [g44])) <;> simp only [Bool.true_or, Bool.or_true, Bool.false_or, Bool.or_false, Bool.true_and, Bool.and_true, Bool.false_and, Bool.and_false, Bool.not_true, Bool.not_false, cond_true, cond_false])).symm.trans b39)) rfl (met rfl rfl rfl g43) rfl ca27 rfl rfl (cC (.agg _ _ _ _ (cC (.imm _) (cC (.imm _) (cC (.imm _) (cC (.imm _) (cC (.imm _) (cC (.imm _) (cC (.imm _) (cC (.imm _) (cC (.imm _) (cC (.imm _) (cC (.imm _) .nil)))))))))))) (cC (.agg _ _ _ _ (cC (.imm _) (cC (.imm _) (cC (.imm _) (cC (.imm _) (cC (.imm _) (cC (.imm _) (cC (.imm _) (cC (.imm _) (cC (.imm _) (cC (.imm _) (cC (.imm _) .nil)))))))))))) .nil)) rfl rfl rfl rfl rfl ?_
          refine .v rfl (met rfl rfl rfl g43) (OpL.unV rfl rfl rfl) ?_
          refine .v rfl rfl (O.pickF g43 rfl rfl rfl) ?_
          refine .m rfl rfl rfl rfl ?_
          refine .x rfl (unmet rfl rfl rfl (notF g44)) ?_
          refine .x rfl (unmet rfl rfl rfl (notF g44)) ?_
          refine .x rfl (unmet rfl rfl rfl (notF g44)) ?_
          refine .v rfl rfl (O.pickT (notF g44) rfl rfl rfl) ?_
          refine .nil ?_
          exact toN (Gives.mkR [] (.r rfl rfl (.r rfl rfl (.c rfl (sbb (by first | (simp only [g40, g41, g42, g43, g44, Bool.true_or, Bool.or_true, Bool.false_or, Bool.or_false, Bool.true_and, Bool.and_true, Bool.false_and, Bool.and_false, Bool.not_true, Bool.not_false, cond_true, cond_false]; done) | (repeat (first | rw [g40] | rw [g41] | rw [g42] | rw [g43] | rw [g44])) <;> simp only [Bool.true_or, Bool.or_true, Bool.false_or, Bool.or_false, Bool.true_and, Bool.and_true, Bool.false_and, Bool.and_false, Bool.not_true, Bool.not_false, cond_true, cond_false])) rfl .n))) (.r rfl rfl rfl .n) rfl rfl rfl)
       ·refine W.pk ?_
        refine .v rfl rfl (O.ldN ty24 rfl rfl rfl) ?_
        refine .v rfl rfl (O.ldN ty24 rfl rfl rfl) ?_
        refine .call (.b t34) [] 0 (lombardref23_Same.ok b35) rfl rfl rfl ca27 rfl rfl (cC (.agg _ _ _ _ (cC (.imm _) (cC (.imm _) (cC (.imm _) (cC (.imm _) (cC (.imm _) (cC (.imm _) (cC (.imm _) (cC (.imm _) (cC (.imm _) (cC (.imm _) (cC (.imm _) .nil)))))))))))) (cC (.agg _ _ _ _ (cC (.imm _) (cC (.imm _) (cC (.imm _) (cC (.imm _) (cC (.imm _) (cC (.imm _) (cC (.imm _) (cC (.imm _) (cC (.imm _) (cC (.imm _) (cC (.imm _) .nil)))))))))))) .nil)) rfl rfl rfl rfl rfl ?_
        refine .v rfl rfl (OpL.unV rfl rfl rfl) ?_
        refine .m rfl rfl rfl rfl ?_
        refine .m rfl (met rfl rfl rfl (notT g40)) rfl rfl ?_
        refine .m rfl (met rfl rfl rfl (notT g40)) rfl rfl ?_
        refine .v rfl (met rfl rfl rfl (notT g40)) (OpL.binI rfl rfl rfl rfl) ?_
        refine .v rfl rfl (O.pickF (notT g40) rfl rfl rfl) ?_
        refine .m rfl rfl rfl rfl ?_
        refine .v rfl (met rfl rfl rfl g41) (O.ldN ty24 rfl rfl rfl) ?_
        refine .v rfl (met rfl rfl rfl g41) (O.ldN ty24 rfl rfl rfl) ?_
        refine .call (.b t36) [] 0 (lombardref23_Same.ok ((if_pos (by first | (simp only [g40, g41, g42, Bool.true_or, Bool.or_true, Bool.false_or, Bool.or_false, Bool.true_and, Bool.and_true, Bool.false_and, Bool.and_false, Bool.not_true, Bool.not_false, cond_true, cond_false]; done) | (repeat (first | rw [g40] | rw [g41] | rw [g42])) <;> simp only [Bool.true_or, Bool.or_true, Bool.false_or, Bool.or_false, Bool.true_and, Bool.and_true, Bool.false_and, Bool.and_false, Bool.not_true, Bool.not_false, cond_true, cond_false])).symm.trans b37)) rfl (met rfl rfl rfl g41) rfl ca27 rfl rfl (cC (.agg _ _ _ _ (cC (.imm _) (cC (.imm _) (cC (.imm _) (cC (.imm _) (cC (.imm _) (cC (.imm _) (cC (.imm _) (cC (.imm _) (cC (.imm _) (cC (.imm _) (cC (.imm _) .nil)))))))))))) (cC (.agg _ _ _ _ (cC (.imm _) (cC (.imm _) (cC (.imm _) (cC (.imm _) (cC (.imm _) (cC (.imm _) (cC (.imm _) (cC (.imm _) (cC (.imm _) (cC (.imm _) (cC (.imm _) .nil)))))))))))) .nil)) rfl rfl rfl rfl rfl ?_
        refine .v rfl (met rfl rfl rfl g41) (OpL.unV rfl rfl rfl) ?_
        refine .v rfl rfl (O.pickF g41 rfl rfl rfl) ?_
        refine .m rfl rfl rfl rfl ?_
        refine .x rfl (unmet rfl rfl rfl (notF g42)) ?_
        refine .x rfl (unmet rfl rfl rfl (notF g42)) ?_
        refine .x rfl (unmet rfl rfl rfl (notF g42)) ?_
        refine .v rfl rfl (O.pickT (notF g42) rfl rfl rfl) ?_
        refine .m rfl rfl rfl rfl ?_
        refine .x rfl (unmet rfl rfl rfl rfl) ?_
        refine .x rfl (unmet rfl rfl rfl rfl) ?_
        refine .x rfl (unmet rfl rfl rfl rfl) ?_
        refine .x rfl (unmet rfl rfl rfl rfl) ?_
        refine .v rfl rfl (O.pickT rfl rfl rfl rfl) ?_
        refine .m rfl rfl rfl rfl ?_
        refine .x rfl (unmet rfl rfl rfl rfl) ?_
        refine .x rfl (unmet rfl rfl rfl rfl) ?_
        refine .x rfl (unmet rfl rfl rfl rfl) ?_
        refine .v rfl rfl (O.pickT rfl rfl rfl rfl) ?_
        refine .nil ?_
        exact toN (Gives.mkR [] (.r rfl rfl (.r rfl rfl (.c rfl (sbb (by first | (simp only [g40, g41, g42, Bool.true_or, Bool.or_true, Bool.false_or, Bool.or_false, Bool.true_and, Bool.and_true, Bool.false_and, Bool.and_false, Bool.not_true, Bool.not_false, cond_true, cond_false]; done) | (repeat (first | rw [g40] | rw [g41] | rw [g42])) <;> simp only [Bool.true_or, Bool.or_true, Bool.false_or, Bool.or_false, Bool.true_and, Bool.and_true, Bool.false_and, Bool.and_false, Bool.not_true, Bool.not_false, cond_true, cond_false])) rfl .n))) (.r rfl rfl rfl .n) rfl rfl rfl)
     ·refine W.pk ?_
      refine .v rfl rfl (O.ldN ty24 rfl rfl rfl) ?_
      refine .v rfl rfl (O.ldN ty24 rfl rfl rfl) ?_
      refine .call (.b t34) [] 0 (lombardref23_Same.ok b35) rfl rfl rfl ca27 rfl rfl (cC (.agg _ _ _ _ (cC (.imm _) (cC (.imm _) (cC (.imm _) (cC (.imm _) (cC (.imm _) (cC (.imm _) (cC (.imm _) (cC (.imm _) (cC (.imm _) (cC (.imm _) (cC (.imm _) .nil)))))))))))) (cC (.agg _ _ _ _ (cC (.imm _) (cC (.imm _) (cC (.imm _) (cC (.imm _) (cC (.imm _) (cC (.imm _) (cC (.imm _) (cC (.imm _) (cC (.imm _) (cC (.imm _) (cC (.imm _) .nil)))))))))))) .nil)) rfl rfl rfl rfl rfl ?_
      refine .v rfl rfl (OpL.unV rfl rfl rfl) ?_
      refine .m rfl rfl rfl rfl ?_
      refine .x rfl (unmet rfl rfl rfl (notF g40)) ?_
      refine .x rfl (unmet rfl rfl rfl (notF g40)) ?_
      refine .x rfl (unmet rfl rfl rfl (notF g40)) ?_
      refine .v rfl rfl (O.pickT (notF g40) rfl rfl rfl) ?_
      refine .m rfl rfl rfl rfl ?_
      refine .x rfl (unmet rfl rfl rfl rfl) ?_
      refine .x rfl (unmet rfl rfl rfl rfl) ?_
      refine .x rfl (unmet rfl rfl rfl rfl) ?_
      refine .x rfl (unmet rfl rfl rfl rfl) ?_
      refine .v rfl rfl (O.pickT rfl rfl rfl rfl) ?_
      refine .m rfl rfl rfl rfl ?_
      refine .x rfl (unmet rfl rfl rfl rfl) ?_
      refine .x rfl (unmet rfl rfl rfl rfl) ?_
      refine .x rfl (unmet rfl rfl rfl rfl) ?_
      refine .v rfl rfl (O.pickT rfl rfl rfl rfl) ?_
      refine .m rfl rfl rfl rfl ?_
      refine .x rfl (unmet rfl rfl rfl rfl) ?_
      refine .x rfl (unmet rfl rfl rfl rfl) ?_
      refine .x rfl (unmet rfl rfl rfl rfl) ?_
      refine .x rfl (unmet rfl rfl rfl rfl) ?_
      refine .v rfl rfl (O.pickT rfl rfl rfl rfl) ?_
      refine .m rfl rfl rfl rfl ?_
      refine .x rfl (unmet rfl rfl rfl rfl) ?_
      refine .x rfl (unmet rfl rfl rfl rfl) ?_
      refine .x rfl (unmet rfl rfl rfl rfl) ?_
      refine .v rfl rfl (O.pickT rfl rfl rfl rfl) ?_
      refine .nil ?_
      exact toN (Gives.mkR [] (.r rfl rfl (.r rfl rfl (.c rfl (sbb (by simp only [g40, Bool.true_or, Bool.or_true, Bool.false_or, Bool.or_false, Bool.true_and, Bool.and_true, Bool.false_and, Bool.and_false, Bool.not_true, Bool.not_false, cond_true, cond_false])) rfl .n))) (.r rfl rfl rfl .n) rfl rfl rfl)
  ·clear h
   rcases tf t14 with g18 | g18
   ·rcases tf (t6.2 != t8.2) with g19 | g19
    ·refine W.pk ?_
     refine .v rfl rfl (O.ldN ty24 rfl rfl rfl) ?_
     refine .v rfl rfl (O.ldN ty24 rfl rfl rfl) ?_
     refine .call (.b t14) [] 0 (lombardref23_Same.ok b15) rfl rfl rfl ca27 rfl rfl (cC (.agg _ _ _ _ (cC (.imm _) (cC (.imm _) (cC (.imm _) (cC (.imm _) (cC (.imm _) (cC (.imm _) (cC (.imm _) (cC (.imm _) (cC (.imm _) (cC (.imm _) (cC (.imm _) .nil)))))))))))) (cC (.agg _ _ _ _ (cC (.imm _) (cC (.imm _) (cC (.imm _) (cC (.imm _) (cC (.imm _) (cC (.imm _) (cC (.imm _) (cC (.imm _) (cC (.imm _) (cC (.imm _) (cC (.imm _) .nil)))))))))))) .nil)) rfl rfl rfl rfl rfl ?_
     refine .v rfl rfl (OpL.unV rfl rfl rfl) ?_
     refine .m rfl rfl rfl rfl ?_
     refine .m rfl (met rfl rfl rfl (notT g18)) rfl rfl ?_
     refine .m rfl (met rfl rfl rfl (notT g18)) rfl rfl ?_
     refine .v rfl (met rfl rfl rfl (notT g18)) (OpL.binI rfl rfl rfl rfl) ?_
     refine .v rfl rfl (O.pickF (notT g18) rfl rfl rfl) ?_
     refine .m rfl rfl rfl rfl ?_
     refine .x rfl (unmet rfl rfl rfl g19) ?_
     refine .x rfl (unmet rfl rfl rfl g19) ?_
     refine .x rfl (unmet rfl rfl rfl g19) ?_
     refine .x rfl (unmet rfl rfl rfl g19) ?_
     refine .v rfl rfl (O.pickT g19 rfl rfl rfl) ?_
     refine .m rfl rfl rfl rfl ?_
     refine .x rfl (unmet rfl rfl rfl rfl) ?_
     refine .x rfl (unmet rfl rfl rfl rfl) ?_
     refine .x rfl (unmet rfl rfl rfl rfl) ?_
     refine .v rfl rfl (O.pickT rfl rfl rfl rfl) ?_
     refine .nil ?_
     exact toN (Gives.mkR [] (.r rfl rfl (.r rfl rfl (.r rfl rfl (.r rfl rfl (.r rfl rfl (.r rfl rfl (.r rfl rfl (.c rfl (sbb (by first | (simp only [g18, g19, Bool.true_or, Bool.or_true, Bool.false_or, Bool.or_false, Bool.true_and, Bool.and_true, Bool.false_and, Bool.and_false, Bool.not_true, Bool.not_false, cond_true, cond_false]; done) | (repeat (first | rw [g18] | rw [g19])) <;> simp only [Bool.true_or, Bool.or_true, Bool.false_or, Bool.or_false, Bool.true_and, Bool.and_true, Bool.false_and, Bool.and_false, Bool.not_true, Bool.not_false, cond_true, cond_false])) rfl .n)))))))) (.r rfl rfl rfl (.r rfl rfl rfl (.r rfl rfl rfl (.r rfl rfl rfl (.r rfl rfl rfl (.r rfl rfl rfl .n)))))) rfl rfl rfl)
    ·rcases tf t16 with g20 | g20
     ·refine W.pk ?_
      refine .v rfl rfl (O.ldN ty24 rfl rfl rfl) ?_
      refine .v rfl rfl (O.ldN ty24 rfl rfl rfl) ?_
      refine .call (.b t14) [] 0 (lombardref23_Same.ok b15) rfl rfl rfl ca27 rfl rfl (cC (.agg _ _ _ _ (cC (.imm _) (cC (.imm _) (cC (.imm _) (cC (.imm _) (cC (.imm _) (cC (.imm _) (cC (.imm _) (cC (.imm _) (cC (.imm _) (cC (.imm _) (cC (.imm _) .nil)))))))))))) (cC (.agg _ _ _ _ (cC (.imm _) (cC (.imm _) (cC (.imm _) (cC (.imm _) (cC (.imm _) (cC (.imm _) (cC (.imm _) (cC (.imm _) (cC (.imm _) (cC (.imm _) (cC (.imm _) .nil)))))))))))) .nil)) rfl rfl rfl rfl rfl ?_
      refine .v rfl rfl (OpL.unV rfl rfl rfl) ?_
      refine .m rfl rfl rfl rfl ?_
      refine .m rfl (met rfl rfl rfl (notT g18)) rfl rfl ?_
      refine .m rfl (met rfl rfl rfl (notT g18)) rfl rfl ?_
      refine .v rfl (met rfl rfl rfl (notT g18)) (OpL.binI rfl rfl rfl rfl) ?_
      refine .v rfl rfl (O.pickF (notT g18) rfl rfl rfl) ?_
      refine .m rfl rfl rfl rfl ?_
      refine .v rfl (met rfl rfl rfl g19) (O.ldN ty24 rfl rfl rfl) ?_
      refine .v rfl (met rfl rfl rfl g19) (O.ldN ty24 rfl rfl rfl) ?_
      refine .call (.b t16) [] 0 (lombardref23_Same.ok ((if_pos (by first | (simp only [g18, g19, g20, Bool.true_or, Bool.or_true, Bool.false_or, Bool.or_false, Bool.true_and, Bool.and_true, Bool.false_and, Bool.and_false, Bool.not_true, Bool.not_false, cond_true, cond_false]; done) | (repeat (first | rw [g18] | rw [g19] | rw [g20])) <;> simp only [Bool.true_or, Bool.or_true, Bool.false_or, Bool.or_false, Bool.true_and, Bool.and_true, Bool.false_and, Bool.and_false, Bool.not_true, Bool.not_false, cond_true, cond_false])).symm.trans b17)) rfl (met rfl rfl rfl g19) rfl ca27 rfl rfl (cC (.agg _ _ _ _ (cC (.imm _) (cC (.imm _) (cC (.imm _) (cC (.imm _) (cC (.imm _) (cC (.imm _) (cC (.imm _) (cC (.imm _) (cC (.imm _) (cC (.imm _) (cC (.imm _) .nil)))))))))))) (cC (.agg _ _ _ _ (cC (.imm _) (cC (.imm _) (cC (.imm _) (cC (.imm _) (cC (.imm _) (cC (.imm _) (cC (.imm _) (cC (.imm _) (cC (.imm _) (cC (.imm _) (cC (.imm _) .nil)))))))))))) .nil)) rfl rfl rfl rfl rfl ?_
      refine .v rfl (met rfl rfl rfl g19) (OpL.unV rfl rfl rfl) ?_
      refine .v rfl rfl (O.pickF g19 rfl rfl rfl) ?_
      refine .m rfl rfl rfl rfl ?_
      refine .m rfl (met rfl rfl rfl (notT g20)) rfl rfl ?_
      refine .m rfl (met rfl rfl rfl (notT g20)) rfl rfl ?_
      refine .v rfl (met rfl rfl rfl (notT g20)) (OpL.binI rfl rfl rfl rfl) ?_
      refine .v rfl rfl (O.pickF (notT g20) rfl rfl rfl) ?_
      refine .nil ?_
      exact toN (Gives.mkR [] (.r rfl rfl (.r rfl rfl (.r rfl rfl (.r rfl rfl (.r rfl rfl (.r rfl rfl (.r rfl rfl (.c rfl (sbb (by first | (simp only [g18, g19, g20, Bool.true_or, Bool.or_true, Bool.false_or, Bool.or_false, Bool.true_and, Bool.and_true, Bool.false_and, Bool.and_false, Bool.not_true, Bool.not_false, cond_true, cond_false]; done) | (repeat (first | rw [g18] | rw [g19] | rw [g20])) <;> simp only [Bool.true_or, Bool.or_true, Bool.false_or, Bool.or_false, Bool.true_and, Bool.and_true, Bool.false_and, Bool.and_false, Bool.not_true, Bool.not_false, cond_true, cond_false])) rfl .n)))))))) (.r rfl rfl rfl (.r rfl rfl rfl (.r rfl rfl rfl (.r rfl rfl rfl (.r rfl rfl rfl (.r rfl rfl rfl .n)))))) rfl rfl rfl)
     ·refine W.pk ?_
      refine .v rfl rfl (O.ldN ty24 rfl rfl rfl) ?_
      refine .v rfl rfl (O.ldN ty24 rfl rfl rfl) ?_
      refine .call (.b t14) [] 0 (lombardref23_Same.ok b15) rfl rfl rfl ca27 rfl rfl (cC (.agg _ _ _ _ (cC (.imm _) (cC (.imm _) (cC (.imm _) (cC (.imm _) (cC (.imm _) (cC (.imm _) (cC (.imm _) (cC (.imm _) (cC (.imm _) (cC (.imm _) (cC (.imm _) .nil)))))))))))) (cC (.agg _ _ _ _ (cC (.imm _) (cC (.imm _) (cC (.imm _) (cC (.imm _) (cC (.imm _) (cC (.imm _) (cC (.imm _) (cC (.imm _) (cC (.imm _) (cC (.imm _) (cC (.imm _) .nil)))))))))))) .nil)) rfl rfl rfl rfl rfl ?_
      refine .v rfl rfl (OpL.unV rfl rfl rfl) ?_
      refine .m rfl rfl rfl rfl ?_
      refine .m rfl (met rfl rfl rfl (notT g18)) rfl rfl ?_
      refine .m rfl (met rfl rfl rfl (notT g18)) rfl rfl ?_
      refine .v rfl (met rfl rfl rfl (notT g18)) (OpL.binI rfl rfl rfl rfl) ?_
      refine .v rfl rfl (O.pickF (notT g18) rfl rfl rfl) ?_
      refine .m rfl rfl rfl rfl ?_
      refine .v rfl (met rfl rfl rfl g19) (O.ldN ty24 rfl rfl rfl) ?_
      refine .v rfl (met rfl rfl rfl g19) (O.ldN ty24 rfl rfl rfl) ?_
      refine .call (.b t16) [] 0 (lombardref23_Same.ok ((if_pos (by first | (simp only [g18, g19, g20, Bool.true_or, Bool.or_true, Bool.false_or, Bool.or_false, Bool.true_and, Bool.and_true, Bool.false_and, Bool.and_false, Bool.not_true, Bool.not_false, cond_true, cond_false]; done) | (repeat (first | rw [g18] | rw [g19] | rw [g20])) <;> simp only [Bool.true_or, Bool.or_true, Bool.false_or, Bool.or_false, Bool.true_and, Bool.and_true, Bool.false_and, Bool.and_false, Bool.not_true, Bool.not_false, cond_true, cond_false])).symm.trans b17)) rfl (met rfl rfl rfl g19) rfl ca27 rfl rfl (cC (.agg _ _ _ _ (cC (.imm _) (cC (.imm _) (cC (.imm _) (cC (.imm _) (cC (.imm _) (cC (.imm _) (cC (.imm _) (cC (.imm _) (cC (.imm _) (cC (.imm _) (cC (.imm _) .nil)))))))))))) (cC (.agg _ _ _ _ (cC (.imm _) (cC (.imm _) (cC (.imm _) (cC (.imm _) (cC (.imm _) (cC (.imm _) (cC (.imm _) (cC (.imm _) (cC (.imm _) (cC (.imm _) (cC (.imm _) .nil)))))))))))) .nil)) rfl rfl rfl rfl rfl ?_
      refine .v rfl (met rfl rfl rfl g19) (OpL.unV rfl rfl rfl) ?_
      refine .v rfl rfl (O.pickF g19 rfl rfl rfl) ?_
      refine .m rfl rfl rfl rfl ?_
      refine .x rfl (unmet rfl rfl rfl (notF g20)) ?_
      refine .x rfl (unmet rfl rfl rfl (notF g20)) ?_
      refine .x rfl (unmet rfl rfl rfl (notF g20)) ?_
      refine .v rfl rfl (O.pickT (notF g20) rfl rfl rfl) ?_
      refine .nil ?_
      exact toN (Gives.mkR [] (.r rfl rfl (.r rfl rfl (.r rfl rfl (.r rfl rfl (.r rfl rfl (.r rfl rfl (.r rfl rfl (.c rfl (sbb (by first | (simp only [g18, g19, g20, Bool.true_or, Bool.or_true, Bool.false_or, Bool.or_false, Bool.true_and, Bool.and_true, Bool.false_and, Bool.and_false, Bool.not_true, Bool.not_false, cond_true, cond_false]; done) | (repeat (first | rw [g18] | rw [g19] | rw [g20])) <;> simp only [Bool.true_or, Bool.or_true, Bool.false_or, Bool.or_false, Bool.true_and, Bool.and_true, Bool.false_and, Bool.and_false, Bool.not_true, Bool.not_false, cond_true, cond_false])) rfl .n)))))))) (.r rfl rfl rfl (.r rfl rfl rfl (.r rfl rfl rfl (.r rfl rfl rfl (.r rfl rfl rfl (.r rfl rfl rfl .n)))))) rfl rfl rfl)
   ·refine W.pk ?_
    refine .v rfl rfl (O.ldN ty24 rfl rfl rfl) ?_
    refine .v rfl rfl (O.ldN ty24 rfl rfl rfl) ?_
    refine .call (.b t14) [] 0 (lombardref23_Same.ok b15) rfl rfl rfl ca27 rfl rfl (cC (.agg _ _ _ _ (cC (.imm _) (cC (.imm _) (cC (.imm _) (cC (.imm _) (cC (.imm _) (cC (.imm _) (cC (.imm _) (cC (.imm _) (cC (.imm _) (cC (.imm _) (cC (.imm _) .nil)))))))))))) (cC (.agg _ _ _ _ (cC (.imm _) (cC (.imm _) (cC (.imm _) (cC (.imm _) (cC (.imm _) (cC (.imm _) (cC (.imm _) (cC (.imm _) (cC (.imm _) (cC (.imm _) (cC (.imm _) .nil)))))))))))) .nil)) rfl rfl rfl rfl rfl ?_
    refine .v rfl rfl (OpL.unV rfl rfl rfl) ?_
    refine .m rfl rfl rfl rfl ?_
    refine .x rfl (unmet rfl rfl rfl (notF g18)) ?_
    refine .x rfl (unmet rfl rfl rfl (notF g18)) ?_
    refine .x rfl (unmet rfl rfl rfl (notF g18)) ?_
    refine .v rfl rfl (O.pickT (notF g18) rfl rfl rfl) ?_
    refine .m rfl rfl rfl rfl ?_
    refine .x rfl (unmet rfl rfl rfl rfl) ?_
    refine .x rfl (unmet rfl rfl rfl rfl) ?_
    refine .x rfl (unmet rfl rfl rfl rfl) ?_
    refine .x rfl (unmet rfl rfl rfl rfl) ?_
    refine .v rfl rfl (O.pickT rfl rfl rfl rfl) ?_
    refine .m rfl rfl rfl rfl ?_
    refine .x rfl (unmet rfl rfl rfl rfl) ?_
    refine .x rfl (unmet rfl rfl rfl rfl) ?_
    refine .x rfl (unmet rfl rfl rfl rfl) ?_
    refine .v rfl rfl (O.pickT rfl rfl rfl rfl) ?_
    refine .nil ?_
    exact toN (Gives.mkR [] (.r rfl rfl (.r rfl rfl (.r rfl rfl (.r rfl rfl (.r rfl rfl (.r rfl rfl (.r rfl rfl (.c rfl (sbb (by simp only [g18, Bool.true_or, Bool.or_true, Bool.false_or, Bool.or_false, Bool.true_and, Bool.and_true, Bool.false_and, Bool.and_false, Bool.not_true, Bool.not_false, cond_true, cond_false])) rfl .n)))))))) (.r rfl rfl rfl (.r rfl rfl rfl (.r rfl rfl rfl (.r rfl rfl rfl (.r rfl rfl rfl (.r rfl rfl rfl .n)))))) rfl rfl rfl)
end Go.Proofs.Ytknfdnlhadjbaaa
