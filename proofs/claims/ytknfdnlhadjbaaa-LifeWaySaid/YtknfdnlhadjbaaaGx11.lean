/- Shows what functions of the program come to, each as a plain function: written by a program of the author's for this claim. -/
import Derived.Test.YtknfdnlhadjbaaaGx10
namespace Go.Proofs.Ytknfdnlhadjbaaa
open Go Go.Pm
set_option linter.unusedVariables false
set_option linter.unusedSimpArgs false
noncomputable def lombardlaw24_LifeWay.f (x0 : api_Trade) (x1 : api_Reset) (x2 : Int) (x3 : Int) : Option (Bool) :=
  (lombardlaw24_good.f x0).bind fun t1 =>
  if (((!t1) || (x0.Stage != 1)) || (x0.End != 0)) = true then
    (lombardlaw24_awake.f).bind fun t6 =>
    some t6
  else
    if (List.length ([] : List api_Reset) + List.length x0.Resets) * 16 ≤ 140737488355328 then
    (life_Begin.f x0 x0.Start).bind fun t9 =>
    if (t9.2 != 0) = true then
      some false
    else
      (life_Reset.f t9.1 x2 x1).bind fun t12 =>
      (life_Notice.f t12.1 x2 x3).bind fun t14 =>
      if (t14.2 != 0) = true then
        (lombardref23_Resets.f x0.Resets (([] : List api_Reset) ++ x0.Resets)).bind fun t17 =>
        (if t17 = true then lombardlaw24_awake.f else some default).bind fun t19 =>
        some (t17 && t19)
      else
        (life_Close.f t14.1 (IntKind.wrap .i64 (t14.1.End - 1))).bind fun t22 =>
        if (t22.2 != 10) = true then
          some false
        else
          (life_Close.f t14.1 t14.1.End).bind fun t25 =>
          (lombardref24_Owed.f t14.1 t14.1.End).bind fun t27 =>
          (life_Owed.f t25.1 200000).bind fun t29 =>
          (if (((((t25.2 == 0) && (t25.1.Stage == 4)) && (t27.2 == 0)) && (t29.2 == 0)) && (t27.1 == t29.1)) = true then lombardref23_Resets.f x0.Resets (([] : List api_Reset) ++ x0.Resets) else some default).bind fun t31 =>
          (if (((((((t25.2 == 0) && (t25.1.Stage == 4)) && (t27.2 == 0)) && (t29.2 == 0)) && (t27.1 == t29.1)) && t31) && ((t12.2 == 0) == ((List.length t12.1.Resets : Int) == (IntKind.wrap .i64 ((List.length (([] : List api_Reset) ++ x0.Resets) : Int) + 1))))) = true then lombardlaw24_awake.f else some default).bind fun t33 =>
          some ((((((((t25.2 == 0) && (t25.1.Stage == 4)) && (t27.2 == 0)) && (t29.2 == 0)) && (t27.1 == t29.1)) && t31) && ((t12.2 == 0) == ((List.length t12.1.Resets : Int) == (IntKind.wrap .i64 ((List.length (([] : List api_Reset) ++ x0.Resets) : Int) + 1))))) && t33)
    else none
set_option maxRecDepth 100000 in
set_option maxHeartbeats 4000000 in
theorem lombardlaw24_LifeWay.ok {x0 : api_Trade} {x1 : api_Reset} {x2 : Int} {x3 : Int} {r : Bool} (h : lombardlaw24_LifeWay.f x0 x1 x2 x3 = some r) : Pm.Spec prog 8 [.agg [.imm (.val (.int .i64 x0.ID)), .imm (.val (.int .i64 x0.Twin)), .imm (.val (.int .i64 x0.Member)), .imm (.val (.int .i64 x0.Side)), .imm (.val (.int .i64 x0.Basket)), .imm (.val (.int .i64 x0.Amount)), .imm (.val (.int .i64 x0.Start)), .imm (.val (.int .i64 x0.End)), .imm (.row 2 (List.map api_Reset.enc x0.Resets)), .imm (.val (.int .i64 x0.Stage)), .imm (.val (.bool x0.Short))], .agg [.imm (.val (.int .i64 x1.Day)), .imm (.val (.int .i64 x1.Rate))], .imm (.val (.int .i64 x2)), .imm (.val (.int .i64 x3))] (.imm (.val (.bool r))) [none, none, none, none] := by
 unfold lombardlaw24_LifeWay.f at h
 refine Pm.Spec.of_body Try.func8 rfl (by kernel_rfl) (Nat.le_of_ble_eq_true rfl) (Nat.le_of_ble_eq_true rfl) ?_
 refine W.ghost (σ' := (mkSt [(0, some (.agg (api_Trade.av x0))), (1, some (.agg [.i x1.Day, .i x1.Rate])), (2, some (.i x2)), (3, some (.i x3))] [] 1000)) (Gives.entry (.c rfl (.c rfl (.c rfl (.c rfl .n)))) .n) ?_
 refine W.seq ?_
 refine W.pk ?_
 refine .t rfl rfl (O.box rfl rfl rfl rfl rfl) ?_
 refine .t rfl rfl (O.box rfl rfl rfl rfl rfl) ?_
 refine .a rfl rfl rfl rfl ?_
 refine .nil ?_
 refine W.seq ?_
 refine W.seq ?_
 obtain ⟨t1, b2, h⟩ := bnd1 h
 refine W.fork (mkSt [(2, some (.i x2)), (3, some (.i x3)), (4, some (.ptr 1000 0)), (5, some (.ptr 1001 0)), (36, some (.b (((!t1) || (x0.Stage != 1)) || (x0.End != 0))))] [(1000, some (.box [.i x0.ID, .i x0.Twin, .i x0.Member, .i x0.Side, .i x0.Basket, .i x0.Amount, .i x0.Start, .i x0.End, .imm (.row 2 (List.map api_Reset.enc x0.Resets)), .i x0.Stage, .b x0.Short])), (1001, some (.box [.i x1.Day, .i x1.Rate]))] 1002) ?_ ?_
 ·refine W.cond rfl (fun q5 => ?_) (fun q5 => ?_)
  ·have h := ifT q5 h
   refine W.seq ?_
   obtain ⟨t6, b7, h⟩ := bnd1 h
   refine W.pk ?_
   refine .call (.b t6) [] 0 (lombardlaw24_awake.ok b7) rfl rfl rfl ca10 rfl rfl .nil rfl rfl rfl rfl rfl ?_
   refine .a rfl rfl rfl rfl ?_
   refine .nil ?_
   refine W.ret ?_
   cases h
   exact leaves (.inr rfl) rfl (.imm _) (cN (cN (cN (cN .nil)))) rfl rfl
  ·have h := ifF q5 h
   refine W.skip ?_
   refine W.seq ?_
   obtain ⟨c8, h⟩ := chk h
   refine W.pk ?_
   refine .t rfl rfl (O.lit (enc := api_Reset.enc) (l := ([] : List api_Reset)) sl22 rfl rfl rfl rfl rfl rfl rfl rfl rfl) ?_
   refine .v rfl rfl (O.fld fld24_8 rfl rfl rfl) ?_
   refine .v rfl rfl (O.ld (y := .imm (.row 2 (List.map api_Reset.enc x0.Resets))) ty22 rfl rfl rfl) ?_
   refine .t rfl rfl (O.app sl22 api_Reset.ok c8 rfl rfl rfl rfl) ?_
   refine .a rfl rfl rfl rfl ?_
   refine .nil ?_
   refine W.seq ?_
   obtain ⟨t9, b10, h⟩ := bnd1 h
   refine W.pk ?_
   refine .v rfl rfl (O.ldN ty24 rfl rfl rfl) ?_
   refine .v rfl rfl (O.fld fld24_6 rfl rfl rfl) ?_
   refine .v rfl rfl (O.ld (y := .i x0.Start) ty3 rfl rfl rfl) ?_
   refine .call (.tup [.agg (api_Trade.av t9.1), .i t9.2]) [] 0 (life_Begin.ok b10) rfl rfl rfl ca23 rfl rfl (cC (.agg _ _ _ _ (cC (.imm _) (cC (.imm _) (cC (.imm _) (cC (.imm _) (cC (.imm _) (cC (.imm _) (cC (.imm _) (cC (.imm _) (cC (.imm _) (cC (.imm _) (cC (.imm _) .nil)))))))))))) (cC (.imm _) .nil)) rfl rfl rfl rfl rfl ?_
   refine .m rfl rfl rfl rfl ?_
   refine .v rfl rfl (OpL.extract rfl rfl rfl) ?_
   refine .v rfl rfl (OpL.extract rfl rfl rfl) ?_
   refine .t rfl rfl (O.alloc z24 rfl) ?_
   refine .s rfl rfl (O.st ty24 rfl rfl rfl rfl rfl rfl rfl rfl rfl rfl (all' := [.i t9.1.ID, .i t9.1.Twin, .i t9.1.Member, .i t9.1.Side, .i t9.1.Basket, .i t9.1.Amount, .i t9.1.Start, .i t9.1.End, .imm (.row 2 (List.map api_Reset.enc t9.1.Resets)), .i t9.1.Stage, .b t9.1.Short]) rfl) ?_
   refine .a rfl rfl rfl rfl ?_
   refine .nil ?_
   refine W.seq ?_
   refine W.seq ?_
   refine W.pk ?_
   refine .m rfl rfl rfl rfl ?_
   refine .v rfl rfl (OpL.binI rfl rfl rfl rfl) ?_
   refine .nil ?_
   refine W.cond rfl (fun q11 => ?_) (fun q11 => ?_)
   ·have h := ifT q11 h
    refine W.seq ?_
    refine W.pk ?_
    refine .a rfl rfl rfl rfl ?_
    refine .nil ?_
    refine W.ret ?_
    cases h
    exact leaves (.inr rfl) rfl (.imm _) (cN (cN (cN (cN .nil)))) rfl rfl
   ·have h := ifF q11 h
    refine W.skip ?_
    refine W.seq ?_
    obtain ⟨t12, b13, h⟩ := bnd1 h
    refine W.pk ?_
    refine .v rfl rfl (O.ldN ty24 rfl rfl rfl) ?_
    refine .m rfl rfl rfl rfl ?_
    refine .v rfl rfl (O.ldN ty46 rfl rfl rfl) ?_
    refine .call (.tup [.agg (api_Trade.av t12.1), .i t12.2]) [] 0 (life_Reset.ok b13) rfl rfl rfl ca28 rfl rfl (cC (.agg _ _ _ _ (cC (.imm _) (cC (.imm _) (cC (.imm _) (cC (.imm _) (cC (.imm _) (cC (.imm _) (cC (.imm _) (cC (.imm _) (cC (.imm _) (cC (.imm _) (cC (.imm _) .nil)))))))))))) (cC (.imm _) (cC (.agg _ _ _ _ (cC (.imm _) (cC (.imm _) .nil))) .nil))) rfl rfl rfl rfl rfl ?_
    refine .m rfl rfl rfl rfl ?_
    refine .v rfl rfl (OpL.extract rfl rfl rfl) ?_
    refine .v rfl rfl (OpL.extract rfl rfl rfl) ?_
    refine .t rfl rfl (O.alloc z24 rfl) ?_
    refine .s rfl rfl (O.st ty24 rfl rfl rfl rfl rfl rfl rfl rfl rfl rfl (all' := [.i t12.1.ID, .i t12.1.Twin, .i t12.1.Member, .i t12.1.Side, .i t12.1.Basket, .i t12.1.Amount, .i t12.1.Start, .i t12.1.End, .imm (.row 2 (List.map api_Reset.enc t12.1.Resets)), .i t12.1.Stage, .b t12.1.Short]) rfl) ?_
    refine .a rfl rfl rfl rfl ?_
    refine .nil ?_
    refine W.seq ?_
    obtain ⟨t14, b15, h⟩ := bnd1 h
    refine W.pk ?_
    refine .v rfl rfl (O.ldN ty24 rfl rfl rfl) ?_
    refine .m rfl rfl rfl rfl ?_
    refine .m rfl rfl rfl rfl ?_
    refine .call (.tup [.agg (api_Trade.av t14.1), .i t14.2]) [] 0 (life_Notice.ok b15) rfl rfl rfl ca25 rfl rfl (cC (.agg _ _ _ _ (cC (.imm _) (cC (.imm _) (cC (.imm _) (cC (.imm _) (cC (.imm _) (cC (.imm _) (cC (.imm _) (cC (.imm _) (cC (.imm _) (cC (.imm _) (cC (.imm _) .nil)))))))))))) (cC (.imm _) (cC (.imm _) .nil))) rfl rfl rfl rfl rfl ?_
    refine .m rfl rfl rfl rfl ?_
    refine .v rfl rfl (OpL.extract rfl rfl rfl) ?_
    refine .v rfl rfl (OpL.extract rfl rfl rfl) ?_
    refine .t rfl rfl (O.alloc z24 rfl) ?_
    refine .s rfl rfl (O.st ty24 rfl rfl rfl rfl rfl rfl rfl rfl rfl rfl (all' := [.i t14.1.ID, .i t14.1.Twin, .i t14.1.Member, .i t14.1.Side, .i t14.1.Basket, .i t14.1.Amount, .i t14.1.Start, .i t14.1.End, .imm (.row 2 (List.map api_Reset.enc t14.1.Resets)), .i t14.1.Stage, .b t14.1.Short]) rfl) ?_
    refine .a rfl rfl rfl rfl ?_
    refine .nil ?_
    refine W.seq ?_
    refine W.seq ?_
    refine W.pk ?_
    refine .m rfl rfl rfl rfl ?_
    refine .v rfl rfl (OpL.binI rfl rfl rfl rfl) ?_
    refine .nil ?_
    refine W.cond rfl (fun q16 => ?_) (fun q16 => ?_)
    ·have h := ifT q16 h
     refine W.seq ?_
     obtain ⟨t17, b18, h⟩ := bnd1 h
     obtain ⟨t19, b20, h⟩ := bnd1 h
     refine W.fork (mkSt [(8, some (.b (t17 && t19)))] [] 1007) ?_ ?_
     ·refine W.ret ?_
      cases h
      exact leaves (.inr rfl) rfl (.imm _) (cN (cN (cN (cN .nil)))) rfl rfl
     ·clear h
      rcases tf t17 with g21 | g21
      ·refine W.pk ?_
       refine .v rfl rfl (O.fld fld24_8 rfl rfl rfl) ?_
       refine .v rfl rfl (O.ld (y := .imm (.row 2 (List.map api_Reset.enc x0.Resets))) ty22 rfl rfl rfl) ?_
       refine .m rfl rfl rfl rfl ?_
       refine .call (.b t17) [(1003, some (.rows 46 2 (List.map api_Reset.enc (([] : List api_Reset) ++ x0.Resets)) false)), (1003, none)] 0 (lombardref23_Resets.ok b18) rfl rfl rfl ca39 rfl rfl (cC (.imm _) (cC (.own _ _ _ _ rfl) .nil)) rfl rfl rfl rfl rfl ?_
       refine .m rfl rfl rfl rfl ?_
       refine .call (.b t19) [] 0 (lombardlaw24_awake.ok ((if_pos (by simp only [g21, Bool.true_or, Bool.or_true, Bool.false_or, Bool.or_false, Bool.true_and, Bool.and_true, Bool.false_and, Bool.and_false, Bool.not_true, Bool.not_false, cond_true, cond_false])).symm.trans b20)) rfl (met rfl rfl rfl g21) rfl ca10 rfl rfl .nil rfl rfl rfl rfl rfl ?_
       refine .v rfl rfl (O.pickT g21 rfl rfl rfl) ?_
       refine .a rfl rfl rfl rfl ?_
       refine .nil ?_
       exact toN (Gives.mkR [] (.c rfl (sbb (by simp only [g21, Bool.true_or, Bool.or_true, Bool.false_or, Bool.or_false, Bool.true_and, Bool.and_true, Bool.false_and, Bool.and_false, Bool.not_true, Bool.not_false, cond_true, cond_false])) rfl .n) .n rfl rfl rfl)
      ·refine W.pk ?_
       refine .v rfl rfl (O.fld fld24_8 rfl rfl rfl) ?_
       refine .v rfl rfl (O.ld (y := .imm (.row 2 (List.map api_Reset.enc x0.Resets))) ty22 rfl rfl rfl) ?_
       refine .m rfl rfl rfl rfl ?_
       refine .call (.b t17) [(1003, some (.rows 46 2 (List.map api_Reset.enc (([] : List api_Reset) ++ x0.Resets)) false)), (1003, none)] 0 (lombardref23_Resets.ok b18) rfl rfl rfl ca39 rfl rfl (cC (.imm _) (cC (.own _ _ _ _ rfl) .nil)) rfl rfl rfl rfl rfl ?_
       refine .m rfl rfl rfl rfl ?_
       refine .x rfl (unmet rfl rfl rfl g21) ?_
       refine .v rfl rfl (O.pickF g21 rfl rfl rfl) ?_
       refine .a rfl rfl rfl rfl ?_
       refine .nil ?_
       exact toN (Gives.mkR [] (.c rfl (sbb (by simp only [g21, Bool.true_or, Bool.or_true, Bool.false_or, Bool.or_false, Bool.true_and, Bool.and_true, Bool.false_and, Bool.and_false, Bool.not_true, Bool.not_false, cond_true, cond_false])) rfl .n) .n rfl rfl rfl)
    ·have h := ifF q16 h
     refine W.skip ?_
     refine W.seq ?_
     refine W.seq ?_
     obtain ⟨t22, b23, h⟩ := bnd1 h
     refine W.pk ?_
     refine .v rfl rfl (O.ldN ty24 rfl rfl rfl) ?_
     refine .v rfl rfl (O.fld fld24_7 rfl rfl rfl) ?_
     refine .v rfl rfl (O.ld (y := .i t14.1.End) ty3 rfl rfl rfl) ?_
     refine .v rfl rfl (OpL.binI rfl rfl rfl rfl) ?_
     refine .call (.tup [.agg (api_Trade.av t22.1), .i t22.2]) [] 0 (life_Close.ok b23) rfl rfl rfl ca30 rfl rfl (cC (.agg _ _ _ _ (cC (.imm _) (cC (.imm _) (cC (.imm _) (cC (.imm _) (cC (.imm _) (cC (.imm _) (cC (.imm _) (cC (.imm _) (cC (.imm _) (cC (.imm _) (cC (.imm _) .nil)))))))))))) (cC (.imm _) .nil)) rfl rfl rfl rfl rfl ?_
     refine .m rfl rfl rfl rfl ?_
     refine .v rfl rfl (OpL.extract rfl rfl rfl) ?_
     refine .v rfl rfl (OpL.extract rfl rfl rfl) ?_
     refine .t rfl rfl (O.alloc z24 rfl) ?_
     refine .s rfl rfl (O.st ty24 rfl rfl rfl rfl rfl rfl rfl rfl rfl rfl (all' := [.i t22.1.ID, .i t22.1.Twin, .i t22.1.Member, .i t22.1.Side, .i t22.1.Basket, .i t22.1.Amount, .i t22.1.Start, .i t22.1.End, .imm (.row 2 (List.map api_Reset.enc t22.1.Resets)), .i t22.1.Stage, .b t22.1.Short]) rfl) ?_
     refine .a rfl rfl rfl rfl ?_
     refine .nil ?_
     refine W.seq ?_
     refine W.pk ?_
     refine .m rfl rfl rfl rfl ?_
     refine .v rfl rfl (OpL.binI rfl rfl rfl rfl) ?_
     refine .nil ?_
     refine W.cond rfl (fun q24 => ?_) (fun q24 => ?_)
     ·have h := ifT q24 h
      refine W.seq ?_
      refine W.pk ?_
      refine .a rfl rfl rfl rfl ?_
      refine .nil ?_
      refine W.ret ?_
      cases h
      exact leaves (.inr rfl) rfl (.imm _) (cN (cN (cN (cN .nil)))) rfl rfl
     ·have h := ifF q24 h
      refine W.skip ?_
      refine W.seq ?_
      obtain ⟨t25, b26, h⟩ := bnd1 h
      refine W.pk ?_
      refine .v rfl rfl (O.ldN ty24 rfl rfl rfl) ?_
      refine .v rfl rfl (O.fld fld24_7 rfl rfl rfl) ?_
      refine .v rfl rfl (O.ld (y := .i t14.1.End) ty3 rfl rfl rfl) ?_
      refine .call (.tup [.agg (api_Trade.av t25.1), .i t25.2]) [] 0 (life_Close.ok b26) rfl rfl rfl ca30 rfl rfl (cC (.agg _ _ _ _ (cC (.imm _) (cC (.imm _) (cC (.imm _) (cC (.imm _) (cC (.imm _) (cC (.imm _) (cC (.imm _) (cC (.imm _) (cC (.imm _) (cC (.imm _) (cC (.imm _) .nil)))))))))))) (cC (.imm _) .nil)) rfl rfl rfl rfl rfl ?_
      refine .m rfl rfl rfl rfl ?_
      refine .v rfl rfl (OpL.extract rfl rfl rfl) ?_
      refine .v rfl rfl (OpL.extract rfl rfl rfl) ?_
      refine .t rfl rfl (O.alloc z24 rfl) ?_
      refine .s rfl rfl (O.st ty24 rfl rfl rfl rfl rfl rfl rfl rfl rfl rfl (all' := [.i t25.1.ID, .i t25.1.Twin, .i t25.1.Member, .i t25.1.Side, .i t25.1.Basket, .i t25.1.Amount, .i t25.1.Start, .i t25.1.End, .imm (.row 2 (List.map api_Reset.enc t25.1.Resets)), .i t25.1.Stage, .b t25.1.Short]) rfl) ?_
      refine .a rfl rfl rfl rfl ?_
      refine .nil ?_
      refine W.seq ?_
      obtain ⟨t27, b28, h⟩ := bnd1 h
      refine W.pk ?_
      refine .v rfl rfl (O.ldN ty24 rfl rfl rfl) ?_
      refine .v rfl rfl (O.fld fld24_7 rfl rfl rfl) ?_
      refine .v rfl rfl (O.ld (y := .i t14.1.End) ty3 rfl rfl rfl) ?_
      refine .call (.tup [.i t27.1, .i t27.2]) [] 0 (lombardref24_Owed.ok b28) rfl rfl rfl ca15 rfl rfl (cC (.agg _ _ _ _ (cC (.imm _) (cC (.imm _) (cC (.imm _) (cC (.imm _) (cC (.imm _) (cC (.imm _) (cC (.imm _) (cC (.imm _) (cC (.imm _) (cC (.imm _) (cC (.imm _) .nil)))))))))))) (cC (.imm _) .nil)) rfl rfl rfl rfl rfl ?_
      refine .m rfl rfl rfl rfl ?_
      refine .v rfl rfl (OpL.extract rfl rfl rfl) ?_
      refine .v rfl rfl (OpL.extract rfl rfl rfl) ?_
      refine .a rfl rfl rfl rfl ?_
      refine .a rfl rfl rfl rfl ?_
      refine .nil ?_
      refine W.seq ?_
      obtain ⟨t29, b30, h⟩ := bnd1 h
      refine W.pk ?_
      refine .v rfl rfl (O.ldN ty24 rfl rfl rfl) ?_
      refine .call (.tup [.i t29.1, .i t29.2]) [] 0 (life_Owed.ok b30) rfl rfl rfl ca14 rfl rfl (cC (.agg _ _ _ _ (cC (.imm _) (cC (.imm _) (cC (.imm _) (cC (.imm _) (cC (.imm _) (cC (.imm _) (cC (.imm _) (cC (.imm _) (cC (.imm _) (cC (.imm _) (cC (.imm _) .nil)))))))))))) (cC (.imm _) .nil)) rfl rfl rfl rfl rfl ?_
      refine .m rfl rfl rfl rfl ?_
      refine .v rfl rfl (OpL.extract rfl rfl rfl) ?_
      refine .v rfl rfl (OpL.extract rfl rfl rfl) ?_
      refine .a rfl rfl rfl rfl ?_
      refine .a rfl rfl rfl rfl ?_
      refine .nil ?_
      refine W.seq ?_
      obtain ⟨t31, b32, h⟩ := bnd1 h
      obtain ⟨t33, b34, h⟩ := bnd1 h
      refine W.fork (mkSt [(8, some (.b ((((((((t25.2 == 0) && (t25.1.Stage == 4)) && (t27.2 == 0)) && (t29.2 == 0)) && (t27.1 == t29.1)) && t31) && ((t12.2 == 0) == ((List.length t12.1.Resets : Int) == (IntKind.wrap .i64 ((List.length (([] : List api_Reset) ++ x0.Resets) : Int) + 1))))) && t33)))] [] 1009) ?_ ?_
      ·refine W.ret ?_
       cases h
       exact leaves (.inr rfl) rfl (.imm _) (cN (cN (cN (cN .nil)))) rfl rfl
      ·clear h
       rcases tf (t25.2 == 0) with g35 | g35
       ·rcases tf (t25.1.Stage == 4) with g36 | g36
        ·rcases tf (t27.2 == 0) with g37 | g37
         ·rcases tf (t29.2 == 0) with g38 | g38
          ·rcases tf (t27.1 == t29.1) with g39 | g39
           ·rcases tf t31 with g40 | g40
            ·rcases tf ((t12.2 == 0) == ((List.length t12.1.Resets : Int) == (IntKind.wrap .i64 ((List.length (([] : List api_Reset) ++ x0.Resets) : Int) + 1)))) with g41 | g41
             ·refine W.pk ?_
              refine .m rfl rfl rfl rfl ?_
              refine .v rfl rfl (OpL.binI rfl rfl rfl rfl) ?_
              refine .m rfl rfl rfl rfl ?_
              refine .v rfl (met rfl rfl rfl g35) (O.fld fld24_9 rfl rfl rfl) ?_
              refine .v rfl (met rfl rfl rfl g35) (O.ld (y := .i t25.1.Stage) ty3 rfl rfl rfl) ?_
              refine .v rfl (met rfl rfl rfl g35) (OpL.binI rfl rfl rfl rfl) ?_
              refine .v rfl rfl (O.pickT g35 rfl rfl rfl) ?_
              refine .m rfl rfl rfl rfl ?_
              refine .m rfl (met rfl rfl rfl g36) rfl rfl ?_
              refine .v rfl (met rfl rfl rfl g36) (OpL.binI rfl rfl rfl rfl) ?_
              refine .v rfl rfl (O.pickT g36 rfl rfl rfl) ?_
              refine .m rfl rfl rfl rfl ?_
              refine .m rfl (met rfl rfl rfl g37) rfl rfl ?_
              refine .v rfl (met rfl rfl rfl g37) (OpL.binI rfl rfl rfl rfl) ?_
              refine .v rfl rfl (O.pickT g37 rfl rfl rfl) ?_
              refine .m rfl rfl rfl rfl ?_
              refine .m rfl (met rfl rfl rfl g38) rfl rfl ?_
              refine .m rfl (met rfl rfl rfl g38) rfl rfl ?_
              refine .v rfl (met rfl rfl rfl g38) (OpL.binI rfl rfl rfl rfl) ?_
              refine .v rfl rfl (O.pickT g38 rfl rfl rfl) ?_
              refine .m rfl rfl rfl rfl ?_
              refine .v rfl (met rfl rfl rfl g39) (O.fld fld24_8 rfl rfl rfl) ?_
              refine .v rfl (met rfl rfl rfl g39) (O.ld (y := .imm (.row 2 (List.map api_Reset.enc x0.Resets))) ty22 rfl rfl rfl) ?_
              refine .m rfl (met rfl rfl rfl g39) rfl rfl ?_
              refine .call (.b t31) [(1003, some (.rows 46 2 (List.map api_Reset.enc (([] : List api_Reset) ++ x0.Resets)) false)), (1003, none)] 0 (lombardref23_Resets.ok ((if_pos (by first | (simp only [g35, g36, g37, g38, g39, g40, g41, Bool.true_or, Bool.or_true, Bool.false_or, Bool.or_false, Bool.true_and, Bool.and_true, Bool.false_and, Bool.and_false, Bool.not_true, Bool.not_false, cond_true, cond_false]; done) | (repeat (first | rw [g35] | rw [g36] | rw [g37] | rw [g38] | rw [g39] | rw [g40] | rw [g41])) <;> simp only [Bool.true_or, Bool.or_true, Bool.false_or, Bool.or_false, Bool.true_and, Bool.and_true, Bool.false_and, Bool.and_false, Bool.not_true, Bool.not_false, cond_true, cond_false])).symm.trans b32)) rfl (met rfl rfl rfl g39) rfl ca39 rfl rfl (cC (.imm _) (cC (.own _ _ _ _ rfl) .nil)) rfl rfl rfl rfl rfl ?_
              refine .v rfl rfl (O.pickT g39 rfl rfl rfl) ?_
              refine .m rfl rfl rfl rfl ?_
              refine .m rfl (met rfl rfl rfl g40) rfl rfl ?_
              refine .v rfl (met rfl rfl rfl g40) (OpL.binI rfl rfl rfl rfl) ?_
              refine .v rfl (met rfl rfl rfl g40) (O.fld fld24_8 rfl rfl rfl) ?_
              refine .v rfl (met rfl rfl rfl g40) (O.ld (y := .imm (.row 2 (List.map api_Reset.enc t12.1.Resets))) ty22 rfl rfl rfl) ?_
              refine .v rfl (met rfl rfl rfl g40) (O.lenR sl22 rfl rfl) ?_
              refine .m rfl (met rfl rfl rfl g40) rfl rfl ?_
              refine .v rfl (met rfl rfl rfl g40) (O.lenO sl22 rfl rfl rfl) ?_
              refine .v rfl (met rfl rfl rfl g40) (OpL.binI rfl rfl rfl rfl) ?_
              refine .v rfl (met rfl rfl rfl g40) (OpL.binI rfl rfl rfl rfl) ?_
              refine .v rfl (met rfl rfl rfl g40) (OpL.eqB rfl u4 rfl rfl) ?_
              refine .v rfl rfl (O.pickT g40 rfl rfl rfl) ?_
              refine .m rfl rfl rfl rfl ?_
              refine .call (.b t33) [] 0 (lombardlaw24_awake.ok ((if_pos (by first | (simp only [g35, g36, g37, g38, g39, g40, g41, Bool.true_or, Bool.or_true, Bool.false_or, Bool.or_false, Bool.true_and, Bool.and_true, Bool.false_and, Bool.and_false, Bool.not_true, Bool.not_false, cond_true, cond_false]; done) | (repeat (first | rw [g35] | rw [g36] | rw [g37] | rw [g38] | rw [g39] | rw [g40] | rw [g41])) <;> simp only [Bool.true_or, Bool.or_true, Bool.false_or, Bool.or_false, Bool.true_and, Bool.and_true, Bool.false_and, Bool.and_false, Bool.not_true, Bool.not_false, cond_true, cond_false])).symm.trans b34)) rfl (met rfl rfl rfl g41) rfl ca10 rfl rfl .nil rfl rfl rfl rfl rfl ?_
              refine .v rfl rfl (O.pickT g41 rfl rfl rfl) ?_
              refine .a rfl rfl rfl rfl ?_
              refine .nil ?_
              exact toN (Gives.mkR [] (.c rfl (sbb (by first | (simp only [g35, g36, g37, g38, g39, g40, g41, Bool.true_or, Bool.or_true, Bool.false_or, Bool.or_false, Bool.true_and, Bool.and_true, Bool.false_and, Bool.and_false, Bool.not_true, Bool.not_false, cond_true, cond_false]; done) | (repeat (first | rw [g35] | rw [g36] | rw [g37] | rw [g38] | rw [g39] | rw [g40] | rw [g41])) <;> simp only [Bool.true_or, Bool.or_true, Bool.false_or, Bool.or_false, Bool.true_and, Bool.and_true, Bool.false_and, Bool.and_false, Bool.not_true, Bool.not_false, cond_true, cond_false])) rfl .n) .n rfl rfl rfl)
             ·refine W.pk ?_
              refine .m rfl rfl rfl rfl ?_
              refine .v rfl rfl (OpL.binI rfl rfl rfl rfl) ?_
              refine .m rfl rfl rfl rfl ?_
              refine .v rfl (met rfl rfl rfl g35) (O.fld fld24_9 rfl rfl rfl) ?_
              refine .v rfl (met rfl rfl rfl g35) (O.ld (y := .i t25.1.Stage) ty3 rfl rfl rfl) ?_
              refine .v rfl (met rfl rfl rfl g35) (OpL.binI rfl rfl rfl rfl) ?_
              refine .v rfl rfl (O.pickT g35 rfl rfl rfl) ?_
              refine .m rfl rfl rfl rfl ?_
              refine .m rfl (met rfl rfl rfl g36) rfl rfl ?_
              refine .v rfl (met rfl rfl rfl g36) (OpL.binI rfl rfl rfl rfl) ?_
              refine .v rfl rfl (O.pickT g36 rfl rfl rfl) ?_
              refine .m rfl rfl rfl rfl ?_
              refine .m rfl (met rfl rfl rfl g37) rfl rfl ?_
              refine .v rfl (met rfl rfl rfl g37) (OpL.binI rfl rfl rfl rfl) ?_
              refine .v rfl rfl (O.pickT g37 rfl rfl rfl) ?_
              refine .m rfl rfl rfl rfl ?_
              refine .m rfl (met rfl rfl rfl g38) rfl rfl ?_
              refine .m rfl (met rfl rfl rfl g38) rfl rfl ?_
              refine .v rfl (met rfl rfl rfl g38) (OpL.binI rfl rfl rfl rfl) ?_
              refine .v rfl rfl (O.pickT g38 rfl rfl rfl) ?_
              refine .m rfl rfl rfl rfl ?_
              refine .v rfl (met rfl rfl rfl g39) (O.fld fld24_8 rfl rfl rfl) ?_
              refine .v rfl (met rfl rfl rfl g39) (O.ld (y := .imm (.row 2 (List.map api_Reset.enc x0.Resets))) ty22 rfl rfl rfl) ?_
              refine .m rfl (met rfl rfl rfl g39) rfl rfl ?_
              refine .call (.b t31) [(1003, some (.rows 46 2 (List.map api_Reset.enc (([] : List api_Reset) ++ x0.Resets)) false)), (1003, none)] 0 (lombardref23_Resets.ok ((if_pos (by first | (simp only [g35, g36, g37, g38, g39, g40, g41, Bool.true_or, Bool.or_true, Bool.false_or, Bool.or_false, Bool.true_and, Bool.and_true, Bool.false_and, Bool.and_false, Bool.not_true, Bool.not_false, cond_true, cond_false]; done) | (repeat (first | rw [g35] | rw [g36] | rw [g37] | rw [g38] | rw [g39] | rw [g40] | rw [g41])) <;> simp only [Bool.true_or, Bool.or_true, Bool.false_or, Bool.or_false, Bool.true_and, Bool.and_true, Bool.false_and, Bool.and_false, Bool.not_true, Bool.not_false, cond_true, cond_false])).symm.trans b32)) rfl (met rfl rfl rfl g39) rfl ca39 rfl rfl (cC (.imm _) (cC (.own _ _ _ _ rfl) .nil)) rfl rfl rfl rfl rfl ?_
              refine .v rfl rfl (O.pickT g39 rfl rfl rfl) ?_
              refine .m rfl rfl rfl rfl ?_
              refine .m rfl (met rfl rfl rfl g40) rfl rfl ?_
              refine .v rfl (met rfl rfl rfl g40) (OpL.binI rfl rfl rfl rfl) ?_
              refine .v rfl (met rfl rfl rfl g40) (O.fld fld24_8 rfl rfl rfl) ?_
              refine .v rfl (met rfl rfl rfl g40) (O.ld (y := .imm (.row 2 (List.map api_Reset.enc t12.1.Resets))) ty22 rfl rfl rfl) ?_
              refine .v rfl (met rfl rfl rfl g40) (O.lenR sl22 rfl rfl) ?_
              refine .m rfl (met rfl rfl rfl g40) rfl rfl ?_
              refine .v rfl (met rfl rfl rfl g40) (O.lenO sl22 rfl rfl rfl) ?_
              refine .v rfl (met rfl rfl rfl g40) (OpL.binI rfl rfl rfl rfl) ?_
              refine .v rfl (met rfl rfl rfl g40) (OpL.binI rfl rfl rfl rfl) ?_
              refine .v rfl (met rfl rfl rfl g40) (OpL.eqB rfl u4 rfl rfl) ?_
              refine .v rfl rfl (O.pickT g40 rfl rfl rfl) ?_
              refine .m rfl rfl rfl rfl ?_
              refine .x rfl (unmet rfl rfl rfl g41) ?_
              refine .v rfl rfl (O.pickF g41 rfl rfl rfl) ?_
              refine .a rfl rfl rfl rfl ?_
              refine .nil ?_
              exact toN (Gives.mkR [] (.c rfl (sbb (by first | (simp only [g35, g36, g37, g38, g39, g40, g41, Bool.true_or, Bool.or_true, Bool.false_or, Bool.or_false, Bool.true_and, Bool.and_true, Bool.false_and, Bool.and_false, Bool.not_true, Bool.not_false, cond_true, cond_false]; done) | (repeat (first | rw [g35] | rw [g36] | rw [g37] | rw [g38] | rw [g39] | rw [g40] | rw [g41])) <;> simp only [Bool.true_or, Bool.or_true, Bool.false_or, Bool.or_false, Bool.true_and, Bool.and_true, Bool.false_and, Bool.and_false, Bool.not_true, Bool.not_false, cond_true, cond_false])) rfl .n) .n rfl rfl rfl)
            ·refine W.pk ?_
             refine .m rfl rfl rfl rfl ?_
             refine .v rfl rfl (OpL.binI rfl rfl rfl rfl) ?_
             refine .m rfl rfl rfl rfl ?_
             refine .v rfl (met rfl rfl rfl g35) (O.fld fld24_9 rfl rfl rfl) ?_
             refine .v rfl (met rfl rfl rfl g35) (O.ld (y := .i t25.1.Stage) ty3 rfl rfl rfl) ?_
             refine .v rfl (met rfl rfl rfl g35) (OpL.binI rfl rfl rfl rfl) ?_
             refine .v rfl rfl (O.pickT g35 rfl rfl rfl) ?_
             refine .m rfl rfl rfl rfl ?_
             refine .m rfl (met rfl rfl rfl g36) rfl rfl ?_
             refine .v rfl (met rfl rfl rfl g36) (OpL.binI rfl rfl rfl rfl) ?_
             refine .v rfl rfl (O.pickT g36 rfl rfl rfl) ?_
             refine .m rfl rfl rfl rfl ?_
             refine .m rfl (met rfl rfl rfl g37) rfl rfl ?_
             refine .v rfl (met rfl rfl rfl g37) (OpL.binI rfl rfl rfl rfl) ?_
             refine .v rfl rfl (O.pickT g37 rfl rfl rfl) ?_
             refine .m rfl rfl rfl rfl ?_
             refine .m rfl (met rfl rfl rfl g38) rfl rfl ?_
             refine .m rfl (met rfl rfl rfl g38) rfl rfl ?_
             refine .v rfl (met rfl rfl rfl g38) (OpL.binI rfl rfl rfl rfl) ?_
             refine .v rfl rfl (O.pickT g38 rfl rfl rfl) ?_
             refine .m rfl rfl rfl rfl ?_
             refine .v rfl (met rfl rfl rfl g39) (O.fld fld24_8 rfl rfl rfl) ?_
             refine .v rfl (met rfl rfl rfl g39) (O.ld (y := .imm (.row 2 (List.map api_Reset.enc x0.Resets))) ty22 rfl rfl rfl) ?_
             refine .m rfl (met rfl rfl rfl g39) rfl rfl ?_
             refine .call (.b t31) [(1003, some (.rows 46 2 (List.map api_Reset.enc (([] : List api_Reset) ++ x0.Resets)) false)), (1003, none)] 0 (lombardref23_Resets.ok ((if_pos (by first | (simp only [g35, g36, g37, g38, g39, g40, Bool.true_or, Bool.or_true, Bool.false_or, Bool.or_false, Bool.true_and, Bool.and_true, Bool.false_and, Bool.and_false, Bool.not_true, Bool.not_false, cond_true, cond_false]; done) | (repeat (first | rw [g35] | rw [g36] | rw [g37] | rw [g38] | rw [g39] | rw [g40])) <;> simp only [Bool.true_or, Bool.or_true, Bool.false_or, Bool.or_false, Bool.true_and, Bool.and_true, Bool.false_and, Bool.and_false, Bool.not_true, Bool.not_false, cond_true, cond_false])).symm.trans b32)) rfl (met rfl rfl rfl g39) rfl ca39 rfl rfl (cC (.imm _) (cC (.own _ _ _ _ rfl) .nil)) rfl rfl rfl rfl rfl ?_
             refine .v rfl rfl (O.pickT g39 rfl rfl rfl) ?_
             refine .m rfl rfl rfl rfl ?_
             refine .x rfl (unmet rfl rfl rfl g40) ?_
             refine .x rfl (unmet rfl rfl rfl g40) ?_
             refine .x rfl (unmet rfl rfl rfl g40) ?_
             refine .x rfl (unmet rfl rfl rfl g40) ?_
             refine .x rfl (unmet rfl rfl rfl g40) ?_
             refine .x rfl (unmet rfl rfl rfl g40) ?_
             refine .x rfl (unmet rfl rfl rfl g40) ?_
             refine .x rfl (unmet rfl rfl rfl g40) ?_
             refine .x rfl (unmet rfl rfl rfl g40) ?_
             refine .x rfl (unmet rfl rfl rfl g40) ?_
             refine .v rfl rfl (O.pickF g40 rfl rfl rfl) ?_
             refine .m rfl rfl rfl rfl ?_
             refine .x rfl (unmet rfl rfl rfl rfl) ?_
             refine .v rfl rfl (O.pickF rfl rfl rfl rfl) ?_
             refine .a rfl rfl rfl rfl ?_
             refine .nil ?_
             exact toN (Gives.mkR [] (.c rfl (sbb (by first | (simp only [g35, g36, g37, g38, g39, g40, Bool.true_or, Bool.or_true, Bool.false_or, Bool.or_false, Bool.true_and, Bool.and_true, Bool.false_and, Bool.and_false, Bool.not_true, Bool.not_false, cond_true, cond_false]; done) | (repeat (first | rw [g35] | rw [g36] | rw [g37] | rw [g38] | rw [g39] | rw [g40])) <;> simp only [Bool.true_or, Bool.or_true, Bool.false_or, Bool.or_false, Bool.true_and, Bool.and_true, Bool.false_and, Bool.and_false, Bool.not_true, Bool.not_false, cond_true, cond_false])) rfl .n) .n rfl rfl rfl)
           ·refine W.pk ?_
            refine .m rfl rfl rfl rfl ?_
            refine .v rfl rfl (OpL.binI rfl rfl rfl rfl) ?_
            refine .m rfl rfl rfl rfl ?_
            refine .v rfl (met rfl rfl rfl g35) (O.fld fld24_9 rfl rfl rfl) ?_
            refine .v rfl (met rfl rfl rfl g35) (O.ld (y := .i t25.1.Stage) ty3 rfl rfl rfl) ?_
            refine .v rfl (met rfl rfl rfl g35) (OpL.binI rfl rfl rfl rfl) ?_
            refine .v rfl rfl (O.pickT g35 rfl rfl rfl) ?_
            refine .m rfl rfl rfl rfl ?_
            refine .m rfl (met rfl rfl rfl g36) rfl rfl ?_
            refine .v rfl (met rfl rfl rfl g36) (OpL.binI rfl rfl rfl rfl) ?_
            refine .v rfl rfl (O.pickT g36 rfl rfl rfl) ?_
            refine .m rfl rfl rfl rfl ?_
            refine .m rfl (met rfl rfl rfl g37) rfl rfl ?_
            refine .v rfl (met rfl rfl rfl g37) (OpL.binI rfl rfl rfl rfl) ?_
            refine .v rfl rfl (O.pickT g37 rfl rfl rfl) ?_
            refine .m rfl rfl rfl rfl ?_
            refine .m rfl (met rfl rfl rfl g38) rfl rfl ?_
            refine .m rfl (met rfl rfl rfl g38) rfl rfl ?_
            refine .v rfl (met rfl rfl rfl g38) (OpL.binI rfl rfl rfl rfl) ?_
            refine .v rfl rfl (O.pickT g38 rfl rfl rfl) ?_
            refine .m rfl rfl rfl rfl ?_
            refine .x rfl (unmet rfl rfl rfl g39) ?_
            refine .x rfl (unmet rfl rfl rfl g39) ?_
            refine .x rfl (unmet rfl rfl rfl g39) ?_
            refine .x rfl (unmet rfl rfl rfl g39) ?_
            refine .v rfl rfl (O.pickF g39 rfl rfl rfl) ?_
            refine .m rfl rfl rfl rfl ?_
            refine .x rfl (unmet rfl rfl rfl rfl) ?_
            refine .x rfl (unmet rfl rfl rfl rfl) ?_
            refine .x rfl (unmet rfl rfl rfl rfl) ?_
            refine .x rfl (unmet rfl rfl rfl rfl) ?_
            refine .x rfl (unmet rfl rfl rfl rfl) ?_
            refine .x rfl (unmet rfl rfl rfl rfl) ?_
            refine .x rfl (unmet rfl rfl rfl rfl) ?_
            refine .x rfl (unmet rfl rfl rfl rfl) ?_
            refine .x rfl (unmet rfl rfl rfl rfl) ?_
            refine .x rfl (unmet rfl rfl rfl rfl) ?_
            refine .v rfl rfl (O.pickF rfl rfl rfl rfl) ?_
            refine .m rfl rfl rfl rfl ?_
            refine .x rfl (unmet rfl rfl rfl rfl) ?_
            refine .v rfl rfl (O.pickF rfl rfl rfl rfl) ?_
            refine .a rfl rfl rfl rfl ?_
            refine .nil ?_
            exact toN (Gives.mkR [] (.c rfl (sbb (by first | (simp only [g35, g36, g37, g38, g39, Bool.true_or, Bool.or_true, Bool.false_or, Bool.or_false, Bool.true_and, Bool.and_true, Bool.false_and, Bool.and_false, Bool.not_true, Bool.not_false, cond_true, cond_false]; done) | (repeat (first | rw [g35] | rw [g36] | rw [g37] | rw [g38] | rw [g39])) <;> simp only [Bool.true_or, Bool.or_true, Bool.false_or, Bool.or_false, Bool.true_and, Bool.and_true, Bool.false_and, Bool.and_false, Bool.not_true, Bool.not_false, cond_true, cond_false])) rfl .n) .n rfl rfl rfl)
          ·refine W.pk ?_
           refine .m rfl rfl rfl rfl ?_
           refine .v rfl rfl (OpL.binI rfl rfl rfl rfl) ?_
           refine .m rfl rfl rfl rfl ?_
           refine .v rfl (met rfl rfl rfl g35) (O.fld fld24_9 rfl rfl rfl) ?_
           refine .v rfl (met rfl rfl rfl g35) (O.ld (y := .i t25.1.Stage) ty3 rfl rfl rfl) ?_
           refine .v rfl (met rfl rfl rfl g35) (OpL.binI rfl rfl rfl rfl) ?_
           refine .v rfl rfl (O.pickT g35 rfl rfl rfl) ?_
           refine .m rfl rfl rfl rfl ?_
           refine .m rfl (met rfl rfl rfl g36) rfl rfl ?_
           refine .v rfl (met rfl rfl rfl g36) (OpL.binI rfl rfl rfl rfl) ?_
           refine .v rfl rfl (O.pickT g36 rfl rfl rfl) ?_
           refine .m rfl rfl rfl rfl ?_
           refine .m rfl (met rfl rfl rfl g37) rfl rfl ?_
           refine .v rfl (met rfl rfl rfl g37) (OpL.binI rfl rfl rfl rfl) ?_
           refine .v rfl rfl (O.pickT g37 rfl rfl rfl) ?_
           refine .m rfl rfl rfl rfl ?_
           refine .x rfl (unmet rfl rfl rfl g38) ?_
           refine .x rfl (unmet rfl rfl rfl g38) ?_
           refine .x rfl (unmet rfl rfl rfl g38) ?_
           refine .v rfl rfl (O.pickF g38 rfl rfl rfl) ?_
           refine .m rfl rfl rfl rfl ?_
           refine .x rfl (unmet rfl rfl rfl rfl) ?_
           refine .x rfl (unmet rfl rfl rfl rfl) ?_
           refine .x rfl (unmet rfl rfl rfl rfl) ?_
           refine .x rfl (unmet rfl rfl rfl rfl) ?_
           refine .v rfl rfl (O.pickF rfl rfl rfl rfl) ?_
           refine .m rfl rfl rfl rfl ?_
           refine .x rfl (unmet rfl rfl rfl rfl) ?_
           refine .x rfl (unmet rfl rfl rfl rfl) ?_
           refine .x rfl (unmet rfl rfl rfl rfl) ?_
           refine .x rfl (unmet rfl rfl rfl rfl) ?_
           refine .x rfl (unmet rfl rfl rfl rfl) ?_
           refine .x rfl (unmet rfl rfl rfl rfl) ?_
           refine .x rfl (unmet rfl rfl rfl rfl) ?_
           refine .x rfl (unmet rfl rfl rfl rfl) ?_
           refine .x rfl (unmet rfl rfl rfl rfl) ?_
           refine .x rfl (unmet rfl rfl rfl rfl) ?_
           refine .v rfl rfl (O.pickF rfl rfl rfl rfl) ?_
           refine .m rfl rfl rfl rfl ?_
           refine .x rfl (unmet rfl rfl rfl rfl) ?_
           refine .v rfl rfl (O.pickF rfl rfl rfl rfl) ?_
           refine .a rfl rfl rfl rfl ?_
           refine .nil ?_
           exact toN (Gives.mkR [] (.c rfl (sbb (by first | (simp only [g35, g36, g37, g38, Bool.true_or, Bool.or_true, Bool.false_or, Bool.or_false, Bool.true_and, Bool.and_true, Bool.false_and, Bool.and_false, Bool.not_true, Bool.not_false, cond_true, cond_false]; done) | (repeat (first | rw [g35] | rw [g36] | rw [g37] | rw [g38])) <;> simp only [Bool.true_or, Bool.or_true, Bool.false_or, Bool.or_false, Bool.true_and, Bool.and_true, Bool.false_and, Bool.and_false, Bool.not_true, Bool.not_false, cond_true, cond_false])) rfl .n) .n rfl rfl rfl)
         ·refine W.pk ?_
          refine .m rfl rfl rfl rfl ?_
          refine .v rfl rfl (OpL.binI rfl rfl rfl rfl) ?_
          refine .m rfl rfl rfl rfl ?_
          refine .v rfl (met rfl rfl rfl g35) (O.fld fld24_9 rfl rfl rfl) ?_
          refine .v rfl (met rfl rfl rfl g35) (O.ld (y := .i t25.1.Stage) ty3 rfl rfl rfl) ?_
          refine .v rfl (met rfl rfl rfl g35) (OpL.binI rfl rfl rfl rfl) ?_
          refine .v rfl rfl (O.pickT g35 rfl rfl rfl) ?_
          refine .m rfl rfl rfl rfl ?_
          refine .m rfl (met rfl rfl rfl g36) rfl rfl ?_
          refine .v rfl (met rfl rfl rfl g36) (OpL.binI rfl rfl rfl rfl) ?_
          refine .v rfl rfl (O.pickT g36 rfl rfl rfl) ?_
          refine .m rfl rfl rfl rfl ?_
          refine .x rfl (unmet rfl rfl rfl g37) ?_
          refine .x rfl (unmet rfl rfl rfl g37) ?_
          refine .v rfl rfl (O.pickF g37 rfl rfl rfl) ?_
          refine .m rfl rfl rfl rfl ?_
          refine .x rfl (unmet rfl rfl rfl rfl) ?_
          refine .x rfl (unmet rfl rfl rfl rfl) ?_
          refine .x rfl (unmet rfl rfl rfl rfl) ?_
          refine .v rfl rfl (O.pickF rfl rfl rfl rfl) ?_
          refine .m rfl rfl rfl rfl ?_
          refine .x rfl (unmet rfl rfl rfl rfl) ?_
          refine .x rfl (unmet rfl rfl rfl rfl) ?_
          refine .x rfl (unmet rfl rfl rfl rfl) ?_
          refine .x rfl (unmet rfl rfl rfl rfl) ?_
          refine .v rfl rfl (O.pickF rfl rfl rfl rfl) ?_
          refine .m rfl rfl rfl rfl ?_
          refine .x rfl (unmet rfl rfl rfl rfl) ?_
          refine .x rfl (unmet rfl rfl rfl rfl) ?_
          refine .x rfl (unmet rfl rfl rfl rfl) ?_
          refine .x rfl (unmet rfl rfl rfl rfl) ?_
          refine .x rfl (unmet rfl rfl rfl rfl) ?_
          refine .x rfl (unmet rfl rfl rfl rfl) ?_
          refine .x rfl (unmet rfl rfl rfl rfl) ?_
          refine .x rfl (unmet rfl rfl rfl rfl) ?_
          refine .x rfl (unmet rfl rfl rfl rfl) ?_
          refine .x rfl (unmet rfl rfl rfl rfl) ?_
          refine .v rfl rfl (O.pickF rfl rfl rfl rfl) ?_
          refine .m rfl rfl rfl rfl ?_
          refine .x rfl (unmet rfl rfl rfl rfl) ?_
          refine .v rfl rfl (O.pickF rfl rfl rfl rfl) ?_
          refine .a rfl rfl rfl rfl ?_
          refine .nil ?_
          exact toN (Gives.mkR [] (.c rfl (sbb (by first | (simp only [g35, g36, g37, Bool.true_or, Bool.or_true, Bool.false_or, Bool.or_false, Bool.true_and, Bool.and_true, Bool.false_and, Bool.and_false, Bool.not_true, Bool.not_false, cond_true, cond_false]; done) | (repeat (first | rw [g35] | rw [g36] | rw [g37])) <;> simp only [Bool.true_or, Bool.or_true, Bool.false_or, Bool.or_false, Bool.true_and, Bool.and_true, Bool.false_and, Bool.and_false, Bool.not_true, Bool.not_false, cond_true, cond_false])) rfl .n) .n rfl rfl rfl)
        ·refine W.pk ?_
         refine .m rfl rfl rfl rfl ?_
         refine .v rfl rfl (OpL.binI rfl rfl rfl rfl) ?_
         refine .m rfl rfl rfl rfl ?_
         refine .v rfl (met rfl rfl rfl g35) (O.fld fld24_9 rfl rfl rfl) ?_
         refine .v rfl (met rfl rfl rfl g35) (O.ld (y := .i t25.1.Stage) ty3 rfl rfl rfl) ?_
         refine .v rfl (met rfl rfl rfl g35) (OpL.binI rfl rfl rfl rfl) ?_
         refine .v rfl rfl (O.pickT g35 rfl rfl rfl) ?_
         refine .m rfl rfl rfl rfl ?_
         refine .x rfl (unmet rfl rfl rfl g36) ?_
         refine .x rfl (unmet rfl rfl rfl g36) ?_
         refine .v rfl rfl (O.pickF g36 rfl rfl rfl) ?_
         refine .m rfl rfl rfl rfl ?_
         refine .x rfl (unmet rfl rfl rfl rfl) ?_
         refine .x rfl (unmet rfl rfl rfl rfl) ?_
         refine .v rfl rfl (O.pickF rfl rfl rfl rfl) ?_
         refine .m rfl rfl rfl rfl ?_
         refine .x rfl (unmet rfl rfl rfl rfl) ?_
         refine .x rfl (unmet rfl rfl rfl rfl) ?_
         refine .x rfl (unmet rfl rfl rfl rfl) ?_
         refine .v rfl rfl (O.pickF rfl rfl rfl rfl) ?_
         refine .m rfl rfl rfl rfl ?_
         refine .x rfl (unmet rfl rfl rfl rfl) ?_
         refine .x rfl (unmet rfl rfl rfl rfl) ?_
         refine .x rfl (unmet rfl rfl rfl rfl) ?_
         refine .x rfl (unmet rfl rfl rfl rfl) ?_
         refine .v rfl rfl (O.pickF rfl rfl rfl rfl) ?_
         refine .m rfl rfl rfl rfl ?_
         refine .x rfl (unmet rfl rfl rfl rfl) ?_
         refine .x rfl (unmet rfl rfl rfl rfl) ?_
         refine .x rfl (unmet rfl rfl rfl rfl) ?_
         refine .x rfl (unmet rfl rfl rfl rfl) ?_
         refine .x rfl (unmet rfl rfl rfl rfl) ?_
         refine .x rfl (unmet rfl rfl rfl rfl) ?_
         refine .x rfl (unmet rfl rfl rfl rfl) ?_
         refine .x rfl (unmet rfl rfl rfl rfl) ?_
         refine .x rfl (unmet rfl rfl rfl rfl) ?_
         refine .x rfl (unmet rfl rfl rfl rfl) ?_
         refine .v rfl rfl (O.pickF rfl rfl rfl rfl) ?_
         refine .m rfl rfl rfl rfl ?_
         refine .x rfl (unmet rfl rfl rfl rfl) ?_
         refine .v rfl rfl (O.pickF rfl rfl rfl rfl) ?_
         refine .a rfl rfl rfl rfl ?_
         refine .nil ?_
         exact toN (Gives.mkR [] (.c rfl (sbb (by first | (simp only [g35, g36, Bool.true_or, Bool.or_true, Bool.false_or, Bool.or_false, Bool.true_and, Bool.and_true, Bool.false_and, Bool.and_false, Bool.not_true, Bool.not_false, cond_true, cond_false]; done) | (repeat (first | rw [g35] | rw [g36])) <;> simp only [Bool.true_or, Bool.or_true, Bool.false_or, Bool.or_false, Bool.true_and, Bool.and_true, Bool.false_and, Bool.and_false, Bool.not_true, Bool.not_false, cond_true, cond_false])) rfl .n) .n rfl rfl rfl)
       ·refine W.pk ?_
        refine .m rfl rfl rfl rfl ?_
        refine .v rfl rfl (OpL.binI rfl rfl rfl rfl) ?_
        refine .m rfl rfl rfl rfl ?_
        refine .x rfl (unmet rfl rfl rfl g35) ?_
        refine .x rfl (unmet rfl rfl rfl g35) ?_
        refine .x rfl (unmet rfl rfl rfl g35) ?_
        refine .v rfl rfl (O.pickF g35 rfl rfl rfl) ?_
        refine .m rfl rfl rfl rfl ?_
        refine .x rfl (unmet rfl rfl rfl rfl) ?_
        refine .x rfl (unmet rfl rfl rfl rfl) ?_
        refine .v rfl rfl (O.pickF rfl rfl rfl rfl) ?_
        refine .m rfl rfl rfl rfl ?_
        refine .x rfl (unmet rfl rfl rfl rfl) ?_
        refine .x rfl (unmet rfl rfl rfl rfl) ?_
        refine .v rfl rfl (O.pickF rfl rfl rfl rfl) ?_
        refine .m rfl rfl rfl rfl ?_
        refine .x rfl (unmet rfl rfl rfl rfl) ?_
        refine .x rfl (unmet rfl rfl rfl rfl) ?_
        refine .x rfl (unmet rfl rfl rfl rfl) ?_
        refine .v rfl rfl (O.pickF rfl rfl rfl rfl) ?_
        refine .m rfl rfl rfl rfl ?_
        refine .x rfl (unmet rfl rfl rfl rfl) ?_
        refine .x rfl (unmet rfl rfl rfl rfl) ?_
        refine .x rfl (unmet rfl rfl rfl rfl) ?_
        refine .x rfl (unmet rfl rfl rfl rfl) ?_
        refine .v rfl rfl (O.pickF rfl rfl rfl rfl) ?_
        refine .m rfl rfl rfl rfl ?_
        refine .x rfl (unmet rfl rfl rfl rfl) ?_
        refine .x rfl (unmet rfl rfl rfl rfl) ?_
        refine .x rfl (unmet rfl rfl rfl rfl) ?_
        refine .x rfl (unmet rfl rfl rfl rfl) ?_
        refine .x rfl (unmet rfl rfl rfl rfl) ?_
        refine .x rfl (unmet rfl rfl rfl rfl) ?_
        refine .x rfl (unmet rfl rfl rfl rfl) ?_
        refine .x rfl (unmet rfl rfl rfl rfl) ?_
        refine .x rfl (unmet rfl rfl rfl rfl) ?_
        refine .x rfl (unmet rfl rfl rfl rfl) ?_
        refine .v rfl rfl (O.pickF rfl rfl rfl rfl) ?_
        refine .m rfl rfl rfl rfl ?_
        refine .x rfl (unmet rfl rfl rfl rfl) ?_
        refine .v rfl rfl (O.pickF rfl rfl rfl rfl) ?_
        refine .a rfl rfl rfl rfl ?_
        refine .nil ?_
        exact toN (Gives.mkR [] (.c rfl (sbb (by simp only [g35, Bool.true_or, Bool.or_true, Bool.false_or, Bool.or_false, Bool.true_and, Bool.and_true, Bool.false_and, Bool.and_false, Bool.not_true, Bool.not_false, cond_true, cond_false])) rfl .n) .n rfl rfl rfl)
 ·clear h
  rcases tf t1 with g3 | g3
  ·rcases tf (x0.Stage != 1) with g4 | g4
   ·refine W.pk ?_
    refine .v rfl rfl (O.ldN ty24 rfl rfl rfl) ?_
    refine .call (.b t1) [] 0 (lombardlaw24_good.ok b2) rfl rfl rfl ca9 rfl rfl (cC (.agg _ _ _ _ (cC (.imm _) (cC (.imm _) (cC (.imm _) (cC (.imm _) (cC (.imm _) (cC (.imm _) (cC (.imm _) (cC (.imm _) (cC (.imm _) (cC (.imm _) (cC (.imm _) .nil)))))))))))) .nil) rfl rfl rfl rfl rfl ?_
    refine .v rfl rfl (OpL.unV rfl rfl rfl) ?_
    refine .m rfl rfl rfl rfl ?_
    refine .v rfl (met rfl rfl rfl (notT g3)) (O.fld fld24_9 rfl rfl rfl) ?_
    refine .v rfl (met rfl rfl rfl (notT g3)) (O.ld (y := .i x0.Stage) ty3 rfl rfl rfl) ?_
    refine .v rfl (met rfl rfl rfl (notT g3)) (OpL.binI rfl rfl rfl rfl) ?_
    refine .v rfl rfl (O.pickF (notT g3) rfl rfl rfl) ?_
    refine .m rfl rfl rfl rfl ?_
    refine .x rfl (unmet rfl rfl rfl g4) ?_
    refine .x rfl (unmet rfl rfl rfl g4) ?_
    refine .x rfl (unmet rfl rfl rfl g4) ?_
    refine .v rfl rfl (O.pickT g4 rfl rfl rfl) ?_
    refine .nil ?_
    exact toN (Gives.mkR [] (.r rfl rfl (.r rfl rfl (.r rfl rfl (.r rfl rfl (.c rfl (sbb (by first | (simp only [g3, g4, Bool.true_or, Bool.or_true, Bool.false_or, Bool.or_false, Bool.true_and, Bool.and_true, Bool.false_and, Bool.and_false, Bool.not_true, Bool.not_false, cond_true, cond_false]; done) | (repeat (first | rw [g3] | rw [g4])) <;> simp only [Bool.true_or, Bool.or_true, Bool.false_or, Bool.or_false, Bool.true_and, Bool.and_true, Bool.false_and, Bool.and_false, Bool.not_true, Bool.not_false, cond_true, cond_false])) rfl .n))))) (.r rfl rfl rfl (.r rfl rfl rfl .n)) rfl rfl rfl)
   ·refine W.pk ?_
    refine .v rfl rfl (O.ldN ty24 rfl rfl rfl) ?_
    refine .call (.b t1) [] 0 (lombardlaw24_good.ok b2) rfl rfl rfl ca9 rfl rfl (cC (.agg _ _ _ _ (cC (.imm _) (cC (.imm _) (cC (.imm _) (cC (.imm _) (cC (.imm _) (cC (.imm _) (cC (.imm _) (cC (.imm _) (cC (.imm _) (cC (.imm _) (cC (.imm _) .nil)))))))))))) .nil) rfl rfl rfl rfl rfl ?_
    refine .v rfl rfl (OpL.unV rfl rfl rfl) ?_
    refine .m rfl rfl rfl rfl ?_
    refine .v rfl (met rfl rfl rfl (notT g3)) (O.fld fld24_9 rfl rfl rfl) ?_
    refine .v rfl (met rfl rfl rfl (notT g3)) (O.ld (y := .i x0.Stage) ty3 rfl rfl rfl) ?_
    refine .v rfl (met rfl rfl rfl (notT g3)) (OpL.binI rfl rfl rfl rfl) ?_
    refine .v rfl rfl (O.pickF (notT g3) rfl rfl rfl) ?_
    refine .m rfl rfl rfl rfl ?_
    refine .v rfl (met rfl rfl rfl g4) (O.fld fld24_7 rfl rfl rfl) ?_
    refine .v rfl (met rfl rfl rfl g4) (O.ld (y := .i x0.End) ty3 rfl rfl rfl) ?_
    refine .v rfl (met rfl rfl rfl g4) (OpL.binI rfl rfl rfl rfl) ?_
    refine .v rfl rfl (O.pickF g4 rfl rfl rfl) ?_
    refine .nil ?_
    exact toN (Gives.mkR [] (.r rfl rfl (.r rfl rfl (.r rfl rfl (.r rfl rfl (.c rfl (sbb (by first | (simp only [g3, g4, Bool.true_or, Bool.or_true, Bool.false_or, Bool.or_false, Bool.true_and, Bool.and_true, Bool.false_and, Bool.and_false, Bool.not_true, Bool.not_false, cond_true, cond_false]; done) | (repeat (first | rw [g3] | rw [g4])) <;> simp only [Bool.true_or, Bool.or_true, Bool.false_or, Bool.or_false, Bool.true_and, Bool.and_true, Bool.false_and, Bool.and_false, Bool.not_true, Bool.not_false, cond_true, cond_false])) rfl .n))))) (.r rfl rfl rfl (.r rfl rfl rfl .n)) rfl rfl rfl)
  ·refine W.pk ?_
   refine .v rfl rfl (O.ldN ty24 rfl rfl rfl) ?_
   refine .call (.b t1) [] 0 (lombardlaw24_good.ok b2) rfl rfl rfl ca9 rfl rfl (cC (.agg _ _ _ _ (cC (.imm _) (cC (.imm _) (cC (.imm _) (cC (.imm _) (cC (.imm _) (cC (.imm _) (cC (.imm _) (cC (.imm _) (cC (.imm _) (cC (.imm _) (cC (.imm _) .nil)))))))))))) .nil) rfl rfl rfl rfl rfl ?_
   refine .v rfl rfl (OpL.unV rfl rfl rfl) ?_
   refine .m rfl rfl rfl rfl ?_
   refine .x rfl (unmet rfl rfl rfl (notF g3)) ?_
   refine .x rfl (unmet rfl rfl rfl (notF g3)) ?_
   refine .x rfl (unmet rfl rfl rfl (notF g3)) ?_
   refine .v rfl rfl (O.pickT (notF g3) rfl rfl rfl) ?_
   refine .m rfl rfl rfl rfl ?_
   refine .x rfl (unmet rfl rfl rfl rfl) ?_
   refine .x rfl (unmet rfl rfl rfl rfl) ?_
   refine .x rfl (unmet rfl rfl rfl rfl) ?_
   refine .v rfl rfl (O.pickT rfl rfl rfl rfl) ?_
   refine .nil ?_
   exact toN (Gives.mkR [] (.r rfl rfl (.r rfl rfl (.r rfl rfl (.r rfl rfl (.c rfl (sbb (by simp only [g3, Bool.true_or, Bool.or_true, Bool.false_or, Bool.or_false, Bool.true_and, Bool.and_true, Bool.false_and, Bool.and_false, Bool.not_true, Bool.not_false, cond_true, cond_false])) rfl .n))))) (.r rfl rfl rfl (.r rfl rfl rfl .n)) rfl rfl rfl)

noncomputable def life_Fail.f (x0 : api_Trade) : Option (api_Trade × Int) :=
  (life_Over.f x0).bind fun t1 =>
  if ((t1 || (decide (x0.Stage < 1))) || (decide (x0.Stage > 5))) = true then
    some (x0, 8)
  else
    some ((⟨x0.ID, x0.Twin, x0.Member, x0.Side, x0.Basket, x0.Amount, x0.Start, x0.End, x0.Resets, 5, x0.Short⟩ : api_Trade), 0)
set_option maxRecDepth 100000 in
set_option maxHeartbeats 4000000 in
theorem life_Fail.ok {x0 : api_Trade} {r : api_Trade × Int} (h : life_Fail.f x0 = some r) : Pm.Spec prog 32 [.agg [.imm (.val (.int .i64 x0.ID)), .imm (.val (.int .i64 x0.Twin)), .imm (.val (.int .i64 x0.Member)), .imm (.val (.int .i64 x0.Side)), .imm (.val (.int .i64 x0.Basket)), .imm (.val (.int .i64 x0.Amount)), .imm (.val (.int .i64 x0.Start)), .imm (.val (.int .i64 x0.End)), .imm (.row 2 (List.map api_Reset.enc x0.Resets)), .imm (.val (.int .i64 x0.Stage)), .imm (.val (.bool x0.Short))]] (.tup [.agg [.imm (.val (.int .i64 r.1.ID)), .imm (.val (.int .i64 r.1.Twin)), .imm (.val (.int .i64 r.1.Member)), .imm (.val (.int .i64 r.1.Side)), .imm (.val (.int .i64 r.1.Basket)), .imm (.val (.int .i64 r.1.Amount)), .imm (.val (.int .i64 r.1.Start)), .imm (.val (.int .i64 r.1.End)), .imm (.row 2 (List.map api_Reset.enc r.1.Resets)), .imm (.val (.int .i64 r.1.Stage)), .imm (.val (.bool r.1.Short))], .imm (.val (.int .i64 r.2))]) [none] := by
 unfold life_Fail.f at h
 refine Pm.Spec.of_body Try.func32 rfl (by kernel_rfl) (Nat.le_of_ble_eq_true rfl) (Nat.le_of_ble_eq_true rfl) ?_
 refine W.ghost (σ' := (mkSt [(0, some (.agg (api_Trade.av x0)))] [] 1000)) (Gives.entry (.c rfl .n) .n) ?_
 refine W.seq ?_
 refine W.pk ?_
 refine .t rfl rfl (O.box rfl rfl rfl rfl rfl) ?_
 refine .t rfl rfl (O.alloc z24 rfl) ?_
 refine .a rfl rfl rfl rfl ?_
 refine .nil ?_
 refine W.seq ?_
 refine W.seq ?_
 obtain ⟨t1, b2, h⟩ := bnd1 h
 refine W.fork (mkSt [(1, some (.ptr 1000 0)), (2, some (.ptr 1001 0)), (15, some (.b ((t1 || (decide (x0.Stage < 1))) || (decide (x0.Stage > 5)))))] [(1000, some (.box [.i x0.ID, .i x0.Twin, .i x0.Member, .i x0.Side, .i x0.Basket, .i x0.Amount, .i x0.Start, .i x0.End, .imm (.row 2 (List.map api_Reset.enc x0.Resets)), .i x0.Stage, .b x0.Short])), (1001, some (.box [.i 0, .i 0, .i 0, .i 0, .i 0, .i 0, .i 0, .i 0, .imm (.val (.slice none 0 0)), .i 0, .b false]))] 1002) ?_ ?_
 ·refine W.cond rfl (fun q5 => ?_) (fun q5 => ?_)
  ·have h := ifT q5 h
   refine W.seq ?_
   refine W.pk ?_
   refine .v rfl rfl (O.ldN ty24 rfl rfl rfl) ?_
   refine .s rfl rfl (O.st ty24 rfl rfl rfl rfl rfl rfl rfl rfl rfl rfl (all' := [.i x0.ID, .i x0.Twin, .i x0.Member, .i x0.Side, .i x0.Basket, .i x0.Amount, .i x0.Start, .i x0.End, .imm (.row 2 (List.map api_Reset.enc x0.Resets)), .i x0.Stage, .b x0.Short]) rfl) ?_
   refine .a rfl rfl rfl rfl ?_
   refine .nil ?_
   refine W.ret ?_
   cases h
   exact leaves (.inr rfl) rfl (.tup _ _ _ _ (cC (.agg _ _ _ _ (cC (.imm _) (cC (.imm _) (cC (.imm _) (cC (.imm _) (cC (.imm _) (cC (.imm _) (cC (.imm _) (cC (.imm _) (cC (.imm _) (cC (.imm _) (cC (.imm _) .nil)))))))))))) (cC (.imm _) .nil))) (cN .nil) rfl rfl
  ·have h := ifF q5 h
   refine W.skip ?_
   refine W.seq ?_
   refine W.pk ?_
   refine .v rfl rfl (O.fld fld24_9 rfl rfl rfl) ?_
   refine .s rfl rfl (O.st ty3 rfl rfl rfl rfl rfl rfl rfl rfl rfl rfl (all' := [.i x0.ID, .i x0.Twin, .i x0.Member, .i x0.Side, .i x0.Basket, .i x0.Amount, .i x0.Start, .i x0.End, .imm (.row 2 (List.map api_Reset.enc x0.Resets)), .i 5, .b x0.Short]) rfl) ?_
   refine .nil ?_
   refine W.seq ?_
   refine W.pk ?_
   refine .v rfl rfl (O.ldN ty24 rfl rfl rfl) ?_
   refine .s rfl rfl (O.st ty24 rfl rfl rfl rfl rfl rfl rfl rfl rfl rfl (all' := [.i x0.ID, .i x0.Twin, .i x0.Member, .i x0.Side, .i x0.Basket, .i x0.Amount, .i x0.Start, .i x0.End, .imm (.row 2 (List.map api_Reset.enc x0.Resets)), .i 5, .b x0.Short]) rfl) ?_
   refine .a rfl rfl rfl rfl ?_
   refine .nil ?_
   refine W.ret ?_
   cases h
   exact leaves (.inr rfl) rfl (.tup _ _ _ _ (cC (.agg _ _ _ _ (cC (.imm _) (cC (.imm _) (cC (.imm _) (cC (.imm _) (cC (.imm _) (cC (.imm _) (cC (.imm _) (cC (.imm _) (cC (.imm _) (cC (.imm _) (cC (.imm _) .nil)))))))))))) (cC (.imm _) .nil))) (cN .nil) rfl rfl
 ·clear h
  rcases tf t1 with g3 | g3
  ·refine W.pk ?_
   refine .v rfl rfl (O.ldN ty24 rfl rfl rfl) ?_
   refine .call (.b t1) [] 0 (life_Over.ok b2) rfl rfl rfl ca37 rfl rfl (cC (.agg _ _ _ _ (cC (.imm _) (cC (.imm _) (cC (.imm _) (cC (.imm _) (cC (.imm _) (cC (.imm _) (cC (.imm _) (cC (.imm _) (cC (.imm _) (cC (.imm _) (cC (.imm _) .nil)))))))))))) .nil) rfl rfl rfl rfl rfl ?_
   refine .m rfl rfl rfl rfl ?_
   refine .x rfl (unmet rfl rfl rfl g3) ?_
   refine .x rfl (unmet rfl rfl rfl g3) ?_
   refine .x rfl (unmet rfl rfl rfl g3) ?_
   refine .v rfl rfl (O.pickT g3 rfl rfl rfl) ?_
   refine .m rfl rfl rfl rfl ?_
   refine .x rfl (unmet rfl rfl rfl rfl) ?_
   refine .x rfl (unmet rfl rfl rfl rfl) ?_
   refine .x rfl (unmet rfl rfl rfl rfl) ?_
   refine .v rfl rfl (O.pickT rfl rfl rfl rfl) ?_
   refine .nil ?_
   exact toN (Gives.mkR [] (.r rfl rfl (.r rfl rfl (.c rfl (sbb (by simp only [g3, Bool.true_or, Bool.or_true, Bool.false_or, Bool.or_false, Bool.true_and, Bool.and_true, Bool.false_and, Bool.and_false, Bool.not_true, Bool.not_false, cond_true, cond_false])) rfl .n))) (.r rfl rfl rfl (.r rfl rfl rfl .n)) rfl rfl rfl)
  ·rcases tf (decide (x0.Stage < 1)) with g4 | g4
   ·refine W.pk ?_
    refine .v rfl rfl (O.ldN ty24 rfl rfl rfl) ?_
    refine .call (.b t1) [] 0 (life_Over.ok b2) rfl rfl rfl ca37 rfl rfl (cC (.agg _ _ _ _ (cC (.imm _) (cC (.imm _) (cC (.imm _) (cC (.imm _) (cC (.imm _) (cC (.imm _) (cC (.imm _) (cC (.imm _) (cC (.imm _) (cC (.imm _) (cC (.imm _) .nil)))))))))))) .nil) rfl rfl rfl rfl rfl ?_
    refine .m rfl rfl rfl rfl ?_
    refine .v rfl (met rfl rfl rfl g3) (O.fld fld24_9 rfl rfl rfl) ?_
    refine .v rfl (met rfl rfl rfl g3) (O.ld (y := .i x0.Stage) ty3 rfl rfl rfl) ?_
    refine .v rfl (met rfl rfl rfl g3) (OpL.binI rfl rfl rfl rfl) ?_
    refine .v rfl rfl (O.pickF g3 rfl rfl rfl) ?_
    refine .m rfl rfl rfl rfl ?_
    refine .x rfl (unmet rfl rfl rfl g4) ?_
    refine .x rfl (unmet rfl rfl rfl g4) ?_
    refine .x rfl (unmet rfl rfl rfl g4) ?_
    refine .v rfl rfl (O.pickT g4 rfl rfl rfl) ?_
    refine .nil ?_
    exact toN (Gives.mkR [] (.r rfl rfl (.r rfl rfl (.c rfl (sbb (by first | (simp only [g3, g4, Bool.true_or, Bool.or_true, Bool.false_or, Bool.or_false, Bool.true_and, Bool.and_true, Bool.false_and, Bool.and_false, Bool.not_true, Bool.not_false, cond_true, cond_false]; done) | (repeat (first | rw [g3] | rw [g4])) <;> simp only [Bool.true_or, Bool.or_true, Bool.false_or, Bool.or_false, Bool.true_and, Bool.and_true, Bool.false_and, Bool.and_false, Bool.not_true, Bool.not_false, cond_true, cond_false])) rfl .n))) (.r rfl rfl rfl (.r rfl rfl rfl .n)) rfl rfl rfl)
   ·refine W.pk ?_
    refine .v rfl rfl (O.ldN ty24 rfl rfl rfl) ?_
    refine .call (.b t1) [] 0 (life_Over.ok b2) rfl rfl rfl ca37 rfl rfl (cC (.agg _ _ _ _ (cC (.imm _) (cC (.imm _) (cC (.imm _) (cC (.imm _) (cC (.imm _) (cC (.imm _) (cC (.imm _) (cC (.imm _) (cC (.imm _) (cC (.imm _) (cC (.imm _) .nil)))))))))))) .nil) rfl rfl rfl rfl rfl ?_
    refine .m rfl rfl rfl rfl ?_
    refine .v rfl (met rfl rfl rfl g3) (O.fld fld24_9 rfl rfl rfl) ?_
    refine .v rfl (met rfl rfl rfl g3) (O.ld (y := .i x0.Stage) ty3 rfl rfl rfl) ?_
    refine .v rfl (met rfl rfl rfl g3) (OpL.binI rfl rfl rfl rfl) ?_
    refine .v rfl rfl (O.pickF g3 rfl rfl rfl) ?_
    refine .m rfl rfl rfl rfl ?_
    refine .v rfl (met rfl rfl rfl g4) (O.fld fld24_9 rfl rfl rfl) ?_
    refine .v rfl (met rfl rfl rfl g4) (O.ld (y := .i x0.Stage) ty3 rfl rfl rfl) ?_
    refine .v rfl (met rfl rfl rfl g4) (OpL.binI rfl rfl rfl rfl) ?_
    refine .v rfl rfl (O.pickF g4 rfl rfl rfl) ?_
    refine .nil ?_
    exact toN (Gives.mkR [] (.r rfl rfl (.r rfl rfl (.c rfl (sbb (by first | (simp only [g3, g4, Bool.true_or, Bool.or_true, Bool.false_or, Bool.or_false, Bool.true_and, Bool.and_true, Bool.false_and, Bool.and_false, Bool.not_true, Bool.not_false, cond_true, cond_false]; done) | (repeat (first | rw [g3] | rw [g4])) <;> simp only [Bool.true_or, Bool.or_true, Bool.false_or, Bool.or_false, Bool.true_and, Bool.and_true, Bool.false_and, Bool.and_false, Bool.not_true, Bool.not_false, cond_true, cond_false])) rfl .n))) (.r rfl rfl rfl (.r rfl rfl rfl .n)) rfl rfl rfl)
end Go.Proofs.Ytknfdnlhadjbaaa
