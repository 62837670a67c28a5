/- Shows what functions of the program come to, each as a plain function: written by a program of the author's for this claim. -/
import Derived.Test.YtknfdnlhadjbaaaGx7
namespace Go.Proofs.Ytknfdnlhadjbaaa
open Go Go.Pm
set_option linter.unusedVariables false
set_option linter.unusedSimpArgs false
noncomputable def lombardlaw24_LifeOver.f (x0 : api_Trade) (x1 : Int) (x2 : Int) (x3 : api_Reset) : Option (Bool) :=
  (lombardlaw24_good.f x0).bind fun t1 =>
  if ((!t1) || (decide (x0.Stage < 4))) = true then
    (lombardlaw24_awake.f).bind fun t5 =>
    some t5
  else
    (life_Begin.f x0 x1).bind fun t7 =>
    (life_Notice.f x0 x1 x2).bind fun t9 =>
    (life_Reset.f x0 x1 x3).bind fun t11 =>
    (life_Close.f x0 x1).bind fun t13 =>
    (life_Fail.f x0).bind fun t15 =>
    (if (((((t7.2 == 8) && (t9.2 == t7.2)) && (t11.2 == t7.2)) && (t13.2 == t7.2)) && (t15.2 == t7.2)) = true then lombardref23_Same.f t7.1 x0 else some default).bind fun t17 =>
    (if ((((((t7.2 == 8) && (t9.2 == t7.2)) && (t11.2 == t7.2)) && (t13.2 == t7.2)) && (t15.2 == t7.2)) && t17) = true then lombardref23_Same.f t9.1 x0 else some default).bind fun t19 =>
    (if (((((((t7.2 == 8) && (t9.2 == t7.2)) && (t11.2 == t7.2)) && (t13.2 == t7.2)) && (t15.2 == t7.2)) && t17) && t19) = true then lombardref23_Same.f t11.1 x0 else some default).bind fun t21 =>
    (if ((((((((t7.2 == 8) && (t9.2 == t7.2)) && (t11.2 == t7.2)) && (t13.2 == t7.2)) && (t15.2 == t7.2)) && t17) && t19) && t21) = true then lombardref23_Same.f t13.1 x0 else some default).bind fun t23 =>
    (if (((((((((t7.2 == 8) && (t9.2 == t7.2)) && (t11.2 == t7.2)) && (t13.2 == t7.2)) && (t15.2 == t7.2)) && t17) && t19) && t21) && t23) = true then lombardref23_Same.f t15.1 x0 else some default).bind fun t25 =>
    (if ((((((((((t7.2 == 8) && (t9.2 == t7.2)) && (t11.2 == t7.2)) && (t13.2 == t7.2)) && (t15.2 == t7.2)) && t17) && t19) && t21) && t23) && t25) = true then lombardlaw24_awake.f else some default).bind fun t27 =>
    some (((((((((((t7.2 == 8) && (t9.2 == t7.2)) && (t11.2 == t7.2)) && (t13.2 == t7.2)) && (t15.2 == t7.2)) && t17) && t19) && t21) && t23) && t25) && t27)
set_option maxRecDepth 100000 in
set_option maxHeartbeats 4000000 in
theorem lombardlaw24_LifeOver.ok {x0 : api_Trade} {x1 : Int} {x2 : Int} {x3 : api_Reset} {r : Bool} (h : lombardlaw24_LifeOver.f x0 x1 x2 x3 = some r) : Pm.Spec prog 7 [.agg [.imm (.val (.int .i64 x0.ID)), .imm (.val (.int .i64 x0.Twin)), .imm (.val (.int .i64 x0.Member)), .imm (.val (.int .i64 x0.Side)), .imm (.val (.int .i64 x0.Basket)), .imm (.val (.int .i64 x0.Amount)), .imm (.val (.int .i64 x0.Start)), .imm (.val (.int .i64 x0.End)), .imm (.row 2 (List.map api_Reset.enc x0.Resets)), .imm (.val (.int .i64 x0.Stage)), .imm (.val (.bool x0.Short))], .imm (.val (.int .i64 x1)), .imm (.val (.int .i64 x2)), .agg [.imm (.val (.int .i64 x3.Day)), .imm (.val (.int .i64 x3.Rate))]] (.imm (.val (.bool r))) [none, none, none, none] := by
 unfold lombardlaw24_LifeOver.f at h
 refine Pm.Spec.of_body Try.func7 rfl (by kernel_rfl) (Nat.le_of_ble_eq_true rfl) (Nat.le_of_ble_eq_true rfl) ?_
 refine W.ghost (σ' := (mkSt [(0, some (.agg (api_Trade.av x0))), (1, some (.i x1)), (2, some (.i x2)), (3, some (.agg [.i x3.Day, .i x3.Rate]))] [] 1000)) (Gives.entry (.c rfl (.c rfl (.c rfl (.c rfl .n)))) .n) ?_
 refine W.seq ?_
 refine W.pk ?_
 refine .t rfl rfl (O.box rfl rfl rfl rfl rfl) ?_
 refine .t rfl rfl (O.box rfl rfl rfl rfl rfl) ?_
 refine .a rfl rfl rfl rfl ?_
 refine .nil ?_
 refine W.seq ?_
 refine W.seq ?_
 obtain ⟨t1, b2, h⟩ := bnd1 h
 refine W.fork (mkSt [(1, some (.i x1)), (2, some (.i x2)), (4, some (.ptr 1000 0)), (7, some (.ptr 1001 0)), (26, some (.b ((!t1) || (decide (x0.Stage < 4)))))] [(1000, some (.box [.i x0.ID, .i x0.Twin, .i x0.Member, .i x0.Side, .i x0.Basket, .i x0.Amount, .i x0.Start, .i x0.End, .imm (.row 2 (List.map api_Reset.enc x0.Resets)), .i x0.Stage, .b x0.Short])), (1001, some (.box [.i x3.Day, .i x3.Rate]))] 1002) ?_ ?_
 ·refine W.cond rfl (fun q4 => ?_) (fun q4 => ?_)
  ·have h := ifT q4 h
   refine W.seq ?_
   obtain ⟨t5, b6, h⟩ := bnd1 h
   refine W.pk ?_
   refine .call (.b t5) [] 0 (lombardlaw24_awake.ok b6) rfl rfl rfl ca10 rfl rfl .nil rfl rfl rfl rfl rfl ?_
   refine .a rfl rfl rfl rfl ?_
   refine .nil ?_
   refine W.ret ?_
   cases h
   exact leaves (.inr rfl) rfl (.imm _) (cN (cN (cN (cN .nil)))) rfl rfl
  ·have h := ifF q4 h
   refine W.skip ?_
   refine W.seq ?_
   obtain ⟨t7, b8, h⟩ := bnd1 h
   refine W.pk ?_
   refine .v rfl rfl (O.ldN ty24 rfl rfl rfl) ?_
   refine .m rfl rfl rfl rfl ?_
   refine .call (.tup [.agg (api_Trade.av t7.1), .i t7.2]) [] 0 (life_Begin.ok b8) rfl rfl rfl ca23 rfl rfl (cC (.agg _ _ _ _ (cC (.imm _) (cC (.imm _) (cC (.imm _) (cC (.imm _) (cC (.imm _) (cC (.imm _) (cC (.imm _) (cC (.imm _) (cC (.imm _) (cC (.imm _) (cC (.imm _) .nil)))))))))))) (cC (.imm _) .nil)) rfl rfl rfl rfl rfl ?_
   refine .m rfl rfl rfl rfl ?_
   refine .v rfl rfl (OpL.extract rfl rfl rfl) ?_
   refine .v rfl rfl (OpL.extract rfl rfl rfl) ?_
   refine .t rfl rfl (O.alloc z24 rfl) ?_
   refine .s rfl rfl (O.st ty24 rfl rfl rfl rfl rfl rfl rfl rfl rfl rfl (all' := [.i t7.1.ID, .i t7.1.Twin, .i t7.1.Member, .i t7.1.Side, .i t7.1.Basket, .i t7.1.Amount, .i t7.1.Start, .i t7.1.End, .imm (.row 2 (List.map api_Reset.enc t7.1.Resets)), .i t7.1.Stage, .b t7.1.Short]) rfl) ?_
   refine .a rfl rfl rfl rfl ?_
   refine .nil ?_
   refine W.seq ?_
   obtain ⟨t9, b10, h⟩ := bnd1 h
   refine W.pk ?_
   refine .v rfl rfl (O.ldN ty24 rfl rfl rfl) ?_
   refine .m rfl rfl rfl rfl ?_
   refine .m rfl rfl rfl rfl ?_
   refine .call (.tup [.agg (api_Trade.av t9.1), .i t9.2]) [] 0 (life_Notice.ok b10) rfl rfl rfl ca25 rfl rfl (cC (.agg _ _ _ _ (cC (.imm _) (cC (.imm _) (cC (.imm _) (cC (.imm _) (cC (.imm _) (cC (.imm _) (cC (.imm _) (cC (.imm _) (cC (.imm _) (cC (.imm _) (cC (.imm _) .nil)))))))))))) (cC (.imm _) (cC (.imm _) .nil))) rfl rfl rfl rfl rfl ?_
   refine .m rfl rfl rfl rfl ?_
   refine .v rfl rfl (OpL.extract rfl rfl rfl) ?_
   refine .v rfl rfl (OpL.extract rfl rfl rfl) ?_
   refine .t rfl rfl (O.alloc z24 rfl) ?_
   refine .s rfl rfl (O.st ty24 rfl rfl rfl rfl rfl rfl rfl rfl rfl rfl (all' := [.i t9.1.ID, .i t9.1.Twin, .i t9.1.Member, .i t9.1.Side, .i t9.1.Basket, .i t9.1.Amount, .i t9.1.Start, .i t9.1.End, .imm (.row 2 (List.map api_Reset.enc t9.1.Resets)), .i t9.1.Stage, .b t9.1.Short]) rfl) ?_
   refine .a rfl rfl rfl rfl ?_
   refine .nil ?_
   refine W.seq ?_
   obtain ⟨t11, b12, h⟩ := bnd1 h
   refine W.pk ?_
   refine .v rfl rfl (O.ldN ty24 rfl rfl rfl) ?_
   refine .m rfl rfl rfl rfl ?_
   refine .v rfl rfl (O.ldN ty46 rfl rfl rfl) ?_
   refine .call (.tup [.agg (api_Trade.av t11.1), .i t11.2]) [] 0 (life_Reset.ok b12) rfl rfl rfl ca28 rfl rfl (cC (.agg _ _ _ _ (cC (.imm _) (cC (.imm _) (cC (.imm _) (cC (.imm _) (cC (.imm _) (cC (.imm _) (cC (.imm _) (cC (.imm _) (cC (.imm _) (cC (.imm _) (cC (.imm _) .nil)))))))))))) (cC (.imm _) (cC (.agg _ _ _ _ (cC (.imm _) (cC (.imm _) .nil))) .nil))) rfl rfl rfl rfl rfl ?_
   refine .m rfl rfl rfl rfl ?_
   refine .v rfl rfl (OpL.extract rfl rfl rfl) ?_
   refine .v rfl rfl (OpL.extract rfl rfl rfl) ?_
   refine .t rfl rfl (O.alloc z24 rfl) ?_
   refine .s rfl rfl (O.st ty24 rfl rfl rfl rfl rfl rfl rfl rfl rfl rfl (all' := [.i t11.1.ID, .i t11.1.Twin, .i t11.1.Member, .i t11.1.Side, .i t11.1.Basket, .i t11.1.Amount, .i t11.1.Start, .i t11.1.End, .imm (.row 2 (List.map api_Reset.enc t11.1.Resets)), .i t11.1.Stage, .b t11.1.Short]) rfl) ?_
   refine .a rfl rfl rfl rfl ?_
   refine .nil ?_
   refine W.seq ?_
   obtain ⟨t13, b14, h⟩ := bnd1 h
   refine W.pk ?_
   refine .v rfl rfl (O.ldN ty24 rfl rfl rfl) ?_
   refine .m rfl rfl rfl rfl ?_
   refine .call (.tup [.agg (api_Trade.av t13.1), .i t13.2]) [] 0 (life_Close.ok b14) rfl rfl rfl ca30 rfl rfl (cC (.agg _ _ _ _ (cC (.imm _) (cC (.imm _) (cC (.imm _) (cC (.imm _) (cC (.imm _) (cC (.imm _) (cC (.imm _) (cC (.imm _) (cC (.imm _) (cC (.imm _) (cC (.imm _) .nil)))))))))))) (cC (.imm _) .nil)) rfl rfl rfl rfl rfl ?_
   refine .m rfl rfl rfl rfl ?_
   refine .v rfl rfl (OpL.extract rfl rfl rfl) ?_
   refine .v rfl rfl (OpL.extract rfl rfl rfl) ?_
   refine .t rfl rfl (O.alloc z24 rfl) ?_
   refine .s rfl rfl (O.st ty24 rfl rfl rfl rfl rfl rfl rfl rfl rfl rfl (all' := [.i t13.1.ID, .i t13.1.Twin, .i t13.1.Member, .i t13.1.Side, .i t13.1.Basket, .i t13.1.Amount, .i t13.1.Start, .i t13.1.End, .imm (.row 2 (List.map api_Reset.enc t13.1.Resets)), .i t13.1.Stage, .b t13.1.Short]) rfl) ?_
   refine .a rfl rfl rfl rfl ?_
   refine .nil ?_
   refine W.seq ?_
   obtain ⟨t15, b16, h⟩ := bnd1 h
   refine W.pk ?_
   refine .v rfl rfl (O.ldN ty24 rfl rfl rfl) ?_
   refine .call (.tup [.agg (api_Trade.av t15.1), .i t15.2]) [] 0 (life_Fail.ok b16) rfl rfl rfl ca32 rfl rfl (cC (.agg _ _ _ _ (cC (.imm _) (cC (.imm _) (cC (.imm _) (cC (.imm _) (cC (.imm _) (cC (.imm _) (cC (.imm _) (cC (.imm _) (cC (.imm _) (cC (.imm _) (cC (.imm _) .nil)))))))))))) .nil) rfl rfl rfl rfl rfl ?_
   refine .m rfl rfl rfl rfl ?_
   refine .v rfl rfl (OpL.extract rfl rfl rfl) ?_
   refine .v rfl rfl (OpL.extract rfl rfl rfl) ?_
   refine .t rfl rfl (O.alloc z24 rfl) ?_
   refine .s rfl rfl (O.st ty24 rfl rfl rfl rfl rfl rfl rfl rfl rfl rfl (all' := [.i t15.1.ID, .i t15.1.Twin, .i t15.1.Member, .i t15.1.Side, .i t15.1.Basket, .i t15.1.Amount, .i t15.1.Start, .i t15.1.End, .imm (.row 2 (List.map api_Reset.enc t15.1.Resets)), .i t15.1.Stage, .b t15.1.Short]) rfl) ?_
   refine .a rfl rfl rfl rfl ?_
   refine .nil ?_
   refine W.seq ?_
   obtain ⟨t17, b18, h⟩ := bnd1 h
   obtain ⟨t19, b20, h⟩ := bnd1 h
   obtain ⟨t21, b22, h⟩ := bnd1 h
   obtain ⟨t23, b24, h⟩ := bnd1 h
   obtain ⟨t25, b26, h⟩ := bnd1 h
   obtain ⟨t27, b28, h⟩ := bnd1 h
   refine W.fork (mkSt [(8, some (.b (((((((((((t7.2 == 8) && (t9.2 == t7.2)) && (t11.2 == t7.2)) && (t13.2 == t7.2)) && (t15.2 == t7.2)) && t17) && t19) && t21) && t23) && t25) && t27)))] [] 1007) ?_ ?_
   ·refine W.ret ?_
    cases h
    exact leaves (.inr rfl) rfl (.imm _) (cN (cN (cN (cN .nil)))) rfl rfl
   ·clear h
    rcases tf (t7.2 == 8) with g29 | g29
    ·rcases tf (t9.2 == t7.2) with g30 | g30
     ·rcases tf (t11.2 == t7.2) with g31 | g31
      ·rcases tf (t13.2 == t7.2) with g32 | g32
       ·rcases tf (t15.2 == t7.2) with g33 | g33
        ·rcases tf t17 with g34 | g34
         ·rcases tf t19 with g35 | g35
          ·rcases tf t21 with g36 | g36
           ·rcases tf t23 with g37 | g37
            ·rcases tf t25 with g38 | g38
             ·refine W.pk ?_
              refine .m rfl rfl rfl rfl ?_
              refine .v rfl rfl (OpL.binI rfl rfl rfl rfl) ?_
              refine .m rfl rfl rfl rfl ?_
              refine .m rfl (met rfl rfl rfl g29) rfl rfl ?_
              refine .m rfl (met rfl rfl rfl g29) rfl rfl ?_
              refine .v rfl (met rfl rfl rfl g29) (OpL.binI rfl rfl rfl rfl) ?_
              refine .v rfl rfl (O.pickT g29 rfl rfl rfl) ?_
              refine .m rfl rfl rfl rfl ?_
              refine .m rfl (met rfl rfl rfl g30) rfl rfl ?_
              refine .m rfl (met rfl rfl rfl g30) rfl rfl ?_
              refine .v rfl (met rfl rfl rfl g30) (OpL.binI rfl rfl rfl rfl) ?_
              refine .v rfl rfl (O.pickT g30 rfl rfl rfl) ?_
              refine .m rfl rfl rfl rfl ?_
              refine .m rfl (met rfl rfl rfl g31) rfl rfl ?_
              refine .m rfl (met rfl rfl rfl g31) rfl rfl ?_
              refine .v rfl (met rfl rfl rfl g31) (OpL.binI rfl rfl rfl rfl) ?_
              refine .v rfl rfl (O.pickT g31 rfl rfl rfl) ?_
              refine .m rfl rfl rfl rfl ?_
              refine .m rfl (met rfl rfl rfl g32) rfl rfl ?_
              refine .m rfl (met rfl rfl rfl g32) rfl rfl ?_
              refine .v rfl (met rfl rfl rfl g32) (OpL.binI rfl rfl rfl rfl) ?_
              refine .v rfl rfl (O.pickT g32 rfl rfl rfl) ?_
              refine .m rfl rfl rfl rfl ?_
              refine .v rfl (met rfl rfl rfl g33) (O.ldN ty24 rfl rfl rfl) ?_
              refine .v rfl (met rfl rfl rfl g33) (O.ldN ty24 rfl rfl rfl) ?_
              refine .call (.b t17) [] 0 (lombardref23_Same.ok ((if_pos (by first | (simp only [g29, g30, g31, g32, g33, g34, g35, g36, g37, g38, Bool.true_or, Bool.or_true, Bool.false_or, Bool.or_false, Bool.true_and, Bool.and_true, Bool.false_and, Bool.and_false, Bool.not_true, Bool.not_false, cond_true, cond_false]; done) | (repeat (first | rw [g29] | rw [g30] | rw [g31] | rw [g32] | rw [g33] | rw [g34] | rw [g35] | rw [g36] | rw [g37] | rw [g38])) <;> simp only [Bool.true_or, Bool.or_true, Bool.false_or, Bool.or_false, Bool.true_and, Bool.and_true, Bool.false_and, Bool.and_false, Bool.not_true, Bool.not_false, cond_true, cond_false])).symm.trans b18)) rfl (met rfl rfl rfl g33) rfl ca27 rfl rfl (cC (.agg _ _ _ _ (cC (.imm _) (cC (.imm _) (cC (.imm _) (cC (.imm _) (cC (.imm _) (cC (.imm _) (cC (.imm _) (cC (.imm _) (cC (.imm _) (cC (.imm _) (cC (.imm _) .nil)))))))))))) (cC (.agg _ _ _ _ (cC (.imm _) (cC (.imm _) (cC (.imm _) (cC (.imm _) (cC (.imm _) (cC (.imm _) (cC (.imm _) (cC (.imm _) (cC (.imm _) (cC (.imm _) (cC (.imm _) .nil)))))))))))) .nil)) rfl rfl rfl rfl rfl ?_
              refine .v rfl rfl (O.pickT g33 rfl rfl rfl) ?_
              refine .m rfl rfl rfl rfl ?_
              refine .v rfl (met rfl rfl rfl g34) (O.ldN ty24 rfl rfl rfl) ?_
              refine .v rfl (met rfl rfl rfl g34) (O.ldN ty24 rfl rfl rfl) ?_
              refine .call (.b t19) [] 0 (lombardref23_Same.ok ((if_pos (by first | (simp only [g29, g30, g31, g32, g33, g34, g35, g36, g37, g38, Bool.true_or, Bool.or_true, Bool.false_or, Bool.or_false, Bool.true_and, Bool.and_true, Bool.false_and, Bool.and_false, Bool.not_true, Bool.not_false, cond_true, cond_false]; done) | (repeat (first | rw [g29] | rw [g30] | rw [g31] | rw [g32] | rw [g33] | rw [g34] | rw [g35] | rw [g36] | rw [g37] | rw [g38])) <;> simp only [Bool.true_or, Bool.or_true, Bool.false_or, Bool.or_false, Bool.true_and, Bool.and_true, Bool.false_and, Bool.and_false, Bool.not_true, Bool.not_false, cond_true, cond_false])).symm.trans b20)) rfl (met rfl rfl rfl g34) rfl ca27 rfl rfl (cC (.agg _ _ _ _ (cC (.imm _) (cC (.imm _) (cC (.imm _) (cC (.imm _) (cC (.imm _) (cC (.imm _) (cC (.imm _) (cC (.imm _) (cC (.imm _) (cC (.imm _) (cC (.imm _) .nil)))))))))))) (cC (.agg _ _ _ _ (cC (.imm _) (cC (.imm _) (cC (.imm _) (cC (.imm _) (cC (.imm _) (cC (.imm _) (cC (.imm _) (cC (.imm _) (cC (.imm _) (cC (.imm _) (cC (.imm _) .nil)))))))))))) .nil)) rfl rfl rfl rfl rfl ?_
              refine .v rfl rfl (O.pickT g34 rfl rfl rfl) ?_
              refine .m rfl rfl rfl rfl ?_
              refine .v rfl (met rfl rfl rfl g35) (O.ldN ty24 rfl rfl rfl) ?_
              refine .v rfl (met rfl rfl rfl g35) (O.ldN ty24 rfl rfl rfl) ?_
              refine .call (.b t21) [] 0 (lombardref23_Same.ok ((if_pos (by first | (simp only [g29, g30, g31, g32, g33, g34, g35, g36, g37, g38, Bool.true_or, Bool.or_true, Bool.false_or, Bool.or_false, Bool.true_and, Bool.and_true, Bool.false_and, Bool.and_false, Bool.not_true, Bool.not_false, cond_true, cond_false]; done) | (repeat (first | rw [g29] | rw [g30] | rw [g31] | rw [g32] | rw [g33] | rw [g34] | rw [g35] | rw [g36] | rw [g37] | rw [g38])) <;> simp only [Bool.true_or, Bool.or_true, Bool.false_or, Bool.or_false, Bool.true_and, Bool.and_true, Bool.false_and, Bool.and_false, Bool.not_true, Bool.not_false, cond_true, cond_false])).symm.trans b22)) rfl (met rfl rfl rfl g35) rfl ca27 rfl rfl (cC (.agg _ _ _ _ (cC (.imm _) (cC (.imm _) (cC (.imm _) (cC (.imm _) (cC (.imm _) (cC (.imm _) (cC (.imm _) (cC (.imm _) (cC (.imm _) (cC (.imm _) (cC (.imm _) .nil)))))))))))) (cC (.agg _ _ _ _ (cC (.imm _) (cC (.imm _) (cC (.imm _) (cC (.imm _) (cC (.imm _) (cC (.imm _) (cC (.imm _) (cC (.imm _) (cC (.imm _) (cC (.imm _) (cC (.imm _) .nil)))))))))))) .nil)) rfl rfl rfl rfl rfl ?_
              refine .v rfl rfl (O.pickT g35 rfl rfl rfl) ?_
              refine .m rfl rfl rfl rfl ?_
              refine .v rfl (met rfl rfl rfl g36) (O.ldN ty24 rfl rfl rfl) ?_
              refine .v rfl (met rfl rfl rfl g36) (O.ldN ty24 rfl rfl rfl) ?_
              refine .call (.b t23) [] 0 (lombardref23_Same.ok ((if_pos (by first | (simp only [g29, g30, g31, g32, g33, g34, g35, g36, g37, g38, Bool.true_or, Bool.or_true, Bool.false_or, Bool.or_false, Bool.true_and, Bool.and_true, Bool.false_and, Bool.and_false, Bool.not_true, Bool.not_false, cond_true, cond_false]; done) | (repeat (first | rw [g29] | rw [g30] | rw [g31] | rw [g32] | rw [g33] | rw [g34] | rw [g35] | rw [g36] | rw [g37] | rw [g38])) <;> simp only [Bool.true_or, Bool.or_true, Bool.false_or, Bool.or_false, Bool.true_and, Bool.and_true, Bool.false_and, Bool.and_false, Bool.not_true, Bool.not_false, cond_true, cond_false])).symm.trans b24)) rfl (met rfl rfl rfl g36) rfl ca27 rfl rfl (cC (.agg _ _ _ _ (cC (.imm _) (cC (.imm _) (cC (.imm _) (cC (.imm _) (cC (.imm _) (cC (.imm _) (cC (.imm _) (cC (.imm _) (cC (.imm _) (cC (.imm _) (cC (.imm _) .nil)))))))))))) (cC (.agg _ _ _ _ (cC (.imm _) (cC (.imm _) (cC (.imm _) (cC (.imm _) (cC (.imm _) (cC (.imm _) (cC (.imm _) (cC (.imm _) (cC (.imm _) (cC (.imm _) (cC (.imm _) .nil)))))))))))) .nil)) rfl rfl rfl rfl rfl ?_
              refine .v rfl rfl (O.pickT g36 rfl rfl rfl) ?_
              refine .m rfl rfl rfl rfl ?_
              refine .v rfl (met rfl rfl rfl g37) (O.ldN ty24 rfl rfl rfl) ?_
              refine .v rfl (met rfl rfl rfl g37) (O.ldN ty24 rfl rfl rfl) ?_
              refine .call (.b t25) [] 0 (lombardref23_Same.ok ((if_pos (by first | (simp only [g29, g30, g31, g32, g33, g34, g35, g36, g37, g38, Bool.true_or, Bool.or_true, Bool.false_or, Bool.or_false, Bool.true_and, Bool.and_true, Bool.false_and, Bool.and_false, Bool.not_true, Bool.not_false, cond_true, cond_false]; done) | (repeat (first | rw [g29] | rw [g30] | rw [g31] | rw [g32] | rw [g33] | rw [g34] | rw [g35] | rw [g36] | rw [g37] | rw [g38])) <;> simp only [Bool.true_or, Bool.or_true, Bool.false_or, Bool.or_false, Bool.true_and, Bool.and_true, Bool.false_and, Bool.and_false, Bool.not_true, Bool.not_false, cond_true, cond_false])).symm.trans b26)) rfl (met rfl rfl rfl g37) rfl ca27 rfl rfl (cC (.agg _ _ _ _ (cC (.imm _) (cC (.imm _) (cC (.imm _) (cC (.imm _) (cC (.imm _) (cC (.imm _) (cC (.imm _) (cC (.imm _) (cC (.imm _) (cC (.imm _) (cC (.imm _) .nil)))))))))))) (cC (.agg _ _ _ _ (cC (.imm _) (cC (.imm _) (cC (.imm _) (cC (.imm _) (cC (.imm _) (cC (.imm _) (cC (.imm _) (cC (.imm _) (cC (.imm _) (cC (.imm _) (cC (.imm _) .nil)))))))))))) .nil)) rfl rfl rfl rfl rfl ?_
              refine .v rfl rfl (O.pickT g37 rfl rfl rfl) ?_
              refine .m rfl rfl rfl rfl ?_
              refine .call (.b t27) [] 0 (lombardlaw24_awake.ok ((if_pos (by first | (simp only [g29, g30, g31, g32, g33, g34, g35, g36, g37, g38, Bool.true_or, Bool.or_true, Bool.false_or, Bool.or_false, Bool.true_and, Bool.and_true, Bool.false_and, Bool.and_false, Bool.not_true, Bool.not_false, cond_true, cond_false]; done) | (repeat (first | rw [g29] | rw [g30] | rw [g31] | rw [g32] | rw [g33] | rw [g34] | rw [g35] | rw [g36] | rw [g37] | rw [g38])) <;> simp only [Bool.true_or, Bool.or_true, Bool.false_or, Bool.or_false, Bool.true_and, Bool.and_true, Bool.false_and, Bool.and_false, Bool.not_true, Bool.not_false, cond_true, cond_false])).symm.trans b28)) rfl (met rfl rfl rfl g38) rfl ca10 rfl rfl .nil rfl rfl rfl rfl rfl ?_
              refine .v rfl rfl (O.pickT g38 rfl rfl rfl) ?_
              refine .a rfl rfl rfl rfl ?_
              refine .nil ?_
              exact toN (Gives.mkR [] (.c rfl (sbb (by first | (simp only [g29, g30, g31, g32, g33, g34, g35, g36, g37, g38, Bool.true_or, Bool.or_true, Bool.false_or, Bool.or_false, Bool.true_and, Bool.and_true, Bool.false_and, Bool.and_false, Bool.not_true, Bool.not_false, cond_true, cond_false]; done) | (repeat (first | rw [g29] | rw [g30] | rw [g31] | rw [g32] | rw [g33] | rw [g34] | rw [g35] | rw [g36] | rw [g37] | rw [g38])) <;> simp only [Bool.true_or, Bool.or_true, Bool.false_or, Bool.or_false, Bool.true_and, Bool.and_true, Bool.false_and, Bool.and_false, Bool.not_true, Bool.not_false, cond_true, cond_false])) rfl .n) .n rfl rfl rfl)
             ·refine W.pk ?_
              refine .m rfl rfl rfl rfl ?_
              refine .v rfl rfl (OpL.binI rfl rfl rfl rfl) ?_
              refine .m rfl rfl rfl rfl ?_
              refine .m rfl (met rfl rfl rfl g29) rfl rfl ?_
              refine .m rfl (met rfl rfl rfl g29) rfl rfl ?_
              refine .v rfl (met rfl rfl rfl g29) (OpL.binI rfl rfl rfl rfl) ?_
              refine .v rfl rfl (O.pickT g29 rfl rfl rfl) ?_
              refine .m rfl rfl rfl rfl ?_
              refine .m rfl (met rfl rfl rfl g30) rfl rfl ?_
              refine .m rfl (met rfl rfl rfl g30) rfl rfl ?_
              refine .v rfl (met rfl rfl rfl g30) (OpL.binI rfl rfl rfl rfl) ?_
              refine .v rfl rfl (O.pickT g30 rfl rfl rfl) ?_
              refine .m rfl rfl rfl rfl ?_
              refine .m rfl (met rfl rfl rfl g31) rfl rfl ?_
              refine .m rfl (met rfl rfl rfl g31) rfl rfl ?_
              refine .v rfl (met rfl rfl rfl g31) (OpL.binI rfl rfl rfl rfl) ?_
              refine .v rfl rfl (O.pickT g31 rfl rfl rfl) ?_
              refine .m rfl rfl rfl rfl ?_
              refine .m rfl (met rfl rfl rfl g32) rfl rfl ?_
              refine .m rfl (met rfl rfl rfl g32) rfl rfl ?_
              refine .v rfl (met rfl rfl rfl g32) (OpL.binI rfl rfl rfl rfl) ?_
              refine .v rfl rfl (O.pickT g32 rfl rfl rfl) ?_
              refine .m rfl rfl rfl rfl ?_
              refine .v rfl (met rfl rfl rfl g33) (O.ldN ty24 rfl rfl rfl) ?_
              refine .v rfl (met rfl rfl rfl g33) (O.ldN ty24 rfl rfl rfl) ?_
              refine .call (.b t17) [] 0 (lombardref23_Same.ok ((if_pos (by first | (simp only [g29, g30, g31, g32, g33, g34, g35, g36, g37, g38, Bool.true_or, Bool.or_true, Bool.false_or, Bool.or_false, Bool.true_and, Bool.and_true, Bool.false_and, Bool.and_false, Bool.not_true, Bool.not_false, cond_true, cond_false]; done) | (repeat (first | rw [g29] | rw [g30] | rw [g31] | rw [g32] | rw [g33] | rw [g34] | rw [g35] | rw [g36] | rw [g37] | rw [g38])) <;> simp only [Bool.true_or, Bool.or_true, Bool.false_or, Bool.or_false, Bool.true_and, Bool.and_true, Bool.false_and, Bool.and_false, Bool.not_true, Bool.not_false, cond_true, cond_false])).symm.trans b18)) rfl (met rfl rfl rfl g33) rfl ca27 rfl rfl (cC (.agg _ _ _ _ (cC (.imm _) (cC (.imm _) (cC (.imm _) (cC (.imm _) (cC (.imm _) (cC (.imm _) (cC (.imm _) (cC (.imm _) (cC (.imm _) (cC (.imm _) (cC (.imm _) .nil)))))))))))) (cC (.agg _ _ _ _ (cC (.imm _) (cC (.imm _) (cC (.imm _) (cC (.imm _) (cC (.imm _) (cC (.imm _) (cC (.imm _) (cC (.imm _) (cC (.imm _) (cC (.imm _) (cC (.imm _) .nil)))))))))))) .nil)) rfl rfl rfl rfl rfl ?_
              refine .v rfl rfl (O.pickT g33 rfl rfl rfl) ?_
              refine .m rfl rfl rfl rfl ?_
              refine .v rfl (met rfl rfl rfl g34) (O.ldN ty24 rfl rfl rfl) ?_
              refine .v rfl (met rfl rfl rfl g34) (O.ldN ty24 rfl rfl rfl) ?_
              refine .call (.b t19) [] 0 (lombardref23_Same.ok ((if_pos (by first | (simp only [g29, g30, g31, g32, g33, g34, g35, g36, g37, g38, Bool.true_or, Bool.or_true, Bool.false_or, Bool.or_false, Bool.true_and, Bool.and_true, Bool.false_and, Bool.and_false, Bool.not_true, Bool.not_false, cond_true, cond_false]; done) | (repeat (first | rw [g29] | rw [g30] | rw [g31] | rw [g32] | rw [g33] | rw [g34] | rw [g35] | rw [g36] | rw [g37] | rw [g38])) <;> simp only [Bool.true_or, Bool.or_true, Bool.false_or, Bool.or_false, Bool.true_and, Bool.and_true, Bool.false_and, Bool.and_false, Bool.not_true, Bool.not_false, cond_true, cond_false])).symm.trans b20)) rfl (met rfl rfl rfl g34) rfl ca27 rfl rfl (cC (.agg _ _ _ _ (cC (.imm _) (cC (.imm _) (cC (.imm _) (cC (.imm _) (cC (.imm _) (cC (.imm _) (cC (.imm _) (cC (.imm _) (cC (.imm _) (cC (.imm _) (cC (.imm _) .nil)))))))))))) (cC (.agg _ _ _ _ (cC (.imm _) (cC (.imm _) (cC (.imm _) (cC (.imm _) (cC (.imm _) (cC (.imm _) (cC (.imm _) (cC (.imm _) (cC (.imm _) (cC (.imm _) (cC (.imm _) .nil)))))))))))) .nil)) rfl rfl rfl rfl rfl ?_
              refine .v rfl rfl (O.pickT g34 rfl rfl rfl) ?_
              refine .m rfl rfl rfl rfl ?_
              refine .v rfl (met rfl rfl rfl g35) (O.ldN ty24 rfl rfl rfl) ?_
              refine .v rfl (met rfl rfl rfl g35) (O.ldN ty24 rfl rfl rfl) ?_
              refine .call (.b t21) [] 0 (lombardref23_Same.ok ((if_pos (by first | (simp only [g29, g30, g31, g32, g33, g34, g35, g36, g37, g38, Bool.true_or, Bool.or_true, Bool.false_or, Bool.or_false, Bool.true_and, Bool.and_true, Bool.false_and, Bool.and_false, Bool.not_true, Bool.not_false, cond_true, cond_false]; done) | (repeat (first | rw [g29] | rw [g30] | rw [g31] | rw [g32] | rw [g33] | rw [g34] | rw [g35] | rw [g36] | rw [g37] | rw [g38])) <;> simp only [Bool.true_or, Bool.or_true, Bool.false_or, Bool.or_false, Bool.true_and, Bool.and_true, Bool.false_and, Bool.and_false, Bool.not_true, Bool.not_false, cond_true, cond_false])).symm.trans b22)) rfl (met rfl rfl rfl g35) rfl ca27 rfl rfl (cC (.agg _ _ _ _ (cC (.imm _) (cC (.imm _) (cC (.imm _) (cC (.imm _) (cC (.imm _) (cC (.imm _) (cC (.imm _) (cC (.imm _) (cC (.imm _) (cC (.imm _) (cC (.imm _) .nil)))))))))))) (cC (.agg _ _ _ _ (cC (.imm _) (cC (.imm _) (cC (.imm _) (cC (.imm _) (cC (.imm _) (cC (.imm _) (cC (.imm _) (cC (.imm _) (cC (.imm _) (cC (.imm _) (cC (.imm _) .nil)))))))))))) .nil)) rfl rfl rfl rfl rfl ?_
              refine .v rfl rfl (O.pickT g35 rfl rfl rfl) ?_
              refine .m rfl rfl rfl rfl ?_
              refine .v rfl (met rfl rfl rfl g36) (O.ldN ty24 rfl rfl rfl) ?_
              refine .v rfl (met rfl rfl rfl g36) (O.ldN ty24 rfl rfl rfl) ?_
              refine .call (.b t23) [] 0 (lombardref23_Same.ok ((if_pos (by first | (simp only [g29, g30, g31, g32, g33, g34, g35, g36, g37, g38, Bool.true_or, Bool.or_true, Bool.false_or, Bool.or_false, Bool.true_and, Bool.and_true, Bool.false_and, Bool.and_false, Bool.not_true, Bool.not_false, cond_true, cond_false]; done) | (repeat (first | rw [g29] | rw [g30] | rw [g31] | rw [g32] | rw [g33] | rw [g34] | rw [g35] | rw [g36] | rw [g37] | rw [g38])) <;> simp only [Bool.true_or, Bool.or_true, Bool.false_or, Bool.or_false, Bool.true_and, Bool.and_true, Bool.false_and, Bool.and_false, Bool.not_true, Bool.not_false, cond_true, cond_false])).symm.trans b24)) rfl (met rfl rfl rfl g36) rfl ca27 rfl rfl (cC (.agg _ _ _ _ (cC (.imm _) (cC (.imm _) (cC (.imm _) (cC (.imm _) (cC (.imm _) (cC (.imm _) (cC (.imm _) (cC (.imm _) (cC (.imm _) (cC (.imm _) (cC (.imm _) .nil)))))))))))) (cC (.agg _ _ _ _ (cC (.imm _) (cC (.imm _) (cC (.imm _) (cC (.imm _) (cC (.imm _) (cC (.imm _) (cC (.imm _) (cC (.imm _) (cC (.imm _) (cC (.imm _) (cC (.imm _) .nil)))))))))))) .nil)) rfl rfl rfl rfl rfl ?_
              refine .v rfl rfl (O.pickT g36 rfl rfl rfl) ?_
              refine .m rfl rfl rfl rfl ?_
              refine .v rfl (met rfl rfl rfl g37) (O.ldN ty24 rfl rfl rfl) ?_
              refine .v rfl (met rfl rfl rfl g37) (O.ldN ty24 rfl rfl rfl) ?_
              refine .call (.b t25) [] 0 (lombardref23_Same.ok ((if_pos (by first | (simp only [g29, g30, g31, g32, g33, g34, g35, g36, g37, g38, Bool.true_or, Bool.or_true, Bool.false_or, Bool.or_false, Bool.true_and, Bool.and_true, Bool.false_and, Bool.and_false, Bool.not_true, Bool.not_false, cond_true, cond_false]; done) | (repeat (first | rw [g29] | rw [g30] | rw [g31] | rw [g32] | rw [g33] | rw [g34] | rw [g35] | rw [g36] | rw [g37] | rw [g38])) <;> simp only [Bool.true_or, Bool.or_true, Bool.false_or, Bool.or_false, Bool.true_and, Bool.and_true, Bool.false_and, Bool.and_false, Bool.not_true, Bool.not_false, cond_true, cond_false])).symm.trans b26)) rfl (met rfl rfl rfl g37) rfl ca27 rfl rfl (cC (.agg _ _ _ _ (cC (.imm _) (cC (.imm _) (cC (.imm _) (cC (.imm _) (cC (.imm _) (cC (.imm _) (cC (.imm _) (cC (.imm _) (cC (.imm _) (cC (.imm _) (cC (.imm _) .nil)))))))))))) (cC (.agg _ _ _ _ (cC (.imm _) (cC (.imm _) (cC (.imm _) (cC (.imm _) (cC (.imm _) (cC (.imm _) (cC (.imm _) (cC (.imm _) (cC (.imm _) (cC (.imm _) (cC (.imm _) .nil)))))))))))) .nil)) rfl rfl rfl rfl rfl ?_
              refine .v rfl rfl (O.pickT g37 rfl rfl rfl) ?_
              refine .m rfl rfl rfl rfl ?_
              refine .x rfl (unmet rfl rfl rfl g38) ?_
              refine .v rfl rfl (O.pickF g38 rfl rfl rfl) ?_
              refine .a rfl rfl rfl rfl ?_
              refine .nil ?_
              exact toN (Gives.mkR [] (.c rfl (sbb (by first | (simp only [g29, g30, g31, g32, g33, g34, g35, g36, g37, g38, Bool.true_or, Bool.or_true, Bool.false_or, Bool.or_false, Bool.true_and, Bool.and_true, Bool.false_and, Bool.and_false, Bool.not_true, Bool.not_false, cond_true, cond_false]; done) | (repeat (first | rw [g29] | rw [g30] | rw [g31] | rw [g32] | rw [g33] | rw [g34] | rw [g35] | rw [g36] | rw [g37] | rw [g38])) <;> simp only [Bool.true_or, Bool.or_true, Bool.false_or, Bool.or_false, Bool.true_and, Bool.and_true, Bool.false_and, Bool.and_false, Bool.not_true, Bool.not_false, cond_true, cond_false])) rfl .n) .n rfl rfl rfl)
            ·refine W.pk ?_
             refine .m rfl rfl rfl rfl ?_
             refine .v rfl rfl (OpL.binI rfl rfl rfl rfl) ?_
             refine .m rfl rfl rfl rfl ?_
             refine .m rfl (met rfl rfl rfl g29) rfl rfl ?_
             refine .m rfl (met rfl rfl rfl g29) rfl rfl ?_
             refine .v rfl (met rfl rfl rfl g29) (OpL.binI rfl rfl rfl rfl) ?_
             refine .v rfl rfl (O.pickT g29 rfl rfl rfl) ?_
             refine .m rfl rfl rfl rfl ?_
             refine .m rfl (met rfl rfl rfl g30) rfl rfl ?_
             refine .m rfl (met rfl rfl rfl g30) rfl rfl ?_
             refine .v rfl (met rfl rfl rfl g30) (OpL.binI rfl rfl rfl rfl) ?_
             refine .v rfl rfl (O.pickT g30 rfl rfl rfl) ?_
             refine .m rfl rfl rfl rfl ?_
             refine .m rfl (met rfl rfl rfl g31) rfl rfl ?_
             refine .m rfl (met rfl rfl rfl g31) rfl rfl ?_
             refine .v rfl (met rfl rfl rfl g31) (OpL.binI rfl rfl rfl rfl) ?_
             refine .v rfl rfl (O.pickT g31 rfl rfl rfl) ?_
             refine .m rfl rfl rfl rfl ?_
             refine .m rfl (met rfl rfl rfl g32) rfl rfl ?_
             refine .m rfl (met rfl rfl rfl g32) rfl rfl ?_
             refine .v rfl (met rfl rfl rfl g32) (OpL.binI rfl rfl rfl rfl) ?_
             refine .v rfl rfl (O.pickT g32 rfl rfl rfl) ?_
             refine .m rfl rfl rfl rfl ?_
             refine .v rfl (met rfl rfl rfl g33) (O.ldN ty24 rfl rfl rfl) ?_
             refine .v rfl (met rfl rfl rfl g33) (O.ldN ty24 rfl rfl rfl) ?_
             refine .call (.b t17) [] 0 (lombardref23_Same.ok ((if_pos (by first | (simp only [g29, g30, g31, g32, g33, g34, g35, g36, g37, Bool.true_or, Bool.or_true, Bool.false_or, Bool.or_false, Bool.true_and, Bool.and_true, Bool.false_and, Bool.and_false, Bool.not_true, Bool.not_false, cond_true, cond_false]; done) | (repeat (first | rw [g29] | rw [g30] | rw [g31] | rw [g32] | rw [g33] | rw [g34] | rw [g35] | rw [g36] | rw [g37])) <;> simp only [Bool.true_or, Bool.or_true, Bool.false_or, Bool.or_false, Bool.true_and, Bool.and_true, Bool.false_and, Bool.and_false, Bool.not_true, Bool.not_false, cond_true, cond_false])).symm.trans b18)) rfl (met rfl rfl rfl g33) rfl ca27 rfl rfl (cC (.agg _ _ _ _ (cC (.imm _) (cC (.imm _) (cC (.imm _) (cC (.imm _) (cC (.imm _) (cC (.imm _) (cC (.imm _) (cC (.imm _) (cC (.imm _) (cC (.imm _) (cC (.imm _) .nil)))))))))))) (cC (.agg _ _ _ _ (cC (.imm _) (cC (.imm _) (cC (.imm _) (cC (.imm _) (cC (.imm _) (cC (.imm _) (cC (.imm _) (cC (.imm _) (cC (.imm _) (cC (.imm _) (cC (.imm _) .nil)))))))))))) .nil)) rfl rfl rfl rfl rfl ?_
             refine .v rfl rfl (O.pickT g33 rfl rfl rfl) ?_
             refine .m rfl rfl rfl rfl ?_
             refine .v rfl (met rfl rfl rfl g34) (O.ldN ty24 rfl rfl rfl) ?_
             refine .v rfl (met rfl rfl rfl g34) (O.ldN ty24 rfl rfl rfl) ?_
             refine .call (.b t19) [] 0 (lombardref23_Same.ok ((if_pos (by first | (simp only [g29, g30, g31, g32, g33, g34, g35, g36, g37, Bool.true_or, Bool.or_true, Bool.false_or, Bool.or_false, Bool.true_and, Bool.and_true, Bool.false_and, Bool.and_false, Bool.not_true, Bool.not_false, cond_true, cond_false]; done) | (repeat (first | rw [g29] | rw [g30] | rw [g31] | rw [g32] | rw [g33] | rw [g34] | rw [g35] | rw [g36] | rw [g37])) <;> simp only [Bool.true_or, Bool.or_true, Bool.false_or, Bool.or_false, Bool.true_and, Bool.and_true, Bool.false_and, Bool.and_false, Bool.not_true, Bool.not_false, cond_true, cond_false])).symm.trans b20)) rfl (met rfl rfl rfl g34) rfl ca27 rfl rfl (cC (.agg _ _ _ _ (cC (.imm _) (cC (.imm _) (cC (.imm _) (cC (.imm _) (cC (.imm _) (cC (.imm _) (cC (.imm _) (cC (.imm _) (cC (.imm _) (cC (.imm _) (cC (.imm _) .nil)))))))))))) (cC (.agg _ _ _ _ (cC (.imm _) (cC (.imm _) (cC (.imm _) (cC (.imm _) (cC (.imm _) (cC (.imm _) (cC (.imm _) (cC (.imm _) (cC (.imm _) (cC (.imm _) (cC (.imm _) .nil)))))))))))) .nil)) rfl rfl rfl rfl rfl ?_
             refine .v rfl rfl (O.pickT g34 rfl rfl rfl) ?_
             refine .m rfl rfl rfl rfl ?_
             refine .v rfl (met rfl rfl rfl g35) (O.ldN ty24 rfl rfl rfl) ?_
             refine .v rfl (met rfl rfl rfl g35) (O.ldN ty24 rfl rfl rfl) ?_
             refine .call (.b t21) [] 0 (lombardref23_Same.ok ((if_pos (by first | (simp only [g29, g30, g31, g32, g33, g34, g35, g36, g37, Bool.true_or, Bool.or_true, Bool.false_or, Bool.or_false, Bool.true_and, Bool.and_true, Bool.false_and, Bool.and_false, Bool.not_true, Bool.not_false, cond_true, cond_false]; done) | (repeat (first | rw [g29] | rw [g30] | rw [g31] | rw [g32] | rw [g33] | rw [g34] | rw [g35] | rw [g36] | rw [g37])) <;> simp only [Bool.true_or, Bool.or_true, Bool.false_or, Bool.or_false, Bool.true_and, Bool.and_true, Bool.false_and, Bool.and_false, Bool.not_true, Bool.not_false, cond_true, cond_false])).symm.trans b22)) rfl (met rfl rfl rfl g35) rfl ca27 rfl rfl (cC (.agg _ _ _ _ (cC (.imm _) (cC (.imm _) (cC (.imm _) (cC (.imm _) (cC (.imm _) (cC (.imm _) (cC (.imm _) (cC (.imm _) (cC (.imm _) (cC (.imm _) (cC (.imm _) .nil)))))))))))) (cC (.agg _ _ _ _ (cC (.imm _) (cC (.imm _) (cC (.imm _) (cC (.imm _) (cC (.imm _) (cC (.imm _) (cC (.imm _) (cC (.imm _) (cC (.imm _) (cC (.imm _) (cC (.imm _) .nil)))))))))))) .nil)) rfl rfl rfl rfl rfl ?_
             refine .v rfl rfl (O.pickT g35 rfl rfl rfl) ?_
             refine .m rfl rfl rfl rfl ?_
             refine .v rfl (met rfl rfl rfl g36) (O.ldN ty24 rfl rfl rfl) ?_
             refine .v rfl (met rfl rfl rfl g36) (O.ldN ty24 rfl rfl rfl) ?_
             refine .call (.b t23) [] 0 (lombardref23_Same.ok ((if_pos (by first | (simp only [g29, g30, g31, g32, g33, g34, g35, g36, g37, Bool.true_or, Bool.or_true, Bool.false_or, Bool.or_false, Bool.true_and, Bool.and_true, Bool.false_and, Bool.and_false, Bool.not_true, Bool.not_false, cond_true, cond_false]; done) | (repeat (first | rw [g29] | rw [g30] | rw [g31] | rw [g32] | rw [g33] | rw [g34] | rw [g35] | rw [g36] | rw [g37])) <;> simp only [Bool.true_or, Bool.or_true, Bool.false_or, Bool.or_false, Bool.true_and, Bool.and_true, Bool.false_and, Bool.and_false, Bool.not_true, Bool.not_false, cond_true, cond_false])).symm.trans b24)) rfl (met rfl rfl rfl g36) rfl ca27 rfl rfl (cC (.agg _ _ _ _ (cC (.imm _) (cC (.imm _) (cC (.imm _) (cC (.imm _) (cC (.imm _) (cC (.imm _) (cC (.imm _) (cC (.imm _) (cC (.imm _) (cC (.imm _) (cC (.imm _) .nil)))))))))))) (cC (.agg _ _ _ _ (cC (.imm _) (cC (.imm _) (cC (.imm _) (cC (.imm _) (cC (.imm _) (cC (.imm _) (cC (.imm _) (cC (.imm _) (cC (.imm _) (cC (.imm _) (cC (.imm _) .nil)))))))))))) .nil)) rfl rfl rfl rfl rfl ?_
             refine .v rfl rfl (O.pickT g36 rfl rfl rfl) ?_
             refine .m rfl rfl rfl rfl ?_
             refine .x rfl (unmet rfl rfl rfl g37) ?_
             refine .x rfl (unmet rfl rfl rfl g37) ?_
             refine .x rfl (unmet rfl rfl rfl g37) ?_
             refine .v rfl rfl (O.pickF g37 rfl rfl rfl) ?_
             refine .m rfl rfl rfl rfl ?_
             refine .x rfl (unmet rfl rfl rfl rfl) ?_
             refine .v rfl rfl (O.pickF rfl rfl rfl rfl) ?_
             refine .a rfl rfl rfl rfl ?_
             refine .nil ?_
             exact toN (Gives.mkR [] (.c rfl (sbb (by first | (simp only [g29, g30, g31, g32, g33, g34, g35, g36, g37, Bool.true_or, Bool.or_true, Bool.false_or, Bool.or_false, Bool.true_and, Bool.and_true, Bool.false_and, Bool.and_false, Bool.not_true, Bool.not_false, cond_true, cond_false]; done) | (repeat (first | rw [g29] | rw [g30] | rw [g31] | rw [g32] | rw [g33] | rw [g34] | rw [g35] | rw [g36] | rw [g37])) <;> simp only [Bool.true_or, Bool.or_true, Bool.false_or, Bool.or_false, Bool.true_and, Bool.and_true, Bool.false_and, Bool.and_false, Bool.not_true, Bool.not_false, cond_true, cond_false])) rfl .n) .n rfl rfl rfl)
           ·refine W.pk ?_
            refine .m rfl rfl rfl rfl ?_
            refine .v rfl rfl (OpL.binI rfl rfl rfl rfl) ?_
            refine .m rfl rfl rfl rfl ?_
            refine .m rfl (met rfl rfl rfl g29) rfl rfl ?_
            refine .m rfl (met rfl rfl rfl g29) rfl rfl ?_
            refine .v rfl (met rfl rfl rfl g29) (OpL.binI rfl rfl rfl rfl) ?_
            refine .v rfl rfl (O.pickT g29 rfl rfl rfl) ?_
            refine .m rfl rfl rfl rfl ?_
            refine .m rfl (met rfl rfl rfl g30) rfl rfl ?_
            refine .m rfl (met rfl rfl rfl g30) rfl rfl ?_
            refine .v rfl (met rfl rfl rfl g30) (OpL.binI rfl rfl rfl rfl) ?_
            refine .v rfl rfl (O.pickT g30 rfl rfl rfl) ?_
            refine .m rfl rfl rfl rfl ?_
            refine .m rfl (met rfl rfl rfl g31) rfl rfl ?_
            refine .m rfl (met rfl rfl rfl g31) rfl rfl ?_
            refine .v rfl (met rfl rfl rfl g31) (OpL.binI rfl rfl rfl rfl) ?_
            refine .v rfl rfl (O.pickT g31 rfl rfl rfl) ?_
            refine .m rfl rfl rfl rfl ?_
            refine .m rfl (met rfl rfl rfl g32) rfl rfl ?_
            refine .m rfl (met rfl rfl rfl g32) rfl rfl ?_
            refine .v rfl (met rfl rfl rfl g32) (OpL.binI rfl rfl rfl rfl) ?_
            refine .v rfl rfl (O.pickT g32 rfl rfl rfl) ?_
            refine .m rfl rfl rfl rfl ?_
            refine .v rfl (met rfl rfl rfl g33) (O.ldN ty24 rfl rfl rfl) ?_
            refine .v rfl (met rfl rfl rfl g33) (O.ldN ty24 rfl rfl rfl) ?_
            refine .call (.b t17) [] 0 (lombardref23_Same.ok ((if_pos (by first | (simp only [g29, g30, g31, g32, g33, g34, g35, g36, Bool.true_or, Bool.or_true, Bool.false_or, Bool.or_false, Bool.true_and, Bool.and_true, Bool.false_and, Bool.and_false, Bool.not_true, Bool.not_false, cond_true, cond_false]; done) | (repeat (first | rw [g29] | rw [g30] | rw [g31] | rw [g32] | rw [g33] | rw [g34] | rw [g35] | rw [g36])) <;> simp only [Bool.true_or, Bool.or_true, Bool.false_or, Bool.or_false, Bool.true_and, Bool.and_true, Bool.false_and, Bool.and_false, Bool.not_true, Bool.not_false, cond_true, cond_false])).symm.trans b18)) rfl (met rfl rfl rfl g33) rfl ca27 rfl rfl (cC (.agg _ _ _ _ (cC (.imm _) (cC (.imm _) (cC (.imm _) (cC (.imm _) (cC (.imm _) (cC (.imm _) (cC (.imm _) (cC (.imm _) (cC (.imm _) (cC (.imm _) (cC (.imm _) .nil)))))))))))) (cC (.agg _ _ _ _ (cC (.imm _) (cC (.imm _) (cC (.imm _) (cC (.imm _) (cC (.imm _) (cC (.imm _) (cC (.imm _) (cC (.imm _) (cC (.imm _) (cC (.imm _) (cC (.imm _) .nil)))))))))))) .nil)) rfl rfl rfl rfl rfl ?_
            refine .v rfl rfl (O.pickT g33 rfl rfl rfl) ?_
            refine .m rfl rfl rfl rfl ?_
            refine .v rfl (met rfl rfl rfl g34) (O.ldN ty24 rfl rfl rfl) ?_
            refine .v rfl (met rfl rfl rfl g34) (O.ldN ty24 rfl rfl rfl) ?_
            refine .call (.b t19) [] 0 (lombardref23_Same.ok ((if_pos (by first | (simp only [g29, g30, g31, g32, g33, g34, g35, g36, Bool.true_or, Bool.or_true, Bool.false_or, Bool.or_false, Bool.true_and, Bool.and_true, Bool.false_and, Bool.and_false, Bool.not_true, Bool.not_false, cond_true, cond_false]; done) | (repeat (first | rw [g29] | rw [g30] | rw [g31] | rw [g32] | rw [g33] | rw [g34] | rw [g35] | rw [g36])) <;> simp only [Bool.true_or, Bool.or_true, Bool.false_or, Bool.or_false, Bool.true_and, Bool.and_true, Bool.false_and, Bool.and_false, Bool.not_true, Bool.not_false, cond_true, cond_false])).symm.trans b20)) rfl (met rfl rfl rfl g34) rfl ca27 rfl rfl (cC (.agg _ _ _ _ (cC (.imm _) (cC (.imm _) (cC (.imm _) (cC (.imm _) (cC (.imm _) (cC (.imm _) (cC (.imm _) (cC (.imm _) (cC (.imm _) (cC (.imm _) (cC (.imm _) .nil)))))))))))) (cC (.agg _ _ _ _ (cC (.imm _) (cC (.imm _) (cC (.imm _) (cC (.imm _) (cC (.imm _) (cC (.imm _) (cC (.imm _) (cC (.imm _) (cC (.imm _) (cC (.imm _) (cC (.imm _) .nil)))))))))))) .nil)) rfl rfl rfl rfl rfl ?_
            refine .v rfl rfl (O.pickT g34 rfl rfl rfl) ?_
            refine .m rfl rfl rfl rfl ?_
            refine .v rfl (met rfl rfl rfl g35) (O.ldN ty24 rfl rfl rfl) ?_
            refine .v rfl (met rfl rfl rfl g35) (O.ldN ty24 rfl rfl rfl) ?_
            refine .call (.b t21) [] 0 (lombardref23_Same.ok ((if_pos (by first | (simp only [g29, g30, g31, g32, g33, g34, g35, g36, Bool.true_or, Bool.or_true, Bool.false_or, Bool.or_false, Bool.true_and, Bool.and_true, Bool.false_and, Bool.and_false, Bool.not_true, Bool.not_false, cond_true, cond_false]; done) | (repeat (first | rw [g29] | rw [g30] | rw [g31] | rw [g32] | rw [g33] | rw [g34] | rw [g35] | rw [g36])) <;> simp only [Bool.true_or, Bool.or_true, Bool.false_or, Bool.or_false, Bool.true_and, Bool.and_true, Bool.false_and, Bool.and_false, Bool.not_true, Bool.not_false, cond_true, cond_false])).symm.trans b22)) rfl (met rfl rfl rfl g35) rfl ca27 rfl rfl (cC (.agg _ _ _ _ (cC (.imm _) (cC (.imm _) (cC (.imm _) (cC (.imm _) (cC (.imm _) (cC (.imm _) (cC (.imm _) (cC (.imm _) (cC (.imm _) (cC (.imm _) (cC (.imm _) .nil)))))))))))) (cC (.agg _ _ _ _ (cC (.imm _) (cC (.imm _) (cC (.imm _) (cC (.imm _) (cC (.imm _) (cC (.imm _) (cC (.imm _) (cC (.imm _) (cC (.imm _) (cC (.imm _) (cC (.imm _) .nil)))))))))))) .nil)) rfl rfl rfl rfl rfl ?_
            refine .v rfl rfl (O.pickT g35 rfl rfl rfl) ?_
            refine .m rfl rfl rfl rfl ?_
            refine .x rfl (unmet rfl rfl rfl g36) ?_
            refine .x rfl (unmet rfl rfl rfl g36) ?_
            refine .x rfl (unmet rfl rfl rfl g36) ?_
            refine .v rfl rfl (O.pickF g36 rfl rfl rfl) ?_
            refine .m rfl rfl rfl rfl ?_
            refine .x rfl (unmet rfl rfl rfl rfl) ?_
            refine .x rfl (unmet rfl rfl rfl rfl) ?_
            refine .x rfl (unmet rfl rfl rfl rfl) ?_
            refine .v rfl rfl (O.pickF rfl rfl rfl rfl) ?_
            refine .m rfl rfl rfl rfl ?_
            refine .x rfl (unmet rfl rfl rfl rfl) ?_
            refine .v rfl rfl (O.pickF rfl rfl rfl rfl) ?_
            refine .a rfl rfl rfl rfl ?_
            refine .nil ?_
            exact toN (Gives.mkR [] (.c rfl (sbb (by first | (simp only [g29, g30, g31, g32, g33, g34, g35, g36, Bool.true_or, Bool.or_true, Bool.false_or, Bool.or_false, Bool.true_and, Bool.and_true, Bool.false_and, Bool.and_false, Bool.not_true, Bool.not_false, cond_true, cond_false]; done) | (repeat (first | rw [g29] | rw [g30] | rw [g31] | rw [g32] | rw [g33] | rw [g34] | rw [g35] | rw [g36])) <;> simp only [Bool.true_or, Bool.or_true, Bool.false_or, Bool.or_false, Bool.true_and, Bool.and_true, Bool.false_and, Bool.and_false, Bool.not_true, Bool.not_false, cond_true, cond_false])) rfl .n) .n rfl rfl rfl)
          ·refine W.pk ?_
           refine .m rfl rfl rfl rfl ?_
           refine .v rfl rfl (OpL.binI rfl rfl rfl rfl) ?_
           refine .m rfl rfl rfl rfl ?_
           refine .m rfl (met rfl rfl rfl g29) rfl rfl ?_
           refine .m rfl (met rfl rfl rfl g29) rfl rfl ?_
           refine .v rfl (met rfl rfl rfl g29) (OpL.binI rfl rfl rfl rfl) ?_
           refine .v rfl rfl (O.pickT g29 rfl rfl rfl) ?_
           refine .m rfl rfl rfl rfl ?_
           refine .m rfl (met rfl rfl rfl g30) rfl rfl ?_
           refine .m rfl (met rfl rfl rfl g30) rfl rfl ?_
           refine .v rfl (met rfl rfl rfl g30) (OpL.binI rfl rfl rfl rfl) ?_
           refine .v rfl rfl (O.pickT g30 rfl rfl rfl) ?_
           refine .m rfl rfl rfl rfl ?_
           refine .m rfl (met rfl rfl rfl g31) rfl rfl ?_
           refine .m rfl (met rfl rfl rfl g31) rfl rfl ?_
           refine .v rfl (met rfl rfl rfl g31) (OpL.binI rfl rfl rfl rfl) ?_
           refine .v rfl rfl (O.pickT g31 rfl rfl rfl) ?_
           refine .m rfl rfl rfl rfl ?_
           refine .m rfl (met rfl rfl rfl g32) rfl rfl ?_
           refine .m rfl (met rfl rfl rfl g32) rfl rfl ?_
           refine .v rfl (met rfl rfl rfl g32) (OpL.binI rfl rfl rfl rfl) ?_
           refine .v rfl rfl (O.pickT g32 rfl rfl rfl) ?_
           refine .m rfl rfl rfl rfl ?_
           refine .v rfl (met rfl rfl rfl g33) (O.ldN ty24 rfl rfl rfl) ?_
           refine .v rfl (met rfl rfl rfl g33) (O.ldN ty24 rfl rfl rfl) ?_
           refine .call (.b t17) [] 0 (lombardref23_Same.ok ((if_pos (by first | (simp only [g29, g30, g31, g32, g33, g34, g35, Bool.true_or, Bool.or_true, Bool.false_or, Bool.or_false, Bool.true_and, Bool.and_true, Bool.false_and, Bool.and_false, Bool.not_true, Bool.not_false, cond_true, cond_false]; done) | (repeat (first | rw [g29] | rw [g30] | rw [g31] | rw [g32] | rw [g33] | rw [g34] | rw [g35])) <;> simp only [Bool.true_or, Bool.or_true, Bool.false_or, Bool.or_false, Bool.true_and, Bool.and_true, Bool.false_and, Bool.and_false, Bool.not_true, Bool.not_false, cond_true, cond_false])).symm.trans b18)) rfl (met rfl rfl rfl g33) rfl ca27 rfl rfl (cC (.agg _ _ _ _ (cC (.imm _) (cC (.imm _) (cC (.imm _) (cC (.imm _) (cC (.imm _) (cC (.imm _) (cC (.imm _) (cC (.imm _) (cC (.imm _) (cC (.imm _) (cC (.imm _) .nil)))))))))))) (cC (.agg _ _ _ _ (cC (.imm _) (cC (.imm _) (cC (.imm _) (cC (.imm _) (cC (.imm _) (cC (.imm _) (cC (.imm _) (cC (.imm _) (cC (.imm _) (cC (.imm _) (cC (.imm _) .nil)))))))))))) .nil)) rfl rfl rfl rfl rfl ?_
           refine .v rfl rfl (O.pickT g33 rfl rfl rfl) ?_
           refine .m rfl rfl rfl rfl ?_
           refine .v rfl (met rfl rfl rfl g34) (O.ldN ty24 rfl rfl rfl) ?_
           refine .v rfl (met rfl rfl rfl g34) (O.ldN ty24 rfl rfl rfl) ?_
           refine .call (.b t19) [] 0 (lombardref23_Same.ok ((if_pos (by first | (simp only [g29, g30, g31, g32, g33, g34, g35, Bool.true_or, Bool.or_true, Bool.false_or, Bool.or_false, Bool.true_and, Bool.and_true, Bool.false_and, Bool.and_false, Bool.not_true, Bool.not_false, cond_true, cond_false]; done) | (repeat (first | rw [g29] | rw [g30] | rw [g31] | rw [g32] | rw [g33] | rw [g34] | rw [g35])) <;> simp only [Bool.true_or, Bool.or_true, Bool.false_or, Bool.or_false, Bool.true_and, Bool.and_true, Bool.false_and, Bool.and_false, Bool.not_true, Bool.not_false, cond_true, cond_false])).symm.trans b20)) rfl (met rfl rfl rfl g34) rfl ca27 rfl rfl (cC (.agg _ _ _ _ (cC (.imm _) (cC (.imm _) (cC (.imm _) (cC (.imm _) (cC (.imm _) (cC (.imm _) (cC (.imm _) (cC (.imm _) (cC (.imm _) (cC (.imm _) (cC (.imm _) .nil)))))))))))) (cC (.agg _ _ _ _ (cC (.imm _) (cC (.imm _) (cC (.imm _) (cC (.imm _) (cC (.imm _) (cC (.imm _) (cC (.imm _) (cC (.imm _) (cC (.imm _) (cC (.imm _) (cC (.imm _) .nil)))))))))))) .nil)) rfl rfl rfl rfl rfl ?_
           refine .v rfl rfl (O.pickT g34 rfl rfl rfl) ?_
           refine .m rfl rfl rfl rfl ?_
           refine .x rfl (unmet rfl rfl rfl g35) ?_
           refine .x rfl (unmet rfl rfl rfl g35) ?_
           refine .x rfl (unmet rfl rfl rfl g35) ?_
           refine .v rfl rfl (O.pickF g35 rfl rfl rfl) ?_
           refine .m rfl rfl rfl rfl ?_
           refine .x rfl (unmet rfl rfl rfl rfl) ?_
           refine .x rfl (unmet rfl rfl rfl rfl) ?_
           refine .x rfl (unmet rfl rfl rfl rfl) ?_
           refine .v rfl rfl (O.pickF rfl rfl rfl rfl) ?_
           refine .m rfl rfl rfl rfl ?_
           refine .x rfl (unmet rfl rfl rfl rfl) ?_
           refine .x rfl (unmet rfl rfl rfl rfl) ?_
           refine .x rfl (unmet rfl rfl rfl rfl) ?_
           refine .v rfl rfl (O.pickF rfl rfl rfl rfl) ?_
           refine .m rfl rfl rfl rfl ?_
           refine .x rfl (unmet rfl rfl rfl rfl) ?_
           refine .v rfl rfl (O.pickF rfl rfl rfl rfl) ?_
           refine .a rfl rfl rfl rfl ?_
           refine .nil ?_
           exact toN (Gives.mkR [] (.c rfl (sbb (by first | (simp only [g29, g30, g31, g32, g33, g34, g35, Bool.true_or, Bool.or_true, Bool.false_or, Bool.or_false, Bool.true_and, Bool.and_true, Bool.false_and, Bool.and_false, Bool.not_true, Bool.not_false, cond_true, cond_false]; done) | (repeat (first | rw [g29] | rw [g30] | rw [g31] | rw [g32] | rw [g33] | rw [g34] | rw [g35])) <;> simp only [Bool.true_or, Bool.or_true, Bool.false_or, Bool.or_false, Bool.true_and, Bool.and_true, Bool.false_and, Bool.and_false, Bool.not_true, Bool.not_false, cond_true, cond_false])) rfl .n) .n rfl rfl rfl)
         ·refine W.pk ?_
          refine .m rfl rfl rfl rfl ?_
          refine .v rfl rfl (OpL.binI rfl rfl rfl rfl) ?_
          refine .m rfl rfl rfl rfl ?_
          refine .m rfl (met rfl rfl rfl g29) rfl rfl ?_
          refine .m rfl (met rfl rfl rfl g29) rfl rfl ?_
          refine .v rfl (met rfl rfl rfl g29) (OpL.binI rfl rfl rfl rfl) ?_
          refine .v rfl rfl (O.pickT g29 rfl rfl rfl) ?_
          refine .m rfl rfl rfl rfl ?_
          refine .m rfl (met rfl rfl rfl g30) rfl rfl ?_
          refine .m rfl (met rfl rfl rfl g30) rfl rfl ?_
          refine .v rfl (met rfl rfl rfl g30) (OpL.binI rfl rfl rfl rfl) ?_
          refine .v rfl rfl (O.pickT g30 rfl rfl rfl) ?_
          refine .m rfl rfl rfl rfl ?_
          refine .m rfl (met rfl rfl rfl g31) rfl rfl ?_
          refine .m rfl (met rfl rfl rfl g31) rfl rfl ?_
          refine .v rfl (met rfl rfl rfl g31) (OpL.binI rfl rfl rfl rfl) ?_
          refine .v rfl rfl (O.pickT g31 rfl rfl rfl) ?_
          refine .m rfl rfl rfl rfl ?_
          refine .m rfl (met rfl rfl rfl g32) rfl rfl ?_
          refine .m rfl (met rfl rfl rfl g32) rfl rfl ?_
          refine .v rfl (met rfl rfl rfl g32) (OpL.binI rfl rfl rfl rfl) ?_
          refine .v rfl rfl (O.pickT g32 rfl rfl rfl) ?_
          refine .m rfl rfl rfl rfl ?_
          refine .v rfl (met rfl rfl rfl g33) (O.ldN ty24 rfl rfl rfl) ?_
          refine .v rfl (met rfl rfl rfl g33) (O.ldN ty24 rfl rfl rfl) ?_
          refine .call (.b t17) [] 0 (lombardref23_Same.ok ((if_pos (by first | (simp only [g29, g30, g31, g32, g33, g34, Bool.true_or, Bool.or_true, Bool.false_or, Bool.or_false, Bool.true_and, Bool.and_true, Bool.false_and, Bool.and_false, Bool.not_true, Bool.not_false, cond_true, cond_false]; done) | (repeat (first | rw [g29] | rw [g30] | rw [g31] | rw [g32] | rw [g33] | rw [g34])) <;> simp only [Bool.true_or, Bool.or_true, Bool.false_or, Bool.or_false, Bool.true_and, Bool.and_true, Bool.false_and, Bool.and_false, Bool.not_true, Bool.not_false, cond_true, cond_false])).symm.trans b18)) rfl (met rfl rfl rfl g33) rfl ca27 rfl rfl (cC (.agg _ _ _ _ (cC (.imm _) (cC (.imm _) (cC (.imm _) (cC (.imm _) (cC (.imm _) (cC (.imm _) (cC (.imm _) (cC (.imm _) (cC (.imm _) (cC (.imm _) (cC (.imm _) .nil)))))))))))) (cC (.agg _ _ _ _ (cC (.imm _) (cC (.imm _) (cC (.imm _) (cC (.imm _) (cC (.imm _) (cC (.imm _) (cC (.imm _) (cC (.imm _) (cC (.imm _) (cC (.imm _) (cC (.imm _) .nil)))))))))))) .nil)) rfl rfl rfl rfl rfl ?_
          refine .v rfl rfl (O.pickT g33 rfl rfl rfl) ?_
          refine .m rfl rfl rfl rfl ?_
          refine .x rfl (unmet rfl rfl rfl g34) ?_
          refine .x rfl (unmet rfl rfl rfl g34) ?_
          refine .x rfl (unmet rfl rfl rfl g34) ?_
          refine .v rfl rfl (O.pickF g34 rfl rfl rfl) ?_
          refine .m rfl rfl rfl rfl ?_
          refine .x rfl (unmet rfl rfl rfl rfl) ?_
          refine .x rfl (unmet rfl rfl rfl rfl) ?_
          refine .x rfl (unmet rfl rfl rfl rfl) ?_
          refine .v rfl rfl (O.pickF rfl rfl rfl rfl) ?_
          refine .m rfl rfl rfl rfl ?_
          refine .x rfl (unmet rfl rfl rfl rfl) ?_
          refine .x rfl (unmet rfl rfl rfl rfl) ?_
          refine .x rfl (unmet rfl rfl rfl rfl) ?_
          refine .v rfl rfl (O.pickF rfl rfl rfl rfl) ?_
          refine .m rfl rfl rfl rfl ?_
          refine .x rfl (unmet rfl rfl rfl rfl) ?_
          refine .x rfl (unmet rfl rfl rfl rfl) ?_
          refine .x rfl (unmet rfl rfl rfl rfl) ?_
          refine .v rfl rfl (O.pickF rfl rfl rfl rfl) ?_
          refine .m rfl rfl rfl rfl ?_
          refine .x rfl (unmet rfl rfl rfl rfl) ?_
          refine .v rfl rfl (O.pickF rfl rfl rfl rfl) ?_
          refine .a rfl rfl rfl rfl ?_
          refine .nil ?_
          exact toN (Gives.mkR [] (.c rfl (sbb (by first | (simp only [g29, g30, g31, g32, g33, g34, Bool.true_or, Bool.or_true, Bool.false_or, Bool.or_false, Bool.true_and, Bool.and_true, Bool.false_and, Bool.and_false, Bool.not_true, Bool.not_false, cond_true, cond_false]; done) | (repeat (first | rw [g29] | rw [g30] | rw [g31] | rw [g32] | rw [g33] | rw [g34])) <;> simp only [Bool.true_or, Bool.or_true, Bool.false_or, Bool.or_false, Bool.true_and, Bool.and_true, Bool.false_and, Bool.and_false, Bool.not_true, Bool.not_false, cond_true, cond_false])) rfl .n) .n rfl rfl rfl)
        ·refine W.pk ?_
         refine .m rfl rfl rfl rfl ?_
         refine .v rfl rfl (OpL.binI rfl rfl rfl rfl) ?_
         refine .m rfl rfl rfl rfl ?_
         refine .m rfl (met rfl rfl rfl g29) rfl rfl ?_
         refine .m rfl (met rfl rfl rfl g29) rfl rfl ?_
         refine .v rfl (met rfl rfl rfl g29) (OpL.binI rfl rfl rfl rfl) ?_
         refine .v rfl rfl (O.pickT g29 rfl rfl rfl) ?_
         refine .m rfl rfl rfl rfl ?_
         refine .m rfl (met rfl rfl rfl g30) rfl rfl ?_
         refine .m rfl (met rfl rfl rfl g30) rfl rfl ?_
         refine .v rfl (met rfl rfl rfl g30) (OpL.binI rfl rfl rfl rfl) ?_
         refine .v rfl rfl (O.pickT g30 rfl rfl rfl) ?_
         refine .m rfl rfl rfl rfl ?_
         refine .m rfl (met rfl rfl rfl g31) rfl rfl ?_
         refine .m rfl (met rfl rfl rfl g31) rfl rfl ?_
         refine .v rfl (met rfl rfl rfl g31) (OpL.binI rfl rfl rfl rfl) ?_
         refine .v rfl rfl (O.pickT g31 rfl rfl rfl) ?_
         refine .m rfl rfl rfl rfl ?_
         refine .m rfl (met rfl rfl rfl g32) rfl rfl ?_
         refine .m rfl (met rfl rfl rfl g32) rfl rfl ?_
         refine .v rfl (met rfl rfl rfl g32) (OpL.binI rfl rfl rfl rfl) ?_
         refine .v rfl rfl (O.pickT g32 rfl rfl rfl) ?_
         refine .m rfl rfl rfl rfl ?_
         refine .x rfl (unmet rfl rfl rfl g33) ?_
         refine .x rfl (unmet rfl rfl rfl g33) ?_
         refine .x rfl (unmet rfl rfl rfl g33) ?_
         refine .v rfl rfl (O.pickF g33 rfl rfl rfl) ?_
         refine .m rfl rfl rfl rfl ?_
         refine .x rfl (unmet rfl rfl rfl rfl) ?_
         refine .x rfl (unmet rfl rfl rfl rfl) ?_
         refine .x rfl (unmet rfl rfl rfl rfl) ?_
         refine .v rfl rfl (O.pickF rfl rfl rfl rfl) ?_
         refine .m rfl rfl rfl rfl ?_
         refine .x rfl (unmet rfl rfl rfl rfl) ?_
         refine .x rfl (unmet rfl rfl rfl rfl) ?_
         refine .x rfl (unmet rfl rfl rfl rfl) ?_
         refine .v rfl rfl (O.pickF rfl rfl rfl rfl) ?_
         refine .m rfl rfl rfl rfl ?_
         refine .x rfl (unmet rfl rfl rfl rfl) ?_
         refine .x rfl (unmet rfl rfl rfl rfl) ?_
         refine .x rfl (unmet rfl rfl rfl rfl) ?_
         refine .v rfl rfl (O.pickF rfl rfl rfl rfl) ?_
         refine .m rfl rfl rfl rfl ?_
         refine .x rfl (unmet rfl rfl rfl rfl) ?_
         refine .x rfl (unmet rfl rfl rfl rfl) ?_
         refine .x rfl (unmet rfl rfl rfl rfl) ?_
         refine .v rfl rfl (O.pickF rfl rfl rfl rfl) ?_
         refine .m rfl rfl rfl rfl ?_
         refine .x rfl (unmet rfl rfl rfl rfl) ?_
         refine .v rfl rfl (O.pickF rfl rfl rfl rfl) ?_
         refine .a rfl rfl rfl rfl ?_
         refine .nil ?_
         exact toN (Gives.mkR [] (.c rfl (sbb (by first | (simp only [g29, g30, g31, g32, g33, Bool.true_or, Bool.or_true, Bool.false_or, Bool.or_false, Bool.true_and, Bool.and_true, Bool.false_and, Bool.and_false, Bool.not_true, Bool.not_false, cond_true, cond_false]; done) | (repeat (first | rw [g29] | rw [g30] | rw [g31] | rw [g32] | rw [g33])) <;> simp only [Bool.true_or, Bool.or_true, Bool.false_or, Bool.or_false, Bool.true_and, Bool.and_true, Bool.false_and, Bool.and_false, Bool.not_true, Bool.not_false, cond_true, cond_false])) rfl .n) .n rfl rfl rfl)
       ·refine W.pk ?_
        refine .m rfl rfl rfl rfl ?_
        refine .v rfl rfl (OpL.binI rfl rfl rfl rfl) ?_
        refine .m rfl rfl rfl rfl ?_
        refine .m rfl (met rfl rfl rfl g29) rfl rfl ?_
        refine .m rfl (met rfl rfl rfl g29) rfl rfl ?_
        refine .v rfl (met rfl rfl rfl g29) (OpL.binI rfl rfl rfl rfl) ?_
        refine .v rfl rfl (O.pickT g29 rfl rfl rfl) ?_
        refine .m rfl rfl rfl rfl ?_
        refine .m rfl (met rfl rfl rfl g30) rfl rfl ?_
        refine .m rfl (met rfl rfl rfl g30) rfl rfl ?_
        refine .v rfl (met rfl rfl rfl g30) (OpL.binI rfl rfl rfl rfl) ?_
        refine .v rfl rfl (O.pickT g30 rfl rfl rfl) ?_
        refine .m rfl rfl rfl rfl ?_
        refine .m rfl (met rfl rfl rfl g31) rfl rfl ?_
        refine .m rfl (met rfl rfl rfl g31) rfl rfl ?_
        refine .v rfl (met rfl rfl rfl g31) (OpL.binI rfl rfl rfl rfl) ?_
        refine .v rfl rfl (O.pickT g31 rfl rfl rfl) ?_
        refine .m rfl rfl rfl rfl ?_
        refine .x rfl (unmet rfl rfl rfl g32) ?_
        refine .x rfl (unmet rfl rfl rfl g32) ?_
        refine .x rfl (unmet rfl rfl rfl g32) ?_
        refine .v rfl rfl (O.pickF g32 rfl rfl rfl) ?_
        refine .m rfl rfl rfl rfl ?_
        refine .x rfl (unmet rfl rfl rfl rfl) ?_
        refine .x rfl (unmet rfl rfl rfl rfl) ?_
        refine .x rfl (unmet rfl rfl rfl rfl) ?_
        refine .v rfl rfl (O.pickF rfl rfl rfl rfl) ?_
        refine .m rfl rfl rfl rfl ?_
        refine .x rfl (unmet rfl rfl rfl rfl) ?_
        refine .x rfl (unmet rfl rfl rfl rfl) ?_
        refine .x rfl (unmet rfl rfl rfl rfl) ?_
        refine .v rfl rfl (O.pickF rfl rfl rfl rfl) ?_
        refine .m rfl rfl rfl rfl ?_
        refine .x rfl (unmet rfl rfl rfl rfl) ?_
        refine .x rfl (unmet rfl rfl rfl rfl) ?_
        refine .x rfl (unmet rfl rfl rfl rfl) ?_
        refine .v rfl rfl (O.pickF rfl rfl rfl rfl) ?_
        refine .m rfl rfl rfl rfl ?_
        refine .x rfl (unmet rfl rfl rfl rfl) ?_
        refine .x rfl (unmet rfl rfl rfl rfl) ?_
        refine .x rfl (unmet rfl rfl rfl rfl) ?_
        refine .v rfl rfl (O.pickF rfl rfl rfl rfl) ?_
        refine .m rfl rfl rfl rfl ?_
        refine .x rfl (unmet rfl rfl rfl rfl) ?_
        refine .x rfl (unmet rfl rfl rfl rfl) ?_
        refine .x rfl (unmet rfl rfl rfl rfl) ?_
        refine .v rfl rfl (O.pickF rfl rfl rfl rfl) ?_
        refine .m rfl rfl rfl rfl ?_
        refine .x rfl (unmet rfl rfl rfl rfl) ?_
        refine .v rfl rfl (O.pickF rfl rfl rfl rfl) ?_
        refine .a rfl rfl rfl rfl ?_
        refine .nil ?_
        exact toN (Gives.mkR [] (.c rfl (sbb (by first | (simp only [g29, g30, g31, g32, Bool.true_or, Bool.or_true, Bool.false_or, Bool.or_false, Bool.true_and, Bool.and_true, Bool.false_and, Bool.and_false, Bool.not_true, Bool.not_false, cond_true, cond_false]; done) | (repeat (first | rw [g29] | rw [g30] | rw [g31] | rw [g32])) <;> simp only [Bool.true_or, Bool.or_true, Bool.false_or, Bool.or_false, Bool.true_and, Bool.and_true, Bool.false_and, Bool.and_false, Bool.not_true, Bool.not_false, cond_true, cond_false])) rfl .n) .n rfl rfl rfl)
      ·refine W.pk ?_
       refine .m rfl rfl rfl rfl ?_
       refine .v rfl rfl (OpL.binI rfl rfl rfl rfl) ?_
       refine .m rfl rfl rfl rfl ?_
       refine .m rfl (met rfl rfl rfl g29) rfl rfl ?_
       refine .m rfl (met rfl rfl rfl g29) rfl rfl ?_
       refine .v rfl (met rfl rfl rfl g29) (OpL.binI rfl rfl rfl rfl) ?_
       refine .v rfl rfl (O.pickT g29 rfl rfl rfl) ?_
       refine .m rfl rfl rfl rfl ?_
       refine .m rfl (met rfl rfl rfl g30) rfl rfl ?_
       refine .m rfl (met rfl rfl rfl g30) rfl rfl ?_
       refine .v rfl (met rfl rfl rfl g30) (OpL.binI rfl rfl rfl rfl) ?_
       refine .v rfl rfl (O.pickT g30 rfl rfl rfl) ?_
       refine .m rfl rfl rfl rfl ?_
       refine .x rfl (unmet rfl rfl rfl g31) ?_
       refine .x rfl (unmet rfl rfl rfl g31) ?_
       refine .x rfl (unmet rfl rfl rfl g31) ?_
       refine .v rfl rfl (O.pickF g31 rfl rfl rfl) ?_
       refine .m rfl rfl rfl rfl ?_
       refine .x rfl (unmet rfl rfl rfl rfl) ?_
       refine .x rfl (unmet rfl rfl rfl rfl) ?_
       refine .x rfl (unmet rfl rfl rfl rfl) ?_
       refine .v rfl rfl (O.pickF rfl rfl rfl rfl) ?_
       refine .m rfl rfl rfl rfl ?_
       refine .x rfl (unmet rfl rfl rfl rfl) ?_
       refine .x rfl (unmet rfl rfl rfl rfl) ?_
       refine .x rfl (unmet rfl rfl rfl rfl) ?_
       refine .v rfl rfl (O.pickF rfl rfl rfl rfl) ?_
       refine .m rfl rfl rfl rfl ?_
       refine .x rfl (unmet rfl rfl rfl rfl) ?_
       refine .x rfl (unmet rfl rfl rfl rfl) ?_
       refine .x rfl (unmet rfl rfl rfl rfl) ?_
       refine .v rfl rfl (O.pickF rfl rfl rfl rfl) ?_
       refine .m rfl rfl rfl rfl ?_
       refine .x rfl (unmet rfl rfl rfl rfl) ?_
       refine .x rfl (unmet rfl rfl rfl rfl) ?_
       refine .x rfl (unmet rfl rfl rfl rfl) ?_
       refine .v rfl rfl (O.pickF rfl rfl rfl rfl) ?_
       refine .m rfl rfl rfl rfl ?_
       refine .x rfl (unmet rfl rfl rfl rfl) ?_
       refine .x rfl (unmet rfl rfl rfl rfl) ?_
       refine .x rfl (unmet rfl rfl rfl rfl) ?_
       refine .v rfl rfl (O.pickF rfl rfl rfl rfl) ?_
       refine .m rfl rfl rfl rfl ?_
       refine .x rfl (unmet rfl rfl rfl rfl) ?_
       refine .x rfl (unmet rfl rfl rfl rfl) ?_
       refine .x rfl (unmet rfl rfl rfl rfl) ?_
       refine .v rfl rfl (O.pickF rfl rfl rfl rfl) ?_
       refine .m rfl rfl rfl rfl ?_
       refine .x rfl (unmet rfl rfl rfl rfl) ?_
       refine .v rfl rfl (O.pickF rfl rfl rfl rfl) ?_
       refine .a rfl rfl rfl rfl ?_
       refine .nil ?_
       exact toN (Gives.mkR [] (.c rfl (sbb (by first | (simp only [g29, g30, g31, Bool.true_or, Bool.or_true, Bool.false_or, Bool.or_false, Bool.true_and, Bool.and_true, Bool.false_and, Bool.and_false, Bool.not_true, Bool.not_false, cond_true, cond_false]; done) | (repeat (first | rw [g29] | rw [g30] | rw [g31])) <;> simp only [Bool.true_or, Bool.or_true, Bool.false_or, Bool.or_false, Bool.true_and, Bool.and_true, Bool.false_and, Bool.and_false, Bool.not_true, Bool.not_false, cond_true, cond_false])) rfl .n) .n rfl rfl rfl)
     ·refine W.pk ?_
      refine .m rfl rfl rfl rfl ?_
      refine .v rfl rfl (OpL.binI rfl rfl rfl rfl) ?_
      refine .m rfl rfl rfl rfl ?_
      refine .m rfl (met rfl rfl rfl g29) rfl rfl ?_
      refine .m rfl (met rfl rfl rfl g29) rfl rfl ?_
      refine .v rfl (met rfl rfl rfl g29) (OpL.binI rfl rfl rfl rfl) ?_
      refine .v rfl rfl (O.pickT g29 rfl rfl rfl) ?_
      refine .m rfl rfl rfl rfl ?_
      refine .x rfl (unmet rfl rfl rfl g30) ?_
      refine .x rfl (unmet rfl rfl rfl g30) ?_
      refine .x rfl (unmet rfl rfl rfl g30) ?_
      refine .v rfl rfl (O.pickF g30 rfl rfl rfl) ?_
      refine .m rfl rfl rfl rfl ?_
      refine .x rfl (unmet rfl rfl rfl rfl) ?_
      refine .x rfl (unmet rfl rfl rfl rfl) ?_
      refine .x rfl (unmet rfl rfl rfl rfl) ?_
      refine .v rfl rfl (O.pickF rfl rfl rfl rfl) ?_
      refine .m rfl rfl rfl rfl ?_
      refine .x rfl (unmet rfl rfl rfl rfl) ?_
      refine .x rfl (unmet rfl rfl rfl rfl) ?_
      refine .x rfl (unmet rfl rfl rfl rfl) ?_
      refine .v rfl rfl (O.pickF rfl rfl rfl rfl) ?_
      refine .m rfl rfl rfl rfl ?_
      refine .x rfl (unmet rfl rfl rfl rfl) ?_
      refine .x rfl (unmet rfl rfl rfl rfl) ?_
      refine .x rfl (unmet rfl rfl rfl rfl) ?_
      refine .v rfl rfl (O.pickF rfl rfl rfl rfl) ?_
      refine .m rfl rfl rfl rfl ?_
      refine .x rfl (unmet rfl rfl rfl rfl) ?_
      refine .x rfl (unmet rfl rfl rfl rfl) ?_
      refine .x rfl (unmet rfl rfl rfl rfl) ?_
      refine .v rfl rfl (O.pickF rfl rfl rfl rfl) ?_
      refine .m rfl rfl rfl rfl ?_
      refine .x rfl (unmet rfl rfl rfl rfl) ?_
      refine .x rfl (unmet rfl rfl rfl rfl) ?_
      refine .x rfl (unmet rfl rfl rfl rfl) ?_
      refine .v rfl rfl (O.pickF rfl rfl rfl rfl) ?_
      refine .m rfl rfl rfl rfl ?_
      refine .x rfl (unmet rfl rfl rfl rfl) ?_
      refine .x rfl (unmet rfl rfl rfl rfl) ?_
      refine .x rfl (unmet rfl rfl rfl rfl) ?_
      refine .v rfl rfl (O.pickF rfl rfl rfl rfl) ?_
      refine .m rfl rfl rfl rfl ?_
      refine .x rfl (unmet rfl rfl rfl rfl) ?_
      refine .x rfl (unmet rfl rfl rfl rfl) ?_
      refine .x rfl (unmet rfl rfl rfl rfl) ?_
      refine .v rfl rfl (O.pickF rfl rfl rfl rfl) ?_
      refine .m rfl rfl rfl rfl ?_
      refine .x rfl (unmet rfl rfl rfl rfl) ?_
      refine .v rfl rfl (O.pickF rfl rfl rfl rfl) ?_
      refine .a rfl rfl rfl rfl ?_
      refine .nil ?_
      exact toN (Gives.mkR [] (.c rfl (sbb (by first | (simp only [g29, g30, Bool.true_or, Bool.or_true, Bool.false_or, Bool.or_false, Bool.true_and, Bool.and_true, Bool.false_and, Bool.and_false, Bool.not_true, Bool.not_false, cond_true, cond_false]; done) | (repeat (first | rw [g29] | rw [g30])) <;> simp only [Bool.true_or, Bool.or_true, Bool.false_or, Bool.or_false, Bool.true_and, Bool.and_true, Bool.false_and, Bool.and_false, Bool.not_true, Bool.not_false, cond_true, cond_false])) rfl .n) .n rfl rfl rfl)
    ·refine W.pk ?_
     refine .m rfl rfl rfl rfl ?_
     refine .v rfl rfl (OpL.binI rfl rfl rfl rfl) ?_
     refine .m rfl rfl rfl rfl ?_
     refine .x rfl (unmet rfl rfl rfl g29) ?_
     refine .x rfl (unmet rfl rfl rfl g29) ?_
     refine .x rfl (unmet rfl rfl rfl g29) ?_
     refine .v rfl rfl (O.pickF g29 rfl rfl rfl) ?_
     refine .m rfl rfl rfl rfl ?_
     refine .x rfl (unmet rfl rfl rfl rfl) ?_
     refine .x rfl (unmet rfl rfl rfl rfl) ?_
     refine .x rfl (unmet rfl rfl rfl rfl) ?_
     refine .v rfl rfl (O.pickF rfl rfl rfl rfl) ?_
     refine .m rfl rfl rfl rfl ?_
     refine .x rfl (unmet rfl rfl rfl rfl) ?_
     refine .x rfl (unmet rfl rfl rfl rfl) ?_
     refine .x rfl (unmet rfl rfl rfl rfl) ?_
     refine .v rfl rfl (O.pickF rfl rfl rfl rfl) ?_
     refine .m rfl rfl rfl rfl ?_
     refine .x rfl (unmet rfl rfl rfl rfl) ?_
     refine .x rfl (unmet rfl rfl rfl rfl) ?_
     refine .x rfl (unmet rfl rfl rfl rfl) ?_
     refine .v rfl rfl (O.pickF rfl rfl rfl rfl) ?_
     refine .m rfl rfl rfl rfl ?_
     refine .x rfl (unmet rfl rfl rfl rfl) ?_
     refine .x rfl (unmet rfl rfl rfl rfl) ?_
     refine .x rfl (unmet rfl rfl rfl rfl) ?_
     refine .v rfl rfl (O.pickF rfl rfl rfl rfl) ?_
     refine .m rfl rfl rfl rfl ?_
     refine .x rfl (unmet rfl rfl rfl rfl) ?_
     refine .x rfl (unmet rfl rfl rfl rfl) ?_
     refine .x rfl (unmet rfl rfl rfl rfl) ?_
     refine .v rfl rfl (O.pickF rfl rfl rfl rfl) ?_
     refine .m rfl rfl rfl rfl ?_
     refine .x rfl (unmet rfl rfl rfl rfl) ?_
     refine .x rfl (unmet rfl rfl rfl rfl) ?_
     refine .x rfl (unmet rfl rfl rfl rfl) ?_
     refine .v rfl rfl (O.pickF rfl rfl rfl rfl) ?_
     refine .m rfl rfl rfl rfl ?_
     refine .x rfl (unmet rfl rfl rfl rfl) ?_
     refine .x rfl (unmet rfl rfl rfl rfl) ?_
     refine .x rfl (unmet rfl rfl rfl rfl) ?_
     refine .v rfl rfl (O.pickF rfl rfl rfl rfl) ?_
     refine .m rfl rfl rfl rfl ?_
     refine .x rfl (unmet rfl rfl rfl rfl) ?_
     refine .x rfl (unmet rfl rfl rfl rfl) ?_
     refine .x rfl (unmet rfl rfl rfl rfl) ?_
     refine .v rfl rfl (O.pickF rfl rfl rfl rfl) ?_
     refine .m rfl rfl rfl rfl ?_
     refine .x rfl (unmet rfl rfl rfl rfl) ?_
     refine .v rfl rfl (O.pickF rfl rfl rfl rfl) ?_
     refine .a rfl rfl rfl rfl ?_
     refine .nil ?_
     exact toN (Gives.mkR [] (.c rfl (sbb (by simp only [g29, Bool.true_or, Bool.or_true, Bool.false_or, Bool.or_false, Bool.true_and, Bool.and_true, Bool.false_and, Bool.and_false, Bool.not_true, Bool.not_false, cond_true, cond_false])) rfl .n) .n rfl rfl rfl)
 ·clear h
  rcases tf t1 with g3 | g3
  ·refine W.pk ?_
   refine .v rfl rfl (O.ldN ty24 rfl rfl rfl) ?_
   refine .call (.b t1) [] 0 (lombardlaw24_good.ok b2) rfl rfl rfl ca9 rfl rfl (cC (.agg _ _ _ _ (cC (.imm _) (cC (.imm _) (cC (.imm _) (cC (.imm _) (cC (.imm _) (cC (.imm _) (cC (.imm _) (cC (.imm _) (cC (.imm _) (cC (.imm _) (cC (.imm _) .nil)))))))))))) .nil) rfl rfl rfl rfl rfl ?_
   refine .v rfl rfl (OpL.unV rfl rfl rfl) ?_
   refine .m rfl rfl rfl rfl ?_
   refine .v rfl (met rfl rfl rfl (notT g3)) (O.fld fld24_9 rfl rfl rfl) ?_
   refine .v rfl (met rfl rfl rfl (notT g3)) (O.ld (y := .i x0.Stage) ty3 rfl rfl rfl) ?_
   refine .v rfl (met rfl rfl rfl (notT g3)) (OpL.binI rfl rfl rfl rfl) ?_
   refine .v rfl rfl (O.pickF (notT g3) rfl rfl rfl) ?_
   refine .nil ?_
   exact toN (Gives.mkR [] (.r rfl rfl (.r rfl rfl (.r rfl rfl (.r rfl rfl (.c rfl (sbb (by simp only [g3, Bool.true_or, Bool.or_true, Bool.false_or, Bool.or_false, Bool.true_and, Bool.and_true, Bool.false_and, Bool.and_false, Bool.not_true, Bool.not_false, cond_true, cond_false])) rfl .n))))) (.r rfl rfl rfl (.r rfl rfl rfl .n)) rfl rfl rfl)
  ·refine W.pk ?_
   refine .v rfl rfl (O.ldN ty24 rfl rfl rfl) ?_
   refine .call (.b t1) [] 0 (lombardlaw24_good.ok b2) rfl rfl rfl ca9 rfl rfl (cC (.agg _ _ _ _ (cC (.imm _) (cC (.imm _) (cC (.imm _) (cC (.imm _) (cC (.imm _) (cC (.imm _) (cC (.imm _) (cC (.imm _) (cC (.imm _) (cC (.imm _) (cC (.imm _) .nil)))))))))))) .nil) rfl rfl rfl rfl rfl ?_
   refine .v rfl rfl (OpL.unV rfl rfl rfl) ?_
   refine .m rfl rfl rfl rfl ?_
   refine .x rfl (unmet rfl rfl rfl (notF g3)) ?_
   refine .x rfl (unmet rfl rfl rfl (notF g3)) ?_
   refine .x rfl (unmet rfl rfl rfl (notF g3)) ?_
   refine .v rfl rfl (O.pickT (notF g3) rfl rfl rfl) ?_
   refine .nil ?_
   exact toN (Gives.mkR [] (.r rfl rfl (.r rfl rfl (.r rfl rfl (.r rfl rfl (.c rfl (sbb (by simp only [g3, Bool.true_or, Bool.or_true, Bool.false_or, Bool.or_false, Bool.true_and, Bool.and_true, Bool.false_and, Bool.and_false, Bool.not_true, Bool.not_false, cond_true, cond_false])) rfl .n))))) (.r rfl rfl rfl (.r rfl rfl rfl .n)) rfl rfl rfl)
end Go.Proofs.Ytknfdnlhadjbaaa
