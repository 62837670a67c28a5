/- Shows what functions of the program come to, each as a plain function: written by a program of the author's for this claim. -/
import Derived.Test.YtknfdnlhadjbaaaGx8
namespace Go.Proofs.Ytknfdnlhadjbaaa
open Go Go.Pm
set_option linter.unusedVariables false
set_option linter.unusedSimpArgs false
noncomputable def lombardref24_Reset.f (x0 : api_Trade) (x1 : Int) (x2 : api_Reset) : Option (api_Trade × Int) :=
  if ((x0.End != 0) || (decide (x0.Stage > 3))) = true then
    some (x0, 8)
  else
    if ((decide (x2.Rate > 1000000)) || (decide (x2.Rate < (-1000000)))) = true then
      some (x0, 1)
    else
      (lombardref02_Good.f x1).bind fun t5 =>
      (if (!t5) = false then lombardref02_Good.f x2.Day else some default).bind fun t7 =>
      if (((((!t5) || (!t7)) || (decide (x2.Day ≤ x1))) || ((List.length x0.Resets : Int) == 0)) = false → (0 : Int) ≤ (IntKind.wrap .i64 ((List.length x0.Resets : Int) - 1)) ∧ (IntKind.wrap .i64 ((List.length x0.Resets : Int) - 1)) < (List.length x0.Resets : Int)) then
      if (((((!t5) || (!t7)) || (decide (x2.Day ≤ x1))) || ((List.length x0.Resets : Int) == 0)) || (decide (x2.Day ≤ ((nth x0.Resets (IntKind.wrap .i64 ((List.length x0.Resets : Int) - 1))).Day)))) = true then
        some (x0, 10)
      else
        if (decide ((List.length x0.Resets : Int) ≥ 64)) = true then
          some (x0, 2)
        else
          if (List.length ([] : List api_Reset) + List.length x0.Resets) * 16 ≤ 140737488355328 then
          if (List.length (([] : List api_Reset) ++ x0.Resets) + List.length [x2]) * 16 ≤ 140737488355328 then
          some ((⟨x0.ID, x0.Twin, x0.Member, x0.Side, x0.Basket, x0.Amount, x0.Start, x0.End, ((([] : List api_Reset) ++ x0.Resets) ++ [x2]), x0.Stage, x0.Short⟩ : api_Trade), 0)
          else none
          else none
      else none
set_option maxRecDepth 100000 in
set_option maxHeartbeats 4000000 in
theorem lombardref24_Reset.ok {x0 : api_Trade} {x1 : Int} {x2 : api_Reset} {r : api_Trade × Int} (h : lombardref24_Reset.f x0 x1 x2 = some r) : Pm.Spec prog 29 [.agg [.imm (.val (.int .i64 x0.ID)), .imm (.val (.int .i64 x0.Twin)), .imm (.val (.int .i64 x0.Member)), .imm (.val (.int .i64 x0.Side)), .imm (.val (.int .i64 x0.Basket)), .imm (.val (.int .i64 x0.Amount)), .imm (.val (.int .i64 x0.Start)), .imm (.val (.int .i64 x0.End)), .imm (.row 2 (List.map api_Reset.enc x0.Resets)), .imm (.val (.int .i64 x0.Stage)), .imm (.val (.bool x0.Short))], .imm (.val (.int .i64 x1)), .agg [.imm (.val (.int .i64 x2.Day)), .imm (.val (.int .i64 x2.Rate))]] (.tup [.agg [.imm (.val (.int .i64 r.1.ID)), .imm (.val (.int .i64 r.1.Twin)), .imm (.val (.int .i64 r.1.Member)), .imm (.val (.int .i64 r.1.Side)), .imm (.val (.int .i64 r.1.Basket)), .imm (.val (.int .i64 r.1.Amount)), .imm (.val (.int .i64 r.1.Start)), .imm (.val (.int .i64 r.1.End)), .imm (.row 2 (List.map api_Reset.enc r.1.Resets)), .imm (.val (.int .i64 r.1.Stage)), .imm (.val (.bool r.1.Short))], .imm (.val (.int .i64 r.2))]) [none, none, none] := by
 unfold lombardref24_Reset.f at h
 refine Pm.Spec.of_body Try.func29 rfl (by kernel_rfl) (Nat.le_of_ble_eq_true rfl) (Nat.le_of_ble_eq_true rfl) ?_
 refine W.ghost (σ' := (mkSt [(0, some (.agg (api_Trade.av x0))), (1, some (.i x1)), (2, some (.agg [.i x2.Day, .i x2.Rate]))] [] 1000)) (Gives.entry (.c rfl (.c rfl (.c rfl .n))) .n) ?_
 refine W.seq ?_
 refine W.pk ?_
 refine .t rfl rfl (O.box rfl rfl rfl rfl rfl) ?_
 refine .t rfl rfl (O.box rfl rfl rfl rfl rfl) ?_
 refine .t rfl rfl (O.alloc z24 rfl) ?_
 refine .a rfl rfl rfl rfl ?_
 refine .nil ?_
 refine W.seq ?_
 refine W.seq ?_
 refine W.fork (mkSt [(1, some (.i x1)), (3, some (.ptr 1000 0)), (5, some (.ptr 1001 0)), (6, some (.ptr 1002 0)), (16, some (.b ((x0.End != 0) || (decide (x0.Stage > 3)))))] [(1000, some (.box [.i x0.ID, .i x0.Twin, .i x0.Member, .i x0.Side, .i x0.Basket, .i x0.Amount, .i x0.Start, .i x0.End, .imm (.row 2 (List.map api_Reset.enc x0.Resets)), .i x0.Stage, .b x0.Short])), (1001, some (.box [.i x2.Day, .i x2.Rate])), (1002, some (.box [.i 0, .i 0, .i 0, .i 0, .i 0, .i 0, .i 0, .i 0, .imm (.val (.slice none 0 0)), .i 0, .b false]))] 1003) ?_ ?_
 ·refine W.cond rfl (fun q2 => ?_) (fun q2 => ?_)
  ·have h := ifT q2 h
   refine W.seq ?_
   refine W.pk ?_
   refine .v rfl rfl (O.ldN ty24 rfl rfl rfl) ?_
   refine .s rfl rfl (O.st ty24 rfl rfl rfl rfl rfl rfl rfl rfl rfl rfl (all' := [.i x0.ID, .i x0.Twin, .i x0.Member, .i x0.Side, .i x0.Basket, .i x0.Amount, .i x0.Start, .i x0.End, .imm (.row 2 (List.map api_Reset.enc x0.Resets)), .i x0.Stage, .b x0.Short]) rfl) ?_
   refine .a rfl rfl rfl rfl ?_
   refine .nil ?_
   refine W.ret ?_
   cases h
   exact leaves (.inr rfl) rfl (.tup _ _ _ _ (cC (.agg _ _ _ _ (cC (.imm _) (cC (.imm _) (cC (.imm _) (cC (.imm _) (cC (.imm _) (cC (.imm _) (cC (.imm _) (cC (.imm _) (cC (.imm _) (cC (.imm _) (cC (.imm _) .nil)))))))))))) (cC (.imm _) .nil))) (cN (cN (cN .nil))) rfl rfl
  ·have h := ifF q2 h
   refine W.skip ?_
   refine W.seq ?_
   refine W.seq ?_
   refine W.fork (mkSt [(1, some (.i x1)), (3, some (.ptr 1000 0)), (5, some (.ptr 1001 0)), (6, some (.ptr 1002 0)), (25, some (.b ((decide (x2.Rate > 1000000)) || (decide (x2.Rate < (-1000000))))))] [(1000, some (.box [.i x0.ID, .i x0.Twin, .i x0.Member, .i x0.Side, .i x0.Basket, .i x0.Amount, .i x0.Start, .i x0.End, .imm (.row 2 (List.map api_Reset.enc x0.Resets)), .i x0.Stage, .b x0.Short])), (1001, some (.box [.i x2.Day, .i x2.Rate])), (1002, some (.box [.i 0, .i 0, .i 0, .i 0, .i 0, .i 0, .i 0, .i 0, .imm (.val (.slice none 0 0)), .i 0, .b false]))] 1003) ?_ ?_
   ·refine W.cond rfl (fun q4 => ?_) (fun q4 => ?_)
    ·have h := ifT q4 h
     refine W.seq ?_
     refine W.pk ?_
     refine .v rfl rfl (O.ldN ty24 rfl rfl rfl) ?_
     refine .s rfl rfl (O.st ty24 rfl rfl rfl rfl rfl rfl rfl rfl rfl rfl (all' := [.i x0.ID, .i x0.Twin, .i x0.Member, .i x0.Side, .i x0.Basket, .i x0.Amount, .i x0.Start, .i x0.End, .imm (.row 2 (List.map api_Reset.enc x0.Resets)), .i x0.Stage, .b x0.Short]) rfl) ?_
     refine .a rfl rfl rfl rfl ?_
     refine .nil ?_
     refine W.ret ?_
     cases h
     exact leaves (.inr rfl) rfl (.tup _ _ _ _ (cC (.agg _ _ _ _ (cC (.imm _) (cC (.imm _) (cC (.imm _) (cC (.imm _) (cC (.imm _) (cC (.imm _) (cC (.imm _) (cC (.imm _) (cC (.imm _) (cC (.imm _) (cC (.imm _) .nil)))))))))))) (cC (.imm _) .nil))) (cN (cN (cN .nil))) rfl rfl
    ·have h := ifF q4 h
     refine W.skip ?_
     refine W.seq ?_
     refine W.pk ?_
     refine .v rfl rfl (O.fld fld24_8 rfl rfl rfl) ?_
     refine .v rfl rfl (O.ld (y := .imm (.row 2 (List.map api_Reset.enc x0.Resets))) ty22 rfl rfl rfl) ?_
     refine .v rfl rfl (O.lenR sl22 rfl rfl) ?_
     refine .a rfl rfl rfl rfl ?_
     refine .nil ?_
     refine W.seq ?_
     refine W.seq ?_
     obtain ⟨t5, b6, h⟩ := bnd1 h
     obtain ⟨t7, b8, h⟩ := bnd1 h
     obtain ⟨c9, h⟩ := chk h
     refine W.fork (mkSt [(3, some (.ptr 1000 0)), (5, some (.ptr 1001 0)), (6, some (.ptr 1002 0)), (8, some (.i (List.length x0.Resets : Int))), (60, some (.b (((((!t5) || (!t7)) || (decide (x2.Day ≤ x1))) || ((List.length x0.Resets : Int) == 0)) || (decide (x2.Day ≤ ((nth x0.Resets (IntKind.wrap .i64 ((List.length x0.Resets : Int) - 1))).Day))))))] [(1000, some (.box [.i x0.ID, .i x0.Twin, .i x0.Member, .i x0.Side, .i x0.Basket, .i x0.Amount, .i x0.Start, .i x0.End, .imm (.row 2 (List.map api_Reset.enc x0.Resets)), .i x0.Stage, .b x0.Short])), (1001, some (.box [.i x2.Day, .i x2.Rate])), (1002, some (.box [.i 0, .i 0, .i 0, .i 0, .i 0, .i 0, .i 0, .i 0, .imm (.val (.slice none 0 0)), .i 0, .b false]))] 1003) ?_ ?_
     ·refine W.cond rfl (fun q14 => ?_) (fun q14 => ?_)
      ·have h := ifT q14 h
       refine W.seq ?_
       refine W.pk ?_
       refine .v rfl rfl (O.ldN ty24 rfl rfl rfl) ?_
       refine .s rfl rfl (O.st ty24 rfl rfl rfl rfl rfl rfl rfl rfl rfl rfl (all' := [.i x0.ID, .i x0.Twin, .i x0.Member, .i x0.Side, .i x0.Basket, .i x0.Amount, .i x0.Start, .i x0.End, .imm (.row 2 (List.map api_Reset.enc x0.Resets)), .i x0.Stage, .b x0.Short]) rfl) ?_
       refine .a rfl rfl rfl rfl ?_
       refine .nil ?_
       refine W.ret ?_
       cases h
       exact leaves (.inr rfl) rfl (.tup _ _ _ _ (cC (.agg _ _ _ _ (cC (.imm _) (cC (.imm _) (cC (.imm _) (cC (.imm _) (cC (.imm _) (cC (.imm _) (cC (.imm _) (cC (.imm _) (cC (.imm _) (cC (.imm _) (cC (.imm _) .nil)))))))))))) (cC (.imm _) .nil))) (cN (cN (cN .nil))) rfl rfl
      ·have h := ifF q14 h
       refine W.skip ?_
       refine W.seq ?_
       refine W.seq ?_
       refine W.pk ?_
       refine .m rfl rfl rfl rfl ?_
       refine .v rfl rfl (OpL.binI rfl rfl rfl rfl) ?_
       refine .nil ?_
       refine W.cond rfl (fun q15 => ?_) (fun q15 => ?_)
       ·have h := ifT q15 h
        refine W.seq ?_
        refine W.pk ?_
        refine .v rfl rfl (O.ldN ty24 rfl rfl rfl) ?_
        refine .s rfl rfl (O.st ty24 rfl rfl rfl rfl rfl rfl rfl rfl rfl rfl (all' := [.i x0.ID, .i x0.Twin, .i x0.Member, .i x0.Side, .i x0.Basket, .i x0.Amount, .i x0.Start, .i x0.End, .imm (.row 2 (List.map api_Reset.enc x0.Resets)), .i x0.Stage, .b x0.Short]) rfl) ?_
        refine .a rfl rfl rfl rfl ?_
        refine .nil ?_
        refine W.ret ?_
        cases h
        exact leaves (.inr rfl) rfl (.tup _ _ _ _ (cC (.agg _ _ _ _ (cC (.imm _) (cC (.imm _) (cC (.imm _) (cC (.imm _) (cC (.imm _) (cC (.imm _) (cC (.imm _) (cC (.imm _) (cC (.imm _) (cC (.imm _) (cC (.imm _) .nil)))))))))))) (cC (.imm _) .nil))) (cN (cN (cN .nil))) rfl rfl
       ·have h := ifF q15 h
        refine W.skip ?_
        refine W.seq ?_
        obtain ⟨c16, h⟩ := chk h
        obtain ⟨c17, h⟩ := chk h
        refine W.dk (unm 9 [0, 0, 2, 7, 0, 16, 63, 127, 255]) rfl (by kernel_rfl) ?_
        refine .t rfl rfl (O.lit (enc := api_Reset.enc) (l := ([] : List api_Reset)) sl22 rfl rfl rfl rfl rfl rfl rfl rfl rfl) ?_
        refine .v rfl rfl (O.fld fld24_8 rfl rfl rfl) ?_
        refine .v rfl rfl (O.ld (y := .imm (.row 2 (List.map api_Reset.enc x0.Resets))) ty22 rfl rfl rfl) ?_
        refine .t rfl rfl (O.app sl22 api_Reset.ok c16 rfl rfl rfl rfl) ?_
        refine .v rfl rfl (O.ldN ty46 rfl rfl rfl) ?_
        refine .t rfl rfl (O.lit (enc := api_Reset.enc) (l := [x2]) sl22 rfl rfl rfl rfl rfl rfl rfl rfl rfl) ?_
        refine .t rfl rfl (O.appO sl22 api_Reset.ok c17 rfl rfl rfl rfl rfl) ?_
        refine .v rfl rfl (O.fld fld24_8 rfl rfl rfl) ?_
        refine .s rfl rfl (O.st ty22 rfl rfl rfl rfl rfl rfl rfl rfl rfl rfl (all' := [.i x0.ID, .i x0.Twin, .i x0.Member, .i x0.Side, .i x0.Basket, .i x0.Amount, .i x0.Start, .i x0.End, .own 1006, .i x0.Stage, .b x0.Short]) rfl) ?_
        refine .nil ?_
        refine ⟨by kernel_rfl, by kernel_rfl, ?_⟩
        refine W.seq ?_
        refine W.pk ?_
        refine .v rfl rfl (O.ldN ty24 rfl rfl rfl) ?_
        refine .s rfl rfl (O.st ty24 rfl rfl rfl rfl rfl rfl rfl rfl rfl rfl (all' := [.i x0.ID, .i x0.Twin, .i x0.Member, .i x0.Side, .i x0.Basket, .i x0.Amount, .i x0.Start, .i x0.End, .own 1006, .i x0.Stage, .b x0.Short]) rfl) ?_
        refine .a rfl rfl rfl rfl ?_
        refine .nil ?_
        refine W.ret ?_
        cases h
        exact leaves (.inr rfl) rfl (.tup _ _ _ _ (cC (.agg _ _ _ _ (cC (.imm _) (cC (.imm _) (cC (.imm _) (cC (.imm _) (cC (.imm _) (cC (.imm _) (cC (.imm _) (cC (.imm _) (cC (.lend _ _ _ _ _ rfl) (cC (.imm _) (cC (.imm _) .nil)))))))))))) (cC (.imm _) .nil))) (cN (cN (cN .nil))) rfl rfl
     ·clear h
      rcases tf t5 with g10 | g10
      ·rcases tf t7 with g11 | g11
       ·rcases tf (decide (x2.Day ≤ x1)) with g12 | g12
        ·refine W.dk (unm 31 [0, 1, 3, 7, 15, 31, 63, 127, 255, 511, 1023, 2047, 1023, 8191, 16383, 32767, 65535, 131071, 262143, 524287, 1048575, 2097151, 1048575, 5242879, 1048575, 17825791, 63963135, 131071999, 265289727, 536870911, 1073741823]) rfl (by kernel_rfl) ?_
         refine .m rfl rfl rfl rfl ?_
         refine .call (.b t5) [] 0 (lombardref02_Good.ok b6) rfl rfl rfl ca44 rfl rfl (cC (.imm _) .nil) rfl rfl rfl rfl rfl ?_
         refine .v rfl rfl (OpL.unV rfl rfl rfl) ?_
         refine .m rfl rfl rfl rfl ?_
         refine .v rfl (met rfl rfl rfl (notT g10)) (O.fld fld46_0 rfl rfl rfl) ?_
         refine .v rfl (met rfl rfl rfl (notT g10)) (O.ld (y := .i x2.Day) ty3 rfl rfl rfl) ?_
         refine .call (.b t7) [] 0 (lombardref02_Good.ok ((if_pos (by first | (simp only [g10, g11, g12, Bool.true_or, Bool.or_true, Bool.false_or, Bool.or_false, Bool.true_and, Bool.and_true, Bool.false_and, Bool.and_false, Bool.not_true, Bool.not_false, cond_true, cond_false]; done) | (repeat (first | rw [g10] | rw [g11] | rw [g12])) <;> simp only [Bool.true_or, Bool.or_true, Bool.false_or, Bool.or_false, Bool.true_and, Bool.and_true, Bool.false_and, Bool.and_false, Bool.not_true, Bool.not_false, cond_true, cond_false])).symm.trans b8)) rfl (met rfl rfl rfl (notT g10)) rfl ca44 rfl rfl (cC (.imm _) .nil) rfl rfl rfl rfl rfl ?_
         refine .v rfl (met rfl rfl rfl (notT g10)) (OpL.unV rfl rfl rfl) ?_
         refine .v rfl rfl (O.pickF (notT g10) rfl rfl rfl) ?_
         refine .m rfl rfl rfl rfl ?_
         refine .v rfl (met rfl rfl rfl (notT g11)) (O.fld fld46_0 rfl rfl rfl) ?_
         refine .v rfl (met rfl rfl rfl (notT g11)) (O.ld (y := .i x2.Day) ty3 rfl rfl rfl) ?_
         refine .m rfl (met rfl rfl rfl (notT g11)) rfl rfl ?_
         refine .v rfl (met rfl rfl rfl (notT g11)) (OpL.binI rfl rfl rfl rfl) ?_
         refine .v rfl rfl (O.pickF (notT g11) rfl rfl rfl) ?_
         refine .m rfl rfl rfl rfl ?_
         refine .x rfl (unmet rfl rfl rfl g12) ?_
         refine .x rfl (unmet rfl rfl rfl g12) ?_
         refine .v rfl rfl (O.pickT g12 rfl rfl rfl) ?_
         refine .m rfl rfl rfl rfl ?_
         refine .x rfl (unmet rfl rfl rfl rfl) ?_
         refine .x rfl (unmet rfl rfl rfl rfl) ?_
         refine .x rfl (unmet rfl rfl rfl rfl) ?_
         refine .x rfl (unmet rfl rfl rfl rfl) ?_
         refine .x rfl (unmet rfl rfl rfl rfl) ?_
         refine .x rfl (unmet rfl rfl rfl rfl) ?_
         refine .x rfl (unmet rfl rfl rfl rfl) ?_
         refine .x rfl (unmet rfl rfl rfl rfl) ?_
         refine .x rfl (unmet rfl rfl rfl rfl) ?_
         refine .x rfl (unmet rfl rfl rfl rfl) ?_
         refine .v rfl rfl (O.pickT rfl rfl rfl rfl) ?_
         refine .nil ?_
         refine ⟨by kernel_rfl, by kernel_rfl, ?_⟩
         exact toN (Gives.mkR [] (.r rfl rfl (.r rfl rfl (.r rfl rfl (.r rfl rfl (.c rfl (sbb (by first | (simp only [g10, g11, g12, Bool.true_or, Bool.or_true, Bool.false_or, Bool.or_false, Bool.true_and, Bool.and_true, Bool.false_and, Bool.and_false, Bool.not_true, Bool.not_false, cond_true, cond_false]; done) | (repeat (first | rw [g10] | rw [g11] | rw [g12])) <;> simp only [Bool.true_or, Bool.or_true, Bool.false_or, Bool.or_false, Bool.true_and, Bool.and_true, Bool.false_and, Bool.and_false, Bool.not_true, Bool.not_false, cond_true, cond_false])) rfl .n))))) (.r rfl rfl rfl (.r rfl rfl rfl (.r rfl rfl rfl .n))) rfl rfl rfl)
        ·rcases tf ((List.length x0.Resets : Int) == 0) with g13 | g13
         ·refine W.dk (unm 31 [0, 1, 3, 7, 15, 31, 63, 127, 255, 511, 1023, 2047, 1023, 8191, 16383, 32767, 65535, 131071, 262143, 524287, 1048575, 2097151, 1048575, 5242879, 1048575, 17825791, 63963135, 131071999, 265289727, 536870911, 1073741823]) rfl (by kernel_rfl) ?_
          refine .m rfl rfl rfl rfl ?_
          refine .call (.b t5) [] 0 (lombardref02_Good.ok b6) rfl rfl rfl ca44 rfl rfl (cC (.imm _) .nil) rfl rfl rfl rfl rfl ?_
          refine .v rfl rfl (OpL.unV rfl rfl rfl) ?_
          refine .m rfl rfl rfl rfl ?_
          refine .v rfl (met rfl rfl rfl (notT g10)) (O.fld fld46_0 rfl rfl rfl) ?_
          refine .v rfl (met rfl rfl rfl (notT g10)) (O.ld (y := .i x2.Day) ty3 rfl rfl rfl) ?_
          refine .call (.b t7) [] 0 (lombardref02_Good.ok ((if_pos (by first | (simp only [g10, g11, g12, g13, Bool.true_or, Bool.or_true, Bool.false_or, Bool.or_false, Bool.true_and, Bool.and_true, Bool.false_and, Bool.and_false, Bool.not_true, Bool.not_false, cond_true, cond_false]; done) | (repeat (first | rw [g10] | rw [g11] | rw [g12] | rw [g13])) <;> simp only [Bool.true_or, Bool.or_true, Bool.false_or, Bool.or_false, Bool.true_and, Bool.and_true, Bool.false_and, Bool.and_false, Bool.not_true, Bool.not_false, cond_true, cond_false])).symm.trans b8)) rfl (met rfl rfl rfl (notT g10)) rfl ca44 rfl rfl (cC (.imm _) .nil) rfl rfl rfl rfl rfl ?_
          refine .v rfl (met rfl rfl rfl (notT g10)) (OpL.unV rfl rfl rfl) ?_
          refine .v rfl rfl (O.pickF (notT g10) rfl rfl rfl) ?_
          refine .m rfl rfl rfl rfl ?_
          refine .v rfl (met rfl rfl rfl (notT g11)) (O.fld fld46_0 rfl rfl rfl) ?_
          refine .v rfl (met rfl rfl rfl (notT g11)) (O.ld (y := .i x2.Day) ty3 rfl rfl rfl) ?_
          refine .m rfl (met rfl rfl rfl (notT g11)) rfl rfl ?_
          refine .v rfl (met rfl rfl rfl (notT g11)) (OpL.binI rfl rfl rfl rfl) ?_
          refine .v rfl rfl (O.pickF (notT g11) rfl rfl rfl) ?_
          refine .m rfl rfl rfl rfl ?_
          refine .m rfl (met rfl rfl rfl g12) rfl rfl ?_
          refine .v rfl (met rfl rfl rfl g12) (OpL.binI rfl rfl rfl rfl) ?_
          refine .v rfl rfl (O.pickF g12 rfl rfl rfl) ?_
          refine .m rfl rfl rfl rfl ?_
          refine .x rfl (unmet rfl rfl rfl g13) ?_
          refine .x rfl (unmet rfl rfl rfl g13) ?_
          refine .x rfl (unmet rfl rfl rfl g13) ?_
          refine .x rfl (unmet rfl rfl rfl g13) ?_
          refine .x rfl (unmet rfl rfl rfl g13) ?_
          refine .x rfl (unmet rfl rfl rfl g13) ?_
          refine .x rfl (unmet rfl rfl rfl g13) ?_
          refine .x rfl (unmet rfl rfl rfl g13) ?_
          refine .x rfl (unmet rfl rfl rfl g13) ?_
          refine .x rfl (unmet rfl rfl rfl g13) ?_
          refine .v rfl rfl (O.pickT g13 rfl rfl rfl) ?_
          refine .nil ?_
          refine ⟨by kernel_rfl, by kernel_rfl, ?_⟩
          exact toN (Gives.mkR [] (.r rfl rfl (.r rfl rfl (.r rfl rfl (.r rfl rfl (.c rfl (sbb (by first | (simp only [g10, g11, g12, g13, Bool.true_or, Bool.or_true, Bool.false_or, Bool.or_false, Bool.true_and, Bool.and_true, Bool.false_and, Bool.and_false, Bool.not_true, Bool.not_false, cond_true, cond_false]; done) | (repeat (first | rw [g10] | rw [g11] | rw [g12] | rw [g13])) <;> simp only [Bool.true_or, Bool.or_true, Bool.false_or, Bool.or_false, Bool.true_and, Bool.and_true, Bool.false_and, Bool.and_false, Bool.not_true, Bool.not_false, cond_true, cond_false])) rfl .n))))) (.r rfl rfl rfl (.r rfl rfl rfl (.r rfl rfl rfl .n))) rfl rfl rfl)
         ·refine W.dk (unm 31 [0, 1, 3, 7, 15, 31, 63, 127, 255, 511, 1023, 2047, 1023, 8191, 16383, 32767, 65535, 131071, 262143, 524287, 1048575, 2097151, 1048575, 5242879, 1048575, 17825791, 63963135, 131071999, 265289727, 536870911, 1073741823]) rfl (by kernel_rfl) ?_
          refine .m rfl rfl rfl rfl ?_
          refine .call (.b t5) [] 0 (lombardref02_Good.ok b6) rfl rfl rfl ca44 rfl rfl (cC (.imm _) .nil) rfl rfl rfl rfl rfl ?_
          refine .v rfl rfl (OpL.unV rfl rfl rfl) ?_
          refine .m rfl rfl rfl rfl ?_
          refine .v rfl (met rfl rfl rfl (notT g10)) (O.fld fld46_0 rfl rfl rfl) ?_
          refine .v rfl (met rfl rfl rfl (notT g10)) (O.ld (y := .i x2.Day) ty3 rfl rfl rfl) ?_
          refine .call (.b t7) [] 0 (lombardref02_Good.ok ((if_pos (by first | (simp only [g10, g11, g12, g13, Bool.true_or, Bool.or_true, Bool.false_or, Bool.or_false, Bool.true_and, Bool.and_true, Bool.false_and, Bool.and_false, Bool.not_true, Bool.not_false, cond_true, cond_false]; done) | (repeat (first | rw [g10] | rw [g11] | rw [g12] | rw [g13])) <;> simp only [Bool.true_or, Bool.or_true, Bool.false_or, Bool.or_false, Bool.true_and, Bool.and_true, Bool.false_and, Bool.and_false, Bool.not_true, Bool.not_false, cond_true, cond_false])).symm.trans b8)) rfl (met rfl rfl rfl (notT g10)) rfl ca44 rfl rfl (cC (.imm _) .nil) rfl rfl rfl rfl rfl ?_
          refine .v rfl (met rfl rfl rfl (notT g10)) (OpL.unV rfl rfl rfl) ?_
          refine .v rfl rfl (O.pickF (notT g10) rfl rfl rfl) ?_
          refine .m rfl rfl rfl rfl ?_
          refine .v rfl (met rfl rfl rfl (notT g11)) (O.fld fld46_0 rfl rfl rfl) ?_
          refine .v rfl (met rfl rfl rfl (notT g11)) (O.ld (y := .i x2.Day) ty3 rfl rfl rfl) ?_
          refine .m rfl (met rfl rfl rfl (notT g11)) rfl rfl ?_
          refine .v rfl (met rfl rfl rfl (notT g11)) (OpL.binI rfl rfl rfl rfl) ?_
          refine .v rfl rfl (O.pickF (notT g11) rfl rfl rfl) ?_
          refine .m rfl rfl rfl rfl ?_
          refine .m rfl (met rfl rfl rfl g12) rfl rfl ?_
          refine .v rfl (met rfl rfl rfl g12) (OpL.binI rfl rfl rfl rfl) ?_
          refine .v rfl rfl (O.pickF g12 rfl rfl rfl) ?_
          refine .m rfl rfl rfl rfl ?_
          refine .v rfl (met rfl rfl rfl g13) (O.fld fld46_0 rfl rfl rfl) ?_
          refine .v rfl (met rfl rfl rfl g13) (O.ld (y := .i x2.Day) ty3 rfl rfl rfl) ?_
          refine .v rfl (met rfl rfl rfl g13) (O.fld fld24_8 rfl rfl rfl) ?_
          refine .v rfl (met rfl rfl rfl g13) (O.ld (y := .imm (.row 2 (List.map api_Reset.enc x0.Resets))) ty22 rfl rfl rfl) ?_
          refine .m rfl (met rfl rfl rfl g13) rfl rfl ?_
          refine .v rfl (met rfl rfl rfl g13) (OpL.binI rfl rfl rfl rfl) ?_
          refine .v rfl (met rfl rfl rfl g13) (O.idx sl22 (c9 (by first | (simp only [g10, g11, g12, g13, Bool.true_or, Bool.or_true, Bool.false_or, Bool.or_false, Bool.true_and, Bool.and_true, Bool.false_and, Bool.and_false, Bool.not_true, Bool.not_false, cond_true, cond_false]; done) | (repeat (first | rw [g10] | rw [g11] | rw [g12] | rw [g13])) <;> simp only [Bool.true_or, Bool.or_true, Bool.false_or, Bool.or_false, Bool.true_and, Bool.and_true, Bool.false_and, Bool.and_false, Bool.not_true, Bool.not_false, cond_true, cond_false])) rfl rfl rfl) ?_
          refine .v rfl (met rfl rfl rfl g13) (O.fld fld46_0 rfl rfl rfl) ?_
          refine .v rfl (met rfl rfl rfl g13) (O.ld (y := .i ((nth x0.Resets (IntKind.wrap .i64 ((List.length x0.Resets : Int) - 1))).Day)) ty3 rfl rfl rfl) ?_
          refine .v rfl (met rfl rfl rfl g13) (OpL.binI rfl rfl rfl rfl) ?_
          refine .v rfl rfl (O.pickF g13 rfl rfl rfl) ?_
          refine .nil ?_
          refine ⟨by kernel_rfl, by kernel_rfl, ?_⟩
          exact toN (Gives.mkR [] (.r rfl rfl (.r rfl rfl (.r rfl rfl (.r rfl rfl (.c rfl (sbb (by first | (simp only [g10, g11, g12, g13, Bool.true_or, Bool.or_true, Bool.false_or, Bool.or_false, Bool.true_and, Bool.and_true, Bool.false_and, Bool.and_false, Bool.not_true, Bool.not_false, cond_true, cond_false]; done) | (repeat (first | rw [g10] | rw [g11] | rw [g12] | rw [g13])) <;> simp only [Bool.true_or, Bool.or_true, Bool.false_or, Bool.or_false, Bool.true_and, Bool.and_true, Bool.false_and, Bool.and_false, Bool.not_true, Bool.not_false, cond_true, cond_false])) rfl .n))))) (.r rfl rfl rfl (.r rfl rfl rfl (.r rfl rfl rfl .n))) rfl rfl rfl)
       ·refine W.dk (unm 31 [0, 1, 3, 7, 15, 31, 63, 127, 255, 511, 1023, 2047, 1023, 8191, 16383, 32767, 65535, 131071, 262143, 524287, 1048575, 2097151, 1048575, 5242879, 1048575, 17825791, 63963135, 131071999, 265289727, 536870911, 1073741823]) rfl (by kernel_rfl) ?_
        refine .m rfl rfl rfl rfl ?_
        refine .call (.b t5) [] 0 (lombardref02_Good.ok b6) rfl rfl rfl ca44 rfl rfl (cC (.imm _) .nil) rfl rfl rfl rfl rfl ?_
        refine .v rfl rfl (OpL.unV rfl rfl rfl) ?_
        refine .m rfl rfl rfl rfl ?_
        refine .v rfl (met rfl rfl rfl (notT g10)) (O.fld fld46_0 rfl rfl rfl) ?_
        refine .v rfl (met rfl rfl rfl (notT g10)) (O.ld (y := .i x2.Day) ty3 rfl rfl rfl) ?_
        refine .call (.b t7) [] 0 (lombardref02_Good.ok ((if_pos (by first | (simp only [g10, g11, Bool.true_or, Bool.or_true, Bool.false_or, Bool.or_false, Bool.true_and, Bool.and_true, Bool.false_and, Bool.and_false, Bool.not_true, Bool.not_false, cond_true, cond_false]; done) | (repeat (first | rw [g10] | rw [g11])) <;> simp only [Bool.true_or, Bool.or_true, Bool.false_or, Bool.or_false, Bool.true_and, Bool.and_true, Bool.false_and, Bool.and_false, Bool.not_true, Bool.not_false, cond_true, cond_false])).symm.trans b8)) rfl (met rfl rfl rfl (notT g10)) rfl ca44 rfl rfl (cC (.imm _) .nil) rfl rfl rfl rfl rfl ?_
        refine .v rfl (met rfl rfl rfl (notT g10)) (OpL.unV rfl rfl rfl) ?_
        refine .v rfl rfl (O.pickF (notT g10) rfl rfl rfl) ?_
        refine .m rfl rfl rfl rfl ?_
        refine .x rfl (unmet rfl rfl rfl (notF g11)) ?_
        refine .x rfl (unmet rfl rfl rfl (notF g11)) ?_
        refine .x rfl (unmet rfl rfl rfl (notF g11)) ?_
        refine .x rfl (unmet rfl rfl rfl (notF g11)) ?_
        refine .v rfl rfl (O.pickT (notF g11) rfl rfl rfl) ?_
        refine .m rfl rfl rfl rfl ?_
        refine .x rfl (unmet rfl rfl rfl rfl) ?_
        refine .x rfl (unmet rfl rfl rfl rfl) ?_
        refine .v rfl rfl (O.pickT rfl rfl rfl rfl) ?_
        refine .m rfl rfl rfl rfl ?_
        refine .x rfl (unmet rfl rfl rfl rfl) ?_
        refine .x rfl (unmet rfl rfl rfl rfl) ?_
        refine .x rfl (unmet rfl rfl rfl rfl) ?_
        refine .x rfl (unmet rfl rfl rfl rfl) ?_
        refine .x rfl (unmet rfl rfl rfl rfl) ?_
        refine .x rfl (unmet rfl rfl rfl rfl) ?_
        refine .x rfl (unmet rfl rfl rfl rfl) ?_
        refine .x rfl (unmet rfl rfl rfl rfl) ?_
        refine .x rfl (unmet rfl rfl rfl rfl) ?_
        refine .x rfl (unmet rfl rfl rfl rfl) ?_
        refine .v rfl rfl (O.pickT rfl rfl rfl rfl) ?_
        refine .nil ?_
        refine ⟨by kernel_rfl, by kernel_rfl, ?_⟩
        exact toN (Gives.mkR [] (.r rfl rfl (.r rfl rfl (.r rfl rfl (.r rfl rfl (.c rfl (sbb (by first | (simp only [g10, g11, Bool.true_or, Bool.or_true, Bool.false_or, Bool.or_false, Bool.true_and, Bool.and_true, Bool.false_and, Bool.and_false, Bool.not_true, Bool.not_false, cond_true, cond_false]; done) | (repeat (first | rw [g10] | rw [g11])) <;> simp only [Bool.true_or, Bool.or_true, Bool.false_or, Bool.or_false, Bool.true_and, Bool.and_true, Bool.false_and, Bool.and_false, Bool.not_true, Bool.not_false, cond_true, cond_false])) rfl .n))))) (.r rfl rfl rfl (.r rfl rfl rfl (.r rfl rfl rfl .n))) rfl rfl rfl)
      ·refine W.dk (unm 31 [0, 1, 3, 7, 15, 31, 63, 127, 255, 511, 1023, 2047, 1023, 8191, 16383, 32767, 65535, 131071, 262143, 524287, 1048575, 2097151, 1048575, 5242879, 1048575, 17825791, 63963135, 131071999, 265289727, 536870911, 1073741823]) rfl (by kernel_rfl) ?_
       refine .m rfl rfl rfl rfl ?_
       refine .call (.b t5) [] 0 (lombardref02_Good.ok b6) rfl rfl rfl ca44 rfl rfl (cC (.imm _) .nil) rfl rfl rfl rfl rfl ?_
       refine .v rfl rfl (OpL.unV rfl rfl rfl) ?_
       refine .m rfl rfl rfl rfl ?_
       refine .x rfl (unmet rfl rfl rfl (notF g10)) ?_
       refine .x rfl (unmet rfl rfl rfl (notF g10)) ?_
       refine .x rfl (unmet rfl rfl rfl (notF g10)) ?_
       refine .x rfl (unmet rfl rfl rfl (notF g10)) ?_
       refine .v rfl rfl (O.pickT (notF g10) rfl rfl rfl) ?_
       refine .m rfl rfl rfl rfl ?_
       refine .x rfl (unmet rfl rfl rfl rfl) ?_
       refine .x rfl (unmet rfl rfl rfl rfl) ?_
       refine .x rfl (unmet rfl rfl rfl rfl) ?_
       refine .x rfl (unmet rfl rfl rfl rfl) ?_
       refine .v rfl rfl (O.pickT rfl rfl rfl rfl) ?_
       refine .m rfl rfl rfl rfl ?_
       refine .x rfl (unmet rfl rfl rfl rfl) ?_
       refine .x rfl (unmet rfl rfl rfl rfl) ?_
       refine .v rfl rfl (O.pickT rfl rfl rfl rfl) ?_
       refine .m rfl rfl rfl rfl ?_
       refine .x rfl (unmet rfl rfl rfl rfl) ?_
       refine .x rfl (unmet rfl rfl rfl rfl) ?_
       refine .x rfl (unmet rfl rfl rfl rfl) ?_
       refine .x rfl (unmet rfl rfl rfl rfl) ?_
       refine .x rfl (unmet rfl rfl rfl rfl) ?_
       refine .x rfl (unmet rfl rfl rfl rfl) ?_
       refine .x rfl (unmet rfl rfl rfl rfl) ?_
       refine .x rfl (unmet rfl rfl rfl rfl) ?_
       refine .x rfl (unmet rfl rfl rfl rfl) ?_
       refine .x rfl (unmet rfl rfl rfl rfl) ?_
       refine .v rfl rfl (O.pickT rfl rfl rfl rfl) ?_
       refine .nil ?_
       refine ⟨by kernel_rfl, by kernel_rfl, ?_⟩
       exact toN (Gives.mkR [] (.r rfl rfl (.r rfl rfl (.r rfl rfl (.r rfl rfl (.c rfl (sbb (by simp only [g10, Bool.true_or, Bool.or_true, Bool.false_or, Bool.or_false, Bool.true_and, Bool.and_true, Bool.false_and, Bool.and_false, Bool.not_true, Bool.not_false, cond_true, cond_false])) rfl .n))))) (.r rfl rfl rfl (.r rfl rfl rfl (.r rfl rfl rfl .n))) rfl rfl rfl)
   ·clear h
    rcases tf (decide (x2.Rate > 1000000)) with g3 | g3
    ·refine W.pk ?_
     refine .v rfl rfl (O.fld fld46_1 rfl rfl rfl) ?_
     refine .v rfl rfl (O.ld (y := .i x2.Rate) ty3 rfl rfl rfl) ?_
     refine .v rfl rfl (OpL.binI rfl rfl rfl rfl) ?_
     refine .m rfl rfl rfl rfl ?_
     refine .x rfl (unmet rfl rfl rfl g3) ?_
     refine .x rfl (unmet rfl rfl rfl g3) ?_
     refine .x rfl (unmet rfl rfl rfl g3) ?_
     refine .v rfl rfl (O.pickT g3 rfl rfl rfl) ?_
     refine .nil ?_
     exact toN (Gives.mkR [] (.r rfl rfl (.r rfl rfl (.r rfl rfl (.r rfl rfl (.c rfl (sbb (by simp only [g3, Bool.true_or, Bool.or_true, Bool.false_or, Bool.or_false, Bool.true_and, Bool.and_true, Bool.false_and, Bool.and_false, Bool.not_true, Bool.not_false, cond_true, cond_false])) rfl .n))))) (.r rfl rfl rfl (.r rfl rfl rfl (.r rfl rfl rfl .n))) rfl rfl rfl)
    ·refine W.pk ?_
     refine .v rfl rfl (O.fld fld46_1 rfl rfl rfl) ?_
     refine .v rfl rfl (O.ld (y := .i x2.Rate) ty3 rfl rfl rfl) ?_
     refine .v rfl rfl (OpL.binI rfl rfl rfl rfl) ?_
     refine .m rfl rfl rfl rfl ?_
     refine .v rfl (met rfl rfl rfl g3) (O.fld fld46_1 rfl rfl rfl) ?_
     refine .v rfl (met rfl rfl rfl g3) (O.ld (y := .i x2.Rate) ty3 rfl rfl rfl) ?_
     refine .v rfl (met rfl rfl rfl g3) (OpL.binI rfl rfl rfl rfl) ?_
     refine .v rfl rfl (O.pickF g3 rfl rfl rfl) ?_
     refine .nil ?_
     exact toN (Gives.mkR [] (.r rfl rfl (.r rfl rfl (.r rfl rfl (.r rfl rfl (.c rfl (sbb (by simp only [g3, Bool.true_or, Bool.or_true, Bool.false_or, Bool.or_false, Bool.true_and, Bool.and_true, Bool.false_and, Bool.and_false, Bool.not_true, Bool.not_false, cond_true, cond_false])) rfl .n))))) (.r rfl rfl rfl (.r rfl rfl rfl (.r rfl rfl rfl .n))) rfl rfl rfl)
 ·clear h
  rcases tf (x0.End != 0) with g1 | g1
  ·refine W.pk ?_
   refine .v rfl rfl (O.fld fld24_7 rfl rfl rfl) ?_
   refine .v rfl rfl (O.ld (y := .i x0.End) ty3 rfl rfl rfl) ?_
   refine .v rfl rfl (OpL.binI rfl rfl rfl rfl) ?_
   refine .m rfl rfl rfl rfl ?_
   refine .x rfl (unmet rfl rfl rfl g1) ?_
   refine .x rfl (unmet rfl rfl rfl g1) ?_
   refine .x rfl (unmet rfl rfl rfl g1) ?_
   refine .v rfl rfl (O.pickT g1 rfl rfl rfl) ?_
   refine .nil ?_
   exact toN (Gives.mkR [] (.r rfl rfl (.r rfl rfl (.r rfl rfl (.r rfl rfl (.c rfl (sbb (by simp only [g1, Bool.true_or, Bool.or_true, Bool.false_or, Bool.or_false, Bool.true_and, Bool.and_true, Bool.false_and, Bool.and_false, Bool.not_true, Bool.not_false, cond_true, cond_false])) rfl .n))))) (.r rfl rfl rfl (.r rfl rfl rfl (.r rfl rfl rfl .n))) rfl rfl rfl)
  ·refine W.pk ?_
   refine .v rfl rfl (O.fld fld24_7 rfl rfl rfl) ?_
   refine .v rfl rfl (O.ld (y := .i x0.End) ty3 rfl rfl rfl) ?_
   refine .v rfl rfl (OpL.binI rfl rfl rfl rfl) ?_
   refine .m rfl rfl rfl rfl ?_
   refine .v rfl (met rfl rfl rfl g1) (O.fld fld24_9 rfl rfl rfl) ?_
   refine .v rfl (met rfl rfl rfl g1) (O.ld (y := .i x0.Stage) ty3 rfl rfl rfl) ?_
   refine .v rfl (met rfl rfl rfl g1) (OpL.binI rfl rfl rfl rfl) ?_
   refine .v rfl rfl (O.pickF g1 rfl rfl rfl) ?_
   refine .nil ?_
   exact toN (Gives.mkR [] (.r rfl rfl (.r rfl rfl (.r rfl rfl (.r rfl rfl (.c rfl (sbb (by simp only [g1, Bool.true_or, Bool.or_true, Bool.false_or, Bool.or_false, Bool.true_and, Bool.and_true, Bool.false_and, Bool.and_false, Bool.not_true, Bool.not_false, cond_true, cond_false])) rfl .n))))) (.r rfl rfl rfl (.r rfl rfl rfl (.r rfl rfl rfl .n))) rfl rfl rfl)

noncomputable def life_Close.f (x0 : api_Trade) (x1 : Int) : Option (api_Trade × Int) :=
  (life_Live.f x0).bind fun t1 =>
  (if (!t1) = false then life_Open.f x0 else some default).bind fun t3 =>
  if ((!t1) || t3) = true then
    some (x0, 8)
  else
    (calendar_Good.f x1).bind fun t7 =>
    if ((!t7) || (decide (x1 < x0.End))) = true then
      some (x0, 10)
    else
      some ((⟨x0.ID, x0.Twin, x0.Member, x0.Side, x0.Basket, x0.Amount, x0.Start, x0.End, x0.Resets, 4, x0.Short⟩ : api_Trade), 0)
set_option maxRecDepth 100000 in
set_option maxHeartbeats 4000000 in
theorem life_Close.ok {x0 : api_Trade} {x1 : Int} {r : api_Trade × Int} (h : life_Close.f x0 x1 = some r) : Pm.Spec prog 30 [.agg [.imm (.val (.int .i64 x0.ID)), .imm (.val (.int .i64 x0.Twin)), .imm (.val (.int .i64 x0.Member)), .imm (.val (.int .i64 x0.Side)), .imm (.val (.int .i64 x0.Basket)), .imm (.val (.int .i64 x0.Amount)), .imm (.val (.int .i64 x0.Start)), .imm (.val (.int .i64 x0.End)), .imm (.row 2 (List.map api_Reset.enc x0.Resets)), .imm (.val (.int .i64 x0.Stage)), .imm (.val (.bool x0.Short))], .imm (.val (.int .i64 x1))] (.tup [.agg [.imm (.val (.int .i64 r.1.ID)), .imm (.val (.int .i64 r.1.Twin)), .imm (.val (.int .i64 r.1.Member)), .imm (.val (.int .i64 r.1.Side)), .imm (.val (.int .i64 r.1.Basket)), .imm (.val (.int .i64 r.1.Amount)), .imm (.val (.int .i64 r.1.Start)), .imm (.val (.int .i64 r.1.End)), .imm (.row 2 (List.map api_Reset.enc r.1.Resets)), .imm (.val (.int .i64 r.1.Stage)), .imm (.val (.bool r.1.Short))], .imm (.val (.int .i64 r.2))]) [none, none] := by
 unfold life_Close.f at h
 refine Pm.Spec.of_body Try.func30 rfl (by kernel_rfl) (Nat.le_of_ble_eq_true rfl) (Nat.le_of_ble_eq_true rfl) ?_
 refine W.ghost (σ' := (mkSt [(0, some (.agg (api_Trade.av x0))), (1, some (.i x1))] [] 1000)) (Gives.entry (.c rfl (.c rfl .n)) .n) ?_
 refine W.seq ?_
 refine W.pk ?_
 refine .t rfl rfl (O.box rfl rfl rfl rfl rfl) ?_
 refine .t rfl rfl (O.alloc z24 rfl) ?_
 refine .a rfl rfl rfl rfl ?_
 refine .nil ?_
 refine W.seq ?_
 refine W.block ?_
 refine W.seq ?_
 obtain ⟨t1, b2, h⟩ := bnd1 h
 obtain ⟨t3, b4, h⟩ := bnd1 h
 refine W.fork (mkSt [(1, some (.i x1)), (2, some (.ptr 1000 0)), (4, some (.ptr 1001 0)), (6, some (.b ((!t1) || t3)))] [(1000, some (.box [.i x0.ID, .i x0.Twin, .i x0.Member, .i x0.Side, .i x0.Basket, .i x0.Amount, .i x0.Start, .i x0.End, .imm (.row 2 (List.map api_Reset.enc x0.Resets)), .i x0.Stage, .b x0.Short])), (1001, some (.box [.i 0, .i 0, .i 0, .i 0, .i 0, .i 0, .i 0, .i 0, .imm (.val (.slice none 0 0)), .i 0, .b false]))] 1002) ?_ ?_
 ·refine W.cond rfl (fun q6 => ?_) (fun q6 => ?_)
  ·have h := ifT q6 h
   refine W.seq ?_
   refine W.pk ?_
   refine .v rfl rfl (O.ldN ty24 rfl rfl rfl) ?_
   refine .s rfl rfl (O.st ty24 rfl rfl rfl rfl rfl rfl rfl rfl rfl rfl (all' := [.i x0.ID, .i x0.Twin, .i x0.Member, .i x0.Side, .i x0.Basket, .i x0.Amount, .i x0.Start, .i x0.End, .imm (.row 2 (List.map api_Reset.enc x0.Resets)), .i x0.Stage, .b x0.Short]) rfl) ?_
   refine .a rfl rfl rfl rfl ?_
   refine .nil ?_
   refine W.ret ?_
   cases h
   exact leaves (.inr rfl) rfl (.tup _ _ _ _ (cC (.agg _ _ _ _ (cC (.imm _) (cC (.imm _) (cC (.imm _) (cC (.imm _) (cC (.imm _) (cC (.imm _) (cC (.imm _) (cC (.imm _) (cC (.imm _) (cC (.imm _) (cC (.imm _) .nil)))))))))))) (cC (.imm _) .nil))) (cN (cN .nil)) rfl rfl
  ·have h := ifF q6 h
   refine W.seq ?_
   obtain ⟨t7, b8, h⟩ := bnd1 h
   refine W.fork (mkSt [(2, some (.ptr 1000 0)), (4, some (.ptr 1001 0)), (15, some (.b ((!t7) || (decide (x1 < x0.End)))))] [(1000, some (.box [.i x0.ID, .i x0.Twin, .i x0.Member, .i x0.Side, .i x0.Basket, .i x0.Amount, .i x0.Start, .i x0.End, .imm (.row 2 (List.map api_Reset.enc x0.Resets)), .i x0.Stage, .b x0.Short])), (1001, some (.box [.i 0, .i 0, .i 0, .i 0, .i 0, .i 0, .i 0, .i 0, .imm (.val (.slice none 0 0)), .i 0, .b false]))] 1002) ?_ ?_
   ·refine W.cond rfl (fun q10 => ?_) (fun q10 => ?_)
    ·have h := ifT q10 h
     refine W.seq ?_
     refine W.pk ?_
     refine .v rfl rfl (O.ldN ty24 rfl rfl rfl) ?_
     refine .s rfl rfl (O.st ty24 rfl rfl rfl rfl rfl rfl rfl rfl rfl rfl (all' := [.i x0.ID, .i x0.Twin, .i x0.Member, .i x0.Side, .i x0.Basket, .i x0.Amount, .i x0.Start, .i x0.End, .imm (.row 2 (List.map api_Reset.enc x0.Resets)), .i x0.Stage, .b x0.Short]) rfl) ?_
     refine .a rfl rfl rfl rfl ?_
     refine .nil ?_
     refine W.ret ?_
     cases h
     exact leaves (.inr rfl) rfl (.tup _ _ _ _ (cC (.agg _ _ _ _ (cC (.imm _) (cC (.imm _) (cC (.imm _) (cC (.imm _) (cC (.imm _) (cC (.imm _) (cC (.imm _) (cC (.imm _) (cC (.imm _) (cC (.imm _) (cC (.imm _) .nil)))))))))))) (cC (.imm _) .nil))) (cN (cN .nil)) rfl rfl
    ·have h := ifF q10 h
     refine W.skip ?_
     refine W.seq ?_
     refine W.pk ?_
     refine .v rfl rfl (O.fld fld24_9 rfl rfl rfl) ?_
     refine .s rfl rfl (O.st ty3 rfl rfl rfl rfl rfl rfl rfl rfl rfl rfl (all' := [.i x0.ID, .i x0.Twin, .i x0.Member, .i x0.Side, .i x0.Basket, .i x0.Amount, .i x0.Start, .i x0.End, .imm (.row 2 (List.map api_Reset.enc x0.Resets)), .i 4, .b x0.Short]) rfl) ?_
     refine .nil ?_
     refine W.seq ?_
     refine W.pk ?_
     refine .v rfl rfl (O.ldN ty24 rfl rfl rfl) ?_
     refine .s rfl rfl (O.st ty24 rfl rfl rfl rfl rfl rfl rfl rfl rfl rfl (all' := [.i x0.ID, .i x0.Twin, .i x0.Member, .i x0.Side, .i x0.Basket, .i x0.Amount, .i x0.Start, .i x0.End, .imm (.row 2 (List.map api_Reset.enc x0.Resets)), .i 4, .b x0.Short]) rfl) ?_
     refine .a rfl rfl rfl rfl ?_
     refine .nil ?_
     refine W.ret ?_
     cases h
     exact leaves (.inr rfl) rfl (.tup _ _ _ _ (cC (.agg _ _ _ _ (cC (.imm _) (cC (.imm _) (cC (.imm _) (cC (.imm _) (cC (.imm _) (cC (.imm _) (cC (.imm _) (cC (.imm _) (cC (.imm _) (cC (.imm _) (cC (.imm _) .nil)))))))))))) (cC (.imm _) .nil))) (cN (cN .nil)) rfl rfl
   ·clear h
    rcases tf t7 with g9 | g9
    ·refine W.pk ?_
     refine .m rfl rfl rfl rfl ?_
     refine .call (.b t7) [] 0 (calendar_Good.ok b8) rfl rfl rfl ca41 rfl rfl (cC (.imm _) .nil) rfl rfl rfl rfl rfl ?_
     refine .v rfl rfl (OpL.unV rfl rfl rfl) ?_
     refine .m rfl rfl rfl rfl ?_
     refine .m rfl (met rfl rfl rfl (notT g9)) rfl rfl ?_
     refine .v rfl (met rfl rfl rfl (notT g9)) (O.fld fld24_7 rfl rfl rfl) ?_
     refine .v rfl (met rfl rfl rfl (notT g9)) (O.ld (y := .i x0.End) ty3 rfl rfl rfl) ?_
     refine .v rfl (met rfl rfl rfl (notT g9)) (OpL.binI rfl rfl rfl rfl) ?_
     refine .v rfl rfl (O.pickF (notT g9) rfl rfl rfl) ?_
     refine .a rfl rfl rfl rfl ?_
     refine .nil ?_
     exact toN (Gives.mkR [] (.r rfl rfl (.r rfl rfl (.c rfl (sbb (by simp only [g9, Bool.true_or, Bool.or_true, Bool.false_or, Bool.or_false, Bool.true_and, Bool.and_true, Bool.false_and, Bool.and_false, Bool.not_true, Bool.not_false, cond_true, cond_false])) rfl .n))) (.r rfl rfl rfl (.r rfl rfl rfl .n)) rfl rfl rfl)
    ·refine W.pk ?_
     refine .m rfl rfl rfl rfl ?_
     refine .call (.b t7) [] 0 (calendar_Good.ok b8) rfl rfl rfl ca41 rfl rfl (cC (.imm _) .nil) rfl rfl rfl rfl rfl ?_
     refine .v rfl rfl (OpL.unV rfl rfl rfl) ?_
     refine .m rfl rfl rfl rfl ?_
     refine .x rfl (unmet rfl rfl rfl (notF g9)) ?_
     refine .x rfl (unmet rfl rfl rfl (notF g9)) ?_
     refine .x rfl (unmet rfl rfl rfl (notF g9)) ?_
     refine .x rfl (unmet rfl rfl rfl (notF g9)) ?_
     refine .v rfl rfl (O.pickT (notF g9) rfl rfl rfl) ?_
     refine .a rfl rfl rfl rfl ?_
     refine .nil ?_
     exact toN (Gives.mkR [] (.r rfl rfl (.r rfl rfl (.c rfl (sbb (by simp only [g9, Bool.true_or, Bool.or_true, Bool.false_or, Bool.or_false, Bool.true_and, Bool.and_true, Bool.false_and, Bool.and_false, Bool.not_true, Bool.not_false, cond_true, cond_false])) rfl .n))) (.r rfl rfl rfl (.r rfl rfl rfl .n)) rfl rfl rfl)
 ·clear h
  rcases tf t1 with g5 | g5
  ·refine W.pk ?_
   refine .v rfl rfl (O.ldN ty24 rfl rfl rfl) ?_
   refine .call (.b t1) [] 0 (life_Live.ok b2) rfl rfl rfl ca35 rfl rfl (cC (.agg _ _ _ _ (cC (.imm _) (cC (.imm _) (cC (.imm _) (cC (.imm _) (cC (.imm _) (cC (.imm _) (cC (.imm _) (cC (.imm _) (cC (.imm _) (cC (.imm _) (cC (.imm _) .nil)))))))))))) .nil) rfl rfl rfl rfl rfl ?_
   refine .v rfl rfl (OpL.unV rfl rfl rfl) ?_
   refine .m rfl rfl rfl rfl ?_
   refine .v rfl (met rfl rfl rfl (notT g5)) (O.ldN ty24 rfl rfl rfl) ?_
   refine .call (.b t3) [] 0 (life_Open.ok ((if_pos (by simp only [g5, Bool.true_or, Bool.or_true, Bool.false_or, Bool.or_false, Bool.true_and, Bool.and_true, Bool.false_and, Bool.and_false, Bool.not_true, Bool.not_false, cond_true, cond_false])).symm.trans b4)) rfl (met rfl rfl rfl (notT g5)) rfl ca34 rfl rfl (cC (.agg _ _ _ _ (cC (.imm _) (cC (.imm _) (cC (.imm _) (cC (.imm _) (cC (.imm _) (cC (.imm _) (cC (.imm _) (cC (.imm _) (cC (.imm _) (cC (.imm _) (cC (.imm _) .nil)))))))))))) .nil) rfl rfl rfl rfl rfl ?_
   refine .v rfl rfl (O.pickF (notT g5) rfl rfl rfl) ?_
   refine .a rfl rfl rfl rfl ?_
   refine .nil ?_
   exact toN (Gives.mkR [] (.r rfl rfl (.r rfl rfl (.r rfl rfl (.c rfl (sbb (by simp only [g5, Bool.true_or, Bool.or_true, Bool.false_or, Bool.or_false, Bool.true_and, Bool.and_true, Bool.false_and, Bool.and_false, Bool.not_true, Bool.not_false, cond_true, cond_false])) rfl .n)))) (.r rfl rfl rfl (.r rfl rfl rfl .n)) rfl rfl rfl)
  ·refine W.pk ?_
   refine .v rfl rfl (O.ldN ty24 rfl rfl rfl) ?_
   refine .call (.b t1) [] 0 (life_Live.ok b2) rfl rfl rfl ca35 rfl rfl (cC (.agg _ _ _ _ (cC (.imm _) (cC (.imm _) (cC (.imm _) (cC (.imm _) (cC (.imm _) (cC (.imm _) (cC (.imm _) (cC (.imm _) (cC (.imm _) (cC (.imm _) (cC (.imm _) .nil)))))))))))) .nil) rfl rfl rfl rfl rfl ?_
   refine .v rfl rfl (OpL.unV rfl rfl rfl) ?_
   refine .m rfl rfl rfl rfl ?_
   refine .x rfl (unmet rfl rfl rfl (notF g5)) ?_
   refine .x rfl (unmet rfl rfl rfl (notF g5)) ?_
   refine .v rfl rfl (O.pickT (notF g5) rfl rfl rfl) ?_
   refine .a rfl rfl rfl rfl ?_
   refine .nil ?_
   exact toN (Gives.mkR [] (.r rfl rfl (.r rfl rfl (.r rfl rfl (.c rfl (sbb (by simp only [g5, Bool.true_or, Bool.or_true, Bool.false_or, Bool.or_false, Bool.true_and, Bool.and_true, Bool.false_and, Bool.and_false, Bool.not_true, Bool.not_false, cond_true, cond_false])) rfl .n)))) (.r rfl rfl rfl (.r rfl rfl rfl .n)) rfl rfl rfl)

noncomputable def lombardref24_Live.f (x0 : api_Trade) : Option (Bool) :=
  some ((x0.Stage == 2) || (x0.Stage == 3))
set_option maxRecDepth 100000 in
set_option maxHeartbeats 4000000 in
theorem lombardref24_Live.ok {x0 : api_Trade} {r : Bool} (h : lombardref24_Live.f x0 = some r) : Pm.Spec prog 36 [.agg [.imm (.val (.int .i64 x0.ID)), .imm (.val (.int .i64 x0.Twin)), .imm (.val (.int .i64 x0.Member)), .imm (.val (.int .i64 x0.Side)), .imm (.val (.int .i64 x0.Basket)), .imm (.val (.int .i64 x0.Amount)), .imm (.val (.int .i64 x0.Start)), .imm (.val (.int .i64 x0.End)), .imm (.row 2 (List.map api_Reset.enc x0.Resets)), .imm (.val (.int .i64 x0.Stage)), .imm (.val (.bool x0.Short))]] (.imm (.val (.bool r))) [none] := by
 unfold lombardref24_Live.f at h
 refine Pm.Spec.of_body Try.func36 rfl (by kernel_rfl) (Nat.le_of_ble_eq_true rfl) (Nat.le_of_ble_eq_true rfl) ?_
 refine W.ghost (σ' := (mkSt [(0, some (.agg (api_Trade.av x0)))] [] 1000)) (Gives.entry (.c rfl .n) .n) ?_
 refine W.seq ?_
 refine W.pk ?_
 refine .t rfl rfl (O.box rfl rfl rfl rfl rfl) ?_
 refine .a rfl rfl rfl rfl ?_
 refine .nil ?_
 refine W.seq ?_
 refine W.fork (mkSt [(2, some (.b ((x0.Stage == 2) || (x0.Stage == 3))))] [] 1001) ?_ ?_
 ·refine W.ret ?_
  cases h
  exact leaves (.inr rfl) rfl (.imm _) (cN .nil) rfl rfl
 ·clear h
  rcases tf (x0.Stage == 2) with g1 | g1
  ·refine W.pk ?_
   refine .v rfl rfl (O.fld fld24_9 rfl rfl rfl) ?_
   refine .v rfl rfl (O.ld (y := .i x0.Stage) ty3 rfl rfl rfl) ?_
   refine .v rfl rfl (OpL.binI rfl rfl rfl rfl) ?_
   refine .m rfl rfl rfl rfl ?_
   refine .x rfl (unmet rfl rfl rfl g1) ?_
   refine .x rfl (unmet rfl rfl rfl g1) ?_
   refine .x rfl (unmet rfl rfl rfl g1) ?_
   refine .v rfl rfl (O.pickT g1 rfl rfl rfl) ?_
   refine .a rfl rfl rfl rfl ?_
   refine .nil ?_
   exact toN (Gives.mkR [] (.c rfl (sbb (by simp only [g1, Bool.true_or, Bool.or_true, Bool.false_or, Bool.or_false, Bool.true_and, Bool.and_true, Bool.false_and, Bool.and_false, Bool.not_true, Bool.not_false, cond_true, cond_false])) rfl .n) .n rfl rfl rfl)
  ·refine W.pk ?_
   refine .v rfl rfl (O.fld fld24_9 rfl rfl rfl) ?_
   refine .v rfl rfl (O.ld (y := .i x0.Stage) ty3 rfl rfl rfl) ?_
   refine .v rfl rfl (OpL.binI rfl rfl rfl rfl) ?_
   refine .m rfl rfl rfl rfl ?_
   refine .v rfl (met rfl rfl rfl g1) (O.fld fld24_9 rfl rfl rfl) ?_
   refine .v rfl (met rfl rfl rfl g1) (O.ld (y := .i x0.Stage) ty3 rfl rfl rfl) ?_
   refine .v rfl (met rfl rfl rfl g1) (OpL.binI rfl rfl rfl rfl) ?_
   refine .v rfl rfl (O.pickF g1 rfl rfl rfl) ?_
   refine .a rfl rfl rfl rfl ?_
   refine .nil ?_
   exact toN (Gives.mkR [] (.c rfl (sbb (by simp only [g1, Bool.true_or, Bool.or_true, Bool.false_or, Bool.or_false, Bool.true_and, Bool.and_true, Bool.false_and, Bool.and_false, Bool.not_true, Bool.not_false, cond_true, cond_false])) rfl .n) .n rfl rfl rfl)

noncomputable def lombardref24_Close.f (x0 : api_Trade) (x1 : Int) : Option (api_Trade × Int) :=
  (lombardref24_Live.f x0).bind fun t1 =>
  if ((!t1) || (x0.End == 0)) = true then
    some (x0, 8)
  else
    (lombardref02_Good.f x1).bind fun t5 =>
    if ((!t5) || (decide (x1 < x0.End))) = true then
      some (x0, 10)
    else
      some ((⟨x0.ID, x0.Twin, x0.Member, x0.Side, x0.Basket, x0.Amount, x0.Start, x0.End, x0.Resets, 4, x0.Short⟩ : api_Trade), 0)
set_option maxRecDepth 100000 in
set_option maxHeartbeats 4000000 in
theorem lombardref24_Close.ok {x0 : api_Trade} {x1 : Int} {r : api_Trade × Int} (h : lombardref24_Close.f x0 x1 = some r) : Pm.Spec prog 31 [.agg [.imm (.val (.int .i64 x0.ID)), .imm (.val (.int .i64 x0.Twin)), .imm (.val (.int .i64 x0.Member)), .imm (.val (.int .i64 x0.Side)), .imm (.val (.int .i64 x0.Basket)), .imm (.val (.int .i64 x0.Amount)), .imm (.val (.int .i64 x0.Start)), .imm (.val (.int .i64 x0.End)), .imm (.row 2 (List.map api_Reset.enc x0.Resets)), .imm (.val (.int .i64 x0.Stage)), .imm (.val (.bool x0.Short))], .imm (.val (.int .i64 x1))] (.tup [.agg [.imm (.val (.int .i64 r.1.ID)), .imm (.val (.int .i64 r.1.Twin)), .imm (.val (.int .i64 r.1.Member)), .imm (.val (.int .i64 r.1.Side)), .imm (.val (.int .i64 r.1.Basket)), .imm (.val (.int .i64 r.1.Amount)), .imm (.val (.int .i64 r.1.Start)), .imm (.val (.int .i64 r.1.End)), .imm (.row 2 (List.map api_Reset.enc r.1.Resets)), .imm (.val (.int .i64 r.1.Stage)), .imm (.val (.bool r.1.Short))], .imm (.val (.int .i64 r.2))]) [none, none] := by
 unfold lombardref24_Close.f at h
 refine Pm.Spec.of_body Try.func31 rfl (by kernel_rfl) (Nat.le_of_ble_eq_true rfl) (Nat.le_of_ble_eq_true rfl) ?_
 refine W.ghost (σ' := (mkSt [(0, some (.agg (api_Trade.av x0))), (1, some (.i x1))] [] 1000)) (Gives.entry (.c rfl (.c rfl .n)) .n) ?_
 refine W.seq ?_
 refine W.pk ?_
 refine .t rfl rfl (O.box rfl rfl rfl rfl rfl) ?_
 refine .t rfl rfl (O.alloc z24 rfl) ?_
 refine .a rfl rfl rfl rfl ?_
 refine .nil ?_
 refine W.seq ?_
 refine W.seq ?_
 obtain ⟨t1, b2, h⟩ := bnd1 h
 refine W.fork (mkSt [(1, some (.i x1)), (2, some (.ptr 1000 0)), (4, some (.ptr 1001 0)), (13, some (.b ((!t1) || (x0.End == 0))))] [(1000, some (.box [.i x0.ID, .i x0.Twin, .i x0.Member, .i x0.Side, .i x0.Basket, .i x0.Amount, .i x0.Start, .i x0.End, .imm (.row 2 (List.map api_Reset.enc x0.Resets)), .i x0.Stage, .b x0.Short])), (1001, some (.box [.i 0, .i 0, .i 0, .i 0, .i 0, .i 0, .i 0, .i 0, .imm (.val (.slice none 0 0)), .i 0, .b false]))] 1002) ?_ ?_
 ·refine W.cond rfl (fun q4 => ?_) (fun q4 => ?_)
  ·have h := ifT q4 h
   refine W.seq ?_
   refine W.pk ?_
   refine .v rfl rfl (O.ldN ty24 rfl rfl rfl) ?_
   refine .s rfl rfl (O.st ty24 rfl rfl rfl rfl rfl rfl rfl rfl rfl rfl (all' := [.i x0.ID, .i x0.Twin, .i x0.Member, .i x0.Side, .i x0.Basket, .i x0.Amount, .i x0.Start, .i x0.End, .imm (.row 2 (List.map api_Reset.enc x0.Resets)), .i x0.Stage, .b x0.Short]) rfl) ?_
   refine .a rfl rfl rfl rfl ?_
   refine .nil ?_
   refine W.ret ?_
   cases h
   exact leaves (.inr rfl) rfl (.tup _ _ _ _ (cC (.agg _ _ _ _ (cC (.imm _) (cC (.imm _) (cC (.imm _) (cC (.imm _) (cC (.imm _) (cC (.imm _) (cC (.imm _) (cC (.imm _) (cC (.imm _) (cC (.imm _) (cC (.imm _) .nil)))))))))))) (cC (.imm _) .nil))) (cN (cN .nil)) rfl rfl
  ·have h := ifF q4 h
   refine W.skip ?_
   refine W.seq ?_
   refine W.seq ?_
   obtain ⟨t5, b6, h⟩ := bnd1 h
   refine W.fork (mkSt [(2, some (.ptr 1000 0)), (4, some (.ptr 1001 0)), (23, some (.b ((!t5) || (decide (x1 < x0.End)))))] [(1000, some (.box [.i x0.ID, .i x0.Twin, .i x0.Member, .i x0.Side, .i x0.Basket, .i x0.Amount, .i x0.Start, .i x0.End, .imm (.row 2 (List.map api_Reset.enc x0.Resets)), .i x0.Stage, .b x0.Short])), (1001, some (.box [.i 0, .i 0, .i 0, .i 0, .i 0, .i 0, .i 0, .i 0, .imm (.val (.slice none 0 0)), .i 0, .b false]))] 1002) ?_ ?_
   ·refine W.cond rfl (fun q8 => ?_) (fun q8 => ?_)
    ·have h := ifT q8 h
     refine W.seq ?_
     refine W.pk ?_
     refine .v rfl rfl (O.ldN ty24 rfl rfl rfl) ?_
     refine .s rfl rfl (O.st ty24 rfl rfl rfl rfl rfl rfl rfl rfl rfl rfl (all' := [.i x0.ID, .i x0.Twin, .i x0.Member, .i x0.Side, .i x0.Basket, .i x0.Amount, .i x0.Start, .i x0.End, .imm (.row 2 (List.map api_Reset.enc x0.Resets)), .i x0.Stage, .b x0.Short]) rfl) ?_
     refine .a rfl rfl rfl rfl ?_
     refine .nil ?_
     refine W.ret ?_
     cases h
     exact leaves (.inr rfl) rfl (.tup _ _ _ _ (cC (.agg _ _ _ _ (cC (.imm _) (cC (.imm _) (cC (.imm _) (cC (.imm _) (cC (.imm _) (cC (.imm _) (cC (.imm _) (cC (.imm _) (cC (.imm _) (cC (.imm _) (cC (.imm _) .nil)))))))))))) (cC (.imm _) .nil))) (cN (cN .nil)) rfl rfl
    ·have h := ifF q8 h
     refine W.skip ?_
     refine W.seq ?_
     refine W.pk ?_
     refine .v rfl rfl (O.fld fld24_9 rfl rfl rfl) ?_
     refine .s rfl rfl (O.st ty3 rfl rfl rfl rfl rfl rfl rfl rfl rfl rfl (all' := [.i x0.ID, .i x0.Twin, .i x0.Member, .i x0.Side, .i x0.Basket, .i x0.Amount, .i x0.Start, .i x0.End, .imm (.row 2 (List.map api_Reset.enc x0.Resets)), .i 4, .b x0.Short]) rfl) ?_
     refine .nil ?_
     refine W.seq ?_
     refine W.pk ?_
     refine .v rfl rfl (O.ldN ty24 rfl rfl rfl) ?_
     refine .s rfl rfl (O.st ty24 rfl rfl rfl rfl rfl rfl rfl rfl rfl rfl (all' := [.i x0.ID, .i x0.Twin, .i x0.Member, .i x0.Side, .i x0.Basket, .i x0.Amount, .i x0.Start, .i x0.End, .imm (.row 2 (List.map api_Reset.enc x0.Resets)), .i 4, .b x0.Short]) rfl) ?_
     refine .a rfl rfl rfl rfl ?_
     refine .nil ?_
     refine W.ret ?_
     cases h
     exact leaves (.inr rfl) rfl (.tup _ _ _ _ (cC (.agg _ _ _ _ (cC (.imm _) (cC (.imm _) (cC (.imm _) (cC (.imm _) (cC (.imm _) (cC (.imm _) (cC (.imm _) (cC (.imm _) (cC (.imm _) (cC (.imm _) (cC (.imm _) .nil)))))))))))) (cC (.imm _) .nil))) (cN (cN .nil)) rfl rfl
   ·clear h
    rcases tf t5 with g7 | g7
    ·refine W.pk ?_
     refine .m rfl rfl rfl rfl ?_
     refine .call (.b t5) [] 0 (lombardref02_Good.ok b6) rfl rfl rfl ca44 rfl rfl (cC (.imm _) .nil) rfl rfl rfl rfl rfl ?_
     refine .v rfl rfl (OpL.unV rfl rfl rfl) ?_
     refine .m rfl rfl rfl rfl ?_
     refine .m rfl (met rfl rfl rfl (notT g7)) rfl rfl ?_
     refine .v rfl (met rfl rfl rfl (notT g7)) (O.fld fld24_7 rfl rfl rfl) ?_
     refine .v rfl (met rfl rfl rfl (notT g7)) (O.ld (y := .i x0.End) ty3 rfl rfl rfl) ?_
     refine .v rfl (met rfl rfl rfl (notT g7)) (OpL.binI rfl rfl rfl rfl) ?_
     refine .v rfl rfl (O.pickF (notT g7) rfl rfl rfl) ?_
     refine .nil ?_
     exact toN (Gives.mkR [] (.r rfl rfl (.r rfl rfl (.c rfl (sbb (by simp only [g7, Bool.true_or, Bool.or_true, Bool.false_or, Bool.or_false, Bool.true_and, Bool.and_true, Bool.false_and, Bool.and_false, Bool.not_true, Bool.not_false, cond_true, cond_false])) rfl .n))) (.r rfl rfl rfl (.r rfl rfl rfl .n)) rfl rfl rfl)
    ·refine W.pk ?_
     refine .m rfl rfl rfl rfl ?_
     refine .call (.b t5) [] 0 (lombardref02_Good.ok b6) rfl rfl rfl ca44 rfl rfl (cC (.imm _) .nil) rfl rfl rfl rfl rfl ?_
     refine .v rfl rfl (OpL.unV rfl rfl rfl) ?_
     refine .m rfl rfl rfl rfl ?_
     refine .x rfl (unmet rfl rfl rfl (notF g7)) ?_
     refine .x rfl (unmet rfl rfl rfl (notF g7)) ?_
     refine .x rfl (unmet rfl rfl rfl (notF g7)) ?_
     refine .x rfl (unmet rfl rfl rfl (notF g7)) ?_
     refine .v rfl rfl (O.pickT (notF g7) rfl rfl rfl) ?_
     refine .nil ?_
     exact toN (Gives.mkR [] (.r rfl rfl (.r rfl rfl (.c rfl (sbb (by simp only [g7, Bool.true_or, Bool.or_true, Bool.false_or, Bool.or_false, Bool.true_and, Bool.and_true, Bool.false_and, Bool.and_false, Bool.not_true, Bool.not_false, cond_true, cond_false])) rfl .n))) (.r rfl rfl rfl (.r rfl rfl rfl .n)) rfl rfl rfl)
 ·clear h
  rcases tf t1 with g3 | g3
  ·refine W.pk ?_
   refine .v rfl rfl (O.ldN ty24 rfl rfl rfl) ?_
   refine .call (.b t1) [] 0 (lombardref24_Live.ok b2) rfl rfl rfl ca36 rfl rfl (cC (.agg _ _ _ _ (cC (.imm _) (cC (.imm _) (cC (.imm _) (cC (.imm _) (cC (.imm _) (cC (.imm _) (cC (.imm _) (cC (.imm _) (cC (.imm _) (cC (.imm _) (cC (.imm _) .nil)))))))))))) .nil) rfl rfl rfl rfl rfl ?_
   refine .v rfl rfl (OpL.unV rfl rfl rfl) ?_
   refine .m rfl rfl rfl rfl ?_
   refine .v rfl (met rfl rfl rfl (notT g3)) (O.fld fld24_7 rfl rfl rfl) ?_
   refine .v rfl (met rfl rfl rfl (notT g3)) (O.ld (y := .i x0.End) ty3 rfl rfl rfl) ?_
   refine .v rfl (met rfl rfl rfl (notT g3)) (OpL.binI rfl rfl rfl rfl) ?_
   refine .v rfl rfl (O.pickF (notT g3) rfl rfl rfl) ?_
   refine .nil ?_
   exact toN (Gives.mkR [] (.r rfl rfl (.r rfl rfl (.r rfl rfl (.c rfl (sbb (by simp only [g3, Bool.true_or, Bool.or_true, Bool.false_or, Bool.or_false, Bool.true_and, Bool.and_true, Bool.false_and, Bool.and_false, Bool.not_true, Bool.not_false, cond_true, cond_false])) rfl .n)))) (.r rfl rfl rfl (.r rfl rfl rfl .n)) rfl rfl rfl)
  ·refine W.pk ?_
   refine .v rfl rfl (O.ldN ty24 rfl rfl rfl) ?_
   refine .call (.b t1) [] 0 (lombardref24_Live.ok b2) rfl rfl rfl ca36 rfl rfl (cC (.agg _ _ _ _ (cC (.imm _) (cC (.imm _) (cC (.imm _) (cC (.imm _) (cC (.imm _) (cC (.imm _) (cC (.imm _) (cC (.imm _) (cC (.imm _) (cC (.imm _) (cC (.imm _) .nil)))))))))))) .nil) rfl rfl rfl rfl rfl ?_
   refine .v rfl rfl (OpL.unV rfl rfl rfl) ?_
   refine .m rfl rfl rfl rfl ?_
   refine .x rfl (unmet rfl rfl rfl (notF g3)) ?_
   refine .x rfl (unmet rfl rfl rfl (notF g3)) ?_
   refine .x rfl (unmet rfl rfl rfl (notF g3)) ?_
   refine .v rfl rfl (O.pickT (notF g3) rfl rfl rfl) ?_
   refine .nil ?_
   exact toN (Gives.mkR [] (.r rfl rfl (.r rfl rfl (.r rfl rfl (.c rfl (sbb (by simp only [g3, Bool.true_or, Bool.or_true, Bool.false_or, Bool.or_false, Bool.true_and, Bool.and_true, Bool.false_and, Bool.and_false, Bool.not_true, Bool.not_false, cond_true, cond_false])) rfl .n)))) (.r rfl rfl rfl (.r rfl rfl rfl .n)) rfl rfl rfl)
end Go.Proofs.Ytknfdnlhadjbaaa
