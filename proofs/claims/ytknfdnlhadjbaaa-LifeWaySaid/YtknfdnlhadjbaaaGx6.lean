/- Shows what functions of the program come to, each as a plain function: written by a program of the author's for this claim. -/
import Derived.Test.YtknfdnlhadjbaaaGx5
namespace Go.Proofs.Ytknfdnlhadjbaaa
open Go Go.Pm
set_option linter.unusedVariables false
set_option linter.unusedSimpArgs false
noncomputable def life_Reset.f (x0 : api_Trade) (x1 : Int) (x2 : api_Reset) : Option (api_Trade × Int) :=
  (life_Open.f x0).bind fun t1 =>
  (if (!t1) = false then life_Over.f x0 else some default).bind fun t3 =>
  if ((!t1) || t3) = true then
    some (x0, 8)
  else
    if ((decide (x2.Rate < (-1000000))) || (decide (x2.Rate > 1000000))) = true then
      some (x0, 1)
    else
      (calendar_Good.f x1).bind fun t9 =>
      (if (!t9) = false then calendar_Good.f x2.Day else some default).bind fun t11 =>
      if (((((!t9) || (!t11)) || (decide (x2.Day ≤ x1))) || ((List.length x0.Resets : Int) == 0)) = false → (0 : Int) ≤ (IntKind.wrap .i64 ((List.length x0.Resets : Int) - 1)) ∧ (IntKind.wrap .i64 ((List.length x0.Resets : Int) - 1)) < (List.length x0.Resets : Int)) then
      if (((((!t9) || (!t11)) || (decide (x2.Day ≤ x1))) || ((List.length x0.Resets : Int) == 0)) || (decide (x2.Day ≤ ((nth x0.Resets (IntKind.wrap .i64 ((List.length x0.Resets : Int) - 1))).Day)))) = true then
        some (x0, 10)
      else
        if (decide ((List.length x0.Resets : Int) ≥ 64)) = true then
          some (x0, 2)
        else
          (slices_Clone_api_Reset.f x0.Resets).bind fun t20 =>
          if (List.length t20 + List.length [x2]) * 16 ≤ 140737488355328 then
          some ((⟨x0.ID, x0.Twin, x0.Member, x0.Side, x0.Basket, x0.Amount, x0.Start, x0.End, (t20 ++ [x2]), x0.Stage, x0.Short⟩ : api_Trade), 0)
          else none
      else none
set_option maxRecDepth 100000 in
set_option maxHeartbeats 4000000 in
theorem life_Reset.ok {x0 : api_Trade} {x1 : Int} {x2 : api_Reset} {r : api_Trade × Int} (h : life_Reset.f x0 x1 x2 = some r) : Pm.Spec prog 28 [.agg [.imm (.val (.int .i64 x0.ID)), .imm (.val (.int .i64 x0.Twin)), .imm (.val (.int .i64 x0.Member)), .imm (.val (.int .i64 x0.Side)), .imm (.val (.int .i64 x0.Basket)), .imm (.val (.int .i64 x0.Amount)), .imm (.val (.int .i64 x0.Start)), .imm (.val (.int .i64 x0.End)), .imm (.row 2 (List.map api_Reset.enc x0.Resets)), .imm (.val (.int .i64 x0.Stage)), .imm (.val (.bool x0.Short))], .imm (.val (.int .i64 x1)), .agg [.imm (.val (.int .i64 x2.Day)), .imm (.val (.int .i64 x2.Rate))]] (.tup [.agg [.imm (.val (.int .i64 r.1.ID)), .imm (.val (.int .i64 r.1.Twin)), .imm (.val (.int .i64 r.1.Member)), .imm (.val (.int .i64 r.1.Side)), .imm (.val (.int .i64 r.1.Basket)), .imm (.val (.int .i64 r.1.Amount)), .imm (.val (.int .i64 r.1.Start)), .imm (.val (.int .i64 r.1.End)), .imm (.row 2 (List.map api_Reset.enc r.1.Resets)), .imm (.val (.int .i64 r.1.Stage)), .imm (.val (.bool r.1.Short))], .imm (.val (.int .i64 r.2))]) [none, none, none] := by
 unfold life_Reset.f at h
 refine Pm.Spec.of_body Try.func28 rfl (by kernel_rfl) (Nat.le_of_ble_eq_true rfl) (Nat.le_of_ble_eq_true rfl) ?_
 refine W.ghost (σ' := (mkSt [(0, some (.agg (api_Trade.av x0))), (1, some (.i x1)), (2, some (.agg [.i x2.Day, .i x2.Rate]))] [] 1000)) (Gives.entry (.c rfl (.c rfl (.c rfl .n))) .n) ?_
 refine W.seq ?_
 refine W.pk ?_
 refine .t rfl rfl (O.box rfl rfl rfl rfl rfl) ?_
 refine .t rfl rfl (O.box rfl rfl rfl rfl rfl) ?_
 refine .t rfl rfl (O.alloc z24 rfl) ?_
 refine .a rfl rfl rfl rfl ?_
 refine .nil ?_
 refine W.seq ?_
 refine W.block ?_
 refine W.seq ?_
 obtain ⟨t1, b2, h⟩ := bnd1 h
 obtain ⟨t3, b4, h⟩ := bnd1 h
 refine W.fork (mkSt [(1, some (.i x1)), (3, some (.ptr 1000 0)), (5, some (.ptr 1001 0)), (6, some (.ptr 1002 0)), (8, some (.b ((!t1) || t3)))] [(1000, some (.box [.i x0.ID, .i x0.Twin, .i x0.Member, .i x0.Side, .i x0.Basket, .i x0.Amount, .i x0.Start, .i x0.End, .imm (.row 2 (List.map api_Reset.enc x0.Resets)), .i x0.Stage, .b x0.Short])), (1001, some (.box [.i x2.Day, .i x2.Rate])), (1002, some (.box [.i 0, .i 0, .i 0, .i 0, .i 0, .i 0, .i 0, .i 0, .imm (.val (.slice none 0 0)), .i 0, .b false]))] 1003) ?_ ?_
 ·refine W.cond rfl (fun q6 => ?_) (fun q6 => ?_)
  ·have h := ifT q6 h
   refine W.seq ?_
   refine W.pk ?_
   refine .v rfl rfl (O.ldN ty24 rfl rfl rfl) ?_
   refine .s rfl rfl (O.st ty24 rfl rfl rfl rfl rfl rfl rfl rfl rfl rfl (all' := [.i x0.ID, .i x0.Twin, .i x0.Member, .i x0.Side, .i x0.Basket, .i x0.Amount, .i x0.Start, .i x0.End, .imm (.row 2 (List.map api_Reset.enc x0.Resets)), .i x0.Stage, .b x0.Short]) rfl) ?_
   refine .a rfl rfl rfl rfl ?_
   refine .nil ?_
   refine W.ret ?_
   cases h
   exact leaves (.inr rfl) rfl (.tup _ _ _ _ (cC (.agg _ _ _ _ (cC (.imm _) (cC (.imm _) (cC (.imm _) (cC (.imm _) (cC (.imm _) (cC (.imm _) (cC (.imm _) (cC (.imm _) (cC (.imm _) (cC (.imm _) (cC (.imm _) .nil)))))))))))) (cC (.imm _) .nil))) (cN (cN (cN .nil))) rfl rfl
  ·have h := ifF q6 h
   refine W.seq ?_
   refine W.fork (mkSt [(1, some (.i x1)), (3, some (.ptr 1000 0)), (5, some (.ptr 1001 0)), (6, some (.ptr 1002 0)), (17, some (.b ((decide (x2.Rate < (-1000000))) || (decide (x2.Rate > 1000000)))))] [(1000, some (.box [.i x0.ID, .i x0.Twin, .i x0.Member, .i x0.Side, .i x0.Basket, .i x0.Amount, .i x0.Start, .i x0.End, .imm (.row 2 (List.map api_Reset.enc x0.Resets)), .i x0.Stage, .b x0.Short])), (1001, some (.box [.i x2.Day, .i x2.Rate])), (1002, some (.box [.i 0, .i 0, .i 0, .i 0, .i 0, .i 0, .i 0, .i 0, .imm (.val (.slice none 0 0)), .i 0, .b false]))] 1003) ?_ ?_
   ·refine W.cond rfl (fun q8 => ?_) (fun q8 => ?_)
    ·have h := ifT q8 h
     refine W.seq ?_
     refine W.pk ?_
     refine .v rfl rfl (O.ldN ty24 rfl rfl rfl) ?_
     refine .s rfl rfl (O.st ty24 rfl rfl rfl rfl rfl rfl rfl rfl rfl rfl (all' := [.i x0.ID, .i x0.Twin, .i x0.Member, .i x0.Side, .i x0.Basket, .i x0.Amount, .i x0.Start, .i x0.End, .imm (.row 2 (List.map api_Reset.enc x0.Resets)), .i x0.Stage, .b x0.Short]) rfl) ?_
     refine .a rfl rfl rfl rfl ?_
     refine .nil ?_
     refine W.ret ?_
     cases h
     exact leaves (.inr rfl) rfl (.tup _ _ _ _ (cC (.agg _ _ _ _ (cC (.imm _) (cC (.imm _) (cC (.imm _) (cC (.imm _) (cC (.imm _) (cC (.imm _) (cC (.imm _) (cC (.imm _) (cC (.imm _) (cC (.imm _) (cC (.imm _) .nil)))))))))))) (cC (.imm _) .nil))) (cN (cN (cN .nil))) rfl rfl
    ·have h := ifF q8 h
     refine W.seq ?_
     obtain ⟨t9, b10, h⟩ := bnd1 h
     obtain ⟨t11, b12, h⟩ := bnd1 h
     obtain ⟨c13, h⟩ := chk h
     refine W.fork (mkSt [(3, some (.ptr 1000 0)), (5, some (.ptr 1001 0)), (6, some (.ptr 1002 0)), (27, some (.b (((((!t9) || (!t11)) || (decide (x2.Day ≤ x1))) || ((List.length x0.Resets : Int) == 0)) || (decide (x2.Day ≤ ((nth x0.Resets (IntKind.wrap .i64 ((List.length x0.Resets : Int) - 1))).Day))))))] [(1000, some (.box [.i x0.ID, .i x0.Twin, .i x0.Member, .i x0.Side, .i x0.Basket, .i x0.Amount, .i x0.Start, .i x0.End, .imm (.row 2 (List.map api_Reset.enc x0.Resets)), .i x0.Stage, .b x0.Short])), (1001, some (.box [.i x2.Day, .i x2.Rate])), (1002, some (.box [.i 0, .i 0, .i 0, .i 0, .i 0, .i 0, .i 0, .i 0, .imm (.val (.slice none 0 0)), .i 0, .b false]))] 1003) ?_ ?_
     ·refine W.cond rfl (fun q18 => ?_) (fun q18 => ?_)
      ·have h := ifT q18 h
       refine W.seq ?_
       refine W.pk ?_
       refine .v rfl rfl (O.ldN ty24 rfl rfl rfl) ?_
       refine .s rfl rfl (O.st ty24 rfl rfl rfl rfl rfl rfl rfl rfl rfl rfl (all' := [.i x0.ID, .i x0.Twin, .i x0.Member, .i x0.Side, .i x0.Basket, .i x0.Amount, .i x0.Start, .i x0.End, .imm (.row 2 (List.map api_Reset.enc x0.Resets)), .i x0.Stage, .b x0.Short]) rfl) ?_
       refine .a rfl rfl rfl rfl ?_
       refine .nil ?_
       refine W.ret ?_
       cases h
       exact leaves (.inr rfl) rfl (.tup _ _ _ _ (cC (.agg _ _ _ _ (cC (.imm _) (cC (.imm _) (cC (.imm _) (cC (.imm _) (cC (.imm _) (cC (.imm _) (cC (.imm _) (cC (.imm _) (cC (.imm _) (cC (.imm _) (cC (.imm _) .nil)))))))))))) (cC (.imm _) .nil))) (cN (cN (cN .nil))) rfl rfl
      ·have h := ifF q18 h
       refine W.seq ?_
       refine W.pk ?_
       refine .v rfl rfl (O.fld fld24_8 rfl rfl rfl) ?_
       refine .v rfl rfl (O.ld (y := .imm (.row 2 (List.map api_Reset.enc x0.Resets))) ty22 rfl rfl rfl) ?_
       refine .v rfl rfl (O.lenR sl22 rfl rfl) ?_
       refine .v rfl rfl (OpL.binI rfl rfl rfl rfl) ?_
       refine .a rfl rfl rfl rfl ?_
       refine .nil ?_
       refine W.cond rfl (fun q19 => ?_) (fun q19 => ?_)
       ·have h := ifT q19 h
        refine W.seq ?_
        refine W.pk ?_
        refine .v rfl rfl (O.ldN ty24 rfl rfl rfl) ?_
        refine .s rfl rfl (O.st ty24 rfl rfl rfl rfl rfl rfl rfl rfl rfl rfl (all' := [.i x0.ID, .i x0.Twin, .i x0.Member, .i x0.Side, .i x0.Basket, .i x0.Amount, .i x0.Start, .i x0.End, .imm (.row 2 (List.map api_Reset.enc x0.Resets)), .i x0.Stage, .b x0.Short]) rfl) ?_
        refine .a rfl rfl rfl rfl ?_
        refine .nil ?_
        refine W.ret ?_
        cases h
        exact leaves (.inr rfl) rfl (.tup _ _ _ _ (cC (.agg _ _ _ _ (cC (.imm _) (cC (.imm _) (cC (.imm _) (cC (.imm _) (cC (.imm _) (cC (.imm _) (cC (.imm _) (cC (.imm _) (cC (.imm _) (cC (.imm _) (cC (.imm _) .nil)))))))))))) (cC (.imm _) .nil))) (cN (cN (cN .nil))) rfl rfl
       ·have h := ifF q19 h
        refine W.skip ?_
        refine W.seq ?_
        obtain ⟨t20, b21, h⟩ := bnd1 h
        obtain ⟨c22, h⟩ := chk h
        refine W.dk (unm 8 [0, 1, 3, 0, 8, 31, 63, 127]) rfl (by kernel_rfl) ?_
        refine .v rfl rfl (O.fld fld24_8 rfl rfl rfl) ?_
        refine .v rfl rfl (O.ld (y := .imm (.row 2 (List.map api_Reset.enc x0.Resets))) ty22 rfl rfl rfl) ?_
        refine .call (.own 1003) [(1003, some (.rows 46 2 (List.map api_Reset.enc t20) false))] 1 (slices_Clone_api_Reset.ok b21) rfl rfl rfl ca49 rfl rfl (cC (.imm _) .nil) rfl rfl rfl rfl rfl ?_
        refine .v rfl rfl (O.ldN ty46 rfl rfl rfl) ?_
        refine .t rfl rfl (O.lit (enc := api_Reset.enc) (l := [x2]) sl22 rfl rfl rfl rfl rfl rfl rfl rfl rfl) ?_
        refine .t rfl rfl (O.appO sl22 api_Reset.ok c22 rfl rfl rfl rfl rfl) ?_
        refine .v rfl rfl (O.fld fld24_8 rfl rfl rfl) ?_
        refine .s rfl rfl (O.st ty22 rfl rfl rfl rfl rfl rfl rfl rfl rfl rfl (all' := [.i x0.ID, .i x0.Twin, .i x0.Member, .i x0.Side, .i x0.Basket, .i x0.Amount, .i x0.Start, .i x0.End, .own 1005, .i x0.Stage, .b x0.Short]) rfl) ?_
        refine .nil ?_
        refine ⟨by kernel_rfl, by kernel_rfl, ?_⟩
        refine W.seq ?_
        refine W.pk ?_
        refine .v rfl rfl (O.ldN ty24 rfl rfl rfl) ?_
        refine .s rfl rfl (O.st ty24 rfl rfl rfl rfl rfl rfl rfl rfl rfl rfl (all' := [.i x0.ID, .i x0.Twin, .i x0.Member, .i x0.Side, .i x0.Basket, .i x0.Amount, .i x0.Start, .i x0.End, .own 1005, .i x0.Stage, .b x0.Short]) rfl) ?_
        refine .a rfl rfl rfl rfl ?_
        refine .nil ?_
        refine W.ret ?_
        cases h
        exact leaves (.inr rfl) rfl (.tup _ _ _ _ (cC (.agg _ _ _ _ (cC (.imm _) (cC (.imm _) (cC (.imm _) (cC (.imm _) (cC (.imm _) (cC (.imm _) (cC (.imm _) (cC (.imm _) (cC (.lend _ _ _ _ _ rfl) (cC (.imm _) (cC (.imm _) .nil)))))))))))) (cC (.imm _) .nil))) (cN (cN (cN .nil))) rfl rfl
     ·clear h
      rcases tf t9 with g14 | g14
      ·rcases tf t11 with g15 | g15
       ·rcases tf (decide (x2.Day ≤ x1)) with g16 | g16
        ·refine W.dk (unm 36 [0, 1, 3, 7, 15, 31, 63, 127, 255, 511, 1023, 2047, 1023, 8191, 16383, 32767, 65535, 131071, 262143, 524287, 1048575, 2097151, 4194303, 8388607, 4194303, 20971519, 4194303, 71303167, 205520895, 473956351, 1061158911, 2134900735, 4282384383, 8589934591, 17179869183, 34359738367]) rfl (by kernel_rfl) ?_
         refine .m rfl rfl rfl rfl ?_
         refine .call (.b t9) [] 0 (calendar_Good.ok b10) rfl rfl rfl ca41 rfl rfl (cC (.imm _) .nil) rfl rfl rfl rfl rfl ?_
         refine .v rfl rfl (OpL.unV rfl rfl rfl) ?_
         refine .m rfl rfl rfl rfl ?_
         refine .v rfl (met rfl rfl rfl (notT g14)) (O.fld fld46_0 rfl rfl rfl) ?_
         refine .v rfl (met rfl rfl rfl (notT g14)) (O.ld (y := .i x2.Day) ty3 rfl rfl rfl) ?_
         refine .call (.b t11) [] 0 (calendar_Good.ok ((if_pos (by first | (simp only [g14, g15, g16, Bool.true_or, Bool.or_true, Bool.false_or, Bool.or_false, Bool.true_and, Bool.and_true, Bool.false_and, Bool.and_false, Bool.not_true, Bool.not_false, cond_true, cond_false]; done) | (repeat (first | rw [g14] | rw [g15] | rw [g16])) <;> simp only [Bool.true_or, Bool.or_true, Bool.false_or, Bool.or_false, Bool.true_and, Bool.and_true, Bool.false_and, Bool.and_false, Bool.not_true, Bool.not_false, cond_true, cond_false])).symm.trans b12)) rfl (met rfl rfl rfl (notT g14)) rfl ca41 rfl rfl (cC (.imm _) .nil) rfl rfl rfl rfl rfl ?_
         refine .v rfl (met rfl rfl rfl (notT g14)) (OpL.unV rfl rfl rfl) ?_
         refine .v rfl rfl (O.pickF (notT g14) rfl rfl rfl) ?_
         refine .m rfl rfl rfl rfl ?_
         refine .v rfl (met rfl rfl rfl (notT g15)) (O.fld fld46_0 rfl rfl rfl) ?_
         refine .v rfl (met rfl rfl rfl (notT g15)) (O.ld (y := .i x2.Day) ty3 rfl rfl rfl) ?_
         refine .m rfl (met rfl rfl rfl (notT g15)) rfl rfl ?_
         refine .v rfl (met rfl rfl rfl (notT g15)) (OpL.binI rfl rfl rfl rfl) ?_
         refine .v rfl rfl (O.pickF (notT g15) rfl rfl rfl) ?_
         refine .m rfl rfl rfl rfl ?_
         refine .x rfl (unmet rfl rfl rfl g16) ?_
         refine .x rfl (unmet rfl rfl rfl g16) ?_
         refine .x rfl (unmet rfl rfl rfl g16) ?_
         refine .x rfl (unmet rfl rfl rfl g16) ?_
         refine .v rfl rfl (O.pickT g16 rfl rfl rfl) ?_
         refine .m rfl rfl rfl rfl ?_
         refine .x rfl (unmet rfl rfl rfl rfl) ?_
         refine .x rfl (unmet rfl rfl rfl rfl) ?_
         refine .x rfl (unmet rfl rfl rfl rfl) ?_
         refine .x rfl (unmet rfl rfl rfl rfl) ?_
         refine .x rfl (unmet rfl rfl rfl rfl) ?_
         refine .x rfl (unmet rfl rfl rfl rfl) ?_
         refine .x rfl (unmet rfl rfl rfl rfl) ?_
         refine .x rfl (unmet rfl rfl rfl rfl) ?_
         refine .x rfl (unmet rfl rfl rfl rfl) ?_
         refine .x rfl (unmet rfl rfl rfl rfl) ?_
         refine .x rfl (unmet rfl rfl rfl rfl) ?_
         refine .x rfl (unmet rfl rfl rfl rfl) ?_
         refine .v rfl rfl (O.pickT rfl rfl rfl rfl) ?_
         refine .a rfl rfl rfl rfl ?_
         refine .nil ?_
         refine ⟨by kernel_rfl, by kernel_rfl, ?_⟩
         exact toN (Gives.mkR [] (.r rfl rfl (.r rfl rfl (.r rfl rfl (.c rfl (sbb (by first | (simp only [g14, g15, g16, Bool.true_or, Bool.or_true, Bool.false_or, Bool.or_false, Bool.true_and, Bool.and_true, Bool.false_and, Bool.and_false, Bool.not_true, Bool.not_false, cond_true, cond_false]; done) | (repeat (first | rw [g14] | rw [g15] | rw [g16])) <;> simp only [Bool.true_or, Bool.or_true, Bool.false_or, Bool.or_false, Bool.true_and, Bool.and_true, Bool.false_and, Bool.and_false, Bool.not_true, Bool.not_false, cond_true, cond_false])) rfl .n)))) (.r rfl rfl rfl (.r rfl rfl rfl (.r rfl rfl rfl .n))) rfl rfl rfl)
        ·rcases tf ((List.length x0.Resets : Int) == 0) with g17 | g17
         ·refine W.dk (unm 36 [0, 1, 3, 7, 15, 31, 63, 127, 255, 511, 1023, 2047, 1023, 8191, 16383, 32767, 65535, 131071, 262143, 524287, 1048575, 2097151, 4194303, 8388607, 4194303, 20971519, 4194303, 71303167, 205520895, 473956351, 1061158911, 2134900735, 4282384383, 8589934591, 17179869183, 34359738367]) rfl (by kernel_rfl) ?_
          refine .m rfl rfl rfl rfl ?_
          refine .call (.b t9) [] 0 (calendar_Good.ok b10) rfl rfl rfl ca41 rfl rfl (cC (.imm _) .nil) rfl rfl rfl rfl rfl ?_
          refine .v rfl rfl (OpL.unV rfl rfl rfl) ?_
          refine .m rfl rfl rfl rfl ?_
          refine .v rfl (met rfl rfl rfl (notT g14)) (O.fld fld46_0 rfl rfl rfl) ?_
          refine .v rfl (met rfl rfl rfl (notT g14)) (O.ld (y := .i x2.Day) ty3 rfl rfl rfl) ?_
          refine .call (.b t11) [] 0 (calendar_Good.ok ((if_pos (by first | (simp only [g14, g15, g16, g17, Bool.true_or, Bool.or_true, Bool.false_or, Bool.or_false, Bool.true_and, Bool.and_true, Bool.false_and, Bool.and_false, Bool.not_true, Bool.not_false, cond_true, cond_false]; done) | (repeat (first | rw [g14] | rw [g15] | rw [g16] | rw [g17])) <;> simp only [Bool.true_or, Bool.or_true, Bool.false_or, Bool.or_false, Bool.true_and, Bool.and_true, Bool.false_and, Bool.and_false, Bool.not_true, Bool.not_false, cond_true, cond_false])).symm.trans b12)) rfl (met rfl rfl rfl (notT g14)) rfl ca41 rfl rfl (cC (.imm _) .nil) rfl rfl rfl rfl rfl ?_
          refine .v rfl (met rfl rfl rfl (notT g14)) (OpL.unV rfl rfl rfl) ?_
          refine .v rfl rfl (O.pickF (notT g14) rfl rfl rfl) ?_
          refine .m rfl rfl rfl rfl ?_
          refine .v rfl (met rfl rfl rfl (notT g15)) (O.fld fld46_0 rfl rfl rfl) ?_
          refine .v rfl (met rfl rfl rfl (notT g15)) (O.ld (y := .i x2.Day) ty3 rfl rfl rfl) ?_
          refine .m rfl (met rfl rfl rfl (notT g15)) rfl rfl ?_
          refine .v rfl (met rfl rfl rfl (notT g15)) (OpL.binI rfl rfl rfl rfl) ?_
          refine .v rfl rfl (O.pickF (notT g15) rfl rfl rfl) ?_
          refine .m rfl rfl rfl rfl ?_
          refine .v rfl (met rfl rfl rfl g16) (O.fld fld24_8 rfl rfl rfl) ?_
          refine .v rfl (met rfl rfl rfl g16) (O.ld (y := .imm (.row 2 (List.map api_Reset.enc x0.Resets))) ty22 rfl rfl rfl) ?_
          refine .v rfl (met rfl rfl rfl g16) (O.lenR sl22 rfl rfl) ?_
          refine .v rfl (met rfl rfl rfl g16) (OpL.binI rfl rfl rfl rfl) ?_
          refine .v rfl rfl (O.pickF g16 rfl rfl rfl) ?_
          refine .m rfl rfl rfl rfl ?_
          refine .x rfl (unmet rfl rfl rfl g17) ?_
          refine .x rfl (unmet rfl rfl rfl g17) ?_
          refine .x rfl (unmet rfl rfl rfl g17) ?_
          refine .x rfl (unmet rfl rfl rfl g17) ?_
          refine .x rfl (unmet rfl rfl rfl g17) ?_
          refine .x rfl (unmet rfl rfl rfl g17) ?_
          refine .x rfl (unmet rfl rfl rfl g17) ?_
          refine .x rfl (unmet rfl rfl rfl g17) ?_
          refine .x rfl (unmet rfl rfl rfl g17) ?_
          refine .x rfl (unmet rfl rfl rfl g17) ?_
          refine .x rfl (unmet rfl rfl rfl g17) ?_
          refine .x rfl (unmet rfl rfl rfl g17) ?_
          refine .v rfl rfl (O.pickT g17 rfl rfl rfl) ?_
          refine .a rfl rfl rfl rfl ?_
          refine .nil ?_
          refine ⟨by kernel_rfl, by kernel_rfl, ?_⟩
          exact toN (Gives.mkR [] (.r rfl rfl (.r rfl rfl (.r rfl rfl (.c rfl (sbb (by first | (simp only [g14, g15, g16, g17, Bool.true_or, Bool.or_true, Bool.false_or, Bool.or_false, Bool.true_and, Bool.and_true, Bool.false_and, Bool.and_false, Bool.not_true, Bool.not_false, cond_true, cond_false]; done) | (repeat (first | rw [g14] | rw [g15] | rw [g16] | rw [g17])) <;> simp only [Bool.true_or, Bool.or_true, Bool.false_or, Bool.or_false, Bool.true_and, Bool.and_true, Bool.false_and, Bool.and_false, Bool.not_true, Bool.not_false, cond_true, cond_false])) rfl .n)))) (.r rfl rfl rfl (.r rfl rfl rfl (.r rfl rfl rfl .n))) rfl rfl rfl)
         ·refine W.dk (unm 36 [0, 1, 3, 7, 15, 31, 63, 127, 255, 511, 1023, 2047, 1023, 8191, 16383, 32767, 65535, 131071, 262143, 524287, 1048575, 2097151, 4194303, 8388607, 4194303, 20971519, 4194303, 71303167, 205520895, 473956351, 1061158911, 2134900735, 4282384383, 8589934591, 17179869183, 34359738367]) rfl (by kernel_rfl) ?_
          refine .m rfl rfl rfl rfl ?_
          refine .call (.b t9) [] 0 (calendar_Good.ok b10) rfl rfl rfl ca41 rfl rfl (cC (.imm _) .nil) rfl rfl rfl rfl rfl ?_
          refine .v rfl rfl (OpL.unV rfl rfl rfl) ?_
          refine .m rfl rfl rfl rfl ?_
          refine .v rfl (met rfl rfl rfl (notT g14)) (O.fld fld46_0 rfl rfl rfl) ?_
          refine .v rfl (met rfl rfl rfl (notT g14)) (O.ld (y := .i x2.Day) ty3 rfl rfl rfl) ?_
          refine .call (.b t11) [] 0 (calendar_Good.ok ((if_pos (by first | (simp only [g14, g15, g16, g17, Bool.true_or, Bool.or_true, Bool.false_or, Bool.or_false, Bool.true_and, Bool.and_true, Bool.false_and, Bool.and_false, Bool.not_true, Bool.not_false, cond_true, cond_false]; done) | (repeat (first | rw [g14] | rw [g15] | rw [g16] | rw [g17])) <;> simp only [Bool.true_or, Bool.or_true, Bool.false_or, Bool.or_false, Bool.true_and, Bool.and_true, Bool.false_and, Bool.and_false, Bool.not_true, Bool.not_false, cond_true, cond_false])).symm.trans b12)) rfl (met rfl rfl rfl (notT g14)) rfl ca41 rfl rfl (cC (.imm _) .nil) rfl rfl rfl rfl rfl ?_
          refine .v rfl (met rfl rfl rfl (notT g14)) (OpL.unV rfl rfl rfl) ?_
          refine .v rfl rfl (O.pickF (notT g14) rfl rfl rfl) ?_
          refine .m rfl rfl rfl rfl ?_
          refine .v rfl (met rfl rfl rfl (notT g15)) (O.fld fld46_0 rfl rfl rfl) ?_
          refine .v rfl (met rfl rfl rfl (notT g15)) (O.ld (y := .i x2.Day) ty3 rfl rfl rfl) ?_
          refine .m rfl (met rfl rfl rfl (notT g15)) rfl rfl ?_
          refine .v rfl (met rfl rfl rfl (notT g15)) (OpL.binI rfl rfl rfl rfl) ?_
          refine .v rfl rfl (O.pickF (notT g15) rfl rfl rfl) ?_
          refine .m rfl rfl rfl rfl ?_
          refine .v rfl (met rfl rfl rfl g16) (O.fld fld24_8 rfl rfl rfl) ?_
          refine .v rfl (met rfl rfl rfl g16) (O.ld (y := .imm (.row 2 (List.map api_Reset.enc x0.Resets))) ty22 rfl rfl rfl) ?_
          refine .v rfl (met rfl rfl rfl g16) (O.lenR sl22 rfl rfl) ?_
          refine .v rfl (met rfl rfl rfl g16) (OpL.binI rfl rfl rfl rfl) ?_
          refine .v rfl rfl (O.pickF g16 rfl rfl rfl) ?_
          refine .m rfl rfl rfl rfl ?_
          refine .v rfl (met rfl rfl rfl g17) (O.fld fld46_0 rfl rfl rfl) ?_
          refine .v rfl (met rfl rfl rfl g17) (O.ld (y := .i x2.Day) ty3 rfl rfl rfl) ?_
          refine .v rfl (met rfl rfl rfl g17) (O.fld fld24_8 rfl rfl rfl) ?_
          refine .v rfl (met rfl rfl rfl g17) (O.ld (y := .imm (.row 2 (List.map api_Reset.enc x0.Resets))) ty22 rfl rfl rfl) ?_
          refine .v rfl (met rfl rfl rfl g17) (O.fld fld24_8 rfl rfl rfl) ?_
          refine .v rfl (met rfl rfl rfl g17) (O.ld (y := .imm (.row 2 (List.map api_Reset.enc x0.Resets))) ty22 rfl rfl rfl) ?_
          refine .v rfl (met rfl rfl rfl g17) (O.lenR sl22 rfl rfl) ?_
          refine .v rfl (met rfl rfl rfl g17) (OpL.binI rfl rfl rfl rfl) ?_
          refine .v rfl (met rfl rfl rfl g17) (O.idx sl22 (c13 (by first | (simp only [g14, g15, g16, g17, Bool.true_or, Bool.or_true, Bool.false_or, Bool.or_false, Bool.true_and, Bool.and_true, Bool.false_and, Bool.and_false, Bool.not_true, Bool.not_false, cond_true, cond_false]; done) | (repeat (first | rw [g14] | rw [g15] | rw [g16] | rw [g17])) <;> simp only [Bool.true_or, Bool.or_true, Bool.false_or, Bool.or_false, Bool.true_and, Bool.and_true, Bool.false_and, Bool.and_false, Bool.not_true, Bool.not_false, cond_true, cond_false])) rfl rfl rfl) ?_
          refine .v rfl (met rfl rfl rfl g17) (O.fld fld46_0 rfl rfl rfl) ?_
          refine .v rfl (met rfl rfl rfl g17) (O.ld (y := .i ((nth x0.Resets (IntKind.wrap .i64 ((List.length x0.Resets : Int) - 1))).Day)) ty3 rfl rfl rfl) ?_
          refine .v rfl (met rfl rfl rfl g17) (OpL.binI rfl rfl rfl rfl) ?_
          refine .v rfl rfl (O.pickF g17 rfl rfl rfl) ?_
          refine .a rfl rfl rfl rfl ?_
          refine .nil ?_
          refine ⟨by kernel_rfl, by kernel_rfl, ?_⟩
          exact toN (Gives.mkR [] (.r rfl rfl (.r rfl rfl (.r rfl rfl (.c rfl (sbb (by first | (simp only [g14, g15, g16, g17, Bool.true_or, Bool.or_true, Bool.false_or, Bool.or_false, Bool.true_and, Bool.and_true, Bool.false_and, Bool.and_false, Bool.not_true, Bool.not_false, cond_true, cond_false]; done) | (repeat (first | rw [g14] | rw [g15] | rw [g16] | rw [g17])) <;> simp only [Bool.true_or, Bool.or_true, Bool.false_or, Bool.or_false, Bool.true_and, Bool.and_true, Bool.false_and, Bool.and_false, Bool.not_true, Bool.not_false, cond_true, cond_false])) rfl .n)))) (.r rfl rfl rfl (.r rfl rfl rfl (.r rfl rfl rfl .n))) rfl rfl rfl)
       ·refine W.dk (unm 36 [0, 1, 3, 7, 15, 31, 63, 127, 255, 511, 1023, 2047, 1023, 8191, 16383, 32767, 65535, 131071, 262143, 524287, 1048575, 2097151, 4194303, 8388607, 4194303, 20971519, 4194303, 71303167, 205520895, 473956351, 1061158911, 2134900735, 4282384383, 8589934591, 17179869183, 34359738367]) rfl (by kernel_rfl) ?_
        refine .m rfl rfl rfl rfl ?_
        refine .call (.b t9) [] 0 (calendar_Good.ok b10) rfl rfl rfl ca41 rfl rfl (cC (.imm _) .nil) rfl rfl rfl rfl rfl ?_
        refine .v rfl rfl (OpL.unV rfl rfl rfl) ?_
        refine .m rfl rfl rfl rfl ?_
        refine .v rfl (met rfl rfl rfl (notT g14)) (O.fld fld46_0 rfl rfl rfl) ?_
        refine .v rfl (met rfl rfl rfl (notT g14)) (O.ld (y := .i x2.Day) ty3 rfl rfl rfl) ?_
        refine .call (.b t11) [] 0 (calendar_Good.ok ((if_pos (by first | (simp only [g14, g15, Bool.true_or, Bool.or_true, Bool.false_or, Bool.or_false, Bool.true_and, Bool.and_true, Bool.false_and, Bool.and_false, Bool.not_true, Bool.not_false, cond_true, cond_false]; done) | (repeat (first | rw [g14] | rw [g15])) <;> simp only [Bool.true_or, Bool.or_true, Bool.false_or, Bool.or_false, Bool.true_and, Bool.and_true, Bool.false_and, Bool.and_false, Bool.not_true, Bool.not_false, cond_true, cond_false])).symm.trans b12)) rfl (met rfl rfl rfl (notT g14)) rfl ca41 rfl rfl (cC (.imm _) .nil) rfl rfl rfl rfl rfl ?_
        refine .v rfl (met rfl rfl rfl (notT g14)) (OpL.unV rfl rfl rfl) ?_
        refine .v rfl rfl (O.pickF (notT g14) rfl rfl rfl) ?_
        refine .m rfl rfl rfl rfl ?_
        refine .x rfl (unmet rfl rfl rfl (notF g15)) ?_
        refine .x rfl (unmet rfl rfl rfl (notF g15)) ?_
        refine .x rfl (unmet rfl rfl rfl (notF g15)) ?_
        refine .x rfl (unmet rfl rfl rfl (notF g15)) ?_
        refine .v rfl rfl (O.pickT (notF g15) rfl rfl rfl) ?_
        refine .m rfl rfl rfl rfl ?_
        refine .x rfl (unmet rfl rfl rfl rfl) ?_
        refine .x rfl (unmet rfl rfl rfl rfl) ?_
        refine .x rfl (unmet rfl rfl rfl rfl) ?_
        refine .x rfl (unmet rfl rfl rfl rfl) ?_
        refine .v rfl rfl (O.pickT rfl rfl rfl rfl) ?_
        refine .m rfl rfl rfl rfl ?_
        refine .x rfl (unmet rfl rfl rfl rfl) ?_
        refine .x rfl (unmet rfl rfl rfl rfl) ?_
        refine .x rfl (unmet rfl rfl rfl rfl) ?_
        refine .x rfl (unmet rfl rfl rfl rfl) ?_
        refine .x rfl (unmet rfl rfl rfl rfl) ?_
        refine .x rfl (unmet rfl rfl rfl rfl) ?_
        refine .x rfl (unmet rfl rfl rfl rfl) ?_
        refine .x rfl (unmet rfl rfl rfl rfl) ?_
        refine .x rfl (unmet rfl rfl rfl rfl) ?_
        refine .x rfl (unmet rfl rfl rfl rfl) ?_
        refine .x rfl (unmet rfl rfl rfl rfl) ?_
        refine .x rfl (unmet rfl rfl rfl rfl) ?_
        refine .v rfl rfl (O.pickT rfl rfl rfl rfl) ?_
        refine .a rfl rfl rfl rfl ?_
        refine .nil ?_
        refine ⟨by kernel_rfl, by kernel_rfl, ?_⟩
        exact toN (Gives.mkR [] (.r rfl rfl (.r rfl rfl (.r rfl rfl (.c rfl (sbb (by first | (simp only [g14, g15, Bool.true_or, Bool.or_true, Bool.false_or, Bool.or_false, Bool.true_and, Bool.and_true, Bool.false_and, Bool.and_false, Bool.not_true, Bool.not_false, cond_true, cond_false]; done) | (repeat (first | rw [g14] | rw [g15])) <;> simp only [Bool.true_or, Bool.or_true, Bool.false_or, Bool.or_false, Bool.true_and, Bool.and_true, Bool.false_and, Bool.and_false, Bool.not_true, Bool.not_false, cond_true, cond_false])) rfl .n)))) (.r rfl rfl rfl (.r rfl rfl rfl (.r rfl rfl rfl .n))) rfl rfl rfl)
      ·refine W.dk (unm 36 [0, 1, 3, 7, 15, 31, 63, 127, 255, 511, 1023, 2047, 1023, 8191, 16383, 32767, 65535, 131071, 262143, 524287, 1048575, 2097151, 4194303, 8388607, 4194303, 20971519, 4194303, 71303167, 205520895, 473956351, 1061158911, 2134900735, 4282384383, 8589934591, 17179869183, 34359738367]) rfl (by kernel_rfl) ?_
       refine .m rfl rfl rfl rfl ?_
       refine .call (.b t9) [] 0 (calendar_Good.ok b10) rfl rfl rfl ca41 rfl rfl (cC (.imm _) .nil) rfl rfl rfl rfl rfl ?_
       refine .v rfl rfl (OpL.unV rfl rfl rfl) ?_
       refine .m rfl rfl rfl rfl ?_
       refine .x rfl (unmet rfl rfl rfl (notF g14)) ?_
       refine .x rfl (unmet rfl rfl rfl (notF g14)) ?_
       refine .x rfl (unmet rfl rfl rfl (notF g14)) ?_
       refine .x rfl (unmet rfl rfl rfl (notF g14)) ?_
       refine .v rfl rfl (O.pickT (notF g14) rfl rfl rfl) ?_
       refine .m rfl rfl rfl rfl ?_
       refine .x rfl (unmet rfl rfl rfl rfl) ?_
       refine .x rfl (unmet rfl rfl rfl rfl) ?_
       refine .x rfl (unmet rfl rfl rfl rfl) ?_
       refine .x rfl (unmet rfl rfl rfl rfl) ?_
       refine .v rfl rfl (O.pickT rfl rfl rfl rfl) ?_
       refine .m rfl rfl rfl rfl ?_
       refine .x rfl (unmet rfl rfl rfl rfl) ?_
       refine .x rfl (unmet rfl rfl rfl rfl) ?_
       refine .x rfl (unmet rfl rfl rfl rfl) ?_
       refine .x rfl (unmet rfl rfl rfl rfl) ?_
       refine .v rfl rfl (O.pickT rfl rfl rfl rfl) ?_
       refine .m rfl rfl rfl rfl ?_
       refine .x rfl (unmet rfl rfl rfl rfl) ?_
       refine .x rfl (unmet rfl rfl rfl rfl) ?_
       refine .x rfl (unmet rfl rfl rfl rfl) ?_
       refine .x rfl (unmet rfl rfl rfl rfl) ?_
       refine .x rfl (unmet rfl rfl rfl rfl) ?_
       refine .x rfl (unmet rfl rfl rfl rfl) ?_
       refine .x rfl (unmet rfl rfl rfl rfl) ?_
       refine .x rfl (unmet rfl rfl rfl rfl) ?_
       refine .x rfl (unmet rfl rfl rfl rfl) ?_
       refine .x rfl (unmet rfl rfl rfl rfl) ?_
       refine .x rfl (unmet rfl rfl rfl rfl) ?_
       refine .x rfl (unmet rfl rfl rfl rfl) ?_
       refine .v rfl rfl (O.pickT rfl rfl rfl rfl) ?_
       refine .a rfl rfl rfl rfl ?_
       refine .nil ?_
       refine ⟨by kernel_rfl, by kernel_rfl, ?_⟩
       exact toN (Gives.mkR [] (.r rfl rfl (.r rfl rfl (.r rfl rfl (.c rfl (sbb (by simp only [g14, Bool.true_or, Bool.or_true, Bool.false_or, Bool.or_false, Bool.true_and, Bool.and_true, Bool.false_and, Bool.and_false, Bool.not_true, Bool.not_false, cond_true, cond_false])) rfl .n)))) (.r rfl rfl rfl (.r rfl rfl rfl (.r rfl rfl rfl .n))) rfl rfl rfl)
   ·clear h
    rcases tf (decide (x2.Rate < (-1000000))) with g7 | g7
    ·refine W.pk ?_
     refine .v rfl rfl (O.fld fld46_1 rfl rfl rfl) ?_
     refine .v rfl rfl (O.ld (y := .i x2.Rate) ty3 rfl rfl rfl) ?_
     refine .v rfl rfl (OpL.binI rfl rfl rfl rfl) ?_
     refine .m rfl rfl rfl rfl ?_
     refine .x rfl (unmet rfl rfl rfl g7) ?_
     refine .x rfl (unmet rfl rfl rfl g7) ?_
     refine .x rfl (unmet rfl rfl rfl g7) ?_
     refine .v rfl rfl (O.pickT g7 rfl rfl rfl) ?_
     refine .a rfl rfl rfl rfl ?_
     refine .nil ?_
     exact toN (Gives.mkR [] (.r rfl rfl (.r rfl rfl (.r rfl rfl (.r rfl rfl (.c rfl (sbb (by simp only [g7, Bool.true_or, Bool.or_true, Bool.false_or, Bool.or_false, Bool.true_and, Bool.and_true, Bool.false_and, Bool.and_false, Bool.not_true, Bool.not_false, cond_true, cond_false])) rfl .n))))) (.r rfl rfl rfl (.r rfl rfl rfl (.r rfl rfl rfl .n))) rfl rfl rfl)
    ·refine W.pk ?_
     refine .v rfl rfl (O.fld fld46_1 rfl rfl rfl) ?_
     refine .v rfl rfl (O.ld (y := .i x2.Rate) ty3 rfl rfl rfl) ?_
     refine .v rfl rfl (OpL.binI rfl rfl rfl rfl) ?_
     refine .m rfl rfl rfl rfl ?_
     refine .v rfl (met rfl rfl rfl g7) (O.fld fld46_1 rfl rfl rfl) ?_
     refine .v rfl (met rfl rfl rfl g7) (O.ld (y := .i x2.Rate) ty3 rfl rfl rfl) ?_
     refine .v rfl (met rfl rfl rfl g7) (OpL.binI rfl rfl rfl rfl) ?_
     refine .v rfl rfl (O.pickF g7 rfl rfl rfl) ?_
     refine .a rfl rfl rfl rfl ?_
     refine .nil ?_
     exact toN (Gives.mkR [] (.r rfl rfl (.r rfl rfl (.r rfl rfl (.r rfl rfl (.c rfl (sbb (by simp only [g7, Bool.true_or, Bool.or_true, Bool.false_or, Bool.or_false, Bool.true_and, Bool.and_true, Bool.false_and, Bool.and_false, Bool.not_true, Bool.not_false, cond_true, cond_false])) rfl .n))))) (.r rfl rfl rfl (.r rfl rfl rfl (.r rfl rfl rfl .n))) rfl rfl rfl)
 ·clear h
  rcases tf t1 with g5 | g5
  ·refine W.pk ?_
   refine .v rfl rfl (O.ldN ty24 rfl rfl rfl) ?_
   refine .call (.b t1) [] 0 (life_Open.ok b2) rfl rfl rfl ca34 rfl rfl (cC (.agg _ _ _ _ (cC (.imm _) (cC (.imm _) (cC (.imm _) (cC (.imm _) (cC (.imm _) (cC (.imm _) (cC (.imm _) (cC (.imm _) (cC (.imm _) (cC (.imm _) (cC (.imm _) .nil)))))))))))) .nil) rfl rfl rfl rfl rfl ?_
   refine .v rfl rfl (OpL.unV rfl rfl rfl) ?_
   refine .m rfl rfl rfl rfl ?_
   refine .v rfl (met rfl rfl rfl (notT g5)) (O.ldN ty24 rfl rfl rfl) ?_
   refine .call (.b t3) [] 0 (life_Over.ok ((if_pos (by simp only [g5, Bool.true_or, Bool.or_true, Bool.false_or, Bool.or_false, Bool.true_and, Bool.and_true, Bool.false_and, Bool.and_false, Bool.not_true, Bool.not_false, cond_true, cond_false])).symm.trans b4)) rfl (met rfl rfl rfl (notT g5)) rfl ca37 rfl rfl (cC (.agg _ _ _ _ (cC (.imm _) (cC (.imm _) (cC (.imm _) (cC (.imm _) (cC (.imm _) (cC (.imm _) (cC (.imm _) (cC (.imm _) (cC (.imm _) (cC (.imm _) (cC (.imm _) .nil)))))))))))) .nil) rfl rfl rfl rfl rfl ?_
   refine .v rfl rfl (O.pickF (notT g5) rfl rfl rfl) ?_
   refine .a rfl rfl rfl rfl ?_
   refine .nil ?_
   exact toN (Gives.mkR [] (.r rfl rfl (.r rfl rfl (.r rfl rfl (.r rfl rfl (.c rfl (sbb (by simp only [g5, Bool.true_or, Bool.or_true, Bool.false_or, Bool.or_false, Bool.true_and, Bool.and_true, Bool.false_and, Bool.and_false, Bool.not_true, Bool.not_false, cond_true, cond_false])) rfl .n))))) (.r rfl rfl rfl (.r rfl rfl rfl (.r rfl rfl rfl .n))) rfl rfl rfl)
  ·refine W.pk ?_
   refine .v rfl rfl (O.ldN ty24 rfl rfl rfl) ?_
   refine .call (.b t1) [] 0 (life_Open.ok b2) rfl rfl rfl ca34 rfl rfl (cC (.agg _ _ _ _ (cC (.imm _) (cC (.imm _) (cC (.imm _) (cC (.imm _) (cC (.imm _) (cC (.imm _) (cC (.imm _) (cC (.imm _) (cC (.imm _) (cC (.imm _) (cC (.imm _) .nil)))))))))))) .nil) rfl rfl rfl rfl rfl ?_
   refine .v rfl rfl (OpL.unV rfl rfl rfl) ?_
   refine .m rfl rfl rfl rfl ?_
   refine .x rfl (unmet rfl rfl rfl (notF g5)) ?_
   refine .x rfl (unmet rfl rfl rfl (notF g5)) ?_
   refine .v rfl rfl (O.pickT (notF g5) rfl rfl rfl) ?_
   refine .a rfl rfl rfl rfl ?_
   refine .nil ?_
   exact toN (Gives.mkR [] (.r rfl rfl (.r rfl rfl (.r rfl rfl (.r rfl rfl (.c rfl (sbb (by simp only [g5, Bool.true_or, Bool.or_true, Bool.false_or, Bool.or_false, Bool.true_and, Bool.and_true, Bool.false_and, Bool.and_false, Bool.not_true, Bool.not_false, cond_true, cond_false])) rfl .n))))) (.r rfl rfl rfl (.r rfl rfl rfl (.r rfl rfl rfl .n))) rfl rfl rfl)

noncomputable def lombardref23_Resets.b0 (x0 : List api_Reset) (x1 : List api_Reset) (v6 : Int) : Option (Int ⊕ (Bool ⊕ Unit)) :=
  if (decide (v6 < (List.length x0 : Int))) = true then
    if (0 : Int) ≤ v6 ∧ v6 < (List.length x0 : Int) then
    if (0 : Int) ≤ v6 ∧ v6 < (List.length x1 : Int) then
    if (!((((nth x0 v6).Day) == ((nth x1 v6).Day)) && (((nth x0 v6).Rate) == ((nth x1 v6).Rate)))) = true then
      some (.inr (.inl false))
    else
      some (.inl (IntKind.wrap .i64 (v6 + 1)))
    else none
    else none
  else
    some (.inr (.inr ()))
noncomputable def lombardref23_Resets.r0 (x0 : List api_Reset) (x1 : List api_Reset) (s : Int) : Option (Int ⊕ (Bool ⊕ Unit)) := lombardref23_Resets.b0 x0 x1 s
noncomputable def lombardref23_Resets.f (x0 : List api_Reset) (x1 : List api_Reset) : Option (Bool) :=
  if ((List.length x0 : Int) != (List.length x1 : Int)) = true then
    some false
  else
    (loop (lombardref23_Resets.r0 x0 x1) 0).bind fun o16 =>
    match o16 with
    | .inl r23 => some r23
    | .inr w15 =>
      some true
set_option maxRecDepth 100000 in
set_option maxHeartbeats 4000000 in
theorem lombardref23_Resets.ok {x0 : List api_Reset} {x1 : List api_Reset} {r : Bool} (h : lombardref23_Resets.f x0 x1 = some r) : Pm.Spec prog 39 [.imm (.row 2 (List.map api_Reset.enc x0)), .xown 46 2 (List.map api_Reset.enc x1)] (.imm (.val (.bool r))) [none, some (.xown 46 2 (List.map api_Reset.enc x1))] := by
 unfold lombardref23_Resets.f at h
 refine Pm.Spec.of_body Try.func39 rfl (by kernel_rfl) (Nat.le_of_ble_eq_true rfl) (Nat.le_of_ble_eq_true rfl) ?_
 refine W.ghost (σ' := (mkSt [(0, some (.imm (.row 2 (List.map api_Reset.enc x0)))), (1, some (.own 0))] [(0, some (.rows 46 2 (List.map api_Reset.enc x1) false))] 1000)) (Gives.entry (.c rfl (.c rfl .n)) (.c rfl .n)) ?_
 refine W.seq ?_
 refine W.pk ?_
 refine .a rfl rfl rfl rfl ?_
 refine .nil ?_
 refine W.seq ?_
 refine W.seq ?_
 refine W.pk ?_
 refine .m rfl rfl rfl rfl ?_
 refine .v rfl rfl (O.lenR sl22 rfl rfl) ?_
 refine .m rfl rfl rfl rfl ?_
 refine .v rfl rfl (O.lenO sl22 rfl rfl rfl) ?_
 refine .v rfl rfl (OpL.binI rfl rfl rfl rfl) ?_
 refine .nil ?_
 refine W.cond rfl (fun q1 => ?_) (fun q1 => ?_)
 ·have h := ifT q1 h
  refine W.seq ?_
  refine W.pk ?_
  refine .a rfl rfl rfl rfl ?_
  refine .nil ?_
  refine W.ret ?_
  cases h
  exact leaves (.inr rfl) rfl (.imm _) (cN (cS (.own _ _ _ _ rfl) .nil)) rfl rfl
 ·have h := ifF q1 h
  refine W.skip ?_
  refine W.seq ?_
  refine W.seq ?_
  refine W.pk ?_
  refine .a rfl rfl rfl rfl ?_
  refine .nil ?_
  obtain ⟨o16, b17, z18⟩ := bnd1 h
  refine W.fork2 (out := o16) (fun (w15 : Unit) => mkSt [] [(0, some (.rows 46 2 (List.map api_Reset.enc x1) false))] 1000) ?_ ?_
  ·clear h
   refine W.block ?_
   refine W.loopF (fun (s_ : Int) => mkSt [(0, some (.imm (.row 2 (List.map api_Reset.enc x0)))), (1, some (.own 0)), (5, some (.i s_))] [(0, some (.rows 46 2 (List.map api_Reset.enc x1) false))] 1000) b17 (Gives.mkR [] (.r rfl rfl (.r rfl rfl (.r rfl rfl .n))) (.r rfl rfl rfl .n) rfl rfl rfl) ?_
   rintro v6 s_ hr
   have h : lombardref23_Resets.b0 x0 x1 v6 = some s_ := hr
   unfold lombardref23_Resets.b0 at h
   refine W.seq ?_
   refine W.seq ?_
   refine W.pk ?_
   refine .m rfl rfl rfl rfl ?_
   refine .m rfl rfl rfl rfl ?_
   refine .v rfl rfl (O.lenR sl22 rfl rfl) ?_
   refine .v rfl rfl (OpL.binI rfl rfl rfl rfl) ?_
   refine .nil ?_
   refine W.cond rfl (fun q19 => ?_) (fun q19 => ?_)
   ·have h := ifT q19 h
    refine W.skip ?_
    refine W.seq ?_
    refine W.block ?_
    refine W.seq ?_
    obtain ⟨c20, h⟩ := chk h
    obtain ⟨c21, h⟩ := chk h
    refine W.dk (unm 9 [0, 0, 3, 7, 0, 0, 48, 112, 255]) rfl (by kernel_rfl) ?_
    refine .m rfl rfl rfl rfl ?_
    refine .m rfl rfl rfl rfl ?_
    refine .v rfl rfl (O.idx sl22 c20 rfl rfl rfl) ?_
    refine .v rfl rfl (O.ldN ty46 rfl rfl rfl) ?_
    refine .m rfl rfl rfl rfl ?_
    refine .m rfl rfl rfl rfl ?_
    refine .v rfl rfl (O.idxO sl22 c21 rfl rfl rfl rfl) ?_
    refine .v rfl rfl (O.ldEN ty46 c21 rfl rfl rfl rfl rfl) ?_
    refine .v rfl rfl (O.neS (r := ((((nth x0 v6).Day) == ((nth x1 v6).Day)) && (((nth x0 v6).Rate) == ((nth x1 v6).Rate)))) fl46 rfl rfl rfl rfl rfl rfl) ?_
    refine .nil ?_
    refine ⟨by kernel_rfl, by kernel_rfl, ?_⟩
    refine W.cond rfl (fun q22 => ?_) (fun q22 => ?_)
    ·have h := ifT q22 h
     refine W.seq ?_
     refine W.pk ?_
     refine .a rfl rfl rfl rfl ?_
     refine .nil ?_
     refine W.ret ?_
     cases h
     refine rdR fun e_ => ?_
     subst e_
     have h := z18
     dsimp only at h
     refine fkR ?_
     cases h
     exact leaves (.inr rfl) rfl (.imm _) (cN (cS (.own _ _ _ _ rfl) .nil)) rfl rfl
    ·have h := ifF q22 h
     refine W.skip ?_
     refine W.pk ?_
     refine .m rfl rfl rfl rfl ?_
     refine .v rfl rfl (OpL.binI rfl rfl rfl rfl) ?_
     refine .a rfl rfl rfl rfl ?_
     refine .nil ?_
     cases h
     exact rdN (Gives.mkR [] (.r rfl rfl (.r rfl rfl (.r rfl rfl .n))) (.r rfl rfl rfl .n) rfl rfl rfl)
   ·have h := ifF q19 h
    refine W.exit ?_
    cases h
    refine rdX fun e_ => ?_
    subst e_
    repeat with_reducible refine thru ?_
    refine hit ?_
    exact fkN (Gives.mkR [] .n (.r rfl rfl rfl .n) rfl rfl rfl)
  ·intro w15 e_
   subst e_
   clear h
   have h := z18
   dsimp only at h
   refine W.seq ?_
   refine W.pk ?_
   refine .a rfl rfl rfl rfl ?_
   refine .nil ?_
   refine W.ret ?_
   cases h
   exact leaves (.inr rfl) rfl (.imm _) (cN (cS (.own _ _ _ _ rfl) .nil)) rfl rfl

noncomputable def life_Close.f (x0 : api_Trade) (x1 : Int) : Option (api_Trade × Int) :=
  (life_Live.f x0).bind fun t1 =>
  (if (!t1) = false then life_Open.f x0 else some default).bind fun t3 =>
  if ((!t1) || t3) = true then
    some (x0, 8)
  else
    (calendar_Good.f x1).bind fun t7 =>
    if ((!t7) || (decide (x1 < x0.End))) = true then
      some (x0, 10)
    else
      some ((⟨x0.ID, x0.Twin, x0.Member, x0.Side, x0.Basket, x0.Amount, x0.Start, x0.End, x0.Resets, 4, x0.Short⟩ : api_Trade), 0)
set_option maxRecDepth 100000 in
set_option maxHeartbeats 4000000 in
theorem life_Close.ok {x0 : api_Trade} {x1 : Int} {r : api_Trade × Int} (h : life_Close.f x0 x1 = some r) : Pm.Spec prog 30 [.agg [.imm (.val (.int .i64 x0.ID)), .imm (.val (.int .i64 x0.Twin)), .imm (.val (.int .i64 x0.Member)), .imm (.val (.int .i64 x0.Side)), .imm (.val (.int .i64 x0.Basket)), .imm (.val (.int .i64 x0.Amount)), .imm (.val (.int .i64 x0.Start)), .imm (.val (.int .i64 x0.End)), .imm (.row 2 (List.map api_Reset.enc x0.Resets)), .imm (.val (.int .i64 x0.Stage)), .imm (.val (.bool x0.Short))], .imm (.val (.int .i64 x1))] (.tup [.agg [.imm (.val (.int .i64 r.1.ID)), .imm (.val (.int .i64 r.1.Twin)), .imm (.val (.int .i64 r.1.Member)), .imm (.val (.int .i64 r.1.Side)), .imm (.val (.int .i64 r.1.Basket)), .imm (.val (.int .i64 r.1.Amount)), .imm (.val (.int .i64 r.1.Start)), .imm (.val (.int .i64 r.1.End)), .imm (.row 2 (List.map api_Reset.enc r.1.Resets)), .imm (.val (.int .i64 r.1.Stage)), .imm (.val (.bool r.1.Short))], .imm (.val (.int .i64 r.2))]) [none, none] := by
 unfold life_Close.f at h
 refine Pm.Spec.of_body Try.func30 rfl (by kernel_rfl) (Nat.le_of_ble_eq_true rfl) (Nat.le_of_ble_eq_true rfl) ?_
 refine W.ghost (σ' := (mkSt [(0, some (.agg (api_Trade.av x0))), (1, some (.i x1))] [] 1000)) (Gives.entry (.c rfl (.c rfl .n)) .n) ?_
 refine W.seq ?_
 refine W.pk ?_
 refine .t rfl rfl (O.box rfl rfl rfl rfl rfl) ?_
 refine .t rfl rfl (O.alloc z24 rfl) ?_
 refine .a rfl rfl rfl rfl ?_
 refine .nil ?_
 refine W.seq ?_
 refine W.block ?_
 refine W.seq ?_
 obtain ⟨t1, b2, h⟩ := bnd1 h
 obtain ⟨t3, b4, h⟩ := bnd1 h
 refine W.fork (mkSt [(1, some (.i x1)), (2, some (.ptr 1000 0)), (4, some (.ptr 1001 0)), (6, some (.b ((!t1) || t3)))] [(1000, some (.box [.i x0.ID, .i x0.Twin, .i x0.Member, .i x0.Side, .i x0.Basket, .i x0.Amount, .i x0.Start, .i x0.End, .imm (.row 2 (List.map api_Reset.enc x0.Resets)), .i x0.Stage, .b x0.Short])), (1001, some (.box [.i 0, .i 0, .i 0, .i 0, .i 0, .i 0, .i 0, .i 0, .imm (.val (.slice none 0 0)), .i 0, .b false]))] 1002) ?_ ?_
 ·refine W.cond rfl (fun q6 => ?_) (fun q6 => ?_)
  ·have h := ifT q6 h
   refine W.seq ?_
   refine W.pk ?_
   refine .v rfl rfl (O.ldN ty24 rfl rfl rfl) ?_
   refine .s rfl rfl (O.st ty24 rfl rfl rfl rfl rfl rfl rfl rfl rfl rfl (all' := [.i x0.ID, .i x0.Twin, .i x0.Member, .i x0.Side, .i x0.Basket, .i x0.Amount, .i x0.Start, .i x0.End, .imm (.row 2 (List.map api_Reset.enc x0.Resets)), .i x0.Stage, .b x0.Short]) rfl) ?_
   refine .a rfl rfl rfl rfl ?_
   refine .nil ?_
   refine W.ret ?_
   cases h
   exact leaves (.inr rfl) rfl (.tup _ _ _ _ (cC (.agg _ _ _ _ (cC (.imm _) (cC (.imm _) (cC (.imm _) (cC (.imm _) (cC (.imm _) (cC (.imm _) (cC (.imm _) (cC (.imm _) (cC (.imm _) (cC (.imm _) (cC (.imm _) .nil)))))))))))) (cC (.imm _) .nil))) (cN (cN .nil)) rfl rfl
  ·have h := ifF q6 h
   refine W.seq ?_
   obtain ⟨t7, b8, h⟩ := bnd1 h
   refine W.fork (mkSt [(2, some (.ptr 1000 0)), (4, some (.ptr 1001 0)), (15, some (.b ((!t7) || (decide (x1 < x0.End)))))] [(1000, some (.box [.i x0.ID, .i x0.Twin, .i x0.Member, .i x0.Side, .i x0.Basket, .i x0.Amount, .i x0.Start, .i x0.End, .imm (.row 2 (List.map api_Reset.enc x0.Resets)), .i x0.Stage, .b x0.Short])), (1001, some (.box [.i 0, .i 0, .i 0, .i 0, .i 0, .i 0, .i 0, .i 0, .imm (.val (.slice none 0 0)), .i 0, .b false]))] 1002) ?_ ?_
   ·refine W.cond rfl (fun q10 => ?_) (fun q10 => ?_)
    ·have h := ifT q10 h
     refine W.seq ?_
     refine W.pk ?_
     refine .v rfl rfl (O.ldN ty24 rfl rfl rfl) ?_
     refine .s rfl rfl (O.st ty24 rfl rfl rfl rfl rfl rfl rfl rfl rfl rfl (all' := [.i x0.ID, .i x0.Twin, .i x0.Member, .i x0.Side, .i x0.Basket, .i x0.Amount, .i x0.Start, .i x0.End, .imm (.row 2 (List.map api_Reset.enc x0.Resets)), .i x0.Stage, .b x0.Short]) rfl) ?_
     refine .a rfl rfl rfl rfl ?_
     refine .nil ?_
     refine W.ret ?_
     cases h
     exact leaves (.inr rfl) rfl (.tup _ _ _ _ (cC (.agg _ _ _ _ (cC (.imm _) (cC (.imm _) (cC (.imm _) (cC (.imm _) (cC (.imm _) (cC (.imm _) (cC (.imm _) (cC (.imm _) (cC (.imm _) (cC (.imm _) (cC (.imm _) .nil)))))))))))) (cC (.imm _) .nil))) (cN (cN .nil)) rfl rfl
    ·have h := ifF q10 h
     refine W.skip ?_
     refine W.seq ?_
     refine W.pk ?_
     refine .v rfl rfl (O.fld fld24_9 rfl rfl rfl) ?_
     refine .s rfl rfl (O.st ty3 rfl rfl rfl rfl rfl rfl rfl rfl rfl rfl (all' := [.i x0.ID, .i x0.Twin, .i x0.Member, .i x0.Side, .i x0.Basket, .i x0.Amount, .i x0.Start, .i x0.End, .imm (.row 2 (List.map api_Reset.enc x0.Resets)), .i 4, .b x0.Short]) rfl) ?_
     refine .nil ?_
     refine W.seq ?_
     refine W.pk ?_
     refine .v rfl rfl (O.ldN ty24 rfl rfl rfl) ?_
     refine .s rfl rfl (O.st ty24 rfl rfl rfl rfl rfl rfl rfl rfl rfl rfl (all' := [.i x0.ID, .i x0.Twin, .i x0.Member, .i x0.Side, .i x0.Basket, .i x0.Amount, .i x0.Start, .i x0.End, .imm (.row 2 (List.map api_Reset.enc x0.Resets)), .i 4, .b x0.Short]) rfl) ?_
     refine .a rfl rfl rfl rfl ?_
     refine .nil ?_
     refine W.ret ?_
     cases h
     exact leaves (.inr rfl) rfl (.tup _ _ _ _ (cC (.agg _ _ _ _ (cC (.imm _) (cC (.imm _) (cC (.imm _) (cC (.imm _) (cC (.imm _) (cC (.imm _) (cC (.imm _) (cC (.imm _) (cC (.imm _) (cC (.imm _) (cC (.imm _) .nil)))))))))))) (cC (.imm _) .nil))) (cN (cN .nil)) rfl rfl
   ·clear h
    rcases tf t7 with g9 | g9
    ·refine W.pk ?_
     refine .m rfl rfl rfl rfl ?_
     refine .call (.b t7) [] 0 (calendar_Good.ok b8) rfl rfl rfl ca41 rfl rfl (cC (.imm _) .nil) rfl rfl rfl rfl rfl ?_
     refine .v rfl rfl (OpL.unV rfl rfl rfl) ?_
     refine .m rfl rfl rfl rfl ?_
     refine .m rfl (met rfl rfl rfl (notT g9)) rfl rfl ?_
     refine .v rfl (met rfl rfl rfl (notT g9)) (O.fld fld24_7 rfl rfl rfl) ?_
     refine .v rfl (met rfl rfl rfl (notT g9)) (O.ld (y := .i x0.End) ty3 rfl rfl rfl) ?_
     refine .v rfl (met rfl rfl rfl (notT g9)) (OpL.binI rfl rfl rfl rfl) ?_
     refine .v rfl rfl (O.pickF (notT g9) rfl rfl rfl) ?_
     refine .a rfl rfl rfl rfl ?_
     refine .nil ?_
     exact toN (Gives.mkR [] (.r rfl rfl (.r rfl rfl (.c rfl (sbb (by simp only [g9, Bool.true_or, Bool.or_true, Bool.false_or, Bool.or_false, Bool.true_and, Bool.and_true, Bool.false_and, Bool.and_false, Bool.not_true, Bool.not_false, cond_true, cond_false])) rfl .n))) (.r rfl rfl rfl (.r rfl rfl rfl .n)) rfl rfl rfl)
    ·refine W.pk ?_
     refine .m rfl rfl rfl rfl ?_
     refine .call (.b t7) [] 0 (calendar_Good.ok b8) rfl rfl rfl ca41 rfl rfl (cC (.imm _) .nil) rfl rfl rfl rfl rfl ?_
     refine .v rfl rfl (OpL.unV rfl rfl rfl) ?_
     refine .m rfl rfl rfl rfl ?_
     refine .x rfl (unmet rfl rfl rfl (notF g9)) ?_
     refine .x rfl (unmet rfl rfl rfl (notF g9)) ?_
     refine .x rfl (unmet rfl rfl rfl (notF g9)) ?_
     refine .x rfl (unmet rfl rfl rfl (notF g9)) ?_
     refine .v rfl rfl (O.pickT (notF g9) rfl rfl rfl) ?_
     refine .a rfl rfl rfl rfl ?_
     refine .nil ?_
     exact toN (Gives.mkR [] (.r rfl rfl (.r rfl rfl (.c rfl (sbb (by simp only [g9, Bool.true_or, Bool.or_true, Bool.false_or, Bool.or_false, Bool.true_and, Bool.and_true, Bool.false_and, Bool.and_false, Bool.not_true, Bool.not_false, cond_true, cond_false])) rfl .n))) (.r rfl rfl rfl (.r rfl rfl rfl .n)) rfl rfl rfl)
 ·clear h
  rcases tf t1 with g5 | g5
  ·refine W.pk ?_
   refine .v rfl rfl (O.ldN ty24 rfl rfl rfl) ?_
   refine .call (.b t1) [] 0 (life_Live.ok b2) rfl rfl rfl ca35 rfl rfl (cC (.agg _ _ _ _ (cC (.imm _) (cC (.imm _) (cC (.imm _) (cC (.imm _) (cC (.imm _) (cC (.imm _) (cC (.imm _) (cC (.imm _) (cC (.imm _) (cC (.imm _) (cC (.imm _) .nil)))))))))))) .nil) rfl rfl rfl rfl rfl ?_
   refine .v rfl rfl (OpL.unV rfl rfl rfl) ?_
   refine .m rfl rfl rfl rfl ?_
   refine .v rfl (met rfl rfl rfl (notT g5)) (O.ldN ty24 rfl rfl rfl) ?_
   refine .call (.b t3) [] 0 (life_Open.ok ((if_pos (by simp only [g5, Bool.true_or, Bool.or_true, Bool.false_or, Bool.or_false, Bool.true_and, Bool.and_true, Bool.false_and, Bool.and_false, Bool.not_true, Bool.not_false, cond_true, cond_false])).symm.trans b4)) rfl (met rfl rfl rfl (notT g5)) rfl ca34 rfl rfl (cC (.agg _ _ _ _ (cC (.imm _) (cC (.imm _) (cC (.imm _) (cC (.imm _) (cC (.imm _) (cC (.imm _) (cC (.imm _) (cC (.imm _) (cC (.imm _) (cC (.imm _) (cC (.imm _) .nil)))))))))))) .nil) rfl rfl rfl rfl rfl ?_
   refine .v rfl rfl (O.pickF (notT g5) rfl rfl rfl) ?_
   refine .a rfl rfl rfl rfl ?_
   refine .nil ?_
   exact toN (Gives.mkR [] (.r rfl rfl (.r rfl rfl (.r rfl rfl (.c rfl (sbb (by simp only [g5, Bool.true_or, Bool.or_true, Bool.false_or, Bool.or_false, Bool.true_and, Bool.and_true, Bool.false_and, Bool.and_false, Bool.not_true, Bool.not_false, cond_true, cond_false])) rfl .n)))) (.r rfl rfl rfl (.r rfl rfl rfl .n)) rfl rfl rfl)
  ·refine W.pk ?_
   refine .v rfl rfl (O.ldN ty24 rfl rfl rfl) ?_
   refine .call (.b t1) [] 0 (life_Live.ok b2) rfl rfl rfl ca35 rfl rfl (cC (.agg _ _ _ _ (cC (.imm _) (cC (.imm _) (cC (.imm _) (cC (.imm _) (cC (.imm _) (cC (.imm _) (cC (.imm _) (cC (.imm _) (cC (.imm _) (cC (.imm _) (cC (.imm _) .nil)))))))))))) .nil) rfl rfl rfl rfl rfl ?_
   refine .v rfl rfl (OpL.unV rfl rfl rfl) ?_
   refine .m rfl rfl rfl rfl ?_
   refine .x rfl (unmet rfl rfl rfl (notF g5)) ?_
   refine .x rfl (unmet rfl rfl rfl (notF g5)) ?_
   refine .v rfl rfl (O.pickT (notF g5) rfl rfl rfl) ?_
   refine .a rfl rfl rfl rfl ?_
   refine .nil ?_
   exact toN (Gives.mkR [] (.r rfl rfl (.r rfl rfl (.r rfl rfl (.c rfl (sbb (by simp only [g5, Bool.true_or, Bool.or_true, Bool.false_or, Bool.or_false, Bool.true_and, Bool.and_true, Bool.false_and, Bool.and_false, Bool.not_true, Bool.not_false, cond_true, cond_false])) rfl .n)))) (.r rfl rfl rfl (.r rfl rfl rfl .n)) rfl rfl rfl)

noncomputable def lombardref03_Amount.f (x0 : Int) : Option (Bool) :=
  some ((decide (x0 ≥ 0)) && (decide (x0 ≤ 1125899906842624)))
set_option maxRecDepth 100000 in
set_option maxHeartbeats 4000000 in
theorem lombardref03_Amount.ok {x0 : Int} {r : Bool} (h : lombardref03_Amount.f x0 = some r) : Pm.Spec prog 54 [.imm (.val (.int .i64 x0))] (.imm (.val (.bool r))) [none] := by
 unfold lombardref03_Amount.f at h
 refine Pm.Spec.of_body Try.func54 rfl (by kernel_rfl) (Nat.le_of_ble_eq_true rfl) (Nat.le_of_ble_eq_true rfl) ?_
 refine W.ghost (σ' := (mkSt [(0, some (.i x0))] [] 1000)) (Gives.entry (.c rfl .n) .n) ?_
 refine W.seq ?_
 refine W.pk ?_
 refine .a rfl rfl rfl rfl ?_
 refine .nil ?_
 refine W.seq ?_
 refine W.fork (mkSt [(2, some (.b ((decide (x0 ≥ 0)) && (decide (x0 ≤ 1125899906842624)))))] [] 1000) ?_ ?_
 ·refine W.ret ?_
  cases h
  exact leaves (.inr rfl) rfl (.imm _) (cN .nil) rfl rfl
 ·clear h
  rcases tf (decide (x0 ≥ 0)) with g1 | g1
  ·refine W.pk ?_
   refine .m rfl rfl rfl rfl ?_
   refine .v rfl rfl (OpL.binI rfl rfl rfl rfl) ?_
   refine .m rfl rfl rfl rfl ?_
   refine .m rfl (met rfl rfl rfl g1) rfl rfl ?_
   refine .v rfl (met rfl rfl rfl g1) (OpL.binI rfl rfl rfl rfl) ?_
   refine .v rfl rfl (O.pickT g1 rfl rfl rfl) ?_
   refine .a rfl rfl rfl rfl ?_
   refine .nil ?_
   exact toN (Gives.mkR [] (.c rfl (sbb (by simp only [g1, Bool.true_or, Bool.or_true, Bool.false_or, Bool.or_false, Bool.true_and, Bool.and_true, Bool.false_and, Bool.and_false, Bool.not_true, Bool.not_false, cond_true, cond_false])) rfl .n) .n rfl rfl rfl)
  ·refine W.pk ?_
   refine .m rfl rfl rfl rfl ?_
   refine .v rfl rfl (OpL.binI rfl rfl rfl rfl) ?_
   refine .m rfl rfl rfl rfl ?_
   refine .x rfl (unmet rfl rfl rfl g1) ?_
   refine .x rfl (unmet rfl rfl rfl g1) ?_
   refine .v rfl rfl (O.pickF g1 rfl rfl rfl) ?_
   refine .a rfl rfl rfl rfl ?_
   refine .nil ?_
   exact toN (Gives.mkR [] (.c rfl (sbb (by simp only [g1, Bool.true_or, Bool.or_true, Bool.false_or, Bool.or_false, Bool.true_and, Bool.and_true, Bool.false_and, Bool.and_false, Bool.not_true, Bool.not_false, cond_true, cond_false])) rfl .n) .n rfl rfl rfl)

noncomputable def lombardref01_Of.b0  (v6 : Int) (v7 : List Int) : Option ((Int × (List Int)) ⊕ (List Int)) :=
  if (decide (v6 > 0)) = true then
    if (List.length v7 + List.length [(Int.tmod v6 65536)]) * 8 ≤ 140737488355328 then
    some (.inl ((IntKind.wrap .u64 (Int.tdiv v6 65536)), (v7 ++ [(Int.tmod v6 65536)])))
    else none
  else
    some (.inr v7)
noncomputable def lombardref01_Of.r0  (s : Int × (List Int)) : Option ((Int × (List Int)) ⊕ (List Int)) := lombardref01_Of.b0  s.1 s.2
noncomputable def lombardref01_Of.f (x0 : Int) : Option (List Int) :=
  (loop lombardref01_Of.r0 (x0, [])).bind fun o13 =>
  some o13
set_option maxRecDepth 100000 in
set_option maxHeartbeats 4000000 in
theorem lombardref01_Of.ok {x0 : Int} {r : List Int} (h : lombardref01_Of.f x0 = some r) : Pm.Spec prog 67 [.imm (.val (.int .u64 x0))] (.xown 88 1 (List.map (encI .u64) r)) [none] := by
 unfold lombardref01_Of.f at h
 refine Pm.Spec.of_body Try.func67 rfl (by kernel_rfl) (Nat.le_of_ble_eq_true rfl) (Nat.le_of_ble_eq_true rfl) ?_
 refine W.ghost (σ' := (mkSt [(0, some (.imm (.val (.int .u64 x0))))] [] 1000)) (Gives.entry (.c rfl .n) .n) ?_
 refine W.seq ?_
 refine W.pk ?_
 refine .a rfl rfl rfl rfl ?_
 refine .nil ?_
 refine W.seq ?_
 refine W.pk ?_
 refine .a rfl rfl rfl rfl ?_
 refine .nil ?_
 refine W.seq ?_
 refine W.ghost (Gives.mintS 3 88 1 rfl) ?_
 obtain ⟨o13, b14, h⟩ := bnd1 h
 refine W.fork (mkSt [(3, some (.own 1000))] [(1000, some (.rows 88 1 (List.map (encI .u64) o13) false))] 1001) ?_ ?_
 ·refine W.seq ?_
  refine W.pk ?_
  refine .m rfl rfl rfl rfl ?_
  refine .a rfl rfl rfl rfl ?_
  refine .nil ?_
  refine W.ret ?_
  cases h
  exact leaves (.inr rfl) rfl (.own _ _ _ _ rfl) (cN .nil) rfl rfl
 ·clear h
  refine W.block ?_
  refine W.loopF (fun (s_ : Int × (List Int)) => mkSt [(0, some (.imm (.val (.int .u64 s_.1)))), (3, some (.own 1000))] [(1000, some (.rows 88 1 (List.map (encI .u64) s_.2) false))] 1001) b14 (Gives.mkR [] (.r rfl rfl (.r rfl rfl .n)) (.r rfl rfl rfl .n) rfl rfl rfl) ?_
  rintro ⟨v6, v7⟩ s_ hr
  have h : lombardref01_Of.b0  v6 v7 = some s_ := hr
  unfold lombardref01_Of.b0 at h
  refine W.seq ?_
  refine W.seq ?_
  refine W.pk ?_
  refine .m rfl rfl rfl rfl ?_
  refine .v rfl rfl (OpL.binI rfl rfl rfl rfl) ?_
  refine .nil ?_
  refine W.cond rfl (fun q16 => ?_) (fun q16 => ?_)
  ·have h := ifT q16 h
   refine W.skip ?_
   refine W.block ?_
   refine W.seq ?_
   obtain ⟨c17, h⟩ := chk h
   refine W.pk ?_
   refine .m rfl rfl rfl rfl ?_
   refine .m rfl rfl rfl rfl ?_
   refine .v rfl rfl (O.rem rfl rfl rfl (by decide)) ?_
   refine .t rfl rfl (O.lit (enc := (encI .u64)) (l := [(Int.tmod v6 65536)]) sl82 rfl rfl rfl rfl rfl rfl rfl rfl rfl) ?_
   refine .t rfl rfl (O.appO sl82 (EncOk.int .u64) c17 rfl rfl rfl rfl rfl) ?_
   refine .a rfl rfl rfl rfl ?_
   refine .nil ?_
   refine W.pk ?_
   refine .m rfl rfl rfl rfl ?_
   refine .v rfl rfl (O.quo rfl rfl rfl (by decide)) ?_
   refine .a rfl rfl rfl rfl ?_
   refine .nil ?_
   cases h
   exact rdN (Gives.mkR [(1000, 1002)] (.r rfl rfl (.r rfl rfl .n)) (.r rfl rfl rfl .n) rfl rfl rfl)
  ·have h := ifF q16 h
   refine W.exit ?_
   cases h
   refine rdX fun e_ => ?_
   subst e_
   repeat with_reducible refine thru ?_
   refine hit ?_
   exact toN (Gives.mkR [] (.r rfl rfl .n) (.r rfl rfl rfl .n) rfl rfl rfl)

noncomputable def lombardref01_size.f (x0 : Int) : Option (List Int) :=
  if (x0 == (-9223372036854775808)) = true then
    (lombardref01_Of.f 9223372036854775808).bind fun t2 =>
    some t2
  else
    if (decide (x0 < 0)) = true then
      (lombardref01_Of.f (IntKind.wrap .u64 (IntKind.wrap .i64 (0 - x0)))).bind fun t5 =>
      some t5
    else
      (lombardref01_Of.f (IntKind.wrap .u64 x0)).bind fun t7 =>
      some t7
set_option maxRecDepth 100000 in
set_option maxHeartbeats 4000000 in
theorem lombardref01_size.ok {x0 : Int} {r : List Int} (h : lombardref01_size.f x0 = some r) : Pm.Spec prog 64 [.imm (.val (.int .i64 x0))] (.xown 88 1 (List.map (encI .u64) r)) [none] := by
 unfold lombardref01_size.f at h
 refine Pm.Spec.of_body Try.func64 rfl (by kernel_rfl) (Nat.le_of_ble_eq_true rfl) (Nat.le_of_ble_eq_true rfl) ?_
 refine W.ghost (σ' := (mkSt [(0, some (.i x0))] [] 1000)) (Gives.entry (.c rfl .n) .n) ?_
 refine W.seq ?_
 refine W.pk ?_
 refine .a rfl rfl rfl rfl ?_
 refine .nil ?_
 refine W.seq ?_
 refine W.seq ?_
 refine W.pk ?_
 refine .m rfl rfl rfl rfl ?_
 refine .v rfl rfl (OpL.binI rfl rfl rfl rfl) ?_
 refine .nil ?_
 refine W.cond rfl (fun q1 => ?_) (fun q1 => ?_)
 ·have h := ifT q1 h
  refine W.seq ?_
  obtain ⟨t2, b3, h⟩ := bnd1 h
  refine W.pk ?_
  refine .call (.own 1000) [(1000, some (.rows 88 1 (List.map (encI .u64) t2) false))] 1 (lombardref01_Of.ok b3) rfl rfl rfl ca67 rfl rfl (cC (.imm _) .nil) rfl rfl rfl rfl rfl ?_
  refine .a rfl rfl rfl rfl ?_
  refine .nil ?_
  refine W.ret ?_
  cases h
  exact leaves (.inr rfl) rfl (.own _ _ _ _ rfl) (cN .nil) rfl rfl
 ·have h := ifF q1 h
  refine W.skip ?_
  refine W.seq ?_
  refine W.seq ?_
  refine W.pk ?_
  refine .m rfl rfl rfl rfl ?_
  refine .v rfl rfl (OpL.binI rfl rfl rfl rfl) ?_
  refine .nil ?_
  refine W.cond rfl (fun q4 => ?_) (fun q4 => ?_)
  ·have h := ifT q4 h
   refine W.seq ?_
   obtain ⟨t5, b6, h⟩ := bnd1 h
   refine W.pk ?_
   refine .m rfl rfl rfl rfl ?_
   refine .v rfl rfl (OpL.binI rfl rfl rfl rfl) ?_
   refine .v rfl rfl (O.conv h3 u88 rfl rfl) ?_
   refine .call (.own 1000) [(1000, some (.rows 88 1 (List.map (encI .u64) t5) false))] 1 (lombardref01_Of.ok b6) rfl rfl rfl ca67 rfl rfl (cC (.imm _) .nil) rfl rfl rfl rfl rfl ?_
   refine .a rfl rfl rfl rfl ?_
   refine .nil ?_
   refine W.ret ?_
   cases h
   exact leaves (.inr rfl) rfl (.own _ _ _ _ rfl) (cN .nil) rfl rfl
  ·have h := ifF q4 h
   refine W.skip ?_
   refine W.seq ?_
   obtain ⟨t7, b8, h⟩ := bnd1 h
   refine W.pk ?_
   refine .m rfl rfl rfl rfl ?_
   refine .v rfl rfl (O.conv h3 u88 rfl rfl) ?_
   refine .call (.own 1000) [(1000, some (.rows 88 1 (List.map (encI .u64) t7) false))] 1 (lombardref01_Of.ok b8) rfl rfl rfl ca67 rfl rfl (cC (.imm _) .nil) rfl rfl rfl rfl rfl ?_
   refine .a rfl rfl rfl rfl ?_
   refine .nil ?_
   refine W.ret ?_
   cases h
   exact leaves (.inr rfl) rfl (.own _ _ _ _ rfl) (cN .nil) rfl rfl
end Go.Proofs.Ytknfdnlhadjbaaa
