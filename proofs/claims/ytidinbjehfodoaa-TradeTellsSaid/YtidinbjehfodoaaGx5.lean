/- Shows what functions of the program come to, each as a plain function: written by a program of the author's for this claim. -/
import Derived.Test.YtidinbjehfodoaaGx4
namespace Go.Proofs.Ytidinbjehfodoaa
open Go Go.Pm
set_option linter.unusedVariables false
set_option linter.unusedSimpArgs false
noncomputable def trade_Check.f (x0 : api_Trade) : Option (Int) :=
  if (((((((decide (x0.ID < 1)) || (decide (x0.Twin < 1))) || (decide (x0.ID > 1125899906842624))) || (decide (x0.Twin > 1125899906842624))) || ((x0.Side != 1) && (x0.Side != 2))) || (decide (x0.Stage < 1))) || (decide (x0.Stage > 5))) = true then
    some 1
  else
    if (((x0.Side == 1) && (x0.Twin != (IntKind.wrap .i64 (x0.ID + 1)))) || ((x0.Side == 2) && (x0.Twin != (IntKind.wrap .i64 (x0.ID - 1))))) = true then
      some 32
    else
      (accrue_Check.f x0.Resets).bind fun t15 =>
      if (t15 != 0) = true then
        some t15
      else
        if (0 : Int) ≤ 0 ∧ 0 < (List.length x0.Resets : Int) then
        if (((nth x0.Resets 0).Day) != x0.Start) = true then
          some 10
        else
          if (0 : Int) ≤ 0 ∧ 0 < (List.length x0.Resets : Int) then
          (trade_Fill.f (⟨x0.Member, (IntKind.wrap .i64 ((Int.tmod x0.Member 32) + 1)), x0.Basket, x0.Amount, (nth x0.Resets 0).Rate, x0.Start, x0.End⟩ : api_Fill)).bind fun t21 =>
          some t21
          else none
        else none
set_option maxRecDepth 100000 in
set_option maxHeartbeats 4000000 in
theorem trade_Check.ok {x0 : api_Trade} {r : Int} (h : trade_Check.f x0 = some r) : Pm.Spec prog 11 [.agg [.imm (.val (.int .i64 x0.ID)), .imm (.val (.int .i64 x0.Twin)), .imm (.val (.int .i64 x0.Member)), .imm (.val (.int .i64 x0.Side)), .imm (.val (.int .i64 x0.Basket)), .imm (.val (.int .i64 x0.Amount)), .imm (.val (.int .i64 x0.Start)), .imm (.val (.int .i64 x0.End)), .imm (.row 2 (List.map api_Reset.enc x0.Resets)), .imm (.val (.int .i64 x0.Stage)), .imm (.val (.bool x0.Short))]] (.imm (.val (.int .i64 r))) [none] := by
 unfold trade_Check.f at h
 refine Pm.Spec.of_body Try.func11 rfl (by kernel_rfl) (Nat.le_of_ble_eq_true rfl) (Nat.le_of_ble_eq_true rfl) ?_
 refine W.ghost (σ' := (mkSt [(0, some (.agg (api_Trade.av x0)))] [] 1000)) (Gives.entry (.c rfl .n) .n) ?_
 refine W.seq ?_
 refine W.pk ?_
 refine .t rfl rfl (O.box rfl rfl rfl rfl rfl) ?_
 refine .a rfl rfl rfl rfl ?_
 refine .nil ?_
 refine W.seq ?_
 refine W.block ?_
 refine W.seq ?_
 refine W.fork (mkSt [(1, some (.ptr 1000 0)), (5, some (.b (((((((decide (x0.ID < 1)) || (decide (x0.Twin < 1))) || (decide (x0.ID > 1125899906842624))) || (decide (x0.Twin > 1125899906842624))) || ((x0.Side != 1) && (x0.Side != 2))) || (decide (x0.Stage < 1))) || (decide (x0.Stage > 5)))))] [(1000, some (.box [.i x0.ID, .i x0.Twin, .i x0.Member, .i x0.Side, .i x0.Basket, .i x0.Amount, .i x0.Start, .i x0.End, .imm (.row 2 (List.map api_Reset.enc x0.Resets)), .i x0.Stage, .b x0.Short]))] 1001) ?_ ?_
 ·refine W.cond rfl (fun q9 => ?_) (fun q9 => ?_)
  ·have h := ifT q9 h
   refine W.seq ?_
   refine W.pk ?_
   refine .a rfl rfl rfl rfl ?_
   refine .nil ?_
   refine W.ret ?_
   cases h
   exact leaves (.inr rfl) rfl (.imm _) (cN .nil) rfl rfl
  ·have h := ifF q9 h
   refine W.seq ?_
   refine W.fork (mkSt [(1, some (.ptr 1000 0)), (44, some (.b (((x0.Side == 1) && (x0.Twin != (IntKind.wrap .i64 (x0.ID + 1)))) || ((x0.Side == 2) && (x0.Twin != (IntKind.wrap .i64 (x0.ID - 1)))))))] [(1000, some (.box [.i x0.ID, .i x0.Twin, .i x0.Member, .i x0.Side, .i x0.Basket, .i x0.Amount, .i x0.Start, .i x0.End, .imm (.row 2 (List.map api_Reset.enc x0.Resets)), .i x0.Stage, .b x0.Short]))] 1001) ?_ ?_
   ·refine W.cond rfl (fun q14 => ?_) (fun q14 => ?_)
    ·have h := ifT q14 h
     refine W.seq ?_
     refine W.pk ?_
     refine .a rfl rfl rfl rfl ?_
     refine .nil ?_
     refine W.ret ?_
     cases h
     exact leaves (.inr rfl) rfl (.imm _) (cN .nil) rfl rfl
    ·have h := ifF q14 h
     refine W.skip ?_
     refine W.seq ?_
     refine W.seq ?_
     obtain ⟨t15, b16, h⟩ := bnd1 h
     refine W.pk ?_
     refine .v rfl rfl (O.fld fld26_8 rfl rfl rfl) ?_
     refine .v rfl rfl (O.ld (y := .imm (.row 2 (List.map api_Reset.enc x0.Resets))) ty24 rfl rfl rfl) ?_
     refine .call (.i t15) [] 0 (accrue_Check.ok b16) rfl rfl rfl ca38 rfl rfl (cC (.imm _) .nil) rfl rfl rfl rfl rfl ?_
     refine .a rfl rfl rfl rfl ?_
     refine .nil ?_
     refine W.seq ?_
     refine W.pk ?_
     refine .m rfl rfl rfl rfl ?_
     refine .v rfl rfl (OpL.binI rfl rfl rfl rfl) ?_
     refine .nil ?_
     refine W.cond rfl (fun q17 => ?_) (fun q17 => ?_)
     ·have h := ifT q17 h
      refine W.seq ?_
      refine W.pk ?_
      refine .m rfl rfl rfl rfl ?_
      refine .a rfl rfl rfl rfl ?_
      refine .nil ?_
      refine W.ret ?_
      cases h
      exact leaves (.inr rfl) rfl (.imm _) (cN .nil) rfl rfl
     ·have h := ifF q17 h
      refine W.skip ?_
      refine W.seq ?_
      refine W.seq ?_
      obtain ⟨c18, h⟩ := chk h
      refine W.dk (unm 8 [0, 1, 3, 7, 15, 0, 32, 127]) rfl (by kernel_rfl) ?_
      refine .v rfl rfl (O.fld fld26_8 rfl rfl rfl) ?_
      refine .v rfl rfl (O.ld (y := .imm (.row 2 (List.map api_Reset.enc x0.Resets))) ty24 rfl rfl rfl) ?_
      refine .v rfl rfl (O.idx sl24 c18 rfl rfl rfl) ?_
      refine .v rfl rfl (O.fld fld60_0 rfl rfl rfl) ?_
      refine .v rfl rfl (O.ld (y := .i ((nth x0.Resets 0).Day)) ty3 rfl rfl rfl) ?_
      refine .v rfl rfl (O.fld fld26_6 rfl rfl rfl) ?_
      refine .v rfl rfl (O.ld (y := .i x0.Start) ty3 rfl rfl rfl) ?_
      refine .v rfl rfl (OpL.binI rfl rfl rfl rfl) ?_
      refine .nil ?_
      refine ⟨by kernel_rfl, by kernel_rfl, ?_⟩
      refine W.cond rfl (fun q19 => ?_) (fun q19 => ?_)
      ·have h := ifT q19 h
       refine W.seq ?_
       refine W.pk ?_
       refine .a rfl rfl rfl rfl ?_
       refine .nil ?_
       refine W.ret ?_
       cases h
       exact leaves (.inr rfl) rfl (.imm _) (cN .nil) rfl rfl
      ·have h := ifF q19 h
       refine W.skip ?_
       refine W.seq ?_
       obtain ⟨c20, h⟩ := chk h
       refine W.dk (unm 22 [0, 1, 0, 4, 12, 28, 0, 64, 0, 256, 0, 1024, 3072, 7168, 15360, 0, 32768, 0, 131072, 524287, 0, 2097151]) rfl (by kernel_rfl) ?_
       refine .v rfl rfl (O.fld fld26_2 rfl rfl rfl) ?_
       refine .v rfl rfl (O.ld (y := .i x0.Member) ty3 rfl rfl rfl) ?_
       refine .v rfl rfl (O.fld fld26_2 rfl rfl rfl) ?_
       refine .v rfl rfl (O.ld (y := .i x0.Member) ty3 rfl rfl rfl) ?_
       refine .v rfl rfl (O.rem rfl rfl rfl (by decide)) ?_
       refine .v rfl rfl (OpL.binI rfl rfl rfl rfl) ?_
       refine .v rfl rfl (O.fld fld26_4 rfl rfl rfl) ?_
       refine .v rfl rfl (O.ld (y := .i x0.Basket) ty3 rfl rfl rfl) ?_
       refine .v rfl rfl (O.fld fld26_5 rfl rfl rfl) ?_
       refine .v rfl rfl (O.ld (y := .i x0.Amount) ty3 rfl rfl rfl) ?_
       refine .v rfl rfl (O.fld fld26_8 rfl rfl rfl) ?_
       refine .v rfl rfl (O.ld (y := .imm (.row 2 (List.map api_Reset.enc x0.Resets))) ty24 rfl rfl rfl) ?_
       refine .v rfl rfl (O.idx sl24 c20 rfl rfl rfl) ?_
       refine .v rfl rfl (O.fld fld60_1 rfl rfl rfl) ?_
       refine .v rfl rfl (O.ld (y := .i ((nth x0.Resets 0).Rate)) ty3 rfl rfl rfl) ?_
       refine .v rfl rfl (O.fld fld26_6 rfl rfl rfl) ?_
       refine .v rfl rfl (O.ld (y := .i x0.Start) ty3 rfl rfl rfl) ?_
       refine .v rfl rfl (O.fld fld26_7 rfl rfl rfl) ?_
       refine .v rfl rfl (O.ld (y := .i x0.End) ty3 rfl rfl rfl) ?_
       refine .v rfl rfl (O.build (out := [.i x0.Member, .i (IntKind.wrap .i64 ((Int.tmod x0.Member 32) + 1)), .i x0.Basket, .i x0.Amount, .i ((nth x0.Resets 0).Rate), .i x0.Start, .i x0.End]) bl23 rfl rfl rfl rfl (by kernel_rfl)) ?_
       refine .t rfl rfl (O.alloc z23 rfl) ?_
       refine .s rfl rfl (O.st ty23 rfl rfl rfl rfl rfl rfl rfl rfl rfl rfl (all' := [.i x0.Member, .i (IntKind.wrap .i64 ((Int.tmod x0.Member 32) + 1)), .i x0.Basket, .i x0.Amount, .i ((nth x0.Resets 0).Rate), .i x0.Start, .i x0.End]) rfl) ?_
       refine .nil ?_
       refine ⟨by kernel_rfl, by kernel_rfl, ?_⟩
       refine W.seq ?_
       obtain ⟨t21, b22, h⟩ := bnd1 h
       refine W.pk ?_
       refine .v rfl rfl (O.ldN ty23 rfl rfl rfl) ?_
       refine .call (.i t21) [] 0 (trade_Fill.ok b22) rfl rfl rfl ca9 rfl rfl (cC (.agg _ _ _ _ (cC (.imm _) (cC (.imm _) (cC (.imm _) (cC (.imm _) (cC (.imm _) (cC (.imm _) (cC (.imm _) .nil)))))))) .nil) rfl rfl rfl rfl rfl ?_
       refine .a rfl rfl rfl rfl ?_
       refine .nil ?_
       refine W.ret ?_
       cases h
       exact leaves (.inr rfl) rfl (.imm _) (cN .nil) rfl rfl
   ·clear h
    rcases tf (x0.Side == 1) with g10 | g10
    ·rcases tf (x0.Twin != (IntKind.wrap .i64 (x0.ID + 1))) with g11 | g11
     ·refine W.pk ?_
      refine .v rfl rfl (O.fld fld26_3 rfl rfl rfl) ?_
      refine .v rfl rfl (O.ld (y := .i x0.Side) ty3 rfl rfl rfl) ?_
      refine .v rfl rfl (OpL.binI rfl rfl rfl rfl) ?_
      refine .m rfl rfl rfl rfl ?_
      refine .v rfl (met rfl rfl rfl g10) (O.fld fld26_1 rfl rfl rfl) ?_
      refine .v rfl (met rfl rfl rfl g10) (O.ld (y := .i x0.Twin) ty3 rfl rfl rfl) ?_
      refine .v rfl (met rfl rfl rfl g10) (O.fld fld26_0 rfl rfl rfl) ?_
      refine .v rfl (met rfl rfl rfl g10) (O.ld (y := .i x0.ID) ty3 rfl rfl rfl) ?_
      refine .v rfl (met rfl rfl rfl g10) (OpL.binI rfl rfl rfl rfl) ?_
      refine .v rfl (met rfl rfl rfl g10) (OpL.binI rfl rfl rfl rfl) ?_
      refine .v rfl rfl (O.pickT g10 rfl rfl rfl) ?_
      refine .m rfl rfl rfl rfl ?_
      refine .x rfl (unmet rfl rfl rfl g11) ?_
      refine .x rfl (unmet rfl rfl rfl g11) ?_
      refine .x rfl (unmet rfl rfl rfl g11) ?_
      refine .x rfl (unmet rfl rfl rfl g11) ?_
      refine .x rfl (unmetU rfl rfl rfl) ?_
      refine .x rfl (unmetU rfl rfl rfl) ?_
      refine .x rfl (unmetU rfl rfl rfl) ?_
      refine .x rfl (unmetU rfl rfl rfl) ?_
      refine .x rfl (unmetU rfl rfl rfl) ?_
      refine .x rfl (unmetU rfl rfl rfl) ?_
      refine .x rfl (unmet rfl rfl rfl g11) ?_
      refine .v rfl rfl (O.pickT g11 rfl rfl rfl) ?_
      refine .a rfl rfl rfl rfl ?_
      refine .nil ?_
      exact toN (Gives.mkR [] (.r rfl rfl (.c rfl (sbb (by first | (simp only [g10, g11, Bool.true_or, Bool.or_true, Bool.false_or, Bool.or_false, Bool.true_and, Bool.and_true, Bool.false_and, Bool.and_false, Bool.not_true, Bool.not_false, cond_true, cond_false]; done) | (repeat (first | rw [g10] | rw [g11])) <;> simp only [Bool.true_or, Bool.or_true, Bool.false_or, Bool.or_false, Bool.true_and, Bool.and_true, Bool.false_and, Bool.and_false, Bool.not_true, Bool.not_false, cond_true, cond_false])) rfl .n)) (.r rfl rfl rfl .n) rfl rfl rfl)
     ·rcases tf (x0.Side == 2) with g12 | g12
      ·refine W.pk ?_
       refine .v rfl rfl (O.fld fld26_3 rfl rfl rfl) ?_
       refine .v rfl rfl (O.ld (y := .i x0.Side) ty3 rfl rfl rfl) ?_
       refine .v rfl rfl (OpL.binI rfl rfl rfl rfl) ?_
       refine .m rfl rfl rfl rfl ?_
       refine .v rfl (met rfl rfl rfl g10) (O.fld fld26_1 rfl rfl rfl) ?_
       refine .v rfl (met rfl rfl rfl g10) (O.ld (y := .i x0.Twin) ty3 rfl rfl rfl) ?_
       refine .v rfl (met rfl rfl rfl g10) (O.fld fld26_0 rfl rfl rfl) ?_
       refine .v rfl (met rfl rfl rfl g10) (O.ld (y := .i x0.ID) ty3 rfl rfl rfl) ?_
       refine .v rfl (met rfl rfl rfl g10) (OpL.binI rfl rfl rfl rfl) ?_
       refine .v rfl (met rfl rfl rfl g10) (OpL.binI rfl rfl rfl rfl) ?_
       refine .v rfl rfl (O.pickT g10 rfl rfl rfl) ?_
       refine .m rfl rfl rfl rfl ?_
       refine .v rfl (met rfl rfl rfl g11) (O.fld fld26_3 rfl rfl rfl) ?_
       refine .v rfl (met rfl rfl rfl g11) (O.ld (y := .i x0.Side) ty3 rfl rfl rfl) ?_
       refine .v rfl (met rfl rfl rfl g11) (OpL.binI rfl rfl rfl rfl) ?_
       refine .m rfl (met rfl rfl rfl g11) rfl rfl ?_
       refine .v rfl (met rfl rfl rfl g12) (O.fld fld26_1 rfl rfl rfl) ?_
       refine .v rfl (met rfl rfl rfl g12) (O.ld (y := .i x0.Twin) ty3 rfl rfl rfl) ?_
       refine .v rfl (met rfl rfl rfl g12) (O.fld fld26_0 rfl rfl rfl) ?_
       refine .v rfl (met rfl rfl rfl g12) (O.ld (y := .i x0.ID) ty3 rfl rfl rfl) ?_
       refine .v rfl (met rfl rfl rfl g12) (OpL.binI rfl rfl rfl rfl) ?_
       refine .v rfl (met rfl rfl rfl g12) (OpL.binI rfl rfl rfl rfl) ?_
       refine .v rfl (met rfl rfl rfl g11) (O.pickT g12 rfl rfl rfl) ?_
       refine .v rfl rfl (O.pickF g11 rfl rfl rfl) ?_
       refine .a rfl rfl rfl rfl ?_
       refine .nil ?_
       exact toN (Gives.mkR [] (.r rfl rfl (.c rfl (sbb (by first | (simp only [g10, g11, g12, Bool.true_or, Bool.or_true, Bool.false_or, Bool.or_false, Bool.true_and, Bool.and_true, Bool.false_and, Bool.and_false, Bool.not_true, Bool.not_false, cond_true, cond_false]; done) | (repeat (first | rw [g10] | rw [g11] | rw [g12])) <;> simp only [Bool.true_or, Bool.or_true, Bool.false_or, Bool.or_false, Bool.true_and, Bool.and_true, Bool.false_and, Bool.and_false, Bool.not_true, Bool.not_false, cond_true, cond_false])) rfl .n)) (.r rfl rfl rfl .n) rfl rfl rfl)
      ·refine W.pk ?_
       refine .v rfl rfl (O.fld fld26_3 rfl rfl rfl) ?_
       refine .v rfl rfl (O.ld (y := .i x0.Side) ty3 rfl rfl rfl) ?_
       refine .v rfl rfl (OpL.binI rfl rfl rfl rfl) ?_
       refine .m rfl rfl rfl rfl ?_
       refine .v rfl (met rfl rfl rfl g10) (O.fld fld26_1 rfl rfl rfl) ?_
       refine .v rfl (met rfl rfl rfl g10) (O.ld (y := .i x0.Twin) ty3 rfl rfl rfl) ?_
       refine .v rfl (met rfl rfl rfl g10) (O.fld fld26_0 rfl rfl rfl) ?_
       refine .v rfl (met rfl rfl rfl g10) (O.ld (y := .i x0.ID) ty3 rfl rfl rfl) ?_
       refine .v rfl (met rfl rfl rfl g10) (OpL.binI rfl rfl rfl rfl) ?_
       refine .v rfl (met rfl rfl rfl g10) (OpL.binI rfl rfl rfl rfl) ?_
       refine .v rfl rfl (O.pickT g10 rfl rfl rfl) ?_
       refine .m rfl rfl rfl rfl ?_
       refine .v rfl (met rfl rfl rfl g11) (O.fld fld26_3 rfl rfl rfl) ?_
       refine .v rfl (met rfl rfl rfl g11) (O.ld (y := .i x0.Side) ty3 rfl rfl rfl) ?_
       refine .v rfl (met rfl rfl rfl g11) (OpL.binI rfl rfl rfl rfl) ?_
       refine .m rfl (met rfl rfl rfl g11) rfl rfl ?_
       refine .x rfl (unmet rfl rfl rfl g12) ?_
       refine .x rfl (unmet rfl rfl rfl g12) ?_
       refine .x rfl (unmet rfl rfl rfl g12) ?_
       refine .x rfl (unmet rfl rfl rfl g12) ?_
       refine .x rfl (unmet rfl rfl rfl g12) ?_
       refine .x rfl (unmet rfl rfl rfl g12) ?_
       refine .v rfl (met rfl rfl rfl g11) (O.pickF g12 rfl rfl rfl) ?_
       refine .v rfl rfl (O.pickF g11 rfl rfl rfl) ?_
       refine .a rfl rfl rfl rfl ?_
       refine .nil ?_
       exact toN (Gives.mkR [] (.r rfl rfl (.c rfl (sbb (by first | (simp only [g10, g11, g12, Bool.true_or, Bool.or_true, Bool.false_or, Bool.or_false, Bool.true_and, Bool.and_true, Bool.false_and, Bool.and_false, Bool.not_true, Bool.not_false, cond_true, cond_false]; done) | (repeat (first | rw [g10] | rw [g11] | rw [g12])) <;> simp only [Bool.true_or, Bool.or_true, Bool.false_or, Bool.or_false, Bool.true_and, Bool.and_true, Bool.false_and, Bool.and_false, Bool.not_true, Bool.not_false, cond_true, cond_false])) rfl .n)) (.r rfl rfl rfl .n) rfl rfl rfl)
    ·rcases tf (x0.Side == 2) with g13 | g13
     ·refine W.pk ?_
      refine .v rfl rfl (O.fld fld26_3 rfl rfl rfl) ?_
      refine .v rfl rfl (O.ld (y := .i x0.Side) ty3 rfl rfl rfl) ?_
      refine .v rfl rfl (OpL.binI rfl rfl rfl rfl) ?_
      refine .m rfl rfl rfl rfl ?_
      refine .x rfl (unmet rfl rfl rfl g10) ?_
      refine .x rfl (unmet rfl rfl rfl g10) ?_
      refine .x rfl (unmet rfl rfl rfl g10) ?_
      refine .x rfl (unmet rfl rfl rfl g10) ?_
      refine .x rfl (unmet rfl rfl rfl g10) ?_
      refine .x rfl (unmet rfl rfl rfl g10) ?_
      refine .v rfl rfl (O.pickF g10 rfl rfl rfl) ?_
      refine .m rfl rfl rfl rfl ?_
      refine .v rfl (met rfl rfl rfl rfl) (O.fld fld26_3 rfl rfl rfl) ?_
      refine .v rfl (met rfl rfl rfl rfl) (O.ld (y := .i x0.Side) ty3 rfl rfl rfl) ?_
      refine .v rfl (met rfl rfl rfl rfl) (OpL.binI rfl rfl rfl rfl) ?_
      refine .m rfl (met rfl rfl rfl rfl) rfl rfl ?_
      refine .v rfl (met rfl rfl rfl g13) (O.fld fld26_1 rfl rfl rfl) ?_
      refine .v rfl (met rfl rfl rfl g13) (O.ld (y := .i x0.Twin) ty3 rfl rfl rfl) ?_
      refine .v rfl (met rfl rfl rfl g13) (O.fld fld26_0 rfl rfl rfl) ?_
      refine .v rfl (met rfl rfl rfl g13) (O.ld (y := .i x0.ID) ty3 rfl rfl rfl) ?_
      refine .v rfl (met rfl rfl rfl g13) (OpL.binI rfl rfl rfl rfl) ?_
      refine .v rfl (met rfl rfl rfl g13) (OpL.binI rfl rfl rfl rfl) ?_
      refine .v rfl (met rfl rfl rfl rfl) (O.pickT g13 rfl rfl rfl) ?_
      refine .v rfl rfl (O.pickF rfl rfl rfl rfl) ?_
      refine .a rfl rfl rfl rfl ?_
      refine .nil ?_
      exact toN (Gives.mkR [] (.r rfl rfl (.c rfl (sbb (by first | (simp only [g10, g13, Bool.true_or, Bool.or_true, Bool.false_or, Bool.or_false, Bool.true_and, Bool.and_true, Bool.false_and, Bool.and_false, Bool.not_true, Bool.not_false, cond_true, cond_false]; done) | (repeat (first | rw [g10] | rw [g13])) <;> simp only [Bool.true_or, Bool.or_true, Bool.false_or, Bool.or_false, Bool.true_and, Bool.and_true, Bool.false_and, Bool.and_false, Bool.not_true, Bool.not_false, cond_true, cond_false])) rfl .n)) (.r rfl rfl rfl .n) rfl rfl rfl)
     ·refine W.pk ?_
      refine .v rfl rfl (O.fld fld26_3 rfl rfl rfl) ?_
      refine .v rfl rfl (O.ld (y := .i x0.Side) ty3 rfl rfl rfl) ?_
      refine .v rfl rfl (OpL.binI rfl rfl rfl rfl) ?_
      refine .m rfl rfl rfl rfl ?_
      refine .x rfl (unmet rfl rfl rfl g10) ?_
      refine .x rfl (unmet rfl rfl rfl g10) ?_
      refine .x rfl (unmet rfl rfl rfl g10) ?_
      refine .x rfl (unmet rfl rfl rfl g10) ?_
      refine .x rfl (unmet rfl rfl rfl g10) ?_
      refine .x rfl (unmet rfl rfl rfl g10) ?_
      refine .v rfl rfl (O.pickF g10 rfl rfl rfl) ?_
      refine .m rfl rfl rfl rfl ?_
      refine .v rfl (met rfl rfl rfl rfl) (O.fld fld26_3 rfl rfl rfl) ?_
      refine .v rfl (met rfl rfl rfl rfl) (O.ld (y := .i x0.Side) ty3 rfl rfl rfl) ?_
      refine .v rfl (met rfl rfl rfl rfl) (OpL.binI rfl rfl rfl rfl) ?_
      refine .m rfl (met rfl rfl rfl rfl) rfl rfl ?_
      refine .x rfl (unmet rfl rfl rfl g13) ?_
      refine .x rfl (unmet rfl rfl rfl g13) ?_
      refine .x rfl (unmet rfl rfl rfl g13) ?_
      refine .x rfl (unmet rfl rfl rfl g13) ?_
      refine .x rfl (unmet rfl rfl rfl g13) ?_
      refine .x rfl (unmet rfl rfl rfl g13) ?_
      refine .v rfl (met rfl rfl rfl rfl) (O.pickF g13 rfl rfl rfl) ?_
      refine .v rfl rfl (O.pickF rfl rfl rfl rfl) ?_
      refine .a rfl rfl rfl rfl ?_
      refine .nil ?_
      exact toN (Gives.mkR [] (.r rfl rfl (.c rfl (sbb (by first | (simp only [g10, g13, Bool.true_or, Bool.or_true, Bool.false_or, Bool.or_false, Bool.true_and, Bool.and_true, Bool.false_and, Bool.and_false, Bool.not_true, Bool.not_false, cond_true, cond_false]; done) | (repeat (first | rw [g10] | rw [g13])) <;> simp only [Bool.true_or, Bool.or_true, Bool.false_or, Bool.or_false, Bool.true_and, Bool.and_true, Bool.false_and, Bool.and_false, Bool.not_true, Bool.not_false, cond_true, cond_false])) rfl .n)) (.r rfl rfl rfl .n) rfl rfl rfl)
 ·clear h
  rcases tf (decide (x0.ID < 1)) with g1 | g1
  ·refine W.pk ?_
   refine .v rfl rfl (O.fld fld26_0 rfl rfl rfl) ?_
   refine .v rfl rfl (O.ld (y := .i x0.ID) ty3 rfl rfl rfl) ?_
   refine .v rfl rfl (OpL.binI rfl rfl rfl rfl) ?_
   refine .m rfl rfl rfl rfl ?_
   refine .x rfl (unmet rfl rfl rfl g1) ?_
   refine .x rfl (unmet rfl rfl rfl g1) ?_
   refine .x rfl (unmet rfl rfl rfl g1) ?_
   refine .v rfl rfl (O.pickT g1 rfl rfl rfl) ?_
   refine .m rfl rfl rfl rfl ?_
   refine .x rfl (unmet rfl rfl rfl rfl) ?_
   refine .x rfl (unmet rfl rfl rfl rfl) ?_
   refine .x rfl (unmet rfl rfl rfl rfl) ?_
   refine .v rfl rfl (O.pickT rfl rfl rfl rfl) ?_
   refine .m rfl rfl rfl rfl ?_
   refine .x rfl (unmet rfl rfl rfl rfl) ?_
   refine .x rfl (unmet rfl rfl rfl rfl) ?_
   refine .x rfl (unmet rfl rfl rfl rfl) ?_
   refine .v rfl rfl (O.pickT rfl rfl rfl rfl) ?_
   refine .m rfl rfl rfl rfl ?_
   refine .x rfl (unmet rfl rfl rfl rfl) ?_
   refine .x rfl (unmet rfl rfl rfl rfl) ?_
   refine .x rfl (unmet rfl rfl rfl rfl) ?_
   refine .x rfl (unmet rfl rfl rfl rfl) ?_
   refine .x rfl (unmetU rfl rfl rfl) ?_
   refine .x rfl (unmetU rfl rfl rfl) ?_
   refine .x rfl (unmetU rfl rfl rfl) ?_
   refine .x rfl (unmet rfl rfl rfl rfl) ?_
   refine .v rfl rfl (O.pickT rfl rfl rfl rfl) ?_
   refine .m rfl rfl rfl rfl ?_
   refine .x rfl (unmet rfl rfl rfl rfl) ?_
   refine .x rfl (unmet rfl rfl rfl rfl) ?_
   refine .x rfl (unmet rfl rfl rfl rfl) ?_
   refine .v rfl rfl (O.pickT rfl rfl rfl rfl) ?_
   refine .m rfl rfl rfl rfl ?_
   refine .x rfl (unmet rfl rfl rfl rfl) ?_
   refine .x rfl (unmet rfl rfl rfl rfl) ?_
   refine .x rfl (unmet rfl rfl rfl rfl) ?_
   refine .v rfl rfl (O.pickT rfl rfl rfl rfl) ?_
   refine .a rfl rfl rfl rfl ?_
   refine .nil ?_
   exact toN (Gives.mkR [] (.r rfl rfl (.c rfl (sbb (by simp only [g1, Bool.true_or, Bool.or_true, Bool.false_or, Bool.or_false, Bool.true_and, Bool.and_true, Bool.false_and, Bool.and_false, Bool.not_true, Bool.not_false, cond_true, cond_false])) rfl .n)) (.r rfl rfl rfl .n) rfl rfl rfl)
  ·rcases tf (decide (x0.Twin < 1)) with g2 | g2
   ·refine W.pk ?_
    refine .v rfl rfl (O.fld fld26_0 rfl rfl rfl) ?_
    refine .v rfl rfl (O.ld (y := .i x0.ID) ty3 rfl rfl rfl) ?_
    refine .v rfl rfl (OpL.binI rfl rfl rfl rfl) ?_
    refine .m rfl rfl rfl rfl ?_
    refine .v rfl (met rfl rfl rfl g1) (O.fld fld26_1 rfl rfl rfl) ?_
    refine .v rfl (met rfl rfl rfl g1) (O.ld (y := .i x0.Twin) ty3 rfl rfl rfl) ?_
    refine .v rfl (met rfl rfl rfl g1) (OpL.binI rfl rfl rfl rfl) ?_
    refine .v rfl rfl (O.pickF g1 rfl rfl rfl) ?_
    refine .m rfl rfl rfl rfl ?_
    refine .x rfl (unmet rfl rfl rfl g2) ?_
    refine .x rfl (unmet rfl rfl rfl g2) ?_
    refine .x rfl (unmet rfl rfl rfl g2) ?_
    refine .v rfl rfl (O.pickT g2 rfl rfl rfl) ?_
    refine .m rfl rfl rfl rfl ?_
    refine .x rfl (unmet rfl rfl rfl rfl) ?_
    refine .x rfl (unmet rfl rfl rfl rfl) ?_
    refine .x rfl (unmet rfl rfl rfl rfl) ?_
    refine .v rfl rfl (O.pickT rfl rfl rfl rfl) ?_
    refine .m rfl rfl rfl rfl ?_
    refine .x rfl (unmet rfl rfl rfl rfl) ?_
    refine .x rfl (unmet rfl rfl rfl rfl) ?_
    refine .x rfl (unmet rfl rfl rfl rfl) ?_
    refine .x rfl (unmet rfl rfl rfl rfl) ?_
    refine .x rfl (unmetU rfl rfl rfl) ?_
    refine .x rfl (unmetU rfl rfl rfl) ?_
    refine .x rfl (unmetU rfl rfl rfl) ?_
    refine .x rfl (unmet rfl rfl rfl rfl) ?_
    refine .v rfl rfl (O.pickT rfl rfl rfl rfl) ?_
    refine .m rfl rfl rfl rfl ?_
    refine .x rfl (unmet rfl rfl rfl rfl) ?_
    refine .x rfl (unmet rfl rfl rfl rfl) ?_
    refine .x rfl (unmet rfl rfl rfl rfl) ?_
    refine .v rfl rfl (O.pickT rfl rfl rfl rfl) ?_
    refine .m rfl rfl rfl rfl ?_
    refine .x rfl (unmet rfl rfl rfl rfl) ?_
    refine .x rfl (unmet rfl rfl rfl rfl) ?_
    refine .x rfl (unmet rfl rfl rfl rfl) ?_
    refine .v rfl rfl (O.pickT rfl rfl rfl rfl) ?_
    refine .a rfl rfl rfl rfl ?_
    refine .nil ?_
    exact toN (Gives.mkR [] (.r rfl rfl (.c rfl (sbb (by first | (simp only [g1, g2, Bool.true_or, Bool.or_true, Bool.false_or, Bool.or_false, Bool.true_and, Bool.and_true, Bool.false_and, Bool.and_false, Bool.not_true, Bool.not_false, cond_true, cond_false]; done) | (repeat (first | rw [g1] | rw [g2])) <;> simp only [Bool.true_or, Bool.or_true, Bool.false_or, Bool.or_false, Bool.true_and, Bool.and_true, Bool.false_and, Bool.and_false, Bool.not_true, Bool.not_false, cond_true, cond_false])) rfl .n)) (.r rfl rfl rfl .n) rfl rfl rfl)
   ·rcases tf (decide (x0.ID > 1125899906842624)) with g3 | g3
    ·refine W.pk ?_
     refine .v rfl rfl (O.fld fld26_0 rfl rfl rfl) ?_
     refine .v rfl rfl (O.ld (y := .i x0.ID) ty3 rfl rfl rfl) ?_
     refine .v rfl rfl (OpL.binI rfl rfl rfl rfl) ?_
     refine .m rfl rfl rfl rfl ?_
     refine .v rfl (met rfl rfl rfl g1) (O.fld fld26_1 rfl rfl rfl) ?_
     refine .v rfl (met rfl rfl rfl g1) (O.ld (y := .i x0.Twin) ty3 rfl rfl rfl) ?_
     refine .v rfl (met rfl rfl rfl g1) (OpL.binI rfl rfl rfl rfl) ?_
     refine .v rfl rfl (O.pickF g1 rfl rfl rfl) ?_
     refine .m rfl rfl rfl rfl ?_
     refine .v rfl (met rfl rfl rfl g2) (O.fld fld26_0 rfl rfl rfl) ?_
     refine .v rfl (met rfl rfl rfl g2) (O.ld (y := .i x0.ID) ty3 rfl rfl rfl) ?_
     refine .v rfl (met rfl rfl rfl g2) (OpL.binI rfl rfl rfl rfl) ?_
     refine .v rfl rfl (O.pickF g2 rfl rfl rfl) ?_
     refine .m rfl rfl rfl rfl ?_
     refine .x rfl (unmet rfl rfl rfl g3) ?_
     refine .x rfl (unmet rfl rfl rfl g3) ?_
     refine .x rfl (unmet rfl rfl rfl g3) ?_
     refine .v rfl rfl (O.pickT g3 rfl rfl rfl) ?_
     refine .m rfl rfl rfl rfl ?_
     refine .x rfl (unmet rfl rfl rfl rfl) ?_
     refine .x rfl (unmet rfl rfl rfl rfl) ?_
     refine .x rfl (unmet rfl rfl rfl rfl) ?_
     refine .x rfl (unmet rfl rfl rfl rfl) ?_
     refine .x rfl (unmetU rfl rfl rfl) ?_
     refine .x rfl (unmetU rfl rfl rfl) ?_
     refine .x rfl (unmetU rfl rfl rfl) ?_
     refine .x rfl (unmet rfl rfl rfl rfl) ?_
     refine .v rfl rfl (O.pickT rfl rfl rfl rfl) ?_
     refine .m rfl rfl rfl rfl ?_
     refine .x rfl (unmet rfl rfl rfl rfl) ?_
     refine .x rfl (unmet rfl rfl rfl rfl) ?_
     refine .x rfl (unmet rfl rfl rfl rfl) ?_
     refine .v rfl rfl (O.pickT rfl rfl rfl rfl) ?_
     refine .m rfl rfl rfl rfl ?_
     refine .x rfl (unmet rfl rfl rfl rfl) ?_
     refine .x rfl (unmet rfl rfl rfl rfl) ?_
     refine .x rfl (unmet rfl rfl rfl rfl) ?_
     refine .v rfl rfl (O.pickT rfl rfl rfl rfl) ?_
     refine .a rfl rfl rfl rfl ?_
     refine .nil ?_
     exact toN (Gives.mkR [] (.r rfl rfl (.c rfl (sbb (by first | (simp only [g1, g2, g3, Bool.true_or, Bool.or_true, Bool.false_or, Bool.or_false, Bool.true_and, Bool.and_true, Bool.false_and, Bool.and_false, Bool.not_true, Bool.not_false, cond_true, cond_false]; done) | (repeat (first | rw [g1] | rw [g2] | rw [g3])) <;> simp only [Bool.true_or, Bool.or_true, Bool.false_or, Bool.or_false, Bool.true_and, Bool.and_true, Bool.false_and, Bool.and_false, Bool.not_true, Bool.not_false, cond_true, cond_false])) rfl .n)) (.r rfl rfl rfl .n) rfl rfl rfl)
    ·rcases tf (decide (x0.Twin > 1125899906842624)) with g4 | g4
     ·refine W.pk ?_
      refine .v rfl rfl (O.fld fld26_0 rfl rfl rfl) ?_
      refine .v rfl rfl (O.ld (y := .i x0.ID) ty3 rfl rfl rfl) ?_
      refine .v rfl rfl (OpL.binI rfl rfl rfl rfl) ?_
      refine .m rfl rfl rfl rfl ?_
      refine .v rfl (met rfl rfl rfl g1) (O.fld fld26_1 rfl rfl rfl) ?_
      refine .v rfl (met rfl rfl rfl g1) (O.ld (y := .i x0.Twin) ty3 rfl rfl rfl) ?_
      refine .v rfl (met rfl rfl rfl g1) (OpL.binI rfl rfl rfl rfl) ?_
      refine .v rfl rfl (O.pickF g1 rfl rfl rfl) ?_
      refine .m rfl rfl rfl rfl ?_
      refine .v rfl (met rfl rfl rfl g2) (O.fld fld26_0 rfl rfl rfl) ?_
      refine .v rfl (met rfl rfl rfl g2) (O.ld (y := .i x0.ID) ty3 rfl rfl rfl) ?_
      refine .v rfl (met rfl rfl rfl g2) (OpL.binI rfl rfl rfl rfl) ?_
      refine .v rfl rfl (O.pickF g2 rfl rfl rfl) ?_
      refine .m rfl rfl rfl rfl ?_
      refine .v rfl (met rfl rfl rfl g3) (O.fld fld26_1 rfl rfl rfl) ?_
      refine .v rfl (met rfl rfl rfl g3) (O.ld (y := .i x0.Twin) ty3 rfl rfl rfl) ?_
      refine .v rfl (met rfl rfl rfl g3) (OpL.binI rfl rfl rfl rfl) ?_
      refine .v rfl rfl (O.pickF g3 rfl rfl rfl) ?_
      refine .m rfl rfl rfl rfl ?_
      refine .x rfl (unmet rfl rfl rfl g4) ?_
      refine .x rfl (unmet rfl rfl rfl g4) ?_
      refine .x rfl (unmet rfl rfl rfl g4) ?_
      refine .x rfl (unmet rfl rfl rfl g4) ?_
      refine .x rfl (unmetU rfl rfl rfl) ?_
      refine .x rfl (unmetU rfl rfl rfl) ?_
      refine .x rfl (unmetU rfl rfl rfl) ?_
      refine .x rfl (unmet rfl rfl rfl g4) ?_
      refine .v rfl rfl (O.pickT g4 rfl rfl rfl) ?_
      refine .m rfl rfl rfl rfl ?_
      refine .x rfl (unmet rfl rfl rfl rfl) ?_
      refine .x rfl (unmet rfl rfl rfl rfl) ?_
      refine .x rfl (unmet rfl rfl rfl rfl) ?_
      refine .v rfl rfl (O.pickT rfl rfl rfl rfl) ?_
      refine .m rfl rfl rfl rfl ?_
      refine .x rfl (unmet rfl rfl rfl rfl) ?_
      refine .x rfl (unmet rfl rfl rfl rfl) ?_
      refine .x rfl (unmet rfl rfl rfl rfl) ?_
      refine .v rfl rfl (O.pickT rfl rfl rfl rfl) ?_
      refine .a rfl rfl rfl rfl ?_
      refine .nil ?_
      exact toN (Gives.mkR [] (.r rfl rfl (.c rfl (sbb (by first | (simp only [g1, g2, g3, g4, Bool.true_or, Bool.or_true, Bool.false_or, Bool.or_false, Bool.true_and, Bool.and_true, Bool.false_and, Bool.and_false, Bool.not_true, Bool.not_false, cond_true, cond_false]; done) | (repeat (first | rw [g1] | rw [g2] | rw [g3] | rw [g4])) <;> simp only [Bool.true_or, Bool.or_true, Bool.false_or, Bool.or_false, Bool.true_and, Bool.and_true, Bool.false_and, Bool.and_false, Bool.not_true, Bool.not_false, cond_true, cond_false])) rfl .n)) (.r rfl rfl rfl .n) rfl rfl rfl)
     ·rcases tf (x0.Side != 1) with g5 | g5
      ·rcases tf (x0.Side != 2) with g6 | g6
       ·refine W.pk ?_
        refine .v rfl rfl (O.fld fld26_0 rfl rfl rfl) ?_
        refine .v rfl rfl (O.ld (y := .i x0.ID) ty3 rfl rfl rfl) ?_
        refine .v rfl rfl (OpL.binI rfl rfl rfl rfl) ?_
        refine .m rfl rfl rfl rfl ?_
        refine .v rfl (met rfl rfl rfl g1) (O.fld fld26_1 rfl rfl rfl) ?_
        refine .v rfl (met rfl rfl rfl g1) (O.ld (y := .i x0.Twin) ty3 rfl rfl rfl) ?_
        refine .v rfl (met rfl rfl rfl g1) (OpL.binI rfl rfl rfl rfl) ?_
        refine .v rfl rfl (O.pickF g1 rfl rfl rfl) ?_
        refine .m rfl rfl rfl rfl ?_
        refine .v rfl (met rfl rfl rfl g2) (O.fld fld26_0 rfl rfl rfl) ?_
        refine .v rfl (met rfl rfl rfl g2) (O.ld (y := .i x0.ID) ty3 rfl rfl rfl) ?_
        refine .v rfl (met rfl rfl rfl g2) (OpL.binI rfl rfl rfl rfl) ?_
        refine .v rfl rfl (O.pickF g2 rfl rfl rfl) ?_
        refine .m rfl rfl rfl rfl ?_
        refine .v rfl (met rfl rfl rfl g3) (O.fld fld26_1 rfl rfl rfl) ?_
        refine .v rfl (met rfl rfl rfl g3) (O.ld (y := .i x0.Twin) ty3 rfl rfl rfl) ?_
        refine .v rfl (met rfl rfl rfl g3) (OpL.binI rfl rfl rfl rfl) ?_
        refine .v rfl rfl (O.pickF g3 rfl rfl rfl) ?_
        refine .m rfl rfl rfl rfl ?_
        refine .v rfl (met rfl rfl rfl g4) (O.fld fld26_3 rfl rfl rfl) ?_
        refine .v rfl (met rfl rfl rfl g4) (O.ld (y := .i x0.Side) ty3 rfl rfl rfl) ?_
        refine .v rfl (met rfl rfl rfl g4) (OpL.binI rfl rfl rfl rfl) ?_
        refine .m rfl (met rfl rfl rfl g4) rfl rfl ?_
        refine .v rfl (met rfl rfl rfl g5) (O.fld fld26_3 rfl rfl rfl) ?_
        refine .v rfl (met rfl rfl rfl g5) (O.ld (y := .i x0.Side) ty3 rfl rfl rfl) ?_
        refine .v rfl (met rfl rfl rfl g5) (OpL.binI rfl rfl rfl rfl) ?_
        refine .v rfl (met rfl rfl rfl g4) (O.pickT g5 rfl rfl rfl) ?_
        refine .v rfl rfl (O.pickF g4 rfl rfl rfl) ?_
        refine .m rfl rfl rfl rfl ?_
        refine .x rfl (unmet rfl rfl rfl g6) ?_
        refine .x rfl (unmet rfl rfl rfl g6) ?_
        refine .x rfl (unmet rfl rfl rfl g6) ?_
        refine .v rfl rfl (O.pickT g6 rfl rfl rfl) ?_
        refine .m rfl rfl rfl rfl ?_
        refine .x rfl (unmet rfl rfl rfl rfl) ?_
        refine .x rfl (unmet rfl rfl rfl rfl) ?_
        refine .x rfl (unmet rfl rfl rfl rfl) ?_
        refine .v rfl rfl (O.pickT rfl rfl rfl rfl) ?_
        refine .a rfl rfl rfl rfl ?_
        refine .nil ?_
        exact toN (Gives.mkR [] (.r rfl rfl (.c rfl (sbb (by first | (simp only [g1, g2, g3, g4, g5, g6, Bool.true_or, Bool.or_true, Bool.false_or, Bool.or_false, Bool.true_and, Bool.and_true, Bool.false_and, Bool.and_false, Bool.not_true, Bool.not_false, cond_true, cond_false]; done) | (repeat (first | rw [g1] | rw [g2] | rw [g3] | rw [g4] | rw [g5] | rw [g6])) <;> simp only [Bool.true_or, Bool.or_true, Bool.false_or, Bool.or_false, Bool.true_and, Bool.and_true, Bool.false_and, Bool.and_false, Bool.not_true, Bool.not_false, cond_true, cond_false])) rfl .n)) (.r rfl rfl rfl .n) rfl rfl rfl)
       ·rcases tf (decide (x0.Stage < 1)) with g7 | g7
        ·refine W.pk ?_
         refine .v rfl rfl (O.fld fld26_0 rfl rfl rfl) ?_
         refine .v rfl rfl (O.ld (y := .i x0.ID) ty3 rfl rfl rfl) ?_
         refine .v rfl rfl (OpL.binI rfl rfl rfl rfl) ?_
         refine .m rfl rfl rfl rfl ?_
         refine .v rfl (met rfl rfl rfl g1) (O.fld fld26_1 rfl rfl rfl) ?_
         refine .v rfl (met rfl rfl rfl g1) (O.ld (y := .i x0.Twin) ty3 rfl rfl rfl) ?_
         refine .v rfl (met rfl rfl rfl g1) (OpL.binI rfl rfl rfl rfl) ?_
         refine .v rfl rfl (O.pickF g1 rfl rfl rfl) ?_
         refine .m rfl rfl rfl rfl ?_
         refine .v rfl (met rfl rfl rfl g2) (O.fld fld26_0 rfl rfl rfl) ?_
         refine .v rfl (met rfl rfl rfl g2) (O.ld (y := .i x0.ID) ty3 rfl rfl rfl) ?_
         refine .v rfl (met rfl rfl rfl g2) (OpL.binI rfl rfl rfl rfl) ?_
         refine .v rfl rfl (O.pickF g2 rfl rfl rfl) ?_
         refine .m rfl rfl rfl rfl ?_
         refine .v rfl (met rfl rfl rfl g3) (O.fld fld26_1 rfl rfl rfl) ?_
         refine .v rfl (met rfl rfl rfl g3) (O.ld (y := .i x0.Twin) ty3 rfl rfl rfl) ?_
         refine .v rfl (met rfl rfl rfl g3) (OpL.binI rfl rfl rfl rfl) ?_
         refine .v rfl rfl (O.pickF g3 rfl rfl rfl) ?_
         refine .m rfl rfl rfl rfl ?_
         refine .v rfl (met rfl rfl rfl g4) (O.fld fld26_3 rfl rfl rfl) ?_
         refine .v rfl (met rfl rfl rfl g4) (O.ld (y := .i x0.Side) ty3 rfl rfl rfl) ?_
         refine .v rfl (met rfl rfl rfl g4) (OpL.binI rfl rfl rfl rfl) ?_
         refine .m rfl (met rfl rfl rfl g4) rfl rfl ?_
         refine .v rfl (met rfl rfl rfl g5) (O.fld fld26_3 rfl rfl rfl) ?_
         refine .v rfl (met rfl rfl rfl g5) (O.ld (y := .i x0.Side) ty3 rfl rfl rfl) ?_
         refine .v rfl (met rfl rfl rfl g5) (OpL.binI rfl rfl rfl rfl) ?_
         refine .v rfl (met rfl rfl rfl g4) (O.pickT g5 rfl rfl rfl) ?_
         refine .v rfl rfl (O.pickF g4 rfl rfl rfl) ?_
         refine .m rfl rfl rfl rfl ?_
         refine .v rfl (met rfl rfl rfl g6) (O.fld fld26_9 rfl rfl rfl) ?_
         refine .v rfl (met rfl rfl rfl g6) (O.ld (y := .i x0.Stage) ty3 rfl rfl rfl) ?_
         refine .v rfl (met rfl rfl rfl g6) (OpL.binI rfl rfl rfl rfl) ?_
         refine .v rfl rfl (O.pickF g6 rfl rfl rfl) ?_
         refine .m rfl rfl rfl rfl ?_
         refine .x rfl (unmet rfl rfl rfl g7) ?_
         refine .x rfl (unmet rfl rfl rfl g7) ?_
         refine .x rfl (unmet rfl rfl rfl g7) ?_
         refine .v rfl rfl (O.pickT g7 rfl rfl rfl) ?_
         refine .a rfl rfl rfl rfl ?_
         refine .nil ?_
         exact toN (Gives.mkR [] (.r rfl rfl (.c rfl (sbb (by first | (simp only [g1, g2, g3, g4, g5, g6, g7, Bool.true_or, Bool.or_true, Bool.false_or, Bool.or_false, Bool.true_and, Bool.and_true, Bool.false_and, Bool.and_false, Bool.not_true, Bool.not_false, cond_true, cond_false]; done) | (repeat (first | rw [g1] | rw [g2] | rw [g3] | rw [g4] | rw [g5] | rw [g6] | rw [g7])) <;> simp only [Bool.true_or, Bool.or_true, Bool.false_or, Bool.or_false, Bool.true_and, Bool.and_true, Bool.false_and, Bool.and_false, Bool.not_true, Bool.not_false, cond_true, cond_false])) rfl .n)) (.r rfl rfl rfl .n) rfl rfl rfl)
        ·refine W.pk ?_
         refine .v rfl rfl (O.fld fld26_0 rfl rfl rfl) ?_
         refine .v rfl rfl (O.ld (y := .i x0.ID) ty3 rfl rfl rfl) ?_
         refine .v rfl rfl (OpL.binI rfl rfl rfl rfl) ?_
         refine .m rfl rfl rfl rfl ?_
         refine .v rfl (met rfl rfl rfl g1) (O.fld fld26_1 rfl rfl rfl) ?_
         refine .v rfl (met rfl rfl rfl g1) (O.ld (y := .i x0.Twin) ty3 rfl rfl rfl) ?_
         refine .v rfl (met rfl rfl rfl g1) (OpL.binI rfl rfl rfl rfl) ?_
         refine .v rfl rfl (O.pickF g1 rfl rfl rfl) ?_
         refine .m rfl rfl rfl rfl ?_
         refine .v rfl (met rfl rfl rfl g2) (O.fld fld26_0 rfl rfl rfl) ?_
         refine .v rfl (met rfl rfl rfl g2) (O.ld (y := .i x0.ID) ty3 rfl rfl rfl) ?_
         refine .v rfl (met rfl rfl rfl g2) (OpL.binI rfl rfl rfl rfl) ?_
         refine .v rfl rfl (O.pickF g2 rfl rfl rfl) ?_
         refine .m rfl rfl rfl rfl ?_
         refine .v rfl (met rfl rfl rfl g3) (O.fld fld26_1 rfl rfl rfl) ?_
         refine .v rfl (met rfl rfl rfl g3) (O.ld (y := .i x0.Twin) ty3 rfl rfl rfl) ?_
         refine .v rfl (met rfl rfl rfl g3) (OpL.binI rfl rfl rfl rfl) ?_
         refine .v rfl rfl (O.pickF g3 rfl rfl rfl) ?_
         refine .m rfl rfl rfl rfl ?_
         refine .v rfl (met rfl rfl rfl g4) (O.fld fld26_3 rfl rfl rfl) ?_
         refine .v rfl (met rfl rfl rfl g4) (O.ld (y := .i x0.Side) ty3 rfl rfl rfl) ?_
         refine .v rfl (met rfl rfl rfl g4) (OpL.binI rfl rfl rfl rfl) ?_
         refine .m rfl (met rfl rfl rfl g4) rfl rfl ?_
         refine .v rfl (met rfl rfl rfl g5) (O.fld fld26_3 rfl rfl rfl) ?_
         refine .v rfl (met rfl rfl rfl g5) (O.ld (y := .i x0.Side) ty3 rfl rfl rfl) ?_
         refine .v rfl (met rfl rfl rfl g5) (OpL.binI rfl rfl rfl rfl) ?_
         refine .v rfl (met rfl rfl rfl g4) (O.pickT g5 rfl rfl rfl) ?_
         refine .v rfl rfl (O.pickF g4 rfl rfl rfl) ?_
         refine .m rfl rfl rfl rfl ?_
         refine .v rfl (met rfl rfl rfl g6) (O.fld fld26_9 rfl rfl rfl) ?_
         refine .v rfl (met rfl rfl rfl g6) (O.ld (y := .i x0.Stage) ty3 rfl rfl rfl) ?_
         refine .v rfl (met rfl rfl rfl g6) (OpL.binI rfl rfl rfl rfl) ?_
         refine .v rfl rfl (O.pickF g6 rfl rfl rfl) ?_
         refine .m rfl rfl rfl rfl ?_
         refine .v rfl (met rfl rfl rfl g7) (O.fld fld26_9 rfl rfl rfl) ?_
         refine .v rfl (met rfl rfl rfl g7) (O.ld (y := .i x0.Stage) ty3 rfl rfl rfl) ?_
         refine .v rfl (met rfl rfl rfl g7) (OpL.binI rfl rfl rfl rfl) ?_
         refine .v rfl rfl (O.pickF g7 rfl rfl rfl) ?_
         refine .a rfl rfl rfl rfl ?_
         refine .nil ?_
         exact toN (Gives.mkR [] (.r rfl rfl (.c rfl (sbb (by first | (simp only [g1, g2, g3, g4, g5, g6, g7, Bool.true_or, Bool.or_true, Bool.false_or, Bool.or_false, Bool.true_and, Bool.and_true, Bool.false_and, Bool.and_false, Bool.not_true, Bool.not_false, cond_true, cond_false]; done) | (repeat (first | rw [g1] | rw [g2] | rw [g3] | rw [g4] | rw [g5] | rw [g6] | rw [g7])) <;> simp only [Bool.true_or, Bool.or_true, Bool.false_or, Bool.or_false, Bool.true_and, Bool.and_true, Bool.false_and, Bool.and_false, Bool.not_true, Bool.not_false, cond_true, cond_false])) rfl .n)) (.r rfl rfl rfl .n) rfl rfl rfl)
      ·rcases tf (decide (x0.Stage < 1)) with g8 | g8
       ·refine W.pk ?_
        refine .v rfl rfl (O.fld fld26_0 rfl rfl rfl) ?_
        refine .v rfl rfl (O.ld (y := .i x0.ID) ty3 rfl rfl rfl) ?_
        refine .v rfl rfl (OpL.binI rfl rfl rfl rfl) ?_
        refine .m rfl rfl rfl rfl ?_
        refine .v rfl (met rfl rfl rfl g1) (O.fld fld26_1 rfl rfl rfl) ?_
        refine .v rfl (met rfl rfl rfl g1) (O.ld (y := .i x0.Twin) ty3 rfl rfl rfl) ?_
        refine .v rfl (met rfl rfl rfl g1) (OpL.binI rfl rfl rfl rfl) ?_
        refine .v rfl rfl (O.pickF g1 rfl rfl rfl) ?_
        refine .m rfl rfl rfl rfl ?_
        refine .v rfl (met rfl rfl rfl g2) (O.fld fld26_0 rfl rfl rfl) ?_
        refine .v rfl (met rfl rfl rfl g2) (O.ld (y := .i x0.ID) ty3 rfl rfl rfl) ?_
        refine .v rfl (met rfl rfl rfl g2) (OpL.binI rfl rfl rfl rfl) ?_
        refine .v rfl rfl (O.pickF g2 rfl rfl rfl) ?_
        refine .m rfl rfl rfl rfl ?_
        refine .v rfl (met rfl rfl rfl g3) (O.fld fld26_1 rfl rfl rfl) ?_
        refine .v rfl (met rfl rfl rfl g3) (O.ld (y := .i x0.Twin) ty3 rfl rfl rfl) ?_
        refine .v rfl (met rfl rfl rfl g3) (OpL.binI rfl rfl rfl rfl) ?_
        refine .v rfl rfl (O.pickF g3 rfl rfl rfl) ?_
        refine .m rfl rfl rfl rfl ?_
        refine .v rfl (met rfl rfl rfl g4) (O.fld fld26_3 rfl rfl rfl) ?_
        refine .v rfl (met rfl rfl rfl g4) (O.ld (y := .i x0.Side) ty3 rfl rfl rfl) ?_
        refine .v rfl (met rfl rfl rfl g4) (OpL.binI rfl rfl rfl rfl) ?_
        refine .m rfl (met rfl rfl rfl g4) rfl rfl ?_
        refine .x rfl (unmet rfl rfl rfl g5) ?_
        refine .x rfl (unmet rfl rfl rfl g5) ?_
        refine .x rfl (unmet rfl rfl rfl g5) ?_
        refine .v rfl (met rfl rfl rfl g4) (O.pickF g5 rfl rfl rfl) ?_
        refine .v rfl rfl (O.pickF g4 rfl rfl rfl) ?_
        refine .m rfl rfl rfl rfl ?_
        refine .v rfl (met rfl rfl rfl rfl) (O.fld fld26_9 rfl rfl rfl) ?_
        refine .v rfl (met rfl rfl rfl rfl) (O.ld (y := .i x0.Stage) ty3 rfl rfl rfl) ?_
        refine .v rfl (met rfl rfl rfl rfl) (OpL.binI rfl rfl rfl rfl) ?_
        refine .v rfl rfl (O.pickF rfl rfl rfl rfl) ?_
        refine .m rfl rfl rfl rfl ?_
        refine .x rfl (unmet rfl rfl rfl g8) ?_
        refine .x rfl (unmet rfl rfl rfl g8) ?_
        refine .x rfl (unmet rfl rfl rfl g8) ?_
        refine .v rfl rfl (O.pickT g8 rfl rfl rfl) ?_
        refine .a rfl rfl rfl rfl ?_
        refine .nil ?_
        exact toN (Gives.mkR [] (.r rfl rfl (.c rfl (sbb (by first | (simp only [g1, g2, g3, g4, g5, g8, Bool.true_or, Bool.or_true, Bool.false_or, Bool.or_false, Bool.true_and, Bool.and_true, Bool.false_and, Bool.and_false, Bool.not_true, Bool.not_false, cond_true, cond_false]; done) | (repeat (first | rw [g1] | rw [g2] | rw [g3] | rw [g4] | rw [g5] | rw [g8])) <;> simp only [Bool.true_or, Bool.or_true, Bool.false_or, Bool.or_false, Bool.true_and, Bool.and_true, Bool.false_and, Bool.and_false, Bool.not_true, Bool.not_false, cond_true, cond_false])) rfl .n)) (.r rfl rfl rfl .n) rfl rfl rfl)
       ·refine W.pk ?_
        refine .v rfl rfl (O.fld fld26_0 rfl rfl rfl) ?_
        refine .v rfl rfl (O.ld (y := .i x0.ID) ty3 rfl rfl rfl) ?_
        refine .v rfl rfl (OpL.binI rfl rfl rfl rfl) ?_
        refine .m rfl rfl rfl rfl ?_
        refine .v rfl (met rfl rfl rfl g1) (O.fld fld26_1 rfl rfl rfl) ?_
        refine .v rfl (met rfl rfl rfl g1) (O.ld (y := .i x0.Twin) ty3 rfl rfl rfl) ?_
        refine .v rfl (met rfl rfl rfl g1) (OpL.binI rfl rfl rfl rfl) ?_
        refine .v rfl rfl (O.pickF g1 rfl rfl rfl) ?_
        refine .m rfl rfl rfl rfl ?_
        refine .v rfl (met rfl rfl rfl g2) (O.fld fld26_0 rfl rfl rfl) ?_
        refine .v rfl (met rfl rfl rfl g2) (O.ld (y := .i x0.ID) ty3 rfl rfl rfl) ?_
        refine .v rfl (met rfl rfl rfl g2) (OpL.binI rfl rfl rfl rfl) ?_
        refine .v rfl rfl (O.pickF g2 rfl rfl rfl) ?_
        refine .m rfl rfl rfl rfl ?_
        refine .v rfl (met rfl rfl rfl g3) (O.fld fld26_1 rfl rfl rfl) ?_
        refine .v rfl (met rfl rfl rfl g3) (O.ld (y := .i x0.Twin) ty3 rfl rfl rfl) ?_
        refine .v rfl (met rfl rfl rfl g3) (OpL.binI rfl rfl rfl rfl) ?_
        refine .v rfl rfl (O.pickF g3 rfl rfl rfl) ?_
        refine .m rfl rfl rfl rfl ?_
        refine .v rfl (met rfl rfl rfl g4) (O.fld fld26_3 rfl rfl rfl) ?_
        refine .v rfl (met rfl rfl rfl g4) (O.ld (y := .i x0.Side) ty3 rfl rfl rfl) ?_
        refine .v rfl (met rfl rfl rfl g4) (OpL.binI rfl rfl rfl rfl) ?_
        refine .m rfl (met rfl rfl rfl g4) rfl rfl ?_
        refine .x rfl (unmet rfl rfl rfl g5) ?_
        refine .x rfl (unmet rfl rfl rfl g5) ?_
        refine .x rfl (unmet rfl rfl rfl g5) ?_
        refine .v rfl (met rfl rfl rfl g4) (O.pickF g5 rfl rfl rfl) ?_
        refine .v rfl rfl (O.pickF g4 rfl rfl rfl) ?_
        refine .m rfl rfl rfl rfl ?_
        refine .v rfl (met rfl rfl rfl rfl) (O.fld fld26_9 rfl rfl rfl) ?_
        refine .v rfl (met rfl rfl rfl rfl) (O.ld (y := .i x0.Stage) ty3 rfl rfl rfl) ?_
        refine .v rfl (met rfl rfl rfl rfl) (OpL.binI rfl rfl rfl rfl) ?_
        refine .v rfl rfl (O.pickF rfl rfl rfl rfl) ?_
        refine .m rfl rfl rfl rfl ?_
        refine .v rfl (met rfl rfl rfl g8) (O.fld fld26_9 rfl rfl rfl) ?_
        refine .v rfl (met rfl rfl rfl g8) (O.ld (y := .i x0.Stage) ty3 rfl rfl rfl) ?_
        refine .v rfl (met rfl rfl rfl g8) (OpL.binI rfl rfl rfl rfl) ?_
        refine .v rfl rfl (O.pickF g8 rfl rfl rfl) ?_
        refine .a rfl rfl rfl rfl ?_
        refine .nil ?_
        exact toN (Gives.mkR [] (.r rfl rfl (.c rfl (sbb (by first | (simp only [g1, g2, g3, g4, g5, g8, Bool.true_or, Bool.or_true, Bool.false_or, Bool.or_false, Bool.true_and, Bool.and_true, Bool.false_and, Bool.and_false, Bool.not_true, Bool.not_false, cond_true, cond_false]; done) | (repeat (first | rw [g1] | rw [g2] | rw [g3] | rw [g4] | rw [g5] | rw [g8])) <;> simp only [Bool.true_or, Bool.or_true, Bool.false_or, Bool.or_false, Bool.true_and, Bool.and_true, Bool.false_and, Bool.and_false, Bool.not_true, Bool.not_false, cond_true, cond_false])) rfl .n)) (.r rfl rfl rfl .n) rfl rfl rfl)

noncomputable def slices_Equal_api_Reset.b0 (x0 : List api_Reset) (x1 : List api_Reset) (v6 : Int) : Option (Int ⊕ (Bool ⊕ Unit)) :=
  if (decide (v6 < (List.length x0 : Int))) = true then
    if (0 : Int) ≤ v6 ∧ v6 < (List.length x0 : Int) then
    if (0 : Int) ≤ v6 ∧ v6 < (List.length x1 : Int) then
    if (!((((nth x0 v6).Day) == ((nth x1 v6).Day)) && (((nth x0 v6).Rate) == ((nth x1 v6).Rate)))) = true then
      some (.inr (.inl false))
    else
      some (.inl (IntKind.wrap .i64 (v6 + 1)))
    else none
    else none
  else
    some (.inr (.inr ()))
noncomputable def slices_Equal_api_Reset.r0 (x0 : List api_Reset) (x1 : List api_Reset) (s : Int) : Option (Int ⊕ (Bool ⊕ Unit)) := slices_Equal_api_Reset.b0 x0 x1 s
noncomputable def slices_Equal_api_Reset.f (x0 : List api_Reset) (x1 : List api_Reset) : Option (Bool) :=
  if ((List.length x0 : Int) != (List.length x1 : Int)) = true then
    some false
  else
    (loop (slices_Equal_api_Reset.r0 x0 x1) 0).bind fun o16 =>
    match o16 with
    | .inl r23 => some r23
    | .inr w15 =>
      some true
set_option maxRecDepth 100000 in
set_option maxHeartbeats 4000000 in
theorem slices_Equal_api_Reset.ok {x0 : List api_Reset} {x1 : List api_Reset} {r : Bool} (h : slices_Equal_api_Reset.f x0 x1 = some r) : Pm.Spec prog 40 [.imm (.row 2 (List.map api_Reset.enc x0)), .imm (.row 2 (List.map api_Reset.enc x1))] (.imm (.val (.bool r))) [none, none] := by
 unfold slices_Equal_api_Reset.f at h
 refine Pm.Spec.of_body Try.func40 rfl (by kernel_rfl) (Nat.le_of_ble_eq_true rfl) (Nat.le_of_ble_eq_true rfl) ?_
 refine W.ghost (σ' := (mkSt [(0, some (.imm (.row 2 (List.map api_Reset.enc x0)))), (1, some (.imm (.row 2 (List.map api_Reset.enc x1))))] [] 1000)) (Gives.entry (.c rfl (.c rfl .n)) .n) ?_
 refine W.seq ?_
 refine W.pk ?_
 refine .a rfl rfl rfl rfl ?_
 refine .nil ?_
 refine W.seq ?_
 refine W.seq ?_
 refine W.pk ?_
 refine .m rfl rfl rfl rfl ?_
 refine .v rfl rfl (O.lenR sl24 rfl rfl) ?_
 refine .m rfl rfl rfl rfl ?_
 refine .v rfl rfl (O.lenR sl24 rfl rfl) ?_
 refine .v rfl rfl (OpL.binI rfl rfl rfl rfl) ?_
 refine .nil ?_
 refine W.cond rfl (fun q1 => ?_) (fun q1 => ?_)
 ·have h := ifT q1 h
  refine W.seq ?_
  refine W.pk ?_
  refine .a rfl rfl rfl rfl ?_
  refine .nil ?_
  refine W.ret ?_
  cases h
  exact leaves (.inr rfl) rfl (.imm _) (cN (cN .nil)) rfl rfl
 ·have h := ifF q1 h
  refine W.skip ?_
  refine W.seq ?_
  refine W.seq ?_
  refine W.pk ?_
  refine .m rfl rfl rfl rfl ?_
  refine .v rfl rfl (O.lenR sl24 rfl rfl) ?_
  refine .m rfl rfl rfl rfl ?_
  refine .nil ?_
  obtain ⟨o16, b17, z18⟩ := bnd1 h
  refine W.fork2 (out := o16) (fun (w15 : Unit) => mkSt [] [] 1000) ?_ ?_
  ·clear h
   refine W.block ?_
   refine W.loopF (fun (s_ : Int) => mkSt [(0, some (.imm (.row 2 (List.map api_Reset.enc x0)))), (1, some (.imm (.row 2 (List.map api_Reset.enc x1)))), (12, some (.i (List.length x0 : Int))), (13, some (.i s_))] [] 1000) b17 (Gives.mkR [] (.r rfl rfl (.r rfl rfl (.r rfl rfl (.r rfl rfl .n)))) .n rfl rfl rfl) ?_
   rintro v6 s_ hr
   have h : slices_Equal_api_Reset.b0 x0 x1 v6 = some s_ := hr
   unfold slices_Equal_api_Reset.b0 at h
   refine W.seq ?_
   refine W.pk ?_
   refine .v rfl rfl (OpL.binI rfl rfl rfl rfl) ?_
   refine .nil ?_
   refine W.seq ?_
   refine W.cond rfl (fun q19 => ?_) (fun q19 => ?_)
   ·have h := ifT q19 h
    refine W.skip ?_
    refine W.seq ?_
    refine W.block ?_
    refine W.seq ?_
    refine W.pk ?_
    refine .m rfl rfl rfl rfl ?_
    refine .a rfl rfl rfl rfl ?_
    refine .nil ?_
    refine W.seq ?_
    obtain ⟨c20, h⟩ := chk h
    obtain ⟨c21, h⟩ := chk h
    refine W.dk (unm 9 [0, 0, 3, 7, 0, 0, 48, 112, 255]) rfl (by kernel_rfl) ?_
    refine .m rfl rfl rfl rfl ?_
    refine .m rfl rfl rfl rfl ?_
    refine .v rfl rfl (O.idx sl24 c20 rfl rfl rfl) ?_
    refine .v rfl rfl (O.ldN ty60 rfl rfl rfl) ?_
    refine .m rfl rfl rfl rfl ?_
    refine .m rfl rfl rfl rfl ?_
    refine .v rfl rfl (O.idx sl24 c21 rfl rfl rfl) ?_
    refine .v rfl rfl (O.ldN ty60 rfl rfl rfl) ?_
    refine .v rfl rfl (O.neS (r := ((((nth x0 v6).Day) == ((nth x1 v6).Day)) && (((nth x0 v6).Rate) == ((nth x1 v6).Rate)))) fl60 rfl rfl rfl rfl rfl rfl) ?_
    refine .nil ?_
    refine ⟨by kernel_rfl, by kernel_rfl, ?_⟩
    refine W.cond rfl (fun q22 => ?_) (fun q22 => ?_)
    ·have h := ifT q22 h
     refine W.seq ?_
     refine W.pk ?_
     refine .a rfl rfl rfl rfl ?_
     refine .nil ?_
     refine W.ret ?_
     cases h
     refine rdR fun e_ => ?_
     subst e_
     have h := z18
     dsimp only at h
     refine fkR ?_
     cases h
     exact leaves (.inr rfl) rfl (.imm _) (cN (cN .nil)) rfl rfl
    ·have h := ifF q22 h
     refine W.skip ?_
     refine W.pk ?_
     refine .v rfl rfl (OpL.binI rfl rfl rfl rfl) ?_
     refine .m rfl rfl rfl rfl ?_
     refine .nil ?_
     cases h
     exact rdN (Gives.mkR [] (.r rfl rfl (.r rfl rfl (.r rfl rfl (.r rfl rfl .n)))) .n rfl rfl rfl)
   ·have h := ifF q19 h
    refine W.exit ?_
    cases h
    refine rdX fun e_ => ?_
    subst e_
    repeat with_reducible refine thru ?_
    refine hit ?_
    exact fkN (Gives.mkR [] .n .n rfl rfl rfl)
  ·intro w15 e_
   subst e_
   clear h
   have h := z18
   dsimp only at h
   refine W.seq ?_
   refine W.pk ?_
   refine .a rfl rfl rfl rfl ?_
   refine .nil ?_
   refine W.ret ?_
   cases h
   exact leaves (.inr rfl) rfl (.imm _) (cN (cN .nil)) rfl rfl
end Go.Proofs.Ytidinbjehfodoaa
