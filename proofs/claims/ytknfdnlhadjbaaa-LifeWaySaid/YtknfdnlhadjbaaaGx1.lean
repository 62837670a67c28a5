/- Shows what functions of the program come to, each as a plain function: written by a program of the author's for this claim. -/
import Derived.Test.YtknfdnlhadjbaaaGx0
namespace Go.Proofs.Ytknfdnlhadjbaaa
open Go Go.Pm
set_option linter.unusedVariables false
set_option linter.unusedSimpArgs false
noncomputable def lombardref23_Check.f (x0 : api_Trade) : Option (Int) :=
  (lombardref23_in.f x0.ID 1 1125899906842624).bind fun t1 =>
  (if (!t1) = false then lombardref23_in.f x0.Twin 1 1125899906842624 else some default).bind fun t3 =>
  (if ((!t1) || (!t3)) = false then lombardref23_in.f x0.Side 1 2 else some default).bind fun t5 =>
  (if (((!t1) || (!t3)) || (!t5)) = false then lombardref23_in.f x0.Stage 1 5 else some default).bind fun t7 =>
  if ((((!t1) || (!t3)) || (!t5)) || (!t7)) = true then
    some 1
  else
    if (((x0.Side == 1) && ((IntKind.wrap .i64 (x0.Twin - x0.ID)) != 1)) || ((x0.Side == 2) && ((IntKind.wrap .i64 (x0.ID - x0.Twin)) != 1))) = true then
      some 32
    else
      (lombardref03_Check.f x0.Resets).bind fun t18 =>
      if (t18 != 0) = true then
        some t18
      else
        if (0 : Int) ≤ 0 ∧ 0 < (List.length x0.Resets : Int) then
        if (((nth x0.Resets 0).Day) != x0.Start) = true then
          some 10
        else
          (lombardref23_in.f x0.Member 1 32).bind fun t23 =>
          if (!t23) = true then
            some 22
          else
            if (0 : Int) ≤ 0 ∧ 0 < (List.length x0.Resets : Int) then
            (lombardref23_Terms.f (⟨0, 0, x0.Basket, x0.Amount, (nth x0.Resets 0).Rate, x0.Start, x0.End⟩ : api_Fill)).bind fun t27 =>
            some t27
            else none
        else none
set_option maxRecDepth 100000 in
set_option maxHeartbeats 4000000 in
theorem lombardref23_Check.ok {x0 : api_Trade} {r : Int} (h : lombardref23_Check.f x0 = some r) : Pm.Spec prog 40 [.agg [.imm (.val (.int .i64 x0.ID)), .imm (.val (.int .i64 x0.Twin)), .imm (.val (.int .i64 x0.Member)), .imm (.val (.int .i64 x0.Side)), .imm (.val (.int .i64 x0.Basket)), .imm (.val (.int .i64 x0.Amount)), .imm (.val (.int .i64 x0.Start)), .imm (.val (.int .i64 x0.End)), .imm (.row 2 (List.map api_Reset.enc x0.Resets)), .imm (.val (.int .i64 x0.Stage)), .imm (.val (.bool x0.Short))]] (.imm (.val (.int .i64 r))) [none] := by
 unfold lombardref23_Check.f at h
 refine Pm.Spec.of_body Try.func40 rfl (by kernel_rfl) (Nat.le_of_ble_eq_true rfl) (Nat.le_of_ble_eq_true rfl) ?_
 refine W.ghost (σ' := (mkSt [(0, some (.agg (api_Trade.av x0)))] [] 1000)) (Gives.entry (.c rfl .n) .n) ?_
 refine W.seq ?_
 refine W.pk ?_
 refine .t rfl rfl (O.box rfl rfl rfl rfl rfl) ?_
 refine .a rfl rfl rfl rfl ?_
 refine .nil ?_
 refine W.seq ?_
 refine W.seq ?_
 obtain ⟨t1, b2, h⟩ := bnd1 h
 obtain ⟨t3, b4, h⟩ := bnd1 h
 obtain ⟨t5, b6, h⟩ := bnd1 h
 obtain ⟨t7, b8, h⟩ := bnd1 h
 refine W.fork (mkSt [(1, some (.ptr 1000 0)), (25, some (.b ((((!t1) || (!t3)) || (!t5)) || (!t7))))] [(1000, some (.box [.i x0.ID, .i x0.Twin, .i x0.Member, .i x0.Side, .i x0.Basket, .i x0.Amount, .i x0.Start, .i x0.End, .imm (.row 2 (List.map api_Reset.enc x0.Resets)), .i x0.Stage, .b x0.Short]))] 1001) ?_ ?_
 ·refine W.cond rfl (fun q12 => ?_) (fun q12 => ?_)
  ·have h := ifT q12 h
   refine W.seq ?_
   refine W.pk ?_
   refine .a rfl rfl rfl rfl ?_
   refine .nil ?_
   refine W.ret ?_
   cases h
   exact leaves (.inr rfl) rfl (.imm _) (cN .nil) rfl rfl
  ·have h := ifF q12 h
   refine W.skip ?_
   refine W.seq ?_
   refine W.seq ?_
   refine W.fork (mkSt [(1, some (.ptr 1000 0)), (49, some (.b (((x0.Side == 1) && ((IntKind.wrap .i64 (x0.Twin - x0.ID)) != 1)) || ((x0.Side == 2) && ((IntKind.wrap .i64 (x0.ID - x0.Twin)) != 1)))))] [(1000, some (.box [.i x0.ID, .i x0.Twin, .i x0.Member, .i x0.Side, .i x0.Basket, .i x0.Amount, .i x0.Start, .i x0.End, .imm (.row 2 (List.map api_Reset.enc x0.Resets)), .i x0.Stage, .b x0.Short]))] 1001) ?_ ?_
   ·refine W.cond rfl (fun q17 => ?_) (fun q17 => ?_)
    ·have h := ifT q17 h
     refine W.seq ?_
     refine W.pk ?_
     refine .a rfl rfl rfl rfl ?_
     refine .nil ?_
     refine W.ret ?_
     cases h
     exact leaves (.inr rfl) rfl (.imm _) (cN .nil) rfl rfl
    ·have h := ifF q17 h
     refine W.skip ?_
     refine W.seq ?_
     refine W.seq ?_
     obtain ⟨t18, b19, h⟩ := bnd1 h
     refine W.pk ?_
     refine .v rfl rfl (O.fld fld24_8 rfl rfl rfl) ?_
     refine .v rfl rfl (O.ld (y := .imm (.row 2 (List.map api_Reset.enc x0.Resets))) ty22 rfl rfl rfl) ?_
     refine .call (.i t18) [] 0 (lombardref03_Check.ok b19) rfl rfl rfl ca51 rfl rfl (cC (.imm _) .nil) rfl rfl rfl rfl rfl ?_
     refine .a rfl rfl rfl rfl ?_
     refine .nil ?_
     refine W.seq ?_
     refine W.pk ?_
     refine .m rfl rfl rfl rfl ?_
     refine .v rfl rfl (OpL.binI rfl rfl rfl rfl) ?_
     refine .nil ?_
     refine W.cond rfl (fun q20 => ?_) (fun q20 => ?_)
     ·have h := ifT q20 h
      refine W.seq ?_
      refine W.pk ?_
      refine .m rfl rfl rfl rfl ?_
      refine .a rfl rfl rfl rfl ?_
      refine .nil ?_
      refine W.ret ?_
      cases h
      exact leaves (.inr rfl) rfl (.imm _) (cN .nil) rfl rfl
     ·have h := ifF q20 h
      refine W.skip ?_
      refine W.seq ?_
      refine W.seq ?_
      obtain ⟨c21, h⟩ := chk h
      refine W.dk (unm 8 [0, 1, 3, 7, 15, 0, 32, 127]) rfl (by kernel_rfl) ?_
      refine .v rfl rfl (O.fld fld24_8 rfl rfl rfl) ?_
      refine .v rfl rfl (O.ld (y := .imm (.row 2 (List.map api_Reset.enc x0.Resets))) ty22 rfl rfl rfl) ?_
      refine .v rfl rfl (O.idx sl22 c21 rfl rfl rfl) ?_
      refine .v rfl rfl (O.fld fld46_0 rfl rfl rfl) ?_
      refine .v rfl rfl (O.ld (y := .i ((nth x0.Resets 0).Day)) ty3 rfl rfl rfl) ?_
      refine .v rfl rfl (O.fld fld24_6 rfl rfl rfl) ?_
      refine .v rfl rfl (O.ld (y := .i x0.Start) ty3 rfl rfl rfl) ?_
      refine .v rfl rfl (OpL.binI rfl rfl rfl rfl) ?_
      refine .nil ?_
      refine ⟨by kernel_rfl, by kernel_rfl, ?_⟩
      refine W.cond rfl (fun q22 => ?_) (fun q22 => ?_)
      ·have h := ifT q22 h
       refine W.seq ?_
       refine W.pk ?_
       refine .a rfl rfl rfl rfl ?_
       refine .nil ?_
       refine W.ret ?_
       cases h
       exact leaves (.inr rfl) rfl (.imm _) (cN .nil) rfl rfl
      ·have h := ifF q22 h
       refine W.skip ?_
       refine W.seq ?_
       refine W.seq ?_
       obtain ⟨t23, b24, h⟩ := bnd1 h
       refine W.pk ?_
       refine .v rfl rfl (O.fld fld24_2 rfl rfl rfl) ?_
       refine .v rfl rfl (O.ld (y := .i x0.Member) ty3 rfl rfl rfl) ?_
       refine .call (.b t23) [] 0 (lombardref23_in.ok b24) rfl rfl rfl ca50 rfl rfl (cC (.imm _) (cC (.imm _) (cC (.imm _) .nil))) rfl rfl rfl rfl rfl ?_
       refine .v rfl rfl (OpL.unV rfl rfl rfl) ?_
       refine .nil ?_
       refine W.cond rfl (fun q25 => ?_) (fun q25 => ?_)
       ·have h := ifT q25 h
        refine W.seq ?_
        refine W.pk ?_
        refine .a rfl rfl rfl rfl ?_
        refine .nil ?_
        refine W.ret ?_
        cases h
        exact leaves (.inr rfl) rfl (.imm _) (cN .nil) rfl rfl
       ·have h := ifF q25 h
        refine W.skip ?_
        refine W.seq ?_
        obtain ⟨c26, h⟩ := chk h
        obtain ⟨t27, b28, h⟩ := bnd1 h
        refine W.dk (unm 16 [0, 1, 0, 4, 0, 16, 48, 112, 240, 0, 512, 0, 2048, 8191, 16383, 32767]) rfl (by kernel_rfl) ?_
        refine .v rfl rfl (O.fld fld24_4 rfl rfl rfl) ?_
        refine .v rfl rfl (O.ld (y := .i x0.Basket) ty3 rfl rfl rfl) ?_
        refine .v rfl rfl (O.fld fld24_5 rfl rfl rfl) ?_
        refine .v rfl rfl (O.ld (y := .i x0.Amount) ty3 rfl rfl rfl) ?_
        refine .v rfl rfl (O.fld fld24_8 rfl rfl rfl) ?_
        refine .v rfl rfl (O.ld (y := .imm (.row 2 (List.map api_Reset.enc x0.Resets))) ty22 rfl rfl rfl) ?_
        refine .v rfl rfl (O.idx sl22 c26 rfl rfl rfl) ?_
        refine .v rfl rfl (O.fld fld46_1 rfl rfl rfl) ?_
        refine .v rfl rfl (O.ld (y := .i ((nth x0.Resets 0).Rate)) ty3 rfl rfl rfl) ?_
        refine .v rfl rfl (O.fld fld24_6 rfl rfl rfl) ?_
        refine .v rfl rfl (O.ld (y := .i x0.Start) ty3 rfl rfl rfl) ?_
        refine .v rfl rfl (O.fld fld24_7 rfl rfl rfl) ?_
        refine .v rfl rfl (O.ld (y := .i x0.End) ty3 rfl rfl rfl) ?_
        refine .v rfl rfl (O.build (out := [.i 0, .i 0, .i x0.Basket, .i x0.Amount, .i ((nth x0.Resets 0).Rate), .i x0.Start, .i x0.End]) bl38 rfl rfl rfl rfl (by kernel_rfl)) ?_
        refine .call (.i t27) [] 0 (lombardref23_Terms.ok b28) rfl rfl rfl ca52 rfl rfl (cC (.agg _ _ _ _ (cC (.imm _) (cC (.imm _) (cC (.imm _) (cC (.imm _) (cC (.imm _) (cC (.imm _) (cC (.imm _) .nil)))))))) .nil) rfl rfl rfl rfl rfl ?_
        refine .a rfl rfl rfl rfl ?_
        refine .nil ?_
        refine ⟨by kernel_rfl, by kernel_rfl, ?_⟩
        refine W.ret ?_
        cases h
        exact leaves (.inr rfl) rfl (.imm _) (cN .nil) rfl rfl
   ·clear h
    rcases tf (x0.Side == 1) with g13 | g13
    ·rcases tf ((IntKind.wrap .i64 (x0.Twin - x0.ID)) != 1) with g14 | g14
     ·refine W.pk ?_
      refine .v rfl rfl (O.fld fld24_3 rfl rfl rfl) ?_
      refine .v rfl rfl (O.ld (y := .i x0.Side) ty3 rfl rfl rfl) ?_
      refine .v rfl rfl (OpL.binI rfl rfl rfl rfl) ?_
      refine .m rfl rfl rfl rfl ?_
      refine .v rfl (met rfl rfl rfl g13) (O.fld fld24_1 rfl rfl rfl) ?_
      refine .v rfl (met rfl rfl rfl g13) (O.ld (y := .i x0.Twin) ty3 rfl rfl rfl) ?_
      refine .v rfl (met rfl rfl rfl g13) (O.fld fld24_0 rfl rfl rfl) ?_
      refine .v rfl (met rfl rfl rfl g13) (O.ld (y := .i x0.ID) ty3 rfl rfl rfl) ?_
      refine .v rfl (met rfl rfl rfl g13) (OpL.binI rfl rfl rfl rfl) ?_
      refine .v rfl (met rfl rfl rfl g13) (OpL.binI rfl rfl rfl rfl) ?_
      refine .v rfl rfl (O.pickT g13 rfl rfl rfl) ?_
      refine .m rfl rfl rfl rfl ?_
      refine .x rfl (unmet rfl rfl rfl g14) ?_
      refine .x rfl (unmet rfl rfl rfl g14) ?_
      refine .x rfl (unmet rfl rfl rfl g14) ?_
      refine .x rfl (unmet rfl rfl rfl g14) ?_
      refine .x rfl (unmetU rfl rfl rfl) ?_
      refine .x rfl (unmetU rfl rfl rfl) ?_
      refine .x rfl (unmetU rfl rfl rfl) ?_
      refine .x rfl (unmetU rfl rfl rfl) ?_
      refine .x rfl (unmetU rfl rfl rfl) ?_
      refine .x rfl (unmetU rfl rfl rfl) ?_
      refine .x rfl (unmet rfl rfl rfl g14) ?_
      refine .v rfl rfl (O.pickT g14 rfl rfl rfl) ?_
      refine .nil ?_
      exact toN (Gives.mkR [] (.r rfl rfl (.c rfl (sbb (by first | (simp only [g13, g14, Bool.true_or, Bool.or_true, Bool.false_or, Bool.or_false, Bool.true_and, Bool.and_true, Bool.false_and, Bool.and_false, Bool.not_true, Bool.not_false, cond_true, cond_false]; done) | (repeat (first | rw [g13] | rw [g14])) <;> simp only [Bool.true_or, Bool.or_true, Bool.false_or, Bool.or_false, Bool.true_and, Bool.and_true, Bool.false_and, Bool.and_false, Bool.not_true, Bool.not_false, cond_true, cond_false])) rfl .n)) (.r rfl rfl rfl .n) rfl rfl rfl)
     ·rcases tf (x0.Side == 2) with g15 | g15
      ·refine W.pk ?_
       refine .v rfl rfl (O.fld fld24_3 rfl rfl rfl) ?_
       refine .v rfl rfl (O.ld (y := .i x0.Side) ty3 rfl rfl rfl) ?_
       refine .v rfl rfl (OpL.binI rfl rfl rfl rfl) ?_
       refine .m rfl rfl rfl rfl ?_
       refine .v rfl (met rfl rfl rfl g13) (O.fld fld24_1 rfl rfl rfl) ?_
       refine .v rfl (met rfl rfl rfl g13) (O.ld (y := .i x0.Twin) ty3 rfl rfl rfl) ?_
       refine .v rfl (met rfl rfl rfl g13) (O.fld fld24_0 rfl rfl rfl) ?_
       refine .v rfl (met rfl rfl rfl g13) (O.ld (y := .i x0.ID) ty3 rfl rfl rfl) ?_
       refine .v rfl (met rfl rfl rfl g13) (OpL.binI rfl rfl rfl rfl) ?_
       refine .v rfl (met rfl rfl rfl g13) (OpL.binI rfl rfl rfl rfl) ?_
       refine .v rfl rfl (O.pickT g13 rfl rfl rfl) ?_
       refine .m rfl rfl rfl rfl ?_
       refine .v rfl (met rfl rfl rfl g14) (O.fld fld24_3 rfl rfl rfl) ?_
       refine .v rfl (met rfl rfl rfl g14) (O.ld (y := .i x0.Side) ty3 rfl rfl rfl) ?_
       refine .v rfl (met rfl rfl rfl g14) (OpL.binI rfl rfl rfl rfl) ?_
       refine .m rfl (met rfl rfl rfl g14) rfl rfl ?_
       refine .v rfl (met rfl rfl rfl g15) (O.fld fld24_0 rfl rfl rfl) ?_
       refine .v rfl (met rfl rfl rfl g15) (O.ld (y := .i x0.ID) ty3 rfl rfl rfl) ?_
       refine .v rfl (met rfl rfl rfl g15) (O.fld fld24_1 rfl rfl rfl) ?_
       refine .v rfl (met rfl rfl rfl g15) (O.ld (y := .i x0.Twin) ty3 rfl rfl rfl) ?_
       refine .v rfl (met rfl rfl rfl g15) (OpL.binI rfl rfl rfl rfl) ?_
       refine .v rfl (met rfl rfl rfl g15) (OpL.binI rfl rfl rfl rfl) ?_
       refine .v rfl (met rfl rfl rfl g14) (O.pickT g15 rfl rfl rfl) ?_
       refine .v rfl rfl (O.pickF g14 rfl rfl rfl) ?_
       refine .nil ?_
       exact toN (Gives.mkR [] (.r rfl rfl (.c rfl (sbb (by first | (simp only [g13, g14, g15, Bool.true_or, Bool.or_true, Bool.false_or, Bool.or_false, Bool.true_and, Bool.and_true, Bool.false_and, Bool.and_false, Bool.not_true, Bool.not_false, cond_true, cond_false]; done) | (repeat (first | rw [g13] | rw [g14] | rw [g15])) <;> simp only [Bool.true_or, Bool.or_true, Bool.false_or, Bool.or_false, Bool.true_and, Bool.and_true, Bool.false_and, Bool.and_false, Bool.not_true, Bool.not_false, cond_true, cond_false])) rfl .n)) (.r rfl rfl rfl .n) rfl rfl rfl)
      ·refine W.pk ?_
       refine .v rfl rfl (O.fld fld24_3 rfl rfl rfl) ?_
       refine .v rfl rfl (O.ld (y := .i x0.Side) ty3 rfl rfl rfl) ?_
       refine .v rfl rfl (OpL.binI rfl rfl rfl rfl) ?_
       refine .m rfl rfl rfl rfl ?_
       refine .v rfl (met rfl rfl rfl g13) (O.fld fld24_1 rfl rfl rfl) ?_
       refine .v rfl (met rfl rfl rfl g13) (O.ld (y := .i x0.Twin) ty3 rfl rfl rfl) ?_
       refine .v rfl (met rfl rfl rfl g13) (O.fld fld24_0 rfl rfl rfl) ?_
       refine .v rfl (met rfl rfl rfl g13) (O.ld (y := .i x0.ID) ty3 rfl rfl rfl) ?_
       refine .v rfl (met rfl rfl rfl g13) (OpL.binI rfl rfl rfl rfl) ?_
       refine .v rfl (met rfl rfl rfl g13) (OpL.binI rfl rfl rfl rfl) ?_
       refine .v rfl rfl (O.pickT g13 rfl rfl rfl) ?_
       refine .m rfl rfl rfl rfl ?_
       refine .v rfl (met rfl rfl rfl g14) (O.fld fld24_3 rfl rfl rfl) ?_
       refine .v rfl (met rfl rfl rfl g14) (O.ld (y := .i x0.Side) ty3 rfl rfl rfl) ?_
       refine .v rfl (met rfl rfl rfl g14) (OpL.binI rfl rfl rfl rfl) ?_
       refine .m rfl (met rfl rfl rfl g14) rfl rfl ?_
       refine .x rfl (unmet rfl rfl rfl g15) ?_
       refine .x rfl (unmet rfl rfl rfl g15) ?_
       refine .x rfl (unmet rfl rfl rfl g15) ?_
       refine .x rfl (unmet rfl rfl rfl g15) ?_
       refine .x rfl (unmet rfl rfl rfl g15) ?_
       refine .x rfl (unmet rfl rfl rfl g15) ?_
       refine .v rfl (met rfl rfl rfl g14) (O.pickF g15 rfl rfl rfl) ?_
       refine .v rfl rfl (O.pickF g14 rfl rfl rfl) ?_
       refine .nil ?_
       exact toN (Gives.mkR [] (.r rfl rfl (.c rfl (sbb (by first | (simp only [g13, g14, g15, Bool.true_or, Bool.or_true, Bool.false_or, Bool.or_false, Bool.true_and, Bool.and_true, Bool.false_and, Bool.and_false, Bool.not_true, Bool.not_false, cond_true, cond_false]; done) | (repeat (first | rw [g13] | rw [g14] | rw [g15])) <;> simp only [Bool.true_or, Bool.or_true, Bool.false_or, Bool.or_false, Bool.true_and, Bool.and_true, Bool.false_and, Bool.and_false, Bool.not_true, Bool.not_false, cond_true, cond_false])) rfl .n)) (.r rfl rfl rfl .n) rfl rfl rfl)
    ·rcases tf (x0.Side == 2) with g16 | g16
     ·refine W.pk ?_
      refine .v rfl rfl (O.fld fld24_3 rfl rfl rfl) ?_
      refine .v rfl rfl (O.ld (y := .i x0.Side) ty3 rfl rfl rfl) ?_
      refine .v rfl rfl (OpL.binI rfl rfl rfl rfl) ?_
      refine .m rfl rfl rfl rfl ?_
      refine .x rfl (unmet rfl rfl rfl g13) ?_
      refine .x rfl (unmet rfl rfl rfl g13) ?_
      refine .x rfl (unmet rfl rfl rfl g13) ?_
      refine .x rfl (unmet rfl rfl rfl g13) ?_
      refine .x rfl (unmet rfl rfl rfl g13) ?_
      refine .x rfl (unmet rfl rfl rfl g13) ?_
      refine .v rfl rfl (O.pickF g13 rfl rfl rfl) ?_
      refine .m rfl rfl rfl rfl ?_
      refine .v rfl (met rfl rfl rfl rfl) (O.fld fld24_3 rfl rfl rfl) ?_
      refine .v rfl (met rfl rfl rfl rfl) (O.ld (y := .i x0.Side) ty3 rfl rfl rfl) ?_
      refine .v rfl (met rfl rfl rfl rfl) (OpL.binI rfl rfl rfl rfl) ?_
      refine .m rfl (met rfl rfl rfl rfl) rfl rfl ?_
      refine .v rfl (met rfl rfl rfl g16) (O.fld fld24_0 rfl rfl rfl) ?_
      refine .v rfl (met rfl rfl rfl g16) (O.ld (y := .i x0.ID) ty3 rfl rfl rfl) ?_
      refine .v rfl (met rfl rfl rfl g16) (O.fld fld24_1 rfl rfl rfl) ?_
      refine .v rfl (met rfl rfl rfl g16) (O.ld (y := .i x0.Twin) ty3 rfl rfl rfl) ?_
      refine .v rfl (met rfl rfl rfl g16) (OpL.binI rfl rfl rfl rfl) ?_
      refine .v rfl (met rfl rfl rfl g16) (OpL.binI rfl rfl rfl rfl) ?_
      refine .v rfl (met rfl rfl rfl rfl) (O.pickT g16 rfl rfl rfl) ?_
      refine .v rfl rfl (O.pickF rfl rfl rfl rfl) ?_
      refine .nil ?_
      exact toN (Gives.mkR [] (.r rfl rfl (.c rfl (sbb (by first | (simp only [g13, g16, Bool.true_or, Bool.or_true, Bool.false_or, Bool.or_false, Bool.true_and, Bool.and_true, Bool.false_and, Bool.and_false, Bool.not_true, Bool.not_false, cond_true, cond_false]; done) | (repeat (first | rw [g13] | rw [g16])) <;> simp only [Bool.true_or, Bool.or_true, Bool.false_or, Bool.or_false, Bool.true_and, Bool.and_true, Bool.false_and, Bool.and_false, Bool.not_true, Bool.not_false, cond_true, cond_false])) rfl .n)) (.r rfl rfl rfl .n) rfl rfl rfl)
     ·refine W.pk ?_
      refine .v rfl rfl (O.fld fld24_3 rfl rfl rfl) ?_
      refine .v rfl rfl (O.ld (y := .i x0.Side) ty3 rfl rfl rfl) ?_
      refine .v rfl rfl (OpL.binI rfl rfl rfl rfl) ?_
      refine .m rfl rfl rfl rfl ?_
      refine .x rfl (unmet rfl rfl rfl g13) ?_
      refine .x rfl (unmet rfl rfl rfl g13) ?_
      refine .x rfl (unmet rfl rfl rfl g13) ?_
      refine .x rfl (unmet rfl rfl rfl g13) ?_
      refine .x rfl (unmet rfl rfl rfl g13) ?_
      refine .x rfl (unmet rfl rfl rfl g13) ?_
      refine .v rfl rfl (O.pickF g13 rfl rfl rfl) ?_
      refine .m rfl rfl rfl rfl ?_
      refine .v rfl (met rfl rfl rfl rfl) (O.fld fld24_3 rfl rfl rfl) ?_
      refine .v rfl (met rfl rfl rfl rfl) (O.ld (y := .i x0.Side) ty3 rfl rfl rfl) ?_
      refine .v rfl (met rfl rfl rfl rfl) (OpL.binI rfl rfl rfl rfl) ?_
      refine .m rfl (met rfl rfl rfl rfl) rfl rfl ?_
      refine .x rfl (unmet rfl rfl rfl g16) ?_
      refine .x rfl (unmet rfl rfl rfl g16) ?_
      refine .x rfl (unmet rfl rfl rfl g16) ?_
      refine .x rfl (unmet rfl rfl rfl g16) ?_
      refine .x rfl (unmet rfl rfl rfl g16) ?_
      refine .x rfl (unmet rfl rfl rfl g16) ?_
      refine .v rfl (met rfl rfl rfl rfl) (O.pickF g16 rfl rfl rfl) ?_
      refine .v rfl rfl (O.pickF rfl rfl rfl rfl) ?_
      refine .nil ?_
      exact toN (Gives.mkR [] (.r rfl rfl (.c rfl (sbb (by first | (simp only [g13, g16, Bool.true_or, Bool.or_true, Bool.false_or, Bool.or_false, Bool.true_and, Bool.and_true, Bool.false_and, Bool.and_false, Bool.not_true, Bool.not_false, cond_true, cond_false]; done) | (repeat (first | rw [g13] | rw [g16])) <;> simp only [Bool.true_or, Bool.or_true, Bool.false_or, Bool.or_false, Bool.true_and, Bool.and_true, Bool.false_and, Bool.and_false, Bool.not_true, Bool.not_false, cond_true, cond_false])) rfl .n)) (.r rfl rfl rfl .n) rfl rfl rfl)
 ·clear h
  rcases tf t1 with g9 | g9
  ·rcases tf t3 with g10 | g10
   ·rcases tf t5 with g11 | g11
    ·refine W.pk ?_
     refine .v rfl rfl (O.fld fld24_0 rfl rfl rfl) ?_
     refine .v rfl rfl (O.ld (y := .i x0.ID) ty3 rfl rfl rfl) ?_
     refine .call (.b t1) [] 0 (lombardref23_in.ok b2) rfl rfl rfl ca50 rfl rfl (cC (.imm _) (cC (.imm _) (cC (.imm _) .nil))) rfl rfl rfl rfl rfl ?_
     refine .v rfl rfl (OpL.unV rfl rfl rfl) ?_
     refine .m rfl rfl rfl rfl ?_
     refine .v rfl (met rfl rfl rfl (notT g9)) (O.fld fld24_1 rfl rfl rfl) ?_
     refine .v rfl (met rfl rfl rfl (notT g9)) (O.ld (y := .i x0.Twin) ty3 rfl rfl rfl) ?_
     refine .call (.b t3) [] 0 (lombardref23_in.ok ((if_pos (by first | (simp only [g9, g10, g11, Bool.true_or, Bool.or_true, Bool.false_or, Bool.or_false, Bool.true_and, Bool.and_true, Bool.false_and, Bool.and_false, Bool.not_true, Bool.not_false, cond_true, cond_false]; done) | (repeat (first | rw [g9] | rw [g10] | rw [g11])) <;> simp only [Bool.true_or, Bool.or_true, Bool.false_or, Bool.or_false, Bool.true_and, Bool.and_true, Bool.false_and, Bool.and_false, Bool.not_true, Bool.not_false, cond_true, cond_false])).symm.trans b4)) rfl (met rfl rfl rfl (notT g9)) rfl ca50 rfl rfl (cC (.imm _) (cC (.imm _) (cC (.imm _) .nil))) rfl rfl rfl rfl rfl ?_
     refine .v rfl (met rfl rfl rfl (notT g9)) (OpL.unV rfl rfl rfl) ?_
     refine .v rfl rfl (O.pickF (notT g9) rfl rfl rfl) ?_
     refine .m rfl rfl rfl rfl ?_
     refine .v rfl (met rfl rfl rfl (notT g10)) (O.fld fld24_3 rfl rfl rfl) ?_
     refine .v rfl (met rfl rfl rfl (notT g10)) (O.ld (y := .i x0.Side) ty3 rfl rfl rfl) ?_
     refine .call (.b t5) [] 0 (lombardref23_in.ok ((if_pos (by first | (simp only [g9, g10, g11, Bool.true_or, Bool.or_true, Bool.false_or, Bool.or_false, Bool.true_and, Bool.and_true, Bool.false_and, Bool.and_false, Bool.not_true, Bool.not_false, cond_true, cond_false]; done) | (repeat (first | rw [g9] | rw [g10] | rw [g11])) <;> simp only [Bool.true_or, Bool.or_true, Bool.false_or, Bool.or_false, Bool.true_and, Bool.and_true, Bool.false_and, Bool.and_false, Bool.not_true, Bool.not_false, cond_true, cond_false])).symm.trans b6)) rfl (met rfl rfl rfl (notT g10)) rfl ca50 rfl rfl (cC (.imm _) (cC (.imm _) (cC (.imm _) .nil))) rfl rfl rfl rfl rfl ?_
     refine .v rfl (met rfl rfl rfl (notT g10)) (OpL.unV rfl rfl rfl) ?_
     refine .v rfl rfl (O.pickF (notT g10) rfl rfl rfl) ?_
     refine .m rfl rfl rfl rfl ?_
     refine .v rfl (met rfl rfl rfl (notT g11)) (O.fld fld24_9 rfl rfl rfl) ?_
     refine .v rfl (met rfl rfl rfl (notT g11)) (O.ld (y := .i x0.Stage) ty3 rfl rfl rfl) ?_
     refine .call (.b t7) [] 0 (lombardref23_in.ok ((if_pos (by first | (simp only [g9, g10, g11, Bool.true_or, Bool.or_true, Bool.false_or, Bool.or_false, Bool.true_and, Bool.and_true, Bool.false_and, Bool.and_false, Bool.not_true, Bool.not_false, cond_true, cond_false]; done) | (repeat (first | rw [g9] | rw [g10] | rw [g11])) <;> simp only [Bool.true_or, Bool.or_true, Bool.false_or, Bool.or_false, Bool.true_and, Bool.and_true, Bool.false_and, Bool.and_false, Bool.not_true, Bool.not_false, cond_true, cond_false])).symm.trans b8)) rfl (met rfl rfl rfl (notT g11)) rfl ca50 rfl rfl (cC (.imm _) (cC (.imm _) (cC (.imm _) .nil))) rfl rfl rfl rfl rfl ?_
     refine .v rfl (met rfl rfl rfl (notT g11)) (OpL.unV rfl rfl rfl) ?_
     refine .v rfl rfl (O.pickF (notT g11) rfl rfl rfl) ?_
     refine .nil ?_
     exact toN (Gives.mkR [] (.r rfl rfl (.c rfl (sbb (by first | (simp only [g9, g10, g11, Bool.true_or, Bool.or_true, Bool.false_or, Bool.or_false, Bool.true_and, Bool.and_true, Bool.false_and, Bool.and_false, Bool.not_true, Bool.not_false, cond_true, cond_false]; done) | (repeat (first | rw [g9] | rw [g10] | rw [g11])) <;> simp only [Bool.true_or, Bool.or_true, Bool.false_or, Bool.or_false, Bool.true_and, Bool.and_true, Bool.false_and, Bool.and_false, Bool.not_true, Bool.not_false, cond_true, cond_false])) rfl .n)) (.r rfl rfl rfl .n) rfl rfl rfl)
    ·refine W.pk ?_
     refine .v rfl rfl (O.fld fld24_0 rfl rfl rfl) ?_
     refine .v rfl rfl (O.ld (y := .i x0.ID) ty3 rfl rfl rfl) ?_
     refine .call (.b t1) [] 0 (lombardref23_in.ok b2) rfl rfl rfl ca50 rfl rfl (cC (.imm _) (cC (.imm _) (cC (.imm _) .nil))) rfl rfl rfl rfl rfl ?_
     refine .v rfl rfl (OpL.unV rfl rfl rfl) ?_
     refine .m rfl rfl rfl rfl ?_
     refine .v rfl (met rfl rfl rfl (notT g9)) (O.fld fld24_1 rfl rfl rfl) ?_
     refine .v rfl (met rfl rfl rfl (notT g9)) (O.ld (y := .i x0.Twin) ty3 rfl rfl rfl) ?_
     refine .call (.b t3) [] 0 (lombardref23_in.ok ((if_pos (by first | (simp only [g9, g10, g11, Bool.true_or, Bool.or_true, Bool.false_or, Bool.or_false, Bool.true_and, Bool.and_true, Bool.false_and, Bool.and_false, Bool.not_true, Bool.not_false, cond_true, cond_false]; done) | (repeat (first | rw [g9] | rw [g10] | rw [g11])) <;> simp only [Bool.true_or, Bool.or_true, Bool.false_or, Bool.or_false, Bool.true_and, Bool.and_true, Bool.false_and, Bool.and_false, Bool.not_true, Bool.not_false, cond_true, cond_false])).symm.trans b4)) rfl (met rfl rfl rfl (notT g9)) rfl ca50 rfl rfl (cC (.imm _) (cC (.imm _) (cC (.imm _) .nil))) rfl rfl rfl rfl rfl ?_
     refine .v rfl (met rfl rfl rfl (notT g9)) (OpL.unV rfl rfl rfl) ?_
     refine .v rfl rfl (O.pickF (notT g9) rfl rfl rfl) ?_
     refine .m rfl rfl rfl rfl ?_
     refine .v rfl (met rfl rfl rfl (notT g10)) (O.fld fld24_3 rfl rfl rfl) ?_
     refine .v rfl (met rfl rfl rfl (notT g10)) (O.ld (y := .i x0.Side) ty3 rfl rfl rfl) ?_
     refine .call (.b t5) [] 0 (lombardref23_in.ok ((if_pos (by first | (simp only [g9, g10, g11, Bool.true_or, Bool.or_true, Bool.false_or, Bool.or_false, Bool.true_and, Bool.and_true, Bool.false_and, Bool.and_false, Bool.not_true, Bool.not_false, cond_true, cond_false]; done) | (repeat (first | rw [g9] | rw [g10] | rw [g11])) <;> simp only [Bool.true_or, Bool.or_true, Bool.false_or, Bool.or_false, Bool.true_and, Bool.and_true, Bool.false_and, Bool.and_false, Bool.not_true, Bool.not_false, cond_true, cond_false])).symm.trans b6)) rfl (met rfl rfl rfl (notT g10)) rfl ca50 rfl rfl (cC (.imm _) (cC (.imm _) (cC (.imm _) .nil))) rfl rfl rfl rfl rfl ?_
     refine .v rfl (met rfl rfl rfl (notT g10)) (OpL.unV rfl rfl rfl) ?_
     refine .v rfl rfl (O.pickF (notT g10) rfl rfl rfl) ?_
     refine .m rfl rfl rfl rfl ?_
     refine .x rfl (unmet rfl rfl rfl (notF g11)) ?_
     refine .x rfl (unmet rfl rfl rfl (notF g11)) ?_
     refine .x rfl (unmet rfl rfl rfl (notF g11)) ?_
     refine .x rfl (unmet rfl rfl rfl (notF g11)) ?_
     refine .v rfl rfl (O.pickT (notF g11) rfl rfl rfl) ?_
     refine .nil ?_
     exact toN (Gives.mkR [] (.r rfl rfl (.c rfl (sbb (by first | (simp only [g9, g10, g11, Bool.true_or, Bool.or_true, Bool.false_or, Bool.or_false, Bool.true_and, Bool.and_true, Bool.false_and, Bool.and_false, Bool.not_true, Bool.not_false, cond_true, cond_false]; done) | (repeat (first | rw [g9] | rw [g10] | rw [g11])) <;> simp only [Bool.true_or, Bool.or_true, Bool.false_or, Bool.or_false, Bool.true_and, Bool.and_true, Bool.false_and, Bool.and_false, Bool.not_true, Bool.not_false, cond_true, cond_false])) rfl .n)) (.r rfl rfl rfl .n) rfl rfl rfl)
   ·refine W.pk ?_
    refine .v rfl rfl (O.fld fld24_0 rfl rfl rfl) ?_
    refine .v rfl rfl (O.ld (y := .i x0.ID) ty3 rfl rfl rfl) ?_
    refine .call (.b t1) [] 0 (lombardref23_in.ok b2) rfl rfl rfl ca50 rfl rfl (cC (.imm _) (cC (.imm _) (cC (.imm _) .nil))) rfl rfl rfl rfl rfl ?_
    refine .v rfl rfl (OpL.unV rfl rfl rfl) ?_
    refine .m rfl rfl rfl rfl ?_
    refine .v rfl (met rfl rfl rfl (notT g9)) (O.fld fld24_1 rfl rfl rfl) ?_
    refine .v rfl (met rfl rfl rfl (notT g9)) (O.ld (y := .i x0.Twin) ty3 rfl rfl rfl) ?_
    refine .call (.b t3) [] 0 (lombardref23_in.ok ((if_pos (by first | (simp only [g9, g10, Bool.true_or, Bool.or_true, Bool.false_or, Bool.or_false, Bool.true_and, Bool.and_true, Bool.false_and, Bool.and_false, Bool.not_true, Bool.not_false, cond_true, cond_false]; done) | (repeat (first | rw [g9] | rw [g10])) <;> simp only [Bool.true_or, Bool.or_true, Bool.false_or, Bool.or_false, Bool.true_and, Bool.and_true, Bool.false_and, Bool.and_false, Bool.not_true, Bool.not_false, cond_true, cond_false])).symm.trans b4)) rfl (met rfl rfl rfl (notT g9)) rfl ca50 rfl rfl (cC (.imm _) (cC (.imm _) (cC (.imm _) .nil))) rfl rfl rfl rfl rfl ?_
    refine .v rfl (met rfl rfl rfl (notT g9)) (OpL.unV rfl rfl rfl) ?_
    refine .v rfl rfl (O.pickF (notT g9) rfl rfl rfl) ?_
    refine .m rfl rfl rfl rfl ?_
    refine .x rfl (unmet rfl rfl rfl (notF g10)) ?_
    refine .x rfl (unmet rfl rfl rfl (notF g10)) ?_
    refine .x rfl (unmet rfl rfl rfl (notF g10)) ?_
    refine .x rfl (unmet rfl rfl rfl (notF g10)) ?_
    refine .v rfl rfl (O.pickT (notF g10) rfl rfl rfl) ?_
    refine .m rfl rfl rfl rfl ?_
    refine .x rfl (unmet rfl rfl rfl rfl) ?_
    refine .x rfl (unmet rfl rfl rfl rfl) ?_
    refine .x rfl (unmet rfl rfl rfl rfl) ?_
    refine .x rfl (unmet rfl rfl rfl rfl) ?_
    refine .v rfl rfl (O.pickT rfl rfl rfl rfl) ?_
    refine .nil ?_
    exact toN (Gives.mkR [] (.r rfl rfl (.c rfl (sbb (by first | (simp only [g9, g10, Bool.true_or, Bool.or_true, Bool.false_or, Bool.or_false, Bool.true_and, Bool.and_true, Bool.false_and, Bool.and_false, Bool.not_true, Bool.not_false, cond_true, cond_false]; done) | (repeat (first | rw [g9] | rw [g10])) <;> simp only [Bool.true_or, Bool.or_true, Bool.false_or, Bool.or_false, Bool.true_and, Bool.and_true, Bool.false_and, Bool.and_false, Bool.not_true, Bool.not_false, cond_true, cond_false])) rfl .n)) (.r rfl rfl rfl .n) rfl rfl rfl)
  ·refine W.pk ?_
   refine .v rfl rfl (O.fld fld24_0 rfl rfl rfl) ?_
   refine .v rfl rfl (O.ld (y := .i x0.ID) ty3 rfl rfl rfl) ?_
   refine .call (.b t1) [] 0 (lombardref23_in.ok b2) rfl rfl rfl ca50 rfl rfl (cC (.imm _) (cC (.imm _) (cC (.imm _) .nil))) rfl rfl rfl rfl rfl ?_
   refine .v rfl rfl (OpL.unV rfl rfl rfl) ?_
   refine .m rfl rfl rfl rfl ?_
   refine .x rfl (unmet rfl rfl rfl (notF g9)) ?_
   refine .x rfl (unmet rfl rfl rfl (notF g9)) ?_
   refine .x rfl (unmet rfl rfl rfl (notF g9)) ?_
   refine .x rfl (unmet rfl rfl rfl (notF g9)) ?_
   refine .v rfl rfl (O.pickT (notF g9) rfl rfl rfl) ?_
   refine .m rfl rfl rfl rfl ?_
   refine .x rfl (unmet rfl rfl rfl rfl) ?_
   refine .x rfl (unmet rfl rfl rfl rfl) ?_
   refine .x rfl (unmet rfl rfl rfl rfl) ?_
   refine .x rfl (unmet rfl rfl rfl rfl) ?_
   refine .v rfl rfl (O.pickT rfl rfl rfl rfl) ?_
   refine .m rfl rfl rfl rfl ?_
   refine .x rfl (unmet rfl rfl rfl rfl) ?_
   refine .x rfl (unmet rfl rfl rfl rfl) ?_
   refine .x rfl (unmet rfl rfl rfl rfl) ?_
   refine .x rfl (unmet rfl rfl rfl rfl) ?_
   refine .v rfl rfl (O.pickT rfl rfl rfl rfl) ?_
   refine .nil ?_
   exact toN (Gives.mkR [] (.r rfl rfl (.c rfl (sbb (by simp only [g9, Bool.true_or, Bool.or_true, Bool.false_or, Bool.or_false, Bool.true_and, Bool.and_true, Bool.false_and, Bool.and_false, Bool.not_true, Bool.not_false, cond_true, cond_false])) rfl .n)) (.r rfl rfl rfl .n) rfl rfl rfl)

noncomputable def lombardlaw24_good.f (x0 : api_Trade) : Option (Bool) :=
  (if (decide ((List.length x0.Resets : Int) ≤ 80)) = true then lombardref23_Check.f x0 else some default).bind fun t1 =>
  some ((decide ((List.length x0.Resets : Int) ≤ 80)) && (t1 == 0))
set_option maxRecDepth 100000 in
set_option maxHeartbeats 4000000 in
theorem lombardlaw24_good.ok {x0 : api_Trade} {r : Bool} (h : lombardlaw24_good.f x0 = some r) : Pm.Spec prog 9 [.agg [.imm (.val (.int .i64 x0.ID)), .imm (.val (.int .i64 x0.Twin)), .imm (.val (.int .i64 x0.Member)), .imm (.val (.int .i64 x0.Side)), .imm (.val (.int .i64 x0.Basket)), .imm (.val (.int .i64 x0.Amount)), .imm (.val (.int .i64 x0.Start)), .imm (.val (.int .i64 x0.End)), .imm (.row 2 (List.map api_Reset.enc x0.Resets)), .imm (.val (.int .i64 x0.Stage)), .imm (.val (.bool x0.Short))]] (.imm (.val (.bool r))) [none] := by
 unfold lombardlaw24_good.f at h
 refine Pm.Spec.of_body Try.func9 rfl (by kernel_rfl) (Nat.le_of_ble_eq_true rfl) (Nat.le_of_ble_eq_true rfl) ?_
 refine W.ghost (σ' := (mkSt [(0, some (.agg (api_Trade.av x0)))] [] 1000)) (Gives.entry (.c rfl .n) .n) ?_
 refine W.seq ?_
 refine W.pk ?_
 refine .t rfl rfl (O.box rfl rfl rfl rfl rfl) ?_
 refine .a rfl rfl rfl rfl ?_
 refine .nil ?_
 refine W.seq ?_
 obtain ⟨t1, b2, h⟩ := bnd1 h
 refine W.fork (mkSt [(2, some (.b ((decide ((List.length x0.Resets : Int) ≤ 80)) && (t1 == 0))))] [] 1001) ?_ ?_
 ·refine W.ret ?_
  cases h
  exact leaves (.inr rfl) rfl (.imm _) (cN .nil) rfl rfl
 ·clear h
  rcases tf (decide ((List.length x0.Resets : Int) ≤ 80)) with g3 | g3
  ·refine W.pk ?_
   refine .v rfl rfl (O.fld fld24_8 rfl rfl rfl) ?_
   refine .v rfl rfl (O.ld (y := .imm (.row 2 (List.map api_Reset.enc x0.Resets))) ty22 rfl rfl rfl) ?_
   refine .v rfl rfl (O.lenR sl22 rfl rfl) ?_
   refine .v rfl rfl (OpL.binI rfl rfl rfl rfl) ?_
   refine .m rfl rfl rfl rfl ?_
   refine .v rfl (met rfl rfl rfl g3) (O.ldN ty24 rfl rfl rfl) ?_
   refine .call (.i t1) [] 0 (lombardref23_Check.ok ((if_pos (by simp only [g3, Bool.true_or, Bool.or_true, Bool.false_or, Bool.or_false, Bool.true_and, Bool.and_true, Bool.false_and, Bool.and_false, Bool.not_true, Bool.not_false, cond_true, cond_false])).symm.trans b2)) rfl (met rfl rfl rfl g3) rfl ca40 rfl rfl (cC (.agg _ _ _ _ (cC (.imm _) (cC (.imm _) (cC (.imm _) (cC (.imm _) (cC (.imm _) (cC (.imm _) (cC (.imm _) (cC (.imm _) (cC (.imm _) (cC (.imm _) (cC (.imm _) .nil)))))))))))) .nil) rfl rfl rfl rfl rfl ?_
   refine .v rfl (met rfl rfl rfl g3) (OpL.binI rfl rfl rfl rfl) ?_
   refine .v rfl rfl (O.pickT g3 rfl rfl rfl) ?_
   refine .a rfl rfl rfl rfl ?_
   refine .nil ?_
   exact toN (Gives.mkR [] (.c rfl (sbb (by simp only [g3, Bool.true_or, Bool.or_true, Bool.false_or, Bool.or_false, Bool.true_and, Bool.and_true, Bool.false_and, Bool.and_false, Bool.not_true, Bool.not_false, cond_true, cond_false])) rfl .n) .n rfl rfl rfl)
  ·refine W.pk ?_
   refine .v rfl rfl (O.fld fld24_8 rfl rfl rfl) ?_
   refine .v rfl rfl (O.ld (y := .imm (.row 2 (List.map api_Reset.enc x0.Resets))) ty22 rfl rfl rfl) ?_
   refine .v rfl rfl (O.lenR sl22 rfl rfl) ?_
   refine .v rfl rfl (OpL.binI rfl rfl rfl rfl) ?_
   refine .m rfl rfl rfl rfl ?_
   refine .x rfl (unmet rfl rfl rfl g3) ?_
   refine .x rfl (unmet rfl rfl rfl g3) ?_
   refine .x rfl (unmet rfl rfl rfl g3) ?_
   refine .v rfl rfl (O.pickF g3 rfl rfl rfl) ?_
   refine .a rfl rfl rfl rfl ?_
   refine .nil ?_
   exact toN (Gives.mkR [] (.c rfl (sbb (by simp only [g3, Bool.true_or, Bool.or_true, Bool.false_or, Bool.or_false, Bool.true_and, Bool.and_true, Bool.false_and, Bool.and_false, Bool.not_true, Bool.not_false, cond_true, cond_false])) rfl .n) .n rfl rfl rfl)

noncomputable def calendar_Good.f (x0 : Int) : Option (Bool) :=
  some ((decide (x0 ≥ 0)) && (decide (x0 ≤ 200000)))
set_option maxRecDepth 100000 in
set_option maxHeartbeats 4000000 in
theorem calendar_Good.ok {x0 : Int} {r : Bool} (h : calendar_Good.f x0 = some r) : Pm.Spec prog 41 [.imm (.val (.int .i64 x0))] (.imm (.val (.bool r))) [none] := by
 unfold calendar_Good.f at h
 refine Pm.Spec.of_body Try.func41 rfl (by kernel_rfl) (Nat.le_of_ble_eq_true rfl) (Nat.le_of_ble_eq_true rfl) ?_
 refine W.ghost (σ' := (mkSt [(0, some (.i x0))] [] 1000)) (Gives.entry (.c rfl .n) .n) ?_
 refine W.seq ?_
 refine W.pk ?_
 refine .a rfl rfl rfl rfl ?_
 refine .nil ?_
 refine W.seq ?_
 refine W.fork (mkSt [(2, some (.b ((decide (x0 ≥ 0)) && (decide (x0 ≤ 200000)))))] [] 1000) ?_ ?_
 ·refine W.ret ?_
  cases h
  exact leaves (.inr rfl) rfl (.imm _) (cN .nil) rfl rfl
 ·clear h
  rcases tf (decide (x0 ≥ 0)) with g1 | g1
  ·refine W.pk ?_
   refine .m rfl rfl rfl rfl ?_
   refine .v rfl rfl (OpL.binI rfl rfl rfl rfl) ?_
   refine .m rfl rfl rfl rfl ?_
   refine .m rfl (met rfl rfl rfl g1) rfl rfl ?_
   refine .v rfl (met rfl rfl rfl g1) (OpL.binI rfl rfl rfl rfl) ?_
   refine .v rfl rfl (O.pickT g1 rfl rfl rfl) ?_
   refine .a rfl rfl rfl rfl ?_
   refine .nil ?_
   exact toN (Gives.mkR [] (.c rfl (sbb (by simp only [g1, Bool.true_or, Bool.or_true, Bool.false_or, Bool.or_false, Bool.true_and, Bool.and_true, Bool.false_and, Bool.and_false, Bool.not_true, Bool.not_false, cond_true, cond_false])) rfl .n) .n rfl rfl rfl)
  ·refine W.pk ?_
   refine .m rfl rfl rfl rfl ?_
   refine .v rfl rfl (OpL.binI rfl rfl rfl rfl) ?_
   refine .m rfl rfl rfl rfl ?_
   refine .x rfl (unmet rfl rfl rfl g1) ?_
   refine .x rfl (unmet rfl rfl rfl g1) ?_
   refine .v rfl rfl (O.pickF g1 rfl rfl rfl) ?_
   refine .a rfl rfl rfl rfl ?_
   refine .nil ?_
   exact toN (Gives.mkR [] (.c rfl (sbb (by simp only [g1, Bool.true_or, Bool.or_true, Bool.false_or, Bool.or_false, Bool.true_and, Bool.and_true, Bool.false_and, Bool.and_false, Bool.not_true, Bool.not_false, cond_true, cond_false])) rfl .n) .n rfl rfl rfl)

noncomputable def life_Open.f (x0 : api_Trade) : Option (Bool) :=
  some (x0.End == 0)
set_option maxRecDepth 100000 in
set_option maxHeartbeats 4000000 in
theorem life_Open.ok {x0 : api_Trade} {r : Bool} (h : life_Open.f x0 = some r) : Pm.Spec prog 34 [.agg [.imm (.val (.int .i64 x0.ID)), .imm (.val (.int .i64 x0.Twin)), .imm (.val (.int .i64 x0.Member)), .imm (.val (.int .i64 x0.Side)), .imm (.val (.int .i64 x0.Basket)), .imm (.val (.int .i64 x0.Amount)), .imm (.val (.int .i64 x0.Start)), .imm (.val (.int .i64 x0.End)), .imm (.row 2 (List.map api_Reset.enc x0.Resets)), .imm (.val (.int .i64 x0.Stage)), .imm (.val (.bool x0.Short))]] (.imm (.val (.bool r))) [none] := by
 unfold life_Open.f at h
 refine Pm.Spec.of_body Try.func34 rfl (by kernel_rfl) (Nat.le_of_ble_eq_true rfl) (Nat.le_of_ble_eq_true rfl) ?_
 refine W.ghost (σ' := (mkSt [(0, some (.agg (api_Trade.av x0)))] [] 1000)) (Gives.entry (.c rfl .n) .n) ?_
 refine W.seq ?_
 refine W.pk ?_
 refine .t rfl rfl (O.box rfl rfl rfl rfl rfl) ?_
 refine .a rfl rfl rfl rfl ?_
 refine .nil ?_
 refine W.seq ?_
 refine W.pk ?_
 refine .v rfl rfl (O.fld fld24_7 rfl rfl rfl) ?_
 refine .v rfl rfl (O.ld (y := .i x0.End) ty3 rfl rfl rfl) ?_
 refine .v rfl rfl (OpL.binI rfl rfl rfl rfl) ?_
 refine .a rfl rfl rfl rfl ?_
 refine .nil ?_
 refine W.ret ?_
 cases h
 exact leaves (.inr rfl) rfl (.imm _) (cN .nil) rfl rfl

noncomputable def life_until.f (x0 : api_Trade) (x1 : Int) : Option (Int) :=
  (life_Open.f x0).bind fun t1 =>
  if (!t1) = true then
    some (maxI (minI x1 x0.End) x0.Start)
  else
    some (maxI x1 x0.Start)
set_option maxRecDepth 100000 in
set_option maxHeartbeats 4000000 in
theorem life_until.ok {x0 : api_Trade} {x1 : Int} {r : Int} (h : life_until.f x0 x1 = some r) : Pm.Spec prog 43 [.agg [.imm (.val (.int .i64 x0.ID)), .imm (.val (.int .i64 x0.Twin)), .imm (.val (.int .i64 x0.Member)), .imm (.val (.int .i64 x0.Side)), .imm (.val (.int .i64 x0.Basket)), .imm (.val (.int .i64 x0.Amount)), .imm (.val (.int .i64 x0.Start)), .imm (.val (.int .i64 x0.End)), .imm (.row 2 (List.map api_Reset.enc x0.Resets)), .imm (.val (.int .i64 x0.Stage)), .imm (.val (.bool x0.Short))], .imm (.val (.int .i64 x1))] (.imm (.val (.int .i64 r))) [none, none] := by
 unfold life_until.f at h
 refine Pm.Spec.of_body Try.func43 rfl (by kernel_rfl) (Nat.le_of_ble_eq_true rfl) (Nat.le_of_ble_eq_true rfl) ?_
 refine W.ghost (σ' := (mkSt [(0, some (.agg (api_Trade.av x0))), (1, some (.i x1))] [] 1000)) (Gives.entry (.c rfl (.c rfl .n)) .n) ?_
 refine W.seq ?_
 refine W.pk ?_
 refine .t rfl rfl (O.box rfl rfl rfl rfl rfl) ?_
 refine .a rfl rfl rfl rfl ?_
 refine .nil ?_
 refine W.seq ?_
 refine W.seq ?_
 obtain ⟨t1, b2, h⟩ := bnd1 h
 refine W.pk ?_
 refine .v rfl rfl (O.ldN ty24 rfl rfl rfl) ?_
 refine .call (.b t1) [] 0 (life_Open.ok b2) rfl rfl rfl ca34 rfl rfl (cC (.agg _ _ _ _ (cC (.imm _) (cC (.imm _) (cC (.imm _) (cC (.imm _) (cC (.imm _) (cC (.imm _) (cC (.imm _) (cC (.imm _) (cC (.imm _) (cC (.imm _) (cC (.imm _) .nil)))))))))))) .nil) rfl rfl rfl rfl rfl ?_
 refine .v rfl rfl (OpL.unV rfl rfl rfl) ?_
 refine .nil ?_
 refine W.cond rfl (fun q3 => ?_) (fun q3 => ?_)
 ·have h := ifT q3 h
  refine W.pk ?_
  refine .m rfl rfl rfl rfl ?_
  refine .v rfl rfl (O.fld fld24_7 rfl rfl rfl) ?_
  refine .v rfl rfl (O.ld (y := .i x0.End) ty3 rfl rfl rfl) ?_
  refine .v rfl rfl (O.min2 rfl rfl rfl) ?_
  refine .a rfl rfl rfl rfl ?_
  refine .nil ?_
  refine W.seq ?_
  refine W.pk ?_
  refine .m rfl rfl rfl rfl ?_
  refine .v rfl rfl (O.fld fld24_6 rfl rfl rfl) ?_
  refine .v rfl rfl (O.ld (y := .i x0.Start) ty3 rfl rfl rfl) ?_
  refine .v rfl rfl (O.max2 rfl rfl rfl) ?_
  refine .a rfl rfl rfl rfl ?_
  refine .nil ?_
  refine W.ret ?_
  cases h
  exact leaves (.inr rfl) rfl (.imm _) (cN (cN .nil)) rfl rfl
 ·have h := ifF q3 h
  refine W.skip ?_
  refine W.seq ?_
  refine W.pk ?_
  refine .m rfl rfl rfl rfl ?_
  refine .v rfl rfl (O.fld fld24_6 rfl rfl rfl) ?_
  refine .v rfl rfl (O.ld (y := .i x0.Start) ty3 rfl rfl rfl) ?_
  refine .v rfl rfl (O.max2 rfl rfl rfl) ?_
  refine .a rfl rfl rfl rfl ?_
  refine .nil ?_
  refine W.ret ?_
  cases h
  exact leaves (.inr rfl) rfl (.imm _) (cN (cN .nil)) rfl rfl

noncomputable def accrue_Check.b0 (x0 : List api_Reset) (v13 : Int) : Option (Int ⊕ (Int ⊕ Unit)) :=
  if (decide (v13 < (List.length x0 : Int))) = true then
    if (0 : Int) ≤ v13 ∧ v13 < (List.length x0 : Int) then
    (calendar_Good.f ((nth x0 v13).Day)).bind fun t40 =>
    if ((!t40) = false ∧ (decide (v13 > 0)) = true → (0 : Int) ≤ (IntKind.wrap .i64 (v13 - 1)) ∧ (IntKind.wrap .i64 (v13 - 1)) < (List.length x0 : Int)) then
    if ((!t40) || ((decide (v13 > 0)) && (decide (((nth x0 v13).Day) ≤ ((nth x0 (IntKind.wrap .i64 (v13 - 1))).Day))))) = true then
      some (.inr (.inl 10))
    else
      if ((decide (((nth x0 v13).Rate) < (-1000000))) || (decide (((nth x0 v13).Rate) > 1000000))) = true then
        some (.inr (.inl 1))
      else
        some (.inl (IntKind.wrap .i64 (v13 + 1)))
    else none
    else none
  else
    some (.inr (.inr ()))
noncomputable def accrue_Check.r0 (x0 : List api_Reset) (s : Int) : Option (Int ⊕ (Int ⊕ Unit)) := accrue_Check.b0 x0 s
noncomputable def accrue_Check.f (x0 : List api_Reset) : Option (Int) :=
  if ((List.length x0 : Int) == 0) = true then
    some 6
  else
    if (decide ((List.length x0 : Int) > 64)) = true then
      some 2
    else
      (loop (accrue_Check.r0 x0) 0).bind fun o35 =>
      match o35 with
      | .inl r48 => some r48
      | .inr w34 =>
        some 0
set_option maxRecDepth 100000 in
set_option maxHeartbeats 4000000 in
theorem accrue_Check.ok {x0 : List api_Reset} {r : Int} (h : accrue_Check.f x0 = some r) : Pm.Spec prog 60 [.imm (.row 2 (List.map api_Reset.enc x0))] (.imm (.val (.int .i64 r))) [none] := by
 unfold accrue_Check.f at h
 refine Pm.Spec.of_body Try.func60 rfl (by kernel_rfl) (Nat.le_of_ble_eq_true rfl) (Nat.le_of_ble_eq_true rfl) ?_
 refine W.ghost (σ' := (mkSt [(0, some (.imm (.row 2 (List.map api_Reset.enc x0))))] [] 1000)) (Gives.entry (.c rfl .n) .n) ?_
 refine W.seq ?_
 refine W.pk ?_
 refine .a rfl rfl rfl rfl ?_
 refine .nil ?_
 refine W.seq ?_
 refine W.block ?_
 refine W.seq ?_
 refine W.pk ?_
 refine .m rfl rfl rfl rfl ?_
 refine .v rfl rfl (O.lenR sl22 rfl rfl) ?_
 refine .v rfl rfl (OpL.binI rfl rfl rfl rfl) ?_
 refine .a rfl rfl rfl rfl ?_
 refine .nil ?_
 refine W.cond rfl (fun q1 => ?_) (fun q1 => ?_)
 ·have h := ifT q1 h
  refine W.seq ?_
  refine W.pk ?_
  refine .a rfl rfl rfl rfl ?_
  refine .nil ?_
  refine W.ret ?_
  cases h
  exact leaves (.inr rfl) rfl (.imm _) (cN .nil) rfl rfl
 ·have h := ifF q1 h
  refine W.seq ?_
  refine W.pk ?_
  refine .m rfl rfl rfl rfl ?_
  refine .v rfl rfl (O.lenR sl22 rfl rfl) ?_
  refine .v rfl rfl (OpL.binI rfl rfl rfl rfl) ?_
  refine .a rfl rfl rfl rfl ?_
  refine .nil ?_
  refine W.cond rfl (fun q2 => ?_) (fun q2 => ?_)
  ·have h := ifT q2 h
   refine W.seq ?_
   refine W.pk ?_
   refine .a rfl rfl rfl rfl ?_
   refine .nil ?_
   refine W.ret ?_
   cases h
   exact leaves (.inr rfl) rfl (.imm _) (cN .nil) rfl rfl
  ·have h := ifF q2 h
   refine W.skip ?_
   refine W.seq ?_
   refine W.seq ?_
   refine W.pk ?_
   refine .m rfl rfl rfl rfl ?_
   refine .v rfl rfl (O.lenR sl22 rfl rfl) ?_
   refine .m rfl rfl rfl rfl ?_
   refine .nil ?_
   obtain ⟨o35, b36, z37⟩ := bnd1 h
   refine W.fork2 (out := o35) (fun (w34 : Unit) => mkSt [] [] 1000) ?_ ?_
   ·clear h
    refine W.block ?_
    refine W.loopF (fun (s_ : Int) => mkSt [(0, some (.imm (.row 2 (List.map api_Reset.enc x0)))), (13, some (.imm (.row 2 (List.map api_Reset.enc x0)))), (14, some (.i (List.length x0 : Int))), (15, some (.i s_))] [] 1000) b36 (Gives.mkR [] (.r rfl rfl (.r rfl rfl (.r rfl rfl (.r rfl rfl .n)))) .n rfl rfl rfl) ?_
    rintro v13 s_ hr
    have h : accrue_Check.b0 x0 v13 = some s_ := hr
    unfold accrue_Check.b0 at h
    refine W.seq ?_
    refine W.pk ?_
    refine .v rfl rfl (OpL.binI rfl rfl rfl rfl) ?_
    refine .nil ?_
    refine W.seq ?_
    refine W.cond rfl (fun q38 => ?_) (fun q38 => ?_)
    ·have h := ifT q38 h
     refine W.skip ?_
     refine W.seq ?_
     refine W.block ?_
     refine W.seq ?_
     obtain ⟨c39, h⟩ := chk h
     refine W.pk ?_
     refine .m rfl rfl rfl rfl ?_
     refine .v rfl rfl (O.idx sl22 c39 rfl rfl rfl) ?_
     refine .v rfl rfl (O.ldN ty46 rfl rfl rfl) ?_
     refine .t rfl rfl (O.alloc z46 rfl) ?_
     refine .a rfl rfl rfl rfl ?_
     refine .s rfl rfl (O.st ty46 rfl rfl rfl rfl rfl rfl rfl rfl rfl rfl (all' := [.i ((nth x0 v13).Day), .i ((nth x0 v13).Rate)]) rfl) ?_
     refine .nil ?_
     refine W.block ?_
     refine W.seq ?_
     obtain ⟨t40, b41, h⟩ := bnd1 h
     obtain ⟨c42, h⟩ := chk h
     refine W.fork (mkSt [(0, some (.imm (.row 2 (List.map api_Reset.enc x0)))), (4, some (.ptr 1000 0)), (13, some (.imm (.row 2 (List.map api_Reset.enc x0)))), (14, some (.i (List.length x0 : Int))), (15, some (.i v13)), (20, some (.b ((!t40) || ((decide (v13 > 0)) && (decide (((nth x0 v13).Day) ≤ ((nth x0 (IntKind.wrap .i64 (v13 - 1))).Day)))))))] [(1000, some (.box [.i ((nth x0 v13).Day), .i ((nth x0 v13).Rate)]))] 1001) ?_ ?_
     ·refine W.cond rfl (fun q45 => ?_) (fun q45 => ?_)
      ·have h := ifT q45 h
       refine W.seq ?_
       refine W.pk ?_
       refine .a rfl rfl rfl rfl ?_
       refine .nil ?_
       refine W.ret ?_
       cases h
       refine rdR fun e_ => ?_
       subst e_
       have h := z37
       dsimp only at h
       refine fkR ?_
       cases h
       exact leaves (.inr rfl) rfl (.imm _) (cN .nil) rfl rfl
      ·have h := ifF q45 h
       refine W.seq ?_
       refine W.fork (mkSt [(0, some (.imm (.row 2 (List.map api_Reset.enc x0)))), (13, some (.imm (.row 2 (List.map api_Reset.enc x0)))), (14, some (.i (List.length x0 : Int))), (15, some (.i v13)), (40, some (.b ((decide (((nth x0 v13).Rate) < (-1000000))) || (decide (((nth x0 v13).Rate) > 1000000)))))] [] 1001) ?_ ?_
       ·refine W.cond rfl (fun q47 => ?_) (fun q47 => ?_)
        ·have h := ifT q47 h
         refine W.seq ?_
         refine W.pk ?_
         refine .a rfl rfl rfl rfl ?_
         refine .nil ?_
         refine W.ret ?_
         cases h
         refine rdR fun e_ => ?_
         subst e_
         have h := z37
         dsimp only at h
         refine fkR ?_
         cases h
         exact leaves (.inr rfl) rfl (.imm _) (cN .nil) rfl rfl
        ·have h := ifF q47 h
         refine W.skip ?_
         refine W.pk ?_
         refine .v rfl rfl (OpL.binI rfl rfl rfl rfl) ?_
         refine .m rfl rfl rfl rfl ?_
         refine .nil ?_
         cases h
         exact rdN (Gives.mkR [] (.r rfl rfl (.r rfl rfl (.r rfl rfl (.r rfl rfl .n)))) .n rfl rfl rfl)
       ·clear h
        rcases tf (decide (((nth x0 v13).Rate) < (-1000000))) with g46 | g46
        ·refine W.pk ?_
         refine .v rfl rfl (O.fld fld46_1 rfl rfl rfl) ?_
         refine .v rfl rfl (O.ld (y := .i ((nth x0 v13).Rate)) ty3 rfl rfl rfl) ?_
         refine .v rfl rfl (OpL.binI rfl rfl rfl rfl) ?_
         refine .m rfl rfl rfl rfl ?_
         refine .x rfl (unmet rfl rfl rfl g46) ?_
         refine .x rfl (unmet rfl rfl rfl g46) ?_
         refine .x rfl (unmet rfl rfl rfl g46) ?_
         refine .v rfl rfl (O.pickT g46 rfl rfl rfl) ?_
         refine .a rfl rfl rfl rfl ?_
         refine .nil ?_
         exact toN (Gives.mkR [] (.r rfl rfl (.r rfl rfl (.r rfl rfl (.r rfl rfl (.c rfl (sbb (by simp only [g46, Bool.true_or, Bool.or_true, Bool.false_or, Bool.or_false, Bool.true_and, Bool.and_true, Bool.false_and, Bool.and_false, Bool.not_true, Bool.not_false, cond_true, cond_false])) rfl .n))))) .n rfl rfl rfl)
        ·refine W.pk ?_
         refine .v rfl rfl (O.fld fld46_1 rfl rfl rfl) ?_
         refine .v rfl rfl (O.ld (y := .i ((nth x0 v13).Rate)) ty3 rfl rfl rfl) ?_
         refine .v rfl rfl (OpL.binI rfl rfl rfl rfl) ?_
         refine .m rfl rfl rfl rfl ?_
         refine .v rfl (met rfl rfl rfl g46) (O.fld fld46_1 rfl rfl rfl) ?_
         refine .v rfl (met rfl rfl rfl g46) (O.ld (y := .i ((nth x0 v13).Rate)) ty3 rfl rfl rfl) ?_
         refine .v rfl (met rfl rfl rfl g46) (OpL.binI rfl rfl rfl rfl) ?_
         refine .v rfl rfl (O.pickF g46 rfl rfl rfl) ?_
         refine .a rfl rfl rfl rfl ?_
         refine .nil ?_
         exact toN (Gives.mkR [] (.r rfl rfl (.r rfl rfl (.r rfl rfl (.r rfl rfl (.c rfl (sbb (by simp only [g46, Bool.true_or, Bool.or_true, Bool.false_or, Bool.or_false, Bool.true_and, Bool.and_true, Bool.false_and, Bool.and_false, Bool.not_true, Bool.not_false, cond_true, cond_false])) rfl .n))))) .n rfl rfl rfl)
     ·clear h
      rcases tf t40 with g43 | g43
      ·rcases tf (decide (v13 > 0)) with g44 | g44
       ·refine W.dk (unm 20 [0, 1, 3, 7, 15, 31, 63, 127, 255, 511, 255, 255, 2303, 7423, 15615, 31999, 65535, 131071, 262143, 524287]) rfl (by kernel_rfl) ?_
        refine .v rfl rfl (O.fld fld46_0 rfl rfl rfl) ?_
        refine .v rfl rfl (O.ld (y := .i ((nth x0 v13).Day)) ty3 rfl rfl rfl) ?_
        refine .call (.b t40) [] 0 (calendar_Good.ok b41) rfl rfl rfl ca41 rfl rfl (cC (.imm _) .nil) rfl rfl rfl rfl rfl ?_
        refine .v rfl rfl (OpL.unV rfl rfl rfl) ?_
        refine .m rfl rfl rfl rfl ?_
        refine .m rfl (met rfl rfl rfl (notT g43)) rfl rfl ?_
        refine .v rfl (met rfl rfl rfl (notT g43)) (OpL.binI rfl rfl rfl rfl) ?_
        refine .m rfl (met rfl rfl rfl (notT g43)) rfl rfl ?_
        refine .v rfl (met rfl rfl rfl g44) (O.fld fld46_0 rfl rfl rfl) ?_
        refine .v rfl (met rfl rfl rfl g44) (O.ld (y := .i ((nth x0 v13).Day)) ty3 rfl rfl rfl) ?_
        refine .m rfl (met rfl rfl rfl g44) rfl rfl ?_
        refine .m rfl (met rfl rfl rfl g44) rfl rfl ?_
        refine .v rfl (met rfl rfl rfl g44) (OpL.binI rfl rfl rfl rfl) ?_
        refine .v rfl (met rfl rfl rfl g44) (O.idx sl22 (c42 ⟨(by first | (simp only [g43, g44, Bool.true_or, Bool.or_true, Bool.false_or, Bool.or_false, Bool.true_and, Bool.and_true, Bool.false_and, Bool.and_false, Bool.not_true, Bool.not_false, cond_true, cond_false]; done) | (repeat (first | rw [g43] | rw [g44])) <;> simp only [Bool.true_or, Bool.or_true, Bool.false_or, Bool.or_false, Bool.true_and, Bool.and_true, Bool.false_and, Bool.and_false, Bool.not_true, Bool.not_false, cond_true, cond_false]), (by first | (simp only [g43, g44, Bool.true_or, Bool.or_true, Bool.false_or, Bool.or_false, Bool.true_and, Bool.and_true, Bool.false_and, Bool.and_false, Bool.not_true, Bool.not_false, cond_true, cond_false]; done) | (repeat (first | rw [g43] | rw [g44])) <;> simp only [Bool.true_or, Bool.or_true, Bool.false_or, Bool.or_false, Bool.true_and, Bool.and_true, Bool.false_and, Bool.and_false, Bool.not_true, Bool.not_false, cond_true, cond_false])⟩) rfl rfl rfl) ?_
        refine .v rfl (met rfl rfl rfl g44) (O.fld fld46_0 rfl rfl rfl) ?_
        refine .v rfl (met rfl rfl rfl g44) (O.ld (y := .i ((nth x0 (IntKind.wrap .i64 (v13 - 1))).Day)) ty3 rfl rfl rfl) ?_
        refine .v rfl (met rfl rfl rfl g44) (OpL.binI rfl rfl rfl rfl) ?_
        refine .v rfl (met rfl rfl rfl (notT g43)) (O.pickT g44 rfl rfl rfl) ?_
        refine .v rfl rfl (O.pickF (notT g43) rfl rfl rfl) ?_
        refine .a rfl rfl rfl rfl ?_
        refine .nil ?_
        refine ⟨by kernel_rfl, by kernel_rfl, ?_⟩
        exact toN (Gives.mkR [] (.r rfl rfl (.r rfl rfl (.r rfl rfl (.r rfl rfl (.r rfl rfl (.c rfl (sbb (by first | (simp only [g43, g44, Bool.true_or, Bool.or_true, Bool.false_or, Bool.or_false, Bool.true_and, Bool.and_true, Bool.false_and, Bool.and_false, Bool.not_true, Bool.not_false, cond_true, cond_false]; done) | (repeat (first | rw [g43] | rw [g44])) <;> simp only [Bool.true_or, Bool.or_true, Bool.false_or, Bool.or_false, Bool.true_and, Bool.and_true, Bool.false_and, Bool.and_false, Bool.not_true, Bool.not_false, cond_true, cond_false])) rfl .n)))))) (.r rfl rfl rfl .n) rfl rfl rfl)
       ·refine W.dk (unm 20 [0, 1, 3, 7, 15, 31, 63, 127, 255, 511, 255, 255, 2303, 7423, 15615, 31999, 65535, 131071, 262143, 524287]) rfl (by kernel_rfl) ?_
        refine .v rfl rfl (O.fld fld46_0 rfl rfl rfl) ?_
        refine .v rfl rfl (O.ld (y := .i ((nth x0 v13).Day)) ty3 rfl rfl rfl) ?_
        refine .call (.b t40) [] 0 (calendar_Good.ok b41) rfl rfl rfl ca41 rfl rfl (cC (.imm _) .nil) rfl rfl rfl rfl rfl ?_
        refine .v rfl rfl (OpL.unV rfl rfl rfl) ?_
        refine .m rfl rfl rfl rfl ?_
        refine .m rfl (met rfl rfl rfl (notT g43)) rfl rfl ?_
        refine .v rfl (met rfl rfl rfl (notT g43)) (OpL.binI rfl rfl rfl rfl) ?_
        refine .m rfl (met rfl rfl rfl (notT g43)) rfl rfl ?_
        refine .x rfl (unmet rfl rfl rfl g44) ?_
        refine .x rfl (unmet rfl rfl rfl g44) ?_
        refine .x rfl (unmet rfl rfl rfl g44) ?_
        refine .x rfl (unmet rfl rfl rfl g44) ?_
        refine .x rfl (unmet rfl rfl rfl g44) ?_
        refine .x rfl (unmet rfl rfl rfl g44) ?_
        refine .x rfl (unmet rfl rfl rfl g44) ?_
        refine .x rfl (unmet rfl rfl rfl g44) ?_
        refine .x rfl (unmet rfl rfl rfl g44) ?_
        refine .v rfl (met rfl rfl rfl (notT g43)) (O.pickF g44 rfl rfl rfl) ?_
        refine .v rfl rfl (O.pickF (notT g43) rfl rfl rfl) ?_
        refine .a rfl rfl rfl rfl ?_
        refine .nil ?_
        refine ⟨by kernel_rfl, by kernel_rfl, ?_⟩
        exact toN (Gives.mkR [] (.r rfl rfl (.r rfl rfl (.r rfl rfl (.r rfl rfl (.r rfl rfl (.c rfl (sbb (by first | (simp only [g43, g44, Bool.true_or, Bool.or_true, Bool.false_or, Bool.or_false, Bool.true_and, Bool.and_true, Bool.false_and, Bool.and_false, Bool.not_true, Bool.not_false, cond_true, cond_false]; done) | (repeat (first | rw [g43] | rw [g44])) <;> simp only [Bool.true_or, Bool.or_true, Bool.false_or, Bool.or_false, Bool.true_and, Bool.and_true, Bool.false_and, Bool.and_false, Bool.not_true, Bool.not_false, cond_true, cond_false])) rfl .n)))))) (.r rfl rfl rfl .n) rfl rfl rfl)
      ·refine W.dk (unm 20 [0, 1, 3, 7, 15, 31, 63, 127, 255, 511, 255, 255, 2303, 7423, 15615, 31999, 65535, 131071, 262143, 524287]) rfl (by kernel_rfl) ?_
       refine .v rfl rfl (O.fld fld46_0 rfl rfl rfl) ?_
       refine .v rfl rfl (O.ld (y := .i ((nth x0 v13).Day)) ty3 rfl rfl rfl) ?_
       refine .call (.b t40) [] 0 (calendar_Good.ok b41) rfl rfl rfl ca41 rfl rfl (cC (.imm _) .nil) rfl rfl rfl rfl rfl ?_
       refine .v rfl rfl (OpL.unV rfl rfl rfl) ?_
       refine .m rfl rfl rfl rfl ?_
       refine .x rfl (unmet rfl rfl rfl (notF g43)) ?_
       refine .x rfl (unmet rfl rfl rfl (notF g43)) ?_
       refine .x rfl (unmet rfl rfl rfl (notF g43)) ?_
       refine .x rfl (unmetU rfl rfl rfl) ?_
       refine .x rfl (unmetU rfl rfl rfl) ?_
       refine .x rfl (unmetU rfl rfl rfl) ?_
       refine .x rfl (unmetU rfl rfl rfl) ?_
       refine .x rfl (unmetU rfl rfl rfl) ?_
       refine .x rfl (unmetU rfl rfl rfl) ?_
       refine .x rfl (unmetU rfl rfl rfl) ?_
       refine .x rfl (unmetU rfl rfl rfl) ?_
       refine .x rfl (unmetU rfl rfl rfl) ?_
       refine .x rfl (unmet rfl rfl rfl (notF g43)) ?_
       refine .v rfl rfl (O.pickT (notF g43) rfl rfl rfl) ?_
       refine .a rfl rfl rfl rfl ?_
       refine .nil ?_
       refine ⟨by kernel_rfl, by kernel_rfl, ?_⟩
       exact toN (Gives.mkR [] (.r rfl rfl (.r rfl rfl (.r rfl rfl (.r rfl rfl (.r rfl rfl (.c rfl (sbb (by simp only [g43, Bool.true_or, Bool.or_true, Bool.false_or, Bool.or_false, Bool.true_and, Bool.and_true, Bool.false_and, Bool.and_false, Bool.not_true, Bool.not_false, cond_true, cond_false])) rfl .n)))))) (.r rfl rfl rfl .n) rfl rfl rfl)
    ·have h := ifF q38 h
     refine W.exit ?_
     cases h
     refine rdX fun e_ => ?_
     subst e_
     repeat with_reducible refine thru ?_
     refine hit ?_
     exact fkN (Gives.mkR [] .n .n rfl rfl rfl)
   ·intro w34 e_
    subst e_
    clear h
    have h := z37
    dsimp only at h
    refine W.seq ?_
    refine W.pk ?_
    refine .a rfl rfl rfl rfl ?_
    refine .nil ?_
    refine W.ret ?_
    cases h
    exact leaves (.inr rfl) rfl (.imm _) (cN .nil) rfl rfl

noncomputable def cmp_isNaN_int.f (x0 : Int) : Option (Bool) :=
  some (x0 != x0)
set_option maxRecDepth 100000 in
set_option maxHeartbeats 4000000 in
theorem cmp_isNaN_int.ok {x0 : Int} {r : Bool} (h : cmp_isNaN_int.f x0 = some r) : Pm.Spec prog 69 [.imm (.val (.int .i64 x0))] (.imm (.val (.bool r))) [none] := by
 unfold cmp_isNaN_int.f at h
 refine Pm.Spec.of_body Try.func69 rfl (by kernel_rfl) (Nat.le_of_ble_eq_true rfl) (Nat.le_of_ble_eq_true rfl) ?_
 refine W.ghost (σ' := (mkSt [(0, some (.i x0))] [] 1000)) (Gives.entry (.c rfl .n) .n) ?_
 refine W.seq ?_
 refine W.pk ?_
 refine .a rfl rfl rfl rfl ?_
 refine .nil ?_
 refine W.seq ?_
 refine W.pk ?_
 refine .m rfl rfl rfl rfl ?_
 refine .m rfl rfl rfl rfl ?_
 refine .v rfl rfl (OpL.binI rfl rfl rfl rfl) ?_
 refine .a rfl rfl rfl rfl ?_
 refine .nil ?_
 refine W.ret ?_
 cases h
 exact leaves (.inr rfl) rfl (.imm _) (cN .nil) rfl rfl
end Go.Proofs.Ytknfdnlhadjbaaa
