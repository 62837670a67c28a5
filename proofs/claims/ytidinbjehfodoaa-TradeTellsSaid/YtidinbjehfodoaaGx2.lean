/- Shows what functions of the program come to, each as a plain function: written by a program of the author's for this claim. -/
import Derived.Test.YtidinbjehfodoaaGx1
namespace Go.Proofs.Ytidinbjehfodoaa
open Go Go.Pm
set_option linter.unusedVariables false
set_option linter.unusedSimpArgs false
noncomputable def lombardref03_Check.b0 (x0 : List api_Reset) (v16 : Int) : Option (Int ⊕ (Int ⊕ Unit)) :=
  if (decide (v16 < (List.length x0 : Int))) = true then
    if (0 : Int) ≤ v16 ∧ v16 < (List.length x0 : Int) then
    (lombardref02_Good.f ((nth x0 v16).Day)).bind fun t49 =>
    if ((!t49) = false ∧ (decide (v16 > 0)) = true → (0 : Int) ≤ v16 ∧ v16 < (List.length x0 : Int)) then
    if ((!t49) = false ∧ (decide (v16 > 0)) = true → (0 : Int) ≤ (IntKind.wrap .i64 (v16 - 1)) ∧ (IntKind.wrap .i64 (v16 - 1)) < (List.length x0 : Int)) then
    if ((!t49) || ((decide (v16 > 0)) && (decide (((nth x0 v16).Day) ≤ ((nth x0 (IntKind.wrap .i64 (v16 - 1))).Day))))) = true then
      some (.inr (.inl 10))
    else
      if (0 : Int) ≤ v16 ∧ v16 < (List.length x0 : Int) then
      (lombardref03_rated.f ((nth x0 v16).Rate)).bind fun t57 =>
      if (!t57) = true then
        some (.inr (.inl 1))
      else
        some (.inl (IntKind.wrap .i64 (v16 + 1)))
      else none
    else none
    else none
    else none
  else
    some (.inr (.inr ()))
noncomputable def lombardref03_Check.r0 (x0 : List api_Reset) (s : Int) : Option (Int ⊕ (Int ⊕ Unit)) := lombardref03_Check.b0 x0 s
noncomputable def lombardref03_Check.f (x0 : List api_Reset) : Option (Int) :=
  if ((List.length x0 : Int) == 0) = true then
    some 6
  else
    if (decide ((List.length x0 : Int) > 64)) = true then
      some 2
    else
      (loop (lombardref03_Check.r0 x0) 0).bind fun o44 =>
      match o44 with
      | .inl r60 => some r60
      | .inr w43 =>
        some 0
set_option maxRecDepth 100000 in
set_option maxHeartbeats 4000000 in
theorem lombardref03_Check.ok {x0 : List api_Reset} {r : Int} (h : lombardref03_Check.f x0 = some r) : Pm.Spec prog 39 [.imm (.row 2 (List.map api_Reset.enc x0))] (.imm (.val (.int .i64 r))) [none] := by
 unfold lombardref03_Check.f at h
 refine Pm.Spec.of_body Try.func39 rfl (by kernel_rfl) (Nat.le_of_ble_eq_true rfl) (Nat.le_of_ble_eq_true rfl) ?_
 refine W.ghost (σ' := (mkSt [(0, some (.imm (.row 2 (List.map api_Reset.enc x0))))] [] 1000)) (Gives.entry (.c rfl .n) .n) ?_
 refine W.seq ?_
 refine W.pk ?_
 refine .a rfl rfl rfl rfl ?_
 refine .nil ?_
 refine W.seq ?_
 refine W.seq ?_
 refine W.pk ?_
 refine .m rfl rfl rfl rfl ?_
 refine .v rfl rfl (O.lenR sl24 rfl rfl) ?_
 refine .v rfl rfl (OpL.binI rfl rfl rfl rfl) ?_
 refine .nil ?_
 refine W.cond rfl (fun q1 => ?_) (fun q1 => ?_)
 ·have h := ifT q1 h
  refine W.seq ?_
  refine W.pk ?_
  refine .a rfl rfl rfl rfl ?_
  refine .nil ?_
  refine W.ret ?_
  cases h
  exact leaves (.inr rfl) rfl (.imm _) (cN .nil) rfl rfl
 ·have h := ifF q1 h
  refine W.skip ?_
  refine W.seq ?_
  refine W.seq ?_
  refine W.pk ?_
  refine .m rfl rfl rfl rfl ?_
  refine .v rfl rfl (O.lenR sl24 rfl rfl) ?_
  refine .v rfl rfl (OpL.binI rfl rfl rfl rfl) ?_
  refine .nil ?_
  refine W.cond rfl (fun q2 => ?_) (fun q2 => ?_)
  ·have h := ifT q2 h
   refine W.seq ?_
   refine W.pk ?_
   refine .a rfl rfl rfl rfl ?_
   refine .nil ?_
   refine W.ret ?_
   cases h
   exact leaves (.inr rfl) rfl (.imm _) (cN .nil) rfl rfl
  ·have h := ifF q2 h
   refine W.skip ?_
   refine W.seq ?_
   refine W.seq ?_
   refine W.pk ?_
   refine .a rfl rfl rfl rfl ?_
   refine .nil ?_
   obtain ⟨o44, b45, z46⟩ := bnd1 h
   refine W.fork2 (out := o44) (fun (w43 : Unit) => mkSt [] [] 1000) ?_ ?_
   ·clear h
    refine W.block ?_
    refine W.loopF (fun (s_ : Int) => mkSt [(0, some (.imm (.row 2 (List.map api_Reset.enc x0)))), (3, some (.i s_))] [] 1000) b45 (Gives.mkR [] (.r rfl rfl (.r rfl rfl .n)) .n rfl rfl rfl) ?_
    rintro v16 s_ hr
    have h : lombardref03_Check.b0 x0 v16 = some s_ := hr
    unfold lombardref03_Check.b0 at h
    refine W.seq ?_
    refine W.seq ?_
    refine W.pk ?_
    refine .m rfl rfl rfl rfl ?_
    refine .m rfl rfl rfl rfl ?_
    refine .v rfl rfl (O.lenR sl24 rfl rfl) ?_
    refine .v rfl rfl (OpL.binI rfl rfl rfl rfl) ?_
    refine .nil ?_
    refine W.cond rfl (fun q47 => ?_) (fun q47 => ?_)
    ·have h := ifT q47 h
     refine W.skip ?_
     refine W.seq ?_
     refine W.block ?_
     refine W.seq ?_
     refine W.seq ?_
     obtain ⟨c48, h⟩ := chk h
     obtain ⟨t49, b50, h⟩ := bnd1 h
     obtain ⟨c51, h⟩ := chk h
     obtain ⟨c52, h⟩ := chk h
     refine W.fork (mkSt [(0, some (.imm (.row 2 (List.map api_Reset.enc x0)))), (3, some (.i v16)), (40, some (.b ((!t49) || ((decide (v16 > 0)) && (decide (((nth x0 v16).Day) ≤ ((nth x0 (IntKind.wrap .i64 (v16 - 1))).Day)))))))] [] 1000) ?_ ?_
     ·refine W.cond rfl (fun q55 => ?_) (fun q55 => ?_)
      ·have h := ifT q55 h
       refine W.seq ?_
       refine W.pk ?_
       refine .a rfl rfl rfl rfl ?_
       refine .nil ?_
       refine W.ret ?_
       cases h
       refine rdR fun e_ => ?_
       subst e_
       have h := z46
       dsimp only at h
       refine fkR ?_
       cases h
       exact leaves (.inr rfl) rfl (.imm _) (cN .nil) rfl rfl
      ·have h := ifF q55 h
       refine W.skip ?_
       refine W.seq ?_
       obtain ⟨c56, h⟩ := chk h
       obtain ⟨t57, b58, h⟩ := bnd1 h
       refine W.pk ?_
       refine .m rfl rfl rfl rfl ?_
       refine .m rfl rfl rfl rfl ?_
       refine .v rfl rfl (O.idx sl24 c56 rfl rfl rfl) ?_
       refine .v rfl rfl (O.fld fld60_1 rfl rfl rfl) ?_
       refine .v rfl rfl (O.ld (y := .i ((nth x0 v16).Rate)) ty3 rfl rfl rfl) ?_
       refine .call (.b t57) [] 0 (lombardref03_rated.ok b58) rfl rfl rfl ca51 rfl rfl (cC (.imm _) .nil) rfl rfl rfl rfl rfl ?_
       refine .v rfl rfl (OpL.unV rfl rfl rfl) ?_
       refine .nil ?_
       refine W.cond rfl (fun q59 => ?_) (fun q59 => ?_)
       ·have h := ifT q59 h
        refine W.seq ?_
        refine W.pk ?_
        refine .a rfl rfl rfl rfl ?_
        refine .nil ?_
        refine W.ret ?_
        cases h
        refine rdR fun e_ => ?_
        subst e_
        have h := z46
        dsimp only at h
        refine fkR ?_
        cases h
        exact leaves (.inr rfl) rfl (.imm _) (cN .nil) rfl rfl
       ·have h := ifF q59 h
        refine W.skip ?_
        refine W.pk ?_
        refine .m rfl rfl rfl rfl ?_
        refine .v rfl rfl (OpL.binI rfl rfl rfl rfl) ?_
        refine .a rfl rfl rfl rfl ?_
        refine .nil ?_
        cases h
        exact rdN (Gives.mkR [] (.r rfl rfl (.r rfl rfl .n)) .n rfl rfl rfl)
     ·clear h
      rcases tf t49 with g53 | g53
      ·rcases tf (decide (v16 > 0)) with g54 | g54
       ·refine W.dk (unm 25 [0, 0, 3, 7, 15, 31, 63, 127, 255, 511, 1023, 2047, 2047, 8191, 16383, 32767, 2047, 2047, 133119, 460799, 985087, 2033663, 4194303, 8388607, 16777215]) rfl (by kernel_rfl) ?_
        refine .m rfl rfl rfl rfl ?_
        refine .m rfl rfl rfl rfl ?_
        refine .v rfl rfl (O.idx sl24 c48 rfl rfl rfl) ?_
        refine .v rfl rfl (O.fld fld60_0 rfl rfl rfl) ?_
        refine .v rfl rfl (O.ld (y := .i ((nth x0 v16).Day)) ty3 rfl rfl rfl) ?_
        refine .call (.b t49) [] 0 (lombardref02_Good.ok b50) rfl rfl rfl ca50 rfl rfl (cC (.imm _) .nil) rfl rfl rfl rfl rfl ?_
        refine .v rfl rfl (OpL.unV rfl rfl rfl) ?_
        refine .m rfl rfl rfl rfl ?_
        refine .m rfl (met rfl rfl rfl (notT g53)) rfl rfl ?_
        refine .v rfl (met rfl rfl rfl (notT g53)) (OpL.binI rfl rfl rfl rfl) ?_
        refine .m rfl (met rfl rfl rfl (notT g53)) rfl rfl ?_
        refine .m rfl (met rfl rfl rfl g54) rfl rfl ?_
        refine .m rfl (met rfl rfl rfl g54) rfl rfl ?_
        refine .v rfl (met rfl rfl rfl g54) (O.idx sl24 (c51 ⟨(by first | (simp only [g53, g54, Bool.true_or, Bool.or_true, Bool.false_or, Bool.or_false, Bool.true_and, Bool.and_true, Bool.false_and, Bool.and_false, Bool.not_true, Bool.not_false, cond_true, cond_false]; done) | (repeat (first | rw [g53] | rw [g54])) <;> simp only [Bool.true_or, Bool.or_true, Bool.false_or, Bool.or_false, Bool.true_and, Bool.and_true, Bool.false_and, Bool.and_false, Bool.not_true, Bool.not_false, cond_true, cond_false]), (by first | (simp only [g53, g54, Bool.true_or, Bool.or_true, Bool.false_or, Bool.or_false, Bool.true_and, Bool.and_true, Bool.false_and, Bool.and_false, Bool.not_true, Bool.not_false, cond_true, cond_false]; done) | (repeat (first | rw [g53] | rw [g54])) <;> simp only [Bool.true_or, Bool.or_true, Bool.false_or, Bool.or_false, Bool.true_and, Bool.and_true, Bool.false_and, Bool.and_false, Bool.not_true, Bool.not_false, cond_true, cond_false])⟩) rfl rfl rfl) ?_
        refine .v rfl (met rfl rfl rfl g54) (O.fld fld60_0 rfl rfl rfl) ?_
        refine .v rfl (met rfl rfl rfl g54) (O.ld (y := .i ((nth x0 v16).Day)) ty3 rfl rfl rfl) ?_
        refine .m rfl (met rfl rfl rfl g54) rfl rfl ?_
        refine .m rfl (met rfl rfl rfl g54) rfl rfl ?_
        refine .v rfl (met rfl rfl rfl g54) (OpL.binI rfl rfl rfl rfl) ?_
        refine .v rfl (met rfl rfl rfl g54) (O.idx sl24 (c52 ⟨(by first | (simp only [g53, g54, Bool.true_or, Bool.or_true, Bool.false_or, Bool.or_false, Bool.true_and, Bool.and_true, Bool.false_and, Bool.and_false, Bool.not_true, Bool.not_false, cond_true, cond_false]; done) | (repeat (first | rw [g53] | rw [g54])) <;> simp only [Bool.true_or, Bool.or_true, Bool.false_or, Bool.or_false, Bool.true_and, Bool.and_true, Bool.false_and, Bool.and_false, Bool.not_true, Bool.not_false, cond_true, cond_false]), (by first | (simp only [g53, g54, Bool.true_or, Bool.or_true, Bool.false_or, Bool.or_false, Bool.true_and, Bool.and_true, Bool.false_and, Bool.and_false, Bool.not_true, Bool.not_false, cond_true, cond_false]; done) | (repeat (first | rw [g53] | rw [g54])) <;> simp only [Bool.true_or, Bool.or_true, Bool.false_or, Bool.or_false, Bool.true_and, Bool.and_true, Bool.false_and, Bool.and_false, Bool.not_true, Bool.not_false, cond_true, cond_false])⟩) rfl rfl rfl) ?_
        refine .v rfl (met rfl rfl rfl g54) (O.fld fld60_0 rfl rfl rfl) ?_
        refine .v rfl (met rfl rfl rfl g54) (O.ld (y := .i ((nth x0 (IntKind.wrap .i64 (v16 - 1))).Day)) ty3 rfl rfl rfl) ?_
        refine .v rfl (met rfl rfl rfl g54) (OpL.binI rfl rfl rfl rfl) ?_
        refine .v rfl (met rfl rfl rfl (notT g53)) (O.pickT g54 rfl rfl rfl) ?_
        refine .v rfl rfl (O.pickF (notT g53) rfl rfl rfl) ?_
        refine .nil ?_
        refine ⟨by kernel_rfl, by kernel_rfl, ?_⟩
        exact toN (Gives.mkR [] (.r rfl rfl (.r rfl rfl (.c rfl (sbb (by first | (simp only [g53, g54, Bool.true_or, Bool.or_true, Bool.false_or, Bool.or_false, Bool.true_and, Bool.and_true, Bool.false_and, Bool.and_false, Bool.not_true, Bool.not_false, cond_true, cond_false]; done) | (repeat (first | rw [g53] | rw [g54])) <;> simp only [Bool.true_or, Bool.or_true, Bool.false_or, Bool.or_false, Bool.true_and, Bool.and_true, Bool.false_and, Bool.and_false, Bool.not_true, Bool.not_false, cond_true, cond_false])) rfl .n))) .n rfl rfl rfl)
       ·refine W.dk (unm 25 [0, 0, 3, 7, 15, 31, 63, 127, 255, 511, 1023, 2047, 2047, 8191, 16383, 32767, 2047, 2047, 133119, 460799, 985087, 2033663, 4194303, 8388607, 16777215]) rfl (by kernel_rfl) ?_
        refine .m rfl rfl rfl rfl ?_
        refine .m rfl rfl rfl rfl ?_
        refine .v rfl rfl (O.idx sl24 c48 rfl rfl rfl) ?_
        refine .v rfl rfl (O.fld fld60_0 rfl rfl rfl) ?_
        refine .v rfl rfl (O.ld (y := .i ((nth x0 v16).Day)) ty3 rfl rfl rfl) ?_
        refine .call (.b t49) [] 0 (lombardref02_Good.ok b50) rfl rfl rfl ca50 rfl rfl (cC (.imm _) .nil) rfl rfl rfl rfl rfl ?_
        refine .v rfl rfl (OpL.unV rfl rfl rfl) ?_
        refine .m rfl rfl rfl rfl ?_
        refine .m rfl (met rfl rfl rfl (notT g53)) rfl rfl ?_
        refine .v rfl (met rfl rfl rfl (notT g53)) (OpL.binI rfl rfl rfl rfl) ?_
        refine .m rfl (met rfl rfl rfl (notT g53)) rfl rfl ?_
        refine .x rfl (unmet rfl rfl rfl g54) ?_
        refine .x rfl (unmet rfl rfl rfl g54) ?_
        refine .x rfl (unmet rfl rfl rfl g54) ?_
        refine .x rfl (unmet rfl rfl rfl g54) ?_
        refine .x rfl (unmet rfl rfl rfl g54) ?_
        refine .x rfl (unmet rfl rfl rfl g54) ?_
        refine .x rfl (unmet rfl rfl rfl g54) ?_
        refine .x rfl (unmet rfl rfl rfl g54) ?_
        refine .x rfl (unmet rfl rfl rfl g54) ?_
        refine .x rfl (unmet rfl rfl rfl g54) ?_
        refine .x rfl (unmet rfl rfl rfl g54) ?_
        refine .x rfl (unmet rfl rfl rfl g54) ?_
        refine .v rfl (met rfl rfl rfl (notT g53)) (O.pickF g54 rfl rfl rfl) ?_
        refine .v rfl rfl (O.pickF (notT g53) rfl rfl rfl) ?_
        refine .nil ?_
        refine ⟨by kernel_rfl, by kernel_rfl, ?_⟩
        exact toN (Gives.mkR [] (.r rfl rfl (.r rfl rfl (.c rfl (sbb (by first | (simp only [g53, g54, Bool.true_or, Bool.or_true, Bool.false_or, Bool.or_false, Bool.true_and, Bool.and_true, Bool.false_and, Bool.and_false, Bool.not_true, Bool.not_false, cond_true, cond_false]; done) | (repeat (first | rw [g53] | rw [g54])) <;> simp only [Bool.true_or, Bool.or_true, Bool.false_or, Bool.or_false, Bool.true_and, Bool.and_true, Bool.false_and, Bool.and_false, Bool.not_true, Bool.not_false, cond_true, cond_false])) rfl .n))) .n rfl rfl rfl)
      ·refine W.dk (unm 25 [0, 0, 3, 7, 15, 31, 63, 127, 255, 511, 1023, 2047, 2047, 8191, 16383, 32767, 2047, 2047, 133119, 460799, 985087, 2033663, 4194303, 8388607, 16777215]) rfl (by kernel_rfl) ?_
       refine .m rfl rfl rfl rfl ?_
       refine .m rfl rfl rfl rfl ?_
       refine .v rfl rfl (O.idx sl24 c48 rfl rfl rfl) ?_
       refine .v rfl rfl (O.fld fld60_0 rfl rfl rfl) ?_
       refine .v rfl rfl (O.ld (y := .i ((nth x0 v16).Day)) ty3 rfl rfl rfl) ?_
       refine .call (.b t49) [] 0 (lombardref02_Good.ok b50) rfl rfl rfl ca50 rfl rfl (cC (.imm _) .nil) rfl rfl rfl rfl rfl ?_
       refine .v rfl rfl (OpL.unV rfl rfl rfl) ?_
       refine .m rfl rfl rfl rfl ?_
       refine .x rfl (unmet rfl rfl rfl (notF g53)) ?_
       refine .x rfl (unmet rfl rfl rfl (notF g53)) ?_
       refine .x rfl (unmet rfl rfl rfl (notF g53)) ?_
       refine .x rfl (unmetU rfl rfl rfl) ?_
       refine .x rfl (unmetU rfl rfl rfl) ?_
       refine .x rfl (unmetU rfl rfl rfl) ?_
       refine .x rfl (unmetU rfl rfl rfl) ?_
       refine .x rfl (unmetU rfl rfl rfl) ?_
       refine .x rfl (unmetU rfl rfl rfl) ?_
       refine .x rfl (unmetU rfl rfl rfl) ?_
       refine .x rfl (unmetU rfl rfl rfl) ?_
       refine .x rfl (unmetU rfl rfl rfl) ?_
       refine .x rfl (unmetU rfl rfl rfl) ?_
       refine .x rfl (unmetU rfl rfl rfl) ?_
       refine .x rfl (unmetU rfl rfl rfl) ?_
       refine .x rfl (unmet rfl rfl rfl (notF g53)) ?_
       refine .v rfl rfl (O.pickT (notF g53) rfl rfl rfl) ?_
       refine .nil ?_
       refine ⟨by kernel_rfl, by kernel_rfl, ?_⟩
       exact toN (Gives.mkR [] (.r rfl rfl (.r rfl rfl (.c rfl (sbb (by simp only [g53, Bool.true_or, Bool.or_true, Bool.false_or, Bool.or_false, Bool.true_and, Bool.and_true, Bool.false_and, Bool.and_false, Bool.not_true, Bool.not_false, cond_true, cond_false])) rfl .n))) .n rfl rfl rfl)
    ·have h := ifF q47 h
     refine W.exit ?_
     cases h
     refine rdX fun e_ => ?_
     subst e_
     repeat with_reducible refine thru ?_
     refine hit ?_
     exact fkN (Gives.mkR [] .n .n rfl rfl rfl)
   ·intro w43 e_
    subst e_
    clear h
    have h := z46
    dsimp only at h
    refine W.seq ?_
    refine W.pk ?_
    refine .a rfl rfl rfl rfl ?_
    refine .nil ?_
    refine W.ret ?_
    cases h
    exact leaves (.inr rfl) rfl (.imm _) (cN .nil) rfl rfl

noncomputable def lombardref23_Check.f (x0 : api_Trade) : Option (Int) :=
  (lombardref23_in.f x0.ID 1 1125899906842624).bind fun t1 =>
  (if (!t1) = false then lombardref23_in.f x0.Twin 1 1125899906842624 else some default).bind fun t3 =>
  (if ((!t1) || (!t3)) = false then lombardref23_in.f x0.Side 1 2 else some default).bind fun t5 =>
  (if (((!t1) || (!t3)) || (!t5)) = false then lombardref23_in.f x0.Stage 1 5 else some default).bind fun t7 =>
  if ((((!t1) || (!t3)) || (!t5)) || (!t7)) = true then
    some 1
  else
    if (((x0.Side == 1) && ((IntKind.wrap .i64 (x0.Twin - x0.ID)) != 1)) || ((x0.Side == 2) && ((IntKind.wrap .i64 (x0.ID - x0.Twin)) != 1))) = true then
      some 32
    else
      (lombardref03_Check.f x0.Resets).bind fun t18 =>
      if (t18 != 0) = true then
        some t18
      else
        if (0 : Int) ≤ 0 ∧ 0 < (List.length x0.Resets : Int) then
        if (((nth x0.Resets 0).Day) != x0.Start) = true then
          some 10
        else
          (lombardref23_in.f x0.Member 1 32).bind fun t23 =>
          if (!t23) = true then
            some 22
          else
            if (0 : Int) ≤ 0 ∧ 0 < (List.length x0.Resets : Int) then
            (lombardref23_Terms.f (⟨0, 0, x0.Basket, x0.Amount, (nth x0.Resets 0).Rate, x0.Start, x0.End⟩ : api_Fill)).bind fun t27 =>
            some t27
            else none
        else none
set_option maxRecDepth 100000 in
set_option maxHeartbeats 4000000 in
theorem lombardref23_Check.ok {x0 : api_Trade} {r : Int} (h : lombardref23_Check.f x0 = some r) : Pm.Spec prog 12 [.agg [.imm (.val (.int .i64 x0.ID)), .imm (.val (.int .i64 x0.Twin)), .imm (.val (.int .i64 x0.Member)), .imm (.val (.int .i64 x0.Side)), .imm (.val (.int .i64 x0.Basket)), .imm (.val (.int .i64 x0.Amount)), .imm (.val (.int .i64 x0.Start)), .imm (.val (.int .i64 x0.End)), .imm (.row 2 (List.map api_Reset.enc x0.Resets)), .imm (.val (.int .i64 x0.Stage)), .imm (.val (.bool x0.Short))]] (.imm (.val (.int .i64 r))) [none] := by
 unfold lombardref23_Check.f at h
 refine Pm.Spec.of_body Try.func12 rfl (by kernel_rfl) (Nat.le_of_ble_eq_true rfl) (Nat.le_of_ble_eq_true rfl) ?_
 refine W.ghost (σ' := (mkSt [(0, some (.agg (api_Trade.av x0)))] [] 1000)) (Gives.entry (.c rfl .n) .n) ?_
 refine W.seq ?_
 refine W.pk ?_
 refine .t rfl rfl (O.box rfl rfl rfl rfl rfl) ?_
 refine .a rfl rfl rfl rfl ?_
 refine .nil ?_
 refine W.seq ?_
 refine W.seq ?_
 obtain ⟨t1, b2, h⟩ := bnd1 h
 obtain ⟨t3, b4, h⟩ := bnd1 h
 obtain ⟨t5, b6, h⟩ := bnd1 h
 obtain ⟨t7, b8, h⟩ := bnd1 h
 refine W.fork (mkSt [(1, some (.ptr 1000 0)), (25, some (.b ((((!t1) || (!t3)) || (!t5)) || (!t7))))] [(1000, some (.box [.i x0.ID, .i x0.Twin, .i x0.Member, .i x0.Side, .i x0.Basket, .i x0.Amount, .i x0.Start, .i x0.End, .imm (.row 2 (List.map api_Reset.enc x0.Resets)), .i x0.Stage, .b x0.Short]))] 1001) ?_ ?_
 ·refine W.cond rfl (fun q12 => ?_) (fun q12 => ?_)
  ·have h := ifT q12 h
   refine W.seq ?_
   refine W.pk ?_
   refine .a rfl rfl rfl rfl ?_
   refine .nil ?_
   refine W.ret ?_
   cases h
   exact leaves (.inr rfl) rfl (.imm _) (cN .nil) rfl rfl
  ·have h := ifF q12 h
   refine W.skip ?_
   refine W.seq ?_
   refine W.seq ?_
   refine W.fork (mkSt [(1, some (.ptr 1000 0)), (49, some (.b (((x0.Side == 1) && ((IntKind.wrap .i64 (x0.Twin - x0.ID)) != 1)) || ((x0.Side == 2) && ((IntKind.wrap .i64 (x0.ID - x0.Twin)) != 1)))))] [(1000, some (.box [.i x0.ID, .i x0.Twin, .i x0.Member, .i x0.Side, .i x0.Basket, .i x0.Amount, .i x0.Start, .i x0.End, .imm (.row 2 (List.map api_Reset.enc x0.Resets)), .i x0.Stage, .b x0.Short]))] 1001) ?_ ?_
   ·refine W.cond rfl (fun q17 => ?_) (fun q17 => ?_)
    ·have h := ifT q17 h
     refine W.seq ?_
     refine W.pk ?_
     refine .a rfl rfl rfl rfl ?_
     refine .nil ?_
     refine W.ret ?_
     cases h
     exact leaves (.inr rfl) rfl (.imm _) (cN .nil) rfl rfl
    ·have h := ifF q17 h
     refine W.skip ?_
     refine W.seq ?_
     refine W.seq ?_
     obtain ⟨t18, b19, h⟩ := bnd1 h
     refine W.pk ?_
     refine .v rfl rfl (O.fld fld26_8 rfl rfl rfl) ?_
     refine .v rfl rfl (O.ld (y := .imm (.row 2 (List.map api_Reset.enc x0.Resets))) ty24 rfl rfl rfl) ?_
     refine .call (.i t18) [] 0 (lombardref03_Check.ok b19) rfl rfl rfl ca39 rfl rfl (cC (.imm _) .nil) rfl rfl rfl rfl rfl ?_
     refine .a rfl rfl rfl rfl ?_
     refine .nil ?_
     refine W.seq ?_
     refine W.pk ?_
     refine .m rfl rfl rfl rfl ?_
     refine .v rfl rfl (OpL.binI rfl rfl rfl rfl) ?_
     refine .nil ?_
     refine W.cond rfl (fun q20 => ?_) (fun q20 => ?_)
     ·have h := ifT q20 h
      refine W.seq ?_
      refine W.pk ?_
      refine .m rfl rfl rfl rfl ?_
      refine .a rfl rfl rfl rfl ?_
      refine .nil ?_
      refine W.ret ?_
      cases h
      exact leaves (.inr rfl) rfl (.imm _) (cN .nil) rfl rfl
     ·have h := ifF q20 h
      refine W.skip ?_
      refine W.seq ?_
      refine W.seq ?_
      obtain ⟨c21, h⟩ := chk h
      refine W.dk (unm 8 [0, 1, 3, 7, 15, 0, 32, 127]) rfl (by kernel_rfl) ?_
      refine .v rfl rfl (O.fld fld26_8 rfl rfl rfl) ?_
      refine .v rfl rfl (O.ld (y := .imm (.row 2 (List.map api_Reset.enc x0.Resets))) ty24 rfl rfl rfl) ?_
      refine .v rfl rfl (O.idx sl24 c21 rfl rfl rfl) ?_
      refine .v rfl rfl (O.fld fld60_0 rfl rfl rfl) ?_
      refine .v rfl rfl (O.ld (y := .i ((nth x0.Resets 0).Day)) ty3 rfl rfl rfl) ?_
      refine .v rfl rfl (O.fld fld26_6 rfl rfl rfl) ?_
      refine .v rfl rfl (O.ld (y := .i x0.Start) ty3 rfl rfl rfl) ?_
      refine .v rfl rfl (OpL.binI rfl rfl rfl rfl) ?_
      refine .nil ?_
      refine ⟨by kernel_rfl, by kernel_rfl, ?_⟩
      refine W.cond rfl (fun q22 => ?_) (fun q22 => ?_)
      ·have h := ifT q22 h
       refine W.seq ?_
       refine W.pk ?_
       refine .a rfl rfl rfl rfl ?_
       refine .nil ?_
       refine W.ret ?_
       cases h
       exact leaves (.inr rfl) rfl (.imm _) (cN .nil) rfl rfl
      ·have h := ifF q22 h
       refine W.skip ?_
       refine W.seq ?_
       refine W.seq ?_
       obtain ⟨t23, b24, h⟩ := bnd1 h
       refine W.pk ?_
       refine .v rfl rfl (O.fld fld26_2 rfl rfl rfl) ?_
       refine .v rfl rfl (O.ld (y := .i x0.Member) ty3 rfl rfl rfl) ?_
       refine .call (.b t23) [] 0 (lombardref23_in.ok b24) rfl rfl rfl ca36 rfl rfl (cC (.imm _) (cC (.imm _) (cC (.imm _) .nil))) rfl rfl rfl rfl rfl ?_
       refine .v rfl rfl (OpL.unV rfl rfl rfl) ?_
       refine .nil ?_
       refine W.cond rfl (fun q25 => ?_) (fun q25 => ?_)
       ·have h := ifT q25 h
        refine W.seq ?_
        refine W.pk ?_
        refine .a rfl rfl rfl rfl ?_
        refine .nil ?_
        refine W.ret ?_
        cases h
        exact leaves (.inr rfl) rfl (.imm _) (cN .nil) rfl rfl
       ·have h := ifF q25 h
        refine W.skip ?_
        refine W.seq ?_
        obtain ⟨c26, h⟩ := chk h
        obtain ⟨t27, b28, h⟩ := bnd1 h
        refine W.dk (unm 16 [0, 1, 0, 4, 0, 16, 48, 112, 240, 0, 512, 0, 2048, 8191, 16383, 32767]) rfl (by kernel_rfl) ?_
        refine .v rfl rfl (O.fld fld26_4 rfl rfl rfl) ?_
        refine .v rfl rfl (O.ld (y := .i x0.Basket) ty3 rfl rfl rfl) ?_
        refine .v rfl rfl (O.fld fld26_5 rfl rfl rfl) ?_
        refine .v rfl rfl (O.ld (y := .i x0.Amount) ty3 rfl rfl rfl) ?_
        refine .v rfl rfl (O.fld fld26_8 rfl rfl rfl) ?_
        refine .v rfl rfl (O.ld (y := .imm (.row 2 (List.map api_Reset.enc x0.Resets))) ty24 rfl rfl rfl) ?_
        refine .v rfl rfl (O.idx sl24 c26 rfl rfl rfl) ?_
        refine .v rfl rfl (O.fld fld60_1 rfl rfl rfl) ?_
        refine .v rfl rfl (O.ld (y := .i ((nth x0.Resets 0).Rate)) ty3 rfl rfl rfl) ?_
        refine .v rfl rfl (O.fld fld26_6 rfl rfl rfl) ?_
        refine .v rfl rfl (O.ld (y := .i x0.Start) ty3 rfl rfl rfl) ?_
        refine .v rfl rfl (O.fld fld26_7 rfl rfl rfl) ?_
        refine .v rfl rfl (O.ld (y := .i x0.End) ty3 rfl rfl rfl) ?_
        refine .v rfl rfl (O.build (out := [.i 0, .i 0, .i x0.Basket, .i x0.Amount, .i ((nth x0.Resets 0).Rate), .i x0.Start, .i x0.End]) bl23 rfl rfl rfl rfl (by kernel_rfl)) ?_
        refine .call (.i t27) [] 0 (lombardref23_Terms.ok b28) rfl rfl rfl ca37 rfl rfl (cC (.agg _ _ _ _ (cC (.imm _) (cC (.imm _) (cC (.imm _) (cC (.imm _) (cC (.imm _) (cC (.imm _) (cC (.imm _) .nil)))))))) .nil) rfl rfl rfl rfl rfl ?_
        refine .a rfl rfl rfl rfl ?_
        refine .nil ?_
        refine ⟨by kernel_rfl, by kernel_rfl, ?_⟩
        refine W.ret ?_
        cases h
        exact leaves (.inr rfl) rfl (.imm _) (cN .nil) rfl rfl
   ·clear h
    rcases tf (x0.Side == 1) with g13 | g13
    ·rcases tf ((IntKind.wrap .i64 (x0.Twin - x0.ID)) != 1) with g14 | g14
     ·refine W.pk ?_
      refine .v rfl rfl (O.fld fld26_3 rfl rfl rfl) ?_
      refine .v rfl rfl (O.ld (y := .i x0.Side) ty3 rfl rfl rfl) ?_
      refine .v rfl rfl (OpL.binI rfl rfl rfl rfl) ?_
      refine .m rfl rfl rfl rfl ?_
      refine .v rfl (met rfl rfl rfl g13) (O.fld fld26_1 rfl rfl rfl) ?_
      refine .v rfl (met rfl rfl rfl g13) (O.ld (y := .i x0.Twin) ty3 rfl rfl rfl) ?_
      refine .v rfl (met rfl rfl rfl g13) (O.fld fld26_0 rfl rfl rfl) ?_
      refine .v rfl (met rfl rfl rfl g13) (O.ld (y := .i x0.ID) ty3 rfl rfl rfl) ?_
      refine .v rfl (met rfl rfl rfl g13) (OpL.binI rfl rfl rfl rfl) ?_
      refine .v rfl (met rfl rfl rfl g13) (OpL.binI rfl rfl rfl rfl) ?_
      refine .v rfl rfl (O.pickT g13 rfl rfl rfl) ?_
      refine .m rfl rfl rfl rfl ?_
      refine .x rfl (unmet rfl rfl rfl g14) ?_
      refine .x rfl (unmet rfl rfl rfl g14) ?_
      refine .x rfl (unmet rfl rfl rfl g14) ?_
      refine .x rfl (unmet rfl rfl rfl g14) ?_
      refine .x rfl (unmetU rfl rfl rfl) ?_
      refine .x rfl (unmetU rfl rfl rfl) ?_
      refine .x rfl (unmetU rfl rfl rfl) ?_
      refine .x rfl (unmetU rfl rfl rfl) ?_
      refine .x rfl (unmetU rfl rfl rfl) ?_
      refine .x rfl (unmetU rfl rfl rfl) ?_
      refine .x rfl (unmet rfl rfl rfl g14) ?_
      refine .v rfl rfl (O.pickT g14 rfl rfl rfl) ?_
      refine .nil ?_
      exact toN (Gives.mkR [] (.r rfl rfl (.c rfl (sbb (by first | (simp only [g13, g14, Bool.true_or, Bool.or_true, Bool.false_or, Bool.or_false, Bool.true_and, Bool.and_true, Bool.false_and, Bool.and_false, Bool.not_true, Bool.not_false, cond_true, cond_false]; done) | (repeat (first | rw [g13] | rw [g14])) <;> simp only [Bool.true_or, Bool.or_true, Bool.false_or, Bool.or_false, Bool.true_and, Bool.and_true, Bool.false_and, Bool.and_false, Bool.not_true, Bool.not_false, cond_true, cond_false])) rfl .n)) (.r rfl rfl rfl .n) rfl rfl rfl)
     ·rcases tf (x0.Side == 2) with g15 | g15
      ·refine W.pk ?_
       refine .v rfl rfl (O.fld fld26_3 rfl rfl rfl) ?_
       refine .v rfl rfl (O.ld (y := .i x0.Side) ty3 rfl rfl rfl) ?_
       refine .v rfl rfl (OpL.binI rfl rfl rfl rfl) ?_
       refine .m rfl rfl rfl rfl ?_
       refine .v rfl (met rfl rfl rfl g13) (O.fld fld26_1 rfl rfl rfl) ?_
       refine .v rfl (met rfl rfl rfl g13) (O.ld (y := .i x0.Twin) ty3 rfl rfl rfl) ?_
       refine .v rfl (met rfl rfl rfl g13) (O.fld fld26_0 rfl rfl rfl) ?_
       refine .v rfl (met rfl rfl rfl g13) (O.ld (y := .i x0.ID) ty3 rfl rfl rfl) ?_
       refine .v rfl (met rfl rfl rfl g13) (OpL.binI rfl rfl rfl rfl) ?_
       refine .v rfl (met rfl rfl rfl g13) (OpL.binI rfl rfl rfl rfl) ?_
       refine .v rfl rfl (O.pickT g13 rfl rfl rfl) ?_
       refine .m rfl rfl rfl rfl ?_
       refine .v rfl (met rfl rfl rfl g14) (O.fld fld26_3 rfl rfl rfl) ?_
       refine .v rfl (met rfl rfl rfl g14) (O.ld (y := .i x0.Side) ty3 rfl rfl rfl) ?_
       refine .v rfl (met rfl rfl rfl g14) (OpL.binI rfl rfl rfl rfl) ?_
       refine .m rfl (met rfl rfl rfl g14) rfl rfl ?_
       refine .v rfl (met rfl rfl rfl g15) (O.fld fld26_0 rfl rfl rfl) ?_
       refine .v rfl (met rfl rfl rfl g15) (O.ld (y := .i x0.ID) ty3 rfl rfl rfl) ?_
       refine .v rfl (met rfl rfl rfl g15) (O.fld fld26_1 rfl rfl rfl) ?_
       refine .v rfl (met rfl rfl rfl g15) (O.ld (y := .i x0.Twin) ty3 rfl rfl rfl) ?_
       refine .v rfl (met rfl rfl rfl g15) (OpL.binI rfl rfl rfl rfl) ?_
       refine .v rfl (met rfl rfl rfl g15) (OpL.binI rfl rfl rfl rfl) ?_
       refine .v rfl (met rfl rfl rfl g14) (O.pickT g15 rfl rfl rfl) ?_
       refine .v rfl rfl (O.pickF g14 rfl rfl rfl) ?_
       refine .nil ?_
       exact toN (Gives.mkR [] (.r rfl rfl (.c rfl (sbb (by first | (simp only [g13, g14, g15, Bool.true_or, Bool.or_true, Bool.false_or, Bool.or_false, Bool.true_and, Bool.and_true, Bool.false_and, Bool.and_false, Bool.not_true, Bool.not_false, cond_true, cond_false]; done) | (repeat (first | rw [g13] | rw [g14] | rw [g15])) <;> simp only [Bool.true_or, Bool.or_true, Bool.false_or, Bool.or_false, Bool.true_and, Bool.and_true, Bool.false_and, Bool.and_false, Bool.not_true, Bool.not_false, cond_true, cond_false])) rfl .n)) (.r rfl rfl rfl .n) rfl rfl rfl)
      ·refine W.pk ?_
       refine .v rfl rfl (O.fld fld26_3 rfl rfl rfl) ?_
       refine .v rfl rfl (O.ld (y := .i x0.Side) ty3 rfl rfl rfl) ?_
       refine .v rfl rfl (OpL.binI rfl rfl rfl rfl) ?_
       refine .m rfl rfl rfl rfl ?_
       refine .v rfl (met rfl rfl rfl g13) (O.fld fld26_1 rfl rfl rfl) ?_
       refine .v rfl (met rfl rfl rfl g13) (O.ld (y := .i x0.Twin) ty3 rfl rfl rfl) ?_
       refine .v rfl (met rfl rfl rfl g13) (O.fld fld26_0 rfl rfl rfl) ?_
       refine .v rfl (met rfl rfl rfl g13) (O.ld (y := .i x0.ID) ty3 rfl rfl rfl) ?_
       refine .v rfl (met rfl rfl rfl g13) (OpL.binI rfl rfl rfl rfl) ?_
       refine .v rfl (met rfl rfl rfl g13) (OpL.binI rfl rfl rfl rfl) ?_
       refine .v rfl rfl (O.pickT g13 rfl rfl rfl) ?_
       refine .m rfl rfl rfl rfl ?_
       refine .v rfl (met rfl rfl rfl g14) (O.fld fld26_3 rfl rfl rfl) ?_
       refine .v rfl (met rfl rfl rfl g14) (O.ld (y := .i x0.Side) ty3 rfl rfl rfl) ?_
       refine .v rfl (met rfl rfl rfl g14) (OpL.binI rfl rfl rfl rfl) ?_
       refine .m rfl (met rfl rfl rfl g14) rfl rfl ?_
       refine .x rfl (unmet rfl rfl rfl g15) ?_
       refine .x rfl (unmet rfl rfl rfl g15) ?_
       refine .x rfl (unmet rfl rfl rfl g15) ?_
       refine .x rfl (unmet rfl rfl rfl g15) ?_
       refine .x rfl (unmet rfl rfl rfl g15) ?_
       refine .x rfl (unmet rfl rfl rfl g15) ?_
       refine .v rfl (met rfl rfl rfl g14) (O.pickF g15 rfl rfl rfl) ?_
       refine .v rfl rfl (O.pickF g14 rfl rfl rfl) ?_
       refine .nil ?_
       exact toN (Gives.mkR [] (.r rfl rfl (.c rfl (sbb (by first | (simp only [g13, g14, g15, Bool.true_or, Bool.or_true, Bool.false_or, Bool.or_false, Bool.true_and, Bool.and_true, Bool.false_and, Bool.and_false, Bool.not_true, Bool.not_false, cond_true, cond_false]; done) | (repeat (first | rw [g13] | rw [g14] | rw [g15])) <;> simp only [Bool.true_or, Bool.or_true, Bool.false_or, Bool.or_false, Bool.true_and, Bool.and_true, Bool.false_and, Bool.and_false, Bool.not_true, Bool.not_false, cond_true, cond_false])) rfl .n)) (.r rfl rfl rfl .n) rfl rfl rfl)
    ·rcases tf (x0.Side == 2) with g16 | g16
     ·refine W.pk ?_
      refine .v rfl rfl (O.fld fld26_3 rfl rfl rfl) ?_
      refine .v rfl rfl (O.ld (y := .i x0.Side) ty3 rfl rfl rfl) ?_
      refine .v rfl rfl (OpL.binI rfl rfl rfl rfl) ?_
      refine .m rfl rfl rfl rfl ?_
      refine .x rfl (unmet rfl rfl rfl g13) ?_
      refine .x rfl (unmet rfl rfl rfl g13) ?_
      refine .x rfl (unmet rfl rfl rfl g13) ?_
      refine .x rfl (unmet rfl rfl rfl g13) ?_
      refine .x rfl (unmet rfl rfl rfl g13) ?_
      refine .x rfl (unmet rfl rfl rfl g13) ?_
      refine .v rfl rfl (O.pickF g13 rfl rfl rfl) ?_
      refine .m rfl rfl rfl rfl ?_
      refine .v rfl (met rfl rfl rfl rfl) (O.fld fld26_3 rfl rfl rfl) ?_
      refine .v rfl (met rfl rfl rfl rfl) (O.ld (y := .i x0.Side) ty3 rfl rfl rfl) ?_
      refine .v rfl (met rfl rfl rfl rfl) (OpL.binI rfl rfl rfl rfl) ?_
      refine .m rfl (met rfl rfl rfl rfl) rfl rfl ?_
      refine .v rfl (met rfl rfl rfl g16) (O.fld fld26_0 rfl rfl rfl) ?_
      refine .v rfl (met rfl rfl rfl g16) (O.ld (y := .i x0.ID) ty3 rfl rfl rfl) ?_
      refine .v rfl (met rfl rfl rfl g16) (O.fld fld26_1 rfl rfl rfl) ?_
      refine .v rfl (met rfl rfl rfl g16) (O.ld (y := .i x0.Twin) ty3 rfl rfl rfl) ?_
      refine .v rfl (met rfl rfl rfl g16) (OpL.binI rfl rfl rfl rfl) ?_
      refine .v rfl (met rfl rfl rfl g16) (OpL.binI rfl rfl rfl rfl) ?_
      refine .v rfl (met rfl rfl rfl rfl) (O.pickT g16 rfl rfl rfl) ?_
      refine .v rfl rfl (O.pickF rfl rfl rfl rfl) ?_
      refine .nil ?_
      exact toN (Gives.mkR [] (.r rfl rfl (.c rfl (sbb (by first | (simp only [g13, g16, Bool.true_or, Bool.or_true, Bool.false_or, Bool.or_false, Bool.true_and, Bool.and_true, Bool.false_and, Bool.and_false, Bool.not_true, Bool.not_false, cond_true, cond_false]; done) | (repeat (first | rw [g13] | rw [g16])) <;> simp only [Bool.true_or, Bool.or_true, Bool.false_or, Bool.or_false, Bool.true_and, Bool.and_true, Bool.false_and, Bool.and_false, Bool.not_true, Bool.not_false, cond_true, cond_false])) rfl .n)) (.r rfl rfl rfl .n) rfl rfl rfl)
     ·refine W.pk ?_
      refine .v rfl rfl (O.fld fld26_3 rfl rfl rfl) ?_
      refine .v rfl rfl (O.ld (y := .i x0.Side) ty3 rfl rfl rfl) ?_
      refine .v rfl rfl (OpL.binI rfl rfl rfl rfl) ?_
      refine .m rfl rfl rfl rfl ?_
      refine .x rfl (unmet rfl rfl rfl g13) ?_
      refine .x rfl (unmet rfl rfl rfl g13) ?_
      refine .x rfl (unmet rfl rfl rfl g13) ?_
      refine .x rfl (unmet rfl rfl rfl g13) ?_
      refine .x rfl (unmet rfl rfl rfl g13) ?_
      refine .x rfl (unmet rfl rfl rfl g13) ?_
      refine .v rfl rfl (O.pickF g13 rfl rfl rfl) ?_
      refine .m rfl rfl rfl rfl ?_
      refine .v rfl (met rfl rfl rfl rfl) (O.fld fld26_3 rfl rfl rfl) ?_
      refine .v rfl (met rfl rfl rfl rfl) (O.ld (y := .i x0.Side) ty3 rfl rfl rfl) ?_
      refine .v rfl (met rfl rfl rfl rfl) (OpL.binI rfl rfl rfl rfl) ?_
      refine .m rfl (met rfl rfl rfl rfl) rfl rfl ?_
      refine .x rfl (unmet rfl rfl rfl g16) ?_
      refine .x rfl (unmet rfl rfl rfl g16) ?_
      refine .x rfl (unmet rfl rfl rfl g16) ?_
      refine .x rfl (unmet rfl rfl rfl g16) ?_
      refine .x rfl (unmet rfl rfl rfl g16) ?_
      refine .x rfl (unmet rfl rfl rfl g16) ?_
      refine .v rfl (met rfl rfl rfl rfl) (O.pickF g16 rfl rfl rfl) ?_
      refine .v rfl rfl (O.pickF rfl rfl rfl rfl) ?_
      refine .nil ?_
      exact toN (Gives.mkR [] (.r rfl rfl (.c rfl (sbb (by first | (simp only [g13, g16, Bool.true_or, Bool.or_true, Bool.false_or, Bool.or_false, Bool.true_and, Bool.and_true, Bool.false_and, Bool.and_false, Bool.not_true, Bool.not_false, cond_true, cond_false]; done) | (repeat (first | rw [g13] | rw [g16])) <;> simp only [Bool.true_or, Bool.or_true, Bool.false_or, Bool.or_false, Bool.true_and, Bool.and_true, Bool.false_and, Bool.and_false, Bool.not_true, Bool.not_false, cond_true, cond_false])) rfl .n)) (.r rfl rfl rfl .n) rfl rfl rfl)
 ·clear h
  rcases tf t1 with g9 | g9
  ·rcases tf t3 with g10 | g10
   ·rcases tf t5 with g11 | g11
    ·refine W.pk ?_
     refine .v rfl rfl (O.fld fld26_0 rfl rfl rfl) ?_
     refine .v rfl rfl (O.ld (y := .i x0.ID) ty3 rfl rfl rfl) ?_
     refine .call (.b t1) [] 0 (lombardref23_in.ok b2) rfl rfl rfl ca36 rfl rfl (cC (.imm _) (cC (.imm _) (cC (.imm _) .nil))) rfl rfl rfl rfl rfl ?_
     refine .v rfl rfl (OpL.unV rfl rfl rfl) ?_
     refine .m rfl rfl rfl rfl ?_
     refine .v rfl (met rfl rfl rfl (notT g9)) (O.fld fld26_1 rfl rfl rfl) ?_
     refine .v rfl (met rfl rfl rfl (notT g9)) (O.ld (y := .i x0.Twin) ty3 rfl rfl rfl) ?_
     refine .call (.b t3) [] 0 (lombardref23_in.ok ((if_pos (by first | (simp only [g9, g10, g11, Bool.true_or, Bool.or_true, Bool.false_or, Bool.or_false, Bool.true_and, Bool.and_true, Bool.false_and, Bool.and_false, Bool.not_true, Bool.not_false, cond_true, cond_false]; done) | (repeat (first | rw [g9] | rw [g10] | rw [g11])) <;> simp only [Bool.true_or, Bool.or_true, Bool.false_or, Bool.or_false, Bool.true_and, Bool.and_true, Bool.false_and, Bool.and_false, Bool.not_true, Bool.not_false, cond_true, cond_false])).symm.trans b4)) rfl (met rfl rfl rfl (notT g9)) rfl ca36 rfl rfl (cC (.imm _) (cC (.imm _) (cC (.imm _) .nil))) rfl rfl rfl rfl rfl ?_
     refine .v rfl (met rfl rfl rfl (notT g9)) (OpL.unV rfl rfl rfl) ?_
     refine .v rfl rfl (O.pickF (notT g9) rfl rfl rfl) ?_
     refine .m rfl rfl rfl rfl ?_
     refine .v rfl (met rfl rfl rfl (notT g10)) (O.fld fld26_3 rfl rfl rfl) ?_
     refine .v rfl (met rfl rfl rfl (notT g10)) (O.ld (y := .i x0.Side) ty3 rfl rfl rfl) ?_
     refine .call (.b t5) [] 0 (lombardref23_in.ok ((if_pos (by first | (simp only [g9, g10, g11, Bool.true_or, Bool.or_true, Bool.false_or, Bool.or_false, Bool.true_and, Bool.and_true, Bool.false_and, Bool.and_false, Bool.not_true, Bool.not_false, cond_true, cond_false]; done) | (repeat (first | rw [g9] | rw [g10] | rw [g11])) <;> simp only [Bool.true_or, Bool.or_true, Bool.false_or, Bool.or_false, Bool.true_and, Bool.and_true, Bool.false_and, Bool.and_false, Bool.not_true, Bool.not_false, cond_true, cond_false])).symm.trans b6)) rfl (met rfl rfl rfl (notT g10)) rfl ca36 rfl rfl (cC (.imm _) (cC (.imm _) (cC (.imm _) .nil))) rfl rfl rfl rfl rfl ?_
     refine .v rfl (met rfl rfl rfl (notT g10)) (OpL.unV rfl rfl rfl) ?_
     refine .v rfl rfl (O.pickF (notT g10) rfl rfl rfl) ?_
     refine .m rfl rfl rfl rfl ?_
     refine .v rfl (met rfl rfl rfl (notT g11)) (O.fld fld26_9 rfl rfl rfl) ?_
     refine .v rfl (met rfl rfl rfl (notT g11)) (O.ld (y := .i x0.Stage) ty3 rfl rfl rfl) ?_
     refine .call (.b t7) [] 0 (lombardref23_in.ok ((if_pos (by first | (simp only [g9, g10, g11, Bool.true_or, Bool.or_true, Bool.false_or, Bool.or_false, Bool.true_and, Bool.and_true, Bool.false_and, Bool.and_false, Bool.not_true, Bool.not_false, cond_true, cond_false]; done) | (repeat (first | rw [g9] | rw [g10] | rw [g11])) <;> simp only [Bool.true_or, Bool.or_true, Bool.false_or, Bool.or_false, Bool.true_and, Bool.and_true, Bool.false_and, Bool.and_false, Bool.not_true, Bool.not_false, cond_true, cond_false])).symm.trans b8)) rfl (met rfl rfl rfl (notT g11)) rfl ca36 rfl rfl (cC (.imm _) (cC (.imm _) (cC (.imm _) .nil))) rfl rfl rfl rfl rfl ?_
     refine .v rfl (met rfl rfl rfl (notT g11)) (OpL.unV rfl rfl rfl) ?_
     refine .v rfl rfl (O.pickF (notT g11) rfl rfl rfl) ?_
     refine .nil ?_
     exact toN (Gives.mkR [] (.r rfl rfl (.c rfl (sbb (by first | (simp only [g9, g10, g11, Bool.true_or, Bool.or_true, Bool.false_or, Bool.or_false, Bool.true_and, Bool.and_true, Bool.false_and, Bool.and_false, Bool.not_true, Bool.not_false, cond_true, cond_false]; done) | (repeat (first | rw [g9] | rw [g10] | rw [g11])) <;> simp only [Bool.true_or, Bool.or_true, Bool.false_or, Bool.or_false, Bool.true_and, Bool.and_true, Bool.false_and, Bool.and_false, Bool.not_true, Bool.not_false, cond_true, cond_false])) rfl .n)) (.r rfl rfl rfl .n) rfl rfl rfl)
    ·refine W.pk ?_
     refine .v rfl rfl (O.fld fld26_0 rfl rfl rfl) ?_
     refine .v rfl rfl (O.ld (y := .i x0.ID) ty3 rfl rfl rfl) ?_
     refine .call (.b t1) [] 0 (lombardref23_in.ok b2) rfl rfl rfl ca36 rfl rfl (cC (.imm _) (cC (.imm _) (cC (.imm _) .nil))) rfl rfl rfl rfl rfl ?_
     refine .v rfl rfl (OpL.unV rfl rfl rfl) ?_
     refine .m rfl rfl rfl rfl ?_
     refine .v rfl (met rfl rfl rfl (notT g9)) (O.fld fld26_1 rfl rfl rfl) ?_
     refine .v rfl (met rfl rfl rfl (notT g9)) (O.ld (y := .i x0.Twin) ty3 rfl rfl rfl) ?_
     refine .call (.b t3) [] 0 (lombardref23_in.ok ((if_pos (by first | (simp only [g9, g10, g11, Bool.true_or, Bool.or_true, Bool.false_or, Bool.or_false, Bool.true_and, Bool.and_true, Bool.false_and, Bool.and_false, Bool.not_true, Bool.not_false, cond_true, cond_false]; done) | (repeat (first | rw [g9] | rw [g10] | rw [g11])) <;> simp only [Bool.true_or, Bool.or_true, Bool.false_or, Bool.or_false, Bool.true_and, Bool.and_true, Bool.false_and, Bool.and_false, Bool.not_true, Bool.not_false, cond_true, cond_false])).symm.trans b4)) rfl (met rfl rfl rfl (notT g9)) rfl ca36 rfl rfl (cC (.imm _) (cC (.imm _) (cC (.imm _) .nil))) rfl rfl rfl rfl rfl ?_
     refine .v rfl (met rfl rfl rfl (notT g9)) (OpL.unV rfl rfl rfl) ?_
     refine .v rfl rfl (O.pickF (notT g9) rfl rfl rfl) ?_
     refine .m rfl rfl rfl rfl ?_
     refine .v rfl (met rfl rfl rfl (notT g10)) (O.fld fld26_3 rfl rfl rfl) ?_
     refine .v rfl (met rfl rfl rfl (notT g10)) (O.ld (y := .i x0.Side) ty3 rfl rfl rfl) ?_
     refine .call (.b t5) [] 0 (lombardref23_in.ok ((if_pos (by first | (simp only [g9, g10, g11, Bool.true_or, Bool.or_true, Bool.false_or, Bool.or_false, Bool.true_and, Bool.and_true, Bool.false_and, Bool.and_false, Bool.not_true, Bool.not_false, cond_true, cond_false]; done) | (repeat (first | rw [g9] | rw [g10] | rw [g11])) <;> simp only [Bool.true_or, Bool.or_true, Bool.false_or, Bool.or_false, Bool.true_and, Bool.and_true, Bool.false_and, Bool.and_false, Bool.not_true, Bool.not_false, cond_true, cond_false])).symm.trans b6)) rfl (met rfl rfl rfl (notT g10)) rfl ca36 rfl rfl (cC (.imm _) (cC (.imm _) (cC (.imm _) .nil))) rfl rfl rfl rfl rfl ?_
     refine .v rfl (met rfl rfl rfl (notT g10)) (OpL.unV rfl rfl rfl) ?_
     refine .v rfl rfl (O.pickF (notT g10) rfl rfl rfl) ?_
     refine .m rfl rfl rfl rfl ?_
     refine .x rfl (unmet rfl rfl rfl (notF g11)) ?_
     refine .x rfl (unmet rfl rfl rfl (notF g11)) ?_
     refine .x rfl (unmet rfl rfl rfl (notF g11)) ?_
     refine .x rfl (unmet rfl rfl rfl (notF g11)) ?_
     refine .v rfl rfl (O.pickT (notF g11) rfl rfl rfl) ?_
     refine .nil ?_
     exact toN (Gives.mkR [] (.r rfl rfl (.c rfl (sbb (by first | (simp only [g9, g10, g11, Bool.true_or, Bool.or_true, Bool.false_or, Bool.or_false, Bool.true_and, Bool.and_true, Bool.false_and, Bool.and_false, Bool.not_true, Bool.not_false, cond_true, cond_false]; done) | (repeat (first | rw [g9] | rw [g10] | rw [g11])) <;> simp only [Bool.true_or, Bool.or_true, Bool.false_or, Bool.or_false, Bool.true_and, Bool.and_true, Bool.false_and, Bool.and_false, Bool.not_true, Bool.not_false, cond_true, cond_false])) rfl .n)) (.r rfl rfl rfl .n) rfl rfl rfl)
   ·refine W.pk ?_
    refine .v rfl rfl (O.fld fld26_0 rfl rfl rfl) ?_
    refine .v rfl rfl (O.ld (y := .i x0.ID) ty3 rfl rfl rfl) ?_
    refine .call (.b t1) [] 0 (lombardref23_in.ok b2) rfl rfl rfl ca36 rfl rfl (cC (.imm _) (cC (.imm _) (cC (.imm _) .nil))) rfl rfl rfl rfl rfl ?_
    refine .v rfl rfl (OpL.unV rfl rfl rfl) ?_
    refine .m rfl rfl rfl rfl ?_
    refine .v rfl (met rfl rfl rfl (notT g9)) (O.fld fld26_1 rfl rfl rfl) ?_
    refine .v rfl (met rfl rfl rfl (notT g9)) (O.ld (y := .i x0.Twin) ty3 rfl rfl rfl) ?_
    refine .call (.b t3) [] 0 (lombardref23_in.ok ((if_pos (by first | (simp only [g9, g10, Bool.true_or, Bool.or_true, Bool.false_or, Bool.or_false, Bool.true_and, Bool.and_true, Bool.false_and, Bool.and_false, Bool.not_true, Bool.not_false, cond_true, cond_false]; done) | (repeat (first | rw [g9] | rw [g10])) <;> simp only [Bool.true_or, Bool.or_true, Bool.false_or, Bool.or_false, Bool.true_and, Bool.and_true, Bool.false_and, Bool.and_false, Bool.not_true, Bool.not_false, cond_true, cond_false])).symm.trans b4)) rfl (met rfl rfl rfl (notT g9)) rfl ca36 rfl rfl (cC (.imm _) (cC (.imm _) (cC (.imm _) .nil))) rfl rfl rfl rfl rfl ?_
    refine .v rfl (met rfl rfl rfl (notT g9)) (OpL.unV rfl rfl rfl) ?_
    refine .v rfl rfl (O.pickF (notT g9) rfl rfl rfl) ?_
    refine .m rfl rfl rfl rfl ?_
    refine .x rfl (unmet rfl rfl rfl (notF g10)) ?_
    refine .x rfl (unmet rfl rfl rfl (notF g10)) ?_
    refine .x rfl (unmet rfl rfl rfl (notF g10)) ?_
    refine .x rfl (unmet rfl rfl rfl (notF g10)) ?_
    refine .v rfl rfl (O.pickT (notF g10) rfl rfl rfl) ?_
    refine .m rfl rfl rfl rfl ?_
    refine .x rfl (unmet rfl rfl rfl rfl) ?_
    refine .x rfl (unmet rfl rfl rfl rfl) ?_
    refine .x rfl (unmet rfl rfl rfl rfl) ?_
    refine .x rfl (unmet rfl rfl rfl rfl) ?_
    refine .v rfl rfl (O.pickT rfl rfl rfl rfl) ?_
    refine .nil ?_
    exact toN (Gives.mkR [] (.r rfl rfl (.c rfl (sbb (by first | (simp only [g9, g10, Bool.true_or, Bool.or_true, Bool.false_or, Bool.or_false, Bool.true_and, Bool.and_true, Bool.false_and, Bool.and_false, Bool.not_true, Bool.not_false, cond_true, cond_false]; done) | (repeat (first | rw [g9] | rw [g10])) <;> simp only [Bool.true_or, Bool.or_true, Bool.false_or, Bool.or_false, Bool.true_and, Bool.and_true, Bool.false_and, Bool.and_false, Bool.not_true, Bool.not_false, cond_true, cond_false])) rfl .n)) (.r rfl rfl rfl .n) rfl rfl rfl)
  ·refine W.pk ?_
   refine .v rfl rfl (O.fld fld26_0 rfl rfl rfl) ?_
   refine .v rfl rfl (O.ld (y := .i x0.ID) ty3 rfl rfl rfl) ?_
   refine .call (.b t1) [] 0 (lombardref23_in.ok b2) rfl rfl rfl ca36 rfl rfl (cC (.imm _) (cC (.imm _) (cC (.imm _) .nil))) rfl rfl rfl rfl rfl ?_
   refine .v rfl rfl (OpL.unV rfl rfl rfl) ?_
   refine .m rfl rfl rfl rfl ?_
   refine .x rfl (unmet rfl rfl rfl (notF g9)) ?_
   refine .x rfl (unmet rfl rfl rfl (notF g9)) ?_
   refine .x rfl (unmet rfl rfl rfl (notF g9)) ?_
   refine .x rfl (unmet rfl rfl rfl (notF g9)) ?_
   refine .v rfl rfl (O.pickT (notF g9) rfl rfl rfl) ?_
   refine .m rfl rfl rfl rfl ?_
   refine .x rfl (unmet rfl rfl rfl rfl) ?_
   refine .x rfl (unmet rfl rfl rfl rfl) ?_
   refine .x rfl (unmet rfl rfl rfl rfl) ?_
   refine .x rfl (unmet rfl rfl rfl rfl) ?_
   refine .v rfl rfl (O.pickT rfl rfl rfl rfl) ?_
   refine .m rfl rfl rfl rfl ?_
   refine .x rfl (unmet rfl rfl rfl rfl) ?_
   refine .x rfl (unmet rfl rfl rfl rfl) ?_
   refine .x rfl (unmet rfl rfl rfl rfl) ?_
   refine .x rfl (unmet rfl rfl rfl rfl) ?_
   refine .v rfl rfl (O.pickT rfl rfl rfl rfl) ?_
   refine .nil ?_
   exact toN (Gives.mkR [] (.r rfl rfl (.c rfl (sbb (by simp only [g9, Bool.true_or, Bool.or_true, Bool.false_or, Bool.or_false, Bool.true_and, Bool.and_true, Bool.false_and, Bool.and_false, Bool.not_true, Bool.not_false, cond_true, cond_false])) rfl .n)) (.r rfl rfl rfl .n) rfl rfl rfl)

noncomputable def lombardref23_Resets.b0 (x0 : List api_Reset) (x1 : List api_Reset) (v6 : Int) : Option (Int ⊕ (Bool ⊕ Unit)) :=
  if (decide (v6 < (List.length x0 : Int))) = true then
    if (0 : Int) ≤ v6 ∧ v6 < (List.length x0 : Int) then
    if (0 : Int) ≤ v6 ∧ v6 < (List.length x1 : Int) then
    if (!((((nth x0 v6).Day) == ((nth x1 v6).Day)) && (((nth x0 v6).Rate) == ((nth x1 v6).Rate)))) = true then
      some (.inr (.inl false))
    else
      some (.inl (IntKind.wrap .i64 (v6 + 1)))
    else none
    else none
  else
    some (.inr (.inr ()))
noncomputable def lombardref23_Resets.r0 (x0 : List api_Reset) (x1 : List api_Reset) (s : Int) : Option (Int ⊕ (Bool ⊕ Unit)) := lombardref23_Resets.b0 x0 x1 s
noncomputable def lombardref23_Resets.f (x0 : List api_Reset) (x1 : List api_Reset) : Option (Bool) :=
  if ((List.length x0 : Int) != (List.length x1 : Int)) = true then
    some false
  else
    (loop (lombardref23_Resets.r0 x0 x1) 0).bind fun o16 =>
    match o16 with
    | .inl r23 => some r23
    | .inr w15 =>
      some true
set_option maxRecDepth 100000 in
set_option maxHeartbeats 4000000 in
theorem lombardref23_Resets.ok {x0 : List api_Reset} {x1 : List api_Reset} {r : Bool} (h : lombardref23_Resets.f x0 x1 = some r) : Pm.Spec prog 41 [.imm (.row 2 (List.map api_Reset.enc x0)), .imm (.row 2 (List.map api_Reset.enc x1))] (.imm (.val (.bool r))) [none, none] := by
 unfold lombardref23_Resets.f at h
 refine Pm.Spec.of_body Try.func41 rfl (by kernel_rfl) (Nat.le_of_ble_eq_true rfl) (Nat.le_of_ble_eq_true rfl) ?_
 refine W.ghost (σ' := (mkSt [(0, some (.imm (.row 2 (List.map api_Reset.enc x0)))), (1, some (.imm (.row 2 (List.map api_Reset.enc x1))))] [] 1000)) (Gives.entry (.c rfl (.c rfl .n)) .n) ?_
 refine W.seq ?_
 refine W.pk ?_
 refine .a rfl rfl rfl rfl ?_
 refine .nil ?_
 refine W.seq ?_
 refine W.seq ?_
 refine W.pk ?_
 refine .m rfl rfl rfl rfl ?_
 refine .v rfl rfl (O.lenR sl24 rfl rfl) ?_
 refine .m rfl rfl rfl rfl ?_
 refine .v rfl rfl (O.lenR sl24 rfl rfl) ?_
 refine .v rfl rfl (OpL.binI rfl rfl rfl rfl) ?_
 refine .nil ?_
 refine W.cond rfl (fun q1 => ?_) (fun q1 => ?_)
 ·have h := ifT q1 h
  refine W.seq ?_
  refine W.pk ?_
  refine .a rfl rfl rfl rfl ?_
  refine .nil ?_
  refine W.ret ?_
  cases h
  exact leaves (.inr rfl) rfl (.imm _) (cN (cN .nil)) rfl rfl
 ·have h := ifF q1 h
  refine W.skip ?_
  refine W.seq ?_
  refine W.seq ?_
  refine W.pk ?_
  refine .a rfl rfl rfl rfl ?_
  refine .nil ?_
  obtain ⟨o16, b17, z18⟩ := bnd1 h
  refine W.fork2 (out := o16) (fun (w15 : Unit) => mkSt [] [] 1000) ?_ ?_
  ·clear h
   refine W.block ?_
   refine W.loopF (fun (s_ : Int) => mkSt [(0, some (.imm (.row 2 (List.map api_Reset.enc x0)))), (1, some (.imm (.row 2 (List.map api_Reset.enc x1)))), (5, some (.i s_))] [] 1000) b17 (Gives.mkR [] (.r rfl rfl (.r rfl rfl (.r rfl rfl .n))) .n rfl rfl rfl) ?_
   rintro v6 s_ hr
   have h : lombardref23_Resets.b0 x0 x1 v6 = some s_ := hr
   unfold lombardref23_Resets.b0 at h
   refine W.seq ?_
   refine W.seq ?_
   refine W.pk ?_
   refine .m rfl rfl rfl rfl ?_
   refine .m rfl rfl rfl rfl ?_
   refine .v rfl rfl (O.lenR sl24 rfl rfl) ?_
   refine .v rfl rfl (OpL.binI rfl rfl rfl rfl) ?_
   refine .nil ?_
   refine W.cond rfl (fun q19 => ?_) (fun q19 => ?_)
   ·have h := ifT q19 h
    refine W.skip ?_
    refine W.seq ?_
    refine W.block ?_
    refine W.seq ?_
    obtain ⟨c20, h⟩ := chk h
    obtain ⟨c21, h⟩ := chk h
    refine W.dk (unm 9 [0, 0, 3, 7, 0, 0, 48, 112, 255]) rfl (by kernel_rfl) ?_
    refine .m rfl rfl rfl rfl ?_
    refine .m rfl rfl rfl rfl ?_
    refine .v rfl rfl (O.idx sl24 c20 rfl rfl rfl) ?_
    refine .v rfl rfl (O.ldN ty60 rfl rfl rfl) ?_
    refine .m rfl rfl rfl rfl ?_
    refine .m rfl rfl rfl rfl ?_
    refine .v rfl rfl (O.idx sl24 c21 rfl rfl rfl) ?_
    refine .v rfl rfl (O.ldN ty60 rfl rfl rfl) ?_
    refine .v rfl rfl (O.neS (r := ((((nth x0 v6).Day) == ((nth x1 v6).Day)) && (((nth x0 v6).Rate) == ((nth x1 v6).Rate)))) fl60 rfl rfl rfl rfl rfl rfl) ?_
    refine .nil ?_
    refine ⟨by kernel_rfl, by kernel_rfl, ?_⟩
    refine W.cond rfl (fun q22 => ?_) (fun q22 => ?_)
    ·have h := ifT q22 h
     refine W.seq ?_
     refine W.pk ?_
     refine .a rfl rfl rfl rfl ?_
     refine .nil ?_
     refine W.ret ?_
     cases h
     refine rdR fun e_ => ?_
     subst e_
     have h := z18
     dsimp only at h
     refine fkR ?_
     cases h
     exact leaves (.inr rfl) rfl (.imm _) (cN (cN .nil)) rfl rfl
    ·have h := ifF q22 h
     refine W.skip ?_
     refine W.pk ?_
     refine .m rfl rfl rfl rfl ?_
     refine .v rfl rfl (OpL.binI rfl rfl rfl rfl) ?_
     refine .a rfl rfl rfl rfl ?_
     refine .nil ?_
     cases h
     exact rdN (Gives.mkR [] (.r rfl rfl (.r rfl rfl (.r rfl rfl .n))) .n rfl rfl rfl)
   ·have h := ifF q19 h
    refine W.exit ?_
    cases h
    refine rdX fun e_ => ?_
    subst e_
    repeat with_reducible refine thru ?_
    refine hit ?_
    exact fkN (Gives.mkR [] .n .n rfl rfl rfl)
  ·intro w15 e_
   subst e_
   clear h
   have h := z18
   dsimp only at h
   refine W.seq ?_
   refine W.pk ?_
   refine .a rfl rfl rfl rfl ?_
   refine .nil ?_
   refine W.ret ?_
   cases h
   exact leaves (.inr rfl) rfl (.imm _) (cN (cN .nil)) rfl rfl
end Go.Proofs.Ytidinbjehfodoaa
