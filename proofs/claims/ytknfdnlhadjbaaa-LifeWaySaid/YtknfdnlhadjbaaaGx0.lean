/- Shows what functions of the program come to, each as a plain function: written by a program of the author's for this claim. -/
import Derived.Test.YtknfdnlhadjbaaaTy
namespace Go.Proofs.Ytknfdnlhadjbaaa
open Go Go.Pm
set_option linter.unusedVariables false
set_option linter.unusedSimpArgs false
noncomputable def lombardref23_in.f (x0 : Int) (x1 : Int) (x2 : Int) : Option (Bool) :=
  some ((decide (x0 ≥ x1)) && (decide (x0 ≤ x2)))
set_option maxRecDepth 100000 in
set_option maxHeartbeats 4000000 in
theorem lombardref23_in.ok {x0 : Int} {x1 : Int} {x2 : Int} {r : Bool} (h : lombardref23_in.f x0 x1 x2 = some r) : Pm.Spec prog 50 [.imm (.val (.int .i64 x0)), .imm (.val (.int .i64 x1)), .imm (.val (.int .i64 x2))] (.imm (.val (.bool r))) [none, none, none] := by
 unfold lombardref23_in.f at h
 refine Pm.Spec.of_body Try.func50 rfl (by kernel_rfl) (Nat.le_of_ble_eq_true rfl) (Nat.le_of_ble_eq_true rfl) ?_
 refine W.ghost (σ' := (mkSt [(0, some (.i x0)), (1, some (.i x1)), (2, some (.i x2))] [] 1000)) (Gives.entry (.c rfl (.c rfl (.c rfl .n))) .n) ?_
 refine W.seq ?_
 refine W.pk ?_
 refine .a rfl rfl rfl rfl ?_
 refine .nil ?_
 refine W.seq ?_
 refine W.fork (mkSt [(6, some (.b ((decide (x0 ≥ x1)) && (decide (x0 ≤ x2)))))] [] 1000) ?_ ?_
 ·refine W.ret ?_
  cases h
  exact leaves (.inr rfl) rfl (.imm _) (cN (cN (cN .nil))) rfl rfl
 ·clear h
  rcases tf (decide (x0 ≥ x1)) with g1 | g1
  ·refine W.pk ?_
   refine .m rfl rfl rfl rfl ?_
   refine .m rfl rfl rfl rfl ?_
   refine .v rfl rfl (OpL.binI rfl rfl rfl rfl) ?_
   refine .m rfl rfl rfl rfl ?_
   refine .m rfl (met rfl rfl rfl g1) rfl rfl ?_
   refine .m rfl (met rfl rfl rfl g1) rfl rfl ?_
   refine .v rfl (met rfl rfl rfl g1) (OpL.binI rfl rfl rfl rfl) ?_
   refine .v rfl rfl (O.pickT g1 rfl rfl rfl) ?_
   refine .a rfl rfl rfl rfl ?_
   refine .nil ?_
   exact toN (Gives.mkR [] (.c rfl (sbb (by simp only [g1, Bool.true_or, Bool.or_true, Bool.false_or, Bool.or_false, Bool.true_and, Bool.and_true, Bool.false_and, Bool.and_false, Bool.not_true, Bool.not_false, cond_true, cond_false])) rfl .n) .n rfl rfl rfl)
  ·refine W.pk ?_
   refine .m rfl rfl rfl rfl ?_
   refine .m rfl rfl rfl rfl ?_
   refine .v rfl rfl (OpL.binI rfl rfl rfl rfl) ?_
   refine .m rfl rfl rfl rfl ?_
   refine .x rfl (unmet rfl rfl rfl g1) ?_
   refine .x rfl (unmet rfl rfl rfl g1) ?_
   refine .x rfl (unmet rfl rfl rfl g1) ?_
   refine .v rfl rfl (O.pickF g1 rfl rfl rfl) ?_
   refine .a rfl rfl rfl rfl ?_
   refine .nil ?_
   exact toN (Gives.mkR [] (.c rfl (sbb (by simp only [g1, Bool.true_or, Bool.or_true, Bool.false_or, Bool.or_false, Bool.true_and, Bool.and_true, Bool.false_and, Bool.and_false, Bool.not_true, Bool.not_false, cond_true, cond_false])) rfl .n) .n rfl rfl rfl)

noncomputable def lombardref02_Good.f (x0 : Int) : Option (Bool) :=
  some ((decide (x0 ≥ 0)) && (decide (x0 ≤ 200000)))
set_option maxRecDepth 100000 in
set_option maxHeartbeats 4000000 in
theorem lombardref02_Good.ok {x0 : Int} {r : Bool} (h : lombardref02_Good.f x0 = some r) : Pm.Spec prog 44 [.imm (.val (.int .i64 x0))] (.imm (.val (.bool r))) [none] := by
 unfold lombardref02_Good.f at h
 refine Pm.Spec.of_body Try.func44 rfl (by kernel_rfl) (Nat.le_of_ble_eq_true rfl) (Nat.le_of_ble_eq_true rfl) ?_
 refine W.ghost (σ' := (mkSt [(0, some (.i x0))] [] 1000)) (Gives.entry (.c rfl .n) .n) ?_
 refine W.seq ?_
 refine W.pk ?_
 refine .a rfl rfl rfl rfl ?_
 refine .nil ?_
 refine W.seq ?_
 refine W.fork (mkSt [(2, some (.b ((decide (x0 ≥ 0)) && (decide (x0 ≤ 200000)))))] [] 1000) ?_ ?_
 ·refine W.ret ?_
  cases h
  exact leaves (.inr rfl) rfl (.imm _) (cN .nil) rfl rfl
 ·clear h
  rcases tf (decide (x0 ≥ 0)) with g1 | g1
  ·refine W.pk ?_
   refine .m rfl rfl rfl rfl ?_
   refine .v rfl rfl (OpL.binI rfl rfl rfl rfl) ?_
   refine .m rfl rfl rfl rfl ?_
   refine .m rfl (met rfl rfl rfl g1) rfl rfl ?_
   refine .v rfl (met rfl rfl rfl g1) (OpL.binI rfl rfl rfl rfl) ?_
   refine .v rfl rfl (O.pickT g1 rfl rfl rfl) ?_
   refine .a rfl rfl rfl rfl ?_
   refine .nil ?_
   exact toN (Gives.mkR [] (.c rfl (sbb (by simp only [g1, Bool.true_or, Bool.or_true, Bool.false_or, Bool.or_false, Bool.true_and, Bool.and_true, Bool.false_and, Bool.and_false, Bool.not_true, Bool.not_false, cond_true, cond_false])) rfl .n) .n rfl rfl rfl)
  ·refine W.pk ?_
   refine .m rfl rfl rfl rfl ?_
   refine .v rfl rfl (OpL.binI rfl rfl rfl rfl) ?_
   refine .m rfl rfl rfl rfl ?_
   refine .x rfl (unmet rfl rfl rfl g1) ?_
   refine .x rfl (unmet rfl rfl rfl g1) ?_
   refine .v rfl rfl (O.pickF g1 rfl rfl rfl) ?_
   refine .a rfl rfl rfl rfl ?_
   refine .nil ?_
   exact toN (Gives.mkR [] (.c rfl (sbb (by simp only [g1, Bool.true_or, Bool.or_true, Bool.false_or, Bool.or_false, Bool.true_and, Bool.and_true, Bool.false_and, Bool.and_false, Bool.not_true, Bool.not_false, cond_true, cond_false])) rfl .n) .n rfl rfl rfl)

noncomputable def lombardref03_rated.f (x0 : Int) : Option (Bool) :=
  some ((decide (x0 ≥ (-1000000))) && (decide (x0 ≤ 1000000)))
set_option maxRecDepth 100000 in
set_option maxHeartbeats 4000000 in
theorem lombardref03_rated.ok {x0 : Int} {r : Bool} (h : lombardref03_rated.f x0 = some r) : Pm.Spec prog 59 [.imm (.val (.int .i64 x0))] (.imm (.val (.bool r))) [none] := by
 unfold lombardref03_rated.f at h
 refine Pm.Spec.of_body Try.func59 rfl (by kernel_rfl) (Nat.le_of_ble_eq_true rfl) (Nat.le_of_ble_eq_true rfl) ?_
 refine W.ghost (σ' := (mkSt [(0, some (.i x0))] [] 1000)) (Gives.entry (.c rfl .n) .n) ?_
 refine W.seq ?_
 refine W.pk ?_
 refine .a rfl rfl rfl rfl ?_
 refine .nil ?_
 refine W.seq ?_
 refine W.fork (mkSt [(2, some (.b ((decide (x0 ≥ (-1000000))) && (decide (x0 ≤ 1000000)))))] [] 1000) ?_ ?_
 ·refine W.ret ?_
  cases h
  exact leaves (.inr rfl) rfl (.imm _) (cN .nil) rfl rfl
 ·clear h
  rcases tf (decide (x0 ≥ (-1000000))) with g1 | g1
  ·refine W.pk ?_
   refine .m rfl rfl rfl rfl ?_
   refine .v rfl rfl (OpL.binI rfl rfl rfl rfl) ?_
   refine .m rfl rfl rfl rfl ?_
   refine .m rfl (met rfl rfl rfl g1) rfl rfl ?_
   refine .v rfl (met rfl rfl rfl g1) (OpL.binI rfl rfl rfl rfl) ?_
   refine .v rfl rfl (O.pickT g1 rfl rfl rfl) ?_
   refine .a rfl rfl rfl rfl ?_
   refine .nil ?_
   exact toN (Gives.mkR [] (.c rfl (sbb (by simp only [g1, Bool.true_or, Bool.or_true, Bool.false_or, Bool.or_false, Bool.true_and, Bool.and_true, Bool.false_and, Bool.and_false, Bool.not_true, Bool.not_false, cond_true, cond_false])) rfl .n) .n rfl rfl rfl)
  ·refine W.pk ?_
   refine .m rfl rfl rfl rfl ?_
   refine .v rfl rfl (OpL.binI rfl rfl rfl rfl) ?_
   refine .m rfl rfl rfl rfl ?_
   refine .x rfl (unmet rfl rfl rfl g1) ?_
   refine .x rfl (unmet rfl rfl rfl g1) ?_
   refine .v rfl rfl (O.pickF g1 rfl rfl rfl) ?_
   refine .a rfl rfl rfl rfl ?_
   refine .nil ?_
   exact toN (Gives.mkR [] (.c rfl (sbb (by simp only [g1, Bool.true_or, Bool.or_true, Bool.false_or, Bool.or_false, Bool.true_and, Bool.and_true, Bool.false_and, Bool.and_false, Bool.not_true, Bool.not_false, cond_true, cond_false])) rfl .n) .n rfl rfl rfl)

noncomputable def lombardref03_Check.b0 (x0 : List api_Reset) (v16 : Int) : Option (Int ⊕ (Int ⊕ Unit)) :=
  if (decide (v16 < (List.length x0 : Int))) = true then
    if (0 : Int) ≤ v16 ∧ v16 < (List.length x0 : Int) then
    (lombardref02_Good.f ((nth x0 v16).Day)).bind fun t49 =>
    if ((!t49) = false ∧ (decide (v16 > 0)) = true → (0 : Int) ≤ v16 ∧ v16 < (List.length x0 : Int)) then
    if ((!t49) = false ∧ (decide (v16 > 0)) = true → (0 : Int) ≤ (IntKind.wrap .i64 (v16 - 1)) ∧ (IntKind.wrap .i64 (v16 - 1)) < (List.length x0 : Int)) then
    if ((!t49) || ((decide (v16 > 0)) && (decide (((nth x0 v16).Day) ≤ ((nth x0 (IntKind.wrap .i64 (v16 - 1))).Day))))) = true then
      some (.inr (.inl 10))
    else
      if (0 : Int) ≤ v16 ∧ v16 < (List.length x0 : Int) then
      (lombardref03_rated.f ((nth x0 v16).Rate)).bind fun t57 =>
      if (!t57) = true then
        some (.inr (.inl 1))
      else
        some (.inl (IntKind.wrap .i64 (v16 + 1)))
      else none
    else none
    else none
    else none
  else
    some (.inr (.inr ()))
noncomputable def lombardref03_Check.r0 (x0 : List api_Reset) (s : Int) : Option (Int ⊕ (Int ⊕ Unit)) := lombardref03_Check.b0 x0 s
noncomputable def lombardref03_Check.f (x0 : List api_Reset) : Option (Int) :=
  if ((List.length x0 : Int) == 0) = true then
    some 6
  else
    if (decide ((List.length x0 : Int) > 64)) = true then
      some 2
    else
      (loop (lombardref03_Check.r0 x0) 0).bind fun o44 =>
      match o44 with
      | .inl r60 => some r60
      | .inr w43 =>
        some 0
set_option maxRecDepth 100000 in
set_option maxHeartbeats 4000000 in
theorem lombardref03_Check.ok {x0 : List api_Reset} {r : Int} (h : lombardref03_Check.f x0 = some r) : Pm.Spec prog 51 [.imm (.row 2 (List.map api_Reset.enc x0))] (.imm (.val (.int .i64 r))) [none] := by
 unfold lombardref03_Check.f at h
 refine Pm.Spec.of_body Try.func51 rfl (by kernel_rfl) (Nat.le_of_ble_eq_true rfl) (Nat.le_of_ble_eq_true rfl) ?_
 refine W.ghost (σ' := (mkSt [(0, some (.imm (.row 2 (List.map api_Reset.enc x0))))] [] 1000)) (Gives.entry (.c rfl .n) .n) ?_
 refine W.seq ?_
 refine W.pk ?_
 refine .a rfl rfl rfl rfl ?_
 refine .nil ?_
 refine W.seq ?_
 refine W.seq ?_
 refine W.pk ?_
 refine .m rfl rfl rfl rfl ?_
 refine .v rfl rfl (O.lenR sl22 rfl rfl) ?_
 refine .v rfl rfl (OpL.binI rfl rfl rfl rfl) ?_
 refine .nil ?_
 refine W.cond rfl (fun q1 => ?_) (fun q1 => ?_)
 ·have h := ifT q1 h
  refine W.seq ?_
  refine W.pk ?_
  refine .a rfl rfl rfl rfl ?_
  refine .nil ?_
  refine W.ret ?_
  cases h
  exact leaves (.inr rfl) rfl (.imm _) (cN .nil) rfl rfl
 ·have h := ifF q1 h
  refine W.skip ?_
  refine W.seq ?_
  refine W.seq ?_
  refine W.pk ?_
  refine .m rfl rfl rfl rfl ?_
  refine .v rfl rfl (O.lenR sl22 rfl rfl) ?_
  refine .v rfl rfl (OpL.binI rfl rfl rfl rfl) ?_
  refine .nil ?_
  refine W.cond rfl (fun q2 => ?_) (fun q2 => ?_)
  ·have h := ifT q2 h
   refine W.seq ?_
   refine W.pk ?_
   refine .a rfl rfl rfl rfl ?_
   refine .nil ?_
   refine W.ret ?_
   cases h
   exact leaves (.inr rfl) rfl (.imm _) (cN .nil) rfl rfl
  ·have h := ifF q2 h
   refine W.skip ?_
   refine W.seq ?_
   refine W.seq ?_
   refine W.pk ?_
   refine .a rfl rfl rfl rfl ?_
   refine .nil ?_
   obtain ⟨o44, b45, z46⟩ := bnd1 h
   refine W.fork2 (out := o44) (fun (w43 : Unit) => mkSt [] [] 1000) ?_ ?_
   ·clear h
    refine W.block ?_
    refine W.loopF (fun (s_ : Int) => mkSt [(0, some (.imm (.row 2 (List.map api_Reset.enc x0)))), (3, some (.i s_))] [] 1000) b45 (Gives.mkR [] (.r rfl rfl (.r rfl rfl .n)) .n rfl rfl rfl) ?_
    rintro v16 s_ hr
    have h : lombardref03_Check.b0 x0 v16 = some s_ := hr
    unfold lombardref03_Check.b0 at h
    refine W.seq ?_
    refine W.seq ?_
    refine W.pk ?_
    refine .m rfl rfl rfl rfl ?_
    refine .m rfl rfl rfl rfl ?_
    refine .v rfl rfl (O.lenR sl22 rfl rfl) ?_
    refine .v rfl rfl (OpL.binI rfl rfl rfl rfl) ?_
    refine .nil ?_
    refine W.cond rfl (fun q47 => ?_) (fun q47 => ?_)
    ·have h := ifT q47 h
     refine W.skip ?_
     refine W.seq ?_
     refine W.block ?_
     refine W.seq ?_
     refine W.seq ?_
     obtain ⟨c48, h⟩ := chk h
     obtain ⟨t49, b50, h⟩ := bnd1 h
     obtain ⟨c51, h⟩ := chk h
     obtain ⟨c52, h⟩ := chk h
     refine W.fork (mkSt [(0, some (.imm (.row 2 (List.map api_Reset.enc x0)))), (3, some (.i v16)), (40, some (.b ((!t49) || ((decide (v16 > 0)) && (decide (((nth x0 v16).Day) ≤ ((nth x0 (IntKind.wrap .i64 (v16 - 1))).Day)))))))] [] 1000) ?_ ?_
     ·refine W.cond rfl (fun q55 => ?_) (fun q55 => ?_)
      ·have h := ifT q55 h
       refine W.seq ?_
       refine W.pk ?_
       refine .a rfl rfl rfl rfl ?_
       refine .nil ?_
       refine W.ret ?_
       cases h
       refine rdR fun e_ => ?_
       subst e_
       have h := z46
       dsimp only at h
       refine fkR ?_
       cases h
       exact leaves (.inr rfl) rfl (.imm _) (cN .nil) rfl rfl
      ·have h := ifF q55 h
       refine W.skip ?_
       refine W.seq ?_
       obtain ⟨c56, h⟩ := chk h
       obtain ⟨t57, b58, h⟩ := bnd1 h
       refine W.pk ?_
       refine .m rfl rfl rfl rfl ?_
       refine .m rfl rfl rfl rfl ?_
       refine .v rfl rfl (O.idx sl22 c56 rfl rfl rfl) ?_
       refine .v rfl rfl (O.fld fld46_1 rfl rfl rfl) ?_
       refine .v rfl rfl (O.ld (y := .i ((nth x0 v16).Rate)) ty3 rfl rfl rfl) ?_
       refine .call (.b t57) [] 0 (lombardref03_rated.ok b58) rfl rfl rfl ca59 rfl rfl (cC (.imm _) .nil) rfl rfl rfl rfl rfl ?_
       refine .v rfl rfl (OpL.unV rfl rfl rfl) ?_
       refine .nil ?_
       refine W.cond rfl (fun q59 => ?_) (fun q59 => ?_)
       ·have h := ifT q59 h
        refine W.seq ?_
        refine W.pk ?_
        refine .a rfl rfl rfl rfl ?_
        refine .nil ?_
        refine W.ret ?_
        cases h
        refine rdR fun e_ => ?_
        subst e_
        have h := z46
        dsimp only at h
        refine fkR ?_
        cases h
        exact leaves (.inr rfl) rfl (.imm _) (cN .nil) rfl rfl
       ·have h := ifF q59 h
        refine W.skip ?_
        refine W.pk ?_
        refine .m rfl rfl rfl rfl ?_
        refine .v rfl rfl (OpL.binI rfl rfl rfl rfl) ?_
        refine .a rfl rfl rfl rfl ?_
        refine .nil ?_
        cases h
        exact rdN (Gives.mkR [] (.r rfl rfl (.r rfl rfl .n)) .n rfl rfl rfl)
     ·clear h
      rcases tf t49 with g53 | g53
      ·rcases tf (decide (v16 > 0)) with g54 | g54
       ·refine W.dk (unm 25 [0, 0, 3, 7, 15, 31, 63, 127, 255, 511, 1023, 2047, 2047, 8191, 16383, 32767, 2047, 2047, 133119, 460799, 985087, 2033663, 4194303, 8388607, 16777215]) rfl (by kernel_rfl) ?_
        refine .m rfl rfl rfl rfl ?_
        refine .m rfl rfl rfl rfl ?_
        refine .v rfl rfl (O.idx sl22 c48 rfl rfl rfl) ?_
        refine .v rfl rfl (O.fld fld46_0 rfl rfl rfl) ?_
        refine .v rfl rfl (O.ld (y := .i ((nth x0 v16).Day)) ty3 rfl rfl rfl) ?_
        refine .call (.b t49) [] 0 (lombardref02_Good.ok b50) rfl rfl rfl ca44 rfl rfl (cC (.imm _) .nil) rfl rfl rfl rfl rfl ?_
        refine .v rfl rfl (OpL.unV rfl rfl rfl) ?_
        refine .m rfl rfl rfl rfl ?_
        refine .m rfl (met rfl rfl rfl (notT g53)) rfl rfl ?_
        refine .v rfl (met rfl rfl rfl (notT g53)) (OpL.binI rfl rfl rfl rfl) ?_
        refine .m rfl (met rfl rfl rfl (notT g53)) rfl rfl ?_
        refine .m rfl (met rfl rfl rfl g54) rfl rfl ?_
        refine .m rfl (met rfl rfl rfl g54) rfl rfl ?_
        refine .v rfl (met rfl rfl rfl g54) (O.idx sl22 (c51 ⟨(by first | (simp only [g53, g54, Bool.true_or, Bool.or_true, Bool.false_or, Bool.or_false, Bool.true_and, Bool.and_true, Bool.false_and, Bool.and_false, Bool.not_true, Bool.not_false, cond_true, cond_false]; done) | (repeat (first | rw [g53] | rw [g54])) <;> simp only [Bool.true_or, Bool.or_true, Bool.false_or, Bool.or_false, Bool.true_and, Bool.and_true, Bool.false_and, Bool.and_false, Bool.not_true, Bool.not_false, cond_true, cond_false]), (by first | (simp only [g53, g54, Bool.true_or, Bool.or_true, Bool.false_or, Bool.or_false, Bool.true_and, Bool.and_true, Bool.false_and, Bool.and_false, Bool.not_true, Bool.not_false, cond_true, cond_false]; done) | (repeat (first | rw [g53] | rw [g54])) <;> simp only [Bool.true_or, Bool.or_true, Bool.false_or, Bool.or_false, Bool.true_and, Bool.and_true, Bool.false_and, Bool.and_false, Bool.not_true, Bool.not_false, cond_true, cond_false])⟩) rfl rfl rfl) ?_
        refine .v rfl (met rfl rfl rfl g54) (O.fld fld46_0 rfl rfl rfl) ?_
        refine .v rfl (met rfl rfl rfl g54) (O.ld (y := .i ((nth x0 v16).Day)) ty3 rfl rfl rfl) ?_
        refine .m rfl (met rfl rfl rfl g54) rfl rfl ?_
        refine .m rfl (met rfl rfl rfl g54) rfl rfl ?_
        refine .v rfl (met rfl rfl rfl g54) (OpL.binI rfl rfl rfl rfl) ?_
        refine .v rfl (met rfl rfl rfl g54) (O.idx sl22 (c52 ⟨(by first | (simp only [g53, g54, Bool.true_or, Bool.or_true, Bool.false_or, Bool.or_false, Bool.true_and, Bool.and_true, Bool.false_and, Bool.and_false, Bool.not_true, Bool.not_false, cond_true, cond_false]; done) | (repeat (first | rw [g53] | rw [g54])) <;> simp only [Bool.true_or, Bool.or_true, Bool.false_or, Bool.or_false, Bool.true_and, Bool.and_true, Bool.false_and, Bool.and_false, Bool.not_true, Bool.not_false, cond_true, cond_false]), (by first | (simp only [g53, g54, Bool.true_or, Bool.or_true, Bool.false_or, Bool.or_false, Bool.true_and, Bool.and_true, Bool.false_and, Bool.and_false, Bool.not_true, Bool.not_false, cond_true, cond_false]; done) | (repeat (first | rw [g53] | rw [g54])) <;> simp only [Bool.true_or, Bool.or_true, Bool.false_or, Bool.or_false, Bool.true_and, Bool.and_true, Bool.false_and, Bool.and_false, Bool.not_true, Bool.not_false, cond_true, cond_false])⟩) rfl rfl rfl) ?_
        refine .v rfl (met rfl rfl rfl g54) (O.fld fld46_0 rfl rfl rfl) ?_
        refine .v rfl (met rfl rfl rfl g54) (O.ld (y := .i ((nth x0 (IntKind.wrap .i64 (v16 - 1))).Day)) ty3 rfl rfl rfl) ?_
        refine .v rfl (met rfl rfl rfl g54) (OpL.binI rfl rfl rfl rfl) ?_
        refine .v rfl (met rfl rfl rfl (notT g53)) (O.pickT g54 rfl rfl rfl) ?_
        refine .v rfl rfl (O.pickF (notT g53) rfl rfl rfl) ?_
        refine .nil ?_
        refine ⟨by kernel_rfl, by kernel_rfl, ?_⟩
        exact toN (Gives.mkR [] (.r rfl rfl (.r rfl rfl (.c rfl (sbb (by first | (simp only [g53, g54, Bool.true_or, Bool.or_true, Bool.false_or, Bool.or_false, Bool.true_and, Bool.and_true, Bool.false_and, Bool.and_false, Bool.not_true, Bool.not_false, cond_true, cond_false]; done) | (repeat (first | rw [g53] | rw [g54])) <;> simp only [Bool.true_or, Bool.or_true, Bool.false_or, Bool.or_false, Bool.true_and, Bool.and_true, Bool.false_and, Bool.and_false, Bool.not_true, Bool.not_false, cond_true, cond_false])) rfl .n))) .n rfl rfl rfl)
       ·refine W.dk (unm 25 [0, 0, 3, 7, 15, 31, 63, 127, 255, 511, 1023, 2047, 2047, 8191, 16383, 32767, 2047, 2047, 133119, 460799, 985087, 2033663, 4194303, 8388607, 16777215]) rfl (by kernel_rfl) ?_
        refine .m rfl rfl rfl rfl ?_
        refine .m rfl rfl rfl rfl ?_
        refine .v rfl rfl (O.idx sl22 c48 rfl rfl rfl) ?_
        refine .v rfl rfl (O.fld fld46_0 rfl rfl rfl) ?_
        refine .v rfl rfl (O.ld (y := .i ((nth x0 v16).Day)) ty3 rfl rfl rfl) ?_
        refine .call (.b t49) [] 0 (lombardref02_Good.ok b50) rfl rfl rfl ca44 rfl rfl (cC (.imm _) .nil) rfl rfl rfl rfl rfl ?_
        refine .v rfl rfl (OpL.unV rfl rfl rfl) ?_
        refine .m rfl rfl rfl rfl ?_
        refine .m rfl (met rfl rfl rfl (notT g53)) rfl rfl ?_
        refine .v rfl (met rfl rfl rfl (notT g53)) (OpL.binI rfl rfl rfl rfl) ?_
        refine .m rfl (met rfl rfl rfl (notT g53)) rfl rfl ?_
        refine .x rfl (unmet rfl rfl rfl g54) ?_
        refine .x rfl (unmet rfl rfl rfl g54) ?_
        refine .x rfl (unmet rfl rfl rfl g54) ?_
        refine .x rfl (unmet rfl rfl rfl g54) ?_
        refine .x rfl (unmet rfl rfl rfl g54) ?_
        refine .x rfl (unmet rfl rfl rfl g54) ?_
        refine .x rfl (unmet rfl rfl rfl g54) ?_
        refine .x rfl (unmet rfl rfl rfl g54) ?_
        refine .x rfl (unmet rfl rfl rfl g54) ?_
        refine .x rfl (unmet rfl rfl rfl g54) ?_
        refine .x rfl (unmet rfl rfl rfl g54) ?_
        refine .x rfl (unmet rfl rfl rfl g54) ?_
        refine .v rfl (met rfl rfl rfl (notT g53)) (O.pickF g54 rfl rfl rfl) ?_
        refine .v rfl rfl (O.pickF (notT g53) rfl rfl rfl) ?_
        refine .nil ?_
        refine ⟨by kernel_rfl, by kernel_rfl, ?_⟩
        exact toN (Gives.mkR [] (.r rfl rfl (.r rfl rfl (.c rfl (sbb (by first | (simp only [g53, g54, Bool.true_or, Bool.or_true, Bool.false_or, Bool.or_false, Bool.true_and, Bool.and_true, Bool.false_and, Bool.and_false, Bool.not_true, Bool.not_false, cond_true, cond_false]; done) | (repeat (first | rw [g53] | rw [g54])) <;> simp only [Bool.true_or, Bool.or_true, Bool.false_or, Bool.or_false, Bool.true_and, Bool.and_true, Bool.false_and, Bool.and_false, Bool.not_true, Bool.not_false, cond_true, cond_false])) rfl .n))) .n rfl rfl rfl)
      ·refine W.dk (unm 25 [0, 0, 3, 7, 15, 31, 63, 127, 255, 511, 1023, 2047, 2047, 8191, 16383, 32767, 2047, 2047, 133119, 460799, 985087, 2033663, 4194303, 8388607, 16777215]) rfl (by kernel_rfl) ?_
       refine .m rfl rfl rfl rfl ?_
       refine .m rfl rfl rfl rfl ?_
       refine .v rfl rfl (O.idx sl22 c48 rfl rfl rfl) ?_
       refine .v rfl rfl (O.fld fld46_0 rfl rfl rfl) ?_
       refine .v rfl rfl (O.ld (y := .i ((nth x0 v16).Day)) ty3 rfl rfl rfl) ?_
       refine .call (.b t49) [] 0 (lombardref02_Good.ok b50) rfl rfl rfl ca44 rfl rfl (cC (.imm _) .nil) rfl rfl rfl rfl rfl ?_
       refine .v rfl rfl (OpL.unV rfl rfl rfl) ?_
       refine .m rfl rfl rfl rfl ?_
       refine .x rfl (unmet rfl rfl rfl (notF g53)) ?_
       refine .x rfl (unmet rfl rfl rfl (notF g53)) ?_
       refine .x rfl (unmet rfl rfl rfl (notF g53)) ?_
       refine .x rfl (unmetU rfl rfl rfl) ?_
       refine .x rfl (unmetU rfl rfl rfl) ?_
       refine .x rfl (unmetU rfl rfl rfl) ?_
       refine .x rfl (unmetU rfl rfl rfl) ?_
       refine .x rfl (unmetU rfl rfl rfl) ?_
       refine .x rfl (unmetU rfl rfl rfl) ?_
       refine .x rfl (unmetU rfl rfl rfl) ?_
       refine .x rfl (unmetU rfl rfl rfl) ?_
       refine .x rfl (unmetU rfl rfl rfl) ?_
       refine .x rfl (unmetU rfl rfl rfl) ?_
       refine .x rfl (unmetU rfl rfl rfl) ?_
       refine .x rfl (unmetU rfl rfl rfl) ?_
       refine .x rfl (unmet rfl rfl rfl (notF g53)) ?_
       refine .v rfl rfl (O.pickT (notF g53) rfl rfl rfl) ?_
       refine .nil ?_
       refine ⟨by kernel_rfl, by kernel_rfl, ?_⟩
       exact toN (Gives.mkR [] (.r rfl rfl (.r rfl rfl (.c rfl (sbb (by simp only [g53, Bool.true_or, Bool.or_true, Bool.false_or, Bool.or_false, Bool.true_and, Bool.and_true, Bool.false_and, Bool.and_false, Bool.not_true, Bool.not_false, cond_true, cond_false])) rfl .n))) .n rfl rfl rfl)
    ·have h := ifF q47 h
     refine W.exit ?_
     cases h
     refine rdX fun e_ => ?_
     subst e_
     repeat with_reducible refine thru ?_
     refine hit ?_
     exact fkN (Gives.mkR [] .n .n rfl rfl rfl)
   ·intro w43 e_
    subst e_
    clear h
    have h := z46
    dsimp only at h
    refine W.seq ?_
    refine W.pk ?_
    refine .a rfl rfl rfl rfl ?_
    refine .nil ?_
    refine W.ret ?_
    cases h
    exact leaves (.inr rfl) rfl (.imm _) (cN .nil) rfl rfl

noncomputable def lombardref23_Terms.f (x0 : api_Fill) : Option (Int) :=
  (lombardref23_in.f x0.Basket 1 64).bind fun t1 =>
  (if (!t1) = false then lombardref23_in.f x0.Amount 1 1125899906842624 else some default).bind fun t3 =>
  (if ((!t1) || (!t3)) = false then lombardref23_in.f x0.Rate (-1000000) 1000000 else some default).bind fun t5 =>
  if (((!t1) || (!t3)) || (!t5)) = true then
    some 1
  else
    (lombardref02_Good.f x0.Start).bind fun t10 =>
    (if (!t10) = false ∧ (x0.End != 0) = true then lombardref02_Good.f x0.End else some default).bind fun t12 =>
    (if (!t10) = false ∧ (x0.End != 0) = true ∧ (!t12) = false then lombardref23_in.f (IntKind.wrap .i64 (x0.End - x0.Start)) 1 3660 else some default).bind fun t14 =>
    if ((!t10) || ((x0.End != 0) && ((!t12) || (!t14)))) = true then
      some 10
    else
      some 0
set_option maxRecDepth 100000 in
set_option maxHeartbeats 4000000 in
theorem lombardref23_Terms.ok {x0 : api_Fill} {r : Int} (h : lombardref23_Terms.f x0 = some r) : Pm.Spec prog 52 [.agg [.imm (.val (.int .i64 x0.Lender)), .imm (.val (.int .i64 x0.Borrower)), .imm (.val (.int .i64 x0.Basket)), .imm (.val (.int .i64 x0.Amount)), .imm (.val (.int .i64 x0.Rate)), .imm (.val (.int .i64 x0.Start)), .imm (.val (.int .i64 x0.End))]] (.imm (.val (.int .i64 r))) [none] := by
 unfold lombardref23_Terms.f at h
 refine Pm.Spec.of_body Try.func52 rfl (by kernel_rfl) (Nat.le_of_ble_eq_true rfl) (Nat.le_of_ble_eq_true rfl) ?_
 refine W.ghost (σ' := (mkSt [(0, some (.agg (api_Fill.av x0)))] [] 1000)) (Gives.entry (.c rfl .n) .n) ?_
 refine W.seq ?_
 refine W.pk ?_
 refine .t rfl rfl (O.box rfl rfl rfl rfl rfl) ?_
 refine .a rfl rfl rfl rfl ?_
 refine .nil ?_
 refine W.seq ?_
 refine W.seq ?_
 obtain ⟨t1, b2, h⟩ := bnd1 h
 obtain ⟨t3, b4, h⟩ := bnd1 h
 obtain ⟨t5, b6, h⟩ := bnd1 h
 refine W.fork (mkSt [(1, some (.ptr 1000 0)), (18, some (.b (((!t1) || (!t3)) || (!t5))))] [(1000, some (.box [.i x0.Lender, .i x0.Borrower, .i x0.Basket, .i x0.Amount, .i x0.Rate, .i x0.Start, .i x0.End]))] 1001) ?_ ?_
 ·refine W.cond rfl (fun q9 => ?_) (fun q9 => ?_)
  ·have h := ifT q9 h
   refine W.seq ?_
   refine W.pk ?_
   refine .a rfl rfl rfl rfl ?_
   refine .nil ?_
   refine W.ret ?_
   cases h
   exact leaves (.inr rfl) rfl (.imm _) (cN .nil) rfl rfl
  ·have h := ifF q9 h
   refine W.skip ?_
   refine W.seq ?_
   refine W.seq ?_
   obtain ⟨t10, b11, h⟩ := bnd1 h
   obtain ⟨t12, b13, h⟩ := bnd1 h
   obtain ⟨t14, b15, h⟩ := bnd1 h
   refine W.fork (mkSt [(42, some (.b ((!t10) || ((x0.End != 0) && ((!t12) || (!t14))))))] [] 1001) ?_ ?_
   ·refine W.cond rfl (fun q19 => ?_) (fun q19 => ?_)
    ·have h := ifT q19 h
     refine W.seq ?_
     refine W.pk ?_
     refine .a rfl rfl rfl rfl ?_
     refine .nil ?_
     refine W.ret ?_
     cases h
     exact leaves (.inr rfl) rfl (.imm _) (cN .nil) rfl rfl
    ·have h := ifF q19 h
     refine W.skip ?_
     refine W.seq ?_
     refine W.pk ?_
     refine .a rfl rfl rfl rfl ?_
     refine .nil ?_
     refine W.ret ?_
     cases h
     exact leaves (.inr rfl) rfl (.imm _) (cN .nil) rfl rfl
   ·clear h
    rcases tf t10 with g16 | g16
    ·rcases tf (x0.End != 0) with g17 | g17
     ·rcases tf t12 with g18 | g18
      ·refine W.pk ?_
       refine .v rfl rfl (O.fld fld38_5 rfl rfl rfl) ?_
       refine .v rfl rfl (O.ld (y := .i x0.Start) ty3 rfl rfl rfl) ?_
       refine .call (.b t10) [] 0 (lombardref02_Good.ok b11) rfl rfl rfl ca44 rfl rfl (cC (.imm _) .nil) rfl rfl rfl rfl rfl ?_
       refine .v rfl rfl (OpL.unV rfl rfl rfl) ?_
       refine .m rfl rfl rfl rfl ?_
       refine .v rfl (met rfl rfl rfl (notT g16)) (O.fld fld38_6 rfl rfl rfl) ?_
       refine .v rfl (met rfl rfl rfl (notT g16)) (O.ld (y := .i x0.End) ty3 rfl rfl rfl) ?_
       refine .v rfl (met rfl rfl rfl (notT g16)) (OpL.binI rfl rfl rfl rfl) ?_
       refine .m rfl (met rfl rfl rfl (notT g16)) rfl rfl ?_
       refine .v rfl (met rfl rfl rfl g17) (O.fld fld38_6 rfl rfl rfl) ?_
       refine .v rfl (met rfl rfl rfl g17) (O.ld (y := .i x0.End) ty3 rfl rfl rfl) ?_
       refine .call (.b t12) [] 0 (lombardref02_Good.ok ((if_pos ⟨(by first | (simp only [g16, g17, g18, Bool.true_or, Bool.or_true, Bool.false_or, Bool.or_false, Bool.true_and, Bool.and_true, Bool.false_and, Bool.and_false, Bool.not_true, Bool.not_false, cond_true, cond_false]; done) | (repeat (first | rw [g16] | rw [g17] | rw [g18])) <;> simp only [Bool.true_or, Bool.or_true, Bool.false_or, Bool.or_false, Bool.true_and, Bool.and_true, Bool.false_and, Bool.and_false, Bool.not_true, Bool.not_false, cond_true, cond_false]), (by first | (simp only [g16, g17, g18, Bool.true_or, Bool.or_true, Bool.false_or, Bool.or_false, Bool.true_and, Bool.and_true, Bool.false_and, Bool.and_false, Bool.not_true, Bool.not_false, cond_true, cond_false]; done) | (repeat (first | rw [g16] | rw [g17] | rw [g18])) <;> simp only [Bool.true_or, Bool.or_true, Bool.false_or, Bool.or_false, Bool.true_and, Bool.and_true, Bool.false_and, Bool.and_false, Bool.not_true, Bool.not_false, cond_true, cond_false])⟩).symm.trans b13)) rfl (met rfl rfl rfl g17) rfl ca44 rfl rfl (cC (.imm _) .nil) rfl rfl rfl rfl rfl ?_
       refine .v rfl (met rfl rfl rfl g17) (OpL.unV rfl rfl rfl) ?_
       refine .m rfl (met rfl rfl rfl g17) rfl rfl ?_
       refine .v rfl (met rfl rfl rfl (notT g18)) (O.fld fld38_6 rfl rfl rfl) ?_
       refine .v rfl (met rfl rfl rfl (notT g18)) (O.ld (y := .i x0.End) ty3 rfl rfl rfl) ?_
       refine .v rfl (met rfl rfl rfl (notT g18)) (O.fld fld38_5 rfl rfl rfl) ?_
       refine .v rfl (met rfl rfl rfl (notT g18)) (O.ld (y := .i x0.Start) ty3 rfl rfl rfl) ?_
       refine .v rfl (met rfl rfl rfl (notT g18)) (OpL.binI rfl rfl rfl rfl) ?_
       refine .call (.b t14) [] 0 (lombardref23_in.ok ((if_pos ⟨(by first | (simp only [g16, g17, g18, Bool.true_or, Bool.or_true, Bool.false_or, Bool.or_false, Bool.true_and, Bool.and_true, Bool.false_and, Bool.and_false, Bool.not_true, Bool.not_false, cond_true, cond_false]; done) | (repeat (first | rw [g16] | rw [g17] | rw [g18])) <;> simp only [Bool.true_or, Bool.or_true, Bool.false_or, Bool.or_false, Bool.true_and, Bool.and_true, Bool.false_and, Bool.and_false, Bool.not_true, Bool.not_false, cond_true, cond_false]), (by first | (simp only [g16, g17, g18, Bool.true_or, Bool.or_true, Bool.false_or, Bool.or_false, Bool.true_and, Bool.and_true, Bool.false_and, Bool.and_false, Bool.not_true, Bool.not_false, cond_true, cond_false]; done) | (repeat (first | rw [g16] | rw [g17] | rw [g18])) <;> simp only [Bool.true_or, Bool.or_true, Bool.false_or, Bool.or_false, Bool.true_and, Bool.and_true, Bool.false_and, Bool.and_false, Bool.not_true, Bool.not_false, cond_true, cond_false]), (by first | (simp only [g16, g17, g18, Bool.true_or, Bool.or_true, Bool.false_or, Bool.or_false, Bool.true_and, Bool.and_true, Bool.false_and, Bool.and_false, Bool.not_true, Bool.not_false, cond_true, cond_false]; done) | (repeat (first | rw [g16] | rw [g17] | rw [g18])) <;> simp only [Bool.true_or, Bool.or_true, Bool.false_or, Bool.or_false, Bool.true_and, Bool.and_true, Bool.false_and, Bool.and_false, Bool.not_true, Bool.not_false, cond_true, cond_false])⟩).symm.trans b15)) rfl (met rfl rfl rfl (notT g18)) rfl ca50 rfl rfl (cC (.imm _) (cC (.imm _) (cC (.imm _) .nil))) rfl rfl rfl rfl rfl ?_
       refine .v rfl (met rfl rfl rfl (notT g18)) (OpL.unV rfl rfl rfl) ?_
       refine .v rfl (met rfl rfl rfl g17) (O.pickF (notT g18) rfl rfl rfl) ?_
       refine .v rfl (met rfl rfl rfl (notT g16)) (O.pickT g17 rfl rfl rfl) ?_
       refine .v rfl rfl (O.pickF (notT g16) rfl rfl rfl) ?_
       refine .nil ?_
       exact toN (Gives.mkR [] (.c rfl (sbb (by first | (simp only [g16, g17, g18, Bool.true_or, Bool.or_true, Bool.false_or, Bool.or_false, Bool.true_and, Bool.and_true, Bool.false_and, Bool.and_false, Bool.not_true, Bool.not_false, cond_true, cond_false]; done) | (repeat (first | rw [g16] | rw [g17] | rw [g18])) <;> simp only [Bool.true_or, Bool.or_true, Bool.false_or, Bool.or_false, Bool.true_and, Bool.and_true, Bool.false_and, Bool.and_false, Bool.not_true, Bool.not_false, cond_true, cond_false])) rfl .n) .n rfl rfl rfl)
      ·refine W.pk ?_
       refine .v rfl rfl (O.fld fld38_5 rfl rfl rfl) ?_
       refine .v rfl rfl (O.ld (y := .i x0.Start) ty3 rfl rfl rfl) ?_
       refine .call (.b t10) [] 0 (lombardref02_Good.ok b11) rfl rfl rfl ca44 rfl rfl (cC (.imm _) .nil) rfl rfl rfl rfl rfl ?_
       refine .v rfl rfl (OpL.unV rfl rfl rfl) ?_
       refine .m rfl rfl rfl rfl ?_
       refine .v rfl (met rfl rfl rfl (notT g16)) (O.fld fld38_6 rfl rfl rfl) ?_
       refine .v rfl (met rfl rfl rfl (notT g16)) (O.ld (y := .i x0.End) ty3 rfl rfl rfl) ?_
       refine .v rfl (met rfl rfl rfl (notT g16)) (OpL.binI rfl rfl rfl rfl) ?_
       refine .m rfl (met rfl rfl rfl (notT g16)) rfl rfl ?_
       refine .v rfl (met rfl rfl rfl g17) (O.fld fld38_6 rfl rfl rfl) ?_
       refine .v rfl (met rfl rfl rfl g17) (O.ld (y := .i x0.End) ty3 rfl rfl rfl) ?_
       refine .call (.b t12) [] 0 (lombardref02_Good.ok ((if_pos ⟨(by first | (simp only [g16, g17, g18, Bool.true_or, Bool.or_true, Bool.false_or, Bool.or_false, Bool.true_and, Bool.and_true, Bool.false_and, Bool.and_false, Bool.not_true, Bool.not_false, cond_true, cond_false]; done) | (repeat (first | rw [g16] | rw [g17] | rw [g18])) <;> simp only [Bool.true_or, Bool.or_true, Bool.false_or, Bool.or_false, Bool.true_and, Bool.and_true, Bool.false_and, Bool.and_false, Bool.not_true, Bool.not_false, cond_true, cond_false]), (by first | (simp only [g16, g17, g18, Bool.true_or, Bool.or_true, Bool.false_or, Bool.or_false, Bool.true_and, Bool.and_true, Bool.false_and, Bool.and_false, Bool.not_true, Bool.not_false, cond_true, cond_false]; done) | (repeat (first | rw [g16] | rw [g17] | rw [g18])) <;> simp only [Bool.true_or, Bool.or_true, Bool.false_or, Bool.or_false, Bool.true_and, Bool.and_true, Bool.false_and, Bool.and_false, Bool.not_true, Bool.not_false, cond_true, cond_false])⟩).symm.trans b13)) rfl (met rfl rfl rfl g17) rfl ca44 rfl rfl (cC (.imm _) .nil) rfl rfl rfl rfl rfl ?_
       refine .v rfl (met rfl rfl rfl g17) (OpL.unV rfl rfl rfl) ?_
       refine .m rfl (met rfl rfl rfl g17) rfl rfl ?_
       refine .x rfl (unmet rfl rfl rfl (notF g18)) ?_
       refine .x rfl (unmet rfl rfl rfl (notF g18)) ?_
       refine .x rfl (unmet rfl rfl rfl (notF g18)) ?_
       refine .x rfl (unmet rfl rfl rfl (notF g18)) ?_
       refine .x rfl (unmet rfl rfl rfl (notF g18)) ?_
       refine .x rfl (unmet rfl rfl rfl (notF g18)) ?_
       refine .x rfl (unmet rfl rfl rfl (notF g18)) ?_
       refine .v rfl (met rfl rfl rfl g17) (O.pickT (notF g18) rfl rfl rfl) ?_
       refine .v rfl (met rfl rfl rfl (notT g16)) (O.pickT g17 rfl rfl rfl) ?_
       refine .v rfl rfl (O.pickF (notT g16) rfl rfl rfl) ?_
       refine .nil ?_
       exact toN (Gives.mkR [] (.c rfl (sbb (by first | (simp only [g16, g17, g18, Bool.true_or, Bool.or_true, Bool.false_or, Bool.or_false, Bool.true_and, Bool.and_true, Bool.false_and, Bool.and_false, Bool.not_true, Bool.not_false, cond_true, cond_false]; done) | (repeat (first | rw [g16] | rw [g17] | rw [g18])) <;> simp only [Bool.true_or, Bool.or_true, Bool.false_or, Bool.or_false, Bool.true_and, Bool.and_true, Bool.false_and, Bool.and_false, Bool.not_true, Bool.not_false, cond_true, cond_false])) rfl .n) .n rfl rfl rfl)
     ·refine W.pk ?_
      refine .v rfl rfl (O.fld fld38_5 rfl rfl rfl) ?_
      refine .v rfl rfl (O.ld (y := .i x0.Start) ty3 rfl rfl rfl) ?_
      refine .call (.b t10) [] 0 (lombardref02_Good.ok b11) rfl rfl rfl ca44 rfl rfl (cC (.imm _) .nil) rfl rfl rfl rfl rfl ?_
      refine .v rfl rfl (OpL.unV rfl rfl rfl) ?_
      refine .m rfl rfl rfl rfl ?_
      refine .v rfl (met rfl rfl rfl (notT g16)) (O.fld fld38_6 rfl rfl rfl) ?_
      refine .v rfl (met rfl rfl rfl (notT g16)) (O.ld (y := .i x0.End) ty3 rfl rfl rfl) ?_
      refine .v rfl (met rfl rfl rfl (notT g16)) (OpL.binI rfl rfl rfl rfl) ?_
      refine .m rfl (met rfl rfl rfl (notT g16)) rfl rfl ?_
      refine .x rfl (unmet rfl rfl rfl g17) ?_
      refine .x rfl (unmet rfl rfl rfl g17) ?_
      refine .x rfl (unmet rfl rfl rfl g17) ?_
      refine .x rfl (unmet rfl rfl rfl g17) ?_
      refine .x rfl (unmet rfl rfl rfl g17) ?_
      refine .x rfl (unmetU rfl rfl rfl) ?_
      refine .x rfl (unmetU rfl rfl rfl) ?_
      refine .x rfl (unmetU rfl rfl rfl) ?_
      refine .x rfl (unmetU rfl rfl rfl) ?_
      refine .x rfl (unmetU rfl rfl rfl) ?_
      refine .x rfl (unmetU rfl rfl rfl) ?_
      refine .x rfl (unmetU rfl rfl rfl) ?_
      refine .x rfl (unmet rfl rfl rfl g17) ?_
      refine .v rfl (met rfl rfl rfl (notT g16)) (O.pickF g17 rfl rfl rfl) ?_
      refine .v rfl rfl (O.pickF (notT g16) rfl rfl rfl) ?_
      refine .nil ?_
      exact toN (Gives.mkR [] (.c rfl (sbb (by first | (simp only [g16, g17, Bool.true_or, Bool.or_true, Bool.false_or, Bool.or_false, Bool.true_and, Bool.and_true, Bool.false_and, Bool.and_false, Bool.not_true, Bool.not_false, cond_true, cond_false]; done) | (repeat (first | rw [g16] | rw [g17])) <;> simp only [Bool.true_or, Bool.or_true, Bool.false_or, Bool.or_false, Bool.true_and, Bool.and_true, Bool.false_and, Bool.and_false, Bool.not_true, Bool.not_false, cond_true, cond_false])) rfl .n) .n rfl rfl rfl)
    ·refine W.pk ?_
     refine .v rfl rfl (O.fld fld38_5 rfl rfl rfl) ?_
     refine .v rfl rfl (O.ld (y := .i x0.Start) ty3 rfl rfl rfl) ?_
     refine .call (.b t10) [] 0 (lombardref02_Good.ok b11) rfl rfl rfl ca44 rfl rfl (cC (.imm _) .nil) rfl rfl rfl rfl rfl ?_
     refine .v rfl rfl (OpL.unV rfl rfl rfl) ?_
     refine .m rfl rfl rfl rfl ?_
     refine .x rfl (unmet rfl rfl rfl (notF g16)) ?_
     refine .x rfl (unmet rfl rfl rfl (notF g16)) ?_
     refine .x rfl (unmet rfl rfl rfl (notF g16)) ?_
     refine .x rfl (unmet rfl rfl rfl (notF g16)) ?_
     refine .x rfl (unmetU rfl rfl rfl) ?_
     refine .x rfl (unmetU rfl rfl rfl) ?_
     refine .x rfl (unmetU rfl rfl rfl) ?_
     refine .x rfl (unmetU rfl rfl rfl) ?_
     refine .x rfl (unmetU rfl rfl rfl) ?_
     refine .x rfl (unmetU rfl rfl rfl) ?_
     refine .x rfl (unmetU rfl rfl rfl) ?_
     refine .x rfl (unmetU rfl rfl rfl) ?_
     refine .x rfl (unmetU rfl rfl rfl) ?_
     refine .x rfl (unmetU rfl rfl rfl) ?_
     refine .x rfl (unmetU rfl rfl rfl) ?_
     refine .x rfl (unmetU rfl rfl rfl) ?_
     refine .x rfl (unmetU rfl rfl rfl) ?_
     refine .x rfl (unmet rfl rfl rfl (notF g16)) ?_
     refine .v rfl rfl (O.pickT (notF g16) rfl rfl rfl) ?_
     refine .nil ?_
     exact toN (Gives.mkR [] (.c rfl (sbb (by simp only [g16, Bool.true_or, Bool.or_true, Bool.false_or, Bool.or_false, Bool.true_and, Bool.and_true, Bool.false_and, Bool.and_false, Bool.not_true, Bool.not_false, cond_true, cond_false])) rfl .n) .n rfl rfl rfl)
 ·clear h
  rcases tf t1 with g7 | g7
  ·rcases tf t3 with g8 | g8
   ·refine W.pk ?_
    refine .v rfl rfl (O.fld fld38_2 rfl rfl rfl) ?_
    refine .v rfl rfl (O.ld (y := .i x0.Basket) ty3 rfl rfl rfl) ?_
    refine .call (.b t1) [] 0 (lombardref23_in.ok b2) rfl rfl rfl ca50 rfl rfl (cC (.imm _) (cC (.imm _) (cC (.imm _) .nil))) rfl rfl rfl rfl rfl ?_
    refine .v rfl rfl (OpL.unV rfl rfl rfl) ?_
    refine .m rfl rfl rfl rfl ?_
    refine .v rfl (met rfl rfl rfl (notT g7)) (O.fld fld38_3 rfl rfl rfl) ?_
    refine .v rfl (met rfl rfl rfl (notT g7)) (O.ld (y := .i x0.Amount) ty3 rfl rfl rfl) ?_
    refine .call (.b t3) [] 0 (lombardref23_in.ok ((if_pos (by first | (simp only [g7, g8, Bool.true_or, Bool.or_true, Bool.false_or, Bool.or_false, Bool.true_and, Bool.and_true, Bool.false_and, Bool.and_false, Bool.not_true, Bool.not_false, cond_true, cond_false]; done) | (repeat (first | rw [g7] | rw [g8])) <;> simp only [Bool.true_or, Bool.or_true, Bool.false_or, Bool.or_false, Bool.true_and, Bool.and_true, Bool.false_and, Bool.and_false, Bool.not_true, Bool.not_false, cond_true, cond_false])).symm.trans b4)) rfl (met rfl rfl rfl (notT g7)) rfl ca50 rfl rfl (cC (.imm _) (cC (.imm _) (cC (.imm _) .nil))) rfl rfl rfl rfl rfl ?_
    refine .v rfl (met rfl rfl rfl (notT g7)) (OpL.unV rfl rfl rfl) ?_
    refine .v rfl rfl (O.pickF (notT g7) rfl rfl rfl) ?_
    refine .m rfl rfl rfl rfl ?_
    refine .v rfl (met rfl rfl rfl (notT g8)) (O.fld fld38_4 rfl rfl rfl) ?_
    refine .v rfl (met rfl rfl rfl (notT g8)) (O.ld (y := .i x0.Rate) ty3 rfl rfl rfl) ?_
    refine .call (.b t5) [] 0 (lombardref23_in.ok ((if_pos (by first | (simp only [g7, g8, Bool.true_or, Bool.or_true, Bool.false_or, Bool.or_false, Bool.true_and, Bool.and_true, Bool.false_and, Bool.and_false, Bool.not_true, Bool.not_false, cond_true, cond_false]; done) | (repeat (first | rw [g7] | rw [g8])) <;> simp only [Bool.true_or, Bool.or_true, Bool.false_or, Bool.or_false, Bool.true_and, Bool.and_true, Bool.false_and, Bool.and_false, Bool.not_true, Bool.not_false, cond_true, cond_false])).symm.trans b6)) rfl (met rfl rfl rfl (notT g8)) rfl ca50 rfl rfl (cC (.imm _) (cC (.imm _) (cC (.imm _) .nil))) rfl rfl rfl rfl rfl ?_
    refine .v rfl (met rfl rfl rfl (notT g8)) (OpL.unV rfl rfl rfl) ?_
    refine .v rfl rfl (O.pickF (notT g8) rfl rfl rfl) ?_
    refine .nil ?_
    exact toN (Gives.mkR [] (.r rfl rfl (.c rfl (sbb (by first | (simp only [g7, g8, Bool.true_or, Bool.or_true, Bool.false_or, Bool.or_false, Bool.true_and, Bool.and_true, Bool.false_and, Bool.and_false, Bool.not_true, Bool.not_false, cond_true, cond_false]; done) | (repeat (first | rw [g7] | rw [g8])) <;> simp only [Bool.true_or, Bool.or_true, Bool.false_or, Bool.or_false, Bool.true_and, Bool.and_true, Bool.false_and, Bool.and_false, Bool.not_true, Bool.not_false, cond_true, cond_false])) rfl .n)) (.r rfl rfl rfl .n) rfl rfl rfl)
   ·refine W.pk ?_
    refine .v rfl rfl (O.fld fld38_2 rfl rfl rfl) ?_
    refine .v rfl rfl (O.ld (y := .i x0.Basket) ty3 rfl rfl rfl) ?_
    refine .call (.b t1) [] 0 (lombardref23_in.ok b2) rfl rfl rfl ca50 rfl rfl (cC (.imm _) (cC (.imm _) (cC (.imm _) .nil))) rfl rfl rfl rfl rfl ?_
    refine .v rfl rfl (OpL.unV rfl rfl rfl) ?_
    refine .m rfl rfl rfl rfl ?_
    refine .v rfl (met rfl rfl rfl (notT g7)) (O.fld fld38_3 rfl rfl rfl) ?_
    refine .v rfl (met rfl rfl rfl (notT g7)) (O.ld (y := .i x0.Amount) ty3 rfl rfl rfl) ?_
    refine .call (.b t3) [] 0 (lombardref23_in.ok ((if_pos (by first | (simp only [g7, g8, Bool.true_or, Bool.or_true, Bool.false_or, Bool.or_false, Bool.true_and, Bool.and_true, Bool.false_and, Bool.and_false, Bool.not_true, Bool.not_false, cond_true, cond_false]; done) | (repeat (first | rw [g7] | rw [g8])) <;> simp only [Bool.true_or, Bool.or_true, Bool.false_or, Bool.or_false, Bool.true_and, Bool.and_true, Bool.false_and, Bool.and_false, Bool.not_true, Bool.not_false, cond_true, cond_false])).symm.trans b4)) rfl (met rfl rfl rfl (notT g7)) rfl ca50 rfl rfl (cC (.imm _) (cC (.imm _) (cC (.imm _) .nil))) rfl rfl rfl rfl rfl ?_
    refine .v rfl (met rfl rfl rfl (notT g7)) (OpL.unV rfl rfl rfl) ?_
    refine .v rfl rfl (O.pickF (notT g7) rfl rfl rfl) ?_
    refine .m rfl rfl rfl rfl ?_
    refine .x rfl (unmet rfl rfl rfl (notF g8)) ?_
    refine .x rfl (unmet rfl rfl rfl (notF g8)) ?_
    refine .x rfl (unmet rfl rfl rfl (notF g8)) ?_
    refine .x rfl (unmet rfl rfl rfl (notF g8)) ?_
    refine .v rfl rfl (O.pickT (notF g8) rfl rfl rfl) ?_
    refine .nil ?_
    exact toN (Gives.mkR [] (.r rfl rfl (.c rfl (sbb (by first | (simp only [g7, g8, Bool.true_or, Bool.or_true, Bool.false_or, Bool.or_false, Bool.true_and, Bool.and_true, Bool.false_and, Bool.and_false, Bool.not_true, Bool.not_false, cond_true, cond_false]; done) | (repeat (first | rw [g7] | rw [g8])) <;> simp only [Bool.true_or, Bool.or_true, Bool.false_or, Bool.or_false, Bool.true_and, Bool.and_true, Bool.false_and, Bool.and_false, Bool.not_true, Bool.not_false, cond_true, cond_false])) rfl .n)) (.r rfl rfl rfl .n) rfl rfl rfl)
  ·refine W.pk ?_
   refine .v rfl rfl (O.fld fld38_2 rfl rfl rfl) ?_
   refine .v rfl rfl (O.ld (y := .i x0.Basket) ty3 rfl rfl rfl) ?_
   refine .call (.b t1) [] 0 (lombardref23_in.ok b2) rfl rfl rfl ca50 rfl rfl (cC (.imm _) (cC (.imm _) (cC (.imm _) .nil))) rfl rfl rfl rfl rfl ?_
   refine .v rfl rfl (OpL.unV rfl rfl rfl) ?_
   refine .m rfl rfl rfl rfl ?_
   refine .x rfl (unmet rfl rfl rfl (notF g7)) ?_
   refine .x rfl (unmet rfl rfl rfl (notF g7)) ?_
   refine .x rfl (unmet rfl rfl rfl (notF g7)) ?_
   refine .x rfl (unmet rfl rfl rfl (notF g7)) ?_
   refine .v rfl rfl (O.pickT (notF g7) rfl rfl rfl) ?_
   refine .m rfl rfl rfl rfl ?_
   refine .x rfl (unmet rfl rfl rfl rfl) ?_
   refine .x rfl (unmet rfl rfl rfl rfl) ?_
   refine .x rfl (unmet rfl rfl rfl rfl) ?_
   refine .x rfl (unmet rfl rfl rfl rfl) ?_
   refine .v rfl rfl (O.pickT rfl rfl rfl rfl) ?_
   refine .nil ?_
   exact toN (Gives.mkR [] (.r rfl rfl (.c rfl (sbb (by simp only [g7, Bool.true_or, Bool.or_true, Bool.false_or, Bool.or_false, Bool.true_and, Bool.and_true, Bool.false_and, Bool.and_false, Bool.not_true, Bool.not_false, cond_true, cond_false])) rfl .n)) (.r rfl rfl rfl .n) rfl rfl rfl)
end Go.Proofs.Ytknfdnlhadjbaaa
