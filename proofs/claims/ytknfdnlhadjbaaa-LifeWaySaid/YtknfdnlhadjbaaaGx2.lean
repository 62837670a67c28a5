/- Shows what functions of the program come to, each as a plain function: written by a program of the author's for this claim. -/
import Derived.Test.YtknfdnlhadjbaaaGx1
namespace Go.Proofs.Ytknfdnlhadjbaaa
open Go Go.Pm
set_option linter.unusedVariables false
set_option linter.unusedSimpArgs false
noncomputable def cmp_Compare_int.f (x0 : Int) (x1 : Int) : Option (Int) :=
  (cmp_isNaN_int.f x0).bind fun t1 =>
  (cmp_isNaN_int.f x1).bind fun t3 =>
  if t1 = true then
    if t3 = true then
      some 0
    else
      some (-1)
  else
    if t3 = true then
      some 1
    else
      if (decide (x0 < x1)) = true then
        some (-1)
      else
        if (decide (x0 > x1)) = true then
          some 1
        else
          some 0
set_option maxRecDepth 100000 in
set_option maxHeartbeats 4000000 in
theorem cmp_Compare_int.ok {x0 : Int} {x1 : Int} {r : Int} (h : cmp_Compare_int.f x0 x1 = some r) : Pm.Spec prog 58 [.imm (.val (.int .i64 x0)), .imm (.val (.int .i64 x1))] (.imm (.val (.int .i64 r))) [none, none] := by
 unfold cmp_Compare_int.f at h
 refine Pm.Spec.of_body Try.func58 rfl (by kernel_rfl) (Nat.le_of_ble_eq_true rfl) (Nat.le_of_ble_eq_true rfl) ?_
 refine W.ghost (σ' := (mkSt [(0, some (.i x0)), (1, some (.i x1))] [] 1000)) (Gives.entry (.c rfl (.c rfl .n)) .n) ?_
 refine W.seq ?_
 refine W.pk ?_
 refine .a rfl rfl rfl rfl ?_
 refine .nil ?_
 refine W.seq ?_
 obtain ⟨t1, b2, h⟩ := bnd1 h
 refine W.pk ?_
 refine .m rfl rfl rfl rfl ?_
 refine .call (.b t1) [] 0 (cmp_isNaN_int.ok b2) rfl rfl rfl ca69 rfl rfl (cC (.imm _) .nil) rfl rfl rfl rfl rfl ?_
 refine .a rfl rfl rfl rfl ?_
 refine .nil ?_
 refine W.seq ?_
 obtain ⟨t3, b4, h⟩ := bnd1 h
 refine W.pk ?_
 refine .m rfl rfl rfl rfl ?_
 refine .call (.b t3) [] 0 (cmp_isNaN_int.ok b4) rfl rfl rfl ca69 rfl rfl (cC (.imm _) .nil) rfl rfl rfl rfl rfl ?_
 refine .a rfl rfl rfl rfl ?_
 refine .nil ?_
 refine W.seq ?_
 refine W.seq ?_
 refine W.pk ?_
 refine .m rfl rfl rfl rfl ?_
 refine .nil ?_
 refine W.cond rfl (fun q5 => ?_) (fun q5 => ?_)
 ·have h := ifT q5 h
  refine W.seq ?_
  refine W.seq ?_
  refine W.pk ?_
  refine .m rfl rfl rfl rfl ?_
  refine .nil ?_
  refine W.cond rfl (fun q6 => ?_) (fun q6 => ?_)
  ·have h := ifT q6 h
   refine W.seq ?_
   refine W.pk ?_
   refine .a rfl rfl rfl rfl ?_
   refine .nil ?_
   refine W.ret ?_
   cases h
   exact leaves (.inr rfl) rfl (.imm _) (cN (cN .nil)) rfl rfl
  ·have h := ifF q6 h
   refine W.skip ?_
   refine W.seq ?_
   refine W.pk ?_
   refine .a rfl rfl rfl rfl ?_
   refine .nil ?_
   refine W.ret ?_
   cases h
   exact leaves (.inr rfl) rfl (.imm _) (cN (cN .nil)) rfl rfl
 ·have h := ifF q5 h
  refine W.skip ?_
  refine W.seq ?_
  refine W.seq ?_
  refine W.pk ?_
  refine .m rfl rfl rfl rfl ?_
  refine .nil ?_
  refine W.cond rfl (fun q7 => ?_) (fun q7 => ?_)
  ·have h := ifT q7 h
   refine W.seq ?_
   refine W.pk ?_
   refine .a rfl rfl rfl rfl ?_
   refine .nil ?_
   refine W.ret ?_
   cases h
   exact leaves (.inr rfl) rfl (.imm _) (cN (cN .nil)) rfl rfl
  ·have h := ifF q7 h
   refine W.skip ?_
   refine W.seq ?_
   refine W.seq ?_
   refine W.pk ?_
   refine .m rfl rfl rfl rfl ?_
   refine .m rfl rfl rfl rfl ?_
   refine .v rfl rfl (OpL.binI rfl rfl rfl rfl) ?_
   refine .nil ?_
   refine W.cond rfl (fun q8 => ?_) (fun q8 => ?_)
   ·have h := ifT q8 h
    refine W.seq ?_
    refine W.pk ?_
    refine .a rfl rfl rfl rfl ?_
    refine .nil ?_
    refine W.ret ?_
    cases h
    exact leaves (.inr rfl) rfl (.imm _) (cN (cN .nil)) rfl rfl
   ·have h := ifF q8 h
    refine W.skip ?_
    refine W.seq ?_
    refine W.seq ?_
    refine W.pk ?_
    refine .m rfl rfl rfl rfl ?_
    refine .m rfl rfl rfl rfl ?_
    refine .v rfl rfl (OpL.binI rfl rfl rfl rfl) ?_
    refine .nil ?_
    refine W.cond rfl (fun q9 => ?_) (fun q9 => ?_)
    ·have h := ifT q9 h
     refine W.seq ?_
     refine W.pk ?_
     refine .a rfl rfl rfl rfl ?_
     refine .nil ?_
     refine W.ret ?_
     cases h
     exact leaves (.inr rfl) rfl (.imm _) (cN (cN .nil)) rfl rfl
    ·have h := ifF q9 h
     refine W.skip ?_
     refine W.seq ?_
     refine W.pk ?_
     refine .a rfl rfl rfl rfl ?_
     refine .nil ?_
     refine W.ret ?_
     cases h
     exact leaves (.inr rfl) rfl (.imm _) (cN (cN .nil)) rfl rfl

noncomputable def accrue_Rate_1_v2.f (x0 : api_Reset) (x1 : Int) : Option (Int) :=
  (cmp_Compare_int.f x0.Day x1).bind fun t1 =>
  some t1
set_option maxRecDepth 100000 in
set_option maxHeartbeats 4000000 in
theorem accrue_Rate_1_v2.ok {x0 : api_Reset} {x1 : Int} {r : Int} (h : accrue_Rate_1_v2.f x0 x1 = some r) : Pm.Spec prog 57 [.agg [.imm (.val (.int .i64 x0.Day)), .imm (.val (.int .i64 x0.Rate))], .imm (.val (.int .i64 x1))] (.imm (.val (.int .i64 r))) [none, none] := by
 unfold accrue_Rate_1_v2.f at h
 refine Pm.Spec.of_body Try.func57 rfl (by kernel_rfl) (Nat.le_of_ble_eq_true rfl) (Nat.le_of_ble_eq_true rfl) ?_
 refine W.ghost (σ' := (mkSt [(0, some (.agg [.i x0.Day, .i x0.Rate])), (1, some (.i x1))] [] 1000)) (Gives.entry (.c rfl (.c rfl .n)) .n) ?_
 refine W.seq ?_
 refine W.pk ?_
 refine .t rfl rfl (O.box rfl rfl rfl rfl rfl) ?_
 refine .a rfl rfl rfl rfl ?_
 refine .nil ?_
 refine W.seq ?_
 obtain ⟨t1, b2, h⟩ := bnd1 h
 refine W.pk ?_
 refine .v rfl rfl (O.fld fld46_0 rfl rfl rfl) ?_
 refine .v rfl rfl (O.ld (y := .i x0.Day) ty3 rfl rfl rfl) ?_
 refine .m rfl rfl rfl rfl ?_
 refine .call (.i t1) [] 0 (cmp_Compare_int.ok b2) rfl rfl rfl ca58 rfl rfl (cC (.imm _) (cC (.imm _) .nil)) rfl rfl rfl rfl rfl ?_
 refine .a rfl rfl rfl rfl ?_
 refine .nil ?_
 refine W.ret ?_
 cases h
 exact leaves (.inr rfl) rfl (.imm _) (cN (cN .nil)) rfl rfl

noncomputable def slices_BinarySearchFunc_int__accrue_Rate_1.b0 (x0 : List api_Reset) (x1 : Int) (v6 : Int) (v7 : Int) : Option ((Int × Int) ⊕ Int) :=
  if (decide (v6 < v7)) = true then
    if (0 : Int) ≤ (IntKind.wrap .i64 (shrI .u64 (IntKind.wrap .u64 (IntKind.wrap .i64 (v6 + v7))) 1)) ∧ (IntKind.wrap .i64 (shrI .u64 (IntKind.wrap .u64 (IntKind.wrap .i64 (v6 + v7))) 1)) < (List.length x0 : Int) then
    (accrue_Rate_1_v2.f (nth x0 (IntKind.wrap .i64 (shrI .u64 (IntKind.wrap .u64 (IntKind.wrap .i64 (v6 + v7))) 1))) x1).bind fun t24 =>
    if (decide (t24 < 0)) = true then
      some (.inl ((IntKind.wrap .i64 ((IntKind.wrap .i64 (shrI .u64 (IntKind.wrap .u64 (IntKind.wrap .i64 (v6 + v7))) 1)) + 1)), v7))
    else
      some (.inl (v6, (IntKind.wrap .i64 (shrI .u64 (IntKind.wrap .u64 (IntKind.wrap .i64 (v6 + v7))) 1))))
    else none
  else
    some (.inr v6)
noncomputable def slices_BinarySearchFunc_int__accrue_Rate_1.r0 (x0 : List api_Reset) (x1 : Int) (s : Int × Int) : Option ((Int × Int) ⊕ Int) := slices_BinarySearchFunc_int__accrue_Rate_1.b0 x0 x1 s.1 s.2
noncomputable def slices_BinarySearchFunc_int__accrue_Rate_1.f (x0 : List api_Reset) (x1 : Int) : Option (Int × Bool) :=
  (loop (slices_BinarySearchFunc_int__accrue_Rate_1.r0 x0 x1) (0, (List.length x0 : Int))).bind fun o19 =>
  if ((decide (o19 < (List.length x0 : Int))) = true → (0 : Int) ≤ o19 ∧ o19 < (List.length x0 : Int)) then
  (if (decide (o19 < (List.length x0 : Int))) = true then accrue_Rate_1_v2.f (nth x0 o19) x1 else some default).bind fun t28 =>
  some (o19, ((decide (o19 < (List.length x0 : Int))) && (t28 == 0)))
  else none
set_option maxRecDepth 100000 in
set_option maxHeartbeats 4000000 in
theorem slices_BinarySearchFunc_int__accrue_Rate_1.ok {x0 : List api_Reset} {x1 : Int} {r : Int × Bool} (h : slices_BinarySearchFunc_int__accrue_Rate_1.f x0 x1 = some r) : Pm.Spec prog 56 [.imm (.row 2 (List.map api_Reset.enc x0)), .imm (.val (.int .i64 x1)), .fn 57 []] (.tup [.imm (.val (.int .i64 r.1)), .imm (.val (.bool r.2))]) [none, none, none] := by
 unfold slices_BinarySearchFunc_int__accrue_Rate_1.f at h
 refine Pm.Spec.of_body Try.func56 rfl (by kernel_rfl) (Nat.le_of_ble_eq_true rfl) (Nat.le_of_ble_eq_true rfl) ?_
 refine W.ghost (σ' := (mkSt [(0, some (.imm (.row 2 (List.map api_Reset.enc x0)))), (1, some (.i x1)), (2, some (.fn 57 []))] [] 1000)) (Gives.entry (.c rfl (.c rfl (.c rfl .n))) .n) ?_
 refine W.seq ?_
 refine W.pk ?_
 refine .a rfl rfl rfl rfl ?_
 refine .a rfl rfl rfl rfl ?_
 refine .nil ?_
 refine W.seq ?_
 refine W.pk ?_
 refine .m rfl rfl rfl rfl ?_
 refine .v rfl rfl (O.lenR sl22 rfl rfl) ?_
 refine .a rfl rfl rfl rfl ?_
 refine .nil ?_
 refine W.seq ?_
 refine W.pk ?_
 refine .m rfl rfl rfl rfl ?_
 refine .a rfl rfl rfl rfl ?_
 refine .a rfl rfl rfl rfl ?_
 refine .nil ?_
 refine W.seq ?_
 obtain ⟨o19, b20, h⟩ := bnd1 h
 refine W.fork (mkSt [(0, some (.imm (.row 2 (List.map api_Reset.enc x0)))), (1, some (.i x1)), (2, some (.fn 57 [])), (8, some (.i (List.length x0 : Int))), (9, some (.i o19))] [] 1000) ?_ ?_
 ·refine W.seq ?_
  obtain ⟨c27, h⟩ := chk h
  obtain ⟨t28, b29, h⟩ := bnd1 h
  refine W.fork (mkSt [(6, some (.i o19)), (7, some (.b ((decide (o19 < (List.length x0 : Int))) && (t28 == 0))))] [] 1000) ?_ ?_
  ·refine W.ret ?_
   cases h
   exact leaves (.inr rfl) rfl (.tup _ _ _ _ (cC (.imm _) (cC (.imm _) .nil))) (cN (cN (cN .nil))) rfl rfl
  ·clear h
   rcases tf (decide (o19 < (List.length x0 : Int))) with g30 | g30
   ·refine W.pk ?_
    refine .m rfl rfl rfl rfl ?_
    refine .m rfl rfl rfl rfl ?_
    refine .m rfl rfl rfl rfl ?_
    refine .v rfl rfl (OpL.binI rfl rfl rfl rfl) ?_
    refine .m rfl rfl rfl rfl ?_
    refine .m rfl (met rfl rfl rfl g30) rfl rfl ?_
    refine .m rfl (met rfl rfl rfl g30) rfl rfl ?_
    refine .m rfl (met rfl rfl rfl g30) rfl rfl ?_
    refine .v rfl (met rfl rfl rfl g30) (O.idx sl22 (c27 (by simp only [g30, Bool.true_or, Bool.or_true, Bool.false_or, Bool.or_false, Bool.true_and, Bool.and_true, Bool.false_and, Bool.and_false, Bool.not_true, Bool.not_false, cond_true, cond_false])) rfl rfl rfl) ?_
    refine .v rfl (met rfl rfl rfl g30) (O.ldN ty46 rfl rfl rfl) ?_
    refine .m rfl (met rfl rfl rfl g30) rfl rfl ?_
    refine .call (.i t28) [] 0 (accrue_Rate_1_v2.ok ((if_pos (by simp only [g30, Bool.true_or, Bool.or_true, Bool.false_or, Bool.or_false, Bool.true_and, Bool.and_true, Bool.false_and, Bool.and_false, Bool.not_true, Bool.not_false, cond_true, cond_false])).symm.trans b29)) rfl (met rfl rfl rfl g30) rfl ca57 rfl rfl (cC (.agg _ _ _ _ (cC (.imm _) (cC (.imm _) .nil))) (cC (.imm _) .nil)) rfl rfl rfl rfl rfl ?_
    refine .v rfl (met rfl rfl rfl g30) (OpL.binI rfl rfl rfl rfl) ?_
    refine .v rfl rfl (O.pickT g30 rfl rfl rfl) ?_
    refine .a rfl rfl rfl rfl ?_
    refine .a rfl rfl rfl rfl ?_
    refine .nil ?_
    exact toN (Gives.mkR [] (.r rfl rfl (.c rfl (sbb (by simp only [g30, Bool.true_or, Bool.or_true, Bool.false_or, Bool.or_false, Bool.true_and, Bool.and_true, Bool.false_and, Bool.and_false, Bool.not_true, Bool.not_false, cond_true, cond_false])) rfl .n)) .n rfl rfl rfl)
   ·refine W.pk ?_
    refine .m rfl rfl rfl rfl ?_
    refine .m rfl rfl rfl rfl ?_
    refine .m rfl rfl rfl rfl ?_
    refine .v rfl rfl (OpL.binI rfl rfl rfl rfl) ?_
    refine .m rfl rfl rfl rfl ?_
    refine .x rfl (unmet rfl rfl rfl g30) ?_
    refine .x rfl (unmet rfl rfl rfl g30) ?_
    refine .x rfl (unmet rfl rfl rfl g30) ?_
    refine .x rfl (unmet rfl rfl rfl g30) ?_
    refine .x rfl (unmet rfl rfl rfl g30) ?_
    refine .x rfl (unmet rfl rfl rfl g30) ?_
    refine .x rfl (unmet rfl rfl rfl g30) ?_
    refine .x rfl (unmet rfl rfl rfl g30) ?_
    refine .v rfl rfl (O.pickF g30 rfl rfl rfl) ?_
    refine .a rfl rfl rfl rfl ?_
    refine .a rfl rfl rfl rfl ?_
    refine .nil ?_
    exact toN (Gives.mkR [] (.r rfl rfl (.c rfl (sbb (by simp only [g30, Bool.true_or, Bool.or_true, Bool.false_or, Bool.or_false, Bool.true_and, Bool.and_true, Bool.false_and, Bool.and_false, Bool.not_true, Bool.not_false, cond_true, cond_false])) rfl .n)) .n rfl rfl rfl)
 ·clear h
  refine W.block ?_
  refine W.loopF (fun (s_ : Int × Int) => mkSt [(0, some (.imm (.row 2 (List.map api_Reset.enc x0)))), (1, some (.i x1)), (2, some (.fn 57 [])), (8, some (.i (List.length x0 : Int))), (9, some (.i s_.1)), (10, some (.i s_.2))] [] 1000) b20 (Gives.mkR [] (.r rfl rfl (.r rfl rfl (.r rfl rfl (.r rfl rfl (.r rfl rfl (.r rfl rfl .n)))))) .n rfl rfl rfl) ?_
  rintro ⟨v6, v7⟩ s_ hr
  have h : slices_BinarySearchFunc_int__accrue_Rate_1.b0 x0 x1 v6 v7 = some s_ := hr
  unfold slices_BinarySearchFunc_int__accrue_Rate_1.b0 at h
  refine W.seq ?_
  refine W.seq ?_
  refine W.pk ?_
  refine .m rfl rfl rfl rfl ?_
  refine .m rfl rfl rfl rfl ?_
  refine .v rfl rfl (OpL.binI rfl rfl rfl rfl) ?_
  refine .nil ?_
  refine W.cond rfl (fun q22 => ?_) (fun q22 => ?_)
  ·have h := ifT q22 h
   refine W.skip ?_
   refine W.block ?_
   refine W.seq ?_
   refine W.pk ?_
   refine .m rfl rfl rfl rfl ?_
   refine .m rfl rfl rfl rfl ?_
   refine .v rfl rfl (OpL.binI rfl rfl rfl rfl) ?_
   refine .v rfl rfl (O.conv h3 u92 rfl rfl) ?_
   refine .v rfl rfl (O.shr (by decide) rfl rfl rfl) ?_
   refine .v rfl rfl (O.conv h92 u3 rfl rfl) ?_
   refine .a rfl rfl rfl rfl ?_
   refine .nil ?_
   refine W.seq ?_
   obtain ⟨c23, h⟩ := chk h
   obtain ⟨t24, b25, h⟩ := bnd1 h
   refine W.pk ?_
   refine .m rfl rfl rfl rfl ?_
   refine .m rfl rfl rfl rfl ?_
   refine .m rfl rfl rfl rfl ?_
   refine .v rfl rfl (O.idx sl22 c23 rfl rfl rfl) ?_
   refine .v rfl rfl (O.ldN ty46 rfl rfl rfl) ?_
   refine .m rfl rfl rfl rfl ?_
   refine .call (.i t24) [] 0 (accrue_Rate_1_v2.ok b25) rfl rfl rfl ca57 rfl rfl (cC (.agg _ _ _ _ (cC (.imm _) (cC (.imm _) .nil))) (cC (.imm _) .nil)) rfl rfl rfl rfl rfl ?_
   refine .v rfl rfl (OpL.binI rfl rfl rfl rfl) ?_
   refine .nil ?_
   refine W.cond rfl (fun q26 => ?_) (fun q26 => ?_)
   ·have h := ifT q26 h
    refine W.pk ?_
    refine .m rfl rfl rfl rfl ?_
    refine .v rfl rfl (OpL.binI rfl rfl rfl rfl) ?_
    refine .a rfl rfl rfl rfl ?_
    refine .nil ?_
    cases h
    exact rdN (Gives.mkR [] (.r rfl rfl (.r rfl rfl (.r rfl rfl (.r rfl rfl (.r rfl rfl (.r rfl rfl .n)))))) .n rfl rfl rfl)
   ·have h := ifF q26 h
    refine W.pk ?_
    refine .m rfl rfl rfl rfl ?_
    refine .a rfl rfl rfl rfl ?_
    refine .nil ?_
    cases h
    exact rdN (Gives.mkR [] (.r rfl rfl (.r rfl rfl (.r rfl rfl (.r rfl rfl (.r rfl rfl (.r rfl rfl .n)))))) .n rfl rfl rfl)
  ·have h := ifF q22 h
   refine W.exit ?_
   cases h
   refine rdX fun e_ => ?_
   subst e_
   repeat with_reducible refine thru ?_
   refine hit ?_
   exact toN (Gives.mkR [] (.r rfl rfl (.r rfl rfl (.r rfl rfl (.r rfl rfl (.r rfl rfl .n))))) .n rfl rfl rfl)

noncomputable def accrue_Rate.f (x0 : List api_Reset) (x1 : Int) : Option (Int × Bool) :=
  (slices_BinarySearchFunc_int__accrue_Rate_1.f x0 x1).bind fun t1 =>
  ((
    if (!t1.2) = true then
      some (IntKind.wrap .i64 (t1.1 - 1))
    else
      some t1.1 : Option (Int))).bind fun o5 =>
  if (decide (o5 < 0)) = true then
    some (0, false)
  else
    if (0 : Int) ≤ o5 ∧ o5 < (List.length x0 : Int) then
    some ((nth x0 o5).Rate, true)
    else none
set_option maxRecDepth 100000 in
set_option maxHeartbeats 4000000 in
theorem accrue_Rate.ok {x0 : List api_Reset} {x1 : Int} {r : Int × Bool} (h : accrue_Rate.f x0 x1 = some r) : Pm.Spec prog 48 [.imm (.row 2 (List.map api_Reset.enc x0)), .imm (.val (.int .i64 x1))] (.tup [.imm (.val (.int .i64 r.1)), .imm (.val (.bool r.2))]) [none, none] := by
 unfold accrue_Rate.f at h
 refine Pm.Spec.of_body Try.func48 rfl (by kernel_rfl) (Nat.le_of_ble_eq_true rfl) (Nat.le_of_ble_eq_true rfl) ?_
 refine W.ghost (σ' := (mkSt [(0, some (.imm (.row 2 (List.map api_Reset.enc x0)))), (1, some (.i x1))] [] 1000)) (Gives.entry (.c rfl (.c rfl .n)) .n) ?_
 refine W.seq ?_
 refine W.pk ?_
 refine .a rfl rfl rfl rfl ?_
 refine .a rfl rfl rfl rfl ?_
 refine .nil ?_
 refine W.seq ?_
 obtain ⟨t1, b2, h⟩ := bnd1 h
 refine W.pk ?_
 refine .m rfl rfl rfl rfl ?_
 refine .m rfl rfl rfl rfl ?_
 refine .call (.tup [.i t1.1, .b t1.2]) [] 0 (slices_BinarySearchFunc_int__accrue_Rate_1.ok b2) rfl rfl rfl ca56 rfl rfl (cC (.imm _) (cC (.imm _) (cC (.fn _ _ _ _ _ .nil) .nil))) rfl rfl rfl rfl rfl ?_
 refine .m rfl rfl rfl rfl ?_
 refine .v rfl rfl (OpL.extract rfl rfl rfl) ?_
 refine .v rfl rfl (OpL.extract rfl rfl rfl) ?_
 refine .a rfl rfl rfl rfl ?_
 refine .a rfl rfl rfl rfl ?_
 refine .nil ?_
 refine W.seq ?_
 refine W.seq ?_
 refine W.pk ?_
 refine .m rfl rfl rfl rfl ?_
 refine .v rfl rfl (OpL.unV rfl rfl rfl) ?_
 refine .nil ?_
 obtain ⟨o5, b6, h⟩ := bnd1 h
 refine W.fork (mkSt [(0, some (.imm (.row 2 (List.map api_Reset.enc x0)))), (6, some (.i o5))] [] 1000) ?_ ?_
 ·refine W.seq ?_
  refine W.seq ?_
  refine W.pk ?_
  refine .m rfl rfl rfl rfl ?_
  refine .v rfl rfl (OpL.binI rfl rfl rfl rfl) ?_
  refine .nil ?_
  refine W.cond rfl (fun q8 => ?_) (fun q8 => ?_)
  ·have h := ifT q8 h
   refine W.seq ?_
   refine W.pk ?_
   refine .a rfl rfl rfl rfl ?_
   refine .a rfl rfl rfl rfl ?_
   refine .nil ?_
   refine W.ret ?_
   cases h
   exact leaves (.inr rfl) rfl (.tup _ _ _ _ (cC (.imm _) (cC (.imm _) .nil))) (cN (cN .nil)) rfl rfl
  ·have h := ifF q8 h
   refine W.skip ?_
   refine W.seq ?_
   obtain ⟨c9, h⟩ := chk h
   refine W.pk ?_
   refine .m rfl rfl rfl rfl ?_
   refine .m rfl rfl rfl rfl ?_
   refine .v rfl rfl (O.idx sl22 c9 rfl rfl rfl) ?_
   refine .v rfl rfl (O.fld fld46_1 rfl rfl rfl) ?_
   refine .v rfl rfl (O.ld (y := .i ((nth x0 o5).Rate)) ty3 rfl rfl rfl) ?_
   refine .a rfl rfl rfl rfl ?_
   refine .a rfl rfl rfl rfl ?_
   refine .nil ?_
   refine W.ret ?_
   cases h
   exact leaves (.inr rfl) rfl (.tup _ _ _ _ (cC (.imm _) (cC (.imm _) .nil))) (cN (cN .nil)) rfl rfl
 ·clear h
  have h := b6
  refine W.cond rfl (fun q7 => ?_) (fun q7 => ?_)
  ·have h := ifT q7 h
   refine W.pk ?_
   refine .m rfl rfl rfl rfl ?_
   refine .v rfl rfl (OpL.binI rfl rfl rfl rfl) ?_
   refine .a rfl rfl rfl rfl ?_
   refine .nil ?_
   cases h
   exact toN (Gives.mkR [] (.r rfl rfl (.r rfl rfl .n)) .n rfl rfl rfl)
  ·have h := ifF q7 h
   refine W.skip ?_
   cases h
   exact toN (Gives.mkR [] (.r rfl rfl (.r rfl rfl .n)) .n rfl rfl rfl)

noncomputable def accrue_good.f (x0 : Int) (x1 : Int) : Option (Bool) :=
  some ((((decide (x0 ≥ 0)) && (decide (x0 ≤ 1125899906842624))) && (decide (x1 ≥ (-1000000)))) && (decide (x1 ≤ 1000000)))
set_option maxRecDepth 100000 in
set_option maxHeartbeats 4000000 in
theorem accrue_good.ok {x0 : Int} {x1 : Int} {r : Bool} (h : accrue_good.f x0 x1 = some r) : Pm.Spec prog 70 [.imm (.val (.int .i64 x0)), .imm (.val (.int .i64 x1))] (.imm (.val (.bool r))) [none, none] := by
 unfold accrue_good.f at h
 refine Pm.Spec.of_body Try.func70 rfl (by kernel_rfl) (Nat.le_of_ble_eq_true rfl) (Nat.le_of_ble_eq_true rfl) ?_
 refine W.ghost (σ' := (mkSt [(0, some (.i x0)), (1, some (.i x1))] [] 1000)) (Gives.entry (.c rfl (.c rfl .n)) .n) ?_
 refine W.seq ?_
 refine W.pk ?_
 refine .a rfl rfl rfl rfl ?_
 refine .nil ?_
 refine W.seq ?_
 refine W.fork (mkSt [(4, some (.b ((((decide (x0 ≥ 0)) && (decide (x0 ≤ 1125899906842624))) && (decide (x1 ≥ (-1000000)))) && (decide (x1 ≤ 1000000)))))] [] 1000) ?_ ?_
 ·refine W.ret ?_
  cases h
  exact leaves (.inr rfl) rfl (.imm _) (cN (cN .nil)) rfl rfl
 ·clear h
  rcases tf (decide (x0 ≥ 0)) with g1 | g1
  ·rcases tf (decide (x0 ≤ 1125899906842624)) with g2 | g2
   ·rcases tf (decide (x1 ≥ (-1000000))) with g3 | g3
    ·refine W.pk ?_
     refine .m rfl rfl rfl rfl ?_
     refine .v rfl rfl (OpL.binI rfl rfl rfl rfl) ?_
     refine .m rfl rfl rfl rfl ?_
     refine .m rfl (met rfl rfl rfl g1) rfl rfl ?_
     refine .v rfl (met rfl rfl rfl g1) (OpL.binI rfl rfl rfl rfl) ?_
     refine .v rfl rfl (O.pickT g1 rfl rfl rfl) ?_
     refine .m rfl rfl rfl rfl ?_
     refine .m rfl (met rfl rfl rfl g2) rfl rfl ?_
     refine .v rfl (met rfl rfl rfl g2) (OpL.binI rfl rfl rfl rfl) ?_
     refine .v rfl rfl (O.pickT g2 rfl rfl rfl) ?_
     refine .m rfl rfl rfl rfl ?_
     refine .m rfl (met rfl rfl rfl g3) rfl rfl ?_
     refine .v rfl (met rfl rfl rfl g3) (OpL.binI rfl rfl rfl rfl) ?_
     refine .v rfl rfl (O.pickT g3 rfl rfl rfl) ?_
     refine .a rfl rfl rfl rfl ?_
     refine .nil ?_
     exact toN (Gives.mkR [] (.c rfl (sbb (by first | (simp only [g1, g2, g3, Bool.true_or, Bool.or_true, Bool.false_or, Bool.or_false, Bool.true_and, Bool.and_true, Bool.false_and, Bool.and_false, Bool.not_true, Bool.not_false, cond_true, cond_false]; done) | (repeat (first | rw [g1] | rw [g2] | rw [g3])) <;> simp only [Bool.true_or, Bool.or_true, Bool.false_or, Bool.or_false, Bool.true_and, Bool.and_true, Bool.false_and, Bool.and_false, Bool.not_true, Bool.not_false, cond_true, cond_false])) rfl .n) .n rfl rfl rfl)
    ·refine W.pk ?_
     refine .m rfl rfl rfl rfl ?_
     refine .v rfl rfl (OpL.binI rfl rfl rfl rfl) ?_
     refine .m rfl rfl rfl rfl ?_
     refine .m rfl (met rfl rfl rfl g1) rfl rfl ?_
     refine .v rfl (met rfl rfl rfl g1) (OpL.binI rfl rfl rfl rfl) ?_
     refine .v rfl rfl (O.pickT g1 rfl rfl rfl) ?_
     refine .m rfl rfl rfl rfl ?_
     refine .m rfl (met rfl rfl rfl g2) rfl rfl ?_
     refine .v rfl (met rfl rfl rfl g2) (OpL.binI rfl rfl rfl rfl) ?_
     refine .v rfl rfl (O.pickT g2 rfl rfl rfl) ?_
     refine .m rfl rfl rfl rfl ?_
     refine .x rfl (unmet rfl rfl rfl g3) ?_
     refine .x rfl (unmet rfl rfl rfl g3) ?_
     refine .v rfl rfl (O.pickF g3 rfl rfl rfl) ?_
     refine .a rfl rfl rfl rfl ?_
     refine .nil ?_
     exact toN (Gives.mkR [] (.c rfl (sbb (by first | (simp only [g1, g2, g3, Bool.true_or, Bool.or_true, Bool.false_or, Bool.or_false, Bool.true_and, Bool.and_true, Bool.false_and, Bool.and_false, Bool.not_true, Bool.not_false, cond_true, cond_false]; done) | (repeat (first | rw [g1] | rw [g2] | rw [g3])) <;> simp only [Bool.true_or, Bool.or_true, Bool.false_or, Bool.or_false, Bool.true_and, Bool.and_true, Bool.false_and, Bool.and_false, Bool.not_true, Bool.not_false, cond_true, cond_false])) rfl .n) .n rfl rfl rfl)
   ·refine W.pk ?_
    refine .m rfl rfl rfl rfl ?_
    refine .v rfl rfl (OpL.binI rfl rfl rfl rfl) ?_
    refine .m rfl rfl rfl rfl ?_
    refine .m rfl (met rfl rfl rfl g1) rfl rfl ?_
    refine .v rfl (met rfl rfl rfl g1) (OpL.binI rfl rfl rfl rfl) ?_
    refine .v rfl rfl (O.pickT g1 rfl rfl rfl) ?_
    refine .m rfl rfl rfl rfl ?_
    refine .x rfl (unmet rfl rfl rfl g2) ?_
    refine .x rfl (unmet rfl rfl rfl g2) ?_
    refine .v rfl rfl (O.pickF g2 rfl rfl rfl) ?_
    refine .m rfl rfl rfl rfl ?_
    refine .x rfl (unmet rfl rfl rfl rfl) ?_
    refine .x rfl (unmet rfl rfl rfl rfl) ?_
    refine .v rfl rfl (O.pickF rfl rfl rfl rfl) ?_
    refine .a rfl rfl rfl rfl ?_
    refine .nil ?_
    exact toN (Gives.mkR [] (.c rfl (sbb (by first | (simp only [g1, g2, Bool.true_or, Bool.or_true, Bool.false_or, Bool.or_false, Bool.true_and, Bool.and_true, Bool.false_and, Bool.and_false, Bool.not_true, Bool.not_false, cond_true, cond_false]; done) | (repeat (first | rw [g1] | rw [g2])) <;> simp only [Bool.true_or, Bool.or_true, Bool.false_or, Bool.or_false, Bool.true_and, Bool.and_true, Bool.false_and, Bool.and_false, Bool.not_true, Bool.not_false, cond_true, cond_false])) rfl .n) .n rfl rfl rfl)
  ·refine W.pk ?_
   refine .m rfl rfl rfl rfl ?_
   refine .v rfl rfl (OpL.binI rfl rfl rfl rfl) ?_
   refine .m rfl rfl rfl rfl ?_
   refine .x rfl (unmet rfl rfl rfl g1) ?_
   refine .x rfl (unmet rfl rfl rfl g1) ?_
   refine .v rfl rfl (O.pickF g1 rfl rfl rfl) ?_
   refine .m rfl rfl rfl rfl ?_
   refine .x rfl (unmet rfl rfl rfl rfl) ?_
   refine .x rfl (unmet rfl rfl rfl rfl) ?_
   refine .v rfl rfl (O.pickF rfl rfl rfl rfl) ?_
   refine .m rfl rfl rfl rfl ?_
   refine .x rfl (unmet rfl rfl rfl rfl) ?_
   refine .x rfl (unmet rfl rfl rfl rfl) ?_
   refine .v rfl rfl (O.pickF rfl rfl rfl rfl) ?_
   refine .a rfl rfl rfl rfl ?_
   refine .nil ?_
   exact toN (Gives.mkR [] (.c rfl (sbb (by simp only [g1, Bool.true_or, Bool.or_true, Bool.false_or, Bool.or_false, Bool.true_and, Bool.and_true, Bool.false_and, Bool.and_false, Bool.not_true, Bool.not_false, cond_true, cond_false])) rfl .n) .n rfl rfl rfl)

noncomputable def fixnum_size.f (x0 : Int) : Option (Int × Bool) :=
  if (decide (x0 < 0)) = true then
    some ((IntKind.wrap .u64 (0 - (IntKind.wrap .u64 x0))), true)
  else
    some ((IntKind.wrap .u64 x0), false)
set_option maxRecDepth 100000 in
set_option maxHeartbeats 4000000 in
theorem fixnum_size.ok {x0 : Int} {r : Int × Bool} (h : fixnum_size.f x0 = some r) : Pm.Spec prog 76 [.imm (.val (.int .i64 x0))] (.tup [.imm (.val (.int .u64 r.1)), .imm (.val (.bool r.2))]) [none] := by
 unfold fixnum_size.f at h
 refine Pm.Spec.of_body Try.func76 rfl (by kernel_rfl) (Nat.le_of_ble_eq_true rfl) (Nat.le_of_ble_eq_true rfl) ?_
 refine W.ghost (σ' := (mkSt [(0, some (.i x0))] [] 1000)) (Gives.entry (.c rfl .n) .n) ?_
 refine W.seq ?_
 refine W.pk ?_
 refine .a rfl rfl rfl rfl ?_
 refine .a rfl rfl rfl rfl ?_
 refine .nil ?_
 refine W.seq ?_
 refine W.seq ?_
 refine W.pk ?_
 refine .m rfl rfl rfl rfl ?_
 refine .v rfl rfl (OpL.binI rfl rfl rfl rfl) ?_
 refine .nil ?_
 refine W.cond rfl (fun q1 => ?_) (fun q1 => ?_)
 ·have h := ifT q1 h
  refine W.seq ?_
  refine W.pk ?_
  refine .m rfl rfl rfl rfl ?_
  refine .v rfl rfl (O.conv h3 u88 rfl rfl) ?_
  refine .v rfl rfl (OpL.unV rfl rfl rfl) ?_
  refine .a rfl rfl rfl rfl ?_
  refine .a rfl rfl rfl rfl ?_
  refine .nil ?_
  refine W.ret ?_
  cases h
  exact leaves (.inr rfl) rfl (.tup _ _ _ _ (cC (.imm _) (cC (.imm _) .nil))) (cN .nil) rfl rfl
 ·have h := ifF q1 h
  refine W.skip ?_
  refine W.seq ?_
  refine W.pk ?_
  refine .m rfl rfl rfl rfl ?_
  refine .v rfl rfl (O.conv h3 u88 rfl rfl) ?_
  refine .a rfl rfl rfl rfl ?_
  refine .a rfl rfl rfl rfl ?_
  refine .nil ?_
  refine W.ret ?_
  cases h
  exact leaves (.inr rfl) rfl (.tup _ _ _ _ (cC (.imm _) (cC (.imm _) .nil))) (cN .nil) rfl rfl

noncomputable def fixnum_Mul.f (x0 : Int) (x1 : Int) : Option (fixnum_Wide) :=
  some (⟨(IntKind.wrap .u64 ((IntKind.wrap .u64 ((IntKind.wrap .u64 ((shrI .u64 x0 32) * (shrI .u64 x1 32))) + (shrI .u64 (IntKind.wrap .u64 ((IntKind.wrap .u64 ((shrI .u64 x0 32) * (bits .and .u64 x1 4294967295))) + (shrI .u64 (IntKind.wrap .u64 ((bits .and .u64 x0 4294967295) * (bits .and .u64 x1 4294967295))) 32))) 32))) + (shrI .u64 (IntKind.wrap .u64 ((IntKind.wrap .u64 ((bits .and .u64 x0 4294967295) * (shrI .u64 x1 32))) + (bits .and .u64 (IntKind.wrap .u64 ((IntKind.wrap .u64 ((shrI .u64 x0 32) * (bits .and .u64 x1 4294967295))) + (shrI .u64 (IntKind.wrap .u64 ((bits .and .u64 x0 4294967295) * (bits .and .u64 x1 4294967295))) 32))) 4294967295))) 32))), (bits .or .u64 (shlI .u64 (IntKind.wrap .u64 ((IntKind.wrap .u64 ((bits .and .u64 x0 4294967295) * (shrI .u64 x1 32))) + (bits .and .u64 (IntKind.wrap .u64 ((IntKind.wrap .u64 ((shrI .u64 x0 32) * (bits .and .u64 x1 4294967295))) + (shrI .u64 (IntKind.wrap .u64 ((bits .and .u64 x0 4294967295) * (bits .and .u64 x1 4294967295))) 32))) 4294967295))) 32) (bits .and .u64 (IntKind.wrap .u64 ((bits .and .u64 x0 4294967295) * (bits .and .u64 x1 4294967295))) 4294967295))⟩ : fixnum_Wide)
set_option maxRecDepth 100000 in
set_option maxHeartbeats 4000000 in
theorem fixnum_Mul.ok {x0 : Int} {x1 : Int} {r : fixnum_Wide} (h : fixnum_Mul.f x0 x1 = some r) : Pm.Spec prog 72 [.imm (.val (.int .u64 x0)), .imm (.val (.int .u64 x1))] (.agg [.imm (.val (.int .u64 r.Hi)), .imm (.val (.int .u64 r.Lo))]) [none, none] := by
 unfold fixnum_Mul.f at h
 refine Pm.Spec.of_body Try.func72 rfl (by kernel_rfl) (Nat.le_of_ble_eq_true rfl) (Nat.le_of_ble_eq_true rfl) ?_
 refine W.ghost (σ' := (mkSt [(0, some (.imm (.val (.int .u64 x0)))), (1, some (.imm (.val (.int .u64 x1))))] [] 1000)) (Gives.entry (.c rfl (.c rfl .n)) .n) ?_
 refine W.seq ?_
 refine W.pk ?_
 refine .t rfl rfl (O.alloc z96 rfl) ?_
 refine .nil ?_
 refine W.seq ?_
 refine W.pk ?_
 refine .m rfl rfl rfl rfl ?_
 refine .v rfl rfl (O.shr (by decide) rfl rfl rfl) ?_
 refine .m rfl rfl rfl rfl ?_
 refine .v rfl rfl (OpL.binI rfl rfl rfl rfl) ?_
 refine .a rfl rfl rfl rfl ?_
 refine .a rfl rfl rfl rfl ?_
 refine .nil ?_
 refine W.seq ?_
 refine W.pk ?_
 refine .m rfl rfl rfl rfl ?_
 refine .v rfl rfl (O.shr (by decide) rfl rfl rfl) ?_
 refine .m rfl rfl rfl rfl ?_
 refine .v rfl rfl (OpL.binI rfl rfl rfl rfl) ?_
 refine .a rfl rfl rfl rfl ?_
 refine .a rfl rfl rfl rfl ?_
 refine .nil ?_
 refine W.seq ?_
 refine W.pk ?_
 refine .m rfl rfl rfl rfl ?_
 refine .m rfl rfl rfl rfl ?_
 refine .v rfl rfl (OpL.binI rfl rfl rfl rfl) ?_
 refine .a rfl rfl rfl rfl ?_
 refine .nil ?_
 refine W.seq ?_
 refine W.pk ?_
 refine .m rfl rfl rfl rfl ?_
 refine .m rfl rfl rfl rfl ?_
 refine .v rfl rfl (OpL.binI rfl rfl rfl rfl) ?_
 refine .m rfl rfl rfl rfl ?_
 refine .v rfl rfl (O.shr (by decide) rfl rfl rfl) ?_
 refine .v rfl rfl (OpL.binI rfl rfl rfl rfl) ?_
 refine .a rfl rfl rfl rfl ?_
 refine .nil ?_
 refine W.seq ?_
 refine W.pk ?_
 refine .m rfl rfl rfl rfl ?_
 refine .m rfl rfl rfl rfl ?_
 refine .v rfl rfl (OpL.binI rfl rfl rfl rfl) ?_
 refine .m rfl rfl rfl rfl ?_
 refine .v rfl rfl (OpL.binI rfl rfl rfl rfl) ?_
 refine .v rfl rfl (OpL.binI rfl rfl rfl rfl) ?_
 refine .a rfl rfl rfl rfl ?_
 refine .nil ?_
 refine W.seq ?_
 refine W.pk ?_
 refine .m rfl rfl rfl rfl ?_
 refine .m rfl rfl rfl rfl ?_
 refine .v rfl rfl (OpL.binI rfl rfl rfl rfl) ?_
 refine .m rfl rfl rfl rfl ?_
 refine .v rfl rfl (O.shr (by decide) rfl rfl rfl) ?_
 refine .v rfl rfl (OpL.binI rfl rfl rfl rfl) ?_
 refine .m rfl rfl rfl rfl ?_
 refine .v rfl rfl (O.shr (by decide) rfl rfl rfl) ?_
 refine .v rfl rfl (OpL.binI rfl rfl rfl rfl) ?_
 refine .m rfl rfl rfl rfl ?_
 refine .v rfl rfl (O.shl (by decide) rfl rfl rfl) ?_
 refine .m rfl rfl rfl rfl ?_
 refine .v rfl rfl (OpL.binI rfl rfl rfl rfl) ?_
 refine .v rfl rfl (OpL.binI rfl rfl rfl rfl) ?_
 refine .v rfl rfl (O.build (out := [.imm (.val (.int .u64 (IntKind.wrap .u64 ((IntKind.wrap .u64 ((IntKind.wrap .u64 ((shrI .u64 x0 32) * (shrI .u64 x1 32))) + (shrI .u64 (IntKind.wrap .u64 ((IntKind.wrap .u64 ((shrI .u64 x0 32) * (bits .and .u64 x1 4294967295))) + (shrI .u64 (IntKind.wrap .u64 ((bits .and .u64 x0 4294967295) * (bits .and .u64 x1 4294967295))) 32))) 32))) + (shrI .u64 (IntKind.wrap .u64 ((IntKind.wrap .u64 ((bits .and .u64 x0 4294967295) * (shrI .u64 x1 32))) + (bits .and .u64 (IntKind.wrap .u64 ((IntKind.wrap .u64 ((shrI .u64 x0 32) * (bits .and .u64 x1 4294967295))) + (shrI .u64 (IntKind.wrap .u64 ((bits .and .u64 x0 4294967295) * (bits .and .u64 x1 4294967295))) 32))) 4294967295))) 32))))), .imm (.val (.int .u64 (bits .or .u64 (shlI .u64 (IntKind.wrap .u64 ((IntKind.wrap .u64 ((bits .and .u64 x0 4294967295) * (shrI .u64 x1 32))) + (bits .and .u64 (IntKind.wrap .u64 ((IntKind.wrap .u64 ((shrI .u64 x0 32) * (bits .and .u64 x1 4294967295))) + (shrI .u64 (IntKind.wrap .u64 ((bits .and .u64 x0 4294967295) * (bits .and .u64 x1 4294967295))) 32))) 4294967295))) 32) (bits .and .u64 (IntKind.wrap .u64 ((bits .and .u64 x0 4294967295) * (bits .and .u64 x1 4294967295))) 4294967295))))]) bl96 rfl rfl rfl rfl (by kernel_rfl)) ?_
 refine .s rfl rfl (O.st ty96 rfl rfl rfl rfl rfl rfl rfl rfl rfl rfl (all' := [.imm (.val (.int .u64 (IntKind.wrap .u64 ((IntKind.wrap .u64 ((IntKind.wrap .u64 ((shrI .u64 x0 32) * (shrI .u64 x1 32))) + (shrI .u64 (IntKind.wrap .u64 ((IntKind.wrap .u64 ((shrI .u64 x0 32) * (bits .and .u64 x1 4294967295))) + (shrI .u64 (IntKind.wrap .u64 ((bits .and .u64 x0 4294967295) * (bits .and .u64 x1 4294967295))) 32))) 32))) + (shrI .u64 (IntKind.wrap .u64 ((IntKind.wrap .u64 ((bits .and .u64 x0 4294967295) * (shrI .u64 x1 32))) + (bits .and .u64 (IntKind.wrap .u64 ((IntKind.wrap .u64 ((shrI .u64 x0 32) * (bits .and .u64 x1 4294967295))) + (shrI .u64 (IntKind.wrap .u64 ((bits .and .u64 x0 4294967295) * (bits .and .u64 x1 4294967295))) 32))) 4294967295))) 32))))), .imm (.val (.int .u64 (bits .or .u64 (shlI .u64 (IntKind.wrap .u64 ((IntKind.wrap .u64 ((bits .and .u64 x0 4294967295) * (shrI .u64 x1 32))) + (bits .and .u64 (IntKind.wrap .u64 ((IntKind.wrap .u64 ((shrI .u64 x0 32) * (bits .and .u64 x1 4294967295))) + (shrI .u64 (IntKind.wrap .u64 ((bits .and .u64 x0 4294967295) * (bits .and .u64 x1 4294967295))) 32))) 4294967295))) 32) (bits .and .u64 (IntKind.wrap .u64 ((bits .and .u64 x0 4294967295) * (bits .and .u64 x1 4294967295))) 4294967295))))]) rfl) ?_
 refine .nil ?_
 refine W.ret ?_
 cases h
 exact leaves (.inr rfl) rfl (.agg _ _ _ _ (cC (.imm _) (cC (.imm _) .nil))) (cN (cN .nil)) rfl rfl

noncomputable def fixnum_Wide_Div.b0 (x0 : fixnum_Wide) (x1 : Int) (v7 : Int) (v8 : Int) (v9 : Int) : Option ((Int × Int × Int) ⊕ (Int × Int)) :=
  if (decide (v8 ≥ 0)) = true then
    if (((shrI .u64 v7 63) == 1) || (decide ((bits .or .u64 (shlI .u64 v7 1) (bits .and .u64 (shrI .u64 x0.Lo (IntKind.wrap .u64 v8)) 1)) ≥ x1))) = true then
      some (.inl ((IntKind.wrap .u64 ((bits .or .u64 (shlI .u64 v7 1) (bits .and .u64 (shrI .u64 x0.Lo (IntKind.wrap .u64 v8)) 1)) - x1)), (IntKind.wrap .i64 (v8 - 1)), (bits .or .u64 v9 (shlI .u64 1 (IntKind.wrap .u64 v8)))))
    else
      some (.inl ((bits .or .u64 (shlI .u64 v7 1) (bits .and .u64 (shrI .u64 x0.Lo (IntKind.wrap .u64 v8)) 1)), (IntKind.wrap .i64 (v8 - 1)), v9))
  else
    some (.inr (v7, v9))
noncomputable def fixnum_Wide_Div.r0 (x0 : fixnum_Wide) (x1 : Int) (s : Int × Int × Int) : Option ((Int × Int × Int) ⊕ (Int × Int)) := fixnum_Wide_Div.b0 x0 x1 s.1 s.2.1 s.2.2
noncomputable def fixnum_Wide_Div.f (x0 : fixnum_Wide) (x1 : Int) : Option (fixnum_Wide × Int) :=
  if (x1 == 0) = true then
    some ((⟨0, 0⟩ : fixnum_Wide), 0)
  else
    if x1 ≠ 0 then
    if x1 ≠ 0 then
    (loop (fixnum_Wide_Div.r0 x0 x1) ((Int.tmod x0.Hi x1), 63, 0)).bind fun o17 =>
    some ((⟨(IntKind.wrap .u64 (Int.tdiv x0.Hi x1)), o17.2⟩ : fixnum_Wide), o17.1)
    else none
    else none
set_option maxRecDepth 100000 in
set_option maxHeartbeats 4000000 in
theorem fixnum_Wide_Div.ok {x0 : fixnum_Wide} {x1 : Int} {r : fixnum_Wide × Int} (h : fixnum_Wide_Div.f x0 x1 = some r) : Pm.Spec prog 73 [.agg [.imm (.val (.int .u64 x0.Hi)), .imm (.val (.int .u64 x0.Lo))], .imm (.val (.int .u64 x1))] (.tup [.agg [.imm (.val (.int .u64 r.1.Hi)), .imm (.val (.int .u64 r.1.Lo))], .imm (.val (.int .u64 r.2))]) [none, none] := by
 unfold fixnum_Wide_Div.f at h
 refine Pm.Spec.of_body Try.func73 rfl (by kernel_rfl) (Nat.le_of_ble_eq_true rfl) (Nat.le_of_ble_eq_true rfl) ?_
 refine W.ghost (σ' := (mkSt [(0, some (.agg [.imm (.val (.int .u64 x0.Hi)), .imm (.val (.int .u64 x0.Lo))])), (1, some (.imm (.val (.int .u64 x1))))] [] 1000)) (Gives.entry (.c rfl (.c rfl .n)) .n) ?_
 refine W.seq ?_
 refine W.pk ?_
 refine .t rfl rfl (O.box rfl rfl rfl rfl rfl) ?_
 refine .t rfl rfl (O.alloc z96 rfl) ?_
 refine .a rfl rfl rfl rfl ?_
 refine .nil ?_
 refine W.seq ?_
 refine W.seq ?_
 refine W.pk ?_
 refine .m rfl rfl rfl rfl ?_
 refine .v rfl rfl (OpL.binI rfl rfl rfl rfl) ?_
 refine .nil ?_
 refine W.cond rfl (fun q1 => ?_) (fun q1 => ?_)
 ·have h := ifT q1 h
  refine W.seq ?_
  refine W.pk ?_
  refine .v rfl rfl (O.build (out := [.imm (.val (.int .u64 0)), .imm (.val (.int .u64 0))]) bl96 rfl rfl rfl rfl (by kernel_rfl)) ?_
  refine .s rfl rfl (O.st ty96 rfl rfl rfl rfl rfl rfl rfl rfl rfl rfl (all' := [.imm (.val (.int .u64 0)), .imm (.val (.int .u64 0))]) rfl) ?_
  refine .a rfl rfl rfl rfl ?_
  refine .nil ?_
  refine W.ret ?_
  cases h
  exact leaves (.inr rfl) rfl (.tup _ _ _ _ (cC (.agg _ _ _ _ (cC (.imm _) (cC (.imm _) .nil))) (cC (.imm _) .nil))) (cN (cN .nil)) rfl rfl
 ·have h := ifF q1 h
  refine W.skip ?_
  refine W.seq ?_
  obtain ⟨c2, h⟩ := chk h
  refine W.pk ?_
  refine .v rfl rfl (O.fld fld96_0 rfl rfl rfl) ?_
  refine .v rfl rfl (O.ld (y := .imm (.val (.int .u64 x0.Hi))) ty88 rfl rfl rfl) ?_
  refine .m rfl rfl rfl rfl ?_
  refine .v rfl rfl (O.quo rfl rfl rfl c2) ?_
  refine .v rfl rfl (O.build (out := [.imm (.val (.int .u64 (IntKind.wrap .u64 (Int.tdiv x0.Hi x1)))), .imm (.val (.int .u64 0))]) bl96 rfl rfl rfl rfl (by kernel_rfl)) ?_
  refine .t rfl rfl (O.alloc z96 rfl) ?_
  refine .s rfl rfl (O.st ty96 rfl rfl rfl rfl rfl rfl rfl rfl rfl rfl (all' := [.imm (.val (.int .u64 (IntKind.wrap .u64 (Int.tdiv x0.Hi x1)))), .imm (.val (.int .u64 0))]) rfl) ?_
  refine .nil ?_
  refine W.seq ?_
  obtain ⟨c3, h⟩ := chk h
  refine W.pk ?_
  refine .v rfl rfl (O.fld fld96_0 rfl rfl rfl) ?_
  refine .v rfl rfl (O.ld (y := .imm (.val (.int .u64 x0.Hi))) ty88 rfl rfl rfl) ?_
  refine .m rfl rfl rfl rfl ?_
  refine .v rfl rfl (O.rem rfl rfl rfl c3) ?_
  refine .a rfl rfl rfl rfl ?_
  refine .nil ?_
  refine W.seq ?_
  refine W.seq ?_
  refine W.pk ?_
  refine .a rfl rfl rfl rfl ?_
  refine .nil ?_
  obtain ⟨o17, b18, h⟩ := bnd1 h
  refine W.fork (mkSt [(4, some (.ptr 1001 0)), (6, some (.ptr 1002 0)), (7, some (.imm (.val (.int .u64 o17.1))))] [(1001, some (.box [.imm (.val (.int .u64 0)), .imm (.val (.int .u64 0))])), (1002, some (.box [.imm (.val (.int .u64 (IntKind.wrap .u64 (Int.tdiv x0.Hi x1)))), .imm (.val (.int .u64 o17.2))]))] 1003) ?_ ?_
  ·refine W.seq ?_
   refine W.pk ?_
   refine .v rfl rfl (O.ldN ty96 rfl rfl rfl) ?_
   refine .m rfl rfl rfl rfl ?_
   refine .s rfl rfl (O.st ty96 rfl rfl rfl rfl rfl rfl rfl rfl rfl rfl (all' := [.imm (.val (.int .u64 (IntKind.wrap .u64 (Int.tdiv x0.Hi x1)))), .imm (.val (.int .u64 o17.2))]) rfl) ?_
   refine .a rfl rfl rfl rfl ?_
   refine .nil ?_
   refine W.ret ?_
   cases h
   exact leaves (.inr rfl) rfl (.tup _ _ _ _ (cC (.agg _ _ _ _ (cC (.imm _) (cC (.imm _) .nil))) (cC (.imm _) .nil))) (cN (cN .nil)) rfl rfl
  ·clear h
   refine W.block ?_
   refine W.loopF (fun (s_ : Int × Int × Int) => mkSt [(1, some (.imm (.val (.int .u64 x1)))), (2, some (.ptr 1000 0)), (4, some (.ptr 1001 0)), (6, some (.ptr 1002 0)), (7, some (.imm (.val (.int .u64 s_.1)))), (8, some (.i s_.2.1))] [(1000, some (.box [.imm (.val (.int .u64 x0.Hi)), .imm (.val (.int .u64 x0.Lo))])), (1001, some (.box [.imm (.val (.int .u64 0)), .imm (.val (.int .u64 0))])), (1002, some (.box [.imm (.val (.int .u64 (IntKind.wrap .u64 (Int.tdiv x0.Hi x1)))), .imm (.val (.int .u64 s_.2.2))]))] 1003) b18 (Gives.mkR [] (.r rfl rfl (.r rfl rfl (.r rfl rfl (.r rfl rfl (.r rfl rfl (.r rfl rfl .n)))))) (.r rfl rfl rfl (.r rfl rfl rfl (.r rfl rfl rfl .n))) rfl rfl rfl) ?_
   rintro ⟨v7, v8, v9⟩ s_ hr
   have h : fixnum_Wide_Div.b0 x0 x1 v7 v8 v9 = some s_ := hr
   unfold fixnum_Wide_Div.b0 at h
   refine W.seq ?_
   refine W.seq ?_
   refine W.pk ?_
   refine .m rfl rfl rfl rfl ?_
   refine .v rfl rfl (OpL.binI rfl rfl rfl rfl) ?_
   refine .nil ?_
   refine W.cond rfl (fun q20 => ?_) (fun q20 => ?_)
   ·have h := ifT q20 h
    refine W.skip ?_
    refine W.seq ?_
    refine W.block ?_
    refine W.seq ?_
    refine W.pk ?_
    refine .m rfl rfl rfl rfl ?_
    refine .v rfl rfl (O.shr (by decide) rfl rfl rfl) ?_
    refine .a rfl rfl rfl rfl ?_
    refine .nil ?_
    refine W.seq ?_
    refine W.pk ?_
    refine .m rfl rfl rfl rfl ?_
    refine .v rfl rfl (O.shl (by decide) rfl rfl rfl) ?_
    refine .v rfl rfl (O.fld fld96_1 rfl rfl rfl) ?_
    refine .v rfl rfl (O.ld (y := .imm (.val (.int .u64 x0.Lo))) ty88 rfl rfl rfl) ?_
    refine .m rfl rfl rfl rfl ?_
    refine .v rfl rfl (O.conv h3 u92 rfl rfl) ?_
    refine .v rfl rfl (O.shr (wrapU _ rfl _) rfl rfl rfl) ?_
    refine .v rfl rfl (OpL.binI rfl rfl rfl rfl) ?_
    refine .v rfl rfl (OpL.binI rfl rfl rfl rfl) ?_
    refine .a rfl rfl rfl rfl ?_
    refine .nil ?_
    refine W.seq ?_
    refine W.fork (mkSt [(1, some (.imm (.val (.int .u64 x1)))), (2, some (.ptr 1000 0)), (4, some (.ptr 1001 0)), (6, some (.ptr 1002 0)), (7, some (.imm (.val (.int .u64 (bits .or .u64 (shlI .u64 v7 1) (bits .and .u64 (shrI .u64 x0.Lo (IntKind.wrap .u64 v8)) 1)))))), (8, some (.i v8)), (43, some (.b (((shrI .u64 v7 63) == 1) || (decide ((bits .or .u64 (shlI .u64 v7 1) (bits .and .u64 (shrI .u64 x0.Lo (IntKind.wrap .u64 v8)) 1)) ≥ x1)))))] [(1000, some (.box [.imm (.val (.int .u64 x0.Hi)), .imm (.val (.int .u64 x0.Lo))])), (1001, some (.box [.imm (.val (.int .u64 0)), .imm (.val (.int .u64 0))])), (1002, some (.box [.imm (.val (.int .u64 (IntKind.wrap .u64 (Int.tdiv x0.Hi x1)))), .imm (.val (.int .u64 v9))]))] 1003) ?_ ?_
    ·refine W.cond rfl (fun q22 => ?_) (fun q22 => ?_)
     ·have h := ifT q22 h
      refine W.seq ?_
      refine W.pk ?_
      refine .m rfl rfl rfl rfl ?_
      refine .m rfl rfl rfl rfl ?_
      refine .v rfl rfl (OpL.binI rfl rfl rfl rfl) ?_
      refine .a rfl rfl rfl rfl ?_
      refine .nil ?_
      refine W.pk ?_
      refine .v rfl rfl (O.fld fld96_1 rfl rfl rfl) ?_
      refine .v rfl rfl (O.ld (y := .imm (.val (.int .u64 v9))) ty88 rfl rfl rfl) ?_
      refine .m rfl rfl rfl rfl ?_
      refine .v rfl rfl (O.conv h3 u92 rfl rfl) ?_
      refine .v rfl rfl (O.shl (wrapU _ rfl _) rfl rfl rfl) ?_
      refine .v rfl rfl (OpL.binI rfl rfl rfl rfl) ?_
      refine .v rfl rfl (O.fld fld96_1 rfl rfl rfl) ?_
      refine .s rfl rfl (O.st ty88 rfl rfl rfl rfl rfl rfl rfl rfl rfl rfl (all' := [.imm (.val (.int .u64 (IntKind.wrap .u64 (Int.tdiv x0.Hi x1)))), .imm (.val (.int .u64 (bits .or .u64 v9 (shlI .u64 1 (IntKind.wrap .u64 v8)))))]) rfl) ?_
      refine .nil ?_
      refine W.pk ?_
      refine .m rfl rfl rfl rfl ?_
      refine .v rfl rfl (OpL.binI rfl rfl rfl rfl) ?_
      refine .a rfl rfl rfl rfl ?_
      refine .nil ?_
      cases h
      exact rdN (Gives.mkR [] (.r rfl rfl (.r rfl rfl (.r rfl rfl (.r rfl rfl (.r rfl rfl (.r rfl rfl .n)))))) (.r rfl rfl rfl (.r rfl rfl rfl (.r rfl rfl rfl .n))) rfl rfl rfl)
     ·have h := ifF q22 h
      refine W.skip ?_
      refine W.pk ?_
      refine .m rfl rfl rfl rfl ?_
      refine .v rfl rfl (OpL.binI rfl rfl rfl rfl) ?_
      refine .a rfl rfl rfl rfl ?_
      refine .nil ?_
      cases h
      exact rdN (Gives.mkR [] (.r rfl rfl (.r rfl rfl (.r rfl rfl (.r rfl rfl (.r rfl rfl (.r rfl rfl .n)))))) (.r rfl rfl rfl (.r rfl rfl rfl (.r rfl rfl rfl .n))) rfl rfl rfl)
    ·clear h
     rcases tf ((shrI .u64 v7 63) == 1) with g21 | g21
     ·refine W.pk ?_
      refine .m rfl rfl rfl rfl ?_
      refine .v rfl rfl (OpL.binI rfl rfl rfl rfl) ?_
      refine .m rfl rfl rfl rfl ?_
      refine .x rfl (unmet rfl rfl rfl g21) ?_
      refine .x rfl (unmet rfl rfl rfl g21) ?_
      refine .x rfl (unmet rfl rfl rfl g21) ?_
      refine .v rfl rfl (O.pickT g21 rfl rfl rfl) ?_
      refine .nil ?_
      exact toN (Gives.mkR [] (.r rfl rfl (.r rfl rfl (.r rfl rfl (.r rfl rfl (.r rfl rfl (.r rfl rfl (.c rfl (sbb (by simp only [g21, Bool.true_or, Bool.or_true, Bool.false_or, Bool.or_false, Bool.true_and, Bool.and_true, Bool.false_and, Bool.and_false, Bool.not_true, Bool.not_false, cond_true, cond_false])) rfl .n))))))) (.r rfl rfl rfl (.r rfl rfl rfl (.r rfl rfl rfl .n))) rfl rfl rfl)
     ·refine W.pk ?_
      refine .m rfl rfl rfl rfl ?_
      refine .v rfl rfl (OpL.binI rfl rfl rfl rfl) ?_
      refine .m rfl rfl rfl rfl ?_
      refine .m rfl (met rfl rfl rfl g21) rfl rfl ?_
      refine .m rfl (met rfl rfl rfl g21) rfl rfl ?_
      refine .v rfl (met rfl rfl rfl g21) (OpL.binI rfl rfl rfl rfl) ?_
      refine .v rfl rfl (O.pickF g21 rfl rfl rfl) ?_
      refine .nil ?_
      exact toN (Gives.mkR [] (.r rfl rfl (.r rfl rfl (.r rfl rfl (.r rfl rfl (.r rfl rfl (.r rfl rfl (.c rfl (sbb (by simp only [g21, Bool.true_or, Bool.or_true, Bool.false_or, Bool.or_false, Bool.true_and, Bool.and_true, Bool.false_and, Bool.and_false, Bool.not_true, Bool.not_false, cond_true, cond_false])) rfl .n))))))) (.r rfl rfl rfl (.r rfl rfl rfl (.r rfl rfl rfl .n))) rfl rfl rfl)
   ·have h := ifF q20 h
    refine W.exit ?_
    cases h
    refine rdX fun e_ => ?_
    subst e_
    repeat with_reducible refine thru ?_
    refine hit ?_
    exact toN (Gives.mkR [] (.r rfl rfl (.r rfl rfl (.r rfl rfl .n))) (.r rfl rfl rfl (.r rfl rfl rfl .n)) rfl rfl rfl)

noncomputable def fixnum_up.f (x0 : Int) (x1 : Int) (x2 : Int) (x3 : Bool) (x4 : Int) : Option (Bool) :=
  if (x1 == 0) = true then
    some false
  else
    if (x4 == 1) = true then
      some x3
    else
      if (x4 == 2) = true then
        some (!x3)
      else
        if (x4 == 4) = true then
          some ((decide (x1 > (IntKind.wrap .u64 (x2 - x1)))) || ((x1 == (IntKind.wrap .u64 (x2 - x1))) && ((bits .and .u64 x0 1) == 1)))
        else
          some false
set_option maxRecDepth 100000 in
set_option maxHeartbeats 4000000 in
theorem fixnum_up.ok {x0 : Int} {x1 : Int} {x2 : Int} {x3 : Bool} {x4 : Int} {r : Bool} (h : fixnum_up.f x0 x1 x2 x3 x4 = some r) : Pm.Spec prog 77 [.imm (.val (.int .u64 x0)), .imm (.val (.int .u64 x1)), .imm (.val (.int .u64 x2)), .imm (.val (.bool x3)), .imm (.val (.int .i64 x4))] (.imm (.val (.bool r))) [none, none, none, none, none] := by
 unfold fixnum_up.f at h
 refine Pm.Spec.of_body Try.func77 rfl (by kernel_rfl) (Nat.le_of_ble_eq_true rfl) (Nat.le_of_ble_eq_true rfl) ?_
 refine W.ghost (σ' := (mkSt [(0, some (.imm (.val (.int .u64 x0)))), (1, some (.imm (.val (.int .u64 x1)))), (2, some (.imm (.val (.int .u64 x2)))), (3, some (.b x3)), (4, some (.i x4))] [] 1000)) (Gives.entry (.c rfl (.c rfl (.c rfl (.c rfl (.c rfl .n))))) .n) ?_
 refine W.seq ?_
 refine W.pk ?_
 refine .a rfl rfl rfl rfl ?_
 refine .nil ?_
 refine W.seq ?_
 refine W.seq ?_
 refine W.pk ?_
 refine .m rfl rfl rfl rfl ?_
 refine .v rfl rfl (OpL.binI rfl rfl rfl rfl) ?_
 refine .nil ?_
 refine W.cond rfl (fun q1 => ?_) (fun q1 => ?_)
 ·have h := ifT q1 h
  refine W.seq ?_
  refine W.pk ?_
  refine .a rfl rfl rfl rfl ?_
  refine .nil ?_
  refine W.ret ?_
  cases h
  exact leaves (.inr rfl) rfl (.imm _) (cN (cN (cN (cN (cN .nil))))) rfl rfl
 ·have h := ifF q1 h
  refine W.skip ?_
  refine W.seq ?_
  refine W.seq ?_
  refine W.pk ?_
  refine .m rfl rfl rfl rfl ?_
  refine .nil ?_
  refine W.block ?_
  refine W.seq ?_
  refine W.pk ?_
  refine .v rfl rfl (OpL.binI rfl rfl rfl rfl) ?_
  refine .a rfl rfl rfl rfl ?_
  refine .nil ?_
  refine W.cond rfl (fun q2 => ?_) (fun q2 => ?_)
  ·have h := ifT q2 h
   refine W.seq ?_
   refine W.pk ?_
   refine .m rfl rfl rfl rfl ?_
   refine .a rfl rfl rfl rfl ?_
   refine .nil ?_
   refine W.ret ?_
   cases h
   exact leaves (.inr rfl) rfl (.imm _) (cN (cN (cN (cN (cN .nil))))) rfl rfl
  ·have h := ifF q2 h
   refine W.seq ?_
   refine W.pk ?_
   refine .v rfl rfl (OpL.binI rfl rfl rfl rfl) ?_
   refine .a rfl rfl rfl rfl ?_
   refine .nil ?_
   refine W.cond rfl (fun q3 => ?_) (fun q3 => ?_)
   ·have h := ifT q3 h
    refine W.seq ?_
    refine W.pk ?_
    refine .m rfl rfl rfl rfl ?_
    refine .v rfl rfl (OpL.unV rfl rfl rfl) ?_
    refine .a rfl rfl rfl rfl ?_
    refine .nil ?_
    refine W.ret ?_
    cases h
    exact leaves (.inr rfl) rfl (.imm _) (cN (cN (cN (cN (cN .nil))))) rfl rfl
   ·have h := ifF q3 h
    refine W.seq ?_
    refine W.pk ?_
    refine .v rfl rfl (OpL.binI rfl rfl rfl rfl) ?_
    refine .a rfl rfl rfl rfl ?_
    refine .nil ?_
    refine W.cond rfl (fun q4 => ?_) (fun q4 => ?_)
    ·have h := ifT q4 h
     refine W.seq ?_
     refine W.pk ?_
     refine .m rfl rfl rfl rfl ?_
     refine .m rfl rfl rfl rfl ?_
     refine .v rfl rfl (OpL.binI rfl rfl rfl rfl) ?_
     refine .a rfl rfl rfl rfl ?_
     refine .nil ?_
     refine W.seq ?_
     refine W.fork (mkSt [(10, some (.b ((decide (x1 > (IntKind.wrap .u64 (x2 - x1)))) || ((x1 == (IntKind.wrap .u64 (x2 - x1))) && ((bits .and .u64 x0 1) == 1)))))] [] 1000) ?_ ?_
     ·refine W.ret ?_
      cases h
      exact leaves (.inr rfl) rfl (.imm _) (cN (cN (cN (cN (cN .nil))))) rfl rfl
     ·clear h
      rcases tf (decide (x1 > (IntKind.wrap .u64 (x2 - x1)))) with g5 | g5
      ·refine W.pk ?_
       refine .m rfl rfl rfl rfl ?_
       refine .m rfl rfl rfl rfl ?_
       refine .v rfl rfl (OpL.binI rfl rfl rfl rfl) ?_
       refine .m rfl rfl rfl rfl ?_
       refine .x rfl (unmet rfl rfl rfl g5) ?_
       refine .x rfl (unmet rfl rfl rfl g5) ?_
       refine .x rfl (unmet rfl rfl rfl g5) ?_
       refine .x rfl (unmet rfl rfl rfl g5) ?_
       refine .x rfl (unmetU rfl rfl rfl) ?_
       refine .x rfl (unmetU rfl rfl rfl) ?_
       refine .x rfl (unmetU rfl rfl rfl) ?_
       refine .x rfl (unmet rfl rfl rfl g5) ?_
       refine .v rfl rfl (O.pickT g5 rfl rfl rfl) ?_
       refine .a rfl rfl rfl rfl ?_
       refine .nil ?_
       exact toN (Gives.mkR [] (.c rfl (sbb (by simp only [g5, Bool.true_or, Bool.or_true, Bool.false_or, Bool.or_false, Bool.true_and, Bool.and_true, Bool.false_and, Bool.and_false, Bool.not_true, Bool.not_false, cond_true, cond_false])) rfl .n) .n rfl rfl rfl)
      ·rcases tf (x1 == (IntKind.wrap .u64 (x2 - x1))) with g6 | g6
       ·refine W.pk ?_
        refine .m rfl rfl rfl rfl ?_
        refine .m rfl rfl rfl rfl ?_
        refine .v rfl rfl (OpL.binI rfl rfl rfl rfl) ?_
        refine .m rfl rfl rfl rfl ?_
        refine .m rfl (met rfl rfl rfl g5) rfl rfl ?_
        refine .m rfl (met rfl rfl rfl g5) rfl rfl ?_
        refine .v rfl (met rfl rfl rfl g5) (OpL.binI rfl rfl rfl rfl) ?_
        refine .m rfl (met rfl rfl rfl g5) rfl rfl ?_
        refine .m rfl (met rfl rfl rfl g6) rfl rfl ?_
        refine .v rfl (met rfl rfl rfl g6) (OpL.binI rfl rfl rfl rfl) ?_
        refine .v rfl (met rfl rfl rfl g6) (OpL.binI rfl rfl rfl rfl) ?_
        refine .v rfl (met rfl rfl rfl g5) (O.pickT g6 rfl rfl rfl) ?_
        refine .v rfl rfl (O.pickF g5 rfl rfl rfl) ?_
        refine .a rfl rfl rfl rfl ?_
        refine .nil ?_
        exact toN (Gives.mkR [] (.c rfl (sbb (by first | (simp only [g5, g6, Bool.true_or, Bool.or_true, Bool.false_or, Bool.or_false, Bool.true_and, Bool.and_true, Bool.false_and, Bool.and_false, Bool.not_true, Bool.not_false, cond_true, cond_false]; done) | (repeat (first | rw [g5] | rw [g6])) <;> simp only [Bool.true_or, Bool.or_true, Bool.false_or, Bool.or_false, Bool.true_and, Bool.and_true, Bool.false_and, Bool.and_false, Bool.not_true, Bool.not_false, cond_true, cond_false])) rfl .n) .n rfl rfl rfl)
       ·refine W.pk ?_
        refine .m rfl rfl rfl rfl ?_
        refine .m rfl rfl rfl rfl ?_
        refine .v rfl rfl (OpL.binI rfl rfl rfl rfl) ?_
        refine .m rfl rfl rfl rfl ?_
        refine .m rfl (met rfl rfl rfl g5) rfl rfl ?_
        refine .m rfl (met rfl rfl rfl g5) rfl rfl ?_
        refine .v rfl (met rfl rfl rfl g5) (OpL.binI rfl rfl rfl rfl) ?_
        refine .m rfl (met rfl rfl rfl g5) rfl rfl ?_
        refine .x rfl (unmet rfl rfl rfl g6) ?_
        refine .x rfl (unmet rfl rfl rfl g6) ?_
        refine .x rfl (unmet rfl rfl rfl g6) ?_
        refine .v rfl (met rfl rfl rfl g5) (O.pickF g6 rfl rfl rfl) ?_
        refine .v rfl rfl (O.pickF g5 rfl rfl rfl) ?_
        refine .a rfl rfl rfl rfl ?_
        refine .nil ?_
        exact toN (Gives.mkR [] (.c rfl (sbb (by first | (simp only [g5, g6, Bool.true_or, Bool.or_true, Bool.false_or, Bool.or_false, Bool.true_and, Bool.and_true, Bool.false_and, Bool.and_false, Bool.not_true, Bool.not_false, cond_true, cond_false]; done) | (repeat (first | rw [g5] | rw [g6])) <;> simp only [Bool.true_or, Bool.or_true, Bool.false_or, Bool.or_false, Bool.true_and, Bool.and_true, Bool.false_and, Bool.and_false, Bool.not_true, Bool.not_false, cond_true, cond_false])) rfl .n) .n rfl rfl rfl)
    ·have h := ifF q4 h
     refine W.skip ?_
     refine W.seq ?_
     refine W.pk ?_
     refine .a rfl rfl rfl rfl ?_
     refine .nil ?_
     refine W.ret ?_
     cases h
     exact leaves (.inr rfl) rfl (.imm _) (cN (cN (cN (cN (cN .nil))))) rfl rfl

noncomputable def fixnum_signed.f (x0 : Int) (x1 : Bool) : Option (Int × Int) :=
  if (x1 && (x0 == 9223372036854775808)) = true then
    some (-9223372036854775808, 0)
  else
    if (decide (x0 ≥ 9223372036854775808)) = true then
      some (0, 9)
    else
      if x1 = true then
        some ((IntKind.wrap .i64 (0 - (IntKind.wrap .i64 x0))), 0)
      else
        some ((IntKind.wrap .i64 x0), 0)
set_option maxRecDepth 100000 in
set_option maxHeartbeats 4000000 in
theorem fixnum_signed.ok {x0 : Int} {x1 : Bool} {r : Int × Int} (h : fixnum_signed.f x0 x1 = some r) : Pm.Spec prog 78 [.imm (.val (.int .u64 x0)), .imm (.val (.bool x1))] (.tup [.imm (.val (.int .i64 r.1)), .imm (.val (.int .i64 r.2))]) [none, none] := by
 unfold fixnum_signed.f at h
 refine Pm.Spec.of_body Try.func78 rfl (by kernel_rfl) (Nat.le_of_ble_eq_true rfl) (Nat.le_of_ble_eq_true rfl) ?_
 refine W.ghost (σ' := (mkSt [(0, some (.imm (.val (.int .u64 x0)))), (1, some (.b x1))] [] 1000)) (Gives.entry (.c rfl (.c rfl .n)) .n) ?_
 refine W.seq ?_
 refine W.pk ?_
 refine .a rfl rfl rfl rfl ?_
 refine .a rfl rfl rfl rfl ?_
 refine .nil ?_
 refine W.seq ?_
 refine W.block ?_
 refine W.seq ?_
 refine W.fork (mkSt [(0, some (.imm (.val (.int .u64 x0)))), (1, some (.b x1)), (6, some (.b (x1 && (x0 == 9223372036854775808))))] [] 1000) ?_ ?_
 ·refine W.cond rfl (fun q2 => ?_) (fun q2 => ?_)
  ·have h := ifT q2 h
   refine W.seq ?_
   refine W.pk ?_
   refine .a rfl rfl rfl rfl ?_
   refine .a rfl rfl rfl rfl ?_
   refine .nil ?_
   refine W.ret ?_
   cases h
   exact leaves (.inr rfl) rfl (.tup _ _ _ _ (cC (.imm _) (cC (.imm _) .nil))) (cN (cN .nil)) rfl rfl
  ·have h := ifF q2 h
   refine W.seq ?_
   refine W.pk ?_
   refine .m rfl rfl rfl rfl ?_
   refine .v rfl rfl (OpL.binI rfl rfl rfl rfl) ?_
   refine .a rfl rfl rfl rfl ?_
   refine .nil ?_
   refine W.cond rfl (fun q3 => ?_) (fun q3 => ?_)
   ·have h := ifT q3 h
    refine W.seq ?_
    refine W.pk ?_
    refine .a rfl rfl rfl rfl ?_
    refine .a rfl rfl rfl rfl ?_
    refine .nil ?_
    refine W.ret ?_
    cases h
    exact leaves (.inr rfl) rfl (.tup _ _ _ _ (cC (.imm _) (cC (.imm _) .nil))) (cN (cN .nil)) rfl rfl
   ·have h := ifF q3 h
    refine W.seq ?_
    refine W.pk ?_
    refine .m rfl rfl rfl rfl ?_
    refine .a rfl rfl rfl rfl ?_
    refine .nil ?_
    refine W.cond rfl (fun q4 => ?_) (fun q4 => ?_)
    ·have h := ifT q4 h
     refine W.seq ?_
     refine W.pk ?_
     refine .m rfl rfl rfl rfl ?_
     refine .v rfl rfl (O.conv h88 u3 rfl rfl) ?_
     refine .v rfl rfl (OpL.unV rfl rfl rfl) ?_
     refine .a rfl rfl rfl rfl ?_
     refine .a rfl rfl rfl rfl ?_
     refine .nil ?_
     refine W.ret ?_
     cases h
     exact leaves (.inr rfl) rfl (.tup _ _ _ _ (cC (.imm _) (cC (.imm _) .nil))) (cN (cN .nil)) rfl rfl
    ·have h := ifF q4 h
     refine W.skip ?_
     refine W.seq ?_
     refine W.pk ?_
     refine .m rfl rfl rfl rfl ?_
     refine .v rfl rfl (O.conv h88 u3 rfl rfl) ?_
     refine .a rfl rfl rfl rfl ?_
     refine .a rfl rfl rfl rfl ?_
     refine .nil ?_
     refine W.ret ?_
     cases h
     exact leaves (.inr rfl) rfl (.tup _ _ _ _ (cC (.imm _) (cC (.imm _) .nil))) (cN (cN .nil)) rfl rfl
 ·clear h
  rcases tf x1 with g1 | g1
  ·refine W.pk ?_
   refine .m rfl rfl rfl rfl ?_
   refine .m rfl rfl rfl rfl ?_
   refine .m rfl (met rfl rfl rfl g1) rfl rfl ?_
   refine .v rfl (met rfl rfl rfl g1) (OpL.binI rfl rfl rfl rfl) ?_
   refine .v rfl rfl (O.pickT g1 rfl rfl rfl) ?_
   refine .a rfl rfl rfl rfl ?_
   refine .nil ?_
   exact toN (Gives.mkR [] (.r rfl rfl (.r rfl rfl (.c rfl (sbb (by simp only [g1, Bool.true_or, Bool.or_true, Bool.false_or, Bool.or_false, Bool.true_and, Bool.and_true, Bool.false_and, Bool.and_false, Bool.not_true, Bool.not_false, cond_true, cond_false])) rfl .n))) .n rfl rfl rfl)
  ·refine W.pk ?_
   refine .m rfl rfl rfl rfl ?_
   refine .m rfl rfl rfl rfl ?_
   refine .x rfl (unmet rfl rfl rfl g1) ?_
   refine .x rfl (unmet rfl rfl rfl g1) ?_
   refine .v rfl rfl (O.pickF g1 rfl rfl rfl) ?_
   refine .a rfl rfl rfl rfl ?_
   refine .nil ?_
   exact toN (Gives.mkR [] (.r rfl rfl (.r rfl rfl (.c rfl (sbb (by simp only [g1, Bool.true_or, Bool.or_true, Bool.false_or, Bool.or_false, Bool.true_and, Bool.and_true, Bool.false_and, Bool.and_false, Bool.not_true, Bool.not_false, cond_true, cond_false])) rfl .n))) .n rfl rfl rfl)
end Go.Proofs.Ytknfdnlhadjbaaa
