/- Shows what functions of the program come to, each as a plain function: written by a program of the author's for this claim. -/
import Derived.Test.YtipgpnagfmlahaaGx7
namespace Go.Proofs.Ytipgpnagfmlahaa
open Go Go.Pm
set_option linter.unusedVariables false
set_option linter.unusedSimpArgs false
noncomputable def cmp_isNaN_int.f (x0 : Int) : Option (Bool) :=
  some (x0 != x0)
set_option maxRecDepth 100000 in
set_option maxHeartbeats 4000000 in
theorem cmp_isNaN_int.ok {x0 : Int} {r : Bool} (h : cmp_isNaN_int.f x0 = some r) : Pm.Spec prog 51 [.imm (.val (.int .i64 x0))] (.imm (.val (.bool r))) [none] := by
  unfold cmp_isNaN_int.f at h
  refine Pm.Spec.of_body Try.func51 rfl (by kernel_rfl) (Nat.le_of_ble_eq_true rfl) (Nat.le_of_ble_eq_true rfl) ?_
  refine W.ghost (σ' := (mkSt [(0, some (.imm (.val (.int .i64 x0))))] [] 1000)) (Gives.entry (.c rfl .n) .n) ?_
  refine W.seq ?_
  refine W.pk ?_
  refine .v rfl rfl (OpL.move (.inr rfl) rfl) ?_
  refine .nil ?_
  refine W.seq ?_
  refine W.pk ?_
  refine .v rfl rfl (OpL.move (.inl rfl) rfl) ?_
  refine .v rfl rfl (OpL.move (.inl rfl) rfl) ?_
  refine .v rfl rfl (OpL.binI rfl rfl rfl rfl) ?_
  refine .v rfl rfl (OpL.move (.inr rfl) rfl) ?_
  refine .nil ?_
  refine W.ret ?_
  cases h
  exact leaves (.inr rfl) rfl (.imm _) (cN .nil) rfl rfl

noncomputable def cmp_Compare_int.f (x0 : Int) (x1 : Int) : Option (Int) :=
  (cmp_isNaN_int.f x0).bind fun t1 =>
  (cmp_isNaN_int.f x1).bind fun t3 =>
  if t1 = true then
    if t3 = true then
      some 0
    else
      some (-1)
  else
    if t3 = true then
      some 1
    else
      if (decide (x0 < x1)) = true then
        some (-1)
      else
        if (decide (x0 > x1)) = true then
          some 1
        else
          some 0
set_option maxRecDepth 100000 in
set_option maxHeartbeats 4000000 in
theorem cmp_Compare_int.ok {x0 : Int} {x1 : Int} {r : Int} (h : cmp_Compare_int.f x0 x1 = some r) : Pm.Spec prog 45 [.imm (.val (.int .i64 x0)), .imm (.val (.int .i64 x1))] (.imm (.val (.int .i64 r))) [none, none] := by
  unfold cmp_Compare_int.f at h
  refine Pm.Spec.of_body Try.func45 rfl (by kernel_rfl) (Nat.le_of_ble_eq_true rfl) (Nat.le_of_ble_eq_true rfl) ?_
  refine W.ghost (σ' := (mkSt [(0, some (.imm (.val (.int .i64 x0)))), (1, some (.imm (.val (.int .i64 x1))))] [] 1000)) (Gives.entry (.c rfl (.c rfl .n)) .n) ?_
  refine W.seq ?_
  refine W.pk ?_
  refine .v rfl rfl (OpL.move (.inr rfl) rfl) ?_
  refine .nil ?_
  refine W.seq ?_
  obtain ⟨t1, b2, h⟩ := bnd1 h
  refine W.pk ?_
  refine .v rfl rfl (OpL.move (.inl rfl) rfl) ?_
  refine .call (.imm (.val (.bool t1))) [] 0 (cmp_isNaN_int.ok b2) rfl rfl rfl ca51 rfl rfl (cC (.imm _) .nil) rfl rfl rfl rfl rfl ?_
  refine .v rfl rfl (OpL.move (.inr rfl) rfl) ?_
  refine .nil ?_
  refine W.seq ?_
  obtain ⟨t3, b4, h⟩ := bnd1 h
  refine W.pk ?_
  refine .v rfl rfl (OpL.move (.inl rfl) rfl) ?_
  refine .call (.imm (.val (.bool t3))) [] 0 (cmp_isNaN_int.ok b4) rfl rfl rfl ca51 rfl rfl (cC (.imm _) .nil) rfl rfl rfl rfl rfl ?_
  refine .v rfl rfl (OpL.move (.inr rfl) rfl) ?_
  refine .nil ?_
  refine W.seq ?_
  refine W.seq ?_
  refine W.pk ?_
  refine .v rfl rfl (OpL.move (.inl rfl) rfl) ?_
  refine .nil ?_
  refine W.cond rfl (fun q5 => ?_) (fun q5 => ?_)
  · have h := ifT q5 h
    refine W.seq ?_
    refine W.seq ?_
    refine W.pk ?_
    refine .v rfl rfl (OpL.move (.inl rfl) rfl) ?_
    refine .nil ?_
    refine W.cond rfl (fun q6 => ?_) (fun q6 => ?_)
    · have h := ifT q6 h
      refine W.seq ?_
      refine W.pk ?_
      refine .v rfl rfl (OpL.move (.inr rfl) rfl) ?_
      refine .nil ?_
      refine W.ret ?_
      cases h
      exact leaves (.inr rfl) rfl (.imm _) (cN (cN .nil)) rfl rfl
    · have h := ifF q6 h
      refine W.skip ?_
      refine W.seq ?_
      refine W.pk ?_
      refine .v rfl rfl (OpL.move (.inr rfl) rfl) ?_
      refine .nil ?_
      refine W.ret ?_
      cases h
      exact leaves (.inr rfl) rfl (.imm _) (cN (cN .nil)) rfl rfl
  · have h := ifF q5 h
    refine W.skip ?_
    refine W.seq ?_
    refine W.seq ?_
    refine W.pk ?_
    refine .v rfl rfl (OpL.move (.inl rfl) rfl) ?_
    refine .nil ?_
    refine W.cond rfl (fun q7 => ?_) (fun q7 => ?_)
    · have h := ifT q7 h
      refine W.seq ?_
      refine W.pk ?_
      refine .v rfl rfl (OpL.move (.inr rfl) rfl) ?_
      refine .nil ?_
      refine W.ret ?_
      cases h
      exact leaves (.inr rfl) rfl (.imm _) (cN (cN .nil)) rfl rfl
    · have h := ifF q7 h
      refine W.skip ?_
      refine W.seq ?_
      refine W.seq ?_
      refine W.pk ?_
      refine .v rfl rfl (OpL.move (.inl rfl) rfl) ?_
      refine .v rfl rfl (OpL.move (.inl rfl) rfl) ?_
      refine .v rfl rfl (OpL.binI rfl rfl rfl rfl) ?_
      refine .nil ?_
      refine W.cond rfl (fun q8 => ?_) (fun q8 => ?_)
      · have h := ifT q8 h
        refine W.seq ?_
        refine W.pk ?_
        refine .v rfl rfl (OpL.move (.inr rfl) rfl) ?_
        refine .nil ?_
        refine W.ret ?_
        cases h
        exact leaves (.inr rfl) rfl (.imm _) (cN (cN .nil)) rfl rfl
      · have h := ifF q8 h
        refine W.skip ?_
        refine W.seq ?_
        refine W.seq ?_
        refine W.pk ?_
        refine .v rfl rfl (OpL.move (.inl rfl) rfl) ?_
        refine .v rfl rfl (OpL.move (.inl rfl) rfl) ?_
        refine .v rfl rfl (OpL.binI rfl rfl rfl rfl) ?_
        refine .nil ?_
        refine W.cond rfl (fun q9 => ?_) (fun q9 => ?_)
        · have h := ifT q9 h
          refine W.seq ?_
          refine W.pk ?_
          refine .v rfl rfl (OpL.move (.inr rfl) rfl) ?_
          refine .nil ?_
          refine W.ret ?_
          cases h
          exact leaves (.inr rfl) rfl (.imm _) (cN (cN .nil)) rfl rfl
        · have h := ifF q9 h
          refine W.skip ?_
          refine W.seq ?_
          refine W.pk ?_
          refine .v rfl rfl (OpL.move (.inr rfl) rfl) ?_
          refine .nil ?_
          refine W.ret ?_
          cases h
          exact leaves (.inr rfl) rfl (.imm _) (cN (cN .nil)) rfl rfl

noncomputable def accrue_Rate_1_v2.f (x0 : api_Reset) (x1 : Int) : Option (Int) :=
  (cmp_Compare_int.f x0.Day x1).bind fun t1 =>
  some t1
set_option maxRecDepth 100000 in
set_option maxHeartbeats 4000000 in
theorem accrue_Rate_1_v2.ok {x0 : api_Reset} {x1 : Int} {r : Int} (h : accrue_Rate_1_v2.f x0 x1 = some r) : Pm.Spec prog 44 [.agg [.imm (.val (.int .i64 x0.Day)), .imm (.val (.int .i64 x0.Rate))], .imm (.val (.int .i64 x1))] (.imm (.val (.int .i64 r))) [none, none] := by
  unfold accrue_Rate_1_v2.f at h
  refine Pm.Spec.of_body Try.func44 rfl (by kernel_rfl) (Nat.le_of_ble_eq_true rfl) (Nat.le_of_ble_eq_true rfl) ?_
  refine W.ghost (σ' := (mkSt [(0, some (.agg [.imm (.val (.int .i64 x0.Day)), .imm (.val (.int .i64 x0.Rate))])), (1, some (.imm (.val (.int .i64 x1))))] [] 1000)) (Gives.entry (.c rfl (.c rfl .n)) .n) ?_
  refine W.seq ?_
  refine W.pk ?_
  refine .t rfl rfl (O.box rfl rfl rfl rfl rfl) ?_
  refine .v rfl rfl (OpL.move (.inr rfl) rfl) ?_
  refine .nil ?_
  refine W.seq ?_
  obtain ⟨t1, b2, h⟩ := bnd1 h
  refine W.pk ?_
  refine .v rfl rfl (O.fld fld50_0 rfl rfl rfl) ?_
  refine .v rfl rfl (O.ld ty3 rfl rfl rfl) ?_
  refine .v rfl rfl (OpL.move (.inl rfl) rfl) ?_
  refine .call (.imm (.val (.int .i64 t1))) [] 0 (cmp_Compare_int.ok b2) rfl rfl rfl ca45 rfl rfl (cC (.imm _) (cC (.imm _) .nil)) rfl rfl rfl rfl rfl ?_
  refine .v rfl rfl (OpL.move (.inr rfl) rfl) ?_
  refine .nil ?_
  refine W.ret ?_
  cases h
  exact leaves (.inr rfl) rfl (.imm _) (cN (cN .nil)) rfl rfl

noncomputable def slices_BinarySearchFunc_int__accrue_Rate_1.b0 (x0 : List api_Reset) (x1 : Int) (v6 : Int) (v7 : Int) : Option ((Int × Int) ⊕ Int) :=
  if (decide (v6 < v7)) = true then
    if (0 : Int) ≤ (IntKind.wrap .i64 (shrI .u64 (IntKind.wrap .u64 (IntKind.wrap .i64 (v6 + v7))) 1)) ∧ (IntKind.wrap .i64 (shrI .u64 (IntKind.wrap .u64 (IntKind.wrap .i64 (v6 + v7))) 1)) < (List.length x0 : Int) then
    (accrue_Rate_1_v2.f (nth x0 (IntKind.wrap .i64 (shrI .u64 (IntKind.wrap .u64 (IntKind.wrap .i64 (v6 + v7))) 1))) x1).bind fun t24 =>
    if (decide (t24 < 0)) = true then
      some (.inl ((IntKind.wrap .i64 ((IntKind.wrap .i64 (shrI .u64 (IntKind.wrap .u64 (IntKind.wrap .i64 (v6 + v7))) 1)) + 1)), v7))
    else
      some (.inl (v6, (IntKind.wrap .i64 (shrI .u64 (IntKind.wrap .u64 (IntKind.wrap .i64 (v6 + v7))) 1))))
    else none
  else
    some (.inr v6)
noncomputable def slices_BinarySearchFunc_int__accrue_Rate_1.r0 (x0 : List api_Reset) (x1 : Int) (s : Int × Int) : Option ((Int × Int) ⊕ Int) := slices_BinarySearchFunc_int__accrue_Rate_1.b0 x0 x1 s.1 s.2
noncomputable def slices_BinarySearchFunc_int__accrue_Rate_1.f (x0 : List api_Reset) (x1 : Int) : Option (Int × Bool) :=
  (loop (slices_BinarySearchFunc_int__accrue_Rate_1.r0 x0 x1) (0, (List.length x0 : Int))).bind fun o19 =>
  if ((decide (o19 < (List.length x0 : Int))) = true → (0 : Int) ≤ o19 ∧ o19 < (List.length x0 : Int)) then
  (if (decide (o19 < (List.length x0 : Int))) = true then accrue_Rate_1_v2.f (nth x0 o19) x1 else some default).bind fun t28 =>
  some (o19, ((decide (o19 < (List.length x0 : Int))) && (t28 == 0)))
  else none
set_option maxRecDepth 100000 in
set_option maxHeartbeats 4000000 in
theorem slices_BinarySearchFunc_int__accrue_Rate_1.ok {x0 : List api_Reset} {x1 : Int} {r : Int × Bool} (h : slices_BinarySearchFunc_int__accrue_Rate_1.f x0 x1 = some r) : Pm.Spec prog 43 [.imm (.row 2 (List.map api_Reset.enc x0)), .imm (.val (.int .i64 x1)), .fn 44 []] (.tup [.imm (.val (.int .i64 r.1)), .imm (.val (.bool r.2))]) [none, none, none] := by
  unfold slices_BinarySearchFunc_int__accrue_Rate_1.f at h
  refine Pm.Spec.of_body Try.func43 rfl (by kernel_rfl) (Nat.le_of_ble_eq_true rfl) (Nat.le_of_ble_eq_true rfl) ?_
  refine W.ghost (σ' := (mkSt [(0, some (.imm (.row 2 (List.map api_Reset.enc x0)))), (1, some (.imm (.val (.int .i64 x1)))), (2, some (.fn 44 []))] [] 1000)) (Gives.entry (.c rfl (.c rfl (.c rfl .n))) .n) ?_
  refine W.seq ?_
  refine W.pk ?_
  refine .v rfl rfl (OpL.move (.inr rfl) rfl) ?_
  refine .v rfl rfl (OpL.move (.inr rfl) rfl) ?_
  refine .nil ?_
  refine W.seq ?_
  refine W.pk ?_
  refine .v rfl rfl (OpL.move (.inl rfl) rfl) ?_
  refine .v rfl rfl (O.lenR sl40 rfl rfl) ?_
  refine .v rfl rfl (OpL.move (.inr rfl) rfl) ?_
  refine .nil ?_
  refine W.seq ?_
  refine W.pk ?_
  refine .v rfl rfl (OpL.move (.inl rfl) rfl) ?_
  refine .v rfl rfl (OpL.move (.inr rfl) rfl) ?_
  refine .v rfl rfl (OpL.move (.inr rfl) rfl) ?_
  refine .nil ?_
  refine W.seq ?_
  obtain ⟨o19, b20, h⟩ := bnd1 h
  refine W.fork (mkSt [(0, some (.imm (.row 2 (List.map api_Reset.enc x0)))), (1, some (.imm (.val (.int .i64 x1)))), (2, some (.fn 44 [])), (8, some (.imm (.val (.int .i64 (List.length x0 : Int))))), (9, some (.imm (.val (.int .i64 o19))))] [] 1000) ?_ ?_
  · refine W.seq ?_
    obtain ⟨c27, h⟩ := chk h
    obtain ⟨t28, b29, h⟩ := bnd1 h
    refine W.fork (mkSt [(6, some (.imm (.val (.int .i64 o19)))), (7, some (.imm (.val (.bool ((decide (o19 < (List.length x0 : Int))) && (t28 == 0))))))] [] 1000) ?_ ?_
    · refine W.ret ?_
      cases h
      exact leaves (.inr rfl) rfl (.tup _ _ _ _ (cC (.imm _) (cC (.imm _) .nil))) (cN (cN (cN .nil))) rfl rfl
    · clear h
      rcases tf (decide (o19 < (List.length x0 : Int))) with g30 | g30
      · refine W.pk ?_
        refine .v rfl rfl (OpL.move (.inl rfl) rfl) ?_
        refine .v rfl rfl (OpL.move (.inl rfl) rfl) ?_
        refine .v rfl rfl (OpL.move (.inl rfl) rfl) ?_
        refine .v rfl rfl (OpL.binI rfl rfl rfl rfl) ?_
        refine .v rfl rfl (OpL.move (.inl rfl) rfl) ?_
        refine .v rfl (met rfl rfl rfl g30) (OpL.move (.inl rfl) rfl) ?_
        refine .v rfl (met rfl rfl rfl g30) (OpL.move (.inl rfl) rfl) ?_
        refine .v rfl (met rfl rfl rfl g30) (OpL.move (.inl rfl) rfl) ?_
        refine .v rfl (met rfl rfl rfl g30) (O.idx sl40 (c27 (by simp only [g30, Bool.true_or, Bool.or_true, Bool.false_or, Bool.or_false, Bool.true_and, Bool.and_true, Bool.false_and, Bool.and_false, Bool.not_true, Bool.not_false, cond_true, cond_false])) rfl rfl rfl) ?_
        refine .v rfl (met rfl rfl rfl g30) (O.ldN ty50 rfl rfl rfl) ?_
        refine .v rfl (met rfl rfl rfl g30) (OpL.move (.inl rfl) rfl) ?_
        refine .call (.imm (.val (.int .i64 t28))) [] 0 (accrue_Rate_1_v2.ok ((if_pos (by simp only [g30, Bool.true_or, Bool.or_true, Bool.false_or, Bool.or_false, Bool.true_and, Bool.and_true, Bool.false_and, Bool.and_false, Bool.not_true, Bool.not_false, cond_true, cond_false])).symm.trans b29)) rfl (met rfl rfl rfl g30) rfl ca44 rfl rfl (cC (.agg _ _ _ _ (cC (.imm _) (cC (.imm _) .nil))) (cC (.imm _) .nil)) rfl rfl rfl rfl rfl ?_
        refine .v rfl (met rfl rfl rfl g30) (OpL.binI rfl rfl rfl rfl) ?_
        refine .v rfl rfl (O.pickT g30 rfl rfl rfl) ?_
        refine .v rfl rfl (OpL.move (.inr rfl) rfl) ?_
        refine .v rfl rfl (OpL.move (.inr rfl) rfl) ?_
        refine .nil ?_
        exact toN (Gives.mkR [] (.c rfl (.rfl _) rfl (.c rfl (sbb (by simp only [g30, Bool.true_or, Bool.or_true, Bool.false_or, Bool.or_false, Bool.true_and, Bool.and_true, Bool.false_and, Bool.and_false, Bool.not_true, Bool.not_false, cond_true, cond_false])) rfl .n)) .n rfl rfl rfl)
      · refine W.pk ?_
        refine .v rfl rfl (OpL.move (.inl rfl) rfl) ?_
        refine .v rfl rfl (OpL.move (.inl rfl) rfl) ?_
        refine .v rfl rfl (OpL.move (.inl rfl) rfl) ?_
        refine .v rfl rfl (OpL.binI rfl rfl rfl rfl) ?_
        refine .v rfl rfl (OpL.move (.inl rfl) rfl) ?_
        refine .x rfl (unmet rfl rfl rfl g30) ?_
        refine .x rfl (unmet rfl rfl rfl g30) ?_
        refine .x rfl (unmet rfl rfl rfl g30) ?_
        refine .x rfl (unmet rfl rfl rfl g30) ?_
        refine .x rfl (unmet rfl rfl rfl g30) ?_
        refine .x rfl (unmet rfl rfl rfl g30) ?_
        refine .x rfl (unmet rfl rfl rfl g30) ?_
        refine .x rfl (unmet rfl rfl rfl g30) ?_
        refine .v rfl rfl (O.pickF g30 rfl rfl rfl) ?_
        refine .v rfl rfl (OpL.move (.inr rfl) rfl) ?_
        refine .v rfl rfl (OpL.move (.inr rfl) rfl) ?_
        refine .nil ?_
        exact toN (Gives.mkR [] (.c rfl (.rfl _) rfl (.c rfl (sbb (by simp only [g30, Bool.true_or, Bool.or_true, Bool.false_or, Bool.or_false, Bool.true_and, Bool.and_true, Bool.false_and, Bool.and_false, Bool.not_true, Bool.not_false, cond_true, cond_false])) rfl .n)) .n rfl rfl rfl)
  · clear h
    refine W.block ?_
    refine W.loopF (fun (s_ : Int × Int) => mkSt [(0, some (.imm (.row 2 (List.map api_Reset.enc x0)))), (1, some (.imm (.val (.int .i64 x1)))), (2, some (.fn 44 [])), (8, some (.imm (.val (.int .i64 (List.length x0 : Int))))), (9, some (.imm (.val (.int .i64 s_.1)))), (10, some (.imm (.val (.int .i64 s_.2))))] [] 1000) b20 (Gives.mkR [] (.c rfl (.rfl _) rfl (.c rfl (.rfl _) rfl (.c rfl (.rfl _) rfl (.c rfl (.rfl _) rfl (.c rfl (.rfl _) rfl (.c rfl (.rfl _) rfl .n)))))) .n rfl rfl rfl) ?_
    rintro ⟨v6, v7⟩ s_ hr
    have h : slices_BinarySearchFunc_int__accrue_Rate_1.b0 x0 x1 v6 v7 = some s_ := hr
    unfold slices_BinarySearchFunc_int__accrue_Rate_1.b0 at h
    refine W.seq ?_
    refine W.seq ?_
    refine W.pk ?_
    refine .v rfl rfl (OpL.move (.inl rfl) rfl) ?_
    refine .v rfl rfl (OpL.move (.inl rfl) rfl) ?_
    refine .v rfl rfl (OpL.binI rfl rfl rfl rfl) ?_
    refine .nil ?_
    refine W.cond rfl (fun q22 => ?_) (fun q22 => ?_)
    · have h := ifT q22 h
      refine W.skip ?_
      refine W.block ?_
      refine W.seq ?_
      refine W.pk ?_
      refine .v rfl rfl (OpL.move (.inl rfl) rfl) ?_
      refine .v rfl rfl (OpL.move (.inl rfl) rfl) ?_
      refine .v rfl rfl (OpL.binI rfl rfl rfl rfl) ?_
      refine .v rfl rfl (O.conv h3 u82 rfl rfl) ?_
      refine .v rfl rfl (O.shr (by decide) rfl rfl rfl) ?_
      refine .v rfl rfl (O.conv h82 u3 rfl rfl) ?_
      refine .v rfl rfl (OpL.move (.inr rfl) rfl) ?_
      refine .nil ?_
      refine W.seq ?_
      obtain ⟨c23, h⟩ := chk h
      obtain ⟨t24, b25, h⟩ := bnd1 h
      refine W.pk ?_
      refine .v rfl rfl (OpL.move (.inl rfl) rfl) ?_
      refine .v rfl rfl (OpL.move (.inl rfl) rfl) ?_
      refine .v rfl rfl (OpL.move (.inl rfl) rfl) ?_
      refine .v rfl rfl (O.idx sl40 c23 rfl rfl rfl) ?_
      refine .v rfl rfl (O.ldN ty50 rfl rfl rfl) ?_
      refine .v rfl rfl (OpL.move (.inl rfl) rfl) ?_
      refine .call (.imm (.val (.int .i64 t24))) [] 0 (accrue_Rate_1_v2.ok b25) rfl rfl rfl ca44 rfl rfl (cC (.agg _ _ _ _ (cC (.imm _) (cC (.imm _) .nil))) (cC (.imm _) .nil)) rfl rfl rfl rfl rfl ?_
      refine .v rfl rfl (OpL.binI rfl rfl rfl rfl) ?_
      refine .nil ?_
      refine W.cond rfl (fun q26 => ?_) (fun q26 => ?_)
      · have h := ifT q26 h
        refine W.pk ?_
        refine .v rfl rfl (OpL.move (.inl rfl) rfl) ?_
        refine .v rfl rfl (OpL.binI rfl rfl rfl rfl) ?_
        refine .v rfl rfl (OpL.move (.inr rfl) rfl) ?_
        refine .nil ?_
        cases h
        exact rdN (Gives.mkR [] (.c rfl (.rfl _) rfl (.c rfl (.rfl _) rfl (.c rfl (.rfl _) rfl (.c rfl (.rfl _) rfl (.c rfl (.rfl _) rfl (.c rfl (.rfl _) rfl .n)))))) .n rfl rfl rfl)
      · have h := ifF q26 h
        refine W.pk ?_
        refine .v rfl rfl (OpL.move (.inl rfl) rfl) ?_
        refine .v rfl rfl (OpL.move (.inr rfl) rfl) ?_
        refine .nil ?_
        cases h
        exact rdN (Gives.mkR [] (.c rfl (.rfl _) rfl (.c rfl (.rfl _) rfl (.c rfl (.rfl _) rfl (.c rfl (.rfl _) rfl (.c rfl (.rfl _) rfl (.c rfl (.rfl _) rfl .n)))))) .n rfl rfl rfl)
    · have h := ifF q22 h
      refine W.exit ?_
      cases h
      refine rdX fun e_ => ?_
      subst e_
      refine hit ?_
      exact toN (Gives.mkR [] (.c rfl (.rfl _) rfl (.c rfl (.rfl _) rfl (.c rfl (.rfl _) rfl (.c rfl (.rfl _) rfl (.c rfl (.rfl _) rfl .n))))) .n rfl rfl rfl)

noncomputable def accrue_Rate.f (x0 : List api_Reset) (x1 : Int) : Option (Int × Bool) :=
  (slices_BinarySearchFunc_int__accrue_Rate_1.f x0 x1).bind fun t1 =>
  ((
    if (!t1.2) = true then
      some (IntKind.wrap .i64 (t1.1 - 1))
    else
      some t1.1 : Option (Int))).bind fun o5 =>
  if (decide (o5 < 0)) = true then
    some (0, false)
  else
    if (0 : Int) ≤ o5 ∧ o5 < (List.length x0 : Int) then
    some ((nth x0 o5).Rate, true)
    else none
set_option maxRecDepth 100000 in
set_option maxHeartbeats 4000000 in
theorem accrue_Rate.ok {x0 : List api_Reset} {x1 : Int} {r : Int × Bool} (h : accrue_Rate.f x0 x1 = some r) : Pm.Spec prog 20 [.imm (.row 2 (List.map api_Reset.enc x0)), .imm (.val (.int .i64 x1))] (.tup [.imm (.val (.int .i64 r.1)), .imm (.val (.bool r.2))]) [none, none] := by
  unfold accrue_Rate.f at h
  refine Pm.Spec.of_body Try.func20 rfl (by kernel_rfl) (Nat.le_of_ble_eq_true rfl) (Nat.le_of_ble_eq_true rfl) ?_
  refine W.ghost (σ' := (mkSt [(0, some (.imm (.row 2 (List.map api_Reset.enc x0)))), (1, some (.imm (.val (.int .i64 x1))))] [] 1000)) (Gives.entry (.c rfl (.c rfl .n)) .n) ?_
  refine W.seq ?_
  refine W.pk ?_
  refine .v rfl rfl (OpL.move (.inr rfl) rfl) ?_
  refine .v rfl rfl (OpL.move (.inr rfl) rfl) ?_
  refine .nil ?_
  refine W.seq ?_
  obtain ⟨t1, b2, h⟩ := bnd1 h
  refine W.pk ?_
  refine .v rfl rfl (OpL.move (.inl rfl) rfl) ?_
  refine .v rfl rfl (OpL.move (.inl rfl) rfl) ?_
  refine .call (.tup [.imm (.val (.int .i64 t1.1)), .imm (.val (.bool t1.2))]) [] 0 (slices_BinarySearchFunc_int__accrue_Rate_1.ok b2) rfl rfl rfl ca43 rfl rfl (cC (.imm _) (cC (.imm _) (cC (.fn _ _ _ _ _ .nil) .nil))) rfl rfl rfl rfl rfl ?_
  refine .v rfl rfl (OpL.move (.inl rfl) rfl) ?_
  refine .v rfl rfl (OpL.extract rfl rfl rfl) ?_
  refine .v rfl rfl (OpL.extract rfl rfl rfl) ?_
  refine .v rfl rfl (OpL.move (.inr rfl) rfl) ?_
  refine .v rfl rfl (OpL.move (.inr rfl) rfl) ?_
  refine .nil ?_
  refine W.seq ?_
  refine W.seq ?_
  refine W.pk ?_
  refine .v rfl rfl (OpL.move (.inl rfl) rfl) ?_
  refine .v rfl rfl (OpL.unV rfl rfl rfl) ?_
  refine .nil ?_
  obtain ⟨o5, b6, h⟩ := bnd1 h
  refine W.fork (mkSt [(0, some (.imm (.row 2 (List.map api_Reset.enc x0)))), (6, some (.imm (.val (.int .i64 o5))))] [] 1000) ?_ ?_
  · refine W.seq ?_
    refine W.seq ?_
    refine W.pk ?_
    refine .v rfl rfl (OpL.move (.inl rfl) rfl) ?_
    refine .v rfl rfl (OpL.binI rfl rfl rfl rfl) ?_
    refine .nil ?_
    refine W.cond rfl (fun q8 => ?_) (fun q8 => ?_)
    · have h := ifT q8 h
      refine W.seq ?_
      refine W.pk ?_
      refine .v rfl rfl (OpL.move (.inr rfl) rfl) ?_
      refine .v rfl rfl (OpL.move (.inr rfl) rfl) ?_
      refine .nil ?_
      refine W.ret ?_
      cases h
      exact leaves (.inr rfl) rfl (.tup _ _ _ _ (cC (.imm _) (cC (.imm _) .nil))) (cN (cN .nil)) rfl rfl
    · have h := ifF q8 h
      refine W.skip ?_
      refine W.seq ?_
      obtain ⟨c9, h⟩ := chk h
      refine W.pk ?_
      refine .v rfl rfl (OpL.move (.inl rfl) rfl) ?_
      refine .v rfl rfl (OpL.move (.inl rfl) rfl) ?_
      refine .v rfl rfl (O.idx sl40 c9 rfl rfl rfl) ?_
      refine .v rfl rfl (O.fld fld50_1 rfl rfl rfl) ?_
      refine .v rfl rfl (O.ld ty3 rfl rfl rfl) ?_
      refine .v rfl rfl (OpL.move (.inr rfl) rfl) ?_
      refine .v rfl rfl (OpL.move (.inr rfl) rfl) ?_
      refine .nil ?_
      refine W.ret ?_
      cases h
      exact leaves (.inr rfl) rfl (.tup _ _ _ _ (cC (.imm _) (cC (.imm _) .nil))) (cN (cN .nil)) rfl rfl
  · clear h
    have h := b6
    refine W.cond rfl (fun q7 => ?_) (fun q7 => ?_)
    · have h := ifT q7 h
      refine W.pk ?_
      refine .v rfl rfl (OpL.move (.inl rfl) rfl) ?_
      refine .v rfl rfl (OpL.binI rfl rfl rfl rfl) ?_
      refine .v rfl rfl (OpL.move (.inr rfl) rfl) ?_
      refine .nil ?_
      cases h
      exact toN (Gives.mkR [] (.c rfl (.rfl _) rfl (.c rfl (.rfl _) rfl .n)) .n rfl rfl rfl)
    · have h := ifF q7 h
      refine W.skip ?_
      cases h
      exact toN (Gives.mkR [] (.c rfl (.rfl _) rfl (.c rfl (.rfl _) rfl .n)) .n rfl rfl rfl)

noncomputable def lombardref03_Rate.b0 (x0 : List api_Reset) (x1 : Int) (v5 : Int) (v6 : Bool) (v7 : Int) : Option ((Int × Bool × Int) ⊕ (Int × Bool)) :=
  if (decide (v7 < (List.length x0 : Int))) = true then
    if (0 : Int) ≤ v7 ∧ v7 < (List.length x0 : Int) then
    if (decide (((nth x0 v7).Day) ≤ x1)) = true then
      if (0 : Int) ≤ v7 ∧ v7 < (List.length x0 : Int) then
      some (.inl ((nth x0 v7).Rate, true, (IntKind.wrap .i64 (v7 + 1))))
      else none
    else
      some (.inl (v5, v6, (IntKind.wrap .i64 (v7 + 1))))
    else none
  else
    some (.inr (v5, v6))
noncomputable def lombardref03_Rate.r0 (x0 : List api_Reset) (x1 : Int) (s : Int × Bool × Int) : Option ((Int × Bool × Int) ⊕ (Int × Bool)) := lombardref03_Rate.b0 x0 x1 s.1 s.2.1 s.2.2
noncomputable def lombardref03_Rate.f (x0 : List api_Reset) (x1 : Int) : Option (Int × Bool) :=
  (loop (lombardref03_Rate.r0 x0 x1) (0, false, 0)).bind fun o17 =>
  some (o17.1, o17.2)
set_option maxRecDepth 100000 in
set_option maxHeartbeats 4000000 in
theorem lombardref03_Rate.ok {x0 : List api_Reset} {x1 : Int} {r : Int × Bool} (h : lombardref03_Rate.f x0 x1 = some r) : Pm.Spec prog 21 [.imm (.row 2 (List.map api_Reset.enc x0)), .imm (.val (.int .i64 x1))] (.tup [.imm (.val (.int .i64 r.1)), .imm (.val (.bool r.2))]) [none, none] := by
  unfold lombardref03_Rate.f at h
  refine Pm.Spec.of_body Try.func21 rfl (by kernel_rfl) (Nat.le_of_ble_eq_true rfl) (Nat.le_of_ble_eq_true rfl) ?_
  refine W.ghost (σ' := (mkSt [(0, some (.imm (.row 2 (List.map api_Reset.enc x0)))), (1, some (.imm (.val (.int .i64 x1))))] [] 1000)) (Gives.entry (.c rfl (.c rfl .n)) .n) ?_
  refine W.seq ?_
  refine W.pk ?_
  refine .v rfl rfl (OpL.move (.inr rfl) rfl) ?_
  refine .v rfl rfl (OpL.move (.inr rfl) rfl) ?_
  refine .nil ?_
  refine W.seq ?_
  refine W.pk ?_
  refine .v rfl rfl (OpL.move (.inr rfl) rfl) ?_
  refine .v rfl rfl (OpL.move (.inr rfl) rfl) ?_
  refine .nil ?_
  refine W.seq ?_
  refine W.seq ?_
  refine W.pk ?_
  refine .v rfl rfl (OpL.move (.inr rfl) rfl) ?_
  refine .nil ?_
  obtain ⟨o17, b18, h⟩ := bnd1 h
  refine W.fork (mkSt [(6, some (.imm (.val (.int .i64 o17.1)))), (7, some (.imm (.val (.bool o17.2))))] [] 1000) ?_ ?_
  · refine W.seq ?_
    refine W.pk ?_
    refine .v rfl rfl (OpL.move (.inl rfl) rfl) ?_
    refine .v rfl rfl (OpL.move (.inl rfl) rfl) ?_
    refine .v rfl rfl (OpL.move (.inr rfl) rfl) ?_
    refine .v rfl rfl (OpL.move (.inr rfl) rfl) ?_
    refine .nil ?_
    refine W.ret ?_
    cases h
    exact leaves (.inr rfl) rfl (.tup _ _ _ _ (cC (.imm _) (cC (.imm _) .nil))) (cN (cN .nil)) rfl rfl
  · clear h
    refine W.block ?_
    refine W.loopF (fun (s_ : Int × Bool × Int) => mkSt [(0, some (.imm (.row 2 (List.map api_Reset.enc x0)))), (1, some (.imm (.val (.int .i64 x1)))), (6, some (.imm (.val (.int .i64 s_.1)))), (7, some (.imm (.val (.bool s_.2.1)))), (8, some (.imm (.val (.int .i64 s_.2.2))))] [] 1000) b18 (Gives.mkR [] (.c rfl (.rfl _) rfl (.c rfl (.rfl _) rfl (.c rfl (.rfl _) rfl (.c rfl (.rfl _) rfl (.c rfl (.rfl _) rfl .n))))) .n rfl rfl rfl) ?_
    rintro ⟨v5, v6, v7⟩ s_ hr
    have h : lombardref03_Rate.b0 x0 x1 v5 v6 v7 = some s_ := hr
    unfold lombardref03_Rate.b0 at h
    refine W.seq ?_
    refine W.seq ?_
    refine W.pk ?_
    refine .v rfl rfl (OpL.move (.inl rfl) rfl) ?_
    refine .v rfl rfl (OpL.move (.inl rfl) rfl) ?_
    refine .v rfl rfl (O.lenR sl40 rfl rfl) ?_
    refine .v rfl rfl (OpL.binI rfl rfl rfl rfl) ?_
    refine .nil ?_
    refine W.cond rfl (fun q20 => ?_) (fun q20 => ?_)
    · have h := ifT q20 h
      refine W.skip ?_
      refine W.seq ?_
      refine W.block ?_
      refine W.seq ?_
      obtain ⟨c21, h⟩ := chk h
      refine W.pk ?_
      refine .v rfl rfl (OpL.move (.inl rfl) rfl) ?_
      refine .v rfl rfl (OpL.move (.inl rfl) rfl) ?_
      refine .v rfl rfl (O.idx sl40 c21 rfl rfl rfl) ?_
      refine .v rfl rfl (O.fld fld50_0 rfl rfl rfl) ?_
      refine .v rfl rfl (O.ld ty3 rfl rfl rfl) ?_
      refine .v rfl rfl (OpL.move (.inl rfl) rfl) ?_
      refine .v rfl rfl (OpL.binI rfl rfl rfl rfl) ?_
      refine .nil ?_
      refine W.cond rfl (fun q22 => ?_) (fun q22 => ?_)
      · have h := ifT q22 h
        obtain ⟨c23, h⟩ := chk h
        refine W.pk ?_
        refine .v rfl rfl (OpL.move (.inl rfl) rfl) ?_
        refine .v rfl rfl (OpL.move (.inl rfl) rfl) ?_
        refine .v rfl rfl (O.idx sl40 c23 rfl rfl rfl) ?_
        refine .v rfl rfl (O.fld fld50_1 rfl rfl rfl) ?_
        refine .v rfl rfl (O.ld ty3 rfl rfl rfl) ?_
        refine .v rfl rfl (OpL.move (.inr rfl) rfl) ?_
        refine .v rfl rfl (OpL.move (.inr rfl) rfl) ?_
        refine .nil ?_
        refine W.pk ?_
        refine .v rfl rfl (OpL.move (.inl rfl) rfl) ?_
        refine .v rfl rfl (OpL.binI rfl rfl rfl rfl) ?_
        refine .v rfl rfl (OpL.move (.inr rfl) rfl) ?_
        refine .nil ?_
        cases h
        exact rdN (Gives.mkR [] (.c rfl (.rfl _) rfl (.c rfl (.rfl _) rfl (.c rfl (.rfl _) rfl (.c rfl (.rfl _) rfl (.c rfl (.rfl _) rfl .n))))) .n rfl rfl rfl)
      · have h := ifF q22 h
        refine W.skip ?_
        refine W.pk ?_
        refine .v rfl rfl (OpL.move (.inl rfl) rfl) ?_
        refine .v rfl rfl (OpL.binI rfl rfl rfl rfl) ?_
        refine .v rfl rfl (OpL.move (.inr rfl) rfl) ?_
        refine .nil ?_
        cases h
        exact rdN (Gives.mkR [] (.c rfl (.rfl _) rfl (.c rfl (.rfl _) rfl (.c rfl (.rfl _) rfl (.c rfl (.rfl _) rfl (.c rfl (.rfl _) rfl .n))))) .n rfl rfl rfl)
    · have h := ifF q20 h
      refine W.exit ?_
      cases h
      refine rdX fun e_ => ?_
      subst e_
      refine hit ?_
      exact toN (Gives.mkR [] (.c rfl (.rfl _) rfl (.c rfl (.rfl _) rfl .n)) .n rfl rfl rfl)

noncomputable def lombardlaw03_AccrueRates.f (x0 : List api_Reset) (x1 : Int) : Option (Bool) :=
  (accrue_Check.f x0).bind fun t1 =>
  (lombardref03_Check.f x0).bind fun t3 =>
  if (t1 != t3) = true then
    some false
  else
    (lombardref03_Check.f x0).bind fun t6 =>
    if (t6 != 0) = true then
      (lombardlaw03_awake.f).bind fun t9 =>
      some t9
    else
      (accrue_Rate.f x0 x1).bind fun t11 =>
      (lombardref03_Rate.f x0 x1).bind fun t13 =>
      (if ((t11.1 == t13.1) && (t11.2 == t13.2)) = true then lombardlaw03_awake.f else some default).bind fun t15 =>
      some (((t11.1 == t13.1) && (t11.2 == t13.2)) && t15)
set_option maxRecDepth 100000 in
set_option maxHeartbeats 4000000 in
theorem lombardlaw03_AccrueRates.ok {x0 : List api_Reset} {x1 : Int} {r : Bool} (h : lombardlaw03_AccrueRates.f x0 x1 = some r) : Pm.Spec prog 6 [.imm (.row 2 (List.map api_Reset.enc x0)), .imm (.val (.int .i64 x1))] (.imm (.val (.bool r))) [none, none] := by
  unfold lombardlaw03_AccrueRates.f at h
  refine Pm.Spec.of_body Try.func6 rfl (by kernel_rfl) (Nat.le_of_ble_eq_true rfl) (Nat.le_of_ble_eq_true rfl) ?_
  refine W.ghost (σ' := (mkSt [(0, some (.imm (.row 2 (List.map api_Reset.enc x0)))), (1, some (.imm (.val (.int .i64 x1))))] [] 1000)) (Gives.entry (.c rfl (.c rfl .n)) .n) ?_
  refine W.seq ?_
  refine W.pk ?_
  refine .v rfl rfl (OpL.move (.inr rfl) rfl) ?_
  refine .nil ?_
  refine W.seq ?_
  refine W.seq ?_
  obtain ⟨t1, b2, h⟩ := bnd1 h
  obtain ⟨t3, b4, h⟩ := bnd1 h
  refine W.pk ?_
  refine .v rfl rfl (OpL.move (.inl rfl) rfl) ?_
  refine .call (.imm (.val (.int .i64 t1))) [] 0 (accrue_Check.ok b2) rfl rfl rfl ca18 rfl rfl (cC (.imm _) .nil) rfl rfl rfl rfl rfl ?_
  refine .v rfl rfl (OpL.move (.inl rfl) rfl) ?_
  refine .call (.imm (.val (.int .i64 t3))) [] 0 (lombardref03_Check.ok b4) rfl rfl rfl ca19 rfl rfl (cC (.imm _) .nil) rfl rfl rfl rfl rfl ?_
  refine .v rfl rfl (OpL.binI rfl rfl rfl rfl) ?_
  refine .nil ?_
  refine W.cond rfl (fun q5 => ?_) (fun q5 => ?_)
  · have h := ifT q5 h
    refine W.seq ?_
    refine W.pk ?_
    refine .v rfl rfl (OpL.move (.inr rfl) rfl) ?_
    refine .nil ?_
    refine W.ret ?_
    cases h
    exact leaves (.inr rfl) rfl (.imm _) (cN (cN .nil)) rfl rfl
  · have h := ifF q5 h
    refine W.skip ?_
    refine W.seq ?_
    refine W.seq ?_
    obtain ⟨t6, b7, h⟩ := bnd1 h
    refine W.pk ?_
    refine .v rfl rfl (OpL.move (.inl rfl) rfl) ?_
    refine .call (.imm (.val (.int .i64 t6))) [] 0 (lombardref03_Check.ok b7) rfl rfl rfl ca19 rfl rfl (cC (.imm _) .nil) rfl rfl rfl rfl rfl ?_
    refine .v rfl rfl (OpL.binI rfl rfl rfl rfl) ?_
    refine .nil ?_
    refine W.cond rfl (fun q8 => ?_) (fun q8 => ?_)
    · have h := ifT q8 h
      refine W.seq ?_
      obtain ⟨t9, b10, h⟩ := bnd1 h
      refine W.pk ?_
      refine .call (.imm (.val (.bool t9))) [] 0 (lombardlaw03_awake.ok b10) rfl rfl rfl ca12 rfl rfl .nil rfl rfl rfl rfl rfl ?_
      refine .v rfl rfl (OpL.move (.inr rfl) rfl) ?_
      refine .nil ?_
      refine W.ret ?_
      cases h
      exact leaves (.inr rfl) rfl (.imm _) (cN (cN .nil)) rfl rfl
    · have h := ifF q8 h
      refine W.skip ?_
      refine W.seq ?_
      obtain ⟨t11, b12, h⟩ := bnd1 h
      refine W.pk ?_
      refine .v rfl rfl (OpL.move (.inl rfl) rfl) ?_
      refine .v rfl rfl (OpL.move (.inl rfl) rfl) ?_
      refine .call (.tup [.imm (.val (.int .i64 t11.1)), .imm (.val (.bool t11.2))]) [] 0 (accrue_Rate.ok b12) rfl rfl rfl ca20 rfl rfl (cC (.imm _) (cC (.imm _) .nil)) rfl rfl rfl rfl rfl ?_
      refine .v rfl rfl (OpL.move (.inl rfl) rfl) ?_
      refine .v rfl rfl (OpL.extract rfl rfl rfl) ?_
      refine .v rfl rfl (OpL.extract rfl rfl rfl) ?_
      refine .v rfl rfl (OpL.move (.inr rfl) rfl) ?_
      refine .v rfl rfl (OpL.move (.inr rfl) rfl) ?_
      refine .nil ?_
      refine W.seq ?_
      obtain ⟨t13, b14, h⟩ := bnd1 h
      refine W.pk ?_
      refine .v rfl rfl (OpL.move (.inl rfl) rfl) ?_
      refine .v rfl rfl (OpL.move (.inl rfl) rfl) ?_
      refine .call (.tup [.imm (.val (.int .i64 t13.1)), .imm (.val (.bool t13.2))]) [] 0 (lombardref03_Rate.ok b14) rfl rfl rfl ca21 rfl rfl (cC (.imm _) (cC (.imm _) .nil)) rfl rfl rfl rfl rfl ?_
      refine .v rfl rfl (OpL.move (.inl rfl) rfl) ?_
      refine .v rfl rfl (OpL.extract rfl rfl rfl) ?_
      refine .v rfl rfl (OpL.extract rfl rfl rfl) ?_
      refine .v rfl rfl (OpL.move (.inr rfl) rfl) ?_
      refine .v rfl rfl (OpL.move (.inr rfl) rfl) ?_
      refine .nil ?_
      refine W.seq ?_
      obtain ⟨t15, b16, h⟩ := bnd1 h
      refine W.fork (mkSt [(4, some (.imm (.val (.bool (((t11.1 == t13.1) && (t11.2 == t13.2)) && t15)))))] [] 1000) ?_ ?_
      · refine W.ret ?_
        cases h
        exact leaves (.inr rfl) rfl (.imm _) (cN (cN .nil)) rfl rfl
      · clear h
        rcases tf (t11.1 == t13.1) with g17 | g17
        · rcases tf (t11.2 == t13.2) with g18 | g18
          · refine W.pk ?_
            refine .v rfl rfl (OpL.move (.inl rfl) rfl) ?_
            refine .v rfl rfl (OpL.move (.inl rfl) rfl) ?_
            refine .v rfl rfl (OpL.binI rfl rfl rfl rfl) ?_
            refine .v rfl rfl (OpL.move (.inl rfl) rfl) ?_
            refine .v rfl (met rfl rfl rfl g17) (OpL.move (.inl rfl) rfl) ?_
            refine .v rfl (met rfl rfl rfl g17) (OpL.move (.inl rfl) rfl) ?_
            refine .v rfl (met rfl rfl rfl g17) (OpL.eqB rfl u4 rfl rfl) ?_
            refine .v rfl rfl (O.pickT g17 rfl rfl rfl) ?_
            refine .v rfl rfl (OpL.move (.inl rfl) rfl) ?_
            refine .call (.imm (.val (.bool t15))) [] 0 (lombardlaw03_awake.ok ((if_pos (by simp only [g17, g18, Bool.true_or, Bool.or_true, Bool.false_or, Bool.or_false, Bool.true_and, Bool.and_true, Bool.false_and, Bool.and_false, Bool.not_true, Bool.not_false, cond_true, cond_false])).symm.trans b16)) rfl (met rfl rfl rfl g18) rfl ca12 rfl rfl .nil rfl rfl rfl rfl rfl ?_
            refine .v rfl rfl (O.pickT g18 rfl rfl rfl) ?_
            refine .v rfl rfl (OpL.move (.inr rfl) rfl) ?_
            refine .nil ?_
            exact toN (Gives.mkR [] (.c rfl (sbb (by simp only [g17, g18, Bool.true_or, Bool.or_true, Bool.false_or, Bool.or_false, Bool.true_and, Bool.and_true, Bool.false_and, Bool.and_false, Bool.not_true, Bool.not_false, cond_true, cond_false])) rfl .n) .n rfl rfl rfl)
          · refine W.pk ?_
            refine .v rfl rfl (OpL.move (.inl rfl) rfl) ?_
            refine .v rfl rfl (OpL.move (.inl rfl) rfl) ?_
            refine .v rfl rfl (OpL.binI rfl rfl rfl rfl) ?_
            refine .v rfl rfl (OpL.move (.inl rfl) rfl) ?_
            refine .v rfl (met rfl rfl rfl g17) (OpL.move (.inl rfl) rfl) ?_
            refine .v rfl (met rfl rfl rfl g17) (OpL.move (.inl rfl) rfl) ?_
            refine .v rfl (met rfl rfl rfl g17) (OpL.eqB rfl u4 rfl rfl) ?_
            refine .v rfl rfl (O.pickT g17 rfl rfl rfl) ?_
            refine .v rfl rfl (OpL.move (.inl rfl) rfl) ?_
            refine .x rfl (unmet rfl rfl rfl g18) ?_
            refine .v rfl rfl (O.pickF g18 rfl rfl rfl) ?_
            refine .v rfl rfl (OpL.move (.inr rfl) rfl) ?_
            refine .nil ?_
            exact toN (Gives.mkR [] (.c rfl (sbb (by simp only [g17, g18, Bool.true_or, Bool.or_true, Bool.false_or, Bool.or_false, Bool.true_and, Bool.and_true, Bool.false_and, Bool.and_false, Bool.not_true, Bool.not_false, cond_true, cond_false])) rfl .n) .n rfl rfl rfl)
        · refine W.pk ?_
          refine .v rfl rfl (OpL.move (.inl rfl) rfl) ?_
          refine .v rfl rfl (OpL.move (.inl rfl) rfl) ?_
          refine .v rfl rfl (OpL.binI rfl rfl rfl rfl) ?_
          refine .v rfl rfl (OpL.move (.inl rfl) rfl) ?_
          refine .x rfl (unmet rfl rfl rfl g17) ?_
          refine .x rfl (unmet rfl rfl rfl g17) ?_
          refine .x rfl (unmet rfl rfl rfl g17) ?_
          refine .v rfl rfl (O.pickF g17 rfl rfl rfl) ?_
          refine .v rfl rfl (OpL.move (.inl rfl) rfl) ?_
          refine .x rfl (unmet rfl rfl rfl rfl) ?_
          refine .v rfl rfl (O.pickF rfl rfl rfl rfl) ?_
          refine .v rfl rfl (OpL.move (.inr rfl) rfl) ?_
          refine .nil ?_
          exact toN (Gives.mkR [] (.c rfl (sbb (by simp only [g17, Bool.true_or, Bool.or_true, Bool.false_or, Bool.or_false, Bool.true_and, Bool.and_true, Bool.false_and, Bool.and_false, Bool.not_true, Bool.not_false, cond_true, cond_false])) rfl .n) .n rfl rfl rfl)
end Go.Proofs.Ytipgpnagfmlahaa
