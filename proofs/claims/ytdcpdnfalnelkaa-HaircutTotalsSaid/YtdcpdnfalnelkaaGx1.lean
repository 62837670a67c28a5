/- Shows what functions of the program come to, each as a plain function: written by a program of the author's for this claim. -/
import Derived.Test.YtdcpdnfalnelkaaGx0
namespace Go.Proofs.Ytdcpdnfalnelkaa
open Go Go.Pm
set_option linter.unusedVariables false
set_option linter.unusedSimpArgs false
noncomputable def asset_Worth.f (x0 : Int) (x1 : Int) : Option (Int × Int) :=
  if ((((decide (x0 < 0)) || (decide (x0 > 1125899906842624))) || (decide (x1 < 1))) || (decide (x1 > 4294967296))) = true then
    some (0, 1)
  else
    (fixnum_MulDiv.f x0 x1 1000000 1).bind fun t5 =>
    some (t5.1, t5.2)
set_option maxRecDepth 100000 in
set_option maxHeartbeats 4000000 in
theorem asset_Worth.ok {x0 : Int} {x1 : Int} {r : Int × Int} (h : asset_Worth.f x0 x1 = some r) : Pm.Spec prog 34 [.imm (.val (.int .i64 x0)), .imm (.val (.int .i64 x1))] (.tup [.imm (.val (.int .i64 r.1)), .imm (.val (.int .i64 r.2))]) [none, none] := by
  unfold asset_Worth.f at h
  refine Pm.Spec.of_body Try.func34 rfl (by kernel_rfl) (Nat.le_of_ble_eq_true rfl) (Nat.le_of_ble_eq_true rfl) ?_
  refine W.ghost (σ' := (mkSt [(0, some (.imm (.val (.int .i64 x0)))), (1, some (.imm (.val (.int .i64 x1))))] [] 1000)) (Gives.entry (.c rfl (.c rfl .n)) .n) ?_
  refine W.seq ?_
  refine W.pk ?_
  refine .v rfl rfl (OpL.move (.inr rfl) rfl) ?_
  refine .v rfl rfl (OpL.move (.inr rfl) rfl) ?_
  refine .nil ?_
  refine W.seq ?_
  refine W.seq ?_
  refine W.fork (mkSt [(0, some (.imm (.val (.int .i64 x0)))), (1, some (.imm (.val (.int .i64 x1)))), (19, some (.imm (.val (.bool ((((decide (x0 < 0)) || (decide (x0 > 1125899906842624))) || (decide (x1 < 1))) || (decide (x1 > 4294967296)))))))] [] 1000) ?_ ?_
  · refine W.cond rfl (fun q4 => ?_) (fun q4 => ?_)
    · have h := ifT q4 h
      refine W.seq ?_
      refine W.pk ?_
      refine .v rfl rfl (OpL.move (.inr rfl) rfl) ?_
      refine .v rfl rfl (OpL.move (.inr rfl) rfl) ?_
      refine .nil ?_
      refine W.ret ?_
      cases h
      exact leaves (.inr rfl) rfl (.tup _ _ _ _ (cC (.imm _) (cC (.imm _) .nil))) (cN (cN .nil)) rfl rfl
    · have h := ifF q4 h
      refine W.skip ?_
      refine W.seq ?_
      obtain ⟨t5, b6, h⟩ := bnd1 h
      refine W.pk ?_
      refine .v rfl rfl (OpL.move (.inl rfl) rfl) ?_
      refine .v rfl rfl (OpL.move (.inl rfl) rfl) ?_
      refine .call (.tup [.imm (.val (.int .i64 t5.1)), .imm (.val (.int .i64 t5.2))]) [] 0 (fixnum_MulDiv.ok b6) rfl rfl rfl ca35 rfl rfl (cC (.imm _) (cC (.imm _) (cC (.imm _) (cC (.imm _) .nil)))) rfl rfl rfl rfl rfl ?_
      refine .v rfl rfl (OpL.extract rfl rfl rfl) ?_
      refine .v rfl rfl (OpL.extract rfl rfl rfl) ?_
      refine .v rfl rfl (OpL.move (.inr rfl) rfl) ?_
      refine .v rfl rfl (OpL.move (.inr rfl) rfl) ?_
      refine .nil ?_
      refine W.ret ?_
      cases h
      exact leaves (.inr rfl) rfl (.tup _ _ _ _ (cC (.imm _) (cC (.imm _) .nil))) (cN (cN .nil)) rfl rfl
  · clear h
    rcases tf (decide (x0 < 0)) with g1 | g1
    · refine W.pk ?_
      refine .v rfl rfl (OpL.move (.inl rfl) rfl) ?_
      refine .v rfl rfl (OpL.binI rfl rfl rfl rfl) ?_
      refine .v rfl rfl (OpL.move (.inl rfl) rfl) ?_
      refine .x rfl (unmet rfl rfl rfl g1) ?_
      refine .x rfl (unmet rfl rfl rfl g1) ?_
      refine .v rfl rfl (O.pickT g1 rfl rfl rfl) ?_
      refine .v rfl rfl (OpL.move (.inl rfl) rfl) ?_
      refine .x rfl (unmet rfl rfl rfl rfl) ?_
      refine .x rfl (unmet rfl rfl rfl rfl) ?_
      refine .v rfl rfl (O.pickT rfl rfl rfl rfl) ?_
      refine .v rfl rfl (OpL.move (.inl rfl) rfl) ?_
      refine .x rfl (unmet rfl rfl rfl rfl) ?_
      refine .x rfl (unmet rfl rfl rfl rfl) ?_
      refine .v rfl rfl (O.pickT rfl rfl rfl rfl) ?_
      refine .nil ?_
      exact toN (Gives.mkR [] (.c rfl (.rfl _) rfl (.c rfl (.rfl _) rfl (.c rfl (sbb (by simp only [g1, Bool.true_or, Bool.or_true, Bool.false_or, Bool.or_false, Bool.true_and, Bool.and_true, Bool.false_and, Bool.and_false, Bool.not_true, Bool.not_false, cond_true, cond_false])) rfl .n))) .n rfl rfl rfl)
    · rcases tf (decide (x0 > 1125899906842624)) with g2 | g2
      · refine W.pk ?_
        refine .v rfl rfl (OpL.move (.inl rfl) rfl) ?_
        refine .v rfl rfl (OpL.binI rfl rfl rfl rfl) ?_
        refine .v rfl rfl (OpL.move (.inl rfl) rfl) ?_
        refine .v rfl (met rfl rfl rfl g1) (OpL.move (.inl rfl) rfl) ?_
        refine .v rfl (met rfl rfl rfl g1) (OpL.binI rfl rfl rfl rfl) ?_
        refine .v rfl rfl (O.pickF g1 rfl rfl rfl) ?_
        refine .v rfl rfl (OpL.move (.inl rfl) rfl) ?_
        refine .x rfl (unmet rfl rfl rfl g2) ?_
        refine .x rfl (unmet rfl rfl rfl g2) ?_
        refine .v rfl rfl (O.pickT g2 rfl rfl rfl) ?_
        refine .v rfl rfl (OpL.move (.inl rfl) rfl) ?_
        refine .x rfl (unmet rfl rfl rfl rfl) ?_
        refine .x rfl (unmet rfl rfl rfl rfl) ?_
        refine .v rfl rfl (O.pickT rfl rfl rfl rfl) ?_
        refine .nil ?_
        exact toN (Gives.mkR [] (.c rfl (.rfl _) rfl (.c rfl (.rfl _) rfl (.c rfl (sbb (by simp only [g1, g2, Bool.true_or, Bool.or_true, Bool.false_or, Bool.or_false, Bool.true_and, Bool.and_true, Bool.false_and, Bool.and_false, Bool.not_true, Bool.not_false, cond_true, cond_false])) rfl .n))) .n rfl rfl rfl)
      · rcases tf (decide (x1 < 1)) with g3 | g3
        · refine W.pk ?_
          refine .v rfl rfl (OpL.move (.inl rfl) rfl) ?_
          refine .v rfl rfl (OpL.binI rfl rfl rfl rfl) ?_
          refine .v rfl rfl (OpL.move (.inl rfl) rfl) ?_
          refine .v rfl (met rfl rfl rfl g1) (OpL.move (.inl rfl) rfl) ?_
          refine .v rfl (met rfl rfl rfl g1) (OpL.binI rfl rfl rfl rfl) ?_
          refine .v rfl rfl (O.pickF g1 rfl rfl rfl) ?_
          refine .v rfl rfl (OpL.move (.inl rfl) rfl) ?_
          refine .v rfl (met rfl rfl rfl g2) (OpL.move (.inl rfl) rfl) ?_
          refine .v rfl (met rfl rfl rfl g2) (OpL.binI rfl rfl rfl rfl) ?_
          refine .v rfl rfl (O.pickF g2 rfl rfl rfl) ?_
          refine .v rfl rfl (OpL.move (.inl rfl) rfl) ?_
          refine .x rfl (unmet rfl rfl rfl g3) ?_
          refine .x rfl (unmet rfl rfl rfl g3) ?_
          refine .v rfl rfl (O.pickT g3 rfl rfl rfl) ?_
          refine .nil ?_
          exact toN (Gives.mkR [] (.c rfl (.rfl _) rfl (.c rfl (.rfl _) rfl (.c rfl (sbb (by simp only [g1, g2, g3, Bool.true_or, Bool.or_true, Bool.false_or, Bool.or_false, Bool.true_and, Bool.and_true, Bool.false_and, Bool.and_false, Bool.not_true, Bool.not_false, cond_true, cond_false])) rfl .n))) .n rfl rfl rfl)
        · refine W.pk ?_
          refine .v rfl rfl (OpL.move (.inl rfl) rfl) ?_
          refine .v rfl rfl (OpL.binI rfl rfl rfl rfl) ?_
          refine .v rfl rfl (OpL.move (.inl rfl) rfl) ?_
          refine .v rfl (met rfl rfl rfl g1) (OpL.move (.inl rfl) rfl) ?_
          refine .v rfl (met rfl rfl rfl g1) (OpL.binI rfl rfl rfl rfl) ?_
          refine .v rfl rfl (O.pickF g1 rfl rfl rfl) ?_
          refine .v rfl rfl (OpL.move (.inl rfl) rfl) ?_
          refine .v rfl (met rfl rfl rfl g2) (OpL.move (.inl rfl) rfl) ?_
          refine .v rfl (met rfl rfl rfl g2) (OpL.binI rfl rfl rfl rfl) ?_
          refine .v rfl rfl (O.pickF g2 rfl rfl rfl) ?_
          refine .v rfl rfl (OpL.move (.inl rfl) rfl) ?_
          refine .v rfl (met rfl rfl rfl g3) (OpL.move (.inl rfl) rfl) ?_
          refine .v rfl (met rfl rfl rfl g3) (OpL.binI rfl rfl rfl rfl) ?_
          refine .v rfl rfl (O.pickF g3 rfl rfl rfl) ?_
          refine .nil ?_
          exact toN (Gives.mkR [] (.c rfl (.rfl _) rfl (.c rfl (.rfl _) rfl (.c rfl (sbb (by simp only [g1, g2, g3, Bool.true_or, Bool.or_true, Bool.false_or, Bool.or_false, Bool.true_and, Bool.and_true, Bool.false_and, Bool.and_false, Bool.not_true, Bool.not_false, cond_true, cond_false])) rfl .n))) .n rfl rfl rfl)

noncomputable def haircut_Cover.f (x0 : Int) (x1 : Int) (x2 : Int) : Option (Int × Int) :=
  (haircut_good.f x1 x2).bind fun t1 =>
  if (!t1) = true then
    some (0, 1)
  else
    (asset_Worth.f x0 x1).bind fun t4 =>
    if (t4.2 != 0) = true then
      some (0, t4.2)
    else
      (fixnum_MulDiv.f t4.1 (IntKind.wrap .i64 (1000000 - x2)) 1000000 1).bind fun t7 =>
      some (t7.1, t7.2)
set_option maxRecDepth 100000 in
set_option maxHeartbeats 4000000 in
theorem haircut_Cover.ok {x0 : Int} {x1 : Int} {x2 : Int} {r : Int × Int} (h : haircut_Cover.f x0 x1 x2 = some r) : Pm.Spec prog 10 [.imm (.val (.int .i64 x0)), .imm (.val (.int .i64 x1)), .imm (.val (.int .i64 x2))] (.tup [.imm (.val (.int .i64 r.1)), .imm (.val (.int .i64 r.2))]) [none, none, none] := by
  unfold haircut_Cover.f at h
  refine Pm.Spec.of_body Try.func10 rfl (by kernel_rfl) (Nat.le_of_ble_eq_true rfl) (Nat.le_of_ble_eq_true rfl) ?_
  refine W.ghost (σ' := (mkSt [(0, some (.imm (.val (.int .i64 x0)))), (1, some (.imm (.val (.int .i64 x1)))), (2, some (.imm (.val (.int .i64 x2))))] [] 1000)) (Gives.entry (.c rfl (.c rfl (.c rfl .n))) .n) ?_
  refine W.seq ?_
  refine W.pk ?_
  refine .v rfl rfl (OpL.move (.inr rfl) rfl) ?_
  refine .v rfl rfl (OpL.move (.inr rfl) rfl) ?_
  refine .nil ?_
  refine W.seq ?_
  refine W.seq ?_
  obtain ⟨t1, b2, h⟩ := bnd1 h
  refine W.pk ?_
  refine .v rfl rfl (OpL.move (.inl rfl) rfl) ?_
  refine .v rfl rfl (OpL.move (.inl rfl) rfl) ?_
  refine .call (.imm (.val (.bool t1))) [] 0 (haircut_good.ok b2) rfl rfl rfl ca33 rfl rfl (cC (.imm _) (cC (.imm _) .nil)) rfl rfl rfl rfl rfl ?_
  refine .v rfl rfl (OpL.unV rfl rfl rfl) ?_
  refine .nil ?_
  refine W.cond rfl (fun q3 => ?_) (fun q3 => ?_)
  · have h := ifT q3 h
    refine W.seq ?_
    refine W.pk ?_
    refine .v rfl rfl (OpL.move (.inr rfl) rfl) ?_
    refine .v rfl rfl (OpL.move (.inr rfl) rfl) ?_
    refine .nil ?_
    refine W.ret ?_
    cases h
    exact leaves (.inr rfl) rfl (.tup _ _ _ _ (cC (.imm _) (cC (.imm _) .nil))) (cN (cN (cN .nil))) rfl rfl
  · have h := ifF q3 h
    refine W.skip ?_
    refine W.seq ?_
    obtain ⟨t4, b5, h⟩ := bnd1 h
    refine W.pk ?_
    refine .v rfl rfl (OpL.move (.inl rfl) rfl) ?_
    refine .v rfl rfl (OpL.move (.inl rfl) rfl) ?_
    refine .call (.tup [.imm (.val (.int .i64 t4.1)), .imm (.val (.int .i64 t4.2))]) [] 0 (asset_Worth.ok b5) rfl rfl rfl ca34 rfl rfl (cC (.imm _) (cC (.imm _) .nil)) rfl rfl rfl rfl rfl ?_
    refine .v rfl rfl (OpL.move (.inl rfl) rfl) ?_
    refine .v rfl rfl (OpL.extract rfl rfl rfl) ?_
    refine .v rfl rfl (OpL.extract rfl rfl rfl) ?_
    refine .v rfl rfl (OpL.move (.inr rfl) rfl) ?_
    refine .v rfl rfl (OpL.move (.inr rfl) rfl) ?_
    refine .nil ?_
    refine W.seq ?_
    refine W.seq ?_
    refine W.pk ?_
    refine .v rfl rfl (OpL.move (.inl rfl) rfl) ?_
    refine .v rfl rfl (OpL.binI rfl rfl rfl rfl) ?_
    refine .nil ?_
    refine W.cond rfl (fun q6 => ?_) (fun q6 => ?_)
    · have h := ifT q6 h
      refine W.seq ?_
      refine W.pk ?_
      refine .v rfl rfl (OpL.move (.inl rfl) rfl) ?_
      refine .v rfl rfl (OpL.move (.inr rfl) rfl) ?_
      refine .v rfl rfl (OpL.move (.inr rfl) rfl) ?_
      refine .nil ?_
      refine W.ret ?_
      cases h
      exact leaves (.inr rfl) rfl (.tup _ _ _ _ (cC (.imm _) (cC (.imm _) .nil))) (cN (cN (cN .nil))) rfl rfl
    · have h := ifF q6 h
      refine W.skip ?_
      refine W.seq ?_
      obtain ⟨t7, b8, h⟩ := bnd1 h
      refine W.pk ?_
      refine .v rfl rfl (OpL.move (.inl rfl) rfl) ?_
      refine .v rfl rfl (OpL.move (.inl rfl) rfl) ?_
      refine .v rfl rfl (OpL.binI rfl rfl rfl rfl) ?_
      refine .call (.tup [.imm (.val (.int .i64 t7.1)), .imm (.val (.int .i64 t7.2))]) [] 0 (fixnum_MulDiv.ok b8) rfl rfl rfl ca35 rfl rfl (cC (.imm _) (cC (.imm _) (cC (.imm _) (cC (.imm _) .nil)))) rfl rfl rfl rfl rfl ?_
      refine .v rfl rfl (OpL.extract rfl rfl rfl) ?_
      refine .v rfl rfl (OpL.extract rfl rfl rfl) ?_
      refine .v rfl rfl (OpL.move (.inr rfl) rfl) ?_
      refine .v rfl rfl (OpL.move (.inr rfl) rfl) ?_
      refine .nil ?_
      refine W.ret ?_
      cases h
      exact leaves (.inr rfl) rfl (.tup _ _ _ _ (cC (.imm _) (cC (.imm _) .nil))) (cN (cN (cN .nil))) rfl rfl

noncomputable def haircut_Least.b0 (x0 : Int) (x1 : Int) (x2 : Int) (v12 : Int) (v13 : Int) : Option ((Int × Int) ⊕ Int) :=
  if (decide (v12 < v13)) = true then
    (haircut_Cover.f (IntKind.wrap .i64 (Int.tdiv (IntKind.wrap .i64 (v12 + v13)) 2)) x1 x2).bind fun t27 =>
    if (decide (t27.1 ≥ x0)) = true then
      some (.inl (v12, (IntKind.wrap .i64 (Int.tdiv (IntKind.wrap .i64 (v12 + v13)) 2))))
    else
      some (.inl ((IntKind.wrap .i64 ((IntKind.wrap .i64 (Int.tdiv (IntKind.wrap .i64 (v12 + v13)) 2)) + 1)), v13))
  else
    some (.inr v12)
noncomputable def haircut_Least.r0 (x0 : Int) (x1 : Int) (x2 : Int) (s : Int × Int) : Option ((Int × Int) ⊕ Int) := haircut_Least.b0 x0 x1 x2 s.1 s.2
noncomputable def haircut_Least.f (x0 : Int) (x1 : Int) (x2 : Int) : Option (Int × Bool) :=
  (haircut_good.f x1 x2).bind fun t1 =>
  if ((!t1) || (decide (x0 < 0))) = true then
    some (0, false)
  else
    (haircut_Cover.f 1125899906842624 x1 x2).bind fun t5 =>
    if (decide (t5.1 < x0)) = true then
      some (0, false)
    else
      (loop (haircut_Least.r0 x0 x1 x2) (0, 1125899906842624)).bind fun o23 =>
      some (o23, true)
set_option maxRecDepth 100000 in
set_option maxHeartbeats 4000000 in
theorem haircut_Least.ok {x0 : Int} {x1 : Int} {x2 : Int} {r : Int × Bool} (h : haircut_Least.f x0 x1 x2 = some r) : Pm.Spec prog 12 [.imm (.val (.int .i64 x0)), .imm (.val (.int .i64 x1)), .imm (.val (.int .i64 x2))] (.tup [.imm (.val (.int .i64 r.1)), .imm (.val (.bool r.2))]) [none, none, none] := by
  unfold haircut_Least.f at h
  refine Pm.Spec.of_body Try.func12 rfl (by kernel_rfl) (Nat.le_of_ble_eq_true rfl) (Nat.le_of_ble_eq_true rfl) ?_
  refine W.ghost (σ' := (mkSt [(0, some (.imm (.val (.int .i64 x0)))), (1, some (.imm (.val (.int .i64 x1)))), (2, some (.imm (.val (.int .i64 x2))))] [] 1000)) (Gives.entry (.c rfl (.c rfl (.c rfl .n))) .n) ?_
  refine W.seq ?_
  refine W.pk ?_
  refine .v rfl rfl (OpL.move (.inr rfl) rfl) ?_
  refine .v rfl rfl (OpL.move (.inr rfl) rfl) ?_
  refine .nil ?_
  refine W.seq ?_
  refine W.seq ?_
  obtain ⟨t1, b2, h⟩ := bnd1 h
  refine W.fork (mkSt [(0, some (.imm (.val (.int .i64 x0)))), (1, some (.imm (.val (.int .i64 x1)))), (2, some (.imm (.val (.int .i64 x2)))), (22, some (.imm (.val (.bool ((!t1) || (decide (x0 < 0)))))))] [] 1000) ?_ ?_
  · refine W.cond rfl (fun q4 => ?_) (fun q4 => ?_)
    · have h := ifT q4 h
      refine W.seq ?_
      refine W.pk ?_
      refine .v rfl rfl (OpL.move (.inr rfl) rfl) ?_
      refine .v rfl rfl (OpL.move (.inr rfl) rfl) ?_
      refine .nil ?_
      refine W.ret ?_
      cases h
      exact leaves (.inr rfl) rfl (.tup _ _ _ _ (cC (.imm _) (cC (.imm _) .nil))) (cN (cN (cN .nil))) rfl rfl
    · have h := ifF q4 h
      refine W.skip ?_
      refine W.seq ?_
      refine W.seq ?_
      obtain ⟨t5, b6, h⟩ := bnd1 h
      refine W.pk ?_
      refine .v rfl rfl (OpL.move (.inl rfl) rfl) ?_
      refine .v rfl rfl (OpL.move (.inl rfl) rfl) ?_
      refine .call (.tup [.imm (.val (.int .i64 t5.1)), .imm (.val (.int .i64 t5.2))]) [] 0 (haircut_Cover.ok b6) rfl rfl rfl ca10 rfl rfl (cC (.imm _) (cC (.imm _) (cC (.imm _) .nil))) rfl rfl rfl rfl rfl ?_
      refine .v rfl rfl (OpL.move (.inl rfl) rfl) ?_
      refine .v rfl rfl (OpL.extract rfl rfl rfl) ?_
      refine .v rfl rfl (OpL.extract rfl rfl rfl) ?_
      refine .v rfl rfl (OpL.move (.inr rfl) rfl) ?_
      refine .v rfl rfl (OpL.move (.inr rfl) rfl) ?_
      refine .nil ?_
      refine W.seq ?_
      refine W.pk ?_
      refine .v rfl rfl (OpL.move (.inl rfl) rfl) ?_
      refine .v rfl rfl (OpL.move (.inl rfl) rfl) ?_
      refine .v rfl rfl (OpL.binI rfl rfl rfl rfl) ?_
      refine .nil ?_
      refine W.cond rfl (fun q7 => ?_) (fun q7 => ?_)
      · have h := ifT q7 h
        refine W.seq ?_
        refine W.pk ?_
        refine .v rfl rfl (OpL.move (.inr rfl) rfl) ?_
        refine .v rfl rfl (OpL.move (.inr rfl) rfl) ?_
        refine .nil ?_
        refine W.ret ?_
        cases h
        exact leaves (.inr rfl) rfl (.tup _ _ _ _ (cC (.imm _) (cC (.imm _) .nil))) (cN (cN (cN .nil))) rfl rfl
      · have h := ifF q7 h
        refine W.skip ?_
        refine W.seq ?_
        refine W.pk ?_
        refine .v rfl rfl (OpL.move (.inr rfl) rfl) ?_
        refine .v rfl rfl (OpL.move (.inr rfl) rfl) ?_
        refine .nil ?_
        refine W.seq ?_
        obtain ⟨o23, b24, h⟩ := bnd1 h
        refine W.fork (mkSt [(10, some (.imm (.val (.int .i64 o23))))] [] 1000) ?_ ?_
        · refine W.seq ?_
          refine W.pk ?_
          refine .v rfl rfl (OpL.move (.inl rfl) rfl) ?_
          refine .v rfl rfl (OpL.move (.inr rfl) rfl) ?_
          refine .v rfl rfl (OpL.move (.inr rfl) rfl) ?_
          refine .nil ?_
          refine W.ret ?_
          cases h
          exact leaves (.inr rfl) rfl (.tup _ _ _ _ (cC (.imm _) (cC (.imm _) .nil))) (cN (cN (cN .nil))) rfl rfl
        · clear h
          refine W.block ?_
          refine W.loopF (fun (s_ : Int × Int) => mkSt [(0, some (.imm (.val (.int .i64 x0)))), (1, some (.imm (.val (.int .i64 x1)))), (2, some (.imm (.val (.int .i64 x2)))), (10, some (.imm (.val (.int .i64 s_.1)))), (11, some (.imm (.val (.int .i64 s_.2))))] [] 1000) b24 (Gives.mkR [] (.c rfl (.rfl _) rfl (.c rfl (.rfl _) rfl (.c rfl (.rfl _) rfl (.c rfl (.rfl _) rfl (.c rfl (.rfl _) rfl .n))))) .n rfl rfl rfl) ?_
          rintro ⟨v12, v13⟩ s_ hr
          have h : haircut_Least.b0 x0 x1 x2 v12 v13 = some s_ := hr
          unfold haircut_Least.b0 at h
          refine W.seq ?_
          refine W.seq ?_
          refine W.pk ?_
          refine .v rfl rfl (OpL.move (.inl rfl) rfl) ?_
          refine .v rfl rfl (OpL.move (.inl rfl) rfl) ?_
          refine .v rfl rfl (OpL.binI rfl rfl rfl rfl) ?_
          refine .nil ?_
          refine W.cond rfl (fun q26 => ?_) (fun q26 => ?_)
          · have h := ifT q26 h
            refine W.skip ?_
            refine W.block ?_
            refine W.seq ?_
            refine W.pk ?_
            refine .v rfl rfl (OpL.move (.inl rfl) rfl) ?_
            refine .v rfl rfl (OpL.move (.inl rfl) rfl) ?_
            refine .v rfl rfl (OpL.binI rfl rfl rfl rfl) ?_
            refine .v rfl rfl (O.quo rfl rfl rfl (by decide)) ?_
            refine .v rfl rfl (OpL.move (.inr rfl) rfl) ?_
            refine .nil ?_
            refine W.seq ?_
            obtain ⟨t27, b28, h⟩ := bnd1 h
            refine W.pk ?_
            refine .v rfl rfl (OpL.move (.inl rfl) rfl) ?_
            refine .v rfl rfl (OpL.move (.inl rfl) rfl) ?_
            refine .v rfl rfl (OpL.move (.inl rfl) rfl) ?_
            refine .call (.tup [.imm (.val (.int .i64 t27.1)), .imm (.val (.int .i64 t27.2))]) [] 0 (haircut_Cover.ok b28) rfl rfl rfl ca10 rfl rfl (cC (.imm _) (cC (.imm _) (cC (.imm _) .nil))) rfl rfl rfl rfl rfl ?_
            refine .v rfl rfl (OpL.move (.inl rfl) rfl) ?_
            refine .v rfl rfl (OpL.extract rfl rfl rfl) ?_
            refine .v rfl rfl (OpL.extract rfl rfl rfl) ?_
            refine .v rfl rfl (OpL.move (.inr rfl) rfl) ?_
            refine .v rfl rfl (OpL.move (.inr rfl) rfl) ?_
            refine .nil ?_
            refine W.seq ?_
            refine W.pk ?_
            refine .v rfl rfl (OpL.move (.inl rfl) rfl) ?_
            refine .v rfl rfl (OpL.move (.inl rfl) rfl) ?_
            refine .v rfl rfl (OpL.binI rfl rfl rfl rfl) ?_
            refine .nil ?_
            refine W.cond rfl (fun q29 => ?_) (fun q29 => ?_)
            · have h := ifT q29 h
              refine W.pk ?_
              refine .v rfl rfl (OpL.move (.inl rfl) rfl) ?_
              refine .v rfl rfl (OpL.move (.inr rfl) rfl) ?_
              refine .nil ?_
              cases h
              exact rdN (Gives.mkR [] (.c rfl (.rfl _) rfl (.c rfl (.rfl _) rfl (.c rfl (.rfl _) rfl (.c rfl (.rfl _) rfl (.c rfl (.rfl _) rfl .n))))) .n rfl rfl rfl)
            · have h := ifF q29 h
              refine W.pk ?_
              refine .v rfl rfl (OpL.move (.inl rfl) rfl) ?_
              refine .v rfl rfl (OpL.binI rfl rfl rfl rfl) ?_
              refine .v rfl rfl (OpL.move (.inr rfl) rfl) ?_
              refine .nil ?_
              cases h
              exact rdN (Gives.mkR [] (.c rfl (.rfl _) rfl (.c rfl (.rfl _) rfl (.c rfl (.rfl _) rfl (.c rfl (.rfl _) rfl (.c rfl (.rfl _) rfl .n))))) .n rfl rfl rfl)
          · have h := ifF q26 h
            refine W.exit ?_
            cases h
            refine rdX fun e_ => ?_
            subst e_
            refine hit ?_
            exact toN (Gives.mkR [] (.c rfl (.rfl _) rfl .n) .n rfl rfl rfl)
  · clear h
    rcases tf t1 with g3 | g3
    · refine W.pk ?_
      refine .v rfl rfl (OpL.move (.inl rfl) rfl) ?_
      refine .v rfl rfl (OpL.move (.inl rfl) rfl) ?_
      refine .call (.imm (.val (.bool t1))) [] 0 (haircut_good.ok b2) rfl rfl rfl ca33 rfl rfl (cC (.imm _) (cC (.imm _) .nil)) rfl rfl rfl rfl rfl ?_
      refine .v rfl rfl (OpL.unV rfl rfl rfl) ?_
      refine .v rfl rfl (OpL.move (.inl rfl) rfl) ?_
      refine .v rfl (met rfl rfl rfl (notT g3)) (OpL.move (.inl rfl) rfl) ?_
      refine .v rfl (met rfl rfl rfl (notT g3)) (OpL.binI rfl rfl rfl rfl) ?_
      refine .v rfl rfl (O.pickF (notT g3) rfl rfl rfl) ?_
      refine .nil ?_
      exact toN (Gives.mkR [] (.c rfl (.rfl _) rfl (.c rfl (.rfl _) rfl (.c rfl (.rfl _) rfl (.c rfl (sbb (by simp only [g3, Bool.true_or, Bool.or_true, Bool.false_or, Bool.or_false, Bool.true_and, Bool.and_true, Bool.false_and, Bool.and_false, Bool.not_true, Bool.not_false, cond_true, cond_false])) rfl .n)))) .n rfl rfl rfl)
    · refine W.pk ?_
      refine .v rfl rfl (OpL.move (.inl rfl) rfl) ?_
      refine .v rfl rfl (OpL.move (.inl rfl) rfl) ?_
      refine .call (.imm (.val (.bool t1))) [] 0 (haircut_good.ok b2) rfl rfl rfl ca33 rfl rfl (cC (.imm _) (cC (.imm _) .nil)) rfl rfl rfl rfl rfl ?_
      refine .v rfl rfl (OpL.unV rfl rfl rfl) ?_
      refine .v rfl rfl (OpL.move (.inl rfl) rfl) ?_
      refine .x rfl (unmet rfl rfl rfl (notF g3)) ?_
      refine .x rfl (unmet rfl rfl rfl (notF g3)) ?_
      refine .v rfl rfl (O.pickT (notF g3) rfl rfl rfl) ?_
      refine .nil ?_
      exact toN (Gives.mkR [] (.c rfl (.rfl _) rfl (.c rfl (.rfl _) rfl (.c rfl (.rfl _) rfl (.c rfl (sbb (by simp only [g3, Bool.true_or, Bool.or_true, Bool.false_or, Bool.or_false, Bool.true_and, Bool.and_true, Bool.false_and, Bool.and_false, Bool.not_true, Bool.not_false, cond_true, cond_false])) rfl .n)))) .n rfl rfl rfl)

noncomputable def lombardlaw15_awake.f  : Option (Bool) :=
  (haircut_Cover.f 1000 990000 100000).bind fun t1 =>
  (haircut_Least.f 891 990000 100000).bind fun t3 =>
  some ((((t1.1 == 891) && (t1.2 == 0)) && t3.2) && (t3.1 == 1000))
set_option maxRecDepth 100000 in
set_option maxHeartbeats 4000000 in
theorem lombardlaw15_awake.ok  {r : Bool} (h : lombardlaw15_awake.f  = some r) : Pm.Spec prog 9 [] (.imm (.val (.bool r))) [] := by
  unfold lombardlaw15_awake.f at h
  refine Pm.Spec.of_body Try.func9 rfl (by kernel_rfl) (Nat.le_of_ble_eq_true rfl) (Nat.le_of_ble_eq_true rfl) ?_
  refine W.ghost (σ' := (mkSt [] [] 1000)) (Gives.entry .n .n) ?_
  refine W.seq ?_
  refine W.pk ?_
  refine .v rfl rfl (OpL.move (.inr rfl) rfl) ?_
  refine .nil ?_
  refine W.seq ?_
  obtain ⟨t1, b2, h⟩ := bnd1 h
  refine W.pk ?_
  refine .call (.tup [.imm (.val (.int .i64 t1.1)), .imm (.val (.int .i64 t1.2))]) [] 0 (haircut_Cover.ok b2) rfl rfl rfl ca10 rfl rfl (cC (.imm _) (cC (.imm _) (cC (.imm _) .nil))) rfl rfl rfl rfl rfl ?_
  refine .v rfl rfl (OpL.move (.inl rfl) rfl) ?_
  refine .v rfl rfl (OpL.extract rfl rfl rfl) ?_
  refine .v rfl rfl (OpL.extract rfl rfl rfl) ?_
  refine .v rfl rfl (OpL.move (.inr rfl) rfl) ?_
  refine .v rfl rfl (OpL.move (.inr rfl) rfl) ?_
  refine .nil ?_
  refine W.seq ?_
  obtain ⟨t3, b4, h⟩ := bnd1 h
  refine W.pk ?_
  refine .call (.tup [.imm (.val (.int .i64 t3.1)), .imm (.val (.bool t3.2))]) [] 0 (haircut_Least.ok b4) rfl rfl rfl ca12 rfl rfl (cC (.imm _) (cC (.imm _) (cC (.imm _) .nil))) rfl rfl rfl rfl rfl ?_
  refine .v rfl rfl (OpL.move (.inl rfl) rfl) ?_
  refine .v rfl rfl (OpL.extract rfl rfl rfl) ?_
  refine .v rfl rfl (OpL.extract rfl rfl rfl) ?_
  refine .v rfl rfl (OpL.move (.inr rfl) rfl) ?_
  refine .v rfl rfl (OpL.move (.inr rfl) rfl) ?_
  refine .nil ?_
  refine W.seq ?_
  refine W.fork (mkSt [(0, some (.imm (.val (.bool ((((t1.1 == 891) && (t1.2 == 0)) && t3.2) && (t3.1 == 1000))))))] [] 1000) ?_ ?_
  · refine W.ret ?_
    cases h
    exact leaves (.inr rfl) rfl (.imm _) .nil rfl rfl
  · clear h
    rcases tf (t1.1 == 891) with g5 | g5
    · rcases tf (t1.2 == 0) with g6 | g6
      · rcases tf t3.2 with g7 | g7
        · refine W.pk ?_
          refine .v rfl rfl (OpL.move (.inl rfl) rfl) ?_
          refine .v rfl rfl (OpL.binI rfl rfl rfl rfl) ?_
          refine .v rfl rfl (OpL.move (.inl rfl) rfl) ?_
          refine .v rfl (met rfl rfl rfl g5) (OpL.move (.inl rfl) rfl) ?_
          refine .v rfl (met rfl rfl rfl g5) (OpL.binI rfl rfl rfl rfl) ?_
          refine .v rfl rfl (O.pickT g5 rfl rfl rfl) ?_
          refine .v rfl rfl (OpL.move (.inl rfl) rfl) ?_
          refine .v rfl (met rfl rfl rfl g6) (OpL.move (.inl rfl) rfl) ?_
          refine .v rfl rfl (O.pickT g6 rfl rfl rfl) ?_
          refine .v rfl rfl (OpL.move (.inl rfl) rfl) ?_
          refine .v rfl (met rfl rfl rfl g7) (OpL.move (.inl rfl) rfl) ?_
          refine .v rfl (met rfl rfl rfl g7) (OpL.binI rfl rfl rfl rfl) ?_
          refine .v rfl rfl (O.pickT g7 rfl rfl rfl) ?_
          refine .v rfl rfl (OpL.move (.inr rfl) rfl) ?_
          refine .nil ?_
          exact toN (Gives.mkR [] (.c rfl (sbb (by simp only [g5, g6, g7, Bool.true_or, Bool.or_true, Bool.false_or, Bool.or_false, Bool.true_and, Bool.and_true, Bool.false_and, Bool.and_false, Bool.not_true, Bool.not_false, cond_true, cond_false])) rfl .n) .n rfl rfl rfl)
        · refine W.pk ?_
          refine .v rfl rfl (OpL.move (.inl rfl) rfl) ?_
          refine .v rfl rfl (OpL.binI rfl rfl rfl rfl) ?_
          refine .v rfl rfl (OpL.move (.inl rfl) rfl) ?_
          refine .v rfl (met rfl rfl rfl g5) (OpL.move (.inl rfl) rfl) ?_
          refine .v rfl (met rfl rfl rfl g5) (OpL.binI rfl rfl rfl rfl) ?_
          refine .v rfl rfl (O.pickT g5 rfl rfl rfl) ?_
          refine .v rfl rfl (OpL.move (.inl rfl) rfl) ?_
          refine .v rfl (met rfl rfl rfl g6) (OpL.move (.inl rfl) rfl) ?_
          refine .v rfl rfl (O.pickT g6 rfl rfl rfl) ?_
          refine .v rfl rfl (OpL.move (.inl rfl) rfl) ?_
          refine .x rfl (unmet rfl rfl rfl g7) ?_
          refine .x rfl (unmet rfl rfl rfl g7) ?_
          refine .v rfl rfl (O.pickF g7 rfl rfl rfl) ?_
          refine .v rfl rfl (OpL.move (.inr rfl) rfl) ?_
          refine .nil ?_
          exact toN (Gives.mkR [] (.c rfl (sbb (by simp only [g5, g6, g7, Bool.true_or, Bool.or_true, Bool.false_or, Bool.or_false, Bool.true_and, Bool.and_true, Bool.false_and, Bool.and_false, Bool.not_true, Bool.not_false, cond_true, cond_false])) rfl .n) .n rfl rfl rfl)
      · refine W.pk ?_
        refine .v rfl rfl (OpL.move (.inl rfl) rfl) ?_
        refine .v rfl rfl (OpL.binI rfl rfl rfl rfl) ?_
        refine .v rfl rfl (OpL.move (.inl rfl) rfl) ?_
        refine .v rfl (met rfl rfl rfl g5) (OpL.move (.inl rfl) rfl) ?_
        refine .v rfl (met rfl rfl rfl g5) (OpL.binI rfl rfl rfl rfl) ?_
        refine .v rfl rfl (O.pickT g5 rfl rfl rfl) ?_
        refine .v rfl rfl (OpL.move (.inl rfl) rfl) ?_
        refine .x rfl (unmet rfl rfl rfl g6) ?_
        refine .v rfl rfl (O.pickF g6 rfl rfl rfl) ?_
        refine .v rfl rfl (OpL.move (.inl rfl) rfl) ?_
        refine .x rfl (unmet rfl rfl rfl rfl) ?_
        refine .x rfl (unmet rfl rfl rfl rfl) ?_
        refine .v rfl rfl (O.pickF rfl rfl rfl rfl) ?_
        refine .v rfl rfl (OpL.move (.inr rfl) rfl) ?_
        refine .nil ?_
        exact toN (Gives.mkR [] (.c rfl (sbb (by simp only [g5, g6, Bool.true_or, Bool.or_true, Bool.false_or, Bool.or_false, Bool.true_and, Bool.and_true, Bool.false_and, Bool.and_false, Bool.not_true, Bool.not_false, cond_true, cond_false])) rfl .n) .n rfl rfl rfl)
    · refine W.pk ?_
      refine .v rfl rfl (OpL.move (.inl rfl) rfl) ?_
      refine .v rfl rfl (OpL.binI rfl rfl rfl rfl) ?_
      refine .v rfl rfl (OpL.move (.inl rfl) rfl) ?_
      refine .x rfl (unmet rfl rfl rfl g5) ?_
      refine .x rfl (unmet rfl rfl rfl g5) ?_
      refine .v rfl rfl (O.pickF g5 rfl rfl rfl) ?_
      refine .v rfl rfl (OpL.move (.inl rfl) rfl) ?_
      refine .x rfl (unmet rfl rfl rfl rfl) ?_
      refine .v rfl rfl (O.pickF rfl rfl rfl rfl) ?_
      refine .v rfl rfl (OpL.move (.inl rfl) rfl) ?_
      refine .x rfl (unmet rfl rfl rfl rfl) ?_
      refine .x rfl (unmet rfl rfl rfl rfl) ?_
      refine .v rfl rfl (O.pickF rfl rfl rfl rfl) ?_
      refine .v rfl rfl (OpL.move (.inr rfl) rfl) ?_
      refine .nil ?_
      exact toN (Gives.mkR [] (.c rfl (sbb (by simp only [g5, Bool.true_or, Bool.or_true, Bool.false_or, Bool.or_false, Bool.true_and, Bool.and_true, Bool.false_and, Bool.and_false, Bool.not_true, Bool.not_false, cond_true, cond_false])) rfl .n) .n rfl rfl rfl)

noncomputable def lombardlaw15_HaircutMore.f (x0 : Int) (x1 : Int) (x2 : Int) (x3 : Int) (x4 : Int) : Option (Bool) :=
  if ((decide (x0 > x1)) || (decide (x3 > x4))) = true then
    (lombardlaw15_awake.f).bind fun t3 =>
    some t3
  else
    (haircut_Cover.f x0 x2 x3).bind fun t5 =>
    (haircut_Cover.f x1 x2 x3).bind fun t7 =>
    (haircut_Cover.f x1 x2 x4).bind fun t9 =>
    if (((t5.2 != 0) || (t7.2 != 0)) || (t9.2 != 0)) = true then
      (lombardlaw15_awake.f).bind fun t14 =>
      some t14
    else
      (if (((decide (t5.1 ≤ t7.1)) && (decide (t9.1 ≤ t7.1))) && (decide (t5.1 ≥ 0))) = true then lombardlaw15_awake.f else some default).bind fun t16 =>
      some ((((decide (t5.1 ≤ t7.1)) && (decide (t9.1 ≤ t7.1))) && (decide (t5.1 ≥ 0))) && t16)
set_option maxRecDepth 100000 in
set_option maxHeartbeats 4000000 in
theorem lombardlaw15_HaircutMore.ok {x0 : Int} {x1 : Int} {x2 : Int} {x3 : Int} {x4 : Int} {r : Bool} (h : lombardlaw15_HaircutMore.f x0 x1 x2 x3 x4 = some r) : Pm.Spec prog 3 [.imm (.val (.int .i64 x0)), .imm (.val (.int .i64 x1)), .imm (.val (.int .i64 x2)), .imm (.val (.int .i64 x3)), .imm (.val (.int .i64 x4))] (.imm (.val (.bool r))) [none, none, none, none, none] := by
  unfold lombardlaw15_HaircutMore.f at h
  refine Pm.Spec.of_body Try.func3 rfl (by kernel_rfl) (Nat.le_of_ble_eq_true rfl) (Nat.le_of_ble_eq_true rfl) ?_
  refine W.ghost (σ' := (mkSt [(0, some (.imm (.val (.int .i64 x0)))), (1, some (.imm (.val (.int .i64 x1)))), (2, some (.imm (.val (.int .i64 x2)))), (3, some (.imm (.val (.int .i64 x3)))), (4, some (.imm (.val (.int .i64 x4))))] [] 1000)) (Gives.entry (.c rfl (.c rfl (.c rfl (.c rfl (.c rfl .n))))) .n) ?_
  refine W.seq ?_
  refine W.pk ?_
  refine .v rfl rfl (OpL.move (.inr rfl) rfl) ?_
  refine .nil ?_
  refine W.seq ?_
  refine W.seq ?_
  refine W.fork (mkSt [(0, some (.imm (.val (.int .i64 x0)))), (1, some (.imm (.val (.int .i64 x1)))), (2, some (.imm (.val (.int .i64 x2)))), (3, some (.imm (.val (.int .i64 x3)))), (4, some (.imm (.val (.int .i64 x4)))), (24, some (.imm (.val (.bool ((decide (x0 > x1)) || (decide (x3 > x4)))))))] [] 1000) ?_ ?_
  · refine W.cond rfl (fun q2 => ?_) (fun q2 => ?_)
    · have h := ifT q2 h
      refine W.seq ?_
      obtain ⟨t3, b4, h⟩ := bnd1 h
      refine W.pk ?_
      refine .call (.imm (.val (.bool t3))) [] 0 (lombardlaw15_awake.ok b4) rfl rfl rfl ca9 rfl rfl .nil rfl rfl rfl rfl rfl ?_
      refine .v rfl rfl (OpL.move (.inr rfl) rfl) ?_
      refine .nil ?_
      refine W.ret ?_
      cases h
      exact leaves (.inr rfl) rfl (.imm _) (cN (cN (cN (cN (cN .nil))))) rfl rfl
    · have h := ifF q2 h
      refine W.skip ?_
      refine W.seq ?_
      obtain ⟨t5, b6, h⟩ := bnd1 h
      refine W.pk ?_
      refine .v rfl rfl (OpL.move (.inl rfl) rfl) ?_
      refine .v rfl rfl (OpL.move (.inl rfl) rfl) ?_
      refine .v rfl rfl (OpL.move (.inl rfl) rfl) ?_
      refine .call (.tup [.imm (.val (.int .i64 t5.1)), .imm (.val (.int .i64 t5.2))]) [] 0 (haircut_Cover.ok b6) rfl rfl rfl ca10 rfl rfl (cC (.imm _) (cC (.imm _) (cC (.imm _) .nil))) rfl rfl rfl rfl rfl ?_
      refine .v rfl rfl (OpL.move (.inl rfl) rfl) ?_
      refine .v rfl rfl (OpL.extract rfl rfl rfl) ?_
      refine .v rfl rfl (OpL.extract rfl rfl rfl) ?_
      refine .v rfl rfl (OpL.move (.inr rfl) rfl) ?_
      refine .v rfl rfl (OpL.move (.inr rfl) rfl) ?_
      refine .nil ?_
      refine W.seq ?_
      obtain ⟨t7, b8, h⟩ := bnd1 h
      refine W.pk ?_
      refine .v rfl rfl (OpL.move (.inl rfl) rfl) ?_
      refine .v rfl rfl (OpL.move (.inl rfl) rfl) ?_
      refine .v rfl rfl (OpL.move (.inl rfl) rfl) ?_
      refine .call (.tup [.imm (.val (.int .i64 t7.1)), .imm (.val (.int .i64 t7.2))]) [] 0 (haircut_Cover.ok b8) rfl rfl rfl ca10 rfl rfl (cC (.imm _) (cC (.imm _) (cC (.imm _) .nil))) rfl rfl rfl rfl rfl ?_
      refine .v rfl rfl (OpL.move (.inl rfl) rfl) ?_
      refine .v rfl rfl (OpL.extract rfl rfl rfl) ?_
      refine .v rfl rfl (OpL.extract rfl rfl rfl) ?_
      refine .v rfl rfl (OpL.move (.inr rfl) rfl) ?_
      refine .v rfl rfl (OpL.move (.inr rfl) rfl) ?_
      refine .nil ?_
      refine W.seq ?_
      obtain ⟨t9, b10, h⟩ := bnd1 h
      refine W.pk ?_
      refine .v rfl rfl (OpL.move (.inl rfl) rfl) ?_
      refine .v rfl rfl (OpL.move (.inl rfl) rfl) ?_
      refine .v rfl rfl (OpL.move (.inl rfl) rfl) ?_
      refine .call (.tup [.imm (.val (.int .i64 t9.1)), .imm (.val (.int .i64 t9.2))]) [] 0 (haircut_Cover.ok b10) rfl rfl rfl ca10 rfl rfl (cC (.imm _) (cC (.imm _) (cC (.imm _) .nil))) rfl rfl rfl rfl rfl ?_
      refine .v rfl rfl (OpL.move (.inl rfl) rfl) ?_
      refine .v rfl rfl (OpL.extract rfl rfl rfl) ?_
      refine .v rfl rfl (OpL.extract rfl rfl rfl) ?_
      refine .v rfl rfl (OpL.move (.inr rfl) rfl) ?_
      refine .v rfl rfl (OpL.move (.inr rfl) rfl) ?_
      refine .nil ?_
      refine W.seq ?_
      refine W.seq ?_
      refine W.fork (mkSt [(11, some (.imm (.val (.int .i64 t5.1)))), (13, some (.imm (.val (.int .i64 t7.1)))), (15, some (.imm (.val (.int .i64 t9.1)))), (56, some (.imm (.val (.bool (((t5.2 != 0) || (t7.2 != 0)) || (t9.2 != 0))))))] [] 1000) ?_ ?_
      · refine W.cond rfl (fun q13 => ?_) (fun q13 => ?_)
        · have h := ifT q13 h
          refine W.seq ?_
          obtain ⟨t14, b15, h⟩ := bnd1 h
          refine W.pk ?_
          refine .call (.imm (.val (.bool t14))) [] 0 (lombardlaw15_awake.ok b15) rfl rfl rfl ca9 rfl rfl .nil rfl rfl rfl rfl rfl ?_
          refine .v rfl rfl (OpL.move (.inr rfl) rfl) ?_
          refine .nil ?_
          refine W.ret ?_
          cases h
          exact leaves (.inr rfl) rfl (.imm _) (cN (cN (cN (cN (cN .nil))))) rfl rfl
        · have h := ifF q13 h
          refine W.skip ?_
          refine W.seq ?_
          obtain ⟨t16, b17, h⟩ := bnd1 h
          refine W.fork (mkSt [(10, some (.imm (.val (.bool ((((decide (t5.1 ≤ t7.1)) && (decide (t9.1 ≤ t7.1))) && (decide (t5.1 ≥ 0))) && t16)))))] [] 1000) ?_ ?_
          · refine W.ret ?_
            cases h
            exact leaves (.inr rfl) rfl (.imm _) (cN (cN (cN (cN (cN .nil))))) rfl rfl
          · clear h
            rcases tf (decide (t5.1 ≤ t7.1)) with g18 | g18
            · rcases tf (decide (t9.1 ≤ t7.1)) with g19 | g19
              · rcases tf (decide (t5.1 ≥ 0)) with g20 | g20
                · refine W.pk ?_
                  refine .v rfl rfl (OpL.move (.inl rfl) rfl) ?_
                  refine .v rfl rfl (OpL.move (.inl rfl) rfl) ?_
                  refine .v rfl rfl (OpL.binI rfl rfl rfl rfl) ?_
                  refine .v rfl rfl (OpL.move (.inl rfl) rfl) ?_
                  refine .v rfl (met rfl rfl rfl g18) (OpL.move (.inl rfl) rfl) ?_
                  refine .v rfl (met rfl rfl rfl g18) (OpL.move (.inl rfl) rfl) ?_
                  refine .v rfl (met rfl rfl rfl g18) (OpL.binI rfl rfl rfl rfl) ?_
                  refine .v rfl rfl (O.pickT g18 rfl rfl rfl) ?_
                  refine .v rfl rfl (OpL.move (.inl rfl) rfl) ?_
                  refine .v rfl (met rfl rfl rfl g19) (OpL.move (.inl rfl) rfl) ?_
                  refine .v rfl (met rfl rfl rfl g19) (OpL.binI rfl rfl rfl rfl) ?_
                  refine .v rfl rfl (O.pickT g19 rfl rfl rfl) ?_
                  refine .v rfl rfl (OpL.move (.inl rfl) rfl) ?_
                  refine .call (.imm (.val (.bool t16))) [] 0 (lombardlaw15_awake.ok ((if_pos (by simp only [g18, g19, g20, Bool.true_or, Bool.or_true, Bool.false_or, Bool.or_false, Bool.true_and, Bool.and_true, Bool.false_and, Bool.and_false, Bool.not_true, Bool.not_false, cond_true, cond_false])).symm.trans b17)) rfl (met rfl rfl rfl g20) rfl ca9 rfl rfl .nil rfl rfl rfl rfl rfl ?_
                  refine .v rfl rfl (O.pickT g20 rfl rfl rfl) ?_
                  refine .v rfl rfl (OpL.move (.inr rfl) rfl) ?_
                  refine .nil ?_
                  exact toN (Gives.mkR [] (.c rfl (sbb (by simp only [g18, g19, g20, Bool.true_or, Bool.or_true, Bool.false_or, Bool.or_false, Bool.true_and, Bool.and_true, Bool.false_and, Bool.and_false, Bool.not_true, Bool.not_false, cond_true, cond_false])) rfl .n) .n rfl rfl rfl)
                · refine W.pk ?_
                  refine .v rfl rfl (OpL.move (.inl rfl) rfl) ?_
                  refine .v rfl rfl (OpL.move (.inl rfl) rfl) ?_
                  refine .v rfl rfl (OpL.binI rfl rfl rfl rfl) ?_
                  refine .v rfl rfl (OpL.move (.inl rfl) rfl) ?_
                  refine .v rfl (met rfl rfl rfl g18) (OpL.move (.inl rfl) rfl) ?_
                  refine .v rfl (met rfl rfl rfl g18) (OpL.move (.inl rfl) rfl) ?_
                  refine .v rfl (met rfl rfl rfl g18) (OpL.binI rfl rfl rfl rfl) ?_
                  refine .v rfl rfl (O.pickT g18 rfl rfl rfl) ?_
                  refine .v rfl rfl (OpL.move (.inl rfl) rfl) ?_
                  refine .v rfl (met rfl rfl rfl g19) (OpL.move (.inl rfl) rfl) ?_
                  refine .v rfl (met rfl rfl rfl g19) (OpL.binI rfl rfl rfl rfl) ?_
                  refine .v rfl rfl (O.pickT g19 rfl rfl rfl) ?_
                  refine .v rfl rfl (OpL.move (.inl rfl) rfl) ?_
                  refine .x rfl (unmet rfl rfl rfl g20) ?_
                  refine .v rfl rfl (O.pickF g20 rfl rfl rfl) ?_
                  refine .v rfl rfl (OpL.move (.inr rfl) rfl) ?_
                  refine .nil ?_
                  exact toN (Gives.mkR [] (.c rfl (sbb (by simp only [g18, g19, g20, Bool.true_or, Bool.or_true, Bool.false_or, Bool.or_false, Bool.true_and, Bool.and_true, Bool.false_and, Bool.and_false, Bool.not_true, Bool.not_false, cond_true, cond_false])) rfl .n) .n rfl rfl rfl)
              · refine W.pk ?_
                refine .v rfl rfl (OpL.move (.inl rfl) rfl) ?_
                refine .v rfl rfl (OpL.move (.inl rfl) rfl) ?_
                refine .v rfl rfl (OpL.binI rfl rfl rfl rfl) ?_
                refine .v rfl rfl (OpL.move (.inl rfl) rfl) ?_
                refine .v rfl (met rfl rfl rfl g18) (OpL.move (.inl rfl) rfl) ?_
                refine .v rfl (met rfl rfl rfl g18) (OpL.move (.inl rfl) rfl) ?_
                refine .v rfl (met rfl rfl rfl g18) (OpL.binI rfl rfl rfl rfl) ?_
                refine .v rfl rfl (O.pickT g18 rfl rfl rfl) ?_
                refine .v rfl rfl (OpL.move (.inl rfl) rfl) ?_
                refine .x rfl (unmet rfl rfl rfl g19) ?_
                refine .x rfl (unmet rfl rfl rfl g19) ?_
                refine .v rfl rfl (O.pickF g19 rfl rfl rfl) ?_
                refine .v rfl rfl (OpL.move (.inl rfl) rfl) ?_
                refine .x rfl (unmet rfl rfl rfl rfl) ?_
                refine .v rfl rfl (O.pickF rfl rfl rfl rfl) ?_
                refine .v rfl rfl (OpL.move (.inr rfl) rfl) ?_
                refine .nil ?_
                exact toN (Gives.mkR [] (.c rfl (sbb (by simp only [g18, g19, Bool.true_or, Bool.or_true, Bool.false_or, Bool.or_false, Bool.true_and, Bool.and_true, Bool.false_and, Bool.and_false, Bool.not_true, Bool.not_false, cond_true, cond_false])) rfl .n) .n rfl rfl rfl)
            · refine W.pk ?_
              refine .v rfl rfl (OpL.move (.inl rfl) rfl) ?_
              refine .v rfl rfl (OpL.move (.inl rfl) rfl) ?_
              refine .v rfl rfl (OpL.binI rfl rfl rfl rfl) ?_
              refine .v rfl rfl (OpL.move (.inl rfl) rfl) ?_
              refine .x rfl (unmet rfl rfl rfl g18) ?_
              refine .x rfl (unmet rfl rfl rfl g18) ?_
              refine .x rfl (unmet rfl rfl rfl g18) ?_
              refine .v rfl rfl (O.pickF g18 rfl rfl rfl) ?_
              refine .v rfl rfl (OpL.move (.inl rfl) rfl) ?_
              refine .x rfl (unmet rfl rfl rfl rfl) ?_
              refine .x rfl (unmet rfl rfl rfl rfl) ?_
              refine .v rfl rfl (O.pickF rfl rfl rfl rfl) ?_
              refine .v rfl rfl (OpL.move (.inl rfl) rfl) ?_
              refine .x rfl (unmet rfl rfl rfl rfl) ?_
              refine .v rfl rfl (O.pickF rfl rfl rfl rfl) ?_
              refine .v rfl rfl (OpL.move (.inr rfl) rfl) ?_
              refine .nil ?_
              exact toN (Gives.mkR [] (.c rfl (sbb (by simp only [g18, Bool.true_or, Bool.or_true, Bool.false_or, Bool.or_false, Bool.true_and, Bool.and_true, Bool.false_and, Bool.and_false, Bool.not_true, Bool.not_false, cond_true, cond_false])) rfl .n) .n rfl rfl rfl)
      · clear h
        rcases tf (t5.2 != 0) with g11 | g11
        · refine W.pk ?_
          refine .v rfl rfl (OpL.move (.inl rfl) rfl) ?_
          refine .v rfl rfl (OpL.binI rfl rfl rfl rfl) ?_
          refine .v rfl rfl (OpL.move (.inl rfl) rfl) ?_
          refine .x rfl (unmet rfl rfl rfl g11) ?_
          refine .x rfl (unmet rfl rfl rfl g11) ?_
          refine .v rfl rfl (O.pickT g11 rfl rfl rfl) ?_
          refine .v rfl rfl (OpL.move (.inl rfl) rfl) ?_
          refine .x rfl (unmet rfl rfl rfl rfl) ?_
          refine .x rfl (unmet rfl rfl rfl rfl) ?_
          refine .v rfl rfl (O.pickT rfl rfl rfl rfl) ?_
          refine .nil ?_
          exact toN (Gives.mkR [] (.c rfl (.rfl _) rfl (.c rfl (.rfl _) rfl (.c rfl (.rfl _) rfl (.c rfl (sbb (by simp only [g11, Bool.true_or, Bool.or_true, Bool.false_or, Bool.or_false, Bool.true_and, Bool.and_true, Bool.false_and, Bool.and_false, Bool.not_true, Bool.not_false, cond_true, cond_false])) rfl .n)))) .n rfl rfl rfl)
        · rcases tf (t7.2 != 0) with g12 | g12
          · refine W.pk ?_
            refine .v rfl rfl (OpL.move (.inl rfl) rfl) ?_
            refine .v rfl rfl (OpL.binI rfl rfl rfl rfl) ?_
            refine .v rfl rfl (OpL.move (.inl rfl) rfl) ?_
            refine .v rfl (met rfl rfl rfl g11) (OpL.move (.inl rfl) rfl) ?_
            refine .v rfl (met rfl rfl rfl g11) (OpL.binI rfl rfl rfl rfl) ?_
            refine .v rfl rfl (O.pickF g11 rfl rfl rfl) ?_
            refine .v rfl rfl (OpL.move (.inl rfl) rfl) ?_
            refine .x rfl (unmet rfl rfl rfl g12) ?_
            refine .x rfl (unmet rfl rfl rfl g12) ?_
            refine .v rfl rfl (O.pickT g12 rfl rfl rfl) ?_
            refine .nil ?_
            exact toN (Gives.mkR [] (.c rfl (.rfl _) rfl (.c rfl (.rfl _) rfl (.c rfl (.rfl _) rfl (.c rfl (sbb (by simp only [g11, g12, Bool.true_or, Bool.or_true, Bool.false_or, Bool.or_false, Bool.true_and, Bool.and_true, Bool.false_and, Bool.and_false, Bool.not_true, Bool.not_false, cond_true, cond_false])) rfl .n)))) .n rfl rfl rfl)
          · refine W.pk ?_
            refine .v rfl rfl (OpL.move (.inl rfl) rfl) ?_
            refine .v rfl rfl (OpL.binI rfl rfl rfl rfl) ?_
            refine .v rfl rfl (OpL.move (.inl rfl) rfl) ?_
            refine .v rfl (met rfl rfl rfl g11) (OpL.move (.inl rfl) rfl) ?_
            refine .v rfl (met rfl rfl rfl g11) (OpL.binI rfl rfl rfl rfl) ?_
            refine .v rfl rfl (O.pickF g11 rfl rfl rfl) ?_
            refine .v rfl rfl (OpL.move (.inl rfl) rfl) ?_
            refine .v rfl (met rfl rfl rfl g12) (OpL.move (.inl rfl) rfl) ?_
            refine .v rfl (met rfl rfl rfl g12) (OpL.binI rfl rfl rfl rfl) ?_
            refine .v rfl rfl (O.pickF g12 rfl rfl rfl) ?_
            refine .nil ?_
            exact toN (Gives.mkR [] (.c rfl (.rfl _) rfl (.c rfl (.rfl _) rfl (.c rfl (.rfl _) rfl (.c rfl (sbb (by simp only [g11, g12, Bool.true_or, Bool.or_true, Bool.false_or, Bool.or_false, Bool.true_and, Bool.and_true, Bool.false_and, Bool.and_false, Bool.not_true, Bool.not_false, cond_true, cond_false])) rfl .n)))) .n rfl rfl rfl)
  · clear h
    rcases tf (decide (x0 > x1)) with g1 | g1
    · refine W.pk ?_
      refine .v rfl rfl (OpL.move (.inl rfl) rfl) ?_
      refine .v rfl rfl (OpL.move (.inl rfl) rfl) ?_
      refine .v rfl rfl (OpL.binI rfl rfl rfl rfl) ?_
      refine .v rfl rfl (OpL.move (.inl rfl) rfl) ?_
      refine .x rfl (unmet rfl rfl rfl g1) ?_
      refine .x rfl (unmet rfl rfl rfl g1) ?_
      refine .x rfl (unmet rfl rfl rfl g1) ?_
      refine .v rfl rfl (O.pickT g1 rfl rfl rfl) ?_
      refine .nil ?_
      exact toN (Gives.mkR [] (.c rfl (.rfl _) rfl (.c rfl (.rfl _) rfl (.c rfl (.rfl _) rfl (.c rfl (.rfl _) rfl (.c rfl (.rfl _) rfl (.c rfl (sbb (by simp only [g1, Bool.true_or, Bool.or_true, Bool.false_or, Bool.or_false, Bool.true_and, Bool.and_true, Bool.false_and, Bool.and_false, Bool.not_true, Bool.not_false, cond_true, cond_false])) rfl .n)))))) .n rfl rfl rfl)
    · refine W.pk ?_
      refine .v rfl rfl (OpL.move (.inl rfl) rfl) ?_
      refine .v rfl rfl (OpL.move (.inl rfl) rfl) ?_
      refine .v rfl rfl (OpL.binI rfl rfl rfl rfl) ?_
      refine .v rfl rfl (OpL.move (.inl rfl) rfl) ?_
      refine .v rfl (met rfl rfl rfl g1) (OpL.move (.inl rfl) rfl) ?_
      refine .v rfl (met rfl rfl rfl g1) (OpL.move (.inl rfl) rfl) ?_
      refine .v rfl (met rfl rfl rfl g1) (OpL.binI rfl rfl rfl rfl) ?_
      refine .v rfl rfl (O.pickF g1 rfl rfl rfl) ?_
      refine .nil ?_
      exact toN (Gives.mkR [] (.c rfl (.rfl _) rfl (.c rfl (.rfl _) rfl (.c rfl (.rfl _) rfl (.c rfl (.rfl _) rfl (.c rfl (.rfl _) rfl (.c rfl (sbb (by simp only [g1, Bool.true_or, Bool.or_true, Bool.false_or, Bool.or_false, Bool.true_and, Bool.and_true, Bool.false_and, Bool.and_false, Bool.not_true, Bool.not_false, cond_true, cond_false])) rfl .n)))))) .n rfl rfl rfl)

noncomputable def lombardref15_good.f (x0 : Int) (x1 : Int) : Option (Bool) :=
  some ((((decide (x0 ≥ 1)) && (decide (x0 ≤ 4294967296))) && (decide (x1 ≥ 0))) && (decide (x1 < 1000000)))
set_option maxRecDepth 100000 in
set_option maxHeartbeats 4000000 in
theorem lombardref15_good.ok {x0 : Int} {x1 : Int} {r : Bool} (h : lombardref15_good.f x0 x1 = some r) : Pm.Spec prog 36 [.imm (.val (.int .i64 x0)), .imm (.val (.int .i64 x1))] (.imm (.val (.bool r))) [none, none] := by
  unfold lombardref15_good.f at h
  refine Pm.Spec.of_body Try.func36 rfl (by kernel_rfl) (Nat.le_of_ble_eq_true rfl) (Nat.le_of_ble_eq_true rfl) ?_
  refine W.ghost (σ' := (mkSt [(0, some (.imm (.val (.int .i64 x0)))), (1, some (.imm (.val (.int .i64 x1))))] [] 1000)) (Gives.entry (.c rfl (.c rfl .n)) .n) ?_
  refine W.seq ?_
  refine W.pk ?_
  refine .v rfl rfl (OpL.move (.inr rfl) rfl) ?_
  refine .nil ?_
  refine W.seq ?_
  refine W.fork (mkSt [(4, some (.imm (.val (.bool ((((decide (x0 ≥ 1)) && (decide (x0 ≤ 4294967296))) && (decide (x1 ≥ 0))) && (decide (x1 < 1000000)))))))] [] 1000) ?_ ?_
  · refine W.ret ?_
    cases h
    exact leaves (.inr rfl) rfl (.imm _) (cN (cN .nil)) rfl rfl
  · clear h
    rcases tf (decide (x0 ≥ 1)) with g1 | g1
    · rcases tf (decide (x0 ≤ 4294967296)) with g2 | g2
      · rcases tf (decide (x1 ≥ 0)) with g3 | g3
        · refine W.pk ?_
          refine .v rfl rfl (OpL.move (.inl rfl) rfl) ?_
          refine .v rfl rfl (OpL.binI rfl rfl rfl rfl) ?_
          refine .v rfl rfl (OpL.move (.inl rfl) rfl) ?_
          refine .v rfl (met rfl rfl rfl g1) (OpL.move (.inl rfl) rfl) ?_
          refine .v rfl (met rfl rfl rfl g1) (OpL.binI rfl rfl rfl rfl) ?_
          refine .v rfl rfl (O.pickT g1 rfl rfl rfl) ?_
          refine .v rfl rfl (OpL.move (.inl rfl) rfl) ?_
          refine .v rfl (met rfl rfl rfl g2) (OpL.move (.inl rfl) rfl) ?_
          refine .v rfl (met rfl rfl rfl g2) (OpL.binI rfl rfl rfl rfl) ?_
          refine .v rfl rfl (O.pickT g2 rfl rfl rfl) ?_
          refine .v rfl rfl (OpL.move (.inl rfl) rfl) ?_
          refine .v rfl (met rfl rfl rfl g3) (OpL.move (.inl rfl) rfl) ?_
          refine .v rfl (met rfl rfl rfl g3) (OpL.binI rfl rfl rfl rfl) ?_
          refine .v rfl rfl (O.pickT g3 rfl rfl rfl) ?_
          refine .v rfl rfl (OpL.move (.inr rfl) rfl) ?_
          refine .nil ?_
          exact toN (Gives.mkR [] (.c rfl (sbb (by simp only [g1, g2, g3, Bool.true_or, Bool.or_true, Bool.false_or, Bool.or_false, Bool.true_and, Bool.and_true, Bool.false_and, Bool.and_false, Bool.not_true, Bool.not_false, cond_true, cond_false])) rfl .n) .n rfl rfl rfl)
        · refine W.pk ?_
          refine .v rfl rfl (OpL.move (.inl rfl) rfl) ?_
          refine .v rfl rfl (OpL.binI rfl rfl rfl rfl) ?_
          refine .v rfl rfl (OpL.move (.inl rfl) rfl) ?_
          refine .v rfl (met rfl rfl rfl g1) (OpL.move (.inl rfl) rfl) ?_
          refine .v rfl (met rfl rfl rfl g1) (OpL.binI rfl rfl rfl rfl) ?_
          refine .v rfl rfl (O.pickT g1 rfl rfl rfl) ?_
          refine .v rfl rfl (OpL.move (.inl rfl) rfl) ?_
          refine .v rfl (met rfl rfl rfl g2) (OpL.move (.inl rfl) rfl) ?_
          refine .v rfl (met rfl rfl rfl g2) (OpL.binI rfl rfl rfl rfl) ?_
          refine .v rfl rfl (O.pickT g2 rfl rfl rfl) ?_
          refine .v rfl rfl (OpL.move (.inl rfl) rfl) ?_
          refine .x rfl (unmet rfl rfl rfl g3) ?_
          refine .x rfl (unmet rfl rfl rfl g3) ?_
          refine .v rfl rfl (O.pickF g3 rfl rfl rfl) ?_
          refine .v rfl rfl (OpL.move (.inr rfl) rfl) ?_
          refine .nil ?_
          exact toN (Gives.mkR [] (.c rfl (sbb (by simp only [g1, g2, g3, Bool.true_or, Bool.or_true, Bool.false_or, Bool.or_false, Bool.true_and, Bool.and_true, Bool.false_and, Bool.and_false, Bool.not_true, Bool.not_false, cond_true, cond_false])) rfl .n) .n rfl rfl rfl)
      · refine W.pk ?_
        refine .v rfl rfl (OpL.move (.inl rfl) rfl) ?_
        refine .v rfl rfl (OpL.binI rfl rfl rfl rfl) ?_
        refine .v rfl rfl (OpL.move (.inl rfl) rfl) ?_
        refine .v rfl (met rfl rfl rfl g1) (OpL.move (.inl rfl) rfl) ?_
        refine .v rfl (met rfl rfl rfl g1) (OpL.binI rfl rfl rfl rfl) ?_
        refine .v rfl rfl (O.pickT g1 rfl rfl rfl) ?_
        refine .v rfl rfl (OpL.move (.inl rfl) rfl) ?_
        refine .x rfl (unmet rfl rfl rfl g2) ?_
        refine .x rfl (unmet rfl rfl rfl g2) ?_
        refine .v rfl rfl (O.pickF g2 rfl rfl rfl) ?_
        refine .v rfl rfl (OpL.move (.inl rfl) rfl) ?_
        refine .x rfl (unmet rfl rfl rfl rfl) ?_
        refine .x rfl (unmet rfl rfl rfl rfl) ?_
        refine .v rfl rfl (O.pickF rfl rfl rfl rfl) ?_
        refine .v rfl rfl (OpL.move (.inr rfl) rfl) ?_
        refine .nil ?_
        exact toN (Gives.mkR [] (.c rfl (sbb (by simp only [g1, g2, Bool.true_or, Bool.or_true, Bool.false_or, Bool.or_false, Bool.true_and, Bool.and_true, Bool.false_and, Bool.and_false, Bool.not_true, Bool.not_false, cond_true, cond_false])) rfl .n) .n rfl rfl rfl)
    · refine W.pk ?_
      refine .v rfl rfl (OpL.move (.inl rfl) rfl) ?_
      refine .v rfl rfl (OpL.binI rfl rfl rfl rfl) ?_
      refine .v rfl rfl (OpL.move (.inl rfl) rfl) ?_
      refine .x rfl (unmet rfl rfl rfl g1) ?_
      refine .x rfl (unmet rfl rfl rfl g1) ?_
      refine .v rfl rfl (O.pickF g1 rfl rfl rfl) ?_
      refine .v rfl rfl (OpL.move (.inl rfl) rfl) ?_
      refine .x rfl (unmet rfl rfl rfl rfl) ?_
      refine .x rfl (unmet rfl rfl rfl rfl) ?_
      refine .v rfl rfl (O.pickF rfl rfl rfl rfl) ?_
      refine .v rfl rfl (OpL.move (.inl rfl) rfl) ?_
      refine .x rfl (unmet rfl rfl rfl rfl) ?_
      refine .x rfl (unmet rfl rfl rfl rfl) ?_
      refine .v rfl rfl (O.pickF rfl rfl rfl rfl) ?_
      refine .v rfl rfl (OpL.move (.inr rfl) rfl) ?_
      refine .nil ?_
      exact toN (Gives.mkR [] (.c rfl (sbb (by simp only [g1, Bool.true_or, Bool.or_true, Bool.false_or, Bool.or_false, Bool.true_and, Bool.and_true, Bool.false_and, Bool.and_false, Bool.not_true, Bool.not_false, cond_true, cond_false])) rfl .n) .n rfl rfl rfl)

noncomputable def lombardref01_Of.b0  (v6 : Int) (v7 : List Int) : Option ((Int × (List Int)) ⊕ (List Int)) :=
  if (decide (v6 > 0)) = true then
    if (List.length v7 + List.length [(Int.tmod v6 65536)]) * 8 ≤ 140737488355328 then
    some (.inl ((IntKind.wrap .u64 (Int.tdiv v6 65536)), (v7 ++ [(Int.tmod v6 65536)])))
    else none
  else
    some (.inr v7)
noncomputable def lombardref01_Of.r0  (s : Int × (List Int)) : Option ((Int × (List Int)) ⊕ (List Int)) := lombardref01_Of.b0  s.1 s.2
noncomputable def lombardref01_Of.f (x0 : Int) : Option (List Int) :=
  (loop lombardref01_Of.r0 (x0, [])).bind fun o13 =>
  some o13
set_option maxRecDepth 100000 in
set_option maxHeartbeats 4000000 in
theorem lombardref01_Of.ok {x0 : Int} {r : List Int} (h : lombardref01_Of.f x0 = some r) : Pm.Spec prog 65 [.imm (.val (.int .u64 x0))] (.xown 95 1 (List.map (encI .u64) r)) [none] := by
  unfold lombardref01_Of.f at h
  refine Pm.Spec.of_body Try.func65 rfl (by kernel_rfl) (Nat.le_of_ble_eq_true rfl) (Nat.le_of_ble_eq_true rfl) ?_
  refine W.ghost (σ' := (mkSt [(0, some (.imm (.val (.int .u64 x0))))] [] 1000)) (Gives.entry (.c rfl .n) .n) ?_
  refine W.seq ?_
  refine W.pk ?_
  refine .v rfl rfl (OpL.move (.inr rfl) rfl) ?_
  refine .nil ?_
  refine W.seq ?_
  refine W.pk ?_
  refine .v rfl rfl (OpL.move (.inr rfl) rfl) ?_
  refine .nil ?_
  refine W.seq ?_
  refine W.ghost (Gives.mintS 3 95 1 rfl) ?_
  obtain ⟨o13, b14, h⟩ := bnd1 h
  refine W.fork (mkSt [(3, some (.own 1000))] [(1000, some (.rows 95 1 (List.map (encI .u64) o13) false))] 1001) ?_ ?_
  · refine W.seq ?_
    refine W.pk ?_
    refine .v rfl rfl (OpL.move (.inl rfl) rfl) ?_
    refine .v rfl rfl (OpL.move (.inr rfl) rfl) ?_
    refine .nil ?_
    refine W.ret ?_
    cases h
    exact leaves (.inr rfl) rfl (.own _ _ _ _ rfl) (cN .nil) rfl rfl
  · clear h
    refine W.block ?_
    refine W.loopF (fun (s_ : Int × (List Int)) => mkSt [(0, some (.imm (.val (.int .u64 s_.1)))), (3, some (.own 1000))] [(1000, some (.rows 95 1 (List.map (encI .u64) s_.2) false))] 1001) b14 (Gives.mkR [] (.c rfl (.rfl _) rfl (.c rfl (.rfl _) rfl .n)) (.c rfl (.rfl _) rfl rfl .n) rfl rfl rfl) ?_
    rintro ⟨v6, v7⟩ s_ hr
    have h : lombardref01_Of.b0  v6 v7 = some s_ := hr
    unfold lombardref01_Of.b0 at h
    refine W.seq ?_
    refine W.seq ?_
    refine W.pk ?_
    refine .v rfl rfl (OpL.move (.inl rfl) rfl) ?_
    refine .v rfl rfl (OpL.binI rfl rfl rfl rfl) ?_
    refine .nil ?_
    refine W.cond rfl (fun q16 => ?_) (fun q16 => ?_)
    · have h := ifT q16 h
      refine W.skip ?_
      refine W.block ?_
      refine W.seq ?_
      obtain ⟨c17, h⟩ := chk h
      refine W.pk ?_
      refine .v rfl rfl (OpL.move (.inl rfl) rfl) ?_
      refine .v rfl rfl (OpL.move (.inl rfl) rfl) ?_
      refine .v rfl rfl (O.rem rfl rfl rfl (by decide)) ?_
      refine .t rfl rfl (O.lit (enc := (encI .u64)) (l := [(Int.tmod v6 65536)]) sl106 rfl rfl rfl rfl rfl rfl rfl rfl rfl) ?_
      refine .t rfl rfl (O.appO sl106 (EncOk.int .u64) c17 rfl rfl rfl rfl rfl) ?_
      refine .v rfl rfl (OpL.move (.inr rfl) rfl) ?_
      refine .nil ?_
      refine W.pk ?_
      refine .v rfl rfl (OpL.move (.inl rfl) rfl) ?_
      refine .v rfl rfl (O.quo rfl rfl rfl (by decide)) ?_
      refine .v rfl rfl (OpL.move (.inr rfl) rfl) ?_
      refine .nil ?_
      cases h
      exact rdN (Gives.mkR [(1000, 1002)] (.c rfl (.rfl _) rfl (.c rfl (.rfl _) rfl .n)) (.c rfl (.rfl _) rfl rfl .n) rfl rfl rfl)
    · have h := ifF q16 h
      refine W.exit ?_
      cases h
      refine rdX fun e_ => ?_
      subst e_
      refine hit ?_
      exact toN (Gives.mkR [] (.c rfl (.rfl _) rfl .n) (.c rfl (.rfl _) rfl rfl .n) rfl rfl rfl)

noncomputable def lombardref01_size.f (x0 : Int) : Option (List Int) :=
  if (x0 == (-9223372036854775808)) = true then
    (lombardref01_Of.f 9223372036854775808).bind fun t2 =>
    some t2
  else
    if (decide (x0 < 0)) = true then
      (lombardref01_Of.f (IntKind.wrap .u64 (IntKind.wrap .i64 (0 - x0)))).bind fun t5 =>
      some t5
    else
      (lombardref01_Of.f (IntKind.wrap .u64 x0)).bind fun t7 =>
      some t7
set_option maxRecDepth 100000 in
set_option maxHeartbeats 4000000 in
theorem lombardref01_size.ok {x0 : Int} {r : List Int} (h : lombardref01_size.f x0 = some r) : Pm.Spec prog 62 [.imm (.val (.int .i64 x0))] (.xown 95 1 (List.map (encI .u64) r)) [none] := by
  unfold lombardref01_size.f at h
  refine Pm.Spec.of_body Try.func62 rfl (by kernel_rfl) (Nat.le_of_ble_eq_true rfl) (Nat.le_of_ble_eq_true rfl) ?_
  refine W.ghost (σ' := (mkSt [(0, some (.imm (.val (.int .i64 x0))))] [] 1000)) (Gives.entry (.c rfl .n) .n) ?_
  refine W.seq ?_
  refine W.pk ?_
  refine .v rfl rfl (OpL.move (.inr rfl) rfl) ?_
  refine .nil ?_
  refine W.seq ?_
  refine W.seq ?_
  refine W.pk ?_
  refine .v rfl rfl (OpL.move (.inl rfl) rfl) ?_
  refine .v rfl rfl (OpL.binI rfl rfl rfl rfl) ?_
  refine .nil ?_
  refine W.cond rfl (fun q1 => ?_) (fun q1 => ?_)
  · have h := ifT q1 h
    refine W.seq ?_
    obtain ⟨t2, b3, h⟩ := bnd1 h
    refine W.pk ?_
    refine .call (.own 1000) [(1000, some (.rows 95 1 (List.map (encI .u64) t2) false))] 1 (lombardref01_Of.ok b3) rfl rfl rfl ca65 rfl rfl (cC (.imm _) .nil) rfl rfl rfl rfl rfl ?_
    refine .v rfl rfl (OpL.move (.inr rfl) rfl) ?_
    refine .nil ?_
    refine W.ret ?_
    cases h
    exact leaves (.inr rfl) rfl (.own _ _ _ _ rfl) (cN .nil) rfl rfl
  · have h := ifF q1 h
    refine W.skip ?_
    refine W.seq ?_
    refine W.seq ?_
    refine W.pk ?_
    refine .v rfl rfl (OpL.move (.inl rfl) rfl) ?_
    refine .v rfl rfl (OpL.binI rfl rfl rfl rfl) ?_
    refine .nil ?_
    refine W.cond rfl (fun q4 => ?_) (fun q4 => ?_)
    · have h := ifT q4 h
      refine W.seq ?_
      obtain ⟨t5, b6, h⟩ := bnd1 h
      refine W.pk ?_
      refine .v rfl rfl (OpL.move (.inl rfl) rfl) ?_
      refine .v rfl rfl (OpL.binI rfl rfl rfl rfl) ?_
      refine .v rfl rfl (O.conv h3 u95 rfl rfl) ?_
      refine .call (.own 1000) [(1000, some (.rows 95 1 (List.map (encI .u64) t5) false))] 1 (lombardref01_Of.ok b6) rfl rfl rfl ca65 rfl rfl (cC (.imm _) .nil) rfl rfl rfl rfl rfl ?_
      refine .v rfl rfl (OpL.move (.inr rfl) rfl) ?_
      refine .nil ?_
      refine W.ret ?_
      cases h
      exact leaves (.inr rfl) rfl (.own _ _ _ _ rfl) (cN .nil) rfl rfl
    · have h := ifF q4 h
      refine W.skip ?_
      refine W.seq ?_
      obtain ⟨t7, b8, h⟩ := bnd1 h
      refine W.pk ?_
      refine .v rfl rfl (OpL.move (.inl rfl) rfl) ?_
      refine .v rfl rfl (O.conv h3 u95 rfl rfl) ?_
      refine .call (.own 1000) [(1000, some (.rows 95 1 (List.map (encI .u64) t7) false))] 1 (lombardref01_Of.ok b8) rfl rfl rfl ca65 rfl rfl (cC (.imm _) .nil) rfl rfl rfl rfl rfl ?_
      refine .v rfl rfl (OpL.move (.inr rfl) rfl) ?_
      refine .nil ?_
      refine W.ret ?_
      cases h
      exact leaves (.inr rfl) rfl (.own _ _ _ _ rfl) (cN .nil) rfl rfl
end Go.Proofs.Ytdcpdnfalnelkaa
