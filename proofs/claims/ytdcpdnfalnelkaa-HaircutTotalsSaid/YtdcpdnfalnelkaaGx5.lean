/- Shows what functions of the program come to, each as a plain function: written by a program of the author's for this claim. -/
import Derived.Test.YtdcpdnfalnelkaaGx4
namespace Go.Proofs.Ytdcpdnfalnelkaa
open Go Go.Pm
set_option linter.unusedVariables false
set_option linter.unusedSimpArgs false
noncomputable def lombardref13_Worth.f (x0 : Int) (x1 : Int) : Option (Int × Int) :=
  if ((((decide (x0 < 0)) || (decide (x0 > 1125899906842624))) || (decide (x1 < 1))) || (decide (x1 > 4294967296))) = true then
    some (0, 1)
  else
    (lombardref01_MulDiv.f x0 x1 1000000 1).bind fun t5 =>
    some (t5.1, t5.2)
set_option maxRecDepth 100000 in
set_option maxHeartbeats 4000000 in
theorem lombardref13_Worth.ok {x0 : Int} {x1 : Int} {r : Int × Int} (h : lombardref13_Worth.f x0 x1 = some r) : Pm.Spec prog 37 [.imm (.val (.int .i64 x0)), .imm (.val (.int .i64 x1))] (.tup [.imm (.val (.int .i64 r.1)), .imm (.val (.int .i64 r.2))]) [none, none] := by
  unfold lombardref13_Worth.f at h
  refine Pm.Spec.of_body Try.func37 rfl (by kernel_rfl) (Nat.le_of_ble_eq_true rfl) (Nat.le_of_ble_eq_true rfl) ?_
  refine W.ghost (σ' := (mkSt [(0, some (.imm (.val (.int .i64 x0)))), (1, some (.imm (.val (.int .i64 x1))))] [] 1000)) (Gives.entry (.c rfl (.c rfl .n)) .n) ?_
  refine W.seq ?_
  refine W.pk ?_
  refine .v rfl rfl (OpL.move (.inr rfl) rfl) ?_
  refine .v rfl rfl (OpL.move (.inr rfl) rfl) ?_
  refine .nil ?_
  refine W.seq ?_
  refine W.seq ?_
  refine W.fork (mkSt [(0, some (.imm (.val (.int .i64 x0)))), (1, some (.imm (.val (.int .i64 x1)))), (19, some (.imm (.val (.bool ((((decide (x0 < 0)) || (decide (x0 > 1125899906842624))) || (decide (x1 < 1))) || (decide (x1 > 4294967296)))))))] [] 1000) ?_ ?_
  · refine W.cond rfl (fun q4 => ?_) (fun q4 => ?_)
    · have h := ifT q4 h
      refine W.seq ?_
      refine W.pk ?_
      refine .v rfl rfl (OpL.move (.inr rfl) rfl) ?_
      refine .v rfl rfl (OpL.move (.inr rfl) rfl) ?_
      refine .nil ?_
      refine W.ret ?_
      cases h
      exact leaves (.inr rfl) rfl (.tup _ _ _ _ (cC (.imm _) (cC (.imm _) .nil))) (cN (cN .nil)) rfl rfl
    · have h := ifF q4 h
      refine W.skip ?_
      refine W.seq ?_
      obtain ⟨t5, b6, h⟩ := bnd1 h
      refine W.pk ?_
      refine .v rfl rfl (OpL.move (.inl rfl) rfl) ?_
      refine .v rfl rfl (OpL.move (.inl rfl) rfl) ?_
      refine .call (.tup [.imm (.val (.int .i64 t5.1)), .imm (.val (.int .i64 t5.2))]) [] 0 (lombardref01_MulDiv.ok b6) rfl rfl rfl ca38 rfl rfl (cC (.imm _) (cC (.imm _) (cC (.imm _) (cC (.imm _) .nil)))) rfl rfl rfl rfl rfl ?_
      refine .v rfl rfl (OpL.extract rfl rfl rfl) ?_
      refine .v rfl rfl (OpL.extract rfl rfl rfl) ?_
      refine .v rfl rfl (OpL.move (.inr rfl) rfl) ?_
      refine .v rfl rfl (OpL.move (.inr rfl) rfl) ?_
      refine .nil ?_
      refine W.ret ?_
      cases h
      exact leaves (.inr rfl) rfl (.tup _ _ _ _ (cC (.imm _) (cC (.imm _) .nil))) (cN (cN .nil)) rfl rfl
  · clear h
    rcases tf (decide (x0 < 0)) with g1 | g1
    · refine W.pk ?_
      refine .v rfl rfl (OpL.move (.inl rfl) rfl) ?_
      refine .v rfl rfl (OpL.binI rfl rfl rfl rfl) ?_
      refine .v rfl rfl (OpL.move (.inl rfl) rfl) ?_
      refine .x rfl (unmet rfl rfl rfl g1) ?_
      refine .x rfl (unmet rfl rfl rfl g1) ?_
      refine .v rfl rfl (O.pickT g1 rfl rfl rfl) ?_
      refine .v rfl rfl (OpL.move (.inl rfl) rfl) ?_
      refine .x rfl (unmet rfl rfl rfl rfl) ?_
      refine .x rfl (unmet rfl rfl rfl rfl) ?_
      refine .v rfl rfl (O.pickT rfl rfl rfl rfl) ?_
      refine .v rfl rfl (OpL.move (.inl rfl) rfl) ?_
      refine .x rfl (unmet rfl rfl rfl rfl) ?_
      refine .x rfl (unmet rfl rfl rfl rfl) ?_
      refine .v rfl rfl (O.pickT rfl rfl rfl rfl) ?_
      refine .nil ?_
      exact toN (Gives.mkR [] (.c rfl (.rfl _) rfl (.c rfl (.rfl _) rfl (.c rfl (sbb (by simp only [g1, Bool.true_or, Bool.or_true, Bool.false_or, Bool.or_false, Bool.true_and, Bool.and_true, Bool.false_and, Bool.and_false, Bool.not_true, Bool.not_false, cond_true, cond_false])) rfl .n))) .n rfl rfl rfl)
    · rcases tf (decide (x0 > 1125899906842624)) with g2 | g2
      · refine W.pk ?_
        refine .v rfl rfl (OpL.move (.inl rfl) rfl) ?_
        refine .v rfl rfl (OpL.binI rfl rfl rfl rfl) ?_
        refine .v rfl rfl (OpL.move (.inl rfl) rfl) ?_
        refine .v rfl (met rfl rfl rfl g1) (OpL.move (.inl rfl) rfl) ?_
        refine .v rfl (met rfl rfl rfl g1) (OpL.binI rfl rfl rfl rfl) ?_
        refine .v rfl rfl (O.pickF g1 rfl rfl rfl) ?_
        refine .v rfl rfl (OpL.move (.inl rfl) rfl) ?_
        refine .x rfl (unmet rfl rfl rfl g2) ?_
        refine .x rfl (unmet rfl rfl rfl g2) ?_
        refine .v rfl rfl (O.pickT g2 rfl rfl rfl) ?_
        refine .v rfl rfl (OpL.move (.inl rfl) rfl) ?_
        refine .x rfl (unmet rfl rfl rfl rfl) ?_
        refine .x rfl (unmet rfl rfl rfl rfl) ?_
        refine .v rfl rfl (O.pickT rfl rfl rfl rfl) ?_
        refine .nil ?_
        exact toN (Gives.mkR [] (.c rfl (.rfl _) rfl (.c rfl (.rfl _) rfl (.c rfl (sbb (by simp only [g1, g2, Bool.true_or, Bool.or_true, Bool.false_or, Bool.or_false, Bool.true_and, Bool.and_true, Bool.false_and, Bool.and_false, Bool.not_true, Bool.not_false, cond_true, cond_false])) rfl .n))) .n rfl rfl rfl)
      · rcases tf (decide (x1 < 1)) with g3 | g3
        · refine W.pk ?_
          refine .v rfl rfl (OpL.move (.inl rfl) rfl) ?_
          refine .v rfl rfl (OpL.binI rfl rfl rfl rfl) ?_
          refine .v rfl rfl (OpL.move (.inl rfl) rfl) ?_
          refine .v rfl (met rfl rfl rfl g1) (OpL.move (.inl rfl) rfl) ?_
          refine .v rfl (met rfl rfl rfl g1) (OpL.binI rfl rfl rfl rfl) ?_
          refine .v rfl rfl (O.pickF g1 rfl rfl rfl) ?_
          refine .v rfl rfl (OpL.move (.inl rfl) rfl) ?_
          refine .v rfl (met rfl rfl rfl g2) (OpL.move (.inl rfl) rfl) ?_
          refine .v rfl (met rfl rfl rfl g2) (OpL.binI rfl rfl rfl rfl) ?_
          refine .v rfl rfl (O.pickF g2 rfl rfl rfl) ?_
          refine .v rfl rfl (OpL.move (.inl rfl) rfl) ?_
          refine .x rfl (unmet rfl rfl rfl g3) ?_
          refine .x rfl (unmet rfl rfl rfl g3) ?_
          refine .v rfl rfl (O.pickT g3 rfl rfl rfl) ?_
          refine .nil ?_
          exact toN (Gives.mkR [] (.c rfl (.rfl _) rfl (.c rfl (.rfl _) rfl (.c rfl (sbb (by simp only [g1, g2, g3, Bool.true_or, Bool.or_true, Bool.false_or, Bool.or_false, Bool.true_and, Bool.and_true, Bool.false_and, Bool.and_false, Bool.not_true, Bool.not_false, cond_true, cond_false])) rfl .n))) .n rfl rfl rfl)
        · refine W.pk ?_
          refine .v rfl rfl (OpL.move (.inl rfl) rfl) ?_
          refine .v rfl rfl (OpL.binI rfl rfl rfl rfl) ?_
          refine .v rfl rfl (OpL.move (.inl rfl) rfl) ?_
          refine .v rfl (met rfl rfl rfl g1) (OpL.move (.inl rfl) rfl) ?_
          refine .v rfl (met rfl rfl rfl g1) (OpL.binI rfl rfl rfl rfl) ?_
          refine .v rfl rfl (O.pickF g1 rfl rfl rfl) ?_
          refine .v rfl rfl (OpL.move (.inl rfl) rfl) ?_
          refine .v rfl (met rfl rfl rfl g2) (OpL.move (.inl rfl) rfl) ?_
          refine .v rfl (met rfl rfl rfl g2) (OpL.binI rfl rfl rfl rfl) ?_
          refine .v rfl rfl (O.pickF g2 rfl rfl rfl) ?_
          refine .v rfl rfl (OpL.move (.inl rfl) rfl) ?_
          refine .v rfl (met rfl rfl rfl g3) (OpL.move (.inl rfl) rfl) ?_
          refine .v rfl (met rfl rfl rfl g3) (OpL.binI rfl rfl rfl rfl) ?_
          refine .v rfl rfl (O.pickF g3 rfl rfl rfl) ?_
          refine .nil ?_
          exact toN (Gives.mkR [] (.c rfl (.rfl _) rfl (.c rfl (.rfl _) rfl (.c rfl (sbb (by simp only [g1, g2, g3, Bool.true_or, Bool.or_true, Bool.false_or, Bool.or_false, Bool.true_and, Bool.and_true, Bool.false_and, Bool.and_false, Bool.not_true, Bool.not_false, cond_true, cond_false])) rfl .n))) .n rfl rfl rfl)

noncomputable def lombardref15_Cover.f (x0 : Int) (x1 : Int) (x2 : Int) : Option (Int × Int) :=
  (lombardref15_good.f x1 x2).bind fun t1 =>
  if (!t1) = true then
    some (0, 1)
  else
    (lombardref13_Worth.f x0 x1).bind fun t4 =>
    if (t4.2 != 0) = true then
      some (0, t4.2)
    else
      (lombardref01_MulDiv.f t4.1 (IntKind.wrap .i64 (1000000 - x2)) 1000000 1).bind fun t7 =>
      some (t7.1, t7.2)
set_option maxRecDepth 100000 in
set_option maxHeartbeats 4000000 in
theorem lombardref15_Cover.ok {x0 : Int} {x1 : Int} {x2 : Int} {r : Int × Int} (h : lombardref15_Cover.f x0 x1 x2 = some r) : Pm.Spec prog 11 [.imm (.val (.int .i64 x0)), .imm (.val (.int .i64 x1)), .imm (.val (.int .i64 x2))] (.tup [.imm (.val (.int .i64 r.1)), .imm (.val (.int .i64 r.2))]) [none, none, none] := by
  unfold lombardref15_Cover.f at h
  refine Pm.Spec.of_body Try.func11 rfl (by kernel_rfl) (Nat.le_of_ble_eq_true rfl) (Nat.le_of_ble_eq_true rfl) ?_
  refine W.ghost (σ' := (mkSt [(0, some (.imm (.val (.int .i64 x0)))), (1, some (.imm (.val (.int .i64 x1)))), (2, some (.imm (.val (.int .i64 x2))))] [] 1000)) (Gives.entry (.c rfl (.c rfl (.c rfl .n))) .n) ?_
  refine W.seq ?_
  refine W.pk ?_
  refine .v rfl rfl (OpL.move (.inr rfl) rfl) ?_
  refine .v rfl rfl (OpL.move (.inr rfl) rfl) ?_
  refine .nil ?_
  refine W.seq ?_
  refine W.seq ?_
  obtain ⟨t1, b2, h⟩ := bnd1 h
  refine W.pk ?_
  refine .v rfl rfl (OpL.move (.inl rfl) rfl) ?_
  refine .v rfl rfl (OpL.move (.inl rfl) rfl) ?_
  refine .call (.imm (.val (.bool t1))) [] 0 (lombardref15_good.ok b2) rfl rfl rfl ca36 rfl rfl (cC (.imm _) (cC (.imm _) .nil)) rfl rfl rfl rfl rfl ?_
  refine .v rfl rfl (OpL.unV rfl rfl rfl) ?_
  refine .nil ?_
  refine W.cond rfl (fun q3 => ?_) (fun q3 => ?_)
  · have h := ifT q3 h
    refine W.seq ?_
    refine W.pk ?_
    refine .v rfl rfl (OpL.move (.inr rfl) rfl) ?_
    refine .v rfl rfl (OpL.move (.inr rfl) rfl) ?_
    refine .nil ?_
    refine W.ret ?_
    cases h
    exact leaves (.inr rfl) rfl (.tup _ _ _ _ (cC (.imm _) (cC (.imm _) .nil))) (cN (cN (cN .nil))) rfl rfl
  · have h := ifF q3 h
    refine W.skip ?_
    refine W.seq ?_
    obtain ⟨t4, b5, h⟩ := bnd1 h
    refine W.pk ?_
    refine .v rfl rfl (OpL.move (.inl rfl) rfl) ?_
    refine .v rfl rfl (OpL.move (.inl rfl) rfl) ?_
    refine .call (.tup [.imm (.val (.int .i64 t4.1)), .imm (.val (.int .i64 t4.2))]) [] 0 (lombardref13_Worth.ok b5) rfl rfl rfl ca37 rfl rfl (cC (.imm _) (cC (.imm _) .nil)) rfl rfl rfl rfl rfl ?_
    refine .v rfl rfl (OpL.move (.inl rfl) rfl) ?_
    refine .v rfl rfl (OpL.extract rfl rfl rfl) ?_
    refine .v rfl rfl (OpL.extract rfl rfl rfl) ?_
    refine .v rfl rfl (OpL.move (.inr rfl) rfl) ?_
    refine .v rfl rfl (OpL.move (.inr rfl) rfl) ?_
    refine .nil ?_
    refine W.seq ?_
    refine W.seq ?_
    refine W.pk ?_
    refine .v rfl rfl (OpL.move (.inl rfl) rfl) ?_
    refine .v rfl rfl (OpL.binI rfl rfl rfl rfl) ?_
    refine .nil ?_
    refine W.cond rfl (fun q6 => ?_) (fun q6 => ?_)
    · have h := ifT q6 h
      refine W.seq ?_
      refine W.pk ?_
      refine .v rfl rfl (OpL.move (.inl rfl) rfl) ?_
      refine .v rfl rfl (OpL.move (.inr rfl) rfl) ?_
      refine .v rfl rfl (OpL.move (.inr rfl) rfl) ?_
      refine .nil ?_
      refine W.ret ?_
      cases h
      exact leaves (.inr rfl) rfl (.tup _ _ _ _ (cC (.imm _) (cC (.imm _) .nil))) (cN (cN (cN .nil))) rfl rfl
    · have h := ifF q6 h
      refine W.skip ?_
      refine W.seq ?_
      obtain ⟨t7, b8, h⟩ := bnd1 h
      refine W.pk ?_
      refine .v rfl rfl (OpL.move (.inl rfl) rfl) ?_
      refine .v rfl rfl (OpL.move (.inl rfl) rfl) ?_
      refine .v rfl rfl (OpL.binI rfl rfl rfl rfl) ?_
      refine .call (.tup [.imm (.val (.int .i64 t7.1)), .imm (.val (.int .i64 t7.2))]) [] 0 (lombardref01_MulDiv.ok b8) rfl rfl rfl ca38 rfl rfl (cC (.imm _) (cC (.imm _) (cC (.imm _) (cC (.imm _) .nil)))) rfl rfl rfl rfl rfl ?_
      refine .v rfl rfl (OpL.extract rfl rfl rfl) ?_
      refine .v rfl rfl (OpL.extract rfl rfl rfl) ?_
      refine .v rfl rfl (OpL.move (.inr rfl) rfl) ?_
      refine .v rfl rfl (OpL.move (.inr rfl) rfl) ?_
      refine .nil ?_
      refine W.ret ?_
      cases h
      exact leaves (.inr rfl) rfl (.tup _ _ _ _ (cC (.imm _) (cC (.imm _) .nil))) (cN (cN (cN .nil))) rfl rfl

noncomputable def lombardref15_Least.f (x0 : Int) (x1 : Int) (x2 : Int) : Option (Int × Bool) :=
  (lombardref15_good.f x1 x2).bind fun t1 =>
  if ((!t1) || (decide (x0 < 0))) = true then
    some (0, false)
  else
    (lombardref01_MulDiv.f x0 1000000 (IntKind.wrap .i64 (1000000 - x2)) 2).bind fun t5 =>
    if (t5.2 != 0) = true then
      some (0, false)
    else
      (lombardref01_MulDiv.f t5.1 1000000 x1 2).bind fun t8 =>
      if ((t8.2 != 0) || (decide (t8.1 > 1125899906842624))) = true then
        some (0, false)
      else
        some (t8.1, true)
set_option maxRecDepth 100000 in
set_option maxHeartbeats 4000000 in
theorem lombardref15_Least.ok {x0 : Int} {x1 : Int} {x2 : Int} {r : Int × Bool} (h : lombardref15_Least.f x0 x1 x2 = some r) : Pm.Spec prog 13 [.imm (.val (.int .i64 x0)), .imm (.val (.int .i64 x1)), .imm (.val (.int .i64 x2))] (.tup [.imm (.val (.int .i64 r.1)), .imm (.val (.bool r.2))]) [none, none, none] := by
  unfold lombardref15_Least.f at h
  refine Pm.Spec.of_body Try.func13 rfl (by kernel_rfl) (Nat.le_of_ble_eq_true rfl) (Nat.le_of_ble_eq_true rfl) ?_
  refine W.ghost (σ' := (mkSt [(0, some (.imm (.val (.int .i64 x0)))), (1, some (.imm (.val (.int .i64 x1)))), (2, some (.imm (.val (.int .i64 x2))))] [] 1000)) (Gives.entry (.c rfl (.c rfl (.c rfl .n))) .n) ?_
  refine W.seq ?_
  refine W.pk ?_
  refine .v rfl rfl (OpL.move (.inr rfl) rfl) ?_
  refine .v rfl rfl (OpL.move (.inr rfl) rfl) ?_
  refine .nil ?_
  refine W.seq ?_
  refine W.seq ?_
  obtain ⟨t1, b2, h⟩ := bnd1 h
  refine W.fork (mkSt [(0, some (.imm (.val (.int .i64 x0)))), (1, some (.imm (.val (.int .i64 x1)))), (2, some (.imm (.val (.int .i64 x2)))), (18, some (.imm (.val (.bool ((!t1) || (decide (x0 < 0)))))))] [] 1000) ?_ ?_
  · refine W.cond rfl (fun q4 => ?_) (fun q4 => ?_)
    · have h := ifT q4 h
      refine W.seq ?_
      refine W.pk ?_
      refine .v rfl rfl (OpL.move (.inr rfl) rfl) ?_
      refine .v rfl rfl (OpL.move (.inr rfl) rfl) ?_
      refine .nil ?_
      refine W.ret ?_
      cases h
      exact leaves (.inr rfl) rfl (.tup _ _ _ _ (cC (.imm _) (cC (.imm _) .nil))) (cN (cN (cN .nil))) rfl rfl
    · have h := ifF q4 h
      refine W.skip ?_
      refine W.seq ?_
      obtain ⟨t5, b6, h⟩ := bnd1 h
      refine W.pk ?_
      refine .v rfl rfl (OpL.move (.inl rfl) rfl) ?_
      refine .v rfl rfl (OpL.move (.inl rfl) rfl) ?_
      refine .v rfl rfl (OpL.binI rfl rfl rfl rfl) ?_
      refine .call (.tup [.imm (.val (.int .i64 t5.1)), .imm (.val (.int .i64 t5.2))]) [] 0 (lombardref01_MulDiv.ok b6) rfl rfl rfl ca38 rfl rfl (cC (.imm _) (cC (.imm _) (cC (.imm _) (cC (.imm _) .nil)))) rfl rfl rfl rfl rfl ?_
      refine .v rfl rfl (OpL.move (.inl rfl) rfl) ?_
      refine .v rfl rfl (OpL.extract rfl rfl rfl) ?_
      refine .v rfl rfl (OpL.extract rfl rfl rfl) ?_
      refine .v rfl rfl (OpL.move (.inr rfl) rfl) ?_
      refine .v rfl rfl (OpL.move (.inr rfl) rfl) ?_
      refine .nil ?_
      refine W.seq ?_
      refine W.seq ?_
      refine W.pk ?_
      refine .v rfl rfl (OpL.move (.inl rfl) rfl) ?_
      refine .v rfl rfl (OpL.binI rfl rfl rfl rfl) ?_
      refine .nil ?_
      refine W.cond rfl (fun q7 => ?_) (fun q7 => ?_)
      · have h := ifT q7 h
        refine W.seq ?_
        refine W.pk ?_
        refine .v rfl rfl (OpL.move (.inr rfl) rfl) ?_
        refine .v rfl rfl (OpL.move (.inr rfl) rfl) ?_
        refine .nil ?_
        refine W.ret ?_
        cases h
        exact leaves (.inr rfl) rfl (.tup _ _ _ _ (cC (.imm _) (cC (.imm _) .nil))) (cN (cN (cN .nil))) rfl rfl
      · have h := ifF q7 h
        refine W.skip ?_
        refine W.seq ?_
        obtain ⟨t8, b9, h⟩ := bnd1 h
        refine W.pk ?_
        refine .v rfl rfl (OpL.move (.inl rfl) rfl) ?_
        refine .v rfl rfl (OpL.move (.inl rfl) rfl) ?_
        refine .call (.tup [.imm (.val (.int .i64 t8.1)), .imm (.val (.int .i64 t8.2))]) [] 0 (lombardref01_MulDiv.ok b9) rfl rfl rfl ca38 rfl rfl (cC (.imm _) (cC (.imm _) (cC (.imm _) (cC (.imm _) .nil)))) rfl rfl rfl rfl rfl ?_
        refine .v rfl rfl (OpL.move (.inl rfl) rfl) ?_
        refine .v rfl rfl (OpL.extract rfl rfl rfl) ?_
        refine .v rfl rfl (OpL.extract rfl rfl rfl) ?_
        refine .v rfl rfl (OpL.move (.inr rfl) rfl) ?_
        refine .v rfl rfl (OpL.move (.inr rfl) rfl) ?_
        refine .nil ?_
        refine W.seq ?_
        refine W.seq ?_
        refine W.fork (mkSt [(10, some (.imm (.val (.int .i64 t8.1)))), (39, some (.imm (.val (.bool ((t8.2 != 0) || (decide (t8.1 > 1125899906842624)))))))] [] 1000) ?_ ?_
        · refine W.cond rfl (fun q11 => ?_) (fun q11 => ?_)
          · have h := ifT q11 h
            refine W.seq ?_
            refine W.pk ?_
            refine .v rfl rfl (OpL.move (.inr rfl) rfl) ?_
            refine .v rfl rfl (OpL.move (.inr rfl) rfl) ?_
            refine .nil ?_
            refine W.ret ?_
            cases h
            exact leaves (.inr rfl) rfl (.tup _ _ _ _ (cC (.imm _) (cC (.imm _) .nil))) (cN (cN (cN .nil))) rfl rfl
          · have h := ifF q11 h
            refine W.skip ?_
            refine W.seq ?_
            refine W.pk ?_
            refine .v rfl rfl (OpL.move (.inl rfl) rfl) ?_
            refine .v rfl rfl (OpL.move (.inr rfl) rfl) ?_
            refine .v rfl rfl (OpL.move (.inr rfl) rfl) ?_
            refine .nil ?_
            refine W.ret ?_
            cases h
            exact leaves (.inr rfl) rfl (.tup _ _ _ _ (cC (.imm _) (cC (.imm _) .nil))) (cN (cN (cN .nil))) rfl rfl
        · clear h
          rcases tf (t8.2 != 0) with g10 | g10
          · refine W.pk ?_
            refine .v rfl rfl (OpL.move (.inl rfl) rfl) ?_
            refine .v rfl rfl (OpL.binI rfl rfl rfl rfl) ?_
            refine .v rfl rfl (OpL.move (.inl rfl) rfl) ?_
            refine .x rfl (unmet rfl rfl rfl g10) ?_
            refine .x rfl (unmet rfl rfl rfl g10) ?_
            refine .v rfl rfl (O.pickT g10 rfl rfl rfl) ?_
            refine .nil ?_
            exact toN (Gives.mkR [] (.c rfl (.rfl _) rfl (.c rfl (sbb (by simp only [g10, Bool.true_or, Bool.or_true, Bool.false_or, Bool.or_false, Bool.true_and, Bool.and_true, Bool.false_and, Bool.and_false, Bool.not_true, Bool.not_false, cond_true, cond_false])) rfl .n)) .n rfl rfl rfl)
          · refine W.pk ?_
            refine .v rfl rfl (OpL.move (.inl rfl) rfl) ?_
            refine .v rfl rfl (OpL.binI rfl rfl rfl rfl) ?_
            refine .v rfl rfl (OpL.move (.inl rfl) rfl) ?_
            refine .v rfl (met rfl rfl rfl g10) (OpL.move (.inl rfl) rfl) ?_
            refine .v rfl (met rfl rfl rfl g10) (OpL.binI rfl rfl rfl rfl) ?_
            refine .v rfl rfl (O.pickF g10 rfl rfl rfl) ?_
            refine .nil ?_
            exact toN (Gives.mkR [] (.c rfl (.rfl _) rfl (.c rfl (sbb (by simp only [g10, Bool.true_or, Bool.or_true, Bool.false_or, Bool.or_false, Bool.true_and, Bool.and_true, Bool.false_and, Bool.and_false, Bool.not_true, Bool.not_false, cond_true, cond_false])) rfl .n)) .n rfl rfl rfl)
  · clear h
    rcases tf t1 with g3 | g3
    · refine W.pk ?_
      refine .v rfl rfl (OpL.move (.inl rfl) rfl) ?_
      refine .v rfl rfl (OpL.move (.inl rfl) rfl) ?_
      refine .call (.imm (.val (.bool t1))) [] 0 (lombardref15_good.ok b2) rfl rfl rfl ca36 rfl rfl (cC (.imm _) (cC (.imm _) .nil)) rfl rfl rfl rfl rfl ?_
      refine .v rfl rfl (OpL.unV rfl rfl rfl) ?_
      refine .v rfl rfl (OpL.move (.inl rfl) rfl) ?_
      refine .v rfl (met rfl rfl rfl (notT g3)) (OpL.move (.inl rfl) rfl) ?_
      refine .v rfl (met rfl rfl rfl (notT g3)) (OpL.binI rfl rfl rfl rfl) ?_
      refine .v rfl rfl (O.pickF (notT g3) rfl rfl rfl) ?_
      refine .nil ?_
      exact toN (Gives.mkR [] (.c rfl (.rfl _) rfl (.c rfl (.rfl _) rfl (.c rfl (.rfl _) rfl (.c rfl (sbb (by simp only [g3, Bool.true_or, Bool.or_true, Bool.false_or, Bool.or_false, Bool.true_and, Bool.and_true, Bool.false_and, Bool.and_false, Bool.not_true, Bool.not_false, cond_true, cond_false])) rfl .n)))) .n rfl rfl rfl)
    · refine W.pk ?_
      refine .v rfl rfl (OpL.move (.inl rfl) rfl) ?_
      refine .v rfl rfl (OpL.move (.inl rfl) rfl) ?_
      refine .call (.imm (.val (.bool t1))) [] 0 (lombardref15_good.ok b2) rfl rfl rfl ca36 rfl rfl (cC (.imm _) (cC (.imm _) .nil)) rfl rfl rfl rfl rfl ?_
      refine .v rfl rfl (OpL.unV rfl rfl rfl) ?_
      refine .v rfl rfl (OpL.move (.inl rfl) rfl) ?_
      refine .x rfl (unmet rfl rfl rfl (notF g3)) ?_
      refine .x rfl (unmet rfl rfl rfl (notF g3)) ?_
      refine .v rfl rfl (O.pickT (notF g3) rfl rfl rfl) ?_
      refine .nil ?_
      exact toN (Gives.mkR [] (.c rfl (.rfl _) rfl (.c rfl (.rfl _) rfl (.c rfl (.rfl _) rfl (.c rfl (sbb (by simp only [g3, Bool.true_or, Bool.or_true, Bool.false_or, Bool.or_false, Bool.true_and, Bool.and_true, Bool.false_and, Bool.and_false, Bool.not_true, Bool.not_false, cond_true, cond_false])) rfl .n)))) .n rfl rfl rfl)

noncomputable def haircut_Most.b0 (x0 : Int) (x1 : Int) (x2 : Int) (v11 : Int) (v12 : Int) : Option ((Int × Int) ⊕ Int) :=
  if (decide (v11 < v12)) = true then
    (haircut_Cover.f (IntKind.wrap .i64 (Int.tdiv (IntKind.wrap .i64 ((IntKind.wrap .i64 (v11 + v12)) + 1)) 2)) x1 x2).bind fun t26 =>
    if (decide (t26.1 ≤ x0)) = true then
      some (.inl ((IntKind.wrap .i64 (Int.tdiv (IntKind.wrap .i64 ((IntKind.wrap .i64 (v11 + v12)) + 1)) 2)), v12))
    else
      some (.inl (v11, (IntKind.wrap .i64 ((IntKind.wrap .i64 (Int.tdiv (IntKind.wrap .i64 ((IntKind.wrap .i64 (v11 + v12)) + 1)) 2)) - 1))))
  else
    some (.inr v11)
noncomputable def haircut_Most.r0 (x0 : Int) (x1 : Int) (x2 : Int) (s : Int × Int) : Option ((Int × Int) ⊕ Int) := haircut_Most.b0 x0 x1 x2 s.1 s.2
noncomputable def haircut_Most.f (x0 : Int) (x1 : Int) (x2 : Int) (x3 : Int) : Option (Int) :=
  (haircut_good.f x1 x2).bind fun t1 =>
  if ((((!t1) || (decide (x0 < 0))) || (decide (x3 < 0))) || (decide (x3 > 1125899906842624))) = true then
    some (-1)
  else
    (loop (haircut_Most.r0 x0 x1 x2) (0, x3)).bind fun o22 =>
    some o22
set_option maxRecDepth 100000 in
set_option maxHeartbeats 4000000 in
theorem haircut_Most.ok {x0 : Int} {x1 : Int} {x2 : Int} {x3 : Int} {r : Int} (h : haircut_Most.f x0 x1 x2 x3 = some r) : Pm.Spec prog 14 [.imm (.val (.int .i64 x0)), .imm (.val (.int .i64 x1)), .imm (.val (.int .i64 x2)), .imm (.val (.int .i64 x3))] (.imm (.val (.int .i64 r))) [none, none, none, none] := by
  unfold haircut_Most.f at h
  refine Pm.Spec.of_body Try.func14 rfl (by kernel_rfl) (Nat.le_of_ble_eq_true rfl) (Nat.le_of_ble_eq_true rfl) ?_
  refine W.ghost (σ' := (mkSt [(0, some (.imm (.val (.int .i64 x0)))), (1, some (.imm (.val (.int .i64 x1)))), (2, some (.imm (.val (.int .i64 x2)))), (3, some (.imm (.val (.int .i64 x3))))] [] 1000)) (Gives.entry (.c rfl (.c rfl (.c rfl (.c rfl .n)))) .n) ?_
  refine W.seq ?_
  refine W.pk ?_
  refine .v rfl rfl (OpL.move (.inr rfl) rfl) ?_
  refine .nil ?_
  refine W.seq ?_
  refine W.seq ?_
  obtain ⟨t1, b2, h⟩ := bnd1 h
  refine W.fork (mkSt [(0, some (.imm (.val (.int .i64 x0)))), (1, some (.imm (.val (.int .i64 x1)))), (2, some (.imm (.val (.int .i64 x2)))), (3, some (.imm (.val (.int .i64 x3)))), (29, some (.imm (.val (.bool ((((!t1) || (decide (x0 < 0))) || (decide (x3 < 0))) || (decide (x3 > 1125899906842624)))))))] [] 1000) ?_ ?_
  · refine W.cond rfl (fun q6 => ?_) (fun q6 => ?_)
    · have h := ifT q6 h
      refine W.seq ?_
      refine W.pk ?_
      refine .v rfl rfl (OpL.move (.inr rfl) rfl) ?_
      refine .nil ?_
      refine W.ret ?_
      cases h
      exact leaves (.inr rfl) rfl (.imm _) (cN (cN (cN (cN .nil)))) rfl rfl
    · have h := ifF q6 h
      refine W.skip ?_
      refine W.seq ?_
      refine W.pk ?_
      refine .v rfl rfl (OpL.move (.inl rfl) rfl) ?_
      refine .v rfl rfl (OpL.move (.inr rfl) rfl) ?_
      refine .v rfl rfl (OpL.move (.inr rfl) rfl) ?_
      refine .nil ?_
      refine W.seq ?_
      obtain ⟨o22, b23, h⟩ := bnd1 h
      refine W.fork (mkSt [(9, some (.imm (.val (.int .i64 o22))))] [] 1000) ?_ ?_
      · refine W.seq ?_
        refine W.pk ?_
        refine .v rfl rfl (OpL.move (.inl rfl) rfl) ?_
        refine .v rfl rfl (OpL.move (.inr rfl) rfl) ?_
        refine .nil ?_
        refine W.ret ?_
        cases h
        exact leaves (.inr rfl) rfl (.imm _) (cN (cN (cN (cN .nil)))) rfl rfl
      · clear h
        refine W.block ?_
        refine W.loopF (fun (s_ : Int × Int) => mkSt [(0, some (.imm (.val (.int .i64 x0)))), (1, some (.imm (.val (.int .i64 x1)))), (2, some (.imm (.val (.int .i64 x2)))), (9, some (.imm (.val (.int .i64 s_.1)))), (10, some (.imm (.val (.int .i64 s_.2))))] [] 1000) b23 (Gives.mkR [] (.c rfl (.rfl _) rfl (.c rfl (.rfl _) rfl (.c rfl (.rfl _) rfl (.c rfl (.rfl _) rfl (.c rfl (.rfl _) rfl .n))))) .n rfl rfl rfl) ?_
        rintro ⟨v11, v12⟩ s_ hr
        have h : haircut_Most.b0 x0 x1 x2 v11 v12 = some s_ := hr
        unfold haircut_Most.b0 at h
        refine W.seq ?_
        refine W.seq ?_
        refine W.pk ?_
        refine .v rfl rfl (OpL.move (.inl rfl) rfl) ?_
        refine .v rfl rfl (OpL.move (.inl rfl) rfl) ?_
        refine .v rfl rfl (OpL.binI rfl rfl rfl rfl) ?_
        refine .nil ?_
        refine W.cond rfl (fun q25 => ?_) (fun q25 => ?_)
        · have h := ifT q25 h
          refine W.skip ?_
          refine W.block ?_
          refine W.seq ?_
          refine W.pk ?_
          refine .v rfl rfl (OpL.move (.inl rfl) rfl) ?_
          refine .v rfl rfl (OpL.move (.inl rfl) rfl) ?_
          refine .v rfl rfl (OpL.binI rfl rfl rfl rfl) ?_
          refine .v rfl rfl (OpL.binI rfl rfl rfl rfl) ?_
          refine .v rfl rfl (O.quo rfl rfl rfl (by decide)) ?_
          refine .v rfl rfl (OpL.move (.inr rfl) rfl) ?_
          refine .nil ?_
          refine W.seq ?_
          obtain ⟨t26, b27, h⟩ := bnd1 h
          refine W.pk ?_
          refine .v rfl rfl (OpL.move (.inl rfl) rfl) ?_
          refine .v rfl rfl (OpL.move (.inl rfl) rfl) ?_
          refine .v rfl rfl (OpL.move (.inl rfl) rfl) ?_
          refine .call (.tup [.imm (.val (.int .i64 t26.1)), .imm (.val (.int .i64 t26.2))]) [] 0 (haircut_Cover.ok b27) rfl rfl rfl ca10 rfl rfl (cC (.imm _) (cC (.imm _) (cC (.imm _) .nil))) rfl rfl rfl rfl rfl ?_
          refine .v rfl rfl (OpL.move (.inl rfl) rfl) ?_
          refine .v rfl rfl (OpL.extract rfl rfl rfl) ?_
          refine .v rfl rfl (OpL.extract rfl rfl rfl) ?_
          refine .v rfl rfl (OpL.move (.inr rfl) rfl) ?_
          refine .v rfl rfl (OpL.move (.inr rfl) rfl) ?_
          refine .nil ?_
          refine W.seq ?_
          refine W.pk ?_
          refine .v rfl rfl (OpL.move (.inl rfl) rfl) ?_
          refine .v rfl rfl (OpL.move (.inl rfl) rfl) ?_
          refine .v rfl rfl (OpL.binI rfl rfl rfl rfl) ?_
          refine .nil ?_
          refine W.cond rfl (fun q28 => ?_) (fun q28 => ?_)
          · have h := ifT q28 h
            refine W.pk ?_
            refine .v rfl rfl (OpL.move (.inl rfl) rfl) ?_
            refine .v rfl rfl (OpL.move (.inr rfl) rfl) ?_
            refine .nil ?_
            cases h
            exact rdN (Gives.mkR [] (.c rfl (.rfl _) rfl (.c rfl (.rfl _) rfl (.c rfl (.rfl _) rfl (.c rfl (.rfl _) rfl (.c rfl (.rfl _) rfl .n))))) .n rfl rfl rfl)
          · have h := ifF q28 h
            refine W.pk ?_
            refine .v rfl rfl (OpL.move (.inl rfl) rfl) ?_
            refine .v rfl rfl (OpL.binI rfl rfl rfl rfl) ?_
            refine .v rfl rfl (OpL.move (.inr rfl) rfl) ?_
            refine .nil ?_
            cases h
            exact rdN (Gives.mkR [] (.c rfl (.rfl _) rfl (.c rfl (.rfl _) rfl (.c rfl (.rfl _) rfl (.c rfl (.rfl _) rfl (.c rfl (.rfl _) rfl .n))))) .n rfl rfl rfl)
        · have h := ifF q25 h
          refine W.exit ?_
          cases h
          refine rdX fun e_ => ?_
          subst e_
          refine hit ?_
          exact toN (Gives.mkR [] (.c rfl (.rfl _) rfl .n) .n rfl rfl rfl)
  · clear h
    rcases tf t1 with g3 | g3
    · rcases tf (decide (x0 < 0)) with g4 | g4
      · refine W.pk ?_
        refine .v rfl rfl (OpL.move (.inl rfl) rfl) ?_
        refine .v rfl rfl (OpL.move (.inl rfl) rfl) ?_
        refine .call (.imm (.val (.bool t1))) [] 0 (haircut_good.ok b2) rfl rfl rfl ca33 rfl rfl (cC (.imm _) (cC (.imm _) .nil)) rfl rfl rfl rfl rfl ?_
        refine .v rfl rfl (OpL.unV rfl rfl rfl) ?_
        refine .v rfl rfl (OpL.move (.inl rfl) rfl) ?_
        refine .v rfl (met rfl rfl rfl (notT g3)) (OpL.move (.inl rfl) rfl) ?_
        refine .v rfl (met rfl rfl rfl (notT g3)) (OpL.binI rfl rfl rfl rfl) ?_
        refine .v rfl rfl (O.pickF (notT g3) rfl rfl rfl) ?_
        refine .v rfl rfl (OpL.move (.inl rfl) rfl) ?_
        refine .x rfl (unmet rfl rfl rfl g4) ?_
        refine .x rfl (unmet rfl rfl rfl g4) ?_
        refine .v rfl rfl (O.pickT g4 rfl rfl rfl) ?_
        refine .v rfl rfl (OpL.move (.inl rfl) rfl) ?_
        refine .x rfl (unmet rfl rfl rfl rfl) ?_
        refine .x rfl (unmet rfl rfl rfl rfl) ?_
        refine .v rfl rfl (O.pickT rfl rfl rfl rfl) ?_
        refine .nil ?_
        exact toN (Gives.mkR [] (.c rfl (.rfl _) rfl (.c rfl (.rfl _) rfl (.c rfl (.rfl _) rfl (.c rfl (.rfl _) rfl (.c rfl (sbb (by simp only [g3, g4, Bool.true_or, Bool.or_true, Bool.false_or, Bool.or_false, Bool.true_and, Bool.and_true, Bool.false_and, Bool.and_false, Bool.not_true, Bool.not_false, cond_true, cond_false])) rfl .n))))) .n rfl rfl rfl)
      · rcases tf (decide (x3 < 0)) with g5 | g5
        · refine W.pk ?_
          refine .v rfl rfl (OpL.move (.inl rfl) rfl) ?_
          refine .v rfl rfl (OpL.move (.inl rfl) rfl) ?_
          refine .call (.imm (.val (.bool t1))) [] 0 (haircut_good.ok b2) rfl rfl rfl ca33 rfl rfl (cC (.imm _) (cC (.imm _) .nil)) rfl rfl rfl rfl rfl ?_
          refine .v rfl rfl (OpL.unV rfl rfl rfl) ?_
          refine .v rfl rfl (OpL.move (.inl rfl) rfl) ?_
          refine .v rfl (met rfl rfl rfl (notT g3)) (OpL.move (.inl rfl) rfl) ?_
          refine .v rfl (met rfl rfl rfl (notT g3)) (OpL.binI rfl rfl rfl rfl) ?_
          refine .v rfl rfl (O.pickF (notT g3) rfl rfl rfl) ?_
          refine .v rfl rfl (OpL.move (.inl rfl) rfl) ?_
          refine .v rfl (met rfl rfl rfl g4) (OpL.move (.inl rfl) rfl) ?_
          refine .v rfl (met rfl rfl rfl g4) (OpL.binI rfl rfl rfl rfl) ?_
          refine .v rfl rfl (O.pickF g4 rfl rfl rfl) ?_
          refine .v rfl rfl (OpL.move (.inl rfl) rfl) ?_
          refine .x rfl (unmet rfl rfl rfl g5) ?_
          refine .x rfl (unmet rfl rfl rfl g5) ?_
          refine .v rfl rfl (O.pickT g5 rfl rfl rfl) ?_
          refine .nil ?_
          exact toN (Gives.mkR [] (.c rfl (.rfl _) rfl (.c rfl (.rfl _) rfl (.c rfl (.rfl _) rfl (.c rfl (.rfl _) rfl (.c rfl (sbb (by simp only [g3, g4, g5, Bool.true_or, Bool.or_true, Bool.false_or, Bool.or_false, Bool.true_and, Bool.and_true, Bool.false_and, Bool.and_false, Bool.not_true, Bool.not_false, cond_true, cond_false])) rfl .n))))) .n rfl rfl rfl)
        · refine W.pk ?_
          refine .v rfl rfl (OpL.move (.inl rfl) rfl) ?_
          refine .v rfl rfl (OpL.move (.inl rfl) rfl) ?_
          refine .call (.imm (.val (.bool t1))) [] 0 (haircut_good.ok b2) rfl rfl rfl ca33 rfl rfl (cC (.imm _) (cC (.imm _) .nil)) rfl rfl rfl rfl rfl ?_
          refine .v rfl rfl (OpL.unV rfl rfl rfl) ?_
          refine .v rfl rfl (OpL.move (.inl rfl) rfl) ?_
          refine .v rfl (met rfl rfl rfl (notT g3)) (OpL.move (.inl rfl) rfl) ?_
          refine .v rfl (met rfl rfl rfl (notT g3)) (OpL.binI rfl rfl rfl rfl) ?_
          refine .v rfl rfl (O.pickF (notT g3) rfl rfl rfl) ?_
          refine .v rfl rfl (OpL.move (.inl rfl) rfl) ?_
          refine .v rfl (met rfl rfl rfl g4) (OpL.move (.inl rfl) rfl) ?_
          refine .v rfl (met rfl rfl rfl g4) (OpL.binI rfl rfl rfl rfl) ?_
          refine .v rfl rfl (O.pickF g4 rfl rfl rfl) ?_
          refine .v rfl rfl (OpL.move (.inl rfl) rfl) ?_
          refine .v rfl (met rfl rfl rfl g5) (OpL.move (.inl rfl) rfl) ?_
          refine .v rfl (met rfl rfl rfl g5) (OpL.binI rfl rfl rfl rfl) ?_
          refine .v rfl rfl (O.pickF g5 rfl rfl rfl) ?_
          refine .nil ?_
          exact toN (Gives.mkR [] (.c rfl (.rfl _) rfl (.c rfl (.rfl _) rfl (.c rfl (.rfl _) rfl (.c rfl (.rfl _) rfl (.c rfl (sbb (by simp only [g3, g4, g5, Bool.true_or, Bool.or_true, Bool.false_or, Bool.or_false, Bool.true_and, Bool.and_true, Bool.false_and, Bool.and_false, Bool.not_true, Bool.not_false, cond_true, cond_false])) rfl .n))))) .n rfl rfl rfl)
    · refine W.pk ?_
      refine .v rfl rfl (OpL.move (.inl rfl) rfl) ?_
      refine .v rfl rfl (OpL.move (.inl rfl) rfl) ?_
      refine .call (.imm (.val (.bool t1))) [] 0 (haircut_good.ok b2) rfl rfl rfl ca33 rfl rfl (cC (.imm _) (cC (.imm _) .nil)) rfl rfl rfl rfl rfl ?_
      refine .v rfl rfl (OpL.unV rfl rfl rfl) ?_
      refine .v rfl rfl (OpL.move (.inl rfl) rfl) ?_
      refine .x rfl (unmet rfl rfl rfl (notF g3)) ?_
      refine .x rfl (unmet rfl rfl rfl (notF g3)) ?_
      refine .v rfl rfl (O.pickT (notF g3) rfl rfl rfl) ?_
      refine .v rfl rfl (OpL.move (.inl rfl) rfl) ?_
      refine .x rfl (unmet rfl rfl rfl rfl) ?_
      refine .x rfl (unmet rfl rfl rfl rfl) ?_
      refine .v rfl rfl (O.pickT rfl rfl rfl rfl) ?_
      refine .v rfl rfl (OpL.move (.inl rfl) rfl) ?_
      refine .x rfl (unmet rfl rfl rfl rfl) ?_
      refine .x rfl (unmet rfl rfl rfl rfl) ?_
      refine .v rfl rfl (O.pickT rfl rfl rfl rfl) ?_
      refine .nil ?_
      exact toN (Gives.mkR [] (.c rfl (.rfl _) rfl (.c rfl (.rfl _) rfl (.c rfl (.rfl _) rfl (.c rfl (.rfl _) rfl (.c rfl (sbb (by simp only [g3, Bool.true_or, Bool.or_true, Bool.false_or, Bool.or_false, Bool.true_and, Bool.and_true, Bool.false_and, Bool.and_false, Bool.not_true, Bool.not_false, cond_true, cond_false])) rfl .n))))) .n rfl rfl rfl)

noncomputable def lombardref15_Most.f (x0 : Int) (x1 : Int) (x2 : Int) (x3 : Int) : Option (Int) :=
  (lombardref15_good.f x1 x2).bind fun t1 =>
  if ((((!t1) || (decide (x0 < 0))) || (decide (x3 < 0))) || (decide (x3 > 1125899906842624))) = true then
    some (-1)
  else
    if (x0 == 9223372036854775807) = true then
      some x3
    else
      (lombardref15_Least.f (IntKind.wrap .i64 (x0 + 1)) x1 x2).bind fun t8 =>
      if ((!t8.2) || (decide ((IntKind.wrap .i64 (t8.1 - 1)) > x3))) = true then
        some x3
      else
        some (IntKind.wrap .i64 (t8.1 - 1))
set_option maxRecDepth 100000 in
set_option maxHeartbeats 4000000 in
theorem lombardref15_Most.ok {x0 : Int} {x1 : Int} {x2 : Int} {x3 : Int} {r : Int} (h : lombardref15_Most.f x0 x1 x2 x3 = some r) : Pm.Spec prog 15 [.imm (.val (.int .i64 x0)), .imm (.val (.int .i64 x1)), .imm (.val (.int .i64 x2)), .imm (.val (.int .i64 x3))] (.imm (.val (.int .i64 r))) [none, none, none, none] := by
  unfold lombardref15_Most.f at h
  refine Pm.Spec.of_body Try.func15 rfl (by kernel_rfl) (Nat.le_of_ble_eq_true rfl) (Nat.le_of_ble_eq_true rfl) ?_
  refine W.ghost (σ' := (mkSt [(0, some (.imm (.val (.int .i64 x0)))), (1, some (.imm (.val (.int .i64 x1)))), (2, some (.imm (.val (.int .i64 x2)))), (3, some (.imm (.val (.int .i64 x3))))] [] 1000)) (Gives.entry (.c rfl (.c rfl (.c rfl (.c rfl .n)))) .n) ?_
  refine W.seq ?_
  refine W.pk ?_
  refine .v rfl rfl (OpL.move (.inr rfl) rfl) ?_
  refine .nil ?_
  refine W.seq ?_
  refine W.seq ?_
  obtain ⟨t1, b2, h⟩ := bnd1 h
  refine W.fork (mkSt [(0, some (.imm (.val (.int .i64 x0)))), (1, some (.imm (.val (.int .i64 x1)))), (2, some (.imm (.val (.int .i64 x2)))), (3, some (.imm (.val (.int .i64 x3)))), (26, some (.imm (.val (.bool ((((!t1) || (decide (x0 < 0))) || (decide (x3 < 0))) || (decide (x3 > 1125899906842624)))))))] [] 1000) ?_ ?_
  · refine W.cond rfl (fun q6 => ?_) (fun q6 => ?_)
    · have h := ifT q6 h
      refine W.seq ?_
      refine W.pk ?_
      refine .v rfl rfl (OpL.move (.inr rfl) rfl) ?_
      refine .nil ?_
      refine W.ret ?_
      cases h
      exact leaves (.inr rfl) rfl (.imm _) (cN (cN (cN (cN .nil)))) rfl rfl
    · have h := ifF q6 h
      refine W.skip ?_
      refine W.seq ?_
      refine W.seq ?_
      refine W.pk ?_
      refine .v rfl rfl (OpL.move (.inl rfl) rfl) ?_
      refine .v rfl rfl (OpL.binI rfl rfl rfl rfl) ?_
      refine .nil ?_
      refine W.cond rfl (fun q7 => ?_) (fun q7 => ?_)
      · have h := ifT q7 h
        refine W.seq ?_
        refine W.pk ?_
        refine .v rfl rfl (OpL.move (.inl rfl) rfl) ?_
        refine .v rfl rfl (OpL.move (.inr rfl) rfl) ?_
        refine .nil ?_
        refine W.ret ?_
        cases h
        exact leaves (.inr rfl) rfl (.imm _) (cN (cN (cN (cN .nil)))) rfl rfl
      · have h := ifF q7 h
        refine W.skip ?_
        refine W.seq ?_
        obtain ⟨t8, b9, h⟩ := bnd1 h
        refine W.pk ?_
        refine .v rfl rfl (OpL.move (.inl rfl) rfl) ?_
        refine .v rfl rfl (OpL.binI rfl rfl rfl rfl) ?_
        refine .v rfl rfl (OpL.move (.inl rfl) rfl) ?_
        refine .v rfl rfl (OpL.move (.inl rfl) rfl) ?_
        refine .call (.tup [.imm (.val (.int .i64 t8.1)), .imm (.val (.bool t8.2))]) [] 0 (lombardref15_Least.ok b9) rfl rfl rfl ca13 rfl rfl (cC (.imm _) (cC (.imm _) (cC (.imm _) .nil))) rfl rfl rfl rfl rfl ?_
        refine .v rfl rfl (OpL.move (.inl rfl) rfl) ?_
        refine .v rfl rfl (OpL.extract rfl rfl rfl) ?_
        refine .v rfl rfl (OpL.extract rfl rfl rfl) ?_
        refine .v rfl rfl (OpL.move (.inr rfl) rfl) ?_
        refine .v rfl rfl (OpL.move (.inr rfl) rfl) ?_
        refine .nil ?_
        refine W.seq ?_
        refine W.seq ?_
        refine W.fork (mkSt [(3, some (.imm (.val (.int .i64 x3)))), (9, some (.imm (.val (.int .i64 t8.1)))), (45, some (.imm (.val (.bool ((!t8.2) || (decide ((IntKind.wrap .i64 (t8.1 - 1)) > x3)))))))] [] 1000) ?_ ?_
        · refine W.cond rfl (fun q11 => ?_) (fun q11 => ?_)
          · have h := ifT q11 h
            refine W.seq ?_
            refine W.pk ?_
            refine .v rfl rfl (OpL.move (.inl rfl) rfl) ?_
            refine .v rfl rfl (OpL.move (.inr rfl) rfl) ?_
            refine .nil ?_
            refine W.ret ?_
            cases h
            exact leaves (.inr rfl) rfl (.imm _) (cN (cN (cN (cN .nil)))) rfl rfl
          · have h := ifF q11 h
            refine W.skip ?_
            refine W.seq ?_
            refine W.pk ?_
            refine .v rfl rfl (OpL.move (.inl rfl) rfl) ?_
            refine .v rfl rfl (OpL.binI rfl rfl rfl rfl) ?_
            refine .v rfl rfl (OpL.move (.inr rfl) rfl) ?_
            refine .nil ?_
            refine W.ret ?_
            cases h
            exact leaves (.inr rfl) rfl (.imm _) (cN (cN (cN (cN .nil)))) rfl rfl
        · clear h
          rcases tf t8.2 with g10 | g10
          · refine W.pk ?_
            refine .v rfl rfl (OpL.move (.inl rfl) rfl) ?_
            refine .v rfl rfl (OpL.unV rfl rfl rfl) ?_
            refine .v rfl rfl (OpL.move (.inl rfl) rfl) ?_
            refine .v rfl (met rfl rfl rfl (notT g10)) (OpL.move (.inl rfl) rfl) ?_
            refine .v rfl (met rfl rfl rfl (notT g10)) (OpL.binI rfl rfl rfl rfl) ?_
            refine .v rfl (met rfl rfl rfl (notT g10)) (OpL.move (.inl rfl) rfl) ?_
            refine .v rfl (met rfl rfl rfl (notT g10)) (OpL.binI rfl rfl rfl rfl) ?_
            refine .v rfl rfl (O.pickF (notT g10) rfl rfl rfl) ?_
            refine .nil ?_
            exact toN (Gives.mkR [] (.c rfl (.rfl _) rfl (.c rfl (.rfl _) rfl (.c rfl (sbb (by simp only [g10, Bool.true_or, Bool.or_true, Bool.false_or, Bool.or_false, Bool.true_and, Bool.and_true, Bool.false_and, Bool.and_false, Bool.not_true, Bool.not_false, cond_true, cond_false])) rfl .n))) .n rfl rfl rfl)
          · refine W.pk ?_
            refine .v rfl rfl (OpL.move (.inl rfl) rfl) ?_
            refine .v rfl rfl (OpL.unV rfl rfl rfl) ?_
            refine .v rfl rfl (OpL.move (.inl rfl) rfl) ?_
            refine .x rfl (unmet rfl rfl rfl (notF g10)) ?_
            refine .x rfl (unmet rfl rfl rfl (notF g10)) ?_
            refine .x rfl (unmet rfl rfl rfl (notF g10)) ?_
            refine .x rfl (unmet rfl rfl rfl (notF g10)) ?_
            refine .v rfl rfl (O.pickT (notF g10) rfl rfl rfl) ?_
            refine .nil ?_
            exact toN (Gives.mkR [] (.c rfl (.rfl _) rfl (.c rfl (.rfl _) rfl (.c rfl (sbb (by simp only [g10, Bool.true_or, Bool.or_true, Bool.false_or, Bool.or_false, Bool.true_and, Bool.and_true, Bool.false_and, Bool.and_false, Bool.not_true, Bool.not_false, cond_true, cond_false])) rfl .n))) .n rfl rfl rfl)
  · clear h
    rcases tf t1 with g3 | g3
    · rcases tf (decide (x0 < 0)) with g4 | g4
      · refine W.pk ?_
        refine .v rfl rfl (OpL.move (.inl rfl) rfl) ?_
        refine .v rfl rfl (OpL.move (.inl rfl) rfl) ?_
        refine .call (.imm (.val (.bool t1))) [] 0 (lombardref15_good.ok b2) rfl rfl rfl ca36 rfl rfl (cC (.imm _) (cC (.imm _) .nil)) rfl rfl rfl rfl rfl ?_
        refine .v rfl rfl (OpL.unV rfl rfl rfl) ?_
        refine .v rfl rfl (OpL.move (.inl rfl) rfl) ?_
        refine .v rfl (met rfl rfl rfl (notT g3)) (OpL.move (.inl rfl) rfl) ?_
        refine .v rfl (met rfl rfl rfl (notT g3)) (OpL.binI rfl rfl rfl rfl) ?_
        refine .v rfl rfl (O.pickF (notT g3) rfl rfl rfl) ?_
        refine .v rfl rfl (OpL.move (.inl rfl) rfl) ?_
        refine .x rfl (unmet rfl rfl rfl g4) ?_
        refine .x rfl (unmet rfl rfl rfl g4) ?_
        refine .v rfl rfl (O.pickT g4 rfl rfl rfl) ?_
        refine .v rfl rfl (OpL.move (.inl rfl) rfl) ?_
        refine .x rfl (unmet rfl rfl rfl rfl) ?_
        refine .x rfl (unmet rfl rfl rfl rfl) ?_
        refine .v rfl rfl (O.pickT rfl rfl rfl rfl) ?_
        refine .nil ?_
        exact toN (Gives.mkR [] (.c rfl (.rfl _) rfl (.c rfl (.rfl _) rfl (.c rfl (.rfl _) rfl (.c rfl (.rfl _) rfl (.c rfl (sbb (by simp only [g3, g4, Bool.true_or, Bool.or_true, Bool.false_or, Bool.or_false, Bool.true_and, Bool.and_true, Bool.false_and, Bool.and_false, Bool.not_true, Bool.not_false, cond_true, cond_false])) rfl .n))))) .n rfl rfl rfl)
      · rcases tf (decide (x3 < 0)) with g5 | g5
        · refine W.pk ?_
          refine .v rfl rfl (OpL.move (.inl rfl) rfl) ?_
          refine .v rfl rfl (OpL.move (.inl rfl) rfl) ?_
          refine .call (.imm (.val (.bool t1))) [] 0 (lombardref15_good.ok b2) rfl rfl rfl ca36 rfl rfl (cC (.imm _) (cC (.imm _) .nil)) rfl rfl rfl rfl rfl ?_
          refine .v rfl rfl (OpL.unV rfl rfl rfl) ?_
          refine .v rfl rfl (OpL.move (.inl rfl) rfl) ?_
          refine .v rfl (met rfl rfl rfl (notT g3)) (OpL.move (.inl rfl) rfl) ?_
          refine .v rfl (met rfl rfl rfl (notT g3)) (OpL.binI rfl rfl rfl rfl) ?_
          refine .v rfl rfl (O.pickF (notT g3) rfl rfl rfl) ?_
          refine .v rfl rfl (OpL.move (.inl rfl) rfl) ?_
          refine .v rfl (met rfl rfl rfl g4) (OpL.move (.inl rfl) rfl) ?_
          refine .v rfl (met rfl rfl rfl g4) (OpL.binI rfl rfl rfl rfl) ?_
          refine .v rfl rfl (O.pickF g4 rfl rfl rfl) ?_
          refine .v rfl rfl (OpL.move (.inl rfl) rfl) ?_
          refine .x rfl (unmet rfl rfl rfl g5) ?_
          refine .x rfl (unmet rfl rfl rfl g5) ?_
          refine .v rfl rfl (O.pickT g5 rfl rfl rfl) ?_
          refine .nil ?_
          exact toN (Gives.mkR [] (.c rfl (.rfl _) rfl (.c rfl (.rfl _) rfl (.c rfl (.rfl _) rfl (.c rfl (.rfl _) rfl (.c rfl (sbb (by simp only [g3, g4, g5, Bool.true_or, Bool.or_true, Bool.false_or, Bool.or_false, Bool.true_and, Bool.and_true, Bool.false_and, Bool.and_false, Bool.not_true, Bool.not_false, cond_true, cond_false])) rfl .n))))) .n rfl rfl rfl)
        · refine W.pk ?_
          refine .v rfl rfl (OpL.move (.inl rfl) rfl) ?_
          refine .v rfl rfl (OpL.move (.inl rfl) rfl) ?_
          refine .call (.imm (.val (.bool t1))) [] 0 (lombardref15_good.ok b2) rfl rfl rfl ca36 rfl rfl (cC (.imm _) (cC (.imm _) .nil)) rfl rfl rfl rfl rfl ?_
          refine .v rfl rfl (OpL.unV rfl rfl rfl) ?_
          refine .v rfl rfl (OpL.move (.inl rfl) rfl) ?_
          refine .v rfl (met rfl rfl rfl (notT g3)) (OpL.move (.inl rfl) rfl) ?_
          refine .v rfl (met rfl rfl rfl (notT g3)) (OpL.binI rfl rfl rfl rfl) ?_
          refine .v rfl rfl (O.pickF (notT g3) rfl rfl rfl) ?_
          refine .v rfl rfl (OpL.move (.inl rfl) rfl) ?_
          refine .v rfl (met rfl rfl rfl g4) (OpL.move (.inl rfl) rfl) ?_
          refine .v rfl (met rfl rfl rfl g4) (OpL.binI rfl rfl rfl rfl) ?_
          refine .v rfl rfl (O.pickF g4 rfl rfl rfl) ?_
          refine .v rfl rfl (OpL.move (.inl rfl) rfl) ?_
          refine .v rfl (met rfl rfl rfl g5) (OpL.move (.inl rfl) rfl) ?_
          refine .v rfl (met rfl rfl rfl g5) (OpL.binI rfl rfl rfl rfl) ?_
          refine .v rfl rfl (O.pickF g5 rfl rfl rfl) ?_
          refine .nil ?_
          exact toN (Gives.mkR [] (.c rfl (.rfl _) rfl (.c rfl (.rfl _) rfl (.c rfl (.rfl _) rfl (.c rfl (.rfl _) rfl (.c rfl (sbb (by simp only [g3, g4, g5, Bool.true_or, Bool.or_true, Bool.false_or, Bool.or_false, Bool.true_and, Bool.and_true, Bool.false_and, Bool.and_false, Bool.not_true, Bool.not_false, cond_true, cond_false])) rfl .n))))) .n rfl rfl rfl)
    · refine W.pk ?_
      refine .v rfl rfl (OpL.move (.inl rfl) rfl) ?_
      refine .v rfl rfl (OpL.move (.inl rfl) rfl) ?_
      refine .call (.imm (.val (.bool t1))) [] 0 (lombardref15_good.ok b2) rfl rfl rfl ca36 rfl rfl (cC (.imm _) (cC (.imm _) .nil)) rfl rfl rfl rfl rfl ?_
      refine .v rfl rfl (OpL.unV rfl rfl rfl) ?_
      refine .v rfl rfl (OpL.move (.inl rfl) rfl) ?_
      refine .x rfl (unmet rfl rfl rfl (notF g3)) ?_
      refine .x rfl (unmet rfl rfl rfl (notF g3)) ?_
      refine .v rfl rfl (O.pickT (notF g3) rfl rfl rfl) ?_
      refine .v rfl rfl (OpL.move (.inl rfl) rfl) ?_
      refine .x rfl (unmet rfl rfl rfl rfl) ?_
      refine .x rfl (unmet rfl rfl rfl rfl) ?_
      refine .v rfl rfl (O.pickT rfl rfl rfl rfl) ?_
      refine .v rfl rfl (OpL.move (.inl rfl) rfl) ?_
      refine .x rfl (unmet rfl rfl rfl rfl) ?_
      refine .x rfl (unmet rfl rfl rfl rfl) ?_
      refine .v rfl rfl (O.pickT rfl rfl rfl rfl) ?_
      refine .nil ?_
      exact toN (Gives.mkR [] (.c rfl (.rfl _) rfl (.c rfl (.rfl _) rfl (.c rfl (.rfl _) rfl (.c rfl (.rfl _) rfl (.c rfl (sbb (by simp only [g3, Bool.true_or, Bool.or_true, Bool.false_or, Bool.or_false, Bool.true_and, Bool.and_true, Bool.false_and, Bool.and_false, Bool.not_true, Bool.not_false, cond_true, cond_false])) rfl .n))))) .n rfl rfl rfl)
end Go.Proofs.Ytdcpdnfalnelkaa
