/- Shows what functions of the program come to, each as a plain function: written by a program of the author's for this claim. -/
import Derived.Test.YtipgpnagfmlahaaGx6
namespace Go.Proofs.Ytipgpnagfmlahaa
open Go Go.Pm
set_option linter.unusedVariables false
set_option linter.unusedSimpArgs false
noncomputable def lombardlaw03_AccrueExact.f (x0 : Int) (x1 : Int) (x2 : Int) : Option (Bool) :=
  (accrue_Simple.f x0 x1 x2).bind fun t1 =>
  if (t1.2 != 0) = true then
    (lombardlaw03_awake.f).bind fun t4 =>
    some t4
  else
    (lombardref01_MulDiv.f x0 (IntKind.wrap .i64 (x1 * x2)) 360000000 2).bind fun t6 =>
    (accrue_Simple.f x0 (IntKind.wrap .i64 (0 - x1)) x2).bind fun t8 =>
    (if (((((t6.2 == 0) && (decide ((IntKind.wrap .i64 (t6.1 - t1.1)) ≥ 0))) && (decide ((IntKind.wrap .i64 (t6.1 - t1.1)) ≤ 1))) && (t8.2 == 0)) && (t8.1 == (IntKind.wrap .i64 (0 - t6.1)))) = true then lombardlaw03_awake.f else some default).bind fun t10 =>
    some ((((((t6.2 == 0) && (decide ((IntKind.wrap .i64 (t6.1 - t1.1)) ≥ 0))) && (decide ((IntKind.wrap .i64 (t6.1 - t1.1)) ≤ 1))) && (t8.2 == 0)) && (t8.1 == (IntKind.wrap .i64 (0 - t6.1)))) && t10)
set_option maxRecDepth 100000 in
set_option maxHeartbeats 4000000 in
theorem lombardlaw03_AccrueExact.ok {x0 : Int} {x1 : Int} {x2 : Int} {r : Bool} (h : lombardlaw03_AccrueExact.f x0 x1 x2 = some r) : Pm.Spec prog 5 [.imm (.val (.int .i64 x0)), .imm (.val (.int .i64 x1)), .imm (.val (.int .i64 x2))] (.imm (.val (.bool r))) [none, none, none] := by
  unfold lombardlaw03_AccrueExact.f at h
  refine Pm.Spec.of_body Try.func5 rfl (by kernel_rfl) (Nat.le_of_ble_eq_true rfl) (Nat.le_of_ble_eq_true rfl) ?_
  refine W.ghost (σ' := (mkSt [(0, some (.imm (.val (.int .i64 x0)))), (1, some (.imm (.val (.int .i64 x1)))), (2, some (.imm (.val (.int .i64 x2))))] [] 1000)) (Gives.entry (.c rfl (.c rfl (.c rfl .n))) .n) ?_
  refine W.seq ?_
  refine W.pk ?_
  refine .v rfl rfl (OpL.move (.inr rfl) rfl) ?_
  refine .nil ?_
  refine W.seq ?_
  obtain ⟨t1, b2, h⟩ := bnd1 h
  refine W.pk ?_
  refine .v rfl rfl (OpL.move (.inl rfl) rfl) ?_
  refine .v rfl rfl (OpL.move (.inl rfl) rfl) ?_
  refine .v rfl rfl (OpL.move (.inl rfl) rfl) ?_
  refine .call (.tup [.imm (.val (.int .i64 t1.1)), .imm (.val (.int .i64 t1.2))]) [] 0 (accrue_Simple.ok b2) rfl rfl rfl ca10 rfl rfl (cC (.imm _) (cC (.imm _) (cC (.imm _) .nil))) rfl rfl rfl rfl rfl ?_
  refine .v rfl rfl (OpL.move (.inl rfl) rfl) ?_
  refine .v rfl rfl (OpL.extract rfl rfl rfl) ?_
  refine .v rfl rfl (OpL.extract rfl rfl rfl) ?_
  refine .v rfl rfl (OpL.move (.inr rfl) rfl) ?_
  refine .v rfl rfl (OpL.move (.inr rfl) rfl) ?_
  refine .nil ?_
  refine W.seq ?_
  refine W.seq ?_
  refine W.pk ?_
  refine .v rfl rfl (OpL.move (.inl rfl) rfl) ?_
  refine .v rfl rfl (OpL.binI rfl rfl rfl rfl) ?_
  refine .nil ?_
  refine W.cond rfl (fun q3 => ?_) (fun q3 => ?_)
  · have h := ifT q3 h
    refine W.seq ?_
    obtain ⟨t4, b5, h⟩ := bnd1 h
    refine W.pk ?_
    refine .call (.imm (.val (.bool t4))) [] 0 (lombardlaw03_awake.ok b5) rfl rfl rfl ca12 rfl rfl .nil rfl rfl rfl rfl rfl ?_
    refine .v rfl rfl (OpL.move (.inr rfl) rfl) ?_
    refine .nil ?_
    refine W.ret ?_
    cases h
    exact leaves (.inr rfl) rfl (.imm _) (cN (cN (cN .nil))) rfl rfl
  · have h := ifF q3 h
    refine W.skip ?_
    refine W.seq ?_
    obtain ⟨t6, b7, h⟩ := bnd1 h
    refine W.pk ?_
    refine .v rfl rfl (OpL.move (.inl rfl) rfl) ?_
    refine .v rfl rfl (OpL.move (.inl rfl) rfl) ?_
    refine .v rfl rfl (OpL.move (.inl rfl) rfl) ?_
    refine .v rfl rfl (OpL.binI rfl rfl rfl rfl) ?_
    refine .call (.tup [.imm (.val (.int .i64 t6.1)), .imm (.val (.int .i64 t6.2))]) [] 0 (lombardref01_MulDiv.ok b7) rfl rfl rfl ca17 rfl rfl (cC (.imm _) (cC (.imm _) (cC (.imm _) (cC (.imm _) .nil)))) rfl rfl rfl rfl rfl ?_
    refine .v rfl rfl (OpL.move (.inl rfl) rfl) ?_
    refine .v rfl rfl (OpL.extract rfl rfl rfl) ?_
    refine .v rfl rfl (OpL.extract rfl rfl rfl) ?_
    refine .v rfl rfl (OpL.move (.inr rfl) rfl) ?_
    refine .v rfl rfl (OpL.move (.inr rfl) rfl) ?_
    refine .nil ?_
    refine W.seq ?_
    obtain ⟨t8, b9, h⟩ := bnd1 h
    refine W.pk ?_
    refine .v rfl rfl (OpL.move (.inl rfl) rfl) ?_
    refine .v rfl rfl (OpL.move (.inl rfl) rfl) ?_
    refine .v rfl rfl (OpL.binI rfl rfl rfl rfl) ?_
    refine .v rfl rfl (OpL.move (.inl rfl) rfl) ?_
    refine .call (.tup [.imm (.val (.int .i64 t8.1)), .imm (.val (.int .i64 t8.2))]) [] 0 (accrue_Simple.ok b9) rfl rfl rfl ca10 rfl rfl (cC (.imm _) (cC (.imm _) (cC (.imm _) .nil))) rfl rfl rfl rfl rfl ?_
    refine .v rfl rfl (OpL.move (.inl rfl) rfl) ?_
    refine .v rfl rfl (OpL.extract rfl rfl rfl) ?_
    refine .v rfl rfl (OpL.extract rfl rfl rfl) ?_
    refine .v rfl rfl (OpL.move (.inr rfl) rfl) ?_
    refine .v rfl rfl (OpL.move (.inr rfl) rfl) ?_
    refine .nil ?_
    refine W.seq ?_
    obtain ⟨t10, b11, h⟩ := bnd1 h
    refine W.fork (mkSt [(6, some (.imm (.val (.bool ((((((t6.2 == 0) && (decide ((IntKind.wrap .i64 (t6.1 - t1.1)) ≥ 0))) && (decide ((IntKind.wrap .i64 (t6.1 - t1.1)) ≤ 1))) && (t8.2 == 0)) && (t8.1 == (IntKind.wrap .i64 (0 - t6.1)))) && t10)))))] [] 1000) ?_ ?_
    · refine W.ret ?_
      cases h
      exact leaves (.inr rfl) rfl (.imm _) (cN (cN (cN .nil))) rfl rfl
    · clear h
      rcases tf (t6.2 == 0) with g12 | g12
      · rcases tf (decide ((IntKind.wrap .i64 (t6.1 - t1.1)) ≥ 0)) with g13 | g13
        · rcases tf (decide ((IntKind.wrap .i64 (t6.1 - t1.1)) ≤ 1)) with g14 | g14
          · rcases tf (t8.2 == 0) with g15 | g15
            · rcases tf (t8.1 == (IntKind.wrap .i64 (0 - t6.1))) with g16 | g16
              · refine W.pk ?_
                refine .v rfl rfl (OpL.move (.inl rfl) rfl) ?_
                refine .v rfl rfl (OpL.binI rfl rfl rfl rfl) ?_
                refine .v rfl rfl (OpL.move (.inl rfl) rfl) ?_
                refine .v rfl (met rfl rfl rfl g12) (OpL.move (.inl rfl) rfl) ?_
                refine .v rfl (met rfl rfl rfl g12) (OpL.move (.inl rfl) rfl) ?_
                refine .v rfl (met rfl rfl rfl g12) (OpL.binI rfl rfl rfl rfl) ?_
                refine .v rfl (met rfl rfl rfl g12) (OpL.binI rfl rfl rfl rfl) ?_
                refine .v rfl rfl (O.pickT g12 rfl rfl rfl) ?_
                refine .v rfl rfl (OpL.move (.inl rfl) rfl) ?_
                refine .v rfl (met rfl rfl rfl g13) (OpL.move (.inl rfl) rfl) ?_
                refine .v rfl (met rfl rfl rfl g13) (OpL.move (.inl rfl) rfl) ?_
                refine .v rfl (met rfl rfl rfl g13) (OpL.binI rfl rfl rfl rfl) ?_
                refine .v rfl (met rfl rfl rfl g13) (OpL.binI rfl rfl rfl rfl) ?_
                refine .v rfl rfl (O.pickT g13 rfl rfl rfl) ?_
                refine .v rfl rfl (OpL.move (.inl rfl) rfl) ?_
                refine .v rfl (met rfl rfl rfl g14) (OpL.move (.inl rfl) rfl) ?_
                refine .v rfl (met rfl rfl rfl g14) (OpL.binI rfl rfl rfl rfl) ?_
                refine .v rfl rfl (O.pickT g14 rfl rfl rfl) ?_
                refine .v rfl rfl (OpL.move (.inl rfl) rfl) ?_
                refine .v rfl (met rfl rfl rfl g15) (OpL.move (.inl rfl) rfl) ?_
                refine .v rfl (met rfl rfl rfl g15) (OpL.move (.inl rfl) rfl) ?_
                refine .v rfl (met rfl rfl rfl g15) (OpL.binI rfl rfl rfl rfl) ?_
                refine .v rfl (met rfl rfl rfl g15) (OpL.binI rfl rfl rfl rfl) ?_
                refine .v rfl rfl (O.pickT g15 rfl rfl rfl) ?_
                refine .v rfl rfl (OpL.move (.inl rfl) rfl) ?_
                refine .call (.imm (.val (.bool t10))) [] 0 (lombardlaw03_awake.ok ((if_pos (by simp only [g12, g13, g14, g15, g16, Bool.true_or, Bool.or_true, Bool.false_or, Bool.or_false, Bool.true_and, Bool.and_true, Bool.false_and, Bool.and_false, Bool.not_true, Bool.not_false, cond_true, cond_false])).symm.trans b11)) rfl (met rfl rfl rfl g16) rfl ca12 rfl rfl .nil rfl rfl rfl rfl rfl ?_
                refine .v rfl rfl (O.pickT g16 rfl rfl rfl) ?_
                refine .v rfl rfl (OpL.move (.inr rfl) rfl) ?_
                refine .nil ?_
                exact toN (Gives.mkR [] (.c rfl (sbb (by simp only [g12, g13, g14, g15, g16, Bool.true_or, Bool.or_true, Bool.false_or, Bool.or_false, Bool.true_and, Bool.and_true, Bool.false_and, Bool.and_false, Bool.not_true, Bool.not_false, cond_true, cond_false])) rfl .n) .n rfl rfl rfl)
              · refine W.pk ?_
                refine .v rfl rfl (OpL.move (.inl rfl) rfl) ?_
                refine .v rfl rfl (OpL.binI rfl rfl rfl rfl) ?_
                refine .v rfl rfl (OpL.move (.inl rfl) rfl) ?_
                refine .v rfl (met rfl rfl rfl g12) (OpL.move (.inl rfl) rfl) ?_
                refine .v rfl (met rfl rfl rfl g12) (OpL.move (.inl rfl) rfl) ?_
                refine .v rfl (met rfl rfl rfl g12) (OpL.binI rfl rfl rfl rfl) ?_
                refine .v rfl (met rfl rfl rfl g12) (OpL.binI rfl rfl rfl rfl) ?_
                refine .v rfl rfl (O.pickT g12 rfl rfl rfl) ?_
                refine .v rfl rfl (OpL.move (.inl rfl) rfl) ?_
                refine .v rfl (met rfl rfl rfl g13) (OpL.move (.inl rfl) rfl) ?_
                refine .v rfl (met rfl rfl rfl g13) (OpL.move (.inl rfl) rfl) ?_
                refine .v rfl (met rfl rfl rfl g13) (OpL.binI rfl rfl rfl rfl) ?_
                refine .v rfl (met rfl rfl rfl g13) (OpL.binI rfl rfl rfl rfl) ?_
                refine .v rfl rfl (O.pickT g13 rfl rfl rfl) ?_
                refine .v rfl rfl (OpL.move (.inl rfl) rfl) ?_
                refine .v rfl (met rfl rfl rfl g14) (OpL.move (.inl rfl) rfl) ?_
                refine .v rfl (met rfl rfl rfl g14) (OpL.binI rfl rfl rfl rfl) ?_
                refine .v rfl rfl (O.pickT g14 rfl rfl rfl) ?_
                refine .v rfl rfl (OpL.move (.inl rfl) rfl) ?_
                refine .v rfl (met rfl rfl rfl g15) (OpL.move (.inl rfl) rfl) ?_
                refine .v rfl (met rfl rfl rfl g15) (OpL.move (.inl rfl) rfl) ?_
                refine .v rfl (met rfl rfl rfl g15) (OpL.binI rfl rfl rfl rfl) ?_
                refine .v rfl (met rfl rfl rfl g15) (OpL.binI rfl rfl rfl rfl) ?_
                refine .v rfl rfl (O.pickT g15 rfl rfl rfl) ?_
                refine .v rfl rfl (OpL.move (.inl rfl) rfl) ?_
                refine .x rfl (unmet rfl rfl rfl g16) ?_
                refine .v rfl rfl (O.pickF g16 rfl rfl rfl) ?_
                refine .v rfl rfl (OpL.move (.inr rfl) rfl) ?_
                refine .nil ?_
                exact toN (Gives.mkR [] (.c rfl (sbb (by simp only [g12, g13, g14, g15, g16, Bool.true_or, Bool.or_true, Bool.false_or, Bool.or_false, Bool.true_and, Bool.and_true, Bool.false_and, Bool.and_false, Bool.not_true, Bool.not_false, cond_true, cond_false])) rfl .n) .n rfl rfl rfl)
            · refine W.pk ?_
              refine .v rfl rfl (OpL.move (.inl rfl) rfl) ?_
              refine .v rfl rfl (OpL.binI rfl rfl rfl rfl) ?_
              refine .v rfl rfl (OpL.move (.inl rfl) rfl) ?_
              refine .v rfl (met rfl rfl rfl g12) (OpL.move (.inl rfl) rfl) ?_
              refine .v rfl (met rfl rfl rfl g12) (OpL.move (.inl rfl) rfl) ?_
              refine .v rfl (met rfl rfl rfl g12) (OpL.binI rfl rfl rfl rfl) ?_
              refine .v rfl (met rfl rfl rfl g12) (OpL.binI rfl rfl rfl rfl) ?_
              refine .v rfl rfl (O.pickT g12 rfl rfl rfl) ?_
              refine .v rfl rfl (OpL.move (.inl rfl) rfl) ?_
              refine .v rfl (met rfl rfl rfl g13) (OpL.move (.inl rfl) rfl) ?_
              refine .v rfl (met rfl rfl rfl g13) (OpL.move (.inl rfl) rfl) ?_
              refine .v rfl (met rfl rfl rfl g13) (OpL.binI rfl rfl rfl rfl) ?_
              refine .v rfl (met rfl rfl rfl g13) (OpL.binI rfl rfl rfl rfl) ?_
              refine .v rfl rfl (O.pickT g13 rfl rfl rfl) ?_
              refine .v rfl rfl (OpL.move (.inl rfl) rfl) ?_
              refine .v rfl (met rfl rfl rfl g14) (OpL.move (.inl rfl) rfl) ?_
              refine .v rfl (met rfl rfl rfl g14) (OpL.binI rfl rfl rfl rfl) ?_
              refine .v rfl rfl (O.pickT g14 rfl rfl rfl) ?_
              refine .v rfl rfl (OpL.move (.inl rfl) rfl) ?_
              refine .x rfl (unmet rfl rfl rfl g15) ?_
              refine .x rfl (unmet rfl rfl rfl g15) ?_
              refine .x rfl (unmet rfl rfl rfl g15) ?_
              refine .x rfl (unmet rfl rfl rfl g15) ?_
              refine .v rfl rfl (O.pickF g15 rfl rfl rfl) ?_
              refine .v rfl rfl (OpL.move (.inl rfl) rfl) ?_
              refine .x rfl (unmet rfl rfl rfl rfl) ?_
              refine .v rfl rfl (O.pickF rfl rfl rfl rfl) ?_
              refine .v rfl rfl (OpL.move (.inr rfl) rfl) ?_
              refine .nil ?_
              exact toN (Gives.mkR [] (.c rfl (sbb (by simp only [g12, g13, g14, g15, Bool.true_or, Bool.or_true, Bool.false_or, Bool.or_false, Bool.true_and, Bool.and_true, Bool.false_and, Bool.and_false, Bool.not_true, Bool.not_false, cond_true, cond_false])) rfl .n) .n rfl rfl rfl)
          · refine W.pk ?_
            refine .v rfl rfl (OpL.move (.inl rfl) rfl) ?_
            refine .v rfl rfl (OpL.binI rfl rfl rfl rfl) ?_
            refine .v rfl rfl (OpL.move (.inl rfl) rfl) ?_
            refine .v rfl (met rfl rfl rfl g12) (OpL.move (.inl rfl) rfl) ?_
            refine .v rfl (met rfl rfl rfl g12) (OpL.move (.inl rfl) rfl) ?_
            refine .v rfl (met rfl rfl rfl g12) (OpL.binI rfl rfl rfl rfl) ?_
            refine .v rfl (met rfl rfl rfl g12) (OpL.binI rfl rfl rfl rfl) ?_
            refine .v rfl rfl (O.pickT g12 rfl rfl rfl) ?_
            refine .v rfl rfl (OpL.move (.inl rfl) rfl) ?_
            refine .v rfl (met rfl rfl rfl g13) (OpL.move (.inl rfl) rfl) ?_
            refine .v rfl (met rfl rfl rfl g13) (OpL.move (.inl rfl) rfl) ?_
            refine .v rfl (met rfl rfl rfl g13) (OpL.binI rfl rfl rfl rfl) ?_
            refine .v rfl (met rfl rfl rfl g13) (OpL.binI rfl rfl rfl rfl) ?_
            refine .v rfl rfl (O.pickT g13 rfl rfl rfl) ?_
            refine .v rfl rfl (OpL.move (.inl rfl) rfl) ?_
            refine .x rfl (unmet rfl rfl rfl g14) ?_
            refine .x rfl (unmet rfl rfl rfl g14) ?_
            refine .v rfl rfl (O.pickF g14 rfl rfl rfl) ?_
            refine .v rfl rfl (OpL.move (.inl rfl) rfl) ?_
            refine .x rfl (unmet rfl rfl rfl rfl) ?_
            refine .x rfl (unmet rfl rfl rfl rfl) ?_
            refine .x rfl (unmet rfl rfl rfl rfl) ?_
            refine .x rfl (unmet rfl rfl rfl rfl) ?_
            refine .v rfl rfl (O.pickF rfl rfl rfl rfl) ?_
            refine .v rfl rfl (OpL.move (.inl rfl) rfl) ?_
            refine .x rfl (unmet rfl rfl rfl rfl) ?_
            refine .v rfl rfl (O.pickF rfl rfl rfl rfl) ?_
            refine .v rfl rfl (OpL.move (.inr rfl) rfl) ?_
            refine .nil ?_
            exact toN (Gives.mkR [] (.c rfl (sbb (by simp only [g12, g13, g14, Bool.true_or, Bool.or_true, Bool.false_or, Bool.or_false, Bool.true_and, Bool.and_true, Bool.false_and, Bool.and_false, Bool.not_true, Bool.not_false, cond_true, cond_false])) rfl .n) .n rfl rfl rfl)
        · refine W.pk ?_
          refine .v rfl rfl (OpL.move (.inl rfl) rfl) ?_
          refine .v rfl rfl (OpL.binI rfl rfl rfl rfl) ?_
          refine .v rfl rfl (OpL.move (.inl rfl) rfl) ?_
          refine .v rfl (met rfl rfl rfl g12) (OpL.move (.inl rfl) rfl) ?_
          refine .v rfl (met rfl rfl rfl g12) (OpL.move (.inl rfl) rfl) ?_
          refine .v rfl (met rfl rfl rfl g12) (OpL.binI rfl rfl rfl rfl) ?_
          refine .v rfl (met rfl rfl rfl g12) (OpL.binI rfl rfl rfl rfl) ?_
          refine .v rfl rfl (O.pickT g12 rfl rfl rfl) ?_
          refine .v rfl rfl (OpL.move (.inl rfl) rfl) ?_
          refine .x rfl (unmet rfl rfl rfl g13) ?_
          refine .x rfl (unmet rfl rfl rfl g13) ?_
          refine .x rfl (unmet rfl rfl rfl g13) ?_
          refine .x rfl (unmet rfl rfl rfl g13) ?_
          refine .v rfl rfl (O.pickF g13 rfl rfl rfl) ?_
          refine .v rfl rfl (OpL.move (.inl rfl) rfl) ?_
          refine .x rfl (unmet rfl rfl rfl rfl) ?_
          refine .x rfl (unmet rfl rfl rfl rfl) ?_
          refine .v rfl rfl (O.pickF rfl rfl rfl rfl) ?_
          refine .v rfl rfl (OpL.move (.inl rfl) rfl) ?_
          refine .x rfl (unmet rfl rfl rfl rfl) ?_
          refine .x rfl (unmet rfl rfl rfl rfl) ?_
          refine .x rfl (unmet rfl rfl rfl rfl) ?_
          refine .x rfl (unmet rfl rfl rfl rfl) ?_
          refine .v rfl rfl (O.pickF rfl rfl rfl rfl) ?_
          refine .v rfl rfl (OpL.move (.inl rfl) rfl) ?_
          refine .x rfl (unmet rfl rfl rfl rfl) ?_
          refine .v rfl rfl (O.pickF rfl rfl rfl rfl) ?_
          refine .v rfl rfl (OpL.move (.inr rfl) rfl) ?_
          refine .nil ?_
          exact toN (Gives.mkR [] (.c rfl (sbb (by simp only [g12, g13, Bool.true_or, Bool.or_true, Bool.false_or, Bool.or_false, Bool.true_and, Bool.and_true, Bool.false_and, Bool.and_false, Bool.not_true, Bool.not_false, cond_true, cond_false])) rfl .n) .n rfl rfl rfl)
      · refine W.pk ?_
        refine .v rfl rfl (OpL.move (.inl rfl) rfl) ?_
        refine .v rfl rfl (OpL.binI rfl rfl rfl rfl) ?_
        refine .v rfl rfl (OpL.move (.inl rfl) rfl) ?_
        refine .x rfl (unmet rfl rfl rfl g12) ?_
        refine .x rfl (unmet rfl rfl rfl g12) ?_
        refine .x rfl (unmet rfl rfl rfl g12) ?_
        refine .x rfl (unmet rfl rfl rfl g12) ?_
        refine .v rfl rfl (O.pickF g12 rfl rfl rfl) ?_
        refine .v rfl rfl (OpL.move (.inl rfl) rfl) ?_
        refine .x rfl (unmet rfl rfl rfl rfl) ?_
        refine .x rfl (unmet rfl rfl rfl rfl) ?_
        refine .x rfl (unmet rfl rfl rfl rfl) ?_
        refine .x rfl (unmet rfl rfl rfl rfl) ?_
        refine .v rfl rfl (O.pickF rfl rfl rfl rfl) ?_
        refine .v rfl rfl (OpL.move (.inl rfl) rfl) ?_
        refine .x rfl (unmet rfl rfl rfl rfl) ?_
        refine .x rfl (unmet rfl rfl rfl rfl) ?_
        refine .v rfl rfl (O.pickF rfl rfl rfl rfl) ?_
        refine .v rfl rfl (OpL.move (.inl rfl) rfl) ?_
        refine .x rfl (unmet rfl rfl rfl rfl) ?_
        refine .x rfl (unmet rfl rfl rfl rfl) ?_
        refine .x rfl (unmet rfl rfl rfl rfl) ?_
        refine .x rfl (unmet rfl rfl rfl rfl) ?_
        refine .v rfl rfl (O.pickF rfl rfl rfl rfl) ?_
        refine .v rfl rfl (OpL.move (.inl rfl) rfl) ?_
        refine .x rfl (unmet rfl rfl rfl rfl) ?_
        refine .v rfl rfl (O.pickF rfl rfl rfl rfl) ?_
        refine .v rfl rfl (OpL.move (.inr rfl) rfl) ?_
        refine .nil ?_
        exact toN (Gives.mkR [] (.c rfl (sbb (by simp only [g12, Bool.true_or, Bool.or_true, Bool.false_or, Bool.or_false, Bool.true_and, Bool.and_true, Bool.false_and, Bool.and_false, Bool.not_true, Bool.not_false, cond_true, cond_false])) rfl .n) .n rfl rfl rfl)

noncomputable def calendar_Good.f (x0 : Int) : Option (Bool) :=
  some ((decide (x0 ≥ 0)) && (decide (x0 ≤ 200000)))
set_option maxRecDepth 100000 in
set_option maxHeartbeats 4000000 in
theorem calendar_Good.ok {x0 : Int} {r : Bool} (h : calendar_Good.f x0 = some r) : Pm.Spec prog 41 [.imm (.val (.int .i64 x0))] (.imm (.val (.bool r))) [none] := by
  unfold calendar_Good.f at h
  refine Pm.Spec.of_body Try.func41 rfl (by kernel_rfl) (Nat.le_of_ble_eq_true rfl) (Nat.le_of_ble_eq_true rfl) ?_
  refine W.ghost (σ' := (mkSt [(0, some (.imm (.val (.int .i64 x0))))] [] 1000)) (Gives.entry (.c rfl .n) .n) ?_
  refine W.seq ?_
  refine W.pk ?_
  refine .v rfl rfl (OpL.move (.inr rfl) rfl) ?_
  refine .nil ?_
  refine W.seq ?_
  refine W.fork (mkSt [(2, some (.imm (.val (.bool ((decide (x0 ≥ 0)) && (decide (x0 ≤ 200000)))))))] [] 1000) ?_ ?_
  · refine W.ret ?_
    cases h
    exact leaves (.inr rfl) rfl (.imm _) (cN .nil) rfl rfl
  · clear h
    rcases tf (decide (x0 ≥ 0)) with g1 | g1
    · refine W.pk ?_
      refine .v rfl rfl (OpL.move (.inl rfl) rfl) ?_
      refine .v rfl rfl (OpL.binI rfl rfl rfl rfl) ?_
      refine .v rfl rfl (OpL.move (.inl rfl) rfl) ?_
      refine .v rfl (met rfl rfl rfl g1) (OpL.move (.inl rfl) rfl) ?_
      refine .v rfl (met rfl rfl rfl g1) (OpL.binI rfl rfl rfl rfl) ?_
      refine .v rfl rfl (O.pickT g1 rfl rfl rfl) ?_
      refine .v rfl rfl (OpL.move (.inr rfl) rfl) ?_
      refine .nil ?_
      exact toN (Gives.mkR [] (.c rfl (sbb (by simp only [g1, Bool.true_or, Bool.or_true, Bool.false_or, Bool.or_false, Bool.true_and, Bool.and_true, Bool.false_and, Bool.and_false, Bool.not_true, Bool.not_false, cond_true, cond_false])) rfl .n) .n rfl rfl rfl)
    · refine W.pk ?_
      refine .v rfl rfl (OpL.move (.inl rfl) rfl) ?_
      refine .v rfl rfl (OpL.binI rfl rfl rfl rfl) ?_
      refine .v rfl rfl (OpL.move (.inl rfl) rfl) ?_
      refine .x rfl (unmet rfl rfl rfl g1) ?_
      refine .x rfl (unmet rfl rfl rfl g1) ?_
      refine .v rfl rfl (O.pickF g1 rfl rfl rfl) ?_
      refine .v rfl rfl (OpL.move (.inr rfl) rfl) ?_
      refine .nil ?_
      exact toN (Gives.mkR [] (.c rfl (sbb (by simp only [g1, Bool.true_or, Bool.or_true, Bool.false_or, Bool.or_false, Bool.true_and, Bool.and_true, Bool.false_and, Bool.and_false, Bool.not_true, Bool.not_false, cond_true, cond_false])) rfl .n) .n rfl rfl rfl)

noncomputable def accrue_Check.b0 (x0 : List api_Reset) (v13 : Int) : Option (Int ⊕ (Int ⊕ Unit)) :=
  if (decide (v13 < (List.length x0 : Int))) = true then
    if (0 : Int) ≤ v13 ∧ v13 < (List.length x0 : Int) then
    (calendar_Good.f ((nth x0 v13).Day)).bind fun t40 =>
    if ((!t40) = false ∧ (decide (v13 > 0)) = true → (0 : Int) ≤ (IntKind.wrap .i64 (v13 - 1)) ∧ (IntKind.wrap .i64 (v13 - 1)) < (List.length x0 : Int)) then
    if ((!t40) || ((decide (v13 > 0)) && (decide (((nth x0 v13).Day) ≤ ((nth x0 (IntKind.wrap .i64 (v13 - 1))).Day))))) = true then
      some (.inr (.inl 10))
    else
      if ((decide (((nth x0 v13).Rate) < (-1000000))) || (decide (((nth x0 v13).Rate) > 1000000))) = true then
        some (.inr (.inl 1))
      else
        some (.inl (IntKind.wrap .i64 (v13 + 1)))
    else none
    else none
  else
    some (.inr (.inr ()))
noncomputable def accrue_Check.r0 (x0 : List api_Reset) (s : Int) : Option (Int ⊕ (Int ⊕ Unit)) := accrue_Check.b0 x0 s
noncomputable def accrue_Check.f (x0 : List api_Reset) : Option (Int) :=
  if ((List.length x0 : Int) == 0) = true then
    some 6
  else
    if (decide ((List.length x0 : Int) > 64)) = true then
      some 2
    else
      (loop (accrue_Check.r0 x0) 0).bind fun o35 =>
      match o35 with
      | .inl r48 => some r48
      | .inr w34 =>
        some 0
set_option maxRecDepth 100000 in
set_option maxHeartbeats 4000000 in
theorem accrue_Check.ok {x0 : List api_Reset} {r : Int} (h : accrue_Check.f x0 = some r) : Pm.Spec prog 18 [.imm (.row 2 (List.map api_Reset.enc x0))] (.imm (.val (.int .i64 r))) [none] := by
  unfold accrue_Check.f at h
  refine Pm.Spec.of_body Try.func18 rfl (by kernel_rfl) (Nat.le_of_ble_eq_true rfl) (Nat.le_of_ble_eq_true rfl) ?_
  refine W.ghost (σ' := (mkSt [(0, some (.imm (.row 2 (List.map api_Reset.enc x0))))] [] 1000)) (Gives.entry (.c rfl .n) .n) ?_
  refine W.seq ?_
  refine W.pk ?_
  refine .v rfl rfl (OpL.move (.inr rfl) rfl) ?_
  refine .nil ?_
  refine W.seq ?_
  refine W.block ?_
  refine W.seq ?_
  refine W.pk ?_
  refine .v rfl rfl (OpL.move (.inl rfl) rfl) ?_
  refine .v rfl rfl (O.lenR sl40 rfl rfl) ?_
  refine .v rfl rfl (OpL.binI rfl rfl rfl rfl) ?_
  refine .v rfl rfl (OpL.move (.inr rfl) rfl) ?_
  refine .nil ?_
  refine W.cond rfl (fun q1 => ?_) (fun q1 => ?_)
  · have h := ifT q1 h
    refine W.seq ?_
    refine W.pk ?_
    refine .v rfl rfl (OpL.move (.inr rfl) rfl) ?_
    refine .nil ?_
    refine W.ret ?_
    cases h
    exact leaves (.inr rfl) rfl (.imm _) (cN .nil) rfl rfl
  · have h := ifF q1 h
    refine W.seq ?_
    refine W.pk ?_
    refine .v rfl rfl (OpL.move (.inl rfl) rfl) ?_
    refine .v rfl rfl (O.lenR sl40 rfl rfl) ?_
    refine .v rfl rfl (OpL.binI rfl rfl rfl rfl) ?_
    refine .v rfl rfl (OpL.move (.inr rfl) rfl) ?_
    refine .nil ?_
    refine W.cond rfl (fun q2 => ?_) (fun q2 => ?_)
    · have h := ifT q2 h
      refine W.seq ?_
      refine W.pk ?_
      refine .v rfl rfl (OpL.move (.inr rfl) rfl) ?_
      refine .nil ?_
      refine W.ret ?_
      cases h
      exact leaves (.inr rfl) rfl (.imm _) (cN .nil) rfl rfl
    · have h := ifF q2 h
      refine W.skip ?_
      refine W.seq ?_
      refine W.seq ?_
      refine W.pk ?_
      refine .v rfl rfl (OpL.move (.inl rfl) rfl) ?_
      refine .v rfl rfl (O.lenR sl40 rfl rfl) ?_
      refine .v rfl rfl (OpL.move (.inl rfl) rfl) ?_
      refine .nil ?_
      obtain ⟨o35, b36, z37⟩ := bnd1 h
      refine W.fork2 (out := o35) (fun (w34 : Unit) => mkSt [] [] 1000) ?_ ?_
      · clear h
        refine W.block ?_
        refine W.loopF (fun (s_ : Int) => mkSt [(0, some (.imm (.row 2 (List.map api_Reset.enc x0)))), (13, some (.imm (.row 2 (List.map api_Reset.enc x0)))), (14, some (.imm (.val (.int .i64 (List.length x0 : Int))))), (15, some (.imm (.val (.int .i64 s_))))] [] 1000) b36 (Gives.mkR [] (.c rfl (.rfl _) rfl (.c rfl (.rfl _) rfl (.c rfl (.rfl _) rfl (.c rfl (.rfl _) rfl .n)))) .n rfl rfl rfl) ?_
        rintro v13 s_ hr
        have h : accrue_Check.b0 x0 v13 = some s_ := hr
        unfold accrue_Check.b0 at h
        refine W.seq ?_
        refine W.pk ?_
        refine .v rfl rfl (OpL.binI rfl rfl rfl rfl) ?_
        refine .nil ?_
        refine W.seq ?_
        refine W.cond rfl (fun q38 => ?_) (fun q38 => ?_)
        · have h := ifT q38 h
          refine W.skip ?_
          refine W.seq ?_
          refine W.block ?_
          refine W.seq ?_
          obtain ⟨c39, h⟩ := chk h
          refine W.pk ?_
          refine .v rfl rfl (OpL.move (.inl rfl) rfl) ?_
          refine .v rfl rfl (O.idx sl40 c39 rfl rfl rfl) ?_
          refine .v rfl rfl (O.ldN ty50 rfl rfl rfl) ?_
          refine .t rfl rfl (O.alloc z50 rfl) ?_
          refine .v rfl rfl (OpL.move (.inr rfl) rfl) ?_
          refine .s rfl rfl (O.st ty50 rfl rfl rfl rfl rfl rfl rfl rfl rfl rfl (all' := [.imm (.val (.int .i64 ((nth x0 v13).Day))), .imm (.val (.int .i64 ((nth x0 v13).Rate)))]) rfl) ?_
          refine .nil ?_
          refine W.block ?_
          refine W.seq ?_
          obtain ⟨t40, b41, h⟩ := bnd1 h
          obtain ⟨c42, h⟩ := chk h
          refine W.fork (mkSt [(0, some (.imm (.row 2 (List.map api_Reset.enc x0)))), (4, some (.ptr 1000 0)), (13, some (.imm (.row 2 (List.map api_Reset.enc x0)))), (14, some (.imm (.val (.int .i64 (List.length x0 : Int))))), (15, some (.imm (.val (.int .i64 v13)))), (20, some (.imm (.val (.bool ((!t40) || ((decide (v13 > 0)) && (decide (((nth x0 v13).Day) ≤ ((nth x0 (IntKind.wrap .i64 (v13 - 1))).Day)))))))))] [(1000, some (.box [.imm (.val (.int .i64 ((nth x0 v13).Day))), .imm (.val (.int .i64 ((nth x0 v13).Rate)))]))] 1001) ?_ ?_
          · refine W.cond rfl (fun q45 => ?_) (fun q45 => ?_)
            · have h := ifT q45 h
              refine W.seq ?_
              refine W.pk ?_
              refine .v rfl rfl (OpL.move (.inr rfl) rfl) ?_
              refine .nil ?_
              refine W.ret ?_
              cases h
              refine rdR fun e_ => ?_
              subst e_
              have h := z37
              dsimp only at h
              refine fkR ?_
              cases h
              exact leaves (.inr rfl) rfl (.imm _) (cN .nil) rfl rfl
            · have h := ifF q45 h
              refine W.seq ?_
              refine W.fork (mkSt [(0, some (.imm (.row 2 (List.map api_Reset.enc x0)))), (13, some (.imm (.row 2 (List.map api_Reset.enc x0)))), (14, some (.imm (.val (.int .i64 (List.length x0 : Int))))), (15, some (.imm (.val (.int .i64 v13)))), (40, some (.imm (.val (.bool ((decide (((nth x0 v13).Rate) < (-1000000))) || (decide (((nth x0 v13).Rate) > 1000000)))))))] [] 1001) ?_ ?_
              · refine W.cond rfl (fun q47 => ?_) (fun q47 => ?_)
                · have h := ifT q47 h
                  refine W.seq ?_
                  refine W.pk ?_
                  refine .v rfl rfl (OpL.move (.inr rfl) rfl) ?_
                  refine .nil ?_
                  refine W.ret ?_
                  cases h
                  refine rdR fun e_ => ?_
                  subst e_
                  have h := z37
                  dsimp only at h
                  refine fkR ?_
                  cases h
                  exact leaves (.inr rfl) rfl (.imm _) (cN .nil) rfl rfl
                · have h := ifF q47 h
                  refine W.skip ?_
                  refine W.pk ?_
                  refine .v rfl rfl (OpL.binI rfl rfl rfl rfl) ?_
                  refine .v rfl rfl (OpL.move (.inl rfl) rfl) ?_
                  refine .nil ?_
                  cases h
                  exact rdN (Gives.mkR [] (.c rfl (.rfl _) rfl (.c rfl (.rfl _) rfl (.c rfl (.rfl _) rfl (.c rfl (.rfl _) rfl .n)))) .n rfl rfl rfl)
              · clear h
                rcases tf (decide (((nth x0 v13).Rate) < (-1000000))) with g46 | g46
                · refine W.pk ?_
                  refine .v rfl rfl (O.fld fld50_1 rfl rfl rfl) ?_
                  refine .v rfl rfl (O.ld ty3 rfl rfl rfl) ?_
                  refine .v rfl rfl (OpL.binI rfl rfl rfl rfl) ?_
                  refine .v rfl rfl (OpL.move (.inl rfl) rfl) ?_
                  refine .x rfl (unmet rfl rfl rfl g46) ?_
                  refine .x rfl (unmet rfl rfl rfl g46) ?_
                  refine .x rfl (unmet rfl rfl rfl g46) ?_
                  refine .v rfl rfl (O.pickT g46 rfl rfl rfl) ?_
                  refine .v rfl rfl (OpL.move (.inr rfl) rfl) ?_
                  refine .nil ?_
                  exact toN (Gives.mkR [] (.c rfl (.rfl _) rfl (.c rfl (.rfl _) rfl (.c rfl (.rfl _) rfl (.c rfl (.rfl _) rfl (.c rfl (sbb (by simp only [g46, Bool.true_or, Bool.or_true, Bool.false_or, Bool.or_false, Bool.true_and, Bool.and_true, Bool.false_and, Bool.and_false, Bool.not_true, Bool.not_false, cond_true, cond_false])) rfl .n))))) .n rfl rfl rfl)
                · refine W.pk ?_
                  refine .v rfl rfl (O.fld fld50_1 rfl rfl rfl) ?_
                  refine .v rfl rfl (O.ld ty3 rfl rfl rfl) ?_
                  refine .v rfl rfl (OpL.binI rfl rfl rfl rfl) ?_
                  refine .v rfl rfl (OpL.move (.inl rfl) rfl) ?_
                  refine .v rfl (met rfl rfl rfl g46) (O.fld fld50_1 rfl rfl rfl) ?_
                  refine .v rfl (met rfl rfl rfl g46) (O.ld ty3 rfl rfl rfl) ?_
                  refine .v rfl (met rfl rfl rfl g46) (OpL.binI rfl rfl rfl rfl) ?_
                  refine .v rfl rfl (O.pickF g46 rfl rfl rfl) ?_
                  refine .v rfl rfl (OpL.move (.inr rfl) rfl) ?_
                  refine .nil ?_
                  exact toN (Gives.mkR [] (.c rfl (.rfl _) rfl (.c rfl (.rfl _) rfl (.c rfl (.rfl _) rfl (.c rfl (.rfl _) rfl (.c rfl (sbb (by simp only [g46, Bool.true_or, Bool.or_true, Bool.false_or, Bool.or_false, Bool.true_and, Bool.and_true, Bool.false_and, Bool.and_false, Bool.not_true, Bool.not_false, cond_true, cond_false])) rfl .n))))) .n rfl rfl rfl)
          · clear h
            rcases tf t40 with g43 | g43
            · rcases tf (decide (v13 > 0)) with g44 | g44
              · refine W.dk [[], [0], [0, 1], [0, 1, 2], [0, 1, 2, 3], [0, 1, 2, 3, 4], [0, 1, 2, 3, 4, 5], [0, 1, 2, 3, 4, 5, 6], [0, 1, 2, 3, 4, 5, 6, 7], [0, 1, 2, 3, 4, 5, 6, 7, 8], [0, 1, 2, 3, 4, 5, 6, 7], [0, 1, 2, 3, 4, 5, 6, 7], [0, 1, 2, 3, 4, 5, 6, 7, 11], [0, 1, 2, 3, 4, 5, 6, 7, 10, 11, 12], [0, 1, 2, 3, 4, 5, 6, 7, 10, 11, 12, 13], [0, 1, 2, 3, 4, 5, 6, 7, 10, 11, 12, 13, 14], [0, 1, 2, 3, 4, 5, 6, 7, 8, 9, 10, 11, 12, 13, 14, 15], [0, 1, 2, 3, 4, 5, 6, 7, 8, 9, 10, 11, 12, 13, 14, 15, 16], [0, 1, 2, 3, 4, 5, 6, 7, 8, 9, 10, 11, 12, 13, 14, 15, 16, 17], [0, 1, 2, 3, 4, 5, 6, 7, 8, 9, 10, 11, 12, 13, 14, 15, 16, 17, 18]] rfl (by kernel_rfl) ?_
                refine .v rfl rfl (O.fld fld50_0 rfl rfl rfl) ?_
                refine .v rfl rfl (O.ld ty3 rfl rfl rfl) ?_
                refine .call (.imm (.val (.bool t40))) [] 0 (calendar_Good.ok b41) rfl rfl rfl ca41 rfl rfl (cC (.imm _) .nil) rfl rfl rfl rfl rfl ?_
                refine .v rfl rfl (OpL.unV rfl rfl rfl) ?_
                refine .v rfl rfl (OpL.move (.inl rfl) rfl) ?_
                refine .v rfl (met rfl rfl rfl (notT g43)) (OpL.move (.inl rfl) rfl) ?_
                refine .v rfl (met rfl rfl rfl (notT g43)) (OpL.binI rfl rfl rfl rfl) ?_
                refine .v rfl (met rfl rfl rfl (notT g43)) (OpL.move (.inl rfl) rfl) ?_
                refine .v rfl (met rfl rfl rfl g44) (O.fld fld50_0 rfl rfl rfl) ?_
                refine .v rfl (met rfl rfl rfl g44) (O.ld ty3 rfl rfl rfl) ?_
                refine .v rfl (met rfl rfl rfl g44) (OpL.move (.inl rfl) rfl) ?_
                refine .v rfl (met rfl rfl rfl g44) (OpL.move (.inl rfl) rfl) ?_
                refine .v rfl (met rfl rfl rfl g44) (OpL.binI rfl rfl rfl rfl) ?_
                refine .v rfl (met rfl rfl rfl g44) (O.idx sl40 (c42 ⟨(by simp only [g43, g44, Bool.true_or, Bool.or_true, Bool.false_or, Bool.or_false, Bool.true_and, Bool.and_true, Bool.false_and, Bool.and_false, Bool.not_true, Bool.not_false, cond_true, cond_false]), (by simp only [g43, g44, Bool.true_or, Bool.or_true, Bool.false_or, Bool.or_false, Bool.true_and, Bool.and_true, Bool.false_and, Bool.and_false, Bool.not_true, Bool.not_false, cond_true, cond_false])⟩) rfl rfl rfl) ?_
                refine .v rfl (met rfl rfl rfl g44) (O.fld fld50_0 rfl rfl rfl) ?_
                refine .v rfl (met rfl rfl rfl g44) (O.ld ty3 rfl rfl rfl) ?_
                refine .v rfl (met rfl rfl rfl g44) (OpL.binI rfl rfl rfl rfl) ?_
                refine .v rfl (met rfl rfl rfl (notT g43)) (O.pickT g44 rfl rfl rfl) ?_
                refine .v rfl rfl (O.pickF (notT g43) rfl rfl rfl) ?_
                refine .v rfl rfl (OpL.move (.inr rfl) rfl) ?_
                refine .nil ?_
                refine ⟨by kernel_rfl, by kernel_rfl, ?_⟩
                exact toN (Gives.mkR [] (.c rfl (.rfl _) rfl (.c rfl (.rfl _) rfl (.c rfl (.rfl _) rfl (.c rfl (.rfl _) rfl (.c rfl (.rfl _) rfl (.c rfl (sbb (by simp only [g43, g44, Bool.true_or, Bool.or_true, Bool.false_or, Bool.or_false, Bool.true_and, Bool.and_true, Bool.false_and, Bool.and_false, Bool.not_true, Bool.not_false, cond_true, cond_false])) rfl .n)))))) (.c rfl (.rfl _) rfl rfl .n) rfl rfl rfl)
              · refine W.dk [[], [0], [0, 1], [0, 1, 2], [0, 1, 2, 3], [0, 1, 2, 3, 4], [0, 1, 2, 3, 4, 5], [0, 1, 2, 3, 4, 5, 6], [0, 1, 2, 3, 4, 5, 6, 7], [0, 1, 2, 3, 4, 5, 6, 7, 8], [0, 1, 2, 3, 4, 5, 6, 7], [0, 1, 2, 3, 4, 5, 6, 7], [0, 1, 2, 3, 4, 5, 6, 7, 11], [0, 1, 2, 3, 4, 5, 6, 7, 10, 11, 12], [0, 1, 2, 3, 4, 5, 6, 7, 10, 11, 12, 13], [0, 1, 2, 3, 4, 5, 6, 7, 10, 11, 12, 13, 14], [0, 1, 2, 3, 4, 5, 6, 7, 8, 9, 10, 11, 12, 13, 14, 15], [0, 1, 2, 3, 4, 5, 6, 7, 8, 9, 10, 11, 12, 13, 14, 15, 16], [0, 1, 2, 3, 4, 5, 6, 7, 8, 9, 10, 11, 12, 13, 14, 15, 16, 17], [0, 1, 2, 3, 4, 5, 6, 7, 8, 9, 10, 11, 12, 13, 14, 15, 16, 17, 18]] rfl (by kernel_rfl) ?_
                refine .v rfl rfl (O.fld fld50_0 rfl rfl rfl) ?_
                refine .v rfl rfl (O.ld ty3 rfl rfl rfl) ?_
                refine .call (.imm (.val (.bool t40))) [] 0 (calendar_Good.ok b41) rfl rfl rfl ca41 rfl rfl (cC (.imm _) .nil) rfl rfl rfl rfl rfl ?_
                refine .v rfl rfl (OpL.unV rfl rfl rfl) ?_
                refine .v rfl rfl (OpL.move (.inl rfl) rfl) ?_
                refine .v rfl (met rfl rfl rfl (notT g43)) (OpL.move (.inl rfl) rfl) ?_
                refine .v rfl (met rfl rfl rfl (notT g43)) (OpL.binI rfl rfl rfl rfl) ?_
                refine .v rfl (met rfl rfl rfl (notT g43)) (OpL.move (.inl rfl) rfl) ?_
                refine .x rfl (unmet rfl rfl rfl g44) ?_
                refine .x rfl (unmet rfl rfl rfl g44) ?_
                refine .x rfl (unmet rfl rfl rfl g44) ?_
                refine .x rfl (unmet rfl rfl rfl g44) ?_
                refine .x rfl (unmet rfl rfl rfl g44) ?_
                refine .x rfl (unmet rfl rfl rfl g44) ?_
                refine .x rfl (unmet rfl rfl rfl g44) ?_
                refine .x rfl (unmet rfl rfl rfl g44) ?_
                refine .x rfl (unmet rfl rfl rfl g44) ?_
                refine .v rfl (met rfl rfl rfl (notT g43)) (O.pickF g44 rfl rfl rfl) ?_
                refine .v rfl rfl (O.pickF (notT g43) rfl rfl rfl) ?_
                refine .v rfl rfl (OpL.move (.inr rfl) rfl) ?_
                refine .nil ?_
                refine ⟨by kernel_rfl, by kernel_rfl, ?_⟩
                exact toN (Gives.mkR [] (.c rfl (.rfl _) rfl (.c rfl (.rfl _) rfl (.c rfl (.rfl _) rfl (.c rfl (.rfl _) rfl (.c rfl (.rfl _) rfl (.c rfl (sbb (by simp only [g43, g44, Bool.true_or, Bool.or_true, Bool.false_or, Bool.or_false, Bool.true_and, Bool.and_true, Bool.false_and, Bool.and_false, Bool.not_true, Bool.not_false, cond_true, cond_false])) rfl .n)))))) (.c rfl (.rfl _) rfl rfl .n) rfl rfl rfl)
            · refine W.dk [[], [0], [0, 1], [0, 1, 2], [0, 1, 2, 3], [0, 1, 2, 3, 4], [0, 1, 2, 3, 4, 5], [0, 1, 2, 3, 4, 5, 6], [0, 1, 2, 3, 4, 5, 6, 7], [0, 1, 2, 3, 4, 5, 6, 7, 8], [0, 1, 2, 3, 4, 5, 6, 7], [0, 1, 2, 3, 4, 5, 6, 7], [0, 1, 2, 3, 4, 5, 6, 7, 11], [0, 1, 2, 3, 4, 5, 6, 7, 10, 11, 12], [0, 1, 2, 3, 4, 5, 6, 7, 10, 11, 12, 13], [0, 1, 2, 3, 4, 5, 6, 7, 10, 11, 12, 13, 14], [0, 1, 2, 3, 4, 5, 6, 7, 8, 9, 10, 11, 12, 13, 14, 15], [0, 1, 2, 3, 4, 5, 6, 7, 8, 9, 10, 11, 12, 13, 14, 15, 16], [0, 1, 2, 3, 4, 5, 6, 7, 8, 9, 10, 11, 12, 13, 14, 15, 16, 17], [0, 1, 2, 3, 4, 5, 6, 7, 8, 9, 10, 11, 12, 13, 14, 15, 16, 17, 18]] rfl (by kernel_rfl) ?_
              refine .v rfl rfl (O.fld fld50_0 rfl rfl rfl) ?_
              refine .v rfl rfl (O.ld ty3 rfl rfl rfl) ?_
              refine .call (.imm (.val (.bool t40))) [] 0 (calendar_Good.ok b41) rfl rfl rfl ca41 rfl rfl (cC (.imm _) .nil) rfl rfl rfl rfl rfl ?_
              refine .v rfl rfl (OpL.unV rfl rfl rfl) ?_
              refine .v rfl rfl (OpL.move (.inl rfl) rfl) ?_
              refine .x rfl (unmet rfl rfl rfl (notF g43)) ?_
              refine .x rfl (unmet rfl rfl rfl (notF g43)) ?_
              refine .x rfl (unmet rfl rfl rfl (notF g43)) ?_
              refine .x rfl (unmetU rfl rfl rfl) ?_
              refine .x rfl (unmetU rfl rfl rfl) ?_
              refine .x rfl (unmetU rfl rfl rfl) ?_
              refine .x rfl (unmetU rfl rfl rfl) ?_
              refine .x rfl (unmetU rfl rfl rfl) ?_
              refine .x rfl (unmetU rfl rfl rfl) ?_
              refine .x rfl (unmetU rfl rfl rfl) ?_
              refine .x rfl (unmetU rfl rfl rfl) ?_
              refine .x rfl (unmetU rfl rfl rfl) ?_
              refine .x rfl (unmet rfl rfl rfl (notF g43)) ?_
              refine .v rfl rfl (O.pickT (notF g43) rfl rfl rfl) ?_
              refine .v rfl rfl (OpL.move (.inr rfl) rfl) ?_
              refine .nil ?_
              refine ⟨by kernel_rfl, by kernel_rfl, ?_⟩
              exact toN (Gives.mkR [] (.c rfl (.rfl _) rfl (.c rfl (.rfl _) rfl (.c rfl (.rfl _) rfl (.c rfl (.rfl _) rfl (.c rfl (.rfl _) rfl (.c rfl (sbb (by simp only [g43, Bool.true_or, Bool.or_true, Bool.false_or, Bool.or_false, Bool.true_and, Bool.and_true, Bool.false_and, Bool.and_false, Bool.not_true, Bool.not_false, cond_true, cond_false])) rfl .n)))))) (.c rfl (.rfl _) rfl rfl .n) rfl rfl rfl)
        · have h := ifF q38 h
          refine W.exit ?_
          cases h
          refine rdX fun e_ => ?_
          subst e_
          refine hit ?_
          exact fkN (Gives.mkR [] .n .n rfl rfl rfl)
      · intro w34 e_
        subst e_
        clear h
        have h := z37
        dsimp only at h
        refine W.seq ?_
        refine W.pk ?_
        refine .v rfl rfl (OpL.move (.inr rfl) rfl) ?_
        refine .nil ?_
        refine W.ret ?_
        cases h
        exact leaves (.inr rfl) rfl (.imm _) (cN .nil) rfl rfl

noncomputable def lombardref02_Good.f (x0 : Int) : Option (Bool) :=
  some ((decide (x0 ≥ 0)) && (decide (x0 ≤ 200000)))
set_option maxRecDepth 100000 in
set_option maxHeartbeats 4000000 in
theorem lombardref02_Good.ok {x0 : Int} {r : Bool} (h : lombardref02_Good.f x0 = some r) : Pm.Spec prog 42 [.imm (.val (.int .i64 x0))] (.imm (.val (.bool r))) [none] := by
  unfold lombardref02_Good.f at h
  refine Pm.Spec.of_body Try.func42 rfl (by kernel_rfl) (Nat.le_of_ble_eq_true rfl) (Nat.le_of_ble_eq_true rfl) ?_
  refine W.ghost (σ' := (mkSt [(0, some (.imm (.val (.int .i64 x0))))] [] 1000)) (Gives.entry (.c rfl .n) .n) ?_
  refine W.seq ?_
  refine W.pk ?_
  refine .v rfl rfl (OpL.move (.inr rfl) rfl) ?_
  refine .nil ?_
  refine W.seq ?_
  refine W.fork (mkSt [(2, some (.imm (.val (.bool ((decide (x0 ≥ 0)) && (decide (x0 ≤ 200000)))))))] [] 1000) ?_ ?_
  · refine W.ret ?_
    cases h
    exact leaves (.inr rfl) rfl (.imm _) (cN .nil) rfl rfl
  · clear h
    rcases tf (decide (x0 ≥ 0)) with g1 | g1
    · refine W.pk ?_
      refine .v rfl rfl (OpL.move (.inl rfl) rfl) ?_
      refine .v rfl rfl (OpL.binI rfl rfl rfl rfl) ?_
      refine .v rfl rfl (OpL.move (.inl rfl) rfl) ?_
      refine .v rfl (met rfl rfl rfl g1) (OpL.move (.inl rfl) rfl) ?_
      refine .v rfl (met rfl rfl rfl g1) (OpL.binI rfl rfl rfl rfl) ?_
      refine .v rfl rfl (O.pickT g1 rfl rfl rfl) ?_
      refine .v rfl rfl (OpL.move (.inr rfl) rfl) ?_
      refine .nil ?_
      exact toN (Gives.mkR [] (.c rfl (sbb (by simp only [g1, Bool.true_or, Bool.or_true, Bool.false_or, Bool.or_false, Bool.true_and, Bool.and_true, Bool.false_and, Bool.and_false, Bool.not_true, Bool.not_false, cond_true, cond_false])) rfl .n) .n rfl rfl rfl)
    · refine W.pk ?_
      refine .v rfl rfl (OpL.move (.inl rfl) rfl) ?_
      refine .v rfl rfl (OpL.binI rfl rfl rfl rfl) ?_
      refine .v rfl rfl (OpL.move (.inl rfl) rfl) ?_
      refine .x rfl (unmet rfl rfl rfl g1) ?_
      refine .x rfl (unmet rfl rfl rfl g1) ?_
      refine .v rfl rfl (O.pickF g1 rfl rfl rfl) ?_
      refine .v rfl rfl (OpL.move (.inr rfl) rfl) ?_
      refine .nil ?_
      exact toN (Gives.mkR [] (.c rfl (sbb (by simp only [g1, Bool.true_or, Bool.or_true, Bool.false_or, Bool.or_false, Bool.true_and, Bool.and_true, Bool.false_and, Bool.and_false, Bool.not_true, Bool.not_false, cond_true, cond_false])) rfl .n) .n rfl rfl rfl)

noncomputable def lombardref03_Check.b0 (x0 : List api_Reset) (v16 : Int) : Option (Int ⊕ (Int ⊕ Unit)) :=
  if (decide (v16 < (List.length x0 : Int))) = true then
    if (0 : Int) ≤ v16 ∧ v16 < (List.length x0 : Int) then
    (lombardref02_Good.f ((nth x0 v16).Day)).bind fun t49 =>
    if ((!t49) = false ∧ (decide (v16 > 0)) = true → (0 : Int) ≤ v16 ∧ v16 < (List.length x0 : Int)) then
    if ((!t49) = false ∧ (decide (v16 > 0)) = true → (0 : Int) ≤ (IntKind.wrap .i64 (v16 - 1)) ∧ (IntKind.wrap .i64 (v16 - 1)) < (List.length x0 : Int)) then
    if ((!t49) || ((decide (v16 > 0)) && (decide (((nth x0 v16).Day) ≤ ((nth x0 (IntKind.wrap .i64 (v16 - 1))).Day))))) = true then
      some (.inr (.inl 10))
    else
      if (0 : Int) ≤ v16 ∧ v16 < (List.length x0 : Int) then
      (lombardref03_rated.f ((nth x0 v16).Rate)).bind fun t57 =>
      if (!t57) = true then
        some (.inr (.inl 1))
      else
        some (.inl (IntKind.wrap .i64 (v16 + 1)))
      else none
    else none
    else none
    else none
  else
    some (.inr (.inr ()))
noncomputable def lombardref03_Check.r0 (x0 : List api_Reset) (s : Int) : Option (Int ⊕ (Int ⊕ Unit)) := lombardref03_Check.b0 x0 s
noncomputable def lombardref03_Check.f (x0 : List api_Reset) : Option (Int) :=
  if ((List.length x0 : Int) == 0) = true then
    some 6
  else
    if (decide ((List.length x0 : Int) > 64)) = true then
      some 2
    else
      (loop (lombardref03_Check.r0 x0) 0).bind fun o44 =>
      match o44 with
      | .inl r60 => some r60
      | .inr w43 =>
        some 0
set_option maxRecDepth 100000 in
set_option maxHeartbeats 4000000 in
theorem lombardref03_Check.ok {x0 : List api_Reset} {r : Int} (h : lombardref03_Check.f x0 = some r) : Pm.Spec prog 19 [.imm (.row 2 (List.map api_Reset.enc x0))] (.imm (.val (.int .i64 r))) [none] := by
  unfold lombardref03_Check.f at h
  refine Pm.Spec.of_body Try.func19 rfl (by kernel_rfl) (Nat.le_of_ble_eq_true rfl) (Nat.le_of_ble_eq_true rfl) ?_
  refine W.ghost (σ' := (mkSt [(0, some (.imm (.row 2 (List.map api_Reset.enc x0))))] [] 1000)) (Gives.entry (.c rfl .n) .n) ?_
  refine W.seq ?_
  refine W.pk ?_
  refine .v rfl rfl (OpL.move (.inr rfl) rfl) ?_
  refine .nil ?_
  refine W.seq ?_
  refine W.seq ?_
  refine W.pk ?_
  refine .v rfl rfl (OpL.move (.inl rfl) rfl) ?_
  refine .v rfl rfl (O.lenR sl40 rfl rfl) ?_
  refine .v rfl rfl (OpL.binI rfl rfl rfl rfl) ?_
  refine .nil ?_
  refine W.cond rfl (fun q1 => ?_) (fun q1 => ?_)
  · have h := ifT q1 h
    refine W.seq ?_
    refine W.pk ?_
    refine .v rfl rfl (OpL.move (.inr rfl) rfl) ?_
    refine .nil ?_
    refine W.ret ?_
    cases h
    exact leaves (.inr rfl) rfl (.imm _) (cN .nil) rfl rfl
  · have h := ifF q1 h
    refine W.skip ?_
    refine W.seq ?_
    refine W.seq ?_
    refine W.pk ?_
    refine .v rfl rfl (OpL.move (.inl rfl) rfl) ?_
    refine .v rfl rfl (O.lenR sl40 rfl rfl) ?_
    refine .v rfl rfl (OpL.binI rfl rfl rfl rfl) ?_
    refine .nil ?_
    refine W.cond rfl (fun q2 => ?_) (fun q2 => ?_)
    · have h := ifT q2 h
      refine W.seq ?_
      refine W.pk ?_
      refine .v rfl rfl (OpL.move (.inr rfl) rfl) ?_
      refine .nil ?_
      refine W.ret ?_
      cases h
      exact leaves (.inr rfl) rfl (.imm _) (cN .nil) rfl rfl
    · have h := ifF q2 h
      refine W.skip ?_
      refine W.seq ?_
      refine W.seq ?_
      refine W.pk ?_
      refine .v rfl rfl (OpL.move (.inr rfl) rfl) ?_
      refine .nil ?_
      obtain ⟨o44, b45, z46⟩ := bnd1 h
      refine W.fork2 (out := o44) (fun (w43 : Unit) => mkSt [] [] 1000) ?_ ?_
      · clear h
        refine W.block ?_
        refine W.loopF (fun (s_ : Int) => mkSt [(0, some (.imm (.row 2 (List.map api_Reset.enc x0)))), (3, some (.imm (.val (.int .i64 s_))))] [] 1000) b45 (Gives.mkR [] (.c rfl (.rfl _) rfl (.c rfl (.rfl _) rfl .n)) .n rfl rfl rfl) ?_
        rintro v16 s_ hr
        have h : lombardref03_Check.b0 x0 v16 = some s_ := hr
        unfold lombardref03_Check.b0 at h
        refine W.seq ?_
        refine W.seq ?_
        refine W.pk ?_
        refine .v rfl rfl (OpL.move (.inl rfl) rfl) ?_
        refine .v rfl rfl (OpL.move (.inl rfl) rfl) ?_
        refine .v rfl rfl (O.lenR sl40 rfl rfl) ?_
        refine .v rfl rfl (OpL.binI rfl rfl rfl rfl) ?_
        refine .nil ?_
        refine W.cond rfl (fun q47 => ?_) (fun q47 => ?_)
        · have h := ifT q47 h
          refine W.skip ?_
          refine W.seq ?_
          refine W.block ?_
          refine W.seq ?_
          refine W.seq ?_
          obtain ⟨c48, h⟩ := chk h
          obtain ⟨t49, b50, h⟩ := bnd1 h
          obtain ⟨c51, h⟩ := chk h
          obtain ⟨c52, h⟩ := chk h
          refine W.fork (mkSt [(0, some (.imm (.row 2 (List.map api_Reset.enc x0)))), (3, some (.imm (.val (.int .i64 v16)))), (40, some (.imm (.val (.bool ((!t49) || ((decide (v16 > 0)) && (decide (((nth x0 v16).Day) ≤ ((nth x0 (IntKind.wrap .i64 (v16 - 1))).Day)))))))))] [] 1000) ?_ ?_
          · refine W.cond rfl (fun q55 => ?_) (fun q55 => ?_)
            · have h := ifT q55 h
              refine W.seq ?_
              refine W.pk ?_
              refine .v rfl rfl (OpL.move (.inr rfl) rfl) ?_
              refine .nil ?_
              refine W.ret ?_
              cases h
              refine rdR fun e_ => ?_
              subst e_
              have h := z46
              dsimp only at h
              refine fkR ?_
              cases h
              exact leaves (.inr rfl) rfl (.imm _) (cN .nil) rfl rfl
            · have h := ifF q55 h
              refine W.skip ?_
              refine W.seq ?_
              obtain ⟨c56, h⟩ := chk h
              obtain ⟨t57, b58, h⟩ := bnd1 h
              refine W.pk ?_
              refine .v rfl rfl (OpL.move (.inl rfl) rfl) ?_
              refine .v rfl rfl (OpL.move (.inl rfl) rfl) ?_
              refine .v rfl rfl (O.idx sl40 c56 rfl rfl rfl) ?_
              refine .v rfl rfl (O.fld fld50_1 rfl rfl rfl) ?_
              refine .v rfl rfl (O.ld ty3 rfl rfl rfl) ?_
              refine .call (.imm (.val (.bool t57))) [] 0 (lombardref03_rated.ok b58) rfl rfl rfl ca29 rfl rfl (cC (.imm _) .nil) rfl rfl rfl rfl rfl ?_
              refine .v rfl rfl (OpL.unV rfl rfl rfl) ?_
              refine .nil ?_
              refine W.cond rfl (fun q59 => ?_) (fun q59 => ?_)
              · have h := ifT q59 h
                refine W.seq ?_
                refine W.pk ?_
                refine .v rfl rfl (OpL.move (.inr rfl) rfl) ?_
                refine .nil ?_
                refine W.ret ?_
                cases h
                refine rdR fun e_ => ?_
                subst e_
                have h := z46
                dsimp only at h
                refine fkR ?_
                cases h
                exact leaves (.inr rfl) rfl (.imm _) (cN .nil) rfl rfl
              · have h := ifF q59 h
                refine W.skip ?_
                refine W.pk ?_
                refine .v rfl rfl (OpL.move (.inl rfl) rfl) ?_
                refine .v rfl rfl (OpL.binI rfl rfl rfl rfl) ?_
                refine .v rfl rfl (OpL.move (.inr rfl) rfl) ?_
                refine .nil ?_
                cases h
                exact rdN (Gives.mkR [] (.c rfl (.rfl _) rfl (.c rfl (.rfl _) rfl .n)) .n rfl rfl rfl)
          · clear h
            rcases tf t49 with g53 | g53
            · rcases tf (decide (v16 > 0)) with g54 | g54
              · refine W.dk [[], [], [0, 1], [0, 1, 2], [0, 1, 2, 3], [0, 1, 2, 3, 4], [0, 1, 2, 3, 4, 5], [0, 1, 2, 3, 4, 5, 6], [0, 1, 2, 3, 4, 5, 6, 7], [0, 1, 2, 3, 4, 5, 6, 7, 8], [0, 1, 2, 3, 4, 5, 6, 7, 8, 9], [0, 1, 2, 3, 4, 5, 6, 7, 8, 9, 10], [0, 1, 2, 3, 4, 5, 6, 7, 8, 9, 10], [0, 1, 2, 3, 4, 5, 6, 7, 8, 9, 10, 11, 12], [0, 1, 2, 3, 4, 5, 6, 7, 8, 9, 10, 11, 12, 13], [0, 1, 2, 3, 4, 5, 6, 7, 8, 9, 10, 11, 12, 13, 14], [0, 1, 2, 3, 4, 5, 6, 7, 8, 9, 10], [0, 1, 2, 3, 4, 5, 6, 7, 8, 9, 10], [0, 1, 2, 3, 4, 5, 6, 7, 8, 9, 10, 17], [0, 1, 2, 3, 4, 5, 6, 7, 8, 9, 10, 16, 17, 18], [0, 1, 2, 3, 4, 5, 6, 7, 8, 9, 10, 16, 17, 18, 19], [0, 1, 2, 3, 4, 5, 6, 7, 8, 9, 10, 16, 17, 18, 19, 20], [0, 1, 2, 3, 4, 5, 6, 7, 8, 9, 10, 11, 12, 13, 14, 15, 16, 17, 18, 19, 20, 21], [0, 1, 2, 3, 4, 5, 6, 7, 8, 9, 10, 11, 12, 13, 14, 15, 16, 17, 18, 19, 20, 21, 22], [0, 1, 2, 3, 4, 5, 6, 7, 8, 9, 10, 11, 12, 13, 14, 15, 16, 17, 18, 19, 20, 21, 22, 23]] rfl (by kernel_rfl) ?_
                refine .v rfl rfl (OpL.move (.inl rfl) rfl) ?_
                refine .v rfl rfl (OpL.move (.inl rfl) rfl) ?_
                refine .v rfl rfl (O.idx sl40 c48 rfl rfl rfl) ?_
                refine .v rfl rfl (O.fld fld50_0 rfl rfl rfl) ?_
                refine .v rfl rfl (O.ld ty3 rfl rfl rfl) ?_
                refine .call (.imm (.val (.bool t49))) [] 0 (lombardref02_Good.ok b50) rfl rfl rfl ca42 rfl rfl (cC (.imm _) .nil) rfl rfl rfl rfl rfl ?_
                refine .v rfl rfl (OpL.unV rfl rfl rfl) ?_
                refine .v rfl rfl (OpL.move (.inl rfl) rfl) ?_
                refine .v rfl (met rfl rfl rfl (notT g53)) (OpL.move (.inl rfl) rfl) ?_
                refine .v rfl (met rfl rfl rfl (notT g53)) (OpL.binI rfl rfl rfl rfl) ?_
                refine .v rfl (met rfl rfl rfl (notT g53)) (OpL.move (.inl rfl) rfl) ?_
                refine .v rfl (met rfl rfl rfl g54) (OpL.move (.inl rfl) rfl) ?_
                refine .v rfl (met rfl rfl rfl g54) (OpL.move (.inl rfl) rfl) ?_
                refine .v rfl (met rfl rfl rfl g54) (O.idx sl40 (c51 ⟨(by simp only [g53, g54, Bool.true_or, Bool.or_true, Bool.false_or, Bool.or_false, Bool.true_and, Bool.and_true, Bool.false_and, Bool.and_false, Bool.not_true, Bool.not_false, cond_true, cond_false]), (by simp only [g53, g54, Bool.true_or, Bool.or_true, Bool.false_or, Bool.or_false, Bool.true_and, Bool.and_true, Bool.false_and, Bool.and_false, Bool.not_true, Bool.not_false, cond_true, cond_false])⟩) rfl rfl rfl) ?_
                refine .v rfl (met rfl rfl rfl g54) (O.fld fld50_0 rfl rfl rfl) ?_
                refine .v rfl (met rfl rfl rfl g54) (O.ld ty3 rfl rfl rfl) ?_
                refine .v rfl (met rfl rfl rfl g54) (OpL.move (.inl rfl) rfl) ?_
                refine .v rfl (met rfl rfl rfl g54) (OpL.move (.inl rfl) rfl) ?_
                refine .v rfl (met rfl rfl rfl g54) (OpL.binI rfl rfl rfl rfl) ?_
                refine .v rfl (met rfl rfl rfl g54) (O.idx sl40 (c52 ⟨(by simp only [g53, g54, Bool.true_or, Bool.or_true, Bool.false_or, Bool.or_false, Bool.true_and, Bool.and_true, Bool.false_and, Bool.and_false, Bool.not_true, Bool.not_false, cond_true, cond_false]), (by simp only [g53, g54, Bool.true_or, Bool.or_true, Bool.false_or, Bool.or_false, Bool.true_and, Bool.and_true, Bool.false_and, Bool.and_false, Bool.not_true, Bool.not_false, cond_true, cond_false])⟩) rfl rfl rfl) ?_
                refine .v rfl (met rfl rfl rfl g54) (O.fld fld50_0 rfl rfl rfl) ?_
                refine .v rfl (met rfl rfl rfl g54) (O.ld ty3 rfl rfl rfl) ?_
                refine .v rfl (met rfl rfl rfl g54) (OpL.binI rfl rfl rfl rfl) ?_
                refine .v rfl (met rfl rfl rfl (notT g53)) (O.pickT g54 rfl rfl rfl) ?_
                refine .v rfl rfl (O.pickF (notT g53) rfl rfl rfl) ?_
                refine .nil ?_
                refine ⟨by kernel_rfl, by kernel_rfl, ?_⟩
                exact toN (Gives.mkR [] (.c rfl (.rfl _) rfl (.c rfl (.rfl _) rfl (.c rfl (sbb (by simp only [g53, g54, Bool.true_or, Bool.or_true, Bool.false_or, Bool.or_false, Bool.true_and, Bool.and_true, Bool.false_and, Bool.and_false, Bool.not_true, Bool.not_false, cond_true, cond_false])) rfl .n))) .n rfl rfl rfl)
              · refine W.dk [[], [], [0, 1], [0, 1, 2], [0, 1, 2, 3], [0, 1, 2, 3, 4], [0, 1, 2, 3, 4, 5], [0, 1, 2, 3, 4, 5, 6], [0, 1, 2, 3, 4, 5, 6, 7], [0, 1, 2, 3, 4, 5, 6, 7, 8], [0, 1, 2, 3, 4, 5, 6, 7, 8, 9], [0, 1, 2, 3, 4, 5, 6, 7, 8, 9, 10], [0, 1, 2, 3, 4, 5, 6, 7, 8, 9, 10], [0, 1, 2, 3, 4, 5, 6, 7, 8, 9, 10, 11, 12], [0, 1, 2, 3, 4, 5, 6, 7, 8, 9, 10, 11, 12, 13], [0, 1, 2, 3, 4, 5, 6, 7, 8, 9, 10, 11, 12, 13, 14], [0, 1, 2, 3, 4, 5, 6, 7, 8, 9, 10], [0, 1, 2, 3, 4, 5, 6, 7, 8, 9, 10], [0, 1, 2, 3, 4, 5, 6, 7, 8, 9, 10, 17], [0, 1, 2, 3, 4, 5, 6, 7, 8, 9, 10, 16, 17, 18], [0, 1, 2, 3, 4, 5, 6, 7, 8, 9, 10, 16, 17, 18, 19], [0, 1, 2, 3, 4, 5, 6, 7, 8, 9, 10, 16, 17, 18, 19, 20], [0, 1, 2, 3, 4, 5, 6, 7, 8, 9, 10, 11, 12, 13, 14, 15, 16, 17, 18, 19, 20, 21], [0, 1, 2, 3, 4, 5, 6, 7, 8, 9, 10, 11, 12, 13, 14, 15, 16, 17, 18, 19, 20, 21, 22], [0, 1, 2, 3, 4, 5, 6, 7, 8, 9, 10, 11, 12, 13, 14, 15, 16, 17, 18, 19, 20, 21, 22, 23]] rfl (by kernel_rfl) ?_
                refine .v rfl rfl (OpL.move (.inl rfl) rfl) ?_
                refine .v rfl rfl (OpL.move (.inl rfl) rfl) ?_
                refine .v rfl rfl (O.idx sl40 c48 rfl rfl rfl) ?_
                refine .v rfl rfl (O.fld fld50_0 rfl rfl rfl) ?_
                refine .v rfl rfl (O.ld ty3 rfl rfl rfl) ?_
                refine .call (.imm (.val (.bool t49))) [] 0 (lombardref02_Good.ok b50) rfl rfl rfl ca42 rfl rfl (cC (.imm _) .nil) rfl rfl rfl rfl rfl ?_
                refine .v rfl rfl (OpL.unV rfl rfl rfl) ?_
                refine .v rfl rfl (OpL.move (.inl rfl) rfl) ?_
                refine .v rfl (met rfl rfl rfl (notT g53)) (OpL.move (.inl rfl) rfl) ?_
                refine .v rfl (met rfl rfl rfl (notT g53)) (OpL.binI rfl rfl rfl rfl) ?_
                refine .v rfl (met rfl rfl rfl (notT g53)) (OpL.move (.inl rfl) rfl) ?_
                refine .x rfl (unmet rfl rfl rfl g54) ?_
                refine .x rfl (unmet rfl rfl rfl g54) ?_
                refine .x rfl (unmet rfl rfl rfl g54) ?_
                refine .x rfl (unmet rfl rfl rfl g54) ?_
                refine .x rfl (unmet rfl rfl rfl g54) ?_
                refine .x rfl (unmet rfl rfl rfl g54) ?_
                refine .x rfl (unmet rfl rfl rfl g54) ?_
                refine .x rfl (unmet rfl rfl rfl g54) ?_
                refine .x rfl (unmet rfl rfl rfl g54) ?_
                refine .x rfl (unmet rfl rfl rfl g54) ?_
                refine .x rfl (unmet rfl rfl rfl g54) ?_
                refine .x rfl (unmet rfl rfl rfl g54) ?_
                refine .v rfl (met rfl rfl rfl (notT g53)) (O.pickF g54 rfl rfl rfl) ?_
                refine .v rfl rfl (O.pickF (notT g53) rfl rfl rfl) ?_
                refine .nil ?_
                refine ⟨by kernel_rfl, by kernel_rfl, ?_⟩
                exact toN (Gives.mkR [] (.c rfl (.rfl _) rfl (.c rfl (.rfl _) rfl (.c rfl (sbb (by simp only [g53, g54, Bool.true_or, Bool.or_true, Bool.false_or, Bool.or_false, Bool.true_and, Bool.and_true, Bool.false_and, Bool.and_false, Bool.not_true, Bool.not_false, cond_true, cond_false])) rfl .n))) .n rfl rfl rfl)
            · refine W.dk [[], [], [0, 1], [0, 1, 2], [0, 1, 2, 3], [0, 1, 2, 3, 4], [0, 1, 2, 3, 4, 5], [0, 1, 2, 3, 4, 5, 6], [0, 1, 2, 3, 4, 5, 6, 7], [0, 1, 2, 3, 4, 5, 6, 7, 8], [0, 1, 2, 3, 4, 5, 6, 7, 8, 9], [0, 1, 2, 3, 4, 5, 6, 7, 8, 9, 10], [0, 1, 2, 3, 4, 5, 6, 7, 8, 9, 10], [0, 1, 2, 3, 4, 5, 6, 7, 8, 9, 10, 11, 12], [0, 1, 2, 3, 4, 5, 6, 7, 8, 9, 10, 11, 12, 13], [0, 1, 2, 3, 4, 5, 6, 7, 8, 9, 10, 11, 12, 13, 14], [0, 1, 2, 3, 4, 5, 6, 7, 8, 9, 10], [0, 1, 2, 3, 4, 5, 6, 7, 8, 9, 10], [0, 1, 2, 3, 4, 5, 6, 7, 8, 9, 10, 17], [0, 1, 2, 3, 4, 5, 6, 7, 8, 9, 10, 16, 17, 18], [0, 1, 2, 3, 4, 5, 6, 7, 8, 9, 10, 16, 17, 18, 19], [0, 1, 2, 3, 4, 5, 6, 7, 8, 9, 10, 16, 17, 18, 19, 20], [0, 1, 2, 3, 4, 5, 6, 7, 8, 9, 10, 11, 12, 13, 14, 15, 16, 17, 18, 19, 20, 21], [0, 1, 2, 3, 4, 5, 6, 7, 8, 9, 10, 11, 12, 13, 14, 15, 16, 17, 18, 19, 20, 21, 22], [0, 1, 2, 3, 4, 5, 6, 7, 8, 9, 10, 11, 12, 13, 14, 15, 16, 17, 18, 19, 20, 21, 22, 23]] rfl (by kernel_rfl) ?_
              refine .v rfl rfl (OpL.move (.inl rfl) rfl) ?_
              refine .v rfl rfl (OpL.move (.inl rfl) rfl) ?_
              refine .v rfl rfl (O.idx sl40 c48 rfl rfl rfl) ?_
              refine .v rfl rfl (O.fld fld50_0 rfl rfl rfl) ?_
              refine .v rfl rfl (O.ld ty3 rfl rfl rfl) ?_
              refine .call (.imm (.val (.bool t49))) [] 0 (lombardref02_Good.ok b50) rfl rfl rfl ca42 rfl rfl (cC (.imm _) .nil) rfl rfl rfl rfl rfl ?_
              refine .v rfl rfl (OpL.unV rfl rfl rfl) ?_
              refine .v rfl rfl (OpL.move (.inl rfl) rfl) ?_
              refine .x rfl (unmet rfl rfl rfl (notF g53)) ?_
              refine .x rfl (unmet rfl rfl rfl (notF g53)) ?_
              refine .x rfl (unmet rfl rfl rfl (notF g53)) ?_
              refine .x rfl (unmetU rfl rfl rfl) ?_
              refine .x rfl (unmetU rfl rfl rfl) ?_
              refine .x rfl (unmetU rfl rfl rfl) ?_
              refine .x rfl (unmetU rfl rfl rfl) ?_
              refine .x rfl (unmetU rfl rfl rfl) ?_
              refine .x rfl (unmetU rfl rfl rfl) ?_
              refine .x rfl (unmetU rfl rfl rfl) ?_
              refine .x rfl (unmetU rfl rfl rfl) ?_
              refine .x rfl (unmetU rfl rfl rfl) ?_
              refine .x rfl (unmetU rfl rfl rfl) ?_
              refine .x rfl (unmetU rfl rfl rfl) ?_
              refine .x rfl (unmetU rfl rfl rfl) ?_
              refine .x rfl (unmet rfl rfl rfl (notF g53)) ?_
              refine .v rfl rfl (O.pickT (notF g53) rfl rfl rfl) ?_
              refine .nil ?_
              refine ⟨by kernel_rfl, by kernel_rfl, ?_⟩
              exact toN (Gives.mkR [] (.c rfl (.rfl _) rfl (.c rfl (.rfl _) rfl (.c rfl (sbb (by simp only [g53, Bool.true_or, Bool.or_true, Bool.false_or, Bool.or_false, Bool.true_and, Bool.and_true, Bool.false_and, Bool.and_false, Bool.not_true, Bool.not_false, cond_true, cond_false])) rfl .n))) .n rfl rfl rfl)
        · have h := ifF q47 h
          refine W.exit ?_
          cases h
          refine rdX fun e_ => ?_
          subst e_
          refine hit ?_
          exact fkN (Gives.mkR [] .n .n rfl rfl rfl)
      · intro w43 e_
        subst e_
        clear h
        have h := z46
        dsimp only at h
        refine W.seq ?_
        refine W.pk ?_
        refine .v rfl rfl (OpL.move (.inr rfl) rfl) ?_
        refine .nil ?_
        refine W.ret ?_
        cases h
        exact leaves (.inr rfl) rfl (.imm _) (cN .nil) rfl rfl
end Go.Proofs.Ytipgpnagfmlahaa
