/- Shows what functions of the program come to, each as a plain function: written by a program of the author's for this claim. -/
import Derived.Test.YtdcpdnfalnelkaaGx9
namespace Go.Proofs.Ytdcpdnfalnelkaa
open Go Go.Pm
set_option linter.unusedVariables false
set_option linter.unusedSimpArgs false
noncomputable def fixnum_Minus.f (x0 : Int) (x1 : Int) : Option (Int × Int) :=
  if ((((decide (x0 ≥ 0)) && (decide (x1 < 0))) && (decide ((IntKind.wrap .i64 (x0 - x1)) < 0))) || (((decide (x0 < 0)) && (decide (x1 > 0))) && (decide ((IntKind.wrap .i64 (x0 - x1)) ≥ 0)))) = true then
    some (0, 9)
  else
    some ((IntKind.wrap .i64 (x0 - x1)), 0)
set_option maxRecDepth 100000 in
set_option maxHeartbeats 4000000 in
theorem fixnum_Minus.ok {x0 : Int} {x1 : Int} {r : Int × Int} (h : fixnum_Minus.f x0 x1 = some r) : Pm.Spec prog 46 [.imm (.val (.int .i64 x0)), .imm (.val (.int .i64 x1))] (.tup [.imm (.val (.int .i64 r.1)), .imm (.val (.int .i64 r.2))]) [none, none] := by
  unfold fixnum_Minus.f at h
  refine Pm.Spec.of_body Try.func46 rfl (by kernel_rfl) (Nat.le_of_ble_eq_true rfl) (Nat.le_of_ble_eq_true rfl) ?_
  refine W.ghost (σ' := (mkSt [(0, some (.imm (.val (.int .i64 x0)))), (1, some (.imm (.val (.int .i64 x1))))] [] 1000)) (Gives.entry (.c rfl (.c rfl .n)) .n) ?_
  refine W.seq ?_
  refine W.pk ?_
  refine .v rfl rfl (OpL.move (.inr rfl) rfl) ?_
  refine .v rfl rfl (OpL.move (.inr rfl) rfl) ?_
  refine .nil ?_
  refine W.seq ?_
  refine W.pk ?_
  refine .v rfl rfl (OpL.move (.inl rfl) rfl) ?_
  refine .v rfl rfl (OpL.move (.inl rfl) rfl) ?_
  refine .v rfl rfl (OpL.binI rfl rfl rfl rfl) ?_
  refine .v rfl rfl (OpL.move (.inr rfl) rfl) ?_
  refine .nil ?_
  refine W.seq ?_
  refine W.seq ?_
  refine W.fork (mkSt [(6, some (.imm (.val (.int .i64 (IntKind.wrap .i64 (x0 - x1)))))), (31, some (.imm (.val (.bool ((((decide (x0 ≥ 0)) && (decide (x1 < 0))) && (decide ((IntKind.wrap .i64 (x0 - x1)) < 0))) || (((decide (x0 < 0)) && (decide (x1 > 0))) && (decide ((IntKind.wrap .i64 (x0 - x1)) ≥ 0))))))))] [] 1000) ?_ ?_
  · refine W.cond rfl (fun q10 => ?_) (fun q10 => ?_)
    · have h := ifT q10 h
      refine W.seq ?_
      refine W.pk ?_
      refine .v rfl rfl (OpL.move (.inr rfl) rfl) ?_
      refine .v rfl rfl (OpL.move (.inr rfl) rfl) ?_
      refine .nil ?_
      refine W.ret ?_
      cases h
      exact leaves (.inr rfl) rfl (.tup _ _ _ _ (cC (.imm _) (cC (.imm _) .nil))) (cN (cN .nil)) rfl rfl
    · have h := ifF q10 h
      refine W.skip ?_
      refine W.seq ?_
      refine W.pk ?_
      refine .v rfl rfl (OpL.move (.inl rfl) rfl) ?_
      refine .v rfl rfl (OpL.move (.inr rfl) rfl) ?_
      refine .v rfl rfl (OpL.move (.inr rfl) rfl) ?_
      refine .nil ?_
      refine W.ret ?_
      cases h
      exact leaves (.inr rfl) rfl (.tup _ _ _ _ (cC (.imm _) (cC (.imm _) .nil))) (cN (cN .nil)) rfl rfl
  · clear h
    rcases tf (decide (x0 ≥ 0)) with g1 | g1
    · rcases tf (decide (x1 < 0)) with g2 | g2
      · rcases tf (decide ((IntKind.wrap .i64 (x0 - x1)) < 0)) with g3 | g3
        · refine W.pk ?_
          refine .v rfl rfl (OpL.move (.inl rfl) rfl) ?_
          refine .v rfl rfl (OpL.binI rfl rfl rfl rfl) ?_
          refine .v rfl rfl (OpL.move (.inl rfl) rfl) ?_
          refine .v rfl (met rfl rfl rfl g1) (OpL.move (.inl rfl) rfl) ?_
          refine .v rfl (met rfl rfl rfl g1) (OpL.binI rfl rfl rfl rfl) ?_
          refine .v rfl rfl (O.pickT g1 rfl rfl rfl) ?_
          refine .v rfl rfl (OpL.move (.inl rfl) rfl) ?_
          refine .v rfl (met rfl rfl rfl g2) (OpL.move (.inl rfl) rfl) ?_
          refine .v rfl (met rfl rfl rfl g2) (OpL.binI rfl rfl rfl rfl) ?_
          refine .v rfl rfl (O.pickT g2 rfl rfl rfl) ?_
          refine .v rfl rfl (OpL.move (.inl rfl) rfl) ?_
          refine .x rfl (unmet rfl rfl rfl g3) ?_
          refine .x rfl (unmet rfl rfl rfl g3) ?_
          refine .x rfl (unmet rfl rfl rfl g3) ?_
          refine .x rfl (unmetU rfl rfl rfl) ?_
          refine .x rfl (unmetU rfl rfl rfl) ?_
          refine .x rfl (unmet rfl rfl rfl g3) ?_
          refine .x rfl (unmet rfl rfl rfl g3) ?_
          refine .x rfl (unmetU rfl rfl rfl) ?_
          refine .x rfl (unmetU rfl rfl rfl) ?_
          refine .x rfl (unmet rfl rfl rfl g3) ?_
          refine .v rfl rfl (O.pickT g3 rfl rfl rfl) ?_
          refine .nil ?_
          exact toN (Gives.mkR [] (.c rfl (.rfl _) rfl (.c rfl (sbb (by simp only [g1, g2, g3, Bool.true_or, Bool.or_true, Bool.false_or, Bool.or_false, Bool.true_and, Bool.and_true, Bool.false_and, Bool.and_false, Bool.not_true, Bool.not_false, cond_true, cond_false])) rfl .n)) .n rfl rfl rfl)
        · rcases tf (decide (x0 < 0)) with g4 | g4
          · rcases tf (decide (x1 > 0)) with g5 | g5
            · refine W.pk ?_
              refine .v rfl rfl (OpL.move (.inl rfl) rfl) ?_
              refine .v rfl rfl (OpL.binI rfl rfl rfl rfl) ?_
              refine .v rfl rfl (OpL.move (.inl rfl) rfl) ?_
              refine .v rfl (met rfl rfl rfl g1) (OpL.move (.inl rfl) rfl) ?_
              refine .v rfl (met rfl rfl rfl g1) (OpL.binI rfl rfl rfl rfl) ?_
              refine .v rfl rfl (O.pickT g1 rfl rfl rfl) ?_
              refine .v rfl rfl (OpL.move (.inl rfl) rfl) ?_
              refine .v rfl (met rfl rfl rfl g2) (OpL.move (.inl rfl) rfl) ?_
              refine .v rfl (met rfl rfl rfl g2) (OpL.binI rfl rfl rfl rfl) ?_
              refine .v rfl rfl (O.pickT g2 rfl rfl rfl) ?_
              refine .v rfl rfl (OpL.move (.inl rfl) rfl) ?_
              refine .v rfl (met rfl rfl rfl g3) (OpL.move (.inl rfl) rfl) ?_
              refine .v rfl (met rfl rfl rfl g3) (OpL.binI rfl rfl rfl rfl) ?_
              refine .v rfl (met rfl rfl rfl g3) (OpL.move (.inl rfl) rfl) ?_
              refine .v rfl (met rfl rfl rfl g4) (OpL.move (.inl rfl) rfl) ?_
              refine .v rfl (met rfl rfl rfl g4) (OpL.binI rfl rfl rfl rfl) ?_
              refine .v rfl (met rfl rfl rfl g3) (O.pickT g4 rfl rfl rfl) ?_
              refine .v rfl (met rfl rfl rfl g3) (OpL.move (.inl rfl) rfl) ?_
              refine .v rfl (met rfl rfl rfl g5) (OpL.move (.inl rfl) rfl) ?_
              refine .v rfl (met rfl rfl rfl g5) (OpL.binI rfl rfl rfl rfl) ?_
              refine .v rfl (met rfl rfl rfl g3) (O.pickT g5 rfl rfl rfl) ?_
              refine .v rfl rfl (O.pickF g3 rfl rfl rfl) ?_
              refine .nil ?_
              exact toN (Gives.mkR [] (.c rfl (.rfl _) rfl (.c rfl (sbb (by simp only [g1, g2, g3, g4, g5, Bool.true_or, Bool.or_true, Bool.false_or, Bool.or_false, Bool.true_and, Bool.and_true, Bool.false_and, Bool.and_false, Bool.not_true, Bool.not_false, cond_true, cond_false])) rfl .n)) .n rfl rfl rfl)
            · refine W.pk ?_
              refine .v rfl rfl (OpL.move (.inl rfl) rfl) ?_
              refine .v rfl rfl (OpL.binI rfl rfl rfl rfl) ?_
              refine .v rfl rfl (OpL.move (.inl rfl) rfl) ?_
              refine .v rfl (met rfl rfl rfl g1) (OpL.move (.inl rfl) rfl) ?_
              refine .v rfl (met rfl rfl rfl g1) (OpL.binI rfl rfl rfl rfl) ?_
              refine .v rfl rfl (O.pickT g1 rfl rfl rfl) ?_
              refine .v rfl rfl (OpL.move (.inl rfl) rfl) ?_
              refine .v rfl (met rfl rfl rfl g2) (OpL.move (.inl rfl) rfl) ?_
              refine .v rfl (met rfl rfl rfl g2) (OpL.binI rfl rfl rfl rfl) ?_
              refine .v rfl rfl (O.pickT g2 rfl rfl rfl) ?_
              refine .v rfl rfl (OpL.move (.inl rfl) rfl) ?_
              refine .v rfl (met rfl rfl rfl g3) (OpL.move (.inl rfl) rfl) ?_
              refine .v rfl (met rfl rfl rfl g3) (OpL.binI rfl rfl rfl rfl) ?_
              refine .v rfl (met rfl rfl rfl g3) (OpL.move (.inl rfl) rfl) ?_
              refine .v rfl (met rfl rfl rfl g4) (OpL.move (.inl rfl) rfl) ?_
              refine .v rfl (met rfl rfl rfl g4) (OpL.binI rfl rfl rfl rfl) ?_
              refine .v rfl (met rfl rfl rfl g3) (O.pickT g4 rfl rfl rfl) ?_
              refine .v rfl (met rfl rfl rfl g3) (OpL.move (.inl rfl) rfl) ?_
              refine .x rfl (unmet rfl rfl rfl g5) ?_
              refine .x rfl (unmet rfl rfl rfl g5) ?_
              refine .v rfl (met rfl rfl rfl g3) (O.pickF g5 rfl rfl rfl) ?_
              refine .v rfl rfl (O.pickF g3 rfl rfl rfl) ?_
              refine .nil ?_
              exact toN (Gives.mkR [] (.c rfl (.rfl _) rfl (.c rfl (sbb (by simp only [g1, g2, g3, g4, g5, Bool.true_or, Bool.or_true, Bool.false_or, Bool.or_false, Bool.true_and, Bool.and_true, Bool.false_and, Bool.and_false, Bool.not_true, Bool.not_false, cond_true, cond_false])) rfl .n)) .n rfl rfl rfl)
          · refine W.pk ?_
            refine .v rfl rfl (OpL.move (.inl rfl) rfl) ?_
            refine .v rfl rfl (OpL.binI rfl rfl rfl rfl) ?_
            refine .v rfl rfl (OpL.move (.inl rfl) rfl) ?_
            refine .v rfl (met rfl rfl rfl g1) (OpL.move (.inl rfl) rfl) ?_
            refine .v rfl (met rfl rfl rfl g1) (OpL.binI rfl rfl rfl rfl) ?_
            refine .v rfl rfl (O.pickT g1 rfl rfl rfl) ?_
            refine .v rfl rfl (OpL.move (.inl rfl) rfl) ?_
            refine .v rfl (met rfl rfl rfl g2) (OpL.move (.inl rfl) rfl) ?_
            refine .v rfl (met rfl rfl rfl g2) (OpL.binI rfl rfl rfl rfl) ?_
            refine .v rfl rfl (O.pickT g2 rfl rfl rfl) ?_
            refine .v rfl rfl (OpL.move (.inl rfl) rfl) ?_
            refine .v rfl (met rfl rfl rfl g3) (OpL.move (.inl rfl) rfl) ?_
            refine .v rfl (met rfl rfl rfl g3) (OpL.binI rfl rfl rfl rfl) ?_
            refine .v rfl (met rfl rfl rfl g3) (OpL.move (.inl rfl) rfl) ?_
            refine .x rfl (unmet rfl rfl rfl g4) ?_
            refine .x rfl (unmet rfl rfl rfl g4) ?_
            refine .v rfl (met rfl rfl rfl g3) (O.pickF g4 rfl rfl rfl) ?_
            refine .v rfl (met rfl rfl rfl g3) (OpL.move (.inl rfl) rfl) ?_
            refine .x rfl (unmet rfl rfl rfl rfl) ?_
            refine .x rfl (unmet rfl rfl rfl rfl) ?_
            refine .v rfl (met rfl rfl rfl g3) (O.pickF rfl rfl rfl rfl) ?_
            refine .v rfl rfl (O.pickF g3 rfl rfl rfl) ?_
            refine .nil ?_
            exact toN (Gives.mkR [] (.c rfl (.rfl _) rfl (.c rfl (sbb (by simp only [g1, g2, g3, g4, Bool.true_or, Bool.or_true, Bool.false_or, Bool.or_false, Bool.true_and, Bool.and_true, Bool.false_and, Bool.and_false, Bool.not_true, Bool.not_false, cond_true, cond_false])) rfl .n)) .n rfl rfl rfl)
      · rcases tf (decide (x0 < 0)) with g6 | g6
        · rcases tf (decide (x1 > 0)) with g7 | g7
          · refine W.pk ?_
            refine .v rfl rfl (OpL.move (.inl rfl) rfl) ?_
            refine .v rfl rfl (OpL.binI rfl rfl rfl rfl) ?_
            refine .v rfl rfl (OpL.move (.inl rfl) rfl) ?_
            refine .v rfl (met rfl rfl rfl g1) (OpL.move (.inl rfl) rfl) ?_
            refine .v rfl (met rfl rfl rfl g1) (OpL.binI rfl rfl rfl rfl) ?_
            refine .v rfl rfl (O.pickT g1 rfl rfl rfl) ?_
            refine .v rfl rfl (OpL.move (.inl rfl) rfl) ?_
            refine .x rfl (unmet rfl rfl rfl g2) ?_
            refine .x rfl (unmet rfl rfl rfl g2) ?_
            refine .v rfl rfl (O.pickF g2 rfl rfl rfl) ?_
            refine .v rfl rfl (OpL.move (.inl rfl) rfl) ?_
            refine .v rfl (met rfl rfl rfl rfl) (OpL.move (.inl rfl) rfl) ?_
            refine .v rfl (met rfl rfl rfl rfl) (OpL.binI rfl rfl rfl rfl) ?_
            refine .v rfl (met rfl rfl rfl rfl) (OpL.move (.inl rfl) rfl) ?_
            refine .v rfl (met rfl rfl rfl g6) (OpL.move (.inl rfl) rfl) ?_
            refine .v rfl (met rfl rfl rfl g6) (OpL.binI rfl rfl rfl rfl) ?_
            refine .v rfl (met rfl rfl rfl rfl) (O.pickT g6 rfl rfl rfl) ?_
            refine .v rfl (met rfl rfl rfl rfl) (OpL.move (.inl rfl) rfl) ?_
            refine .v rfl (met rfl rfl rfl g7) (OpL.move (.inl rfl) rfl) ?_
            refine .v rfl (met rfl rfl rfl g7) (OpL.binI rfl rfl rfl rfl) ?_
            refine .v rfl (met rfl rfl rfl rfl) (O.pickT g7 rfl rfl rfl) ?_
            refine .v rfl rfl (O.pickF rfl rfl rfl rfl) ?_
            refine .nil ?_
            exact toN (Gives.mkR [] (.c rfl (.rfl _) rfl (.c rfl (sbb (by simp only [g1, g2, g6, g7, Bool.true_or, Bool.or_true, Bool.false_or, Bool.or_false, Bool.true_and, Bool.and_true, Bool.false_and, Bool.and_false, Bool.not_true, Bool.not_false, cond_true, cond_false])) rfl .n)) .n rfl rfl rfl)
          · refine W.pk ?_
            refine .v rfl rfl (OpL.move (.inl rfl) rfl) ?_
            refine .v rfl rfl (OpL.binI rfl rfl rfl rfl) ?_
            refine .v rfl rfl (OpL.move (.inl rfl) rfl) ?_
            refine .v rfl (met rfl rfl rfl g1) (OpL.move (.inl rfl) rfl) ?_
            refine .v rfl (met rfl rfl rfl g1) (OpL.binI rfl rfl rfl rfl) ?_
            refine .v rfl rfl (O.pickT g1 rfl rfl rfl) ?_
            refine .v rfl rfl (OpL.move (.inl rfl) rfl) ?_
            refine .x rfl (unmet rfl rfl rfl g2) ?_
            refine .x rfl (unmet rfl rfl rfl g2) ?_
            refine .v rfl rfl (O.pickF g2 rfl rfl rfl) ?_
            refine .v rfl rfl (OpL.move (.inl rfl) rfl) ?_
            refine .v rfl (met rfl rfl rfl rfl) (OpL.move (.inl rfl) rfl) ?_
            refine .v rfl (met rfl rfl rfl rfl) (OpL.binI rfl rfl rfl rfl) ?_
            refine .v rfl (met rfl rfl rfl rfl) (OpL.move (.inl rfl) rfl) ?_
            refine .v rfl (met rfl rfl rfl g6) (OpL.move (.inl rfl) rfl) ?_
            refine .v rfl (met rfl rfl rfl g6) (OpL.binI rfl rfl rfl rfl) ?_
            refine .v rfl (met rfl rfl rfl rfl) (O.pickT g6 rfl rfl rfl) ?_
            refine .v rfl (met rfl rfl rfl rfl) (OpL.move (.inl rfl) rfl) ?_
            refine .x rfl (unmet rfl rfl rfl g7) ?_
            refine .x rfl (unmet rfl rfl rfl g7) ?_
            refine .v rfl (met rfl rfl rfl rfl) (O.pickF g7 rfl rfl rfl) ?_
            refine .v rfl rfl (O.pickF rfl rfl rfl rfl) ?_
            refine .nil ?_
            exact toN (Gives.mkR [] (.c rfl (.rfl _) rfl (.c rfl (sbb (by simp only [g1, g2, g6, g7, Bool.true_or, Bool.or_true, Bool.false_or, Bool.or_false, Bool.true_and, Bool.and_true, Bool.false_and, Bool.and_false, Bool.not_true, Bool.not_false, cond_true, cond_false])) rfl .n)) .n rfl rfl rfl)
        · refine W.pk ?_
          refine .v rfl rfl (OpL.move (.inl rfl) rfl) ?_
          refine .v rfl rfl (OpL.binI rfl rfl rfl rfl) ?_
          refine .v rfl rfl (OpL.move (.inl rfl) rfl) ?_
          refine .v rfl (met rfl rfl rfl g1) (OpL.move (.inl rfl) rfl) ?_
          refine .v rfl (met rfl rfl rfl g1) (OpL.binI rfl rfl rfl rfl) ?_
          refine .v rfl rfl (O.pickT g1 rfl rfl rfl) ?_
          refine .v rfl rfl (OpL.move (.inl rfl) rfl) ?_
          refine .x rfl (unmet rfl rfl rfl g2) ?_
          refine .x rfl (unmet rfl rfl rfl g2) ?_
          refine .v rfl rfl (O.pickF g2 rfl rfl rfl) ?_
          refine .v rfl rfl (OpL.move (.inl rfl) rfl) ?_
          refine .v rfl (met rfl rfl rfl rfl) (OpL.move (.inl rfl) rfl) ?_
          refine .v rfl (met rfl rfl rfl rfl) (OpL.binI rfl rfl rfl rfl) ?_
          refine .v rfl (met rfl rfl rfl rfl) (OpL.move (.inl rfl) rfl) ?_
          refine .x rfl (unmet rfl rfl rfl g6) ?_
          refine .x rfl (unmet rfl rfl rfl g6) ?_
          refine .v rfl (met rfl rfl rfl rfl) (O.pickF g6 rfl rfl rfl) ?_
          refine .v rfl (met rfl rfl rfl rfl) (OpL.move (.inl rfl) rfl) ?_
          refine .x rfl (unmet rfl rfl rfl rfl) ?_
          refine .x rfl (unmet rfl rfl rfl rfl) ?_
          refine .v rfl (met rfl rfl rfl rfl) (O.pickF rfl rfl rfl rfl) ?_
          refine .v rfl rfl (O.pickF rfl rfl rfl rfl) ?_
          refine .nil ?_
          exact toN (Gives.mkR [] (.c rfl (.rfl _) rfl (.c rfl (sbb (by simp only [g1, g2, g6, Bool.true_or, Bool.or_true, Bool.false_or, Bool.or_false, Bool.true_and, Bool.and_true, Bool.false_and, Bool.and_false, Bool.not_true, Bool.not_false, cond_true, cond_false])) rfl .n)) .n rfl rfl rfl)
    · rcases tf (decide (x0 < 0)) with g8 | g8
      · rcases tf (decide (x1 > 0)) with g9 | g9
        · refine W.pk ?_
          refine .v rfl rfl (OpL.move (.inl rfl) rfl) ?_
          refine .v rfl rfl (OpL.binI rfl rfl rfl rfl) ?_
          refine .v rfl rfl (OpL.move (.inl rfl) rfl) ?_
          refine .x rfl (unmet rfl rfl rfl g1) ?_
          refine .x rfl (unmet rfl rfl rfl g1) ?_
          refine .v rfl rfl (O.pickF g1 rfl rfl rfl) ?_
          refine .v rfl rfl (OpL.move (.inl rfl) rfl) ?_
          refine .x rfl (unmet rfl rfl rfl rfl) ?_
          refine .x rfl (unmet rfl rfl rfl rfl) ?_
          refine .v rfl rfl (O.pickF rfl rfl rfl rfl) ?_
          refine .v rfl rfl (OpL.move (.inl rfl) rfl) ?_
          refine .v rfl (met rfl rfl rfl rfl) (OpL.move (.inl rfl) rfl) ?_
          refine .v rfl (met rfl rfl rfl rfl) (OpL.binI rfl rfl rfl rfl) ?_
          refine .v rfl (met rfl rfl rfl rfl) (OpL.move (.inl rfl) rfl) ?_
          refine .v rfl (met rfl rfl rfl g8) (OpL.move (.inl rfl) rfl) ?_
          refine .v rfl (met rfl rfl rfl g8) (OpL.binI rfl rfl rfl rfl) ?_
          refine .v rfl (met rfl rfl rfl rfl) (O.pickT g8 rfl rfl rfl) ?_
          refine .v rfl (met rfl rfl rfl rfl) (OpL.move (.inl rfl) rfl) ?_
          refine .v rfl (met rfl rfl rfl g9) (OpL.move (.inl rfl) rfl) ?_
          refine .v rfl (met rfl rfl rfl g9) (OpL.binI rfl rfl rfl rfl) ?_
          refine .v rfl (met rfl rfl rfl rfl) (O.pickT g9 rfl rfl rfl) ?_
          refine .v rfl rfl (O.pickF rfl rfl rfl rfl) ?_
          refine .nil ?_
          exact toN (Gives.mkR [] (.c rfl (.rfl _) rfl (.c rfl (sbb (by simp only [g1, g8, g9, Bool.true_or, Bool.or_true, Bool.false_or, Bool.or_false, Bool.true_and, Bool.and_true, Bool.false_and, Bool.and_false, Bool.not_true, Bool.not_false, cond_true, cond_false])) rfl .n)) .n rfl rfl rfl)
        · refine W.pk ?_
          refine .v rfl rfl (OpL.move (.inl rfl) rfl) ?_
          refine .v rfl rfl (OpL.binI rfl rfl rfl rfl) ?_
          refine .v rfl rfl (OpL.move (.inl rfl) rfl) ?_
          refine .x rfl (unmet rfl rfl rfl g1) ?_
          refine .x rfl (unmet rfl rfl rfl g1) ?_
          refine .v rfl rfl (O.pickF g1 rfl rfl rfl) ?_
          refine .v rfl rfl (OpL.move (.inl rfl) rfl) ?_
          refine .x rfl (unmet rfl rfl rfl rfl) ?_
          refine .x rfl (unmet rfl rfl rfl rfl) ?_
          refine .v rfl rfl (O.pickF rfl rfl rfl rfl) ?_
          refine .v rfl rfl (OpL.move (.inl rfl) rfl) ?_
          refine .v rfl (met rfl rfl rfl rfl) (OpL.move (.inl rfl) rfl) ?_
          refine .v rfl (met rfl rfl rfl rfl) (OpL.binI rfl rfl rfl rfl) ?_
          refine .v rfl (met rfl rfl rfl rfl) (OpL.move (.inl rfl) rfl) ?_
          refine .v rfl (met rfl rfl rfl g8) (OpL.move (.inl rfl) rfl) ?_
          refine .v rfl (met rfl rfl rfl g8) (OpL.binI rfl rfl rfl rfl) ?_
          refine .v rfl (met rfl rfl rfl rfl) (O.pickT g8 rfl rfl rfl) ?_
          refine .v rfl (met rfl rfl rfl rfl) (OpL.move (.inl rfl) rfl) ?_
          refine .x rfl (unmet rfl rfl rfl g9) ?_
          refine .x rfl (unmet rfl rfl rfl g9) ?_
          refine .v rfl (met rfl rfl rfl rfl) (O.pickF g9 rfl rfl rfl) ?_
          refine .v rfl rfl (O.pickF rfl rfl rfl rfl) ?_
          refine .nil ?_
          exact toN (Gives.mkR [] (.c rfl (.rfl _) rfl (.c rfl (sbb (by simp only [g1, g8, g9, Bool.true_or, Bool.or_true, Bool.false_or, Bool.or_false, Bool.true_and, Bool.and_true, Bool.false_and, Bool.and_false, Bool.not_true, Bool.not_false, cond_true, cond_false])) rfl .n)) .n rfl rfl rfl)
      · refine W.pk ?_
        refine .v rfl rfl (OpL.move (.inl rfl) rfl) ?_
        refine .v rfl rfl (OpL.binI rfl rfl rfl rfl) ?_
        refine .v rfl rfl (OpL.move (.inl rfl) rfl) ?_
        refine .x rfl (unmet rfl rfl rfl g1) ?_
        refine .x rfl (unmet rfl rfl rfl g1) ?_
        refine .v rfl rfl (O.pickF g1 rfl rfl rfl) ?_
        refine .v rfl rfl (OpL.move (.inl rfl) rfl) ?_
        refine .x rfl (unmet rfl rfl rfl rfl) ?_
        refine .x rfl (unmet rfl rfl rfl rfl) ?_
        refine .v rfl rfl (O.pickF rfl rfl rfl rfl) ?_
        refine .v rfl rfl (OpL.move (.inl rfl) rfl) ?_
        refine .v rfl (met rfl rfl rfl rfl) (OpL.move (.inl rfl) rfl) ?_
        refine .v rfl (met rfl rfl rfl rfl) (OpL.binI rfl rfl rfl rfl) ?_
        refine .v rfl (met rfl rfl rfl rfl) (OpL.move (.inl rfl) rfl) ?_
        refine .x rfl (unmet rfl rfl rfl g8) ?_
        refine .x rfl (unmet rfl rfl rfl g8) ?_
        refine .v rfl (met rfl rfl rfl rfl) (O.pickF g8 rfl rfl rfl) ?_
        refine .v rfl (met rfl rfl rfl rfl) (OpL.move (.inl rfl) rfl) ?_
        refine .x rfl (unmet rfl rfl rfl rfl) ?_
        refine .x rfl (unmet rfl rfl rfl rfl) ?_
        refine .v rfl (met rfl rfl rfl rfl) (O.pickF rfl rfl rfl rfl) ?_
        refine .v rfl rfl (O.pickF rfl rfl rfl rfl) ?_
        refine .nil ?_
        exact toN (Gives.mkR [] (.c rfl (.rfl _) rfl (.c rfl (sbb (by simp only [g1, g8, Bool.true_or, Bool.or_true, Bool.false_or, Bool.or_false, Bool.true_and, Bool.and_true, Bool.false_and, Bool.and_false, Bool.not_true, Bool.not_false, cond_true, cond_false])) rfl .n)) .n rfl rfl rfl)

noncomputable def haircut_Margin.f (x0 : List haircut_Item) (x1 : Int) : Option (Int × Int) :=
  (haircut_Total.f x0).bind fun t1 =>
  if (t1.2 != 0) = true then
    some (0, t1.2)
  else
    (fixnum_Minus.f t1.1 x1).bind fun t4 =>
    some (t4.1, t4.2)
set_option maxRecDepth 100000 in
set_option maxHeartbeats 4000000 in
theorem haircut_Margin.ok {x0 : List haircut_Item} {x1 : Int} {r : Int × Int} (h : haircut_Margin.f x0 x1 = some r) : Pm.Spec prog 24 [.xown 48 9 (List.map haircut_Item.enc x0), .imm (.val (.int .i64 x1))] (.tup [.imm (.val (.int .i64 r.1)), .imm (.val (.int .i64 r.2))]) [some (.xown 48 9 (List.map haircut_Item.enc x0)), none] := by
  unfold haircut_Margin.f at h
  refine Pm.Spec.of_body Try.func24 rfl (by kernel_rfl) (Nat.le_of_ble_eq_true rfl) (Nat.le_of_ble_eq_true rfl) ?_
  refine W.ghost (σ' := (mkSt [(0, some (.own 0)), (1, some (.imm (.val (.int .i64 x1))))] [(0, some (.rows 48 9 (List.map haircut_Item.enc x0) false))] 1000)) (Gives.entry (.c rfl (.c rfl .n)) (.c rfl .n)) ?_
  refine W.seq ?_
  refine W.pk ?_
  refine .v rfl rfl (OpL.move (.inr rfl) rfl) ?_
  refine .v rfl rfl (OpL.move (.inr rfl) rfl) ?_
  refine .nil ?_
  refine W.seq ?_
  obtain ⟨t1, b2, h⟩ := bnd1 h
  refine W.pk ?_
  refine .v rfl rfl (OpL.move (.inl rfl) rfl) ?_
  refine .call (.tup [.imm (.val (.int .i64 t1.1)), .imm (.val (.int .i64 t1.2))]) [(0, some (.rows 48 9 (List.map haircut_Item.enc x0) false)), (0, none)] 0 (haircut_Total.ok b2) rfl rfl rfl ca22 rfl rfl (cC (.own _ _ _ _ rfl) .nil) rfl rfl rfl rfl rfl ?_
  refine .v rfl rfl (OpL.move (.inl rfl) rfl) ?_
  refine .v rfl rfl (OpL.extract rfl rfl rfl) ?_
  refine .v rfl rfl (OpL.extract rfl rfl rfl) ?_
  refine .v rfl rfl (OpL.move (.inr rfl) rfl) ?_
  refine .v rfl rfl (OpL.move (.inr rfl) rfl) ?_
  refine .nil ?_
  refine W.seq ?_
  refine W.seq ?_
  refine W.pk ?_
  refine .v rfl rfl (OpL.move (.inl rfl) rfl) ?_
  refine .v rfl rfl (OpL.binI rfl rfl rfl rfl) ?_
  refine .nil ?_
  refine W.cond rfl (fun q3 => ?_) (fun q3 => ?_)
  · have h := ifT q3 h
    refine W.seq ?_
    refine W.pk ?_
    refine .v rfl rfl (OpL.move (.inl rfl) rfl) ?_
    refine .v rfl rfl (OpL.move (.inr rfl) rfl) ?_
    refine .v rfl rfl (OpL.move (.inr rfl) rfl) ?_
    refine .nil ?_
    refine W.ret ?_
    cases h
    exact leaves (.inr rfl) rfl (.tup _ _ _ _ (cC (.imm _) (cC (.imm _) .nil))) (cS (.own _ _ _ _ rfl) (cN .nil)) rfl rfl
  · have h := ifF q3 h
    refine W.skip ?_
    refine W.seq ?_
    obtain ⟨t4, b5, h⟩ := bnd1 h
    refine W.pk ?_
    refine .v rfl rfl (OpL.move (.inl rfl) rfl) ?_
    refine .v rfl rfl (OpL.move (.inl rfl) rfl) ?_
    refine .call (.tup [.imm (.val (.int .i64 t4.1)), .imm (.val (.int .i64 t4.2))]) [] 0 (fixnum_Minus.ok b5) rfl rfl rfl ca46 rfl rfl (cC (.imm _) (cC (.imm _) .nil)) rfl rfl rfl rfl rfl ?_
    refine .v rfl rfl (OpL.extract rfl rfl rfl) ?_
    refine .v rfl rfl (OpL.extract rfl rfl rfl) ?_
    refine .v rfl rfl (OpL.move (.inr rfl) rfl) ?_
    refine .v rfl rfl (OpL.move (.inr rfl) rfl) ?_
    refine .nil ?_
    refine W.ret ?_
    cases h
    exact leaves (.inr rfl) rfl (.tup _ _ _ _ (cC (.imm _) (cC (.imm _) .nil))) (cS (.own _ _ _ _ rfl) (cN .nil)) rfl rfl

noncomputable def lombardref01_Minus.f (x0 : Int) (x1 : Int) : Option (Int × Int) :=
  if (((decide (x1 < 0)) && (decide (x0 > (IntKind.wrap .i64 (9223372036854775807 + x1))))) || ((decide (x1 > 0)) && (decide (x0 < (IntKind.wrap .i64 ((-9223372036854775808) + x1)))))) = true then
    some (0, 9)
  else
    some ((IntKind.wrap .i64 (x0 - x1)), 0)
set_option maxRecDepth 100000 in
set_option maxHeartbeats 4000000 in
theorem lombardref01_Minus.ok {x0 : Int} {x1 : Int} {r : Int × Int} (h : lombardref01_Minus.f x0 x1 = some r) : Pm.Spec prog 25 [.imm (.val (.int .i64 x0)), .imm (.val (.int .i64 x1))] (.tup [.imm (.val (.int .i64 r.1)), .imm (.val (.int .i64 r.2))]) [none, none] := by
  unfold lombardref01_Minus.f at h
  refine Pm.Spec.of_body Try.func25 rfl (by kernel_rfl) (Nat.le_of_ble_eq_true rfl) (Nat.le_of_ble_eq_true rfl) ?_
  refine W.ghost (σ' := (mkSt [(0, some (.imm (.val (.int .i64 x0)))), (1, some (.imm (.val (.int .i64 x1))))] [] 1000)) (Gives.entry (.c rfl (.c rfl .n)) .n) ?_
  refine W.seq ?_
  refine W.pk ?_
  refine .v rfl rfl (OpL.move (.inr rfl) rfl) ?_
  refine .v rfl rfl (OpL.move (.inr rfl) rfl) ?_
  refine .nil ?_
  refine W.seq ?_
  refine W.seq ?_
  refine W.fork (mkSt [(0, some (.imm (.val (.int .i64 x0)))), (1, some (.imm (.val (.int .i64 x1)))), (23, some (.imm (.val (.bool (((decide (x1 < 0)) && (decide (x0 > (IntKind.wrap .i64 (9223372036854775807 + x1))))) || ((decide (x1 > 0)) && (decide (x0 < (IntKind.wrap .i64 ((-9223372036854775808) + x1))))))))))] [] 1000) ?_ ?_
  · refine W.cond rfl (fun q5 => ?_) (fun q5 => ?_)
    · have h := ifT q5 h
      refine W.seq ?_
      refine W.pk ?_
      refine .v rfl rfl (OpL.move (.inr rfl) rfl) ?_
      refine .v rfl rfl (OpL.move (.inr rfl) rfl) ?_
      refine .nil ?_
      refine W.ret ?_
      cases h
      exact leaves (.inr rfl) rfl (.tup _ _ _ _ (cC (.imm _) (cC (.imm _) .nil))) (cN (cN .nil)) rfl rfl
    · have h := ifF q5 h
      refine W.skip ?_
      refine W.seq ?_
      refine W.pk ?_
      refine .v rfl rfl (OpL.move (.inl rfl) rfl) ?_
      refine .v rfl rfl (OpL.move (.inl rfl) rfl) ?_
      refine .v rfl rfl (OpL.binI rfl rfl rfl rfl) ?_
      refine .v rfl rfl (OpL.move (.inr rfl) rfl) ?_
      refine .v rfl rfl (OpL.move (.inr rfl) rfl) ?_
      refine .nil ?_
      refine W.ret ?_
      cases h
      exact leaves (.inr rfl) rfl (.tup _ _ _ _ (cC (.imm _) (cC (.imm _) .nil))) (cN (cN .nil)) rfl rfl
  · clear h
    rcases tf (decide (x1 < 0)) with g1 | g1
    · rcases tf (decide (x0 > (IntKind.wrap .i64 (9223372036854775807 + x1)))) with g2 | g2
      · refine W.pk ?_
        refine .v rfl rfl (OpL.move (.inl rfl) rfl) ?_
        refine .v rfl rfl (OpL.binI rfl rfl rfl rfl) ?_
        refine .v rfl rfl (OpL.move (.inl rfl) rfl) ?_
        refine .v rfl (met rfl rfl rfl g1) (OpL.move (.inl rfl) rfl) ?_
        refine .v rfl (met rfl rfl rfl g1) (OpL.move (.inl rfl) rfl) ?_
        refine .v rfl (met rfl rfl rfl g1) (OpL.binI rfl rfl rfl rfl) ?_
        refine .v rfl (met rfl rfl rfl g1) (OpL.binI rfl rfl rfl rfl) ?_
        refine .v rfl rfl (O.pickT g1 rfl rfl rfl) ?_
        refine .v rfl rfl (OpL.move (.inl rfl) rfl) ?_
        refine .x rfl (unmet rfl rfl rfl g2) ?_
        refine .x rfl (unmet rfl rfl rfl g2) ?_
        refine .x rfl (unmet rfl rfl rfl g2) ?_
        refine .x rfl (unmetU rfl rfl rfl) ?_
        refine .x rfl (unmetU rfl rfl rfl) ?_
        refine .x rfl (unmetU rfl rfl rfl) ?_
        refine .x rfl (unmetU rfl rfl rfl) ?_
        refine .x rfl (unmet rfl rfl rfl g2) ?_
        refine .v rfl rfl (O.pickT g2 rfl rfl rfl) ?_
        refine .nil ?_
        exact toN (Gives.mkR [] (.c rfl (.rfl _) rfl (.c rfl (.rfl _) rfl (.c rfl (sbb (by simp only [g1, g2, Bool.true_or, Bool.or_true, Bool.false_or, Bool.or_false, Bool.true_and, Bool.and_true, Bool.false_and, Bool.and_false, Bool.not_true, Bool.not_false, cond_true, cond_false])) rfl .n))) .n rfl rfl rfl)
      · rcases tf (decide (x1 > 0)) with g3 | g3
        · refine W.pk ?_
          refine .v rfl rfl (OpL.move (.inl rfl) rfl) ?_
          refine .v rfl rfl (OpL.binI rfl rfl rfl rfl) ?_
          refine .v rfl rfl (OpL.move (.inl rfl) rfl) ?_
          refine .v rfl (met rfl rfl rfl g1) (OpL.move (.inl rfl) rfl) ?_
          refine .v rfl (met rfl rfl rfl g1) (OpL.move (.inl rfl) rfl) ?_
          refine .v rfl (met rfl rfl rfl g1) (OpL.binI rfl rfl rfl rfl) ?_
          refine .v rfl (met rfl rfl rfl g1) (OpL.binI rfl rfl rfl rfl) ?_
          refine .v rfl rfl (O.pickT g1 rfl rfl rfl) ?_
          refine .v rfl rfl (OpL.move (.inl rfl) rfl) ?_
          refine .v rfl (met rfl rfl rfl g2) (OpL.move (.inl rfl) rfl) ?_
          refine .v rfl (met rfl rfl rfl g2) (OpL.binI rfl rfl rfl rfl) ?_
          refine .v rfl (met rfl rfl rfl g2) (OpL.move (.inl rfl) rfl) ?_
          refine .v rfl (met rfl rfl rfl g3) (OpL.move (.inl rfl) rfl) ?_
          refine .v rfl (met rfl rfl rfl g3) (OpL.move (.inl rfl) rfl) ?_
          refine .v rfl (met rfl rfl rfl g3) (OpL.binI rfl rfl rfl rfl) ?_
          refine .v rfl (met rfl rfl rfl g3) (OpL.binI rfl rfl rfl rfl) ?_
          refine .v rfl (met rfl rfl rfl g2) (O.pickT g3 rfl rfl rfl) ?_
          refine .v rfl rfl (O.pickF g2 rfl rfl rfl) ?_
          refine .nil ?_
          exact toN (Gives.mkR [] (.c rfl (.rfl _) rfl (.c rfl (.rfl _) rfl (.c rfl (sbb (by simp only [g1, g2, g3, Bool.true_or, Bool.or_true, Bool.false_or, Bool.or_false, Bool.true_and, Bool.and_true, Bool.false_and, Bool.and_false, Bool.not_true, Bool.not_false, cond_true, cond_false])) rfl .n))) .n rfl rfl rfl)
        · refine W.pk ?_
          refine .v rfl rfl (OpL.move (.inl rfl) rfl) ?_
          refine .v rfl rfl (OpL.binI rfl rfl rfl rfl) ?_
          refine .v rfl rfl (OpL.move (.inl rfl) rfl) ?_
          refine .v rfl (met rfl rfl rfl g1) (OpL.move (.inl rfl) rfl) ?_
          refine .v rfl (met rfl rfl rfl g1) (OpL.move (.inl rfl) rfl) ?_
          refine .v rfl (met rfl rfl rfl g1) (OpL.binI rfl rfl rfl rfl) ?_
          refine .v rfl (met rfl rfl rfl g1) (OpL.binI rfl rfl rfl rfl) ?_
          refine .v rfl rfl (O.pickT g1 rfl rfl rfl) ?_
          refine .v rfl rfl (OpL.move (.inl rfl) rfl) ?_
          refine .v rfl (met rfl rfl rfl g2) (OpL.move (.inl rfl) rfl) ?_
          refine .v rfl (met rfl rfl rfl g2) (OpL.binI rfl rfl rfl rfl) ?_
          refine .v rfl (met rfl rfl rfl g2) (OpL.move (.inl rfl) rfl) ?_
          refine .x rfl (unmet rfl rfl rfl g3) ?_
          refine .x rfl (unmet rfl rfl rfl g3) ?_
          refine .x rfl (unmet rfl rfl rfl g3) ?_
          refine .x rfl (unmet rfl rfl rfl g3) ?_
          refine .v rfl (met rfl rfl rfl g2) (O.pickF g3 rfl rfl rfl) ?_
          refine .v rfl rfl (O.pickF g2 rfl rfl rfl) ?_
          refine .nil ?_
          exact toN (Gives.mkR [] (.c rfl (.rfl _) rfl (.c rfl (.rfl _) rfl (.c rfl (sbb (by simp only [g1, g2, g3, Bool.true_or, Bool.or_true, Bool.false_or, Bool.or_false, Bool.true_and, Bool.and_true, Bool.false_and, Bool.and_false, Bool.not_true, Bool.not_false, cond_true, cond_false])) rfl .n))) .n rfl rfl rfl)
    · rcases tf (decide (x1 > 0)) with g4 | g4
      · refine W.pk ?_
        refine .v rfl rfl (OpL.move (.inl rfl) rfl) ?_
        refine .v rfl rfl (OpL.binI rfl rfl rfl rfl) ?_
        refine .v rfl rfl (OpL.move (.inl rfl) rfl) ?_
        refine .x rfl (unmet rfl rfl rfl g1) ?_
        refine .x rfl (unmet rfl rfl rfl g1) ?_
        refine .x rfl (unmet rfl rfl rfl g1) ?_
        refine .x rfl (unmet rfl rfl rfl g1) ?_
        refine .v rfl rfl (O.pickF g1 rfl rfl rfl) ?_
        refine .v rfl rfl (OpL.move (.inl rfl) rfl) ?_
        refine .v rfl (met rfl rfl rfl rfl) (OpL.move (.inl rfl) rfl) ?_
        refine .v rfl (met rfl rfl rfl rfl) (OpL.binI rfl rfl rfl rfl) ?_
        refine .v rfl (met rfl rfl rfl rfl) (OpL.move (.inl rfl) rfl) ?_
        refine .v rfl (met rfl rfl rfl g4) (OpL.move (.inl rfl) rfl) ?_
        refine .v rfl (met rfl rfl rfl g4) (OpL.move (.inl rfl) rfl) ?_
        refine .v rfl (met rfl rfl rfl g4) (OpL.binI rfl rfl rfl rfl) ?_
        refine .v rfl (met rfl rfl rfl g4) (OpL.binI rfl rfl rfl rfl) ?_
        refine .v rfl (met rfl rfl rfl rfl) (O.pickT g4 rfl rfl rfl) ?_
        refine .v rfl rfl (O.pickF rfl rfl rfl rfl) ?_
        refine .nil ?_
        exact toN (Gives.mkR [] (.c rfl (.rfl _) rfl (.c rfl (.rfl _) rfl (.c rfl (sbb (by simp only [g1, g4, Bool.true_or, Bool.or_true, Bool.false_or, Bool.or_false, Bool.true_and, Bool.and_true, Bool.false_and, Bool.and_false, Bool.not_true, Bool.not_false, cond_true, cond_false])) rfl .n))) .n rfl rfl rfl)
      · refine W.pk ?_
        refine .v rfl rfl (OpL.move (.inl rfl) rfl) ?_
        refine .v rfl rfl (OpL.binI rfl rfl rfl rfl) ?_
        refine .v rfl rfl (OpL.move (.inl rfl) rfl) ?_
        refine .x rfl (unmet rfl rfl rfl g1) ?_
        refine .x rfl (unmet rfl rfl rfl g1) ?_
        refine .x rfl (unmet rfl rfl rfl g1) ?_
        refine .x rfl (unmet rfl rfl rfl g1) ?_
        refine .v rfl rfl (O.pickF g1 rfl rfl rfl) ?_
        refine .v rfl rfl (OpL.move (.inl rfl) rfl) ?_
        refine .v rfl (met rfl rfl rfl rfl) (OpL.move (.inl rfl) rfl) ?_
        refine .v rfl (met rfl rfl rfl rfl) (OpL.binI rfl rfl rfl rfl) ?_
        refine .v rfl (met rfl rfl rfl rfl) (OpL.move (.inl rfl) rfl) ?_
        refine .x rfl (unmet rfl rfl rfl g4) ?_
        refine .x rfl (unmet rfl rfl rfl g4) ?_
        refine .x rfl (unmet rfl rfl rfl g4) ?_
        refine .x rfl (unmet rfl rfl rfl g4) ?_
        refine .v rfl (met rfl rfl rfl rfl) (O.pickF g4 rfl rfl rfl) ?_
        refine .v rfl rfl (O.pickF rfl rfl rfl rfl) ?_
        refine .nil ?_
        exact toN (Gives.mkR [] (.c rfl (.rfl _) rfl (.c rfl (.rfl _) rfl (.c rfl (sbb (by simp only [g1, g4, Bool.true_or, Bool.or_true, Bool.false_or, Bool.or_false, Bool.true_and, Bool.and_true, Bool.false_and, Bool.and_false, Bool.not_true, Bool.not_false, cond_true, cond_false])) rfl .n))) .n rfl rfl rfl)

noncomputable def lombardlaw15_HaircutTotals.b0 (x0 : List lombardref15_Item) (t4 : List haircut_Item) (v14 : Int) : Option (Int ⊕ (Bool ⊕ Unit)) :=
  if (decide (v14 < (List.length x0 : Int))) = true then
    if (0 : Int) ≤ v14 ∧ v14 < (List.length t4 : Int) then
    (haircut_Item_Cover.f (⟨((nth t4 v14).Lot), ((nth t4 v14).Asset), (nth t4 v14).Price, (nth t4 v14).Cut⟩ : haircut_Item)).bind fun t37 =>
    if (0 : Int) ≤ v14 ∧ v14 < (List.length x0 : Int) then
    (lombardref15_Item_Covers.f (⟨((nth x0 v14).Lot), ((nth x0 v14).Asset), (nth x0 v14).Price, (nth x0 v14).Cut⟩ : lombardref15_Item)).bind fun t40 =>
    if (t37 != t40) = true then
      some (.inr (.inl false))
    else
      some (.inl (IntKind.wrap .i64 (v14 + 1)))
    else none
    else none
  else
    some (.inr (.inr ()))
noncomputable def lombardlaw15_HaircutTotals.r0 (x0 : List lombardref15_Item) (t4 : List haircut_Item) (s : Int) : Option (Int ⊕ (Bool ⊕ Unit)) := lombardlaw15_HaircutTotals.b0 x0 t4 s
noncomputable def lombardlaw15_HaircutTotals.f (x0 : List lombardref15_Item) (x1 : Int) : Option (Bool) :=
  if (decide ((List.length x0 : Int) > 100)) = true then
    (lombardlaw15_awake.f).bind fun t2 =>
    some t2
  else
    (lombardlaw15_items.f x0).bind fun t4 =>
    (loop (lombardlaw15_HaircutTotals.r0 x0 t4) 0).bind fun o32 =>
    match o32 with
    | .inl r43 => some r43
    | .inr w31 =>
      (haircut_Total.f t4).bind fun t44 =>
      (lombardref15_Total.f x0).bind fun t46 =>
      (haircut_Margin.f t4 x1).bind fun t48 =>
      (lombardref01_Minus.f t46.1 x1).bind fun t50 =>
      ((
        if (t46.2 != 0) = true then
          some (0, t46.2)
        else
          some (t50.1, t50.2) : Option (Int × Int))).bind fun o55 =>
      (if ((((t44.1 == t46.1) && (t44.2 == t46.2)) && (t48.1 == o55.1)) && (t48.2 == o55.2)) = true then lombardlaw15_awake.f else some default).bind fun t58 =>
      some (((((t44.1 == t46.1) && (t44.2 == t46.2)) && (t48.1 == o55.1)) && (t48.2 == o55.2)) && t58)
set_option maxRecDepth 100000 in
set_option maxHeartbeats 4000000 in
theorem lombardlaw15_HaircutTotals.ok {x0 : List lombardref15_Item} {x1 : Int} {r : Bool} (h : lombardlaw15_HaircutTotals.f x0 x1 = some r) : Pm.Spec prog 7 [.imm (.row 9 (List.map lombardref15_Item.enc x0)), .imm (.val (.int .i64 x1))] (.imm (.val (.bool r))) [none, none] := by
  unfold lombardlaw15_HaircutTotals.f at h
  refine Pm.Spec.of_body Try.func7 rfl (by kernel_rfl) (Nat.le_of_ble_eq_true rfl) (Nat.le_of_ble_eq_true rfl) ?_
  refine W.ghost (σ' := (mkSt [(0, some (.imm (.row 9 (List.map lombardref15_Item.enc x0)))), (1, some (.imm (.val (.int .i64 x1))))] [] 1000)) (Gives.entry (.c rfl (.c rfl .n)) .n) ?_
  refine W.seq ?_
  refine W.pk ?_
  refine .v rfl rfl (OpL.move (.inr rfl) rfl) ?_
  refine .nil ?_
  refine W.seq ?_
  refine W.seq ?_
  refine W.pk ?_
  refine .v rfl rfl (OpL.move (.inl rfl) rfl) ?_
  refine .v rfl rfl (O.lenR sl42 rfl rfl) ?_
  refine .v rfl rfl (OpL.binI rfl rfl rfl rfl) ?_
  refine .nil ?_
  refine W.cond rfl (fun q1 => ?_) (fun q1 => ?_)
  · have h := ifT q1 h
    refine W.seq ?_
    obtain ⟨t2, b3, h⟩ := bnd1 h
    refine W.pk ?_
    refine .call (.imm (.val (.bool t2))) [] 0 (lombardlaw15_awake.ok b3) rfl rfl rfl ca9 rfl rfl .nil rfl rfl rfl rfl rfl ?_
    refine .v rfl rfl (OpL.move (.inr rfl) rfl) ?_
    refine .nil ?_
    refine W.ret ?_
    cases h
    exact leaves (.inr rfl) rfl (.imm _) (cN (cN .nil)) rfl rfl
  · have h := ifF q1 h
    refine W.skip ?_
    refine W.seq ?_
    obtain ⟨t4, b5, h⟩ := bnd1 h
    refine W.pk ?_
    refine .v rfl rfl (OpL.move (.inl rfl) rfl) ?_
    refine .call (.own 1000) [(1000, some (.rows 48 9 (List.map haircut_Item.enc t4) false))] 1 (lombardlaw15_items.ok b5) rfl rfl rfl ca19 rfl rfl (cC (.imm _) .nil) rfl rfl rfl rfl rfl ?_
    refine .v rfl rfl (OpL.move (.inr rfl) rfl) ?_
    refine .nil ?_
    refine W.seq ?_
    refine W.seq ?_
    refine W.pk ?_
    refine .v rfl rfl (OpL.move (.inr rfl) rfl) ?_
    refine .nil ?_
    obtain ⟨o32, b33, z34⟩ := bnd1 h
    refine W.fork2 (out := o32) (fun (w31 : Unit) => mkSt [(0, some (.imm (.row 9 (List.map lombardref15_Item.enc x0)))), (1, some (.imm (.val (.int .i64 x1)))), (5, some (.own 1000))] [(1000, some (.rows 48 9 (List.map haircut_Item.enc t4) false))] 1001) ?_ ?_
    · clear h
      refine W.block ?_
      refine W.loopF (fun (s_ : Int) => mkSt [(0, some (.imm (.row 9 (List.map lombardref15_Item.enc x0)))), (1, some (.imm (.val (.int .i64 x1)))), (5, some (.own 1000)), (6, some (.imm (.val (.int .i64 s_))))] [(1000, some (.rows 48 9 (List.map haircut_Item.enc t4) false))] 1001) b33 (Gives.mkR [] (.c rfl (.rfl _) rfl (.c rfl (.rfl _) rfl (.c rfl (.rfl _) rfl (.c rfl (.rfl _) rfl .n)))) (.c rfl (.rfl _) rfl rfl .n) rfl rfl rfl) ?_
      rintro v14 s_ hr
      have h : lombardlaw15_HaircutTotals.b0 x0 t4 v14 = some s_ := hr
      unfold lombardlaw15_HaircutTotals.b0 at h
      refine W.seq ?_
      refine W.seq ?_
      refine W.pk ?_
      refine .v rfl rfl (OpL.move (.inl rfl) rfl) ?_
      refine .v rfl rfl (OpL.move (.inl rfl) rfl) ?_
      refine .v rfl rfl (O.lenR sl42 rfl rfl) ?_
      refine .v rfl rfl (OpL.binI rfl rfl rfl rfl) ?_
      refine .nil ?_
      refine W.cond rfl (fun q35 => ?_) (fun q35 => ?_)
      · have h := ifT q35 h
        refine W.skip ?_
        refine W.seq ?_
        refine W.block ?_
        refine W.seq ?_
        obtain ⟨c36, h⟩ := chk h
        obtain ⟨t37, b38, h⟩ := bnd1 h
        obtain ⟨c39, h⟩ := chk h
        obtain ⟨t40, b41, h⟩ := bnd1 h
        refine W.dk [[], [], [0, 1], [0, 1, 2], [0, 1, 2, 3], [], [], [5, 6], [5, 6, 7], [0, 1, 2, 3, 4, 5, 6, 7, 8], [0, 1, 2, 3, 4, 5, 6, 7, 8, 9]] rfl (by kernel_rfl) ?_
        refine .v rfl rfl (OpL.move (.inl rfl) rfl) ?_
        refine .v rfl rfl (OpL.move (.inl rfl) rfl) ?_
        refine .v rfl rfl (O.idxO sl43 c36 rfl rfl rfl rfl) ?_
        refine .v rfl rfl (O.ldEN ty48 c36 rfl rfl rfl rfl rfl) ?_
        refine .call (.imm (.val (.int .i64 t37))) [] 0 (haircut_Item_Cover.ok b38) rfl rfl rfl ca20 rfl rfl (cC (.agg _ _ _ _ (cC (.imm _) (cC (.imm _) (cC (.imm _) (cC (.imm _) (cC (.imm _) (cC (.imm _) (cC (.imm _) (cC (.imm _) (cC (.imm _) .nil)))))))))) .nil) rfl rfl rfl rfl rfl ?_
        refine .v rfl rfl (OpL.move (.inl rfl) rfl) ?_
        refine .v rfl rfl (OpL.move (.inl rfl) rfl) ?_
        refine .v rfl rfl (O.idx sl42 c39 rfl rfl rfl) ?_
        refine .v rfl rfl (O.ldN ty50 rfl rfl rfl) ?_
        refine .call (.imm (.val (.int .i64 t40))) [] 0 (lombardref15_Item_Covers.ok b41) rfl rfl rfl ca21 rfl rfl (cC (.agg _ _ _ _ (cC (.imm _) (cC (.imm _) (cC (.imm _) (cC (.imm _) (cC (.imm _) (cC (.imm _) (cC (.imm _) (cC (.imm _) (cC (.imm _) .nil)))))))))) .nil) rfl rfl rfl rfl rfl ?_
        refine .v rfl rfl (OpL.binI rfl rfl rfl rfl) ?_
        refine .nil ?_
        refine ⟨by kernel_rfl, by kernel_rfl, ?_⟩
        refine W.cond rfl (fun q42 => ?_) (fun q42 => ?_)
        · have h := ifT q42 h
          refine W.seq ?_
          refine W.pk ?_
          refine .v rfl rfl (OpL.move (.inr rfl) rfl) ?_
          refine .nil ?_
          refine W.ret ?_
          cases h
          refine rdR fun e_ => ?_
          subst e_
          have h := z34
          dsimp only at h
          refine fkR ?_
          cases h
          exact leaves (.inr rfl) rfl (.imm _) (cN (cN .nil)) rfl rfl
        · have h := ifF q42 h
          refine W.skip ?_
          refine W.pk ?_
          refine .v rfl rfl (OpL.move (.inl rfl) rfl) ?_
          refine .v rfl rfl (OpL.binI rfl rfl rfl rfl) ?_
          refine .v rfl rfl (OpL.move (.inr rfl) rfl) ?_
          refine .nil ?_
          cases h
          exact rdN (Gives.mkR [] (.c rfl (.rfl _) rfl (.c rfl (.rfl _) rfl (.c rfl (.rfl _) rfl (.c rfl (.rfl _) rfl .n)))) (.c rfl (.rfl _) rfl rfl .n) rfl rfl rfl)
      · have h := ifF q35 h
        refine W.exit ?_
        cases h
        refine rdX fun e_ => ?_
        subst e_
        refine hit ?_
        exact fkN (Gives.mkR [] (.c rfl (.rfl _) rfl (.c rfl (.rfl _) rfl (.c rfl (.rfl _) rfl .n))) (.c rfl (.rfl _) rfl rfl .n) rfl rfl rfl)
    · intro w31 e_
      subst e_
      clear h
      have h := z34
      dsimp only at h
      refine W.seq ?_
      obtain ⟨t44, b45, h⟩ := bnd1 h
      refine W.pk ?_
      refine .v rfl rfl (OpL.move (.inl rfl) rfl) ?_
      refine .call (.tup [.imm (.val (.int .i64 t44.1)), .imm (.val (.int .i64 t44.2))]) [(1000, some (.rows 48 9 (List.map haircut_Item.enc t4) false)), (1000, none)] 0 (haircut_Total.ok b45) rfl rfl rfl ca22 rfl rfl (cC (.own _ _ _ _ rfl) .nil) rfl rfl rfl rfl rfl ?_
      refine .v rfl rfl (OpL.move (.inl rfl) rfl) ?_
      refine .v rfl rfl (OpL.extract rfl rfl rfl) ?_
      refine .v rfl rfl (OpL.extract rfl rfl rfl) ?_
      refine .v rfl rfl (OpL.move (.inr rfl) rfl) ?_
      refine .v rfl rfl (OpL.move (.inr rfl) rfl) ?_
      refine .nil ?_
      refine W.seq ?_
      obtain ⟨t46, b47, h⟩ := bnd1 h
      refine W.pk ?_
      refine .v rfl rfl (OpL.move (.inl rfl) rfl) ?_
      refine .call (.tup [.imm (.val (.int .i64 t46.1)), .imm (.val (.int .i64 t46.2))]) [] 0 (lombardref15_Total.ok b47) rfl rfl rfl ca23 rfl rfl (cC (.imm _) .nil) rfl rfl rfl rfl rfl ?_
      refine .v rfl rfl (OpL.move (.inl rfl) rfl) ?_
      refine .v rfl rfl (OpL.extract rfl rfl rfl) ?_
      refine .v rfl rfl (OpL.extract rfl rfl rfl) ?_
      refine .v rfl rfl (OpL.move (.inr rfl) rfl) ?_
      refine .v rfl rfl (OpL.move (.inr rfl) rfl) ?_
      refine .nil ?_
      refine W.seq ?_
      obtain ⟨t48, b49, h⟩ := bnd1 h
      refine W.pk ?_
      refine .v rfl rfl (OpL.move (.inl rfl) rfl) ?_
      refine .v rfl rfl (OpL.move (.inl rfl) rfl) ?_
      refine .call (.tup [.imm (.val (.int .i64 t48.1)), .imm (.val (.int .i64 t48.2))]) [(1000, some (.rows 48 9 (List.map haircut_Item.enc t4) false)), (1000, none)] 0 (haircut_Margin.ok b49) rfl rfl rfl ca24 rfl rfl (cC (.own _ _ _ _ rfl) (cC (.imm _) .nil)) rfl rfl rfl rfl rfl ?_
      refine .v rfl rfl (OpL.move (.inl rfl) rfl) ?_
      refine .v rfl rfl (OpL.extract rfl rfl rfl) ?_
      refine .v rfl rfl (OpL.extract rfl rfl rfl) ?_
      refine .v rfl rfl (OpL.move (.inr rfl) rfl) ?_
      refine .v rfl rfl (OpL.move (.inr rfl) rfl) ?_
      refine .nil ?_
      refine W.seq ?_
      obtain ⟨t50, b51, h⟩ := bnd1 h
      refine W.pk ?_
      refine .v rfl rfl (OpL.move (.inl rfl) rfl) ?_
      refine .v rfl rfl (OpL.move (.inl rfl) rfl) ?_
      refine .call (.tup [.imm (.val (.int .i64 t50.1)), .imm (.val (.int .i64 t50.2))]) [] 0 (lombardref01_Minus.ok b51) rfl rfl rfl ca25 rfl rfl (cC (.imm _) (cC (.imm _) .nil)) rfl rfl rfl rfl rfl ?_
      refine .v rfl rfl (OpL.move (.inl rfl) rfl) ?_
      refine .v rfl rfl (OpL.extract rfl rfl rfl) ?_
      refine .v rfl rfl (OpL.extract rfl rfl rfl) ?_
      refine .v rfl rfl (OpL.move (.inr rfl) rfl) ?_
      refine .v rfl rfl (OpL.move (.inr rfl) rfl) ?_
      refine .nil ?_
      refine W.seq ?_
      refine W.seq ?_
      refine W.pk ?_
      refine .v rfl rfl (OpL.move (.inl rfl) rfl) ?_
      refine .v rfl rfl (OpL.binI rfl rfl rfl rfl) ?_
      refine .nil ?_
      obtain ⟨o55, b56, h⟩ := bnd1 h
      refine W.fork (mkSt [(7, some (.imm (.val (.int .i64 t44.1)))), (8, some (.imm (.val (.int .i64 t44.2)))), (9, some (.imm (.val (.int .i64 t46.1)))), (10, some (.imm (.val (.int .i64 t46.2)))), (11, some (.imm (.val (.int .i64 t48.1)))), (12, some (.imm (.val (.int .i64 t48.2)))), (13, some (.imm (.val (.int .i64 o55.1)))), (14, some (.imm (.val (.int .i64 o55.2))))] [] 1001) ?_ ?_
      · refine W.seq ?_
        obtain ⟨t58, b59, h⟩ := bnd1 h
        refine W.fork (mkSt [(4, some (.imm (.val (.bool (((((t44.1 == t46.1) && (t44.2 == t46.2)) && (t48.1 == o55.1)) && (t48.2 == o55.2)) && t58)))))] [] 1001) ?_ ?_
        · refine W.ret ?_
          cases h
          exact leaves (.inr rfl) rfl (.imm _) (cN (cN .nil)) rfl rfl
        · clear h
          rcases tf (t44.1 == t46.1) with g60 | g60
          · rcases tf (t44.2 == t46.2) with g61 | g61
            · rcases tf (t48.1 == o55.1) with g62 | g62
              · rcases tf (t48.2 == o55.2) with g63 | g63
                · refine W.pk ?_
                  refine .v rfl rfl (OpL.move (.inl rfl) rfl) ?_
                  refine .v rfl rfl (OpL.move (.inl rfl) rfl) ?_
                  refine .v rfl rfl (OpL.binI rfl rfl rfl rfl) ?_
                  refine .v rfl rfl (OpL.move (.inl rfl) rfl) ?_
                  refine .v rfl (met rfl rfl rfl g60) (OpL.move (.inl rfl) rfl) ?_
                  refine .v rfl (met rfl rfl rfl g60) (OpL.move (.inl rfl) rfl) ?_
                  refine .v rfl (met rfl rfl rfl g60) (OpL.binI rfl rfl rfl rfl) ?_
                  refine .v rfl rfl (O.pickT g60 rfl rfl rfl) ?_
                  refine .v rfl rfl (OpL.move (.inl rfl) rfl) ?_
                  refine .v rfl (met rfl rfl rfl g61) (OpL.move (.inl rfl) rfl) ?_
                  refine .v rfl (met rfl rfl rfl g61) (OpL.move (.inl rfl) rfl) ?_
                  refine .v rfl (met rfl rfl rfl g61) (OpL.binI rfl rfl rfl rfl) ?_
                  refine .v rfl rfl (O.pickT g61 rfl rfl rfl) ?_
                  refine .v rfl rfl (OpL.move (.inl rfl) rfl) ?_
                  refine .v rfl (met rfl rfl rfl g62) (OpL.move (.inl rfl) rfl) ?_
                  refine .v rfl (met rfl rfl rfl g62) (OpL.move (.inl rfl) rfl) ?_
                  refine .v rfl (met rfl rfl rfl g62) (OpL.binI rfl rfl rfl rfl) ?_
                  refine .v rfl rfl (O.pickT g62 rfl rfl rfl) ?_
                  refine .v rfl rfl (OpL.move (.inl rfl) rfl) ?_
                  refine .call (.imm (.val (.bool t58))) [] 0 (lombardlaw15_awake.ok ((if_pos (by simp only [g60, g61, g62, g63, Bool.true_or, Bool.or_true, Bool.false_or, Bool.or_false, Bool.true_and, Bool.and_true, Bool.false_and, Bool.and_false, Bool.not_true, Bool.not_false, cond_true, cond_false])).symm.trans b59)) rfl (met rfl rfl rfl g63) rfl ca9 rfl rfl .nil rfl rfl rfl rfl rfl ?_
                  refine .v rfl rfl (O.pickT g63 rfl rfl rfl) ?_
                  refine .v rfl rfl (OpL.move (.inr rfl) rfl) ?_
                  refine .nil ?_
                  exact toN (Gives.mkR [] (.c rfl (sbb (by simp only [g60, g61, g62, g63, Bool.true_or, Bool.or_true, Bool.false_or, Bool.or_false, Bool.true_and, Bool.and_true, Bool.false_and, Bool.and_false, Bool.not_true, Bool.not_false, cond_true, cond_false])) rfl .n) .n rfl rfl rfl)
                · refine W.pk ?_
                  refine .v rfl rfl (OpL.move (.inl rfl) rfl) ?_
                  refine .v rfl rfl (OpL.move (.inl rfl) rfl) ?_
                  refine .v rfl rfl (OpL.binI rfl rfl rfl rfl) ?_
                  refine .v rfl rfl (OpL.move (.inl rfl) rfl) ?_
                  refine .v rfl (met rfl rfl rfl g60) (OpL.move (.inl rfl) rfl) ?_
                  refine .v rfl (met rfl rfl rfl g60) (OpL.move (.inl rfl) rfl) ?_
                  refine .v rfl (met rfl rfl rfl g60) (OpL.binI rfl rfl rfl rfl) ?_
                  refine .v rfl rfl (O.pickT g60 rfl rfl rfl) ?_
                  refine .v rfl rfl (OpL.move (.inl rfl) rfl) ?_
                  refine .v rfl (met rfl rfl rfl g61) (OpL.move (.inl rfl) rfl) ?_
                  refine .v rfl (met rfl rfl rfl g61) (OpL.move (.inl rfl) rfl) ?_
                  refine .v rfl (met rfl rfl rfl g61) (OpL.binI rfl rfl rfl rfl) ?_
                  refine .v rfl rfl (O.pickT g61 rfl rfl rfl) ?_
                  refine .v rfl rfl (OpL.move (.inl rfl) rfl) ?_
                  refine .v rfl (met rfl rfl rfl g62) (OpL.move (.inl rfl) rfl) ?_
                  refine .v rfl (met rfl rfl rfl g62) (OpL.move (.inl rfl) rfl) ?_
                  refine .v rfl (met rfl rfl rfl g62) (OpL.binI rfl rfl rfl rfl) ?_
                  refine .v rfl rfl (O.pickT g62 rfl rfl rfl) ?_
                  refine .v rfl rfl (OpL.move (.inl rfl) rfl) ?_
                  refine .x rfl (unmet rfl rfl rfl g63) ?_
                  refine .v rfl rfl (O.pickF g63 rfl rfl rfl) ?_
                  refine .v rfl rfl (OpL.move (.inr rfl) rfl) ?_
                  refine .nil ?_
                  exact toN (Gives.mkR [] (.c rfl (sbb (by simp only [g60, g61, g62, g63, Bool.true_or, Bool.or_true, Bool.false_or, Bool.or_false, Bool.true_and, Bool.and_true, Bool.false_and, Bool.and_false, Bool.not_true, Bool.not_false, cond_true, cond_false])) rfl .n) .n rfl rfl rfl)
              · refine W.pk ?_
                refine .v rfl rfl (OpL.move (.inl rfl) rfl) ?_
                refine .v rfl rfl (OpL.move (.inl rfl) rfl) ?_
                refine .v rfl rfl (OpL.binI rfl rfl rfl rfl) ?_
                refine .v rfl rfl (OpL.move (.inl rfl) rfl) ?_
                refine .v rfl (met rfl rfl rfl g60) (OpL.move (.inl rfl) rfl) ?_
                refine .v rfl (met rfl rfl rfl g60) (OpL.move (.inl rfl) rfl) ?_
                refine .v rfl (met rfl rfl rfl g60) (OpL.binI rfl rfl rfl rfl) ?_
                refine .v rfl rfl (O.pickT g60 rfl rfl rfl) ?_
                refine .v rfl rfl (OpL.move (.inl rfl) rfl) ?_
                refine .v rfl (met rfl rfl rfl g61) (OpL.move (.inl rfl) rfl) ?_
                refine .v rfl (met rfl rfl rfl g61) (OpL.move (.inl rfl) rfl) ?_
                refine .v rfl (met rfl rfl rfl g61) (OpL.binI rfl rfl rfl rfl) ?_
                refine .v rfl rfl (O.pickT g61 rfl rfl rfl) ?_
                refine .v rfl rfl (OpL.move (.inl rfl) rfl) ?_
                refine .x rfl (unmet rfl rfl rfl g62) ?_
                refine .x rfl (unmet rfl rfl rfl g62) ?_
                refine .x rfl (unmet rfl rfl rfl g62) ?_
                refine .v rfl rfl (O.pickF g62 rfl rfl rfl) ?_
                refine .v rfl rfl (OpL.move (.inl rfl) rfl) ?_
                refine .x rfl (unmet rfl rfl rfl rfl) ?_
                refine .v rfl rfl (O.pickF rfl rfl rfl rfl) ?_
                refine .v rfl rfl (OpL.move (.inr rfl) rfl) ?_
                refine .nil ?_
                exact toN (Gives.mkR [] (.c rfl (sbb (by simp only [g60, g61, g62, Bool.true_or, Bool.or_true, Bool.false_or, Bool.or_false, Bool.true_and, Bool.and_true, Bool.false_and, Bool.and_false, Bool.not_true, Bool.not_false, cond_true, cond_false])) rfl .n) .n rfl rfl rfl)
            · refine W.pk ?_
              refine .v rfl rfl (OpL.move (.inl rfl) rfl) ?_
              refine .v rfl rfl (OpL.move (.inl rfl) rfl) ?_
              refine .v rfl rfl (OpL.binI rfl rfl rfl rfl) ?_
              refine .v rfl rfl (OpL.move (.inl rfl) rfl) ?_
              refine .v rfl (met rfl rfl rfl g60) (OpL.move (.inl rfl) rfl) ?_
              refine .v rfl (met rfl rfl rfl g60) (OpL.move (.inl rfl) rfl) ?_
              refine .v rfl (met rfl rfl rfl g60) (OpL.binI rfl rfl rfl rfl) ?_
              refine .v rfl rfl (O.pickT g60 rfl rfl rfl) ?_
              refine .v rfl rfl (OpL.move (.inl rfl) rfl) ?_
              refine .x rfl (unmet rfl rfl rfl g61) ?_
              refine .x rfl (unmet rfl rfl rfl g61) ?_
              refine .x rfl (unmet rfl rfl rfl g61) ?_
              refine .v rfl rfl (O.pickF g61 rfl rfl rfl) ?_
              refine .v rfl rfl (OpL.move (.inl rfl) rfl) ?_
              refine .x rfl (unmet rfl rfl rfl rfl) ?_
              refine .x rfl (unmet rfl rfl rfl rfl) ?_
              refine .x rfl (unmet rfl rfl rfl rfl) ?_
              refine .v rfl rfl (O.pickF rfl rfl rfl rfl) ?_
              refine .v rfl rfl (OpL.move (.inl rfl) rfl) ?_
              refine .x rfl (unmet rfl rfl rfl rfl) ?_
              refine .v rfl rfl (O.pickF rfl rfl rfl rfl) ?_
              refine .v rfl rfl (OpL.move (.inr rfl) rfl) ?_
              refine .nil ?_
              exact toN (Gives.mkR [] (.c rfl (sbb (by simp only [g60, g61, Bool.true_or, Bool.or_true, Bool.false_or, Bool.or_false, Bool.true_and, Bool.and_true, Bool.false_and, Bool.and_false, Bool.not_true, Bool.not_false, cond_true, cond_false])) rfl .n) .n rfl rfl rfl)
          · refine W.pk ?_
            refine .v rfl rfl (OpL.move (.inl rfl) rfl) ?_
            refine .v rfl rfl (OpL.move (.inl rfl) rfl) ?_
            refine .v rfl rfl (OpL.binI rfl rfl rfl rfl) ?_
            refine .v rfl rfl (OpL.move (.inl rfl) rfl) ?_
            refine .x rfl (unmet rfl rfl rfl g60) ?_
            refine .x rfl (unmet rfl rfl rfl g60) ?_
            refine .x rfl (unmet rfl rfl rfl g60) ?_
            refine .v rfl rfl (O.pickF g60 rfl rfl rfl) ?_
            refine .v rfl rfl (OpL.move (.inl rfl) rfl) ?_
            refine .x rfl (unmet rfl rfl rfl rfl) ?_
            refine .x rfl (unmet rfl rfl rfl rfl) ?_
            refine .x rfl (unmet rfl rfl rfl rfl) ?_
            refine .v rfl rfl (O.pickF rfl rfl rfl rfl) ?_
            refine .v rfl rfl (OpL.move (.inl rfl) rfl) ?_
            refine .x rfl (unmet rfl rfl rfl rfl) ?_
            refine .x rfl (unmet rfl rfl rfl rfl) ?_
            refine .x rfl (unmet rfl rfl rfl rfl) ?_
            refine .v rfl rfl (O.pickF rfl rfl rfl rfl) ?_
            refine .v rfl rfl (OpL.move (.inl rfl) rfl) ?_
            refine .x rfl (unmet rfl rfl rfl rfl) ?_
            refine .v rfl rfl (O.pickF rfl rfl rfl rfl) ?_
            refine .v rfl rfl (OpL.move (.inr rfl) rfl) ?_
            refine .nil ?_
            exact toN (Gives.mkR [] (.c rfl (sbb (by simp only [g60, Bool.true_or, Bool.or_true, Bool.false_or, Bool.or_false, Bool.true_and, Bool.and_true, Bool.false_and, Bool.and_false, Bool.not_true, Bool.not_false, cond_true, cond_false])) rfl .n) .n rfl rfl rfl)
      · clear h
        have h := b56
        refine W.cond rfl (fun q57 => ?_) (fun q57 => ?_)
        · have h := ifT q57 h
          refine W.pk ?_
          refine .v rfl rfl (OpL.move (.inl rfl) rfl) ?_
          refine .v rfl rfl (OpL.move (.inr rfl) rfl) ?_
          refine .v rfl rfl (OpL.move (.inr rfl) rfl) ?_
          refine .nil ?_
          cases h
          exact toN (Gives.mkR [] (.c rfl (.rfl _) rfl (.c rfl (.rfl _) rfl (.c rfl (.rfl _) rfl (.c rfl (.rfl _) rfl (.c rfl (.rfl _) rfl (.c rfl (.rfl _) rfl (.c rfl (.rfl _) rfl (.c rfl (.rfl _) rfl .n)))))))) .n rfl rfl rfl)
        · have h := ifF q57 h
          refine W.skip ?_
          cases h
          exact toN (Gives.mkR [] (.c rfl (.rfl _) rfl (.c rfl (.rfl _) rfl (.c rfl (.rfl _) rfl (.c rfl (.rfl _) rfl (.c rfl (.rfl _) rfl (.c rfl (.rfl _) rfl (.c rfl (.rfl _) rfl (.c rfl (.rfl _) rfl .n)))))))) .n rfl rfl rfl)

noncomputable def asset_New.f  : Option (asset_Book) :=
  some (⟨[], [], true⟩ : asset_Book)
set_option maxRecDepth 100000 in
set_option maxHeartbeats 4000000 in
theorem asset_New.ok  {r : asset_Book} (h : asset_New.f  = some r) : Pm.Spec prog 26 [] (.xbox [.xown 38 5 (List.map api_Asset.enc r.l), .xown 3 1 (List.map (encI .i64) r.prices), .imm (.val (.bool r.made))]) [] := by
  unfold asset_New.f at h
  refine Pm.Spec.of_body Try.func26 rfl (by kernel_rfl) (Nat.le_of_ble_eq_true rfl) (Nat.le_of_ble_eq_true rfl) ?_
  refine W.ghost (σ' := (mkSt [] [] 1000)) (Gives.entry .n .n) ?_
  refine W.seq ?_
  refine W.pk ?_
  refine .v rfl rfl (OpL.move (.inr rfl) rfl) ?_
  refine .nil ?_
  refine W.seq ?_
  refine W.pk ?_
  refine .v rfl rfl (O.build (out := [.imm (.val (.slice none 0 0)), .imm (.val (.slice none 0 0)), .imm (.val (.bool true))]) bl83 rfl rfl rfl rfl rfl) ?_
  refine .t rfl rfl (O.box rfl rfl rfl rfl rfl) ?_
  refine .v rfl rfl (OpL.move (.inr rfl) rfl) ?_
  refine .nil ?_
  refine W.ret ?_
  cases h
  exact leaves (.inr rfl) rfl (.ptr _ _ _ _ _ rfl (cC (.nilown _ _) (cC (.nilown _ _) (cC (.imm _) .nil)))) .nil rfl rfl

noncomputable def isin_digit.f (x0 : Int) : Option (Bool) :=
  some ((decide (x0 ≥ 48)) && (decide (x0 ≤ 57)))
set_option maxRecDepth 100000 in
set_option maxHeartbeats 4000000 in
theorem isin_digit.ok {x0 : Int} {r : Bool} (h : isin_digit.f x0 = some r) : Pm.Spec prog 79 [.imm (.val (.int .u8 x0))] (.imm (.val (.bool r))) [none] := by
  unfold isin_digit.f at h
  refine Pm.Spec.of_body Try.func79 rfl (by kernel_rfl) (Nat.le_of_ble_eq_true rfl) (Nat.le_of_ble_eq_true rfl) ?_
  refine W.ghost (σ' := (mkSt [(0, some (.imm (.val (.int .u8 x0))))] [] 1000)) (Gives.entry (.c rfl .n) .n) ?_
  refine W.seq ?_
  refine W.pk ?_
  refine .v rfl rfl (OpL.move (.inr rfl) rfl) ?_
  refine .nil ?_
  refine W.seq ?_
  refine W.fork (mkSt [(2, some (.imm (.val (.bool ((decide (x0 ≥ 48)) && (decide (x0 ≤ 57)))))))] [] 1000) ?_ ?_
  · refine W.ret ?_
    cases h
    exact leaves (.inr rfl) rfl (.imm _) (cN .nil) rfl rfl
  · clear h
    rcases tf (decide (x0 ≥ 48)) with g1 | g1
    · refine W.pk ?_
      refine .v rfl rfl (OpL.move (.inl rfl) rfl) ?_
      refine .v rfl rfl (OpL.binI rfl rfl rfl rfl) ?_
      refine .v rfl rfl (OpL.move (.inl rfl) rfl) ?_
      refine .v rfl (met rfl rfl rfl g1) (OpL.move (.inl rfl) rfl) ?_
      refine .v rfl (met rfl rfl rfl g1) (OpL.binI rfl rfl rfl rfl) ?_
      refine .v rfl rfl (O.pickT g1 rfl rfl rfl) ?_
      refine .v rfl rfl (OpL.move (.inr rfl) rfl) ?_
      refine .nil ?_
      exact toN (Gives.mkR [] (.c rfl (sbb (by simp only [g1, Bool.true_or, Bool.or_true, Bool.false_or, Bool.or_false, Bool.true_and, Bool.and_true, Bool.false_and, Bool.and_false, Bool.not_true, Bool.not_false, cond_true, cond_false])) rfl .n) .n rfl rfl rfl)
    · refine W.pk ?_
      refine .v rfl rfl (OpL.move (.inl rfl) rfl) ?_
      refine .v rfl rfl (OpL.binI rfl rfl rfl rfl) ?_
      refine .v rfl rfl (OpL.move (.inl rfl) rfl) ?_
      refine .x rfl (unmet rfl rfl rfl g1) ?_
      refine .x rfl (unmet rfl rfl rfl g1) ?_
      refine .v rfl rfl (O.pickF g1 rfl rfl rfl) ?_
      refine .v rfl rfl (OpL.move (.inr rfl) rfl) ?_
      refine .nil ?_
      exact toN (Gives.mkR [] (.c rfl (sbb (by simp only [g1, Bool.true_or, Bool.or_true, Bool.false_or, Bool.or_false, Bool.true_and, Bool.and_true, Bool.false_and, Bool.and_false, Bool.not_true, Bool.not_false, cond_true, cond_false])) rfl .n) .n rfl rfl rfl)
end Go.Proofs.Ytdcpdnfalnelkaa
