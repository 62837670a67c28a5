/- Shows what functions of the program come to, each as a plain function: written by a program of the author's for this claim. -/
import Derived.Test.YtdcpdnfalnelkaaGx8
namespace Go.Proofs.Ytdcpdnfalnelkaa
open Go Go.Pm
set_option linter.unusedVariables false
set_option linter.unusedSimpArgs false
noncomputable def lombardref15_Item_Covers.f (x0 : lombardref15_Item) : Option (Int) :=
  (lombardref15_Cover.f x0.Lot.Qty x0.Price x0.Cut).bind fun t1 =>
  some t1.1
set_option maxRecDepth 100000 in
set_option maxHeartbeats 4000000 in
theorem lombardref15_Item_Covers.ok {x0 : lombardref15_Item} {r : Int} (h : lombardref15_Item_Covers.f x0 = some r) : Pm.Spec prog 21 [.agg [.imm (.val (.string (tx x0.Lot.ISIN))), .imm (.val (.int .i64 x0.Lot.Qty)), .imm (.val (.string (tx x0.Asset.ISIN))), .imm (.val (.int .i64 x0.Asset.Issuer)), .imm (.val (.int .i64 x0.Asset.Rating)), .imm (.val (.int .i64 x0.Asset.Maturity)), .imm (.val (.string (tx x0.Asset.Currency))), .imm (.val (.int .i64 x0.Price)), .imm (.val (.int .i64 x0.Cut))]] (.imm (.val (.int .i64 r))) [none] := by
  unfold lombardref15_Item_Covers.f at h
  refine Pm.Spec.of_body Try.func21 rfl (by kernel_rfl) (Nat.le_of_ble_eq_true rfl) (Nat.le_of_ble_eq_true rfl) ?_
  refine W.ghost (σ' := (mkSt [(0, some (.agg [.imm (.val (.string (tx x0.Lot.ISIN))), .imm (.val (.int .i64 x0.Lot.Qty)), .imm (.val (.string (tx x0.Asset.ISIN))), .imm (.val (.int .i64 x0.Asset.Issuer)), .imm (.val (.int .i64 x0.Asset.Rating)), .imm (.val (.int .i64 x0.Asset.Maturity)), .imm (.val (.string (tx x0.Asset.Currency))), .imm (.val (.int .i64 x0.Price)), .imm (.val (.int .i64 x0.Cut))]))] [] 1000)) (Gives.entry (.c rfl .n) .n) ?_
  refine W.seq ?_
  refine W.pk ?_
  refine .t rfl rfl (O.box rfl rfl rfl rfl rfl) ?_
  refine .v rfl rfl (OpL.move (.inr rfl) rfl) ?_
  refine .nil ?_
  refine W.seq ?_
  obtain ⟨t1, b2, h⟩ := bnd1 h
  refine W.pk ?_
  refine .v rfl rfl (O.fld fld50_0 rfl rfl rfl) ?_
  refine .v rfl rfl (O.fld fld46_1 rfl rfl rfl) ?_
  refine .v rfl rfl (O.ld ty3 rfl rfl rfl) ?_
  refine .v rfl rfl (O.fld fld50_2 rfl rfl rfl) ?_
  refine .v rfl rfl (O.ld ty3 rfl rfl rfl) ?_
  refine .v rfl rfl (O.fld fld50_3 rfl rfl rfl) ?_
  refine .v rfl rfl (O.ld ty3 rfl rfl rfl) ?_
  refine .call (.tup [.imm (.val (.int .i64 t1.1)), .imm (.val (.int .i64 t1.2))]) [] 0 (lombardref15_Cover.ok b2) rfl rfl rfl ca11 rfl rfl (cC (.imm _) (cC (.imm _) (cC (.imm _) .nil))) rfl rfl rfl rfl rfl ?_
  refine .v rfl rfl (OpL.move (.inl rfl) rfl) ?_
  refine .v rfl rfl (OpL.extract rfl rfl rfl) ?_
  refine .v rfl rfl (OpL.extract rfl rfl rfl) ?_
  refine .v rfl rfl (OpL.move (.inr rfl) rfl) ?_
  refine .v rfl rfl (OpL.move (.inr rfl) rfl) ?_
  refine .nil ?_
  refine W.seq ?_
  refine W.pk ?_
  refine .v rfl rfl (OpL.move (.inl rfl) rfl) ?_
  refine .v rfl rfl (OpL.move (.inr rfl) rfl) ?_
  refine .nil ?_
  refine W.ret ?_
  cases h
  exact leaves (.inr rfl) rfl (.imm _) (cN .nil) rfl rfl

noncomputable def fixnum_Plus.f (x0 : Int) (x1 : Int) : Option (Int × Int) :=
  if ((((decide (x0 > 0)) && (decide (x1 > 0))) && (decide ((IntKind.wrap .i64 (x0 + x1)) < 0))) || (((decide (x0 < 0)) && (decide (x1 < 0))) && (decide ((IntKind.wrap .i64 (x0 + x1)) ≥ 0)))) = true then
    some (0, 9)
  else
    some ((IntKind.wrap .i64 (x0 + x1)), 0)
set_option maxRecDepth 100000 in
set_option maxHeartbeats 4000000 in
theorem fixnum_Plus.ok {x0 : Int} {x1 : Int} {r : Int × Int} (h : fixnum_Plus.f x0 x1 = some r) : Pm.Spec prog 44 [.imm (.val (.int .i64 x0)), .imm (.val (.int .i64 x1))] (.tup [.imm (.val (.int .i64 r.1)), .imm (.val (.int .i64 r.2))]) [none, none] := by
  unfold fixnum_Plus.f at h
  refine Pm.Spec.of_body Try.func44 rfl (by kernel_rfl) (Nat.le_of_ble_eq_true rfl) (Nat.le_of_ble_eq_true rfl) ?_
  refine W.ghost (σ' := (mkSt [(0, some (.imm (.val (.int .i64 x0)))), (1, some (.imm (.val (.int .i64 x1))))] [] 1000)) (Gives.entry (.c rfl (.c rfl .n)) .n) ?_
  refine W.seq ?_
  refine W.pk ?_
  refine .v rfl rfl (OpL.move (.inr rfl) rfl) ?_
  refine .v rfl rfl (OpL.move (.inr rfl) rfl) ?_
  refine .nil ?_
  refine W.seq ?_
  refine W.pk ?_
  refine .v rfl rfl (OpL.move (.inl rfl) rfl) ?_
  refine .v rfl rfl (OpL.move (.inl rfl) rfl) ?_
  refine .v rfl rfl (OpL.binI rfl rfl rfl rfl) ?_
  refine .v rfl rfl (OpL.move (.inr rfl) rfl) ?_
  refine .nil ?_
  refine W.seq ?_
  refine W.seq ?_
  refine W.fork (mkSt [(6, some (.imm (.val (.int .i64 (IntKind.wrap .i64 (x0 + x1)))))), (31, some (.imm (.val (.bool ((((decide (x0 > 0)) && (decide (x1 > 0))) && (decide ((IntKind.wrap .i64 (x0 + x1)) < 0))) || (((decide (x0 < 0)) && (decide (x1 < 0))) && (decide ((IntKind.wrap .i64 (x0 + x1)) ≥ 0))))))))] [] 1000) ?_ ?_
  · refine W.cond rfl (fun q10 => ?_) (fun q10 => ?_)
    · have h := ifT q10 h
      refine W.seq ?_
      refine W.pk ?_
      refine .v rfl rfl (OpL.move (.inr rfl) rfl) ?_
      refine .v rfl rfl (OpL.move (.inr rfl) rfl) ?_
      refine .nil ?_
      refine W.ret ?_
      cases h
      exact leaves (.inr rfl) rfl (.tup _ _ _ _ (cC (.imm _) (cC (.imm _) .nil))) (cN (cN .nil)) rfl rfl
    · have h := ifF q10 h
      refine W.skip ?_
      refine W.seq ?_
      refine W.pk ?_
      refine .v rfl rfl (OpL.move (.inl rfl) rfl) ?_
      refine .v rfl rfl (OpL.move (.inr rfl) rfl) ?_
      refine .v rfl rfl (OpL.move (.inr rfl) rfl) ?_
      refine .nil ?_
      refine W.ret ?_
      cases h
      exact leaves (.inr rfl) rfl (.tup _ _ _ _ (cC (.imm _) (cC (.imm _) .nil))) (cN (cN .nil)) rfl rfl
  · clear h
    rcases tf (decide (x0 > 0)) with g1 | g1
    · rcases tf (decide (x1 > 0)) with g2 | g2
      · rcases tf (decide ((IntKind.wrap .i64 (x0 + x1)) < 0)) with g3 | g3
        · refine W.pk ?_
          refine .v rfl rfl (OpL.move (.inl rfl) rfl) ?_
          refine .v rfl rfl (OpL.binI rfl rfl rfl rfl) ?_
          refine .v rfl rfl (OpL.move (.inl rfl) rfl) ?_
          refine .v rfl (met rfl rfl rfl g1) (OpL.move (.inl rfl) rfl) ?_
          refine .v rfl (met rfl rfl rfl g1) (OpL.binI rfl rfl rfl rfl) ?_
          refine .v rfl rfl (O.pickT g1 rfl rfl rfl) ?_
          refine .v rfl rfl (OpL.move (.inl rfl) rfl) ?_
          refine .v rfl (met rfl rfl rfl g2) (OpL.move (.inl rfl) rfl) ?_
          refine .v rfl (met rfl rfl rfl g2) (OpL.binI rfl rfl rfl rfl) ?_
          refine .v rfl rfl (O.pickT g2 rfl rfl rfl) ?_
          refine .v rfl rfl (OpL.move (.inl rfl) rfl) ?_
          refine .x rfl (unmet rfl rfl rfl g3) ?_
          refine .x rfl (unmet rfl rfl rfl g3) ?_
          refine .x rfl (unmet rfl rfl rfl g3) ?_
          refine .x rfl (unmetU rfl rfl rfl) ?_
          refine .x rfl (unmetU rfl rfl rfl) ?_
          refine .x rfl (unmet rfl rfl rfl g3) ?_
          refine .x rfl (unmet rfl rfl rfl g3) ?_
          refine .x rfl (unmetU rfl rfl rfl) ?_
          refine .x rfl (unmetU rfl rfl rfl) ?_
          refine .x rfl (unmet rfl rfl rfl g3) ?_
          refine .v rfl rfl (O.pickT g3 rfl rfl rfl) ?_
          refine .nil ?_
          exact toN (Gives.mkR [] (.c rfl (.rfl _) rfl (.c rfl (sbb (by simp only [g1, g2, g3, Bool.true_or, Bool.or_true, Bool.false_or, Bool.or_false, Bool.true_and, Bool.and_true, Bool.false_and, Bool.and_false, Bool.not_true, Bool.not_false, cond_true, cond_false])) rfl .n)) .n rfl rfl rfl)
        · rcases tf (decide (x0 < 0)) with g4 | g4
          · rcases tf (decide (x1 < 0)) with g5 | g5
            · refine W.pk ?_
              refine .v rfl rfl (OpL.move (.inl rfl) rfl) ?_
              refine .v rfl rfl (OpL.binI rfl rfl rfl rfl) ?_
              refine .v rfl rfl (OpL.move (.inl rfl) rfl) ?_
              refine .v rfl (met rfl rfl rfl g1) (OpL.move (.inl rfl) rfl) ?_
              refine .v rfl (met rfl rfl rfl g1) (OpL.binI rfl rfl rfl rfl) ?_
              refine .v rfl rfl (O.pickT g1 rfl rfl rfl) ?_
              refine .v rfl rfl (OpL.move (.inl rfl) rfl) ?_
              refine .v rfl (met rfl rfl rfl g2) (OpL.move (.inl rfl) rfl) ?_
              refine .v rfl (met rfl rfl rfl g2) (OpL.binI rfl rfl rfl rfl) ?_
              refine .v rfl rfl (O.pickT g2 rfl rfl rfl) ?_
              refine .v rfl rfl (OpL.move (.inl rfl) rfl) ?_
              refine .v rfl (met rfl rfl rfl g3) (OpL.move (.inl rfl) rfl) ?_
              refine .v rfl (met rfl rfl rfl g3) (OpL.binI rfl rfl rfl rfl) ?_
              refine .v rfl (met rfl rfl rfl g3) (OpL.move (.inl rfl) rfl) ?_
              refine .v rfl (met rfl rfl rfl g4) (OpL.move (.inl rfl) rfl) ?_
              refine .v rfl (met rfl rfl rfl g4) (OpL.binI rfl rfl rfl rfl) ?_
              refine .v rfl (met rfl rfl rfl g3) (O.pickT g4 rfl rfl rfl) ?_
              refine .v rfl (met rfl rfl rfl g3) (OpL.move (.inl rfl) rfl) ?_
              refine .v rfl (met rfl rfl rfl g5) (OpL.move (.inl rfl) rfl) ?_
              refine .v rfl (met rfl rfl rfl g5) (OpL.binI rfl rfl rfl rfl) ?_
              refine .v rfl (met rfl rfl rfl g3) (O.pickT g5 rfl rfl rfl) ?_
              refine .v rfl rfl (O.pickF g3 rfl rfl rfl) ?_
              refine .nil ?_
              exact toN (Gives.mkR [] (.c rfl (.rfl _) rfl (.c rfl (sbb (by simp only [g1, g2, g3, g4, g5, Bool.true_or, Bool.or_true, Bool.false_or, Bool.or_false, Bool.true_and, Bool.and_true, Bool.false_and, Bool.and_false, Bool.not_true, Bool.not_false, cond_true, cond_false])) rfl .n)) .n rfl rfl rfl)
            · refine W.pk ?_
              refine .v rfl rfl (OpL.move (.inl rfl) rfl) ?_
              refine .v rfl rfl (OpL.binI rfl rfl rfl rfl) ?_
              refine .v rfl rfl (OpL.move (.inl rfl) rfl) ?_
              refine .v rfl (met rfl rfl rfl g1) (OpL.move (.inl rfl) rfl) ?_
              refine .v rfl (met rfl rfl rfl g1) (OpL.binI rfl rfl rfl rfl) ?_
              refine .v rfl rfl (O.pickT g1 rfl rfl rfl) ?_
              refine .v rfl rfl (OpL.move (.inl rfl) rfl) ?_
              refine .v rfl (met rfl rfl rfl g2) (OpL.move (.inl rfl) rfl) ?_
              refine .v rfl (met rfl rfl rfl g2) (OpL.binI rfl rfl rfl rfl) ?_
              refine .v rfl rfl (O.pickT g2 rfl rfl rfl) ?_
              refine .v rfl rfl (OpL.move (.inl rfl) rfl) ?_
              refine .v rfl (met rfl rfl rfl g3) (OpL.move (.inl rfl) rfl) ?_
              refine .v rfl (met rfl rfl rfl g3) (OpL.binI rfl rfl rfl rfl) ?_
              refine .v rfl (met rfl rfl rfl g3) (OpL.move (.inl rfl) rfl) ?_
              refine .v rfl (met rfl rfl rfl g4) (OpL.move (.inl rfl) rfl) ?_
              refine .v rfl (met rfl rfl rfl g4) (OpL.binI rfl rfl rfl rfl) ?_
              refine .v rfl (met rfl rfl rfl g3) (O.pickT g4 rfl rfl rfl) ?_
              refine .v rfl (met rfl rfl rfl g3) (OpL.move (.inl rfl) rfl) ?_
              refine .x rfl (unmet rfl rfl rfl g5) ?_
              refine .x rfl (unmet rfl rfl rfl g5) ?_
              refine .v rfl (met rfl rfl rfl g3) (O.pickF g5 rfl rfl rfl) ?_
              refine .v rfl rfl (O.pickF g3 rfl rfl rfl) ?_
              refine .nil ?_
              exact toN (Gives.mkR [] (.c rfl (.rfl _) rfl (.c rfl (sbb (by simp only [g1, g2, g3, g4, g5, Bool.true_or, Bool.or_true, Bool.false_or, Bool.or_false, Bool.true_and, Bool.and_true, Bool.false_and, Bool.and_false, Bool.not_true, Bool.not_false, cond_true, cond_false])) rfl .n)) .n rfl rfl rfl)
          · refine W.pk ?_
            refine .v rfl rfl (OpL.move (.inl rfl) rfl) ?_
            refine .v rfl rfl (OpL.binI rfl rfl rfl rfl) ?_
            refine .v rfl rfl (OpL.move (.inl rfl) rfl) ?_
            refine .v rfl (met rfl rfl rfl g1) (OpL.move (.inl rfl) rfl) ?_
            refine .v rfl (met rfl rfl rfl g1) (OpL.binI rfl rfl rfl rfl) ?_
            refine .v rfl rfl (O.pickT g1 rfl rfl rfl) ?_
            refine .v rfl rfl (OpL.move (.inl rfl) rfl) ?_
            refine .v rfl (met rfl rfl rfl g2) (OpL.move (.inl rfl) rfl) ?_
            refine .v rfl (met rfl rfl rfl g2) (OpL.binI rfl rfl rfl rfl) ?_
            refine .v rfl rfl (O.pickT g2 rfl rfl rfl) ?_
            refine .v rfl rfl (OpL.move (.inl rfl) rfl) ?_
            refine .v rfl (met rfl rfl rfl g3) (OpL.move (.inl rfl) rfl) ?_
            refine .v rfl (met rfl rfl rfl g3) (OpL.binI rfl rfl rfl rfl) ?_
            refine .v rfl (met rfl rfl rfl g3) (OpL.move (.inl rfl) rfl) ?_
            refine .x rfl (unmet rfl rfl rfl g4) ?_
            refine .x rfl (unmet rfl rfl rfl g4) ?_
            refine .v rfl (met rfl rfl rfl g3) (O.pickF g4 rfl rfl rfl) ?_
            refine .v rfl (met rfl rfl rfl g3) (OpL.move (.inl rfl) rfl) ?_
            refine .x rfl (unmet rfl rfl rfl rfl) ?_
            refine .x rfl (unmet rfl rfl rfl rfl) ?_
            refine .v rfl (met rfl rfl rfl g3) (O.pickF rfl rfl rfl rfl) ?_
            refine .v rfl rfl (O.pickF g3 rfl rfl rfl) ?_
            refine .nil ?_
            exact toN (Gives.mkR [] (.c rfl (.rfl _) rfl (.c rfl (sbb (by simp only [g1, g2, g3, g4, Bool.true_or, Bool.or_true, Bool.false_or, Bool.or_false, Bool.true_and, Bool.and_true, Bool.false_and, Bool.and_false, Bool.not_true, Bool.not_false, cond_true, cond_false])) rfl .n)) .n rfl rfl rfl)
      · rcases tf (decide (x0 < 0)) with g6 | g6
        · rcases tf (decide (x1 < 0)) with g7 | g7
          · refine W.pk ?_
            refine .v rfl rfl (OpL.move (.inl rfl) rfl) ?_
            refine .v rfl rfl (OpL.binI rfl rfl rfl rfl) ?_
            refine .v rfl rfl (OpL.move (.inl rfl) rfl) ?_
            refine .v rfl (met rfl rfl rfl g1) (OpL.move (.inl rfl) rfl) ?_
            refine .v rfl (met rfl rfl rfl g1) (OpL.binI rfl rfl rfl rfl) ?_
            refine .v rfl rfl (O.pickT g1 rfl rfl rfl) ?_
            refine .v rfl rfl (OpL.move (.inl rfl) rfl) ?_
            refine .x rfl (unmet rfl rfl rfl g2) ?_
            refine .x rfl (unmet rfl rfl rfl g2) ?_
            refine .v rfl rfl (O.pickF g2 rfl rfl rfl) ?_
            refine .v rfl rfl (OpL.move (.inl rfl) rfl) ?_
            refine .v rfl (met rfl rfl rfl rfl) (OpL.move (.inl rfl) rfl) ?_
            refine .v rfl (met rfl rfl rfl rfl) (OpL.binI rfl rfl rfl rfl) ?_
            refine .v rfl (met rfl rfl rfl rfl) (OpL.move (.inl rfl) rfl) ?_
            refine .v rfl (met rfl rfl rfl g6) (OpL.move (.inl rfl) rfl) ?_
            refine .v rfl (met rfl rfl rfl g6) (OpL.binI rfl rfl rfl rfl) ?_
            refine .v rfl (met rfl rfl rfl rfl) (O.pickT g6 rfl rfl rfl) ?_
            refine .v rfl (met rfl rfl rfl rfl) (OpL.move (.inl rfl) rfl) ?_
            refine .v rfl (met rfl rfl rfl g7) (OpL.move (.inl rfl) rfl) ?_
            refine .v rfl (met rfl rfl rfl g7) (OpL.binI rfl rfl rfl rfl) ?_
            refine .v rfl (met rfl rfl rfl rfl) (O.pickT g7 rfl rfl rfl) ?_
            refine .v rfl rfl (O.pickF rfl rfl rfl rfl) ?_
            refine .nil ?_
            exact toN (Gives.mkR [] (.c rfl (.rfl _) rfl (.c rfl (sbb (by simp only [g1, g2, g6, g7, Bool.true_or, Bool.or_true, Bool.false_or, Bool.or_false, Bool.true_and, Bool.and_true, Bool.false_and, Bool.and_false, Bool.not_true, Bool.not_false, cond_true, cond_false])) rfl .n)) .n rfl rfl rfl)
          · refine W.pk ?_
            refine .v rfl rfl (OpL.move (.inl rfl) rfl) ?_
            refine .v rfl rfl (OpL.binI rfl rfl rfl rfl) ?_
            refine .v rfl rfl (OpL.move (.inl rfl) rfl) ?_
            refine .v rfl (met rfl rfl rfl g1) (OpL.move (.inl rfl) rfl) ?_
            refine .v rfl (met rfl rfl rfl g1) (OpL.binI rfl rfl rfl rfl) ?_
            refine .v rfl rfl (O.pickT g1 rfl rfl rfl) ?_
            refine .v rfl rfl (OpL.move (.inl rfl) rfl) ?_
            refine .x rfl (unmet rfl rfl rfl g2) ?_
            refine .x rfl (unmet rfl rfl rfl g2) ?_
            refine .v rfl rfl (O.pickF g2 rfl rfl rfl) ?_
            refine .v rfl rfl (OpL.move (.inl rfl) rfl) ?_
            refine .v rfl (met rfl rfl rfl rfl) (OpL.move (.inl rfl) rfl) ?_
            refine .v rfl (met rfl rfl rfl rfl) (OpL.binI rfl rfl rfl rfl) ?_
            refine .v rfl (met rfl rfl rfl rfl) (OpL.move (.inl rfl) rfl) ?_
            refine .v rfl (met rfl rfl rfl g6) (OpL.move (.inl rfl) rfl) ?_
            refine .v rfl (met rfl rfl rfl g6) (OpL.binI rfl rfl rfl rfl) ?_
            refine .v rfl (met rfl rfl rfl rfl) (O.pickT g6 rfl rfl rfl) ?_
            refine .v rfl (met rfl rfl rfl rfl) (OpL.move (.inl rfl) rfl) ?_
            refine .x rfl (unmet rfl rfl rfl g7) ?_
            refine .x rfl (unmet rfl rfl rfl g7) ?_
            refine .v rfl (met rfl rfl rfl rfl) (O.pickF g7 rfl rfl rfl) ?_
            refine .v rfl rfl (O.pickF rfl rfl rfl rfl) ?_
            refine .nil ?_
            exact toN (Gives.mkR [] (.c rfl (.rfl _) rfl (.c rfl (sbb (by simp only [g1, g2, g6, g7, Bool.true_or, Bool.or_true, Bool.false_or, Bool.or_false, Bool.true_and, Bool.and_true, Bool.false_and, Bool.and_false, Bool.not_true, Bool.not_false, cond_true, cond_false])) rfl .n)) .n rfl rfl rfl)
        · refine W.pk ?_
          refine .v rfl rfl (OpL.move (.inl rfl) rfl) ?_
          refine .v rfl rfl (OpL.binI rfl rfl rfl rfl) ?_
          refine .v rfl rfl (OpL.move (.inl rfl) rfl) ?_
          refine .v rfl (met rfl rfl rfl g1) (OpL.move (.inl rfl) rfl) ?_
          refine .v rfl (met rfl rfl rfl g1) (OpL.binI rfl rfl rfl rfl) ?_
          refine .v rfl rfl (O.pickT g1 rfl rfl rfl) ?_
          refine .v rfl rfl (OpL.move (.inl rfl) rfl) ?_
          refine .x rfl (unmet rfl rfl rfl g2) ?_
          refine .x rfl (unmet rfl rfl rfl g2) ?_
          refine .v rfl rfl (O.pickF g2 rfl rfl rfl) ?_
          refine .v rfl rfl (OpL.move (.inl rfl) rfl) ?_
          refine .v rfl (met rfl rfl rfl rfl) (OpL.move (.inl rfl) rfl) ?_
          refine .v rfl (met rfl rfl rfl rfl) (OpL.binI rfl rfl rfl rfl) ?_
          refine .v rfl (met rfl rfl rfl rfl) (OpL.move (.inl rfl) rfl) ?_
          refine .x rfl (unmet rfl rfl rfl g6) ?_
          refine .x rfl (unmet rfl rfl rfl g6) ?_
          refine .v rfl (met rfl rfl rfl rfl) (O.pickF g6 rfl rfl rfl) ?_
          refine .v rfl (met rfl rfl rfl rfl) (OpL.move (.inl rfl) rfl) ?_
          refine .x rfl (unmet rfl rfl rfl rfl) ?_
          refine .x rfl (unmet rfl rfl rfl rfl) ?_
          refine .v rfl (met rfl rfl rfl rfl) (O.pickF rfl rfl rfl rfl) ?_
          refine .v rfl rfl (O.pickF rfl rfl rfl rfl) ?_
          refine .nil ?_
          exact toN (Gives.mkR [] (.c rfl (.rfl _) rfl (.c rfl (sbb (by simp only [g1, g2, g6, Bool.true_or, Bool.or_true, Bool.false_or, Bool.or_false, Bool.true_and, Bool.and_true, Bool.false_and, Bool.and_false, Bool.not_true, Bool.not_false, cond_true, cond_false])) rfl .n)) .n rfl rfl rfl)
    · rcases tf (decide (x0 < 0)) with g8 | g8
      · rcases tf (decide (x1 < 0)) with g9 | g9
        · refine W.pk ?_
          refine .v rfl rfl (OpL.move (.inl rfl) rfl) ?_
          refine .v rfl rfl (OpL.binI rfl rfl rfl rfl) ?_
          refine .v rfl rfl (OpL.move (.inl rfl) rfl) ?_
          refine .x rfl (unmet rfl rfl rfl g1) ?_
          refine .x rfl (unmet rfl rfl rfl g1) ?_
          refine .v rfl rfl (O.pickF g1 rfl rfl rfl) ?_
          refine .v rfl rfl (OpL.move (.inl rfl) rfl) ?_
          refine .x rfl (unmet rfl rfl rfl rfl) ?_
          refine .x rfl (unmet rfl rfl rfl rfl) ?_
          refine .v rfl rfl (O.pickF rfl rfl rfl rfl) ?_
          refine .v rfl rfl (OpL.move (.inl rfl) rfl) ?_
          refine .v rfl (met rfl rfl rfl rfl) (OpL.move (.inl rfl) rfl) ?_
          refine .v rfl (met rfl rfl rfl rfl) (OpL.binI rfl rfl rfl rfl) ?_
          refine .v rfl (met rfl rfl rfl rfl) (OpL.move (.inl rfl) rfl) ?_
          refine .v rfl (met rfl rfl rfl g8) (OpL.move (.inl rfl) rfl) ?_
          refine .v rfl (met rfl rfl rfl g8) (OpL.binI rfl rfl rfl rfl) ?_
          refine .v rfl (met rfl rfl rfl rfl) (O.pickT g8 rfl rfl rfl) ?_
          refine .v rfl (met rfl rfl rfl rfl) (OpL.move (.inl rfl) rfl) ?_
          refine .v rfl (met rfl rfl rfl g9) (OpL.move (.inl rfl) rfl) ?_
          refine .v rfl (met rfl rfl rfl g9) (OpL.binI rfl rfl rfl rfl) ?_
          refine .v rfl (met rfl rfl rfl rfl) (O.pickT g9 rfl rfl rfl) ?_
          refine .v rfl rfl (O.pickF rfl rfl rfl rfl) ?_
          refine .nil ?_
          exact toN (Gives.mkR [] (.c rfl (.rfl _) rfl (.c rfl (sbb (by simp only [g1, g8, g9, Bool.true_or, Bool.or_true, Bool.false_or, Bool.or_false, Bool.true_and, Bool.and_true, Bool.false_and, Bool.and_false, Bool.not_true, Bool.not_false, cond_true, cond_false])) rfl .n)) .n rfl rfl rfl)
        · refine W.pk ?_
          refine .v rfl rfl (OpL.move (.inl rfl) rfl) ?_
          refine .v rfl rfl (OpL.binI rfl rfl rfl rfl) ?_
          refine .v rfl rfl (OpL.move (.inl rfl) rfl) ?_
          refine .x rfl (unmet rfl rfl rfl g1) ?_
          refine .x rfl (unmet rfl rfl rfl g1) ?_
          refine .v rfl rfl (O.pickF g1 rfl rfl rfl) ?_
          refine .v rfl rfl (OpL.move (.inl rfl) rfl) ?_
          refine .x rfl (unmet rfl rfl rfl rfl) ?_
          refine .x rfl (unmet rfl rfl rfl rfl) ?_
          refine .v rfl rfl (O.pickF rfl rfl rfl rfl) ?_
          refine .v rfl rfl (OpL.move (.inl rfl) rfl) ?_
          refine .v rfl (met rfl rfl rfl rfl) (OpL.move (.inl rfl) rfl) ?_
          refine .v rfl (met rfl rfl rfl rfl) (OpL.binI rfl rfl rfl rfl) ?_
          refine .v rfl (met rfl rfl rfl rfl) (OpL.move (.inl rfl) rfl) ?_
          refine .v rfl (met rfl rfl rfl g8) (OpL.move (.inl rfl) rfl) ?_
          refine .v rfl (met rfl rfl rfl g8) (OpL.binI rfl rfl rfl rfl) ?_
          refine .v rfl (met rfl rfl rfl rfl) (O.pickT g8 rfl rfl rfl) ?_
          refine .v rfl (met rfl rfl rfl rfl) (OpL.move (.inl rfl) rfl) ?_
          refine .x rfl (unmet rfl rfl rfl g9) ?_
          refine .x rfl (unmet rfl rfl rfl g9) ?_
          refine .v rfl (met rfl rfl rfl rfl) (O.pickF g9 rfl rfl rfl) ?_
          refine .v rfl rfl (O.pickF rfl rfl rfl rfl) ?_
          refine .nil ?_
          exact toN (Gives.mkR [] (.c rfl (.rfl _) rfl (.c rfl (sbb (by simp only [g1, g8, g9, Bool.true_or, Bool.or_true, Bool.false_or, Bool.or_false, Bool.true_and, Bool.and_true, Bool.false_and, Bool.and_false, Bool.not_true, Bool.not_false, cond_true, cond_false])) rfl .n)) .n rfl rfl rfl)
      · refine W.pk ?_
        refine .v rfl rfl (OpL.move (.inl rfl) rfl) ?_
        refine .v rfl rfl (OpL.binI rfl rfl rfl rfl) ?_
        refine .v rfl rfl (OpL.move (.inl rfl) rfl) ?_
        refine .x rfl (unmet rfl rfl rfl g1) ?_
        refine .x rfl (unmet rfl rfl rfl g1) ?_
        refine .v rfl rfl (O.pickF g1 rfl rfl rfl) ?_
        refine .v rfl rfl (OpL.move (.inl rfl) rfl) ?_
        refine .x rfl (unmet rfl rfl rfl rfl) ?_
        refine .x rfl (unmet rfl rfl rfl rfl) ?_
        refine .v rfl rfl (O.pickF rfl rfl rfl rfl) ?_
        refine .v rfl rfl (OpL.move (.inl rfl) rfl) ?_
        refine .v rfl (met rfl rfl rfl rfl) (OpL.move (.inl rfl) rfl) ?_
        refine .v rfl (met rfl rfl rfl rfl) (OpL.binI rfl rfl rfl rfl) ?_
        refine .v rfl (met rfl rfl rfl rfl) (OpL.move (.inl rfl) rfl) ?_
        refine .x rfl (unmet rfl rfl rfl g8) ?_
        refine .x rfl (unmet rfl rfl rfl g8) ?_
        refine .v rfl (met rfl rfl rfl rfl) (O.pickF g8 rfl rfl rfl) ?_
        refine .v rfl (met rfl rfl rfl rfl) (OpL.move (.inl rfl) rfl) ?_
        refine .x rfl (unmet rfl rfl rfl rfl) ?_
        refine .x rfl (unmet rfl rfl rfl rfl) ?_
        refine .v rfl (met rfl rfl rfl rfl) (O.pickF rfl rfl rfl rfl) ?_
        refine .v rfl rfl (O.pickF rfl rfl rfl rfl) ?_
        refine .nil ?_
        exact toN (Gives.mkR [] (.c rfl (.rfl _) rfl (.c rfl (sbb (by simp only [g1, g8, Bool.true_or, Bool.or_true, Bool.false_or, Bool.or_false, Bool.true_and, Bool.and_true, Bool.false_and, Bool.and_false, Bool.not_true, Bool.not_false, cond_true, cond_false])) rfl .n)) .n rfl rfl rfl)

noncomputable def haircut_Total.b0 (x0 : List haircut_Item) (v8 : Int) (v9 : Int) : Option ((Int × Int) ⊕ ((Int × Int) ⊕ Int)) :=
  if (decide (v9 < (List.length x0 : Int))) = true then
    if (0 : Int) ≤ v9 ∧ v9 < (List.length x0 : Int) then
    (haircut_Item_Cover.f (⟨((nth x0 v9).Lot), ((nth x0 v9).Asset), (nth x0 v9).Price, (nth x0 v9).Cut⟩ : haircut_Item)).bind fun t30 =>
    (fixnum_Plus.f v8 t30).bind fun t32 =>
    if (t32.2 != 0) = true then
      some (.inr (.inl (0, t32.2)))
    else
      some (.inl (t32.1, (IntKind.wrap .i64 (v9 + 1))))
    else none
  else
    some (.inr (.inr v8))
noncomputable def haircut_Total.r0 (x0 : List haircut_Item) (s : Int × Int) : Option ((Int × Int) ⊕ ((Int × Int) ⊕ Int)) := haircut_Total.b0 x0 s.1 s.2
noncomputable def haircut_Total.f (x0 : List haircut_Item) : Option (Int × Int) :=
  (loop (haircut_Total.r0 x0) (0, 0)).bind fun o25 =>
  match o25 with
  | .inl r35 => some r35
  | .inr w24 =>
    some (w24, 0)
set_option maxRecDepth 100000 in
set_option maxHeartbeats 4000000 in
theorem haircut_Total.ok {x0 : List haircut_Item} {r : Int × Int} (h : haircut_Total.f x0 = some r) : Pm.Spec prog 22 [.xown 48 9 (List.map haircut_Item.enc x0)] (.tup [.imm (.val (.int .i64 r.1)), .imm (.val (.int .i64 r.2))]) [some (.xown 48 9 (List.map haircut_Item.enc x0))] := by
  unfold haircut_Total.f at h
  refine Pm.Spec.of_body Try.func22 rfl (by kernel_rfl) (Nat.le_of_ble_eq_true rfl) (Nat.le_of_ble_eq_true rfl) ?_
  refine W.ghost (σ' := (mkSt [(0, some (.own 0))] [(0, some (.rows 48 9 (List.map haircut_Item.enc x0) false))] 1000)) (Gives.entry (.c rfl .n) (.c rfl .n)) ?_
  refine W.seq ?_
  refine W.pk ?_
  refine .v rfl rfl (OpL.move (.inr rfl) rfl) ?_
  refine .v rfl rfl (OpL.move (.inr rfl) rfl) ?_
  refine .nil ?_
  refine W.seq ?_
  refine W.pk ?_
  refine .v rfl rfl (OpL.move (.inr rfl) rfl) ?_
  refine .v rfl rfl (OpL.move (.inr rfl) rfl) ?_
  refine .nil ?_
  refine W.seq ?_
  refine W.seq ?_
  refine W.pk ?_
  refine .v rfl rfl (OpL.move (.inl rfl) rfl) ?_
  refine .v rfl rfl (O.lenO sl43 rfl rfl rfl) ?_
  refine .v rfl rfl (OpL.move (.inl rfl) rfl) ?_
  refine .nil ?_
  obtain ⟨o25, b26, z27⟩ := bnd1 h
  refine W.fork2 (out := o25) (fun (w24 : Int) => mkSt [(4, some (.imm (.val (.int .i64 w24))))] [(0, some (.rows 48 9 (List.map haircut_Item.enc x0) false))] 1000) ?_ ?_
  · clear h
    refine W.block ?_
    refine W.loopF (fun (s_ : Int × Int) => mkSt [(4, some (.imm (.val (.int .i64 s_.1)))), (8, some (.own 0)), (9, some (.imm (.val (.int .i64 (List.length x0 : Int))))), (10, some (.imm (.val (.int .i64 s_.2))))] [(0, some (.rows 48 9 (List.map haircut_Item.enc x0) false))] 1000) b26 (Gives.mkR [] (.c rfl (.rfl _) rfl (.c rfl (.rfl _) rfl (.c rfl (.rfl _) rfl (.c rfl (.rfl _) rfl .n)))) (.c rfl (.rfl _) rfl rfl .n) rfl rfl rfl) ?_
    rintro ⟨v8, v9⟩ s_ hr
    have h : haircut_Total.b0 x0 v8 v9 = some s_ := hr
    unfold haircut_Total.b0 at h
    refine W.seq ?_
    refine W.pk ?_
    refine .v rfl rfl (OpL.binI rfl rfl rfl rfl) ?_
    refine .nil ?_
    refine W.seq ?_
    refine W.cond rfl (fun q28 => ?_) (fun q28 => ?_)
    · have h := ifT q28 h
      refine W.skip ?_
      refine W.seq ?_
      refine W.block ?_
      refine W.seq ?_
      obtain ⟨c29, h⟩ := chk h
      refine W.pk ?_
      refine .v rfl rfl (O.idxO sl43 c29 rfl rfl rfl rfl) ?_
      refine .v rfl rfl (O.ldEN ty48 c29 rfl rfl rfl rfl rfl) ?_
      refine .t rfl rfl (O.alloc z48 rfl) ?_
      refine .s rfl rfl (O.st ty48 rfl rfl rfl rfl rfl rfl rfl rfl rfl rfl (all' := [.imm (.val (.string (tx (((nth x0 v9).Lot).ISIN)))), .imm (.val (.int .i64 (((nth x0 v9).Lot).Qty))), .imm (.val (.string (tx (((nth x0 v9).Asset).ISIN)))), .imm (.val (.int .i64 (((nth x0 v9).Asset).Issuer))), .imm (.val (.int .i64 (((nth x0 v9).Asset).Rating))), .imm (.val (.int .i64 (((nth x0 v9).Asset).Maturity))), .imm (.val (.string (tx (((nth x0 v9).Asset).Currency)))), .imm (.val (.int .i64 ((nth x0 v9).Price))), .imm (.val (.int .i64 ((nth x0 v9).Cut)))]) rfl) ?_
      refine .nil ?_
      refine W.seq ?_
      obtain ⟨t30, b31, h⟩ := bnd1 h
      obtain ⟨t32, b33, h⟩ := bnd1 h
      refine W.pk ?_
      refine .v rfl rfl (OpL.move (.inl rfl) rfl) ?_
      refine .v rfl rfl (O.ldN ty48 rfl rfl rfl) ?_
      refine .call (.imm (.val (.int .i64 t30))) [] 0 (haircut_Item_Cover.ok b31) rfl rfl rfl ca20 rfl rfl (cC (.agg _ _ _ _ (cC (.imm _) (cC (.imm _) (cC (.imm _) (cC (.imm _) (cC (.imm _) (cC (.imm _) (cC (.imm _) (cC (.imm _) (cC (.imm _) .nil)))))))))) .nil) rfl rfl rfl rfl rfl ?_
      refine .call (.tup [.imm (.val (.int .i64 t32.1)), .imm (.val (.int .i64 t32.2))]) [] 0 (fixnum_Plus.ok b33) rfl rfl rfl ca44 rfl rfl (cC (.imm _) (cC (.imm _) .nil)) rfl rfl rfl rfl rfl ?_
      refine .v rfl rfl (OpL.move (.inl rfl) rfl) ?_
      refine .v rfl rfl (OpL.extract rfl rfl rfl) ?_
      refine .v rfl rfl (OpL.extract rfl rfl rfl) ?_
      refine .v rfl rfl (OpL.move (.inr rfl) rfl) ?_
      refine .v rfl rfl (OpL.move (.inr rfl) rfl) ?_
      refine .nil ?_
      refine W.seq ?_
      refine W.pk ?_
      refine .v rfl rfl (OpL.move (.inl rfl) rfl) ?_
      refine .v rfl rfl (OpL.binI rfl rfl rfl rfl) ?_
      refine .nil ?_
      refine W.cond rfl (fun q34 => ?_) (fun q34 => ?_)
      · have h := ifT q34 h
        refine W.seq ?_
        refine W.pk ?_
        refine .v rfl rfl (OpL.move (.inl rfl) rfl) ?_
        refine .v rfl rfl (OpL.move (.inr rfl) rfl) ?_
        refine .v rfl rfl (OpL.move (.inr rfl) rfl) ?_
        refine .nil ?_
        refine W.ret ?_
        cases h
        refine rdR fun e_ => ?_
        subst e_
        have h := z27
        dsimp only at h
        refine fkR ?_
        cases h
        exact leaves (.inr rfl) rfl (.tup _ _ _ _ (cC (.imm _) (cC (.imm _) .nil))) (cS (.own _ _ _ _ rfl) .nil) rfl rfl
      · have h := ifF q34 h
        refine W.skip ?_
        refine W.pk ?_
        refine .v rfl rfl (OpL.binI rfl rfl rfl rfl) ?_
        refine .v rfl rfl (OpL.move (.inl rfl) rfl) ?_
        refine .nil ?_
        cases h
        exact rdN (Gives.mkR [] (.c rfl (.rfl _) rfl (.c rfl (.rfl _) rfl (.c rfl (.rfl _) rfl (.c rfl (.rfl _) rfl .n)))) (.c rfl (.rfl _) rfl rfl .n) rfl rfl rfl)
    · have h := ifF q28 h
      refine W.exit ?_
      cases h
      refine rdX fun e_ => ?_
      subst e_
      refine hit ?_
      exact fkN (Gives.mkR [] (.c rfl (.rfl _) rfl .n) (.c rfl (.rfl _) rfl rfl .n) rfl rfl rfl)
  · intro w24 e_
    subst e_
    clear h
    have h := z27
    dsimp only at h
    refine W.seq ?_
    refine W.pk ?_
    refine .v rfl rfl (OpL.move (.inl rfl) rfl) ?_
    refine .v rfl rfl (OpL.move (.inr rfl) rfl) ?_
    refine .v rfl rfl (OpL.move (.inr rfl) rfl) ?_
    refine .nil ?_
    refine W.ret ?_
    cases h
    exact leaves (.inr rfl) rfl (.tup _ _ _ _ (cC (.imm _) (cC (.imm _) .nil))) (cS (.own _ _ _ _ rfl) .nil) rfl rfl

noncomputable def lombardref01_Plus.f (x0 : Int) (x1 : Int) : Option (Int × Int) :=
  if (((decide (x1 > 0)) && (decide (x0 > (IntKind.wrap .i64 (9223372036854775807 - x1))))) || ((decide (x1 < 0)) && (decide (x0 < (IntKind.wrap .i64 ((-9223372036854775808) - x1)))))) = true then
    some (0, 9)
  else
    some ((IntKind.wrap .i64 (x0 + x1)), 0)
set_option maxRecDepth 100000 in
set_option maxHeartbeats 4000000 in
theorem lombardref01_Plus.ok {x0 : Int} {x1 : Int} {r : Int × Int} (h : lombardref01_Plus.f x0 x1 = some r) : Pm.Spec prog 45 [.imm (.val (.int .i64 x0)), .imm (.val (.int .i64 x1))] (.tup [.imm (.val (.int .i64 r.1)), .imm (.val (.int .i64 r.2))]) [none, none] := by
  unfold lombardref01_Plus.f at h
  refine Pm.Spec.of_body Try.func45 rfl (by kernel_rfl) (Nat.le_of_ble_eq_true rfl) (Nat.le_of_ble_eq_true rfl) ?_
  refine W.ghost (σ' := (mkSt [(0, some (.imm (.val (.int .i64 x0)))), (1, some (.imm (.val (.int .i64 x1))))] [] 1000)) (Gives.entry (.c rfl (.c rfl .n)) .n) ?_
  refine W.seq ?_
  refine W.pk ?_
  refine .v rfl rfl (OpL.move (.inr rfl) rfl) ?_
  refine .v rfl rfl (OpL.move (.inr rfl) rfl) ?_
  refine .nil ?_
  refine W.seq ?_
  refine W.seq ?_
  refine W.fork (mkSt [(0, some (.imm (.val (.int .i64 x0)))), (1, some (.imm (.val (.int .i64 x1)))), (23, some (.imm (.val (.bool (((decide (x1 > 0)) && (decide (x0 > (IntKind.wrap .i64 (9223372036854775807 - x1))))) || ((decide (x1 < 0)) && (decide (x0 < (IntKind.wrap .i64 ((-9223372036854775808) - x1))))))))))] [] 1000) ?_ ?_
  · refine W.cond rfl (fun q5 => ?_) (fun q5 => ?_)
    · have h := ifT q5 h
      refine W.seq ?_
      refine W.pk ?_
      refine .v rfl rfl (OpL.move (.inr rfl) rfl) ?_
      refine .v rfl rfl (OpL.move (.inr rfl) rfl) ?_
      refine .nil ?_
      refine W.ret ?_
      cases h
      exact leaves (.inr rfl) rfl (.tup _ _ _ _ (cC (.imm _) (cC (.imm _) .nil))) (cN (cN .nil)) rfl rfl
    · have h := ifF q5 h
      refine W.skip ?_
      refine W.seq ?_
      refine W.pk ?_
      refine .v rfl rfl (OpL.move (.inl rfl) rfl) ?_
      refine .v rfl rfl (OpL.move (.inl rfl) rfl) ?_
      refine .v rfl rfl (OpL.binI rfl rfl rfl rfl) ?_
      refine .v rfl rfl (OpL.move (.inr rfl) rfl) ?_
      refine .v rfl rfl (OpL.move (.inr rfl) rfl) ?_
      refine .nil ?_
      refine W.ret ?_
      cases h
      exact leaves (.inr rfl) rfl (.tup _ _ _ _ (cC (.imm _) (cC (.imm _) .nil))) (cN (cN .nil)) rfl rfl
  · clear h
    rcases tf (decide (x1 > 0)) with g1 | g1
    · rcases tf (decide (x0 > (IntKind.wrap .i64 (9223372036854775807 - x1)))) with g2 | g2
      · refine W.pk ?_
        refine .v rfl rfl (OpL.move (.inl rfl) rfl) ?_
        refine .v rfl rfl (OpL.binI rfl rfl rfl rfl) ?_
        refine .v rfl rfl (OpL.move (.inl rfl) rfl) ?_
        refine .v rfl (met rfl rfl rfl g1) (OpL.move (.inl rfl) rfl) ?_
        refine .v rfl (met rfl rfl rfl g1) (OpL.move (.inl rfl) rfl) ?_
        refine .v rfl (met rfl rfl rfl g1) (OpL.binI rfl rfl rfl rfl) ?_
        refine .v rfl (met rfl rfl rfl g1) (OpL.binI rfl rfl rfl rfl) ?_
        refine .v rfl rfl (O.pickT g1 rfl rfl rfl) ?_
        refine .v rfl rfl (OpL.move (.inl rfl) rfl) ?_
        refine .x rfl (unmet rfl rfl rfl g2) ?_
        refine .x rfl (unmet rfl rfl rfl g2) ?_
        refine .x rfl (unmet rfl rfl rfl g2) ?_
        refine .x rfl (unmetU rfl rfl rfl) ?_
        refine .x rfl (unmetU rfl rfl rfl) ?_
        refine .x rfl (unmetU rfl rfl rfl) ?_
        refine .x rfl (unmetU rfl rfl rfl) ?_
        refine .x rfl (unmet rfl rfl rfl g2) ?_
        refine .v rfl rfl (O.pickT g2 rfl rfl rfl) ?_
        refine .nil ?_
        exact toN (Gives.mkR [] (.c rfl (.rfl _) rfl (.c rfl (.rfl _) rfl (.c rfl (sbb (by simp only [g1, g2, Bool.true_or, Bool.or_true, Bool.false_or, Bool.or_false, Bool.true_and, Bool.and_true, Bool.false_and, Bool.and_false, Bool.not_true, Bool.not_false, cond_true, cond_false])) rfl .n))) .n rfl rfl rfl)
      · rcases tf (decide (x1 < 0)) with g3 | g3
        · refine W.pk ?_
          refine .v rfl rfl (OpL.move (.inl rfl) rfl) ?_
          refine .v rfl rfl (OpL.binI rfl rfl rfl rfl) ?_
          refine .v rfl rfl (OpL.move (.inl rfl) rfl) ?_
          refine .v rfl (met rfl rfl rfl g1) (OpL.move (.inl rfl) rfl) ?_
          refine .v rfl (met rfl rfl rfl g1) (OpL.move (.inl rfl) rfl) ?_
          refine .v rfl (met rfl rfl rfl g1) (OpL.binI rfl rfl rfl rfl) ?_
          refine .v rfl (met rfl rfl rfl g1) (OpL.binI rfl rfl rfl rfl) ?_
          refine .v rfl rfl (O.pickT g1 rfl rfl rfl) ?_
          refine .v rfl rfl (OpL.move (.inl rfl) rfl) ?_
          refine .v rfl (met rfl rfl rfl g2) (OpL.move (.inl rfl) rfl) ?_
          refine .v rfl (met rfl rfl rfl g2) (OpL.binI rfl rfl rfl rfl) ?_
          refine .v rfl (met rfl rfl rfl g2) (OpL.move (.inl rfl) rfl) ?_
          refine .v rfl (met rfl rfl rfl g3) (OpL.move (.inl rfl) rfl) ?_
          refine .v rfl (met rfl rfl rfl g3) (OpL.move (.inl rfl) rfl) ?_
          refine .v rfl (met rfl rfl rfl g3) (OpL.binI rfl rfl rfl rfl) ?_
          refine .v rfl (met rfl rfl rfl g3) (OpL.binI rfl rfl rfl rfl) ?_
          refine .v rfl (met rfl rfl rfl g2) (O.pickT g3 rfl rfl rfl) ?_
          refine .v rfl rfl (O.pickF g2 rfl rfl rfl) ?_
          refine .nil ?_
          exact toN (Gives.mkR [] (.c rfl (.rfl _) rfl (.c rfl (.rfl _) rfl (.c rfl (sbb (by simp only [g1, g2, g3, Bool.true_or, Bool.or_true, Bool.false_or, Bool.or_false, Bool.true_and, Bool.and_true, Bool.false_and, Bool.and_false, Bool.not_true, Bool.not_false, cond_true, cond_false])) rfl .n))) .n rfl rfl rfl)
        · refine W.pk ?_
          refine .v rfl rfl (OpL.move (.inl rfl) rfl) ?_
          refine .v rfl rfl (OpL.binI rfl rfl rfl rfl) ?_
          refine .v rfl rfl (OpL.move (.inl rfl) rfl) ?_
          refine .v rfl (met rfl rfl rfl g1) (OpL.move (.inl rfl) rfl) ?_
          refine .v rfl (met rfl rfl rfl g1) (OpL.move (.inl rfl) rfl) ?_
          refine .v rfl (met rfl rfl rfl g1) (OpL.binI rfl rfl rfl rfl) ?_
          refine .v rfl (met rfl rfl rfl g1) (OpL.binI rfl rfl rfl rfl) ?_
          refine .v rfl rfl (O.pickT g1 rfl rfl rfl) ?_
          refine .v rfl rfl (OpL.move (.inl rfl) rfl) ?_
          refine .v rfl (met rfl rfl rfl g2) (OpL.move (.inl rfl) rfl) ?_
          refine .v rfl (met rfl rfl rfl g2) (OpL.binI rfl rfl rfl rfl) ?_
          refine .v rfl (met rfl rfl rfl g2) (OpL.move (.inl rfl) rfl) ?_
          refine .x rfl (unmet rfl rfl rfl g3) ?_
          refine .x rfl (unmet rfl rfl rfl g3) ?_
          refine .x rfl (unmet rfl rfl rfl g3) ?_
          refine .x rfl (unmet rfl rfl rfl g3) ?_
          refine .v rfl (met rfl rfl rfl g2) (O.pickF g3 rfl rfl rfl) ?_
          refine .v rfl rfl (O.pickF g2 rfl rfl rfl) ?_
          refine .nil ?_
          exact toN (Gives.mkR [] (.c rfl (.rfl _) rfl (.c rfl (.rfl _) rfl (.c rfl (sbb (by simp only [g1, g2, g3, Bool.true_or, Bool.or_true, Bool.false_or, Bool.or_false, Bool.true_and, Bool.and_true, Bool.false_and, Bool.and_false, Bool.not_true, Bool.not_false, cond_true, cond_false])) rfl .n))) .n rfl rfl rfl)
    · rcases tf (decide (x1 < 0)) with g4 | g4
      · refine W.pk ?_
        refine .v rfl rfl (OpL.move (.inl rfl) rfl) ?_
        refine .v rfl rfl (OpL.binI rfl rfl rfl rfl) ?_
        refine .v rfl rfl (OpL.move (.inl rfl) rfl) ?_
        refine .x rfl (unmet rfl rfl rfl g1) ?_
        refine .x rfl (unmet rfl rfl rfl g1) ?_
        refine .x rfl (unmet rfl rfl rfl g1) ?_
        refine .x rfl (unmet rfl rfl rfl g1) ?_
        refine .v rfl rfl (O.pickF g1 rfl rfl rfl) ?_
        refine .v rfl rfl (OpL.move (.inl rfl) rfl) ?_
        refine .v rfl (met rfl rfl rfl rfl) (OpL.move (.inl rfl) rfl) ?_
        refine .v rfl (met rfl rfl rfl rfl) (OpL.binI rfl rfl rfl rfl) ?_
        refine .v rfl (met rfl rfl rfl rfl) (OpL.move (.inl rfl) rfl) ?_
        refine .v rfl (met rfl rfl rfl g4) (OpL.move (.inl rfl) rfl) ?_
        refine .v rfl (met rfl rfl rfl g4) (OpL.move (.inl rfl) rfl) ?_
        refine .v rfl (met rfl rfl rfl g4) (OpL.binI rfl rfl rfl rfl) ?_
        refine .v rfl (met rfl rfl rfl g4) (OpL.binI rfl rfl rfl rfl) ?_
        refine .v rfl (met rfl rfl rfl rfl) (O.pickT g4 rfl rfl rfl) ?_
        refine .v rfl rfl (O.pickF rfl rfl rfl rfl) ?_
        refine .nil ?_
        exact toN (Gives.mkR [] (.c rfl (.rfl _) rfl (.c rfl (.rfl _) rfl (.c rfl (sbb (by simp only [g1, g4, Bool.true_or, Bool.or_true, Bool.false_or, Bool.or_false, Bool.true_and, Bool.and_true, Bool.false_and, Bool.and_false, Bool.not_true, Bool.not_false, cond_true, cond_false])) rfl .n))) .n rfl rfl rfl)
      · refine W.pk ?_
        refine .v rfl rfl (OpL.move (.inl rfl) rfl) ?_
        refine .v rfl rfl (OpL.binI rfl rfl rfl rfl) ?_
        refine .v rfl rfl (OpL.move (.inl rfl) rfl) ?_
        refine .x rfl (unmet rfl rfl rfl g1) ?_
        refine .x rfl (unmet rfl rfl rfl g1) ?_
        refine .x rfl (unmet rfl rfl rfl g1) ?_
        refine .x rfl (unmet rfl rfl rfl g1) ?_
        refine .v rfl rfl (O.pickF g1 rfl rfl rfl) ?_
        refine .v rfl rfl (OpL.move (.inl rfl) rfl) ?_
        refine .v rfl (met rfl rfl rfl rfl) (OpL.move (.inl rfl) rfl) ?_
        refine .v rfl (met rfl rfl rfl rfl) (OpL.binI rfl rfl rfl rfl) ?_
        refine .v rfl (met rfl rfl rfl rfl) (OpL.move (.inl rfl) rfl) ?_
        refine .x rfl (unmet rfl rfl rfl g4) ?_
        refine .x rfl (unmet rfl rfl rfl g4) ?_
        refine .x rfl (unmet rfl rfl rfl g4) ?_
        refine .x rfl (unmet rfl rfl rfl g4) ?_
        refine .v rfl (met rfl rfl rfl rfl) (O.pickF g4 rfl rfl rfl) ?_
        refine .v rfl rfl (O.pickF rfl rfl rfl rfl) ?_
        refine .nil ?_
        exact toN (Gives.mkR [] (.c rfl (.rfl _) rfl (.c rfl (.rfl _) rfl (.c rfl (sbb (by simp only [g1, g4, Bool.true_or, Bool.or_true, Bool.false_or, Bool.or_false, Bool.true_and, Bool.and_true, Bool.false_and, Bool.and_false, Bool.not_true, Bool.not_false, cond_true, cond_false])) rfl .n))) .n rfl rfl rfl)

noncomputable def lombardref15_Total.b0 (x0 : List lombardref15_Item) (v8 : Int) (v9 : Int) : Option ((Int × Int) ⊕ ((Int × Int) ⊕ Int)) :=
  if (decide (v9 < (List.length x0 : Int))) = true then
    if (0 : Int) ≤ v9 ∧ v9 < (List.length x0 : Int) then
    (lombardref15_Item_Covers.f (⟨((nth x0 v9).Lot), ((nth x0 v9).Asset), (nth x0 v9).Price, (nth x0 v9).Cut⟩ : lombardref15_Item)).bind fun t30 =>
    (lombardref01_Plus.f v8 t30).bind fun t32 =>
    if (t32.2 != 0) = true then
      some (.inr (.inl (0, t32.2)))
    else
      some (.inl (t32.1, (IntKind.wrap .i64 (v9 + 1))))
    else none
  else
    some (.inr (.inr v8))
noncomputable def lombardref15_Total.r0 (x0 : List lombardref15_Item) (s : Int × Int) : Option ((Int × Int) ⊕ ((Int × Int) ⊕ Int)) := lombardref15_Total.b0 x0 s.1 s.2
noncomputable def lombardref15_Total.f (x0 : List lombardref15_Item) : Option (Int × Int) :=
  (loop (lombardref15_Total.r0 x0) (0, 0)).bind fun o25 =>
  match o25 with
  | .inl r35 => some r35
  | .inr w24 =>
    some (w24, 0)
set_option maxRecDepth 100000 in
set_option maxHeartbeats 4000000 in
theorem lombardref15_Total.ok {x0 : List lombardref15_Item} {r : Int × Int} (h : lombardref15_Total.f x0 = some r) : Pm.Spec prog 23 [.imm (.row 9 (List.map lombardref15_Item.enc x0))] (.tup [.imm (.val (.int .i64 r.1)), .imm (.val (.int .i64 r.2))]) [none] := by
  unfold lombardref15_Total.f at h
  refine Pm.Spec.of_body Try.func23 rfl (by kernel_rfl) (Nat.le_of_ble_eq_true rfl) (Nat.le_of_ble_eq_true rfl) ?_
  refine W.ghost (σ' := (mkSt [(0, some (.imm (.row 9 (List.map lombardref15_Item.enc x0))))] [] 1000)) (Gives.entry (.c rfl .n) .n) ?_
  refine W.seq ?_
  refine W.pk ?_
  refine .v rfl rfl (OpL.move (.inr rfl) rfl) ?_
  refine .v rfl rfl (OpL.move (.inr rfl) rfl) ?_
  refine .nil ?_
  refine W.seq ?_
  refine W.pk ?_
  refine .v rfl rfl (OpL.move (.inr rfl) rfl) ?_
  refine .nil ?_
  refine W.seq ?_
  refine W.seq ?_
  refine W.pk ?_
  refine .v rfl rfl (OpL.move (.inr rfl) rfl) ?_
  refine .nil ?_
  obtain ⟨o25, b26, z27⟩ := bnd1 h
  refine W.fork2 (out := o25) (fun (w24 : Int) => mkSt [(4, some (.imm (.val (.int .i64 w24))))] [] 1000) ?_ ?_
  · clear h
    refine W.block ?_
    refine W.loopF (fun (s_ : Int × Int) => mkSt [(0, some (.imm (.row 9 (List.map lombardref15_Item.enc x0)))), (4, some (.imm (.val (.int .i64 s_.1)))), (5, some (.imm (.val (.int .i64 s_.2))))] [] 1000) b26 (Gives.mkR [] (.c rfl (.rfl _) rfl (.c rfl (.rfl _) rfl (.c rfl (.rfl _) rfl .n))) .n rfl rfl rfl) ?_
    rintro ⟨v8, v9⟩ s_ hr
    have h : lombardref15_Total.b0 x0 v8 v9 = some s_ := hr
    unfold lombardref15_Total.b0 at h
    refine W.seq ?_
    refine W.seq ?_
    refine W.pk ?_
    refine .v rfl rfl (OpL.move (.inl rfl) rfl) ?_
    refine .v rfl rfl (OpL.move (.inl rfl) rfl) ?_
    refine .v rfl rfl (O.lenR sl42 rfl rfl) ?_
    refine .v rfl rfl (OpL.binI rfl rfl rfl rfl) ?_
    refine .nil ?_
    refine W.cond rfl (fun q28 => ?_) (fun q28 => ?_)
    · have h := ifT q28 h
      refine W.skip ?_
      refine W.seq ?_
      refine W.block ?_
      refine W.seq ?_
      obtain ⟨c29, h⟩ := chk h
      obtain ⟨t30, b31, h⟩ := bnd1 h
      obtain ⟨t32, b33, h⟩ := bnd1 h
      refine W.pk ?_
      refine .v rfl rfl (OpL.move (.inl rfl) rfl) ?_
      refine .v rfl rfl (OpL.move (.inl rfl) rfl) ?_
      refine .v rfl rfl (OpL.move (.inl rfl) rfl) ?_
      refine .v rfl rfl (O.idx sl42 c29 rfl rfl rfl) ?_
      refine .v rfl rfl (O.ldN ty50 rfl rfl rfl) ?_
      refine .call (.imm (.val (.int .i64 t30))) [] 0 (lombardref15_Item_Covers.ok b31) rfl rfl rfl ca21 rfl rfl (cC (.agg _ _ _ _ (cC (.imm _) (cC (.imm _) (cC (.imm _) (cC (.imm _) (cC (.imm _) (cC (.imm _) (cC (.imm _) (cC (.imm _) (cC (.imm _) .nil)))))))))) .nil) rfl rfl rfl rfl rfl ?_
      refine .call (.tup [.imm (.val (.int .i64 t32.1)), .imm (.val (.int .i64 t32.2))]) [] 0 (lombardref01_Plus.ok b33) rfl rfl rfl ca45 rfl rfl (cC (.imm _) (cC (.imm _) .nil)) rfl rfl rfl rfl rfl ?_
      refine .v rfl rfl (OpL.move (.inl rfl) rfl) ?_
      refine .v rfl rfl (OpL.extract rfl rfl rfl) ?_
      refine .v rfl rfl (OpL.extract rfl rfl rfl) ?_
      refine .v rfl rfl (OpL.move (.inr rfl) rfl) ?_
      refine .v rfl rfl (OpL.move (.inr rfl) rfl) ?_
      refine .nil ?_
      refine W.seq ?_
      refine W.seq ?_
      refine W.pk ?_
      refine .v rfl rfl (OpL.move (.inl rfl) rfl) ?_
      refine .v rfl rfl (OpL.binI rfl rfl rfl rfl) ?_
      refine .nil ?_
      refine W.cond rfl (fun q34 => ?_) (fun q34 => ?_)
      · have h := ifT q34 h
        refine W.seq ?_
        refine W.pk ?_
        refine .v rfl rfl (OpL.move (.inl rfl) rfl) ?_
        refine .v rfl rfl (OpL.move (.inr rfl) rfl) ?_
        refine .v rfl rfl (OpL.move (.inr rfl) rfl) ?_
        refine .nil ?_
        refine W.ret ?_
        cases h
        refine rdR fun e_ => ?_
        subst e_
        have h := z27
        dsimp only at h
        refine fkR ?_
        cases h
        exact leaves (.inr rfl) rfl (.tup _ _ _ _ (cC (.imm _) (cC (.imm _) .nil))) (cN .nil) rfl rfl
      · have h := ifF q34 h
        refine W.skip ?_
        refine W.pk ?_
        refine .v rfl rfl (OpL.move (.inl rfl) rfl) ?_
        refine .v rfl rfl (OpL.move (.inr rfl) rfl) ?_
        refine .nil ?_
        refine W.pk ?_
        refine .v rfl rfl (OpL.move (.inl rfl) rfl) ?_
        refine .v rfl rfl (OpL.binI rfl rfl rfl rfl) ?_
        refine .v rfl rfl (OpL.move (.inr rfl) rfl) ?_
        refine .nil ?_
        cases h
        exact rdN (Gives.mkR [] (.c rfl (.rfl _) rfl (.c rfl (.rfl _) rfl (.c rfl (.rfl _) rfl .n))) .n rfl rfl rfl)
    · have h := ifF q28 h
      refine W.exit ?_
      cases h
      refine rdX fun e_ => ?_
      subst e_
      refine hit ?_
      exact fkN (Gives.mkR [] (.c rfl (.rfl _) rfl .n) .n rfl rfl rfl)
  · intro w24 e_
    subst e_
    clear h
    have h := z27
    dsimp only at h
    refine W.seq ?_
    refine W.pk ?_
    refine .v rfl rfl (OpL.move (.inl rfl) rfl) ?_
    refine .v rfl rfl (OpL.move (.inr rfl) rfl) ?_
    refine .v rfl rfl (OpL.move (.inr rfl) rfl) ?_
    refine .nil ?_
    refine W.ret ?_
    cases h
    exact leaves (.inr rfl) rfl (.tup _ _ _ _ (cC (.imm _) (cC (.imm _) .nil))) (cN .nil) rfl rfl
end Go.Proofs.Ytdcpdnfalnelkaa
