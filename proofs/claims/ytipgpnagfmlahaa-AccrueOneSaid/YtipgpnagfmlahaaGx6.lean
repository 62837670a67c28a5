/- Shows what functions of the program come to, each as a plain function: written by a program of the author's for this claim. -/
import Derived.Test.YtipgpnagfmlahaaGx5
namespace Go.Proofs.Ytipgpnagfmlahaa
open Go Go.Pm
set_option linter.unusedVariables false
set_option linter.unusedSimpArgs false
noncomputable def lombardref03_Meter_Day.f (x0 : lombardref03_Meter) (x1 : Int) (x2 : Int) : Option (lombardref03_Meter × Int) :=
  (lombardref03_Amount.f x1).bind fun t1 =>
  (if (!t1) = false then lombardref03_rated.f x2 else some default).bind fun t3 =>
  if ((((!t1) || (!t3)) || (decide (x0.Rest < 0))) || (decide (x0.Rest ≥ 360000000))) = true then
    some (x0, 1)
  else
    (lombardref01_MulDiv.f x1 x2 360000000 1).bind fun t9 =>
    ((
      if (decide ((Int.tmod (IntKind.wrap .i64 ((Int.tmod (IntKind.wrap .i64 ((Int.tmod (IntKind.wrap .i64 ((Int.tmod (IntKind.wrap .i64 (Int.tdiv x1 1048576)) 360000000) * x2)) 360000000) * 1048576)) 360000000) + (Int.tmod (IntKind.wrap .i64 ((Int.tmod x1 1048576) * x2)) 360000000))) 360000000) < 0)) = true then
        some (IntKind.wrap .i64 ((Int.tmod (IntKind.wrap .i64 ((Int.tmod (IntKind.wrap .i64 ((Int.tmod (IntKind.wrap .i64 ((Int.tmod (IntKind.wrap .i64 (Int.tdiv x1 1048576)) 360000000) * x2)) 360000000) * 1048576)) 360000000) + (Int.tmod (IntKind.wrap .i64 ((Int.tmod x1 1048576) * x2)) 360000000))) 360000000) + 360000000))
      else
        some (Int.tmod (IntKind.wrap .i64 ((Int.tmod (IntKind.wrap .i64 ((Int.tmod (IntKind.wrap .i64 ((Int.tmod (IntKind.wrap .i64 (Int.tdiv x1 1048576)) 360000000) * x2)) 360000000) * 1048576)) 360000000) + (Int.tmod (IntKind.wrap .i64 ((Int.tmod x1 1048576) * x2)) 360000000))) 360000000) : Option (Int))).bind fun o13 =>
    ((
      if (decide ((IntKind.wrap .i64 (o13 + x0.Rest)) ≥ 360000000)) = true then
        some ((IntKind.wrap .i64 (t9.1 + 1)), (IntKind.wrap .i64 ((IntKind.wrap .i64 (o13 + x0.Rest)) - 360000000)))
      else
        some (t9.1, (IntKind.wrap .i64 (o13 + x0.Rest))) : Option (Int × Int))).bind fun o19 =>
    (lombardref01_Plus.f x0.Units o19.1).bind fun t22 =>
    if (t22.2 != 0) = true then
      some (x0, 9)
    else
      some ((⟨t22.1, o19.2⟩ : lombardref03_Meter), 0)
set_option maxRecDepth 100000 in
set_option maxHeartbeats 4000000 in
theorem lombardref03_Meter_Day.ok {x0 : lombardref03_Meter} {x1 : Int} {x2 : Int} {r : lombardref03_Meter × Int} (h : lombardref03_Meter_Day.f x0 x1 x2 = some r) : Pm.Spec prog 14 [.agg [.imm (.val (.int .i64 x0.Units)), .imm (.val (.int .i64 x0.Rest))], .imm (.val (.int .i64 x1)), .imm (.val (.int .i64 x2))] (.tup [.agg [.imm (.val (.int .i64 r.1.Units)), .imm (.val (.int .i64 r.1.Rest))], .imm (.val (.int .i64 r.2))]) [none, none, none] := by
  unfold lombardref03_Meter_Day.f at h
  refine Pm.Spec.of_body Try.func14 rfl (by kernel_rfl) (Nat.le_of_ble_eq_true rfl) (Nat.le_of_ble_eq_true rfl) ?_
  refine W.ghost (σ' := (mkSt [(0, some (.agg [.imm (.val (.int .i64 x0.Units)), .imm (.val (.int .i64 x0.Rest))])), (1, some (.imm (.val (.int .i64 x1)))), (2, some (.imm (.val (.int .i64 x2))))] [] 1000)) (Gives.entry (.c rfl (.c rfl (.c rfl .n))) .n) ?_
  refine W.seq ?_
  refine W.pk ?_
  refine .t rfl rfl (O.box rfl rfl rfl rfl rfl) ?_
  refine .t rfl rfl (O.alloc z30 rfl) ?_
  refine .v rfl rfl (OpL.move (.inr rfl) rfl) ?_
  refine .nil ?_
  refine W.seq ?_
  refine W.seq ?_
  obtain ⟨t1, b2, h⟩ := bnd1 h
  obtain ⟨t3, b4, h⟩ := bnd1 h
  refine W.fork (mkSt [(1, some (.imm (.val (.int .i64 x1)))), (2, some (.imm (.val (.int .i64 x2)))), (3, some (.ptr 1000 0)), (6, some (.ptr 1001 0)), (32, some (.imm (.val (.bool ((((!t1) || (!t3)) || (decide (x0.Rest < 0))) || (decide (x0.Rest ≥ 360000000)))))))] [(1000, some (.box [.imm (.val (.int .i64 x0.Units)), .imm (.val (.int .i64 x0.Rest))])), (1001, some (.box [.imm (.val (.int .i64 0)), .imm (.val (.int .i64 0))]))] 1002) ?_ ?_
  · refine W.cond rfl (fun q8 => ?_) (fun q8 => ?_)
    · have h := ifT q8 h
      refine W.seq ?_
      refine W.pk ?_
      refine .v rfl rfl (O.ldN ty30 rfl rfl rfl) ?_
      refine .s rfl rfl (O.st ty30 rfl rfl rfl rfl rfl rfl rfl rfl rfl rfl (all' := [.imm (.val (.int .i64 x0.Units)), .imm (.val (.int .i64 x0.Rest))]) rfl) ?_
      refine .v rfl rfl (OpL.move (.inr rfl) rfl) ?_
      refine .nil ?_
      refine W.ret ?_
      cases h
      exact leaves (.inr rfl) rfl (.tup _ _ _ _ (cC (.agg _ _ _ _ (cC (.imm _) (cC (.imm _) .nil))) (cC (.imm _) .nil))) (cN (cN (cN .nil))) rfl rfl
    · have h := ifF q8 h
      refine W.skip ?_
      refine W.seq ?_
      obtain ⟨t9, b10, h⟩ := bnd1 h
      refine W.pk ?_
      refine .v rfl rfl (OpL.move (.inl rfl) rfl) ?_
      refine .v rfl rfl (OpL.move (.inl rfl) rfl) ?_
      refine .call (.tup [.imm (.val (.int .i64 t9.1)), .imm (.val (.int .i64 t9.2))]) [] 0 (lombardref01_MulDiv.ok b10) rfl rfl rfl ca17 rfl rfl (cC (.imm _) (cC (.imm _) (cC (.imm _) (cC (.imm _) .nil)))) rfl rfl rfl rfl rfl ?_
      refine .v rfl rfl (OpL.move (.inl rfl) rfl) ?_
      refine .v rfl rfl (OpL.extract rfl rfl rfl) ?_
      refine .v rfl rfl (OpL.extract rfl rfl rfl) ?_
      refine .v rfl rfl (OpL.move (.inr rfl) rfl) ?_
      refine .v rfl rfl (OpL.move (.inr rfl) rfl) ?_
      refine .nil ?_
      refine W.seq ?_
      refine W.pk ?_
      refine .v rfl rfl (OpL.move (.inl rfl) rfl) ?_
      refine .v rfl rfl (O.quo rfl rfl rfl (by decide)) ?_
      refine .v rfl rfl (OpL.move (.inr rfl) rfl) ?_
      refine .nil ?_
      refine W.seq ?_
      refine W.pk ?_
      refine .v rfl rfl (OpL.move (.inl rfl) rfl) ?_
      refine .v rfl rfl (O.rem rfl rfl rfl (by decide)) ?_
      refine .v rfl rfl (OpL.move (.inr rfl) rfl) ?_
      refine .nil ?_
      refine W.seq ?_
      refine W.pk ?_
      refine .v rfl rfl (OpL.move (.inl rfl) rfl) ?_
      refine .v rfl rfl (O.rem rfl rfl rfl (by decide)) ?_
      refine .v rfl rfl (OpL.move (.inl rfl) rfl) ?_
      refine .v rfl rfl (OpL.binI rfl rfl rfl rfl) ?_
      refine .v rfl rfl (O.rem rfl rfl rfl (by decide)) ?_
      refine .v rfl rfl (OpL.binI rfl rfl rfl rfl) ?_
      refine .v rfl rfl (O.rem rfl rfl rfl (by decide)) ?_
      refine .v rfl rfl (OpL.move (.inl rfl) rfl) ?_
      refine .v rfl rfl (OpL.move (.inl rfl) rfl) ?_
      refine .v rfl rfl (OpL.binI rfl rfl rfl rfl) ?_
      refine .v rfl rfl (O.rem rfl rfl rfl (by decide)) ?_
      refine .v rfl rfl (OpL.binI rfl rfl rfl rfl) ?_
      refine .v rfl rfl (O.rem rfl rfl rfl (by decide)) ?_
      refine .v rfl rfl (OpL.move (.inr rfl) rfl) ?_
      refine .nil ?_
      refine W.seq ?_
      refine W.seq ?_
      refine W.pk ?_
      refine .v rfl rfl (OpL.move (.inl rfl) rfl) ?_
      refine .v rfl rfl (OpL.binI rfl rfl rfl rfl) ?_
      refine .nil ?_
      obtain ⟨o13, b14, h⟩ := bnd1 h
      refine W.fork (mkSt [(3, some (.ptr 1000 0)), (6, some (.ptr 1001 0)), (8, some (.imm (.val (.int .i64 t9.1)))), (12, some (.imm (.val (.int .i64 o13))))] [(1000, some (.box [.imm (.val (.int .i64 x0.Units)), .imm (.val (.int .i64 x0.Rest))])), (1001, some (.box [.imm (.val (.int .i64 0)), .imm (.val (.int .i64 0))]))] 1002) ?_ ?_
      · refine W.seq ?_
        refine W.pk ?_
        refine .v rfl rfl (OpL.move (.inl rfl) rfl) ?_
        refine .v rfl rfl (O.fld fld30_1 rfl rfl rfl) ?_
        refine .v rfl rfl (O.ld ty3 rfl rfl rfl) ?_
        refine .v rfl rfl (OpL.binI rfl rfl rfl rfl) ?_
        refine .v rfl rfl (OpL.move (.inr rfl) rfl) ?_
        refine .nil ?_
        refine W.seq ?_
        refine W.seq ?_
        refine W.pk ?_
        refine .v rfl rfl (OpL.move (.inl rfl) rfl) ?_
        refine .v rfl rfl (OpL.binI rfl rfl rfl rfl) ?_
        refine .nil ?_
        obtain ⟨o19, b20, h⟩ := bnd1 h
        refine W.fork (mkSt [(3, some (.ptr 1000 0)), (6, some (.ptr 1001 0)), (8, some (.imm (.val (.int .i64 o19.1)))), (12, some (.imm (.val (.int .i64 o19.2))))] [(1000, some (.box [.imm (.val (.int .i64 x0.Units)), .imm (.val (.int .i64 x0.Rest))])), (1001, some (.box [.imm (.val (.int .i64 0)), .imm (.val (.int .i64 0))]))] 1002) ?_ ?_
        · refine W.seq ?_
          obtain ⟨t22, b23, h⟩ := bnd1 h
          refine W.pk ?_
          refine .v rfl rfl (O.fld fld30_0 rfl rfl rfl) ?_
          refine .v rfl rfl (O.ld ty3 rfl rfl rfl) ?_
          refine .v rfl rfl (OpL.move (.inl rfl) rfl) ?_
          refine .call (.tup [.imm (.val (.int .i64 t22.1)), .imm (.val (.int .i64 t22.2))]) [] 0 (lombardref01_Plus.ok b23) rfl rfl rfl ca33 rfl rfl (cC (.imm _) (cC (.imm _) .nil)) rfl rfl rfl rfl rfl ?_
          refine .v rfl rfl (OpL.move (.inl rfl) rfl) ?_
          refine .v rfl rfl (OpL.extract rfl rfl rfl) ?_
          refine .v rfl rfl (OpL.extract rfl rfl rfl) ?_
          refine .v rfl rfl (OpL.move (.inr rfl) rfl) ?_
          refine .v rfl rfl (OpL.move (.inr rfl) rfl) ?_
          refine .nil ?_
          refine W.seq ?_
          refine W.seq ?_
          refine W.pk ?_
          refine .v rfl rfl (OpL.move (.inl rfl) rfl) ?_
          refine .v rfl rfl (OpL.binI rfl rfl rfl rfl) ?_
          refine .nil ?_
          refine W.cond rfl (fun q24 => ?_) (fun q24 => ?_)
          · have h := ifT q24 h
            refine W.seq ?_
            refine W.pk ?_
            refine .v rfl rfl (O.ldN ty30 rfl rfl rfl) ?_
            refine .s rfl rfl (O.st ty30 rfl rfl rfl rfl rfl rfl rfl rfl rfl rfl (all' := [.imm (.val (.int .i64 x0.Units)), .imm (.val (.int .i64 x0.Rest))]) rfl) ?_
            refine .v rfl rfl (OpL.move (.inr rfl) rfl) ?_
            refine .nil ?_
            refine W.ret ?_
            cases h
            exact leaves (.inr rfl) rfl (.tup _ _ _ _ (cC (.agg _ _ _ _ (cC (.imm _) (cC (.imm _) .nil))) (cC (.imm _) .nil))) (cN (cN (cN .nil))) rfl rfl
          · have h := ifF q24 h
            refine W.skip ?_
            refine W.seq ?_
            refine W.pk ?_
            refine .v rfl rfl (OpL.move (.inl rfl) rfl) ?_
            refine .v rfl rfl (OpL.move (.inl rfl) rfl) ?_
            refine .v rfl rfl (O.build (out := [.imm (.val (.int .i64 t22.1)), .imm (.val (.int .i64 o19.2))]) bl30 rfl rfl rfl rfl rfl) ?_
            refine .s rfl rfl (O.st ty30 rfl rfl rfl rfl rfl rfl rfl rfl rfl rfl (all' := [.imm (.val (.int .i64 t22.1)), .imm (.val (.int .i64 o19.2))]) rfl) ?_
            refine .v rfl rfl (OpL.move (.inr rfl) rfl) ?_
            refine .nil ?_
            refine W.ret ?_
            cases h
            exact leaves (.inr rfl) rfl (.tup _ _ _ _ (cC (.agg _ _ _ _ (cC (.imm _) (cC (.imm _) .nil))) (cC (.imm _) .nil))) (cN (cN (cN .nil))) rfl rfl
        · clear h
          have h := b20
          refine W.cond rfl (fun q21 => ?_) (fun q21 => ?_)
          · have h := ifT q21 h
            refine W.seq ?_
            refine W.pk ?_
            refine .v rfl rfl (OpL.move (.inl rfl) rfl) ?_
            refine .v rfl rfl (OpL.binI rfl rfl rfl rfl) ?_
            refine .v rfl rfl (OpL.move (.inr rfl) rfl) ?_
            refine .nil ?_
            refine W.pk ?_
            refine .v rfl rfl (OpL.move (.inl rfl) rfl) ?_
            refine .v rfl rfl (OpL.binI rfl rfl rfl rfl) ?_
            refine .v rfl rfl (OpL.move (.inr rfl) rfl) ?_
            refine .nil ?_
            cases h
            exact toN (Gives.mkR [] (.c rfl (.rfl _) rfl (.c rfl (.rfl _) rfl (.c rfl (.rfl _) rfl (.c rfl (.rfl _) rfl .n)))) (.c rfl (.rfl _) rfl rfl (.c rfl (.rfl _) rfl rfl .n)) rfl rfl rfl)
          · have h := ifF q21 h
            refine W.skip ?_
            cases h
            exact toN (Gives.mkR [] (.c rfl (.rfl _) rfl (.c rfl (.rfl _) rfl (.c rfl (.rfl _) rfl (.c rfl (.rfl _) rfl .n)))) (.c rfl (.rfl _) rfl rfl (.c rfl (.rfl _) rfl rfl .n)) rfl rfl rfl)
      · clear h
        have h := b14
        refine W.cond rfl (fun q15 => ?_) (fun q15 => ?_)
        · have h := ifT q15 h
          refine W.pk ?_
          refine .v rfl rfl (OpL.move (.inl rfl) rfl) ?_
          refine .v rfl rfl (OpL.binI rfl rfl rfl rfl) ?_
          refine .v rfl rfl (OpL.move (.inr rfl) rfl) ?_
          refine .nil ?_
          cases h
          exact toN (Gives.mkR [] (.c rfl (.rfl _) rfl (.c rfl (.rfl _) rfl (.c rfl (.rfl _) rfl (.c rfl (.rfl _) rfl .n)))) (.c rfl (.rfl _) rfl rfl (.c rfl (.rfl _) rfl rfl .n)) rfl rfl rfl)
        · have h := ifF q15 h
          refine W.skip ?_
          cases h
          exact toN (Gives.mkR [] (.c rfl (.rfl _) rfl (.c rfl (.rfl _) rfl (.c rfl (.rfl _) rfl (.c rfl (.rfl _) rfl .n)))) (.c rfl (.rfl _) rfl rfl (.c rfl (.rfl _) rfl rfl .n)) rfl rfl rfl)
  · clear h
    rcases tf t1 with g5 | g5
    · rcases tf t3 with g6 | g6
      · rcases tf (decide (x0.Rest < 0)) with g7 | g7
        · refine W.pk ?_
          refine .v rfl rfl (OpL.move (.inl rfl) rfl) ?_
          refine .call (.imm (.val (.bool t1))) [] 0 (lombardref03_Amount.ok b2) rfl rfl rfl ca28 rfl rfl (cC (.imm _) .nil) rfl rfl rfl rfl rfl ?_
          refine .v rfl rfl (OpL.unV rfl rfl rfl) ?_
          refine .v rfl rfl (OpL.move (.inl rfl) rfl) ?_
          refine .v rfl (met rfl rfl rfl (notT g5)) (OpL.move (.inl rfl) rfl) ?_
          refine .call (.imm (.val (.bool t3))) [] 0 (lombardref03_rated.ok ((if_pos (by simp only [g5, g6, g7, Bool.true_or, Bool.or_true, Bool.false_or, Bool.or_false, Bool.true_and, Bool.and_true, Bool.false_and, Bool.and_false, Bool.not_true, Bool.not_false, cond_true, cond_false])).symm.trans b4)) rfl (met rfl rfl rfl (notT g5)) rfl ca29 rfl rfl (cC (.imm _) .nil) rfl rfl rfl rfl rfl ?_
          refine .v rfl (met rfl rfl rfl (notT g5)) (OpL.unV rfl rfl rfl) ?_
          refine .v rfl rfl (O.pickF (notT g5) rfl rfl rfl) ?_
          refine .v rfl rfl (OpL.move (.inl rfl) rfl) ?_
          refine .v rfl (met rfl rfl rfl (notT g6)) (O.fld fld30_1 rfl rfl rfl) ?_
          refine .v rfl (met rfl rfl rfl (notT g6)) (O.ld ty3 rfl rfl rfl) ?_
          refine .v rfl (met rfl rfl rfl (notT g6)) (OpL.binI rfl rfl rfl rfl) ?_
          refine .v rfl rfl (O.pickF (notT g6) rfl rfl rfl) ?_
          refine .v rfl rfl (OpL.move (.inl rfl) rfl) ?_
          refine .x rfl (unmet rfl rfl rfl g7) ?_
          refine .x rfl (unmet rfl rfl rfl g7) ?_
          refine .x rfl (unmet rfl rfl rfl g7) ?_
          refine .v rfl rfl (O.pickT g7 rfl rfl rfl) ?_
          refine .nil ?_
          exact toN (Gives.mkR [] (.c rfl (.rfl _) rfl (.c rfl (.rfl _) rfl (.c rfl (.rfl _) rfl (.c rfl (.rfl _) rfl (.c rfl (sbb (by simp only [g5, g6, g7, Bool.true_or, Bool.or_true, Bool.false_or, Bool.or_false, Bool.true_and, Bool.and_true, Bool.false_and, Bool.and_false, Bool.not_true, Bool.not_false, cond_true, cond_false])) rfl .n))))) (.c rfl (.rfl _) rfl rfl (.c rfl (.rfl _) rfl rfl .n)) rfl rfl rfl)
        · refine W.pk ?_
          refine .v rfl rfl (OpL.move (.inl rfl) rfl) ?_
          refine .call (.imm (.val (.bool t1))) [] 0 (lombardref03_Amount.ok b2) rfl rfl rfl ca28 rfl rfl (cC (.imm _) .nil) rfl rfl rfl rfl rfl ?_
          refine .v rfl rfl (OpL.unV rfl rfl rfl) ?_
          refine .v rfl rfl (OpL.move (.inl rfl) rfl) ?_
          refine .v rfl (met rfl rfl rfl (notT g5)) (OpL.move (.inl rfl) rfl) ?_
          refine .call (.imm (.val (.bool t3))) [] 0 (lombardref03_rated.ok ((if_pos (by simp only [g5, g6, g7, Bool.true_or, Bool.or_true, Bool.false_or, Bool.or_false, Bool.true_and, Bool.and_true, Bool.false_and, Bool.and_false, Bool.not_true, Bool.not_false, cond_true, cond_false])).symm.trans b4)) rfl (met rfl rfl rfl (notT g5)) rfl ca29 rfl rfl (cC (.imm _) .nil) rfl rfl rfl rfl rfl ?_
          refine .v rfl (met rfl rfl rfl (notT g5)) (OpL.unV rfl rfl rfl) ?_
          refine .v rfl rfl (O.pickF (notT g5) rfl rfl rfl) ?_
          refine .v rfl rfl (OpL.move (.inl rfl) rfl) ?_
          refine .v rfl (met rfl rfl rfl (notT g6)) (O.fld fld30_1 rfl rfl rfl) ?_
          refine .v rfl (met rfl rfl rfl (notT g6)) (O.ld ty3 rfl rfl rfl) ?_
          refine .v rfl (met rfl rfl rfl (notT g6)) (OpL.binI rfl rfl rfl rfl) ?_
          refine .v rfl rfl (O.pickF (notT g6) rfl rfl rfl) ?_
          refine .v rfl rfl (OpL.move (.inl rfl) rfl) ?_
          refine .v rfl (met rfl rfl rfl g7) (O.fld fld30_1 rfl rfl rfl) ?_
          refine .v rfl (met rfl rfl rfl g7) (O.ld ty3 rfl rfl rfl) ?_
          refine .v rfl (met rfl rfl rfl g7) (OpL.binI rfl rfl rfl rfl) ?_
          refine .v rfl rfl (O.pickF g7 rfl rfl rfl) ?_
          refine .nil ?_
          exact toN (Gives.mkR [] (.c rfl (.rfl _) rfl (.c rfl (.rfl _) rfl (.c rfl (.rfl _) rfl (.c rfl (.rfl _) rfl (.c rfl (sbb (by simp only [g5, g6, g7, Bool.true_or, Bool.or_true, Bool.false_or, Bool.or_false, Bool.true_and, Bool.and_true, Bool.false_and, Bool.and_false, Bool.not_true, Bool.not_false, cond_true, cond_false])) rfl .n))))) (.c rfl (.rfl _) rfl rfl (.c rfl (.rfl _) rfl rfl .n)) rfl rfl rfl)
      · refine W.pk ?_
        refine .v rfl rfl (OpL.move (.inl rfl) rfl) ?_
        refine .call (.imm (.val (.bool t1))) [] 0 (lombardref03_Amount.ok b2) rfl rfl rfl ca28 rfl rfl (cC (.imm _) .nil) rfl rfl rfl rfl rfl ?_
        refine .v rfl rfl (OpL.unV rfl rfl rfl) ?_
        refine .v rfl rfl (OpL.move (.inl rfl) rfl) ?_
        refine .v rfl (met rfl rfl rfl (notT g5)) (OpL.move (.inl rfl) rfl) ?_
        refine .call (.imm (.val (.bool t3))) [] 0 (lombardref03_rated.ok ((if_pos (by simp only [g5, g6, Bool.true_or, Bool.or_true, Bool.false_or, Bool.or_false, Bool.true_and, Bool.and_true, Bool.false_and, Bool.and_false, Bool.not_true, Bool.not_false, cond_true, cond_false])).symm.trans b4)) rfl (met rfl rfl rfl (notT g5)) rfl ca29 rfl rfl (cC (.imm _) .nil) rfl rfl rfl rfl rfl ?_
        refine .v rfl (met rfl rfl rfl (notT g5)) (OpL.unV rfl rfl rfl) ?_
        refine .v rfl rfl (O.pickF (notT g5) rfl rfl rfl) ?_
        refine .v rfl rfl (OpL.move (.inl rfl) rfl) ?_
        refine .x rfl (unmet rfl rfl rfl (notF g6)) ?_
        refine .x rfl (unmet rfl rfl rfl (notF g6)) ?_
        refine .x rfl (unmet rfl rfl rfl (notF g6)) ?_
        refine .v rfl rfl (O.pickT (notF g6) rfl rfl rfl) ?_
        refine .v rfl rfl (OpL.move (.inl rfl) rfl) ?_
        refine .x rfl (unmet rfl rfl rfl rfl) ?_
        refine .x rfl (unmet rfl rfl rfl rfl) ?_
        refine .x rfl (unmet rfl rfl rfl rfl) ?_
        refine .v rfl rfl (O.pickT rfl rfl rfl rfl) ?_
        refine .nil ?_
        exact toN (Gives.mkR [] (.c rfl (.rfl _) rfl (.c rfl (.rfl _) rfl (.c rfl (.rfl _) rfl (.c rfl (.rfl _) rfl (.c rfl (sbb (by simp only [g5, g6, Bool.true_or, Bool.or_true, Bool.false_or, Bool.or_false, Bool.true_and, Bool.and_true, Bool.false_and, Bool.and_false, Bool.not_true, Bool.not_false, cond_true, cond_false])) rfl .n))))) (.c rfl (.rfl _) rfl rfl (.c rfl (.rfl _) rfl rfl .n)) rfl rfl rfl)
    · refine W.pk ?_
      refine .v rfl rfl (OpL.move (.inl rfl) rfl) ?_
      refine .call (.imm (.val (.bool t1))) [] 0 (lombardref03_Amount.ok b2) rfl rfl rfl ca28 rfl rfl (cC (.imm _) .nil) rfl rfl rfl rfl rfl ?_
      refine .v rfl rfl (OpL.unV rfl rfl rfl) ?_
      refine .v rfl rfl (OpL.move (.inl rfl) rfl) ?_
      refine .x rfl (unmet rfl rfl rfl (notF g5)) ?_
      refine .x rfl (unmet rfl rfl rfl (notF g5)) ?_
      refine .x rfl (unmet rfl rfl rfl (notF g5)) ?_
      refine .v rfl rfl (O.pickT (notF g5) rfl rfl rfl) ?_
      refine .v rfl rfl (OpL.move (.inl rfl) rfl) ?_
      refine .x rfl (unmet rfl rfl rfl rfl) ?_
      refine .x rfl (unmet rfl rfl rfl rfl) ?_
      refine .x rfl (unmet rfl rfl rfl rfl) ?_
      refine .v rfl rfl (O.pickT rfl rfl rfl rfl) ?_
      refine .v rfl rfl (OpL.move (.inl rfl) rfl) ?_
      refine .x rfl (unmet rfl rfl rfl rfl) ?_
      refine .x rfl (unmet rfl rfl rfl rfl) ?_
      refine .x rfl (unmet rfl rfl rfl rfl) ?_
      refine .v rfl rfl (O.pickT rfl rfl rfl rfl) ?_
      refine .nil ?_
      exact toN (Gives.mkR [] (.c rfl (.rfl _) rfl (.c rfl (.rfl _) rfl (.c rfl (.rfl _) rfl (.c rfl (.rfl _) rfl (.c rfl (sbb (by simp only [g5, Bool.true_or, Bool.or_true, Bool.false_or, Bool.or_false, Bool.true_and, Bool.and_true, Bool.false_and, Bool.and_false, Bool.not_true, Bool.not_false, cond_true, cond_false])) rfl .n))))) (.c rfl (.rfl _) rfl rfl (.c rfl (.rfl _) rfl rfl .n)) rfl rfl rfl)

noncomputable def lombardref03_Meter_Days.b0 (x0 : lombardref03_Meter) (x1 : Int) (x2 : Int) (x3 : Int) (v7 : Int) (v8 : Int) (v9 : Int) : Option ((Int × Int × Int) ⊕ ((lombardref03_Meter × Int) ⊕ (Int × Int))) :=
  if (decide (v7 < x3)) = true then
    (lombardref03_Meter_Day.f (⟨v8, v9⟩ : lombardref03_Meter) x1 x2).bind fun t23 =>
    if (t23.2 != 0) = true then
      some (.inr (.inl (x0, t23.2)))
    else
      some (.inl ((IntKind.wrap .i64 (v7 + 1)), t23.1.Units, t23.1.Rest))
  else
    some (.inr (.inr (v8, v9)))
noncomputable def lombardref03_Meter_Days.r0 (x0 : lombardref03_Meter) (x1 : Int) (x2 : Int) (x3 : Int) (s : Int × Int × Int) : Option ((Int × Int × Int) ⊕ ((lombardref03_Meter × Int) ⊕ (Int × Int))) := lombardref03_Meter_Days.b0 x0 x1 x2 x3 s.1 s.2.1 s.2.2
noncomputable def lombardref03_Meter_Days.f (x0 : lombardref03_Meter) (x1 : Int) (x2 : Int) (x3 : Int) : Option (lombardref03_Meter × Int) :=
  if ((decide (x3 < 0)) || (decide (x3 > 3660))) = true then
    some (x0, 1)
  else
    (loop (lombardref03_Meter_Days.r0 x0 x1 x2 x3) (0, x0.Units, x0.Rest)).bind fun o19 =>
    match o19 with
    | .inl r26 => some r26
    | .inr w18 =>
      some ((⟨w18.1, w18.2⟩ : lombardref03_Meter), 0)
set_option maxRecDepth 100000 in
set_option maxHeartbeats 4000000 in
theorem lombardref03_Meter_Days.ok {x0 : lombardref03_Meter} {x1 : Int} {x2 : Int} {x3 : Int} {r : lombardref03_Meter × Int} (h : lombardref03_Meter_Days.f x0 x1 x2 x3 = some r) : Pm.Spec prog 16 [.agg [.imm (.val (.int .i64 x0.Units)), .imm (.val (.int .i64 x0.Rest))], .imm (.val (.int .i64 x1)), .imm (.val (.int .i64 x2)), .imm (.val (.int .i64 x3))] (.tup [.agg [.imm (.val (.int .i64 r.1.Units)), .imm (.val (.int .i64 r.1.Rest))], .imm (.val (.int .i64 r.2))]) [none, none, none, none] := by
  unfold lombardref03_Meter_Days.f at h
  refine Pm.Spec.of_body Try.func16 rfl (by kernel_rfl) (Nat.le_of_ble_eq_true rfl) (Nat.le_of_ble_eq_true rfl) ?_
  refine W.ghost (σ' := (mkSt [(0, some (.agg [.imm (.val (.int .i64 x0.Units)), .imm (.val (.int .i64 x0.Rest))])), (1, some (.imm (.val (.int .i64 x1)))), (2, some (.imm (.val (.int .i64 x2)))), (3, some (.imm (.val (.int .i64 x3))))] [] 1000)) (Gives.entry (.c rfl (.c rfl (.c rfl (.c rfl .n)))) .n) ?_
  refine W.seq ?_
  refine W.pk ?_
  refine .t rfl rfl (O.box rfl rfl rfl rfl rfl) ?_
  refine .t rfl rfl (O.alloc z30 rfl) ?_
  refine .v rfl rfl (OpL.move (.inr rfl) rfl) ?_
  refine .nil ?_
  refine W.seq ?_
  refine W.seq ?_
  refine W.fork (mkSt [(1, some (.imm (.val (.int .i64 x1)))), (2, some (.imm (.val (.int .i64 x2)))), (3, some (.imm (.val (.int .i64 x3)))), (4, some (.ptr 1000 0)), (8, some (.ptr 1001 0)), (19, some (.imm (.val (.bool ((decide (x3 < 0)) || (decide (x3 > 3660)))))))] [(1000, some (.box [.imm (.val (.int .i64 x0.Units)), .imm (.val (.int .i64 x0.Rest))])), (1001, some (.box [.imm (.val (.int .i64 0)), .imm (.val (.int .i64 0))]))] 1002) ?_ ?_
  · refine W.cond rfl (fun q2 => ?_) (fun q2 => ?_)
    · have h := ifT q2 h
      refine W.seq ?_
      refine W.pk ?_
      refine .v rfl rfl (O.ldN ty30 rfl rfl rfl) ?_
      refine .s rfl rfl (O.st ty30 rfl rfl rfl rfl rfl rfl rfl rfl rfl rfl (all' := [.imm (.val (.int .i64 x0.Units)), .imm (.val (.int .i64 x0.Rest))]) rfl) ?_
      refine .v rfl rfl (OpL.move (.inr rfl) rfl) ?_
      refine .nil ?_
      refine W.ret ?_
      cases h
      exact leaves (.inr rfl) rfl (.tup _ _ _ _ (cC (.agg _ _ _ _ (cC (.imm _) (cC (.imm _) .nil))) (cC (.imm _) .nil))) (cN (cN (cN (cN .nil)))) rfl rfl
    · have h := ifF q2 h
      refine W.skip ?_
      refine W.seq ?_
      refine W.pk ?_
      refine .v rfl rfl (O.ldN ty30 rfl rfl rfl) ?_
      refine .t rfl rfl (O.alloc z30 rfl) ?_
      refine .s rfl rfl (O.st ty30 rfl rfl rfl rfl rfl rfl rfl rfl rfl rfl (all' := [.imm (.val (.int .i64 x0.Units)), .imm (.val (.int .i64 x0.Rest))]) rfl) ?_
      refine .nil ?_
      refine W.seq ?_
      refine W.seq ?_
      refine W.pk ?_
      refine .v rfl rfl (OpL.move (.inr rfl) rfl) ?_
      refine .nil ?_
      obtain ⟨o19, b20, z21⟩ := bnd1 h
      refine W.fork2 (out := o19) (fun (w18 : Int × Int) => mkSt [(8, some (.ptr 1001 0)), (10, some (.ptr 1002 0))] [(1001, some (.box [.imm (.val (.int .i64 0)), .imm (.val (.int .i64 0))])), (1002, some (.box [.imm (.val (.int .i64 w18.1)), .imm (.val (.int .i64 w18.2))]))] 1003) ?_ ?_
      · clear h
        refine W.block ?_
        refine W.loopF (fun (s_ : Int × Int × Int) => mkSt [(1, some (.imm (.val (.int .i64 x1)))), (2, some (.imm (.val (.int .i64 x2)))), (3, some (.imm (.val (.int .i64 x3)))), (4, some (.ptr 1000 0)), (8, some (.ptr 1001 0)), (10, some (.ptr 1002 0)), (11, some (.imm (.val (.int .i64 s_.1))))] [(1000, some (.box [.imm (.val (.int .i64 x0.Units)), .imm (.val (.int .i64 x0.Rest))])), (1001, some (.box [.imm (.val (.int .i64 0)), .imm (.val (.int .i64 0))])), (1002, some (.box [.imm (.val (.int .i64 s_.2.1)), .imm (.val (.int .i64 s_.2.2))]))] 1003) b20 (Gives.mkR [] (.c rfl (.rfl _) rfl (.c rfl (.rfl _) rfl (.c rfl (.rfl _) rfl (.c rfl (.rfl _) rfl (.c rfl (.rfl _) rfl (.c rfl (.rfl _) rfl (.c rfl (.rfl _) rfl .n))))))) (.c rfl (.rfl _) rfl rfl (.c rfl (.rfl _) rfl rfl (.c rfl (.rfl _) rfl rfl .n))) rfl rfl rfl) ?_
        rintro ⟨v7, v8, v9⟩ s_ hr
        have h : lombardref03_Meter_Days.b0 x0 x1 x2 x3 v7 v8 v9 = some s_ := hr
        unfold lombardref03_Meter_Days.b0 at h
        refine W.seq ?_
        refine W.seq ?_
        refine W.pk ?_
        refine .v rfl rfl (OpL.move (.inl rfl) rfl) ?_
        refine .v rfl rfl (OpL.move (.inl rfl) rfl) ?_
        refine .v rfl rfl (OpL.binI rfl rfl rfl rfl) ?_
        refine .nil ?_
        refine W.cond rfl (fun q22 => ?_) (fun q22 => ?_)
        · have h := ifT q22 h
          refine W.skip ?_
          refine W.seq ?_
          refine W.block ?_
          refine W.seq ?_
          obtain ⟨t23, b24, h⟩ := bnd1 h
          refine W.pk ?_
          refine .v rfl rfl (O.ldN ty30 rfl rfl rfl) ?_
          refine .v rfl rfl (OpL.move (.inl rfl) rfl) ?_
          refine .v rfl rfl (OpL.move (.inl rfl) rfl) ?_
          refine .call (.tup [.agg [.imm (.val (.int .i64 t23.1.Units)), .imm (.val (.int .i64 t23.1.Rest))], .imm (.val (.int .i64 t23.2))]) [] 0 (lombardref03_Meter_Day.ok b24) rfl rfl rfl ca14 rfl rfl (cC (.agg _ _ _ _ (cC (.imm _) (cC (.imm _) .nil))) (cC (.imm _) (cC (.imm _) .nil))) rfl rfl rfl rfl rfl ?_
          refine .v rfl rfl (OpL.move (.inl rfl) rfl) ?_
          refine .v rfl rfl (OpL.extract rfl rfl rfl) ?_
          refine .v rfl rfl (OpL.extract rfl rfl rfl) ?_
          refine .t rfl rfl (O.alloc z30 rfl) ?_
          refine .s rfl rfl (O.st ty30 rfl rfl rfl rfl rfl rfl rfl rfl rfl rfl (all' := [.imm (.val (.int .i64 t23.1.Units)), .imm (.val (.int .i64 t23.1.Rest))]) rfl) ?_
          refine .v rfl rfl (OpL.move (.inr rfl) rfl) ?_
          refine .nil ?_
          refine W.seq ?_
          refine W.seq ?_
          refine W.pk ?_
          refine .v rfl rfl (OpL.move (.inl rfl) rfl) ?_
          refine .v rfl rfl (OpL.binI rfl rfl rfl rfl) ?_
          refine .nil ?_
          refine W.cond rfl (fun q25 => ?_) (fun q25 => ?_)
          · have h := ifT q25 h
            refine W.seq ?_
            refine W.pk ?_
            refine .v rfl rfl (O.ldN ty30 rfl rfl rfl) ?_
            refine .v rfl rfl (OpL.move (.inl rfl) rfl) ?_
            refine .s rfl rfl (O.st ty30 rfl rfl rfl rfl rfl rfl rfl rfl rfl rfl (all' := [.imm (.val (.int .i64 x0.Units)), .imm (.val (.int .i64 x0.Rest))]) rfl) ?_
            refine .v rfl rfl (OpL.move (.inr rfl) rfl) ?_
            refine .nil ?_
            refine W.ret ?_
            cases h
            refine rdR fun e_ => ?_
            subst e_
            have h := z21
            dsimp only at h
            refine fkR ?_
            cases h
            exact leaves (.inr rfl) rfl (.tup _ _ _ _ (cC (.agg _ _ _ _ (cC (.imm _) (cC (.imm _) .nil))) (cC (.imm _) .nil))) (cN (cN (cN (cN .nil)))) rfl rfl
          · have h := ifF q25 h
            refine W.skip ?_
            refine W.pk ?_
            refine .v rfl rfl (O.ldN ty30 rfl rfl rfl) ?_
            refine .s rfl rfl (O.st ty30 rfl rfl rfl rfl rfl rfl rfl rfl rfl rfl (all' := [.imm (.val (.int .i64 t23.1.Units)), .imm (.val (.int .i64 t23.1.Rest))]) rfl) ?_
            refine .nil ?_
            refine W.pk ?_
            refine .v rfl rfl (OpL.move (.inl rfl) rfl) ?_
            refine .v rfl rfl (OpL.binI rfl rfl rfl rfl) ?_
            refine .v rfl rfl (OpL.move (.inr rfl) rfl) ?_
            refine .nil ?_
            cases h
            exact rdN (Gives.mkR [] (.c rfl (.rfl _) rfl (.c rfl (.rfl _) rfl (.c rfl (.rfl _) rfl (.c rfl (.rfl _) rfl (.c rfl (.rfl _) rfl (.c rfl (.rfl _) rfl (.c rfl (.rfl _) rfl .n))))))) (.c rfl (.rfl _) rfl rfl (.c rfl (.rfl _) rfl rfl (.c rfl (.rfl _) rfl rfl .n))) rfl rfl rfl)
        · have h := ifF q22 h
          refine W.exit ?_
          cases h
          refine rdX fun e_ => ?_
          subst e_
          refine hit ?_
          exact fkN (Gives.mkR [] (.c rfl (.rfl _) rfl (.c rfl (.rfl _) rfl .n)) (.c rfl (.rfl _) rfl rfl (.c rfl (.rfl _) rfl rfl .n)) rfl rfl rfl)
      · intro w18 e_
        subst e_
        clear h
        have h := z21
        dsimp only at h
        refine W.seq ?_
        refine W.pk ?_
        refine .v rfl rfl (O.ldN ty30 rfl rfl rfl) ?_
        refine .s rfl rfl (O.st ty30 rfl rfl rfl rfl rfl rfl rfl rfl rfl rfl (all' := [.imm (.val (.int .i64 w18.1)), .imm (.val (.int .i64 w18.2))]) rfl) ?_
        refine .v rfl rfl (OpL.move (.inr rfl) rfl) ?_
        refine .nil ?_
        refine W.ret ?_
        cases h
        exact leaves (.inr rfl) rfl (.tup _ _ _ _ (cC (.agg _ _ _ _ (cC (.imm _) (cC (.imm _) .nil))) (cC (.imm _) .nil))) (cN (cN (cN (cN .nil)))) rfl rfl
  · clear h
    rcases tf (decide (x3 < 0)) with g1 | g1
    · refine W.pk ?_
      refine .v rfl rfl (OpL.move (.inl rfl) rfl) ?_
      refine .v rfl rfl (OpL.binI rfl rfl rfl rfl) ?_
      refine .v rfl rfl (OpL.move (.inl rfl) rfl) ?_
      refine .x rfl (unmet rfl rfl rfl g1) ?_
      refine .x rfl (unmet rfl rfl rfl g1) ?_
      refine .v rfl rfl (O.pickT g1 rfl rfl rfl) ?_
      refine .nil ?_
      exact toN (Gives.mkR [] (.c rfl (.rfl _) rfl (.c rfl (.rfl _) rfl (.c rfl (.rfl _) rfl (.c rfl (.rfl _) rfl (.c rfl (.rfl _) rfl (.c rfl (sbb (by simp only [g1, Bool.true_or, Bool.or_true, Bool.false_or, Bool.or_false, Bool.true_and, Bool.and_true, Bool.false_and, Bool.and_false, Bool.not_true, Bool.not_false, cond_true, cond_false])) rfl .n)))))) (.c rfl (.rfl _) rfl rfl (.c rfl (.rfl _) rfl rfl .n)) rfl rfl rfl)
    · refine W.pk ?_
      refine .v rfl rfl (OpL.move (.inl rfl) rfl) ?_
      refine .v rfl rfl (OpL.binI rfl rfl rfl rfl) ?_
      refine .v rfl rfl (OpL.move (.inl rfl) rfl) ?_
      refine .v rfl (met rfl rfl rfl g1) (OpL.move (.inl rfl) rfl) ?_
      refine .v rfl (met rfl rfl rfl g1) (OpL.binI rfl rfl rfl rfl) ?_
      refine .v rfl rfl (O.pickF g1 rfl rfl rfl) ?_
      refine .nil ?_
      exact toN (Gives.mkR [] (.c rfl (.rfl _) rfl (.c rfl (.rfl _) rfl (.c rfl (.rfl _) rfl (.c rfl (.rfl _) rfl (.c rfl (.rfl _) rfl (.c rfl (sbb (by simp only [g1, Bool.true_or, Bool.or_true, Bool.false_or, Bool.or_false, Bool.true_and, Bool.and_true, Bool.false_and, Bool.and_false, Bool.not_true, Bool.not_false, cond_true, cond_false])) rfl .n)))))) (.c rfl (.rfl _) rfl rfl (.c rfl (.rfl _) rfl rfl .n)) rfl rfl rfl)

noncomputable def lombardlaw03_AccrueDays.f (x0 : lombardref03_Meter) (x1 : Int) (x2 : Int) (x3 : Int) : Option (Bool) :=
  (accrue_Meter_Day.f (⟨x0.Units, x0.Rest⟩ : accrue_Meter) x1 x2).bind fun t1 =>
  (lombardref03_Meter_Day.f x0 x1 x2).bind fun t3 =>
  if (((t1.1.Units != t3.1.Units) || (t1.1.Rest != t3.1.Rest)) || (t1.2 != t3.2)) = true then
    some false
  else
    if ((decide (x3 > 200)) && (decide (x3 ≤ 3660))) = true then
      (lombardlaw03_awake.f).bind fun t10 =>
      some t10
    else
      (accrue_Meter_Days.f (⟨x0.Units, x0.Rest⟩ : accrue_Meter) x1 x2 x3).bind fun t12 =>
      (lombardref03_Meter_Days.f x0 x1 x2 x3).bind fun t14 =>
      (if (((t12.1.Units == t14.1.Units) && (t12.1.Rest == t14.1.Rest)) && (t12.2 == t14.2)) = true then lombardlaw03_awake.f else some default).bind fun t16 =>
      some ((((t12.1.Units == t14.1.Units) && (t12.1.Rest == t14.1.Rest)) && (t12.2 == t14.2)) && t16)
set_option maxRecDepth 100000 in
set_option maxHeartbeats 4000000 in
theorem lombardlaw03_AccrueDays.ok {x0 : lombardref03_Meter} {x1 : Int} {x2 : Int} {x3 : Int} {r : Bool} (h : lombardlaw03_AccrueDays.f x0 x1 x2 x3 = some r) : Pm.Spec prog 4 [.agg [.imm (.val (.int .i64 x0.Units)), .imm (.val (.int .i64 x0.Rest))], .imm (.val (.int .i64 x1)), .imm (.val (.int .i64 x2)), .imm (.val (.int .i64 x3))] (.imm (.val (.bool r))) [none, none, none, none] := by
  unfold lombardlaw03_AccrueDays.f at h
  refine Pm.Spec.of_body Try.func4 rfl (by kernel_rfl) (Nat.le_of_ble_eq_true rfl) (Nat.le_of_ble_eq_true rfl) ?_
  refine W.ghost (σ' := (mkSt [(0, some (.agg [.imm (.val (.int .i64 x0.Units)), .imm (.val (.int .i64 x0.Rest))])), (1, some (.imm (.val (.int .i64 x1)))), (2, some (.imm (.val (.int .i64 x2)))), (3, some (.imm (.val (.int .i64 x3))))] [] 1000)) (Gives.entry (.c rfl (.c rfl (.c rfl (.c rfl .n)))) .n) ?_
  refine W.seq ?_
  refine W.pk ?_
  refine .t rfl rfl (O.box rfl rfl rfl rfl rfl) ?_
  refine .v rfl rfl (OpL.move (.inr rfl) rfl) ?_
  refine .nil ?_
  refine W.seq ?_
  refine W.pk ?_
  refine .v rfl rfl (O.fld fld30_0 rfl rfl rfl) ?_
  refine .v rfl rfl (O.ld ty3 rfl rfl rfl) ?_
  refine .v rfl rfl (O.fld fld30_1 rfl rfl rfl) ?_
  refine .v rfl rfl (O.ld ty3 rfl rfl rfl) ?_
  refine .v rfl rfl (O.build (out := [.imm (.val (.int .i64 x0.Units)), .imm (.val (.int .i64 x0.Rest))]) bl31 rfl rfl rfl rfl rfl) ?_
  refine .t rfl rfl (O.alloc z31 rfl) ?_
  refine .s rfl rfl (O.st ty31 rfl rfl rfl rfl rfl rfl rfl rfl rfl rfl (all' := [.imm (.val (.int .i64 x0.Units)), .imm (.val (.int .i64 x0.Rest))]) rfl) ?_
  refine .nil ?_
  refine W.seq ?_
  obtain ⟨t1, b2, h⟩ := bnd1 h
  refine W.pk ?_
  refine .v rfl rfl (O.ldN ty31 rfl rfl rfl) ?_
  refine .v rfl rfl (OpL.move (.inl rfl) rfl) ?_
  refine .v rfl rfl (OpL.move (.inl rfl) rfl) ?_
  refine .call (.tup [.agg [.imm (.val (.int .i64 t1.1.Units)), .imm (.val (.int .i64 t1.1.Rest))], .imm (.val (.int .i64 t1.2))]) [] 0 (accrue_Meter_Day.ok b2) rfl rfl rfl ca13 rfl rfl (cC (.agg _ _ _ _ (cC (.imm _) (cC (.imm _) .nil))) (cC (.imm _) (cC (.imm _) .nil))) rfl rfl rfl rfl rfl ?_
  refine .v rfl rfl (OpL.move (.inl rfl) rfl) ?_
  refine .v rfl rfl (OpL.extract rfl rfl rfl) ?_
  refine .v rfl rfl (OpL.extract rfl rfl rfl) ?_
  refine .t rfl rfl (O.alloc z31 rfl) ?_
  refine .s rfl rfl (O.st ty31 rfl rfl rfl rfl rfl rfl rfl rfl rfl rfl (all' := [.imm (.val (.int .i64 t1.1.Units)), .imm (.val (.int .i64 t1.1.Rest))]) rfl) ?_
  refine .v rfl rfl (OpL.move (.inr rfl) rfl) ?_
  refine .nil ?_
  refine W.seq ?_
  obtain ⟨t3, b4, h⟩ := bnd1 h
  refine W.pk ?_
  refine .v rfl rfl (O.ldN ty30 rfl rfl rfl) ?_
  refine .v rfl rfl (OpL.move (.inl rfl) rfl) ?_
  refine .v rfl rfl (OpL.move (.inl rfl) rfl) ?_
  refine .call (.tup [.agg [.imm (.val (.int .i64 t3.1.Units)), .imm (.val (.int .i64 t3.1.Rest))], .imm (.val (.int .i64 t3.2))]) [] 0 (lombardref03_Meter_Day.ok b4) rfl rfl rfl ca14 rfl rfl (cC (.agg _ _ _ _ (cC (.imm _) (cC (.imm _) .nil))) (cC (.imm _) (cC (.imm _) .nil))) rfl rfl rfl rfl rfl ?_
  refine .v rfl rfl (OpL.move (.inl rfl) rfl) ?_
  refine .v rfl rfl (OpL.extract rfl rfl rfl) ?_
  refine .v rfl rfl (OpL.extract rfl rfl rfl) ?_
  refine .t rfl rfl (O.alloc z30 rfl) ?_
  refine .s rfl rfl (O.st ty30 rfl rfl rfl rfl rfl rfl rfl rfl rfl rfl (all' := [.imm (.val (.int .i64 t3.1.Units)), .imm (.val (.int .i64 t3.1.Rest))]) rfl) ?_
  refine .v rfl rfl (OpL.move (.inr rfl) rfl) ?_
  refine .nil ?_
  refine W.seq ?_
  refine W.seq ?_
  refine W.fork (mkSt [(1, some (.imm (.val (.int .i64 x1)))), (2, some (.imm (.val (.int .i64 x2)))), (3, some (.imm (.val (.int .i64 x3)))), (4, some (.ptr 1000 0)), (9, some (.ptr 1001 0)), (53, some (.imm (.val (.bool (((t1.1.Units != t3.1.Units) || (t1.1.Rest != t3.1.Rest)) || (t1.2 != t3.2))))))] [(1000, some (.box [.imm (.val (.int .i64 x0.Units)), .imm (.val (.int .i64 x0.Rest))])), (1001, some (.box [.imm (.val (.int .i64 x0.Units)), .imm (.val (.int .i64 x0.Rest))]))] 1004) ?_ ?_
  · refine W.cond rfl (fun q7 => ?_) (fun q7 => ?_)
    · have h := ifT q7 h
      refine W.seq ?_
      refine W.pk ?_
      refine .v rfl rfl (OpL.move (.inr rfl) rfl) ?_
      refine .nil ?_
      refine W.ret ?_
      cases h
      exact leaves (.inr rfl) rfl (.imm _) (cN (cN (cN (cN .nil)))) rfl rfl
    · have h := ifF q7 h
      refine W.skip ?_
      refine W.seq ?_
      refine W.seq ?_
      refine W.fork (mkSt [(1, some (.imm (.val (.int .i64 x1)))), (2, some (.imm (.val (.int .i64 x2)))), (3, some (.imm (.val (.int .i64 x3)))), (4, some (.ptr 1000 0)), (9, some (.ptr 1001 0)), (59, some (.imm (.val (.bool ((decide (x3 > 200)) && (decide (x3 ≤ 3660)))))))] [(1000, some (.box [.imm (.val (.int .i64 x0.Units)), .imm (.val (.int .i64 x0.Rest))])), (1001, some (.box [.imm (.val (.int .i64 x0.Units)), .imm (.val (.int .i64 x0.Rest))]))] 1004) ?_ ?_
      · refine W.cond rfl (fun q9 => ?_) (fun q9 => ?_)
        · have h := ifT q9 h
          refine W.seq ?_
          obtain ⟨t10, b11, h⟩ := bnd1 h
          refine W.pk ?_
          refine .call (.imm (.val (.bool t10))) [] 0 (lombardlaw03_awake.ok b11) rfl rfl rfl ca12 rfl rfl .nil rfl rfl rfl rfl rfl ?_
          refine .v rfl rfl (OpL.move (.inr rfl) rfl) ?_
          refine .nil ?_
          refine W.ret ?_
          cases h
          exact leaves (.inr rfl) rfl (.imm _) (cN (cN (cN (cN .nil)))) rfl rfl
        · have h := ifF q9 h
          refine W.skip ?_
          refine W.seq ?_
          obtain ⟨t12, b13, h⟩ := bnd1 h
          refine W.pk ?_
          refine .v rfl rfl (O.ldN ty31 rfl rfl rfl) ?_
          refine .v rfl rfl (OpL.move (.inl rfl) rfl) ?_
          refine .v rfl rfl (OpL.move (.inl rfl) rfl) ?_
          refine .v rfl rfl (OpL.move (.inl rfl) rfl) ?_
          refine .call (.tup [.agg [.imm (.val (.int .i64 t12.1.Units)), .imm (.val (.int .i64 t12.1.Rest))], .imm (.val (.int .i64 t12.2))]) [] 0 (accrue_Meter_Days.ok b13) rfl rfl rfl ca15 rfl rfl (cC (.agg _ _ _ _ (cC (.imm _) (cC (.imm _) .nil))) (cC (.imm _) (cC (.imm _) (cC (.imm _) .nil)))) rfl rfl rfl rfl rfl ?_
          refine .v rfl rfl (OpL.move (.inl rfl) rfl) ?_
          refine .v rfl rfl (OpL.extract rfl rfl rfl) ?_
          refine .v rfl rfl (OpL.extract rfl rfl rfl) ?_
          refine .t rfl rfl (O.alloc z31 rfl) ?_
          refine .s rfl rfl (O.st ty31 rfl rfl rfl rfl rfl rfl rfl rfl rfl rfl (all' := [.imm (.val (.int .i64 t12.1.Units)), .imm (.val (.int .i64 t12.1.Rest))]) rfl) ?_
          refine .v rfl rfl (OpL.move (.inr rfl) rfl) ?_
          refine .nil ?_
          refine W.seq ?_
          obtain ⟨t14, b15, h⟩ := bnd1 h
          refine W.pk ?_
          refine .v rfl rfl (O.ldN ty30 rfl rfl rfl) ?_
          refine .v rfl rfl (OpL.move (.inl rfl) rfl) ?_
          refine .v rfl rfl (OpL.move (.inl rfl) rfl) ?_
          refine .v rfl rfl (OpL.move (.inl rfl) rfl) ?_
          refine .call (.tup [.agg [.imm (.val (.int .i64 t14.1.Units)), .imm (.val (.int .i64 t14.1.Rest))], .imm (.val (.int .i64 t14.2))]) [] 0 (lombardref03_Meter_Days.ok b15) rfl rfl rfl ca16 rfl rfl (cC (.agg _ _ _ _ (cC (.imm _) (cC (.imm _) .nil))) (cC (.imm _) (cC (.imm _) (cC (.imm _) .nil)))) rfl rfl rfl rfl rfl ?_
          refine .v rfl rfl (OpL.move (.inl rfl) rfl) ?_
          refine .v rfl rfl (OpL.extract rfl rfl rfl) ?_
          refine .v rfl rfl (OpL.extract rfl rfl rfl) ?_
          refine .t rfl rfl (O.alloc z30 rfl) ?_
          refine .s rfl rfl (O.st ty30 rfl rfl rfl rfl rfl rfl rfl rfl rfl rfl (all' := [.imm (.val (.int .i64 t14.1.Units)), .imm (.val (.int .i64 t14.1.Rest))]) rfl) ?_
          refine .v rfl rfl (OpL.move (.inr rfl) rfl) ?_
          refine .nil ?_
          refine W.seq ?_
          obtain ⟨t16, b17, h⟩ := bnd1 h
          refine W.fork (mkSt [(8, some (.imm (.val (.bool ((((t12.1.Units == t14.1.Units) && (t12.1.Rest == t14.1.Rest)) && (t12.2 == t14.2)) && t16)))))] [] 1006) ?_ ?_
          · refine W.ret ?_
            cases h
            exact leaves (.inr rfl) rfl (.imm _) (cN (cN (cN (cN .nil)))) rfl rfl
          · clear h
            rcases tf (t12.1.Units == t14.1.Units) with g18 | g18
            · rcases tf (t12.1.Rest == t14.1.Rest) with g19 | g19
              · rcases tf (t12.2 == t14.2) with g20 | g20
                · refine W.pk ?_
                  refine .v rfl rfl (O.fld fld31_0 rfl rfl rfl) ?_
                  refine .v rfl rfl (O.ld ty3 rfl rfl rfl) ?_
                  refine .v rfl rfl (O.fld fld30_0 rfl rfl rfl) ?_
                  refine .v rfl rfl (O.ld ty3 rfl rfl rfl) ?_
                  refine .v rfl rfl (OpL.binI rfl rfl rfl rfl) ?_
                  refine .v rfl rfl (OpL.move (.inl rfl) rfl) ?_
                  refine .v rfl (met rfl rfl rfl g18) (O.fld fld31_1 rfl rfl rfl) ?_
                  refine .v rfl (met rfl rfl rfl g18) (O.ld ty3 rfl rfl rfl) ?_
                  refine .v rfl (met rfl rfl rfl g18) (O.fld fld30_1 rfl rfl rfl) ?_
                  refine .v rfl (met rfl rfl rfl g18) (O.ld ty3 rfl rfl rfl) ?_
                  refine .v rfl (met rfl rfl rfl g18) (OpL.binI rfl rfl rfl rfl) ?_
                  refine .v rfl rfl (O.pickT g18 rfl rfl rfl) ?_
                  refine .v rfl rfl (OpL.move (.inl rfl) rfl) ?_
                  refine .v rfl (met rfl rfl rfl g19) (OpL.move (.inl rfl) rfl) ?_
                  refine .v rfl (met rfl rfl rfl g19) (OpL.move (.inl rfl) rfl) ?_
                  refine .v rfl (met rfl rfl rfl g19) (OpL.binI rfl rfl rfl rfl) ?_
                  refine .v rfl rfl (O.pickT g19 rfl rfl rfl) ?_
                  refine .v rfl rfl (OpL.move (.inl rfl) rfl) ?_
                  refine .call (.imm (.val (.bool t16))) [] 0 (lombardlaw03_awake.ok ((if_pos (by simp only [g18, g19, g20, Bool.true_or, Bool.or_true, Bool.false_or, Bool.or_false, Bool.true_and, Bool.and_true, Bool.false_and, Bool.and_false, Bool.not_true, Bool.not_false, cond_true, cond_false])).symm.trans b17)) rfl (met rfl rfl rfl g20) rfl ca12 rfl rfl .nil rfl rfl rfl rfl rfl ?_
                  refine .v rfl rfl (O.pickT g20 rfl rfl rfl) ?_
                  refine .v rfl rfl (OpL.move (.inr rfl) rfl) ?_
                  refine .nil ?_
                  exact toN (Gives.mkR [] (.c rfl (sbb (by simp only [g18, g19, g20, Bool.true_or, Bool.or_true, Bool.false_or, Bool.or_false, Bool.true_and, Bool.and_true, Bool.false_and, Bool.and_false, Bool.not_true, Bool.not_false, cond_true, cond_false])) rfl .n) .n rfl rfl rfl)
                · refine W.pk ?_
                  refine .v rfl rfl (O.fld fld31_0 rfl rfl rfl) ?_
                  refine .v rfl rfl (O.ld ty3 rfl rfl rfl) ?_
                  refine .v rfl rfl (O.fld fld30_0 rfl rfl rfl) ?_
                  refine .v rfl rfl (O.ld ty3 rfl rfl rfl) ?_
                  refine .v rfl rfl (OpL.binI rfl rfl rfl rfl) ?_
                  refine .v rfl rfl (OpL.move (.inl rfl) rfl) ?_
                  refine .v rfl (met rfl rfl rfl g18) (O.fld fld31_1 rfl rfl rfl) ?_
                  refine .v rfl (met rfl rfl rfl g18) (O.ld ty3 rfl rfl rfl) ?_
                  refine .v rfl (met rfl rfl rfl g18) (O.fld fld30_1 rfl rfl rfl) ?_
                  refine .v rfl (met rfl rfl rfl g18) (O.ld ty3 rfl rfl rfl) ?_
                  refine .v rfl (met rfl rfl rfl g18) (OpL.binI rfl rfl rfl rfl) ?_
                  refine .v rfl rfl (O.pickT g18 rfl rfl rfl) ?_
                  refine .v rfl rfl (OpL.move (.inl rfl) rfl) ?_
                  refine .v rfl (met rfl rfl rfl g19) (OpL.move (.inl rfl) rfl) ?_
                  refine .v rfl (met rfl rfl rfl g19) (OpL.move (.inl rfl) rfl) ?_
                  refine .v rfl (met rfl rfl rfl g19) (OpL.binI rfl rfl rfl rfl) ?_
                  refine .v rfl rfl (O.pickT g19 rfl rfl rfl) ?_
                  refine .v rfl rfl (OpL.move (.inl rfl) rfl) ?_
                  refine .x rfl (unmet rfl rfl rfl g20) ?_
                  refine .v rfl rfl (O.pickF g20 rfl rfl rfl) ?_
                  refine .v rfl rfl (OpL.move (.inr rfl) rfl) ?_
                  refine .nil ?_
                  exact toN (Gives.mkR [] (.c rfl (sbb (by simp only [g18, g19, g20, Bool.true_or, Bool.or_true, Bool.false_or, Bool.or_false, Bool.true_and, Bool.and_true, Bool.false_and, Bool.and_false, Bool.not_true, Bool.not_false, cond_true, cond_false])) rfl .n) .n rfl rfl rfl)
              · refine W.pk ?_
                refine .v rfl rfl (O.fld fld31_0 rfl rfl rfl) ?_
                refine .v rfl rfl (O.ld ty3 rfl rfl rfl) ?_
                refine .v rfl rfl (O.fld fld30_0 rfl rfl rfl) ?_
                refine .v rfl rfl (O.ld ty3 rfl rfl rfl) ?_
                refine .v rfl rfl (OpL.binI rfl rfl rfl rfl) ?_
                refine .v rfl rfl (OpL.move (.inl rfl) rfl) ?_
                refine .v rfl (met rfl rfl rfl g18) (O.fld fld31_1 rfl rfl rfl) ?_
                refine .v rfl (met rfl rfl rfl g18) (O.ld ty3 rfl rfl rfl) ?_
                refine .v rfl (met rfl rfl rfl g18) (O.fld fld30_1 rfl rfl rfl) ?_
                refine .v rfl (met rfl rfl rfl g18) (O.ld ty3 rfl rfl rfl) ?_
                refine .v rfl (met rfl rfl rfl g18) (OpL.binI rfl rfl rfl rfl) ?_
                refine .v rfl rfl (O.pickT g18 rfl rfl rfl) ?_
                refine .v rfl rfl (OpL.move (.inl rfl) rfl) ?_
                refine .x rfl (unmet rfl rfl rfl g19) ?_
                refine .x rfl (unmet rfl rfl rfl g19) ?_
                refine .x rfl (unmet rfl rfl rfl g19) ?_
                refine .v rfl rfl (O.pickF g19 rfl rfl rfl) ?_
                refine .v rfl rfl (OpL.move (.inl rfl) rfl) ?_
                refine .x rfl (unmet rfl rfl rfl rfl) ?_
                refine .v rfl rfl (O.pickF rfl rfl rfl rfl) ?_
                refine .v rfl rfl (OpL.move (.inr rfl) rfl) ?_
                refine .nil ?_
                exact toN (Gives.mkR [] (.c rfl (sbb (by simp only [g18, g19, Bool.true_or, Bool.or_true, Bool.false_or, Bool.or_false, Bool.true_and, Bool.and_true, Bool.false_and, Bool.and_false, Bool.not_true, Bool.not_false, cond_true, cond_false])) rfl .n) .n rfl rfl rfl)
            · refine W.pk ?_
              refine .v rfl rfl (O.fld fld31_0 rfl rfl rfl) ?_
              refine .v rfl rfl (O.ld ty3 rfl rfl rfl) ?_
              refine .v rfl rfl (O.fld fld30_0 rfl rfl rfl) ?_
              refine .v rfl rfl (O.ld ty3 rfl rfl rfl) ?_
              refine .v rfl rfl (OpL.binI rfl rfl rfl rfl) ?_
              refine .v rfl rfl (OpL.move (.inl rfl) rfl) ?_
              refine .x rfl (unmet rfl rfl rfl g18) ?_
              refine .x rfl (unmet rfl rfl rfl g18) ?_
              refine .x rfl (unmet rfl rfl rfl g18) ?_
              refine .x rfl (unmet rfl rfl rfl g18) ?_
              refine .x rfl (unmet rfl rfl rfl g18) ?_
              refine .v rfl rfl (O.pickF g18 rfl rfl rfl) ?_
              refine .v rfl rfl (OpL.move (.inl rfl) rfl) ?_
              refine .x rfl (unmet rfl rfl rfl rfl) ?_
              refine .x rfl (unmet rfl rfl rfl rfl) ?_
              refine .x rfl (unmet rfl rfl rfl rfl) ?_
              refine .v rfl rfl (O.pickF rfl rfl rfl rfl) ?_
              refine .v rfl rfl (OpL.move (.inl rfl) rfl) ?_
              refine .x rfl (unmet rfl rfl rfl rfl) ?_
              refine .v rfl rfl (O.pickF rfl rfl rfl rfl) ?_
              refine .v rfl rfl (OpL.move (.inr rfl) rfl) ?_
              refine .nil ?_
              exact toN (Gives.mkR [] (.c rfl (sbb (by simp only [g18, Bool.true_or, Bool.or_true, Bool.false_or, Bool.or_false, Bool.true_and, Bool.and_true, Bool.false_and, Bool.and_false, Bool.not_true, Bool.not_false, cond_true, cond_false])) rfl .n) .n rfl rfl rfl)
      · clear h
        rcases tf (decide (x3 > 200)) with g8 | g8
        · refine W.pk ?_
          refine .v rfl rfl (OpL.move (.inl rfl) rfl) ?_
          refine .v rfl rfl (OpL.binI rfl rfl rfl rfl) ?_
          refine .v rfl rfl (OpL.move (.inl rfl) rfl) ?_
          refine .v rfl (met rfl rfl rfl g8) (OpL.move (.inl rfl) rfl) ?_
          refine .v rfl (met rfl rfl rfl g8) (OpL.binI rfl rfl rfl rfl) ?_
          refine .v rfl rfl (O.pickT g8 rfl rfl rfl) ?_
          refine .nil ?_
          exact toN (Gives.mkR [] (.c rfl (.rfl _) rfl (.c rfl (.rfl _) rfl (.c rfl (.rfl _) rfl (.c rfl (.rfl _) rfl (.c rfl (.rfl _) rfl (.c rfl (sbb (by simp only [g8, Bool.true_or, Bool.or_true, Bool.false_or, Bool.or_false, Bool.true_and, Bool.and_true, Bool.false_and, Bool.and_false, Bool.not_true, Bool.not_false, cond_true, cond_false])) rfl .n)))))) (.c rfl (.rfl _) rfl rfl (.c rfl (.rfl _) rfl rfl .n)) rfl rfl rfl)
        · refine W.pk ?_
          refine .v rfl rfl (OpL.move (.inl rfl) rfl) ?_
          refine .v rfl rfl (OpL.binI rfl rfl rfl rfl) ?_
          refine .v rfl rfl (OpL.move (.inl rfl) rfl) ?_
          refine .x rfl (unmet rfl rfl rfl g8) ?_
          refine .x rfl (unmet rfl rfl rfl g8) ?_
          refine .v rfl rfl (O.pickF g8 rfl rfl rfl) ?_
          refine .nil ?_
          exact toN (Gives.mkR [] (.c rfl (.rfl _) rfl (.c rfl (.rfl _) rfl (.c rfl (.rfl _) rfl (.c rfl (.rfl _) rfl (.c rfl (.rfl _) rfl (.c rfl (sbb (by simp only [g8, Bool.true_or, Bool.or_true, Bool.false_or, Bool.or_false, Bool.true_and, Bool.and_true, Bool.false_and, Bool.and_false, Bool.not_true, Bool.not_false, cond_true, cond_false])) rfl .n)))))) (.c rfl (.rfl _) rfl rfl (.c rfl (.rfl _) rfl rfl .n)) rfl rfl rfl)
  · clear h
    rcases tf (t1.1.Units != t3.1.Units) with g5 | g5
    · refine W.pk ?_
      refine .v rfl rfl (O.fld fld31_0 rfl rfl rfl) ?_
      refine .v rfl rfl (O.ld ty3 rfl rfl rfl) ?_
      refine .v rfl rfl (O.fld fld30_0 rfl rfl rfl) ?_
      refine .v rfl rfl (O.ld ty3 rfl rfl rfl) ?_
      refine .v rfl rfl (OpL.binI rfl rfl rfl rfl) ?_
      refine .v rfl rfl (OpL.move (.inl rfl) rfl) ?_
      refine .x rfl (unmet rfl rfl rfl g5) ?_
      refine .x rfl (unmet rfl rfl rfl g5) ?_
      refine .x rfl (unmet rfl rfl rfl g5) ?_
      refine .x rfl (unmet rfl rfl rfl g5) ?_
      refine .x rfl (unmet rfl rfl rfl g5) ?_
      refine .v rfl rfl (O.pickT g5 rfl rfl rfl) ?_
      refine .v rfl rfl (OpL.move (.inl rfl) rfl) ?_
      refine .x rfl (unmet rfl rfl rfl rfl) ?_
      refine .x rfl (unmet rfl rfl rfl rfl) ?_
      refine .x rfl (unmet rfl rfl rfl rfl) ?_
      refine .v rfl rfl (O.pickT rfl rfl rfl rfl) ?_
      refine .nil ?_
      exact toN (Gives.mkR [] (.c rfl (.rfl _) rfl (.c rfl (.rfl _) rfl (.c rfl (.rfl _) rfl (.c rfl (.rfl _) rfl (.c rfl (.rfl _) rfl (.c rfl (sbb (by simp only [g5, Bool.true_or, Bool.or_true, Bool.false_or, Bool.or_false, Bool.true_and, Bool.and_true, Bool.false_and, Bool.and_false, Bool.not_true, Bool.not_false, cond_true, cond_false])) rfl .n)))))) (.c rfl (.rfl _) rfl rfl (.c rfl (.rfl _) rfl rfl .n)) rfl rfl rfl)
    · rcases tf (t1.1.Rest != t3.1.Rest) with g6 | g6
      · refine W.pk ?_
        refine .v rfl rfl (O.fld fld31_0 rfl rfl rfl) ?_
        refine .v rfl rfl (O.ld ty3 rfl rfl rfl) ?_
        refine .v rfl rfl (O.fld fld30_0 rfl rfl rfl) ?_
        refine .v rfl rfl (O.ld ty3 rfl rfl rfl) ?_
        refine .v rfl rfl (OpL.binI rfl rfl rfl rfl) ?_
        refine .v rfl rfl (OpL.move (.inl rfl) rfl) ?_
        refine .v rfl (met rfl rfl rfl g5) (O.fld fld31_1 rfl rfl rfl) ?_
        refine .v rfl (met rfl rfl rfl g5) (O.ld ty3 rfl rfl rfl) ?_
        refine .v rfl (met rfl rfl rfl g5) (O.fld fld30_1 rfl rfl rfl) ?_
        refine .v rfl (met rfl rfl rfl g5) (O.ld ty3 rfl rfl rfl) ?_
        refine .v rfl (met rfl rfl rfl g5) (OpL.binI rfl rfl rfl rfl) ?_
        refine .v rfl rfl (O.pickF g5 rfl rfl rfl) ?_
        refine .v rfl rfl (OpL.move (.inl rfl) rfl) ?_
        refine .x rfl (unmet rfl rfl rfl g6) ?_
        refine .x rfl (unmet rfl rfl rfl g6) ?_
        refine .x rfl (unmet rfl rfl rfl g6) ?_
        refine .v rfl rfl (O.pickT g6 rfl rfl rfl) ?_
        refine .nil ?_
        exact toN (Gives.mkR [] (.c rfl (.rfl _) rfl (.c rfl (.rfl _) rfl (.c rfl (.rfl _) rfl (.c rfl (.rfl _) rfl (.c rfl (.rfl _) rfl (.c rfl (sbb (by simp only [g5, g6, Bool.true_or, Bool.or_true, Bool.false_or, Bool.or_false, Bool.true_and, Bool.and_true, Bool.false_and, Bool.and_false, Bool.not_true, Bool.not_false, cond_true, cond_false])) rfl .n)))))) (.c rfl (.rfl _) rfl rfl (.c rfl (.rfl _) rfl rfl .n)) rfl rfl rfl)
      · refine W.pk ?_
        refine .v rfl rfl (O.fld fld31_0 rfl rfl rfl) ?_
        refine .v rfl rfl (O.ld ty3 rfl rfl rfl) ?_
        refine .v rfl rfl (O.fld fld30_0 rfl rfl rfl) ?_
        refine .v rfl rfl (O.ld ty3 rfl rfl rfl) ?_
        refine .v rfl rfl (OpL.binI rfl rfl rfl rfl) ?_
        refine .v rfl rfl (OpL.move (.inl rfl) rfl) ?_
        refine .v rfl (met rfl rfl rfl g5) (O.fld fld31_1 rfl rfl rfl) ?_
        refine .v rfl (met rfl rfl rfl g5) (O.ld ty3 rfl rfl rfl) ?_
        refine .v rfl (met rfl rfl rfl g5) (O.fld fld30_1 rfl rfl rfl) ?_
        refine .v rfl (met rfl rfl rfl g5) (O.ld ty3 rfl rfl rfl) ?_
        refine .v rfl (met rfl rfl rfl g5) (OpL.binI rfl rfl rfl rfl) ?_
        refine .v rfl rfl (O.pickF g5 rfl rfl rfl) ?_
        refine .v rfl rfl (OpL.move (.inl rfl) rfl) ?_
        refine .v rfl (met rfl rfl rfl g6) (OpL.move (.inl rfl) rfl) ?_
        refine .v rfl (met rfl rfl rfl g6) (OpL.move (.inl rfl) rfl) ?_
        refine .v rfl (met rfl rfl rfl g6) (OpL.binI rfl rfl rfl rfl) ?_
        refine .v rfl rfl (O.pickF g6 rfl rfl rfl) ?_
        refine .nil ?_
        exact toN (Gives.mkR [] (.c rfl (.rfl _) rfl (.c rfl (.rfl _) rfl (.c rfl (.rfl _) rfl (.c rfl (.rfl _) rfl (.c rfl (.rfl _) rfl (.c rfl (sbb (by simp only [g5, g6, Bool.true_or, Bool.or_true, Bool.false_or, Bool.or_false, Bool.true_and, Bool.and_true, Bool.false_and, Bool.and_false, Bool.not_true, Bool.not_false, cond_true, cond_false])) rfl .n)))))) (.c rfl (.rfl _) rfl rfl (.c rfl (.rfl _) rfl rfl .n)) rfl rfl rfl)
end Go.Proofs.Ytipgpnagfmlahaa
