/- Shows what functions of the program come to, each as a plain function: written by a program of the author's for this claim. -/
import Derived.Test.YtlgfdldonoaahaaGx2
namespace Go.Proofs.Ytlgfdldonoaahaa
open Go Go.Pm
set_option linter.unusedVariables false
set_option linter.unusedSimpArgs false
noncomputable def lots_Check.b0 (x0 : List api_Lot) (v9 : Int) : Option (Int ⊕ ((Int × Int) ⊕ Unit)) :=
  if (decide (v9 < (List.length x0 : Int))) = true then
    if (0 : Int) ≤ v9 ∧ v9 < (List.length x0 : Int) then
    if ((decide (((nth x0 v9).Qty) < 1)) || (decide (((nth x0 v9).Qty) > 1125899906842624))) = true then
      some (.inr (.inl (v9, 1)))
    else
      if ((decide (v9 > 0)) = true → (0 : Int) ≤ (IntKind.wrap .i64 (v9 - 1)) ∧ (IntKind.wrap .i64 (v9 - 1)) < (List.length x0 : Int)) then
      if ((decide (v9 > 0)) && (Go.Op.bytesLess ((nth x0 v9).ISIN) ((nth x0 (IntKind.wrap .i64 (v9 - 1))).ISIN) || ((nth x0 v9).ISIN) == ((nth x0 (IntKind.wrap .i64 (v9 - 1))).ISIN))) = true then
        some (.inr (.inl (v9, 7)))
      else
        some (.inl (IntKind.wrap .i64 (v9 + 1)))
      else none
    else none
  else
    some (.inr (.inr ()))
noncomputable def lots_Check.r0 (x0 : List api_Lot) (s : Int) : Option (Int ⊕ ((Int × Int) ⊕ Unit)) := lots_Check.b0 x0 s
noncomputable def lots_Check.f (x0 : List api_Lot) : Option (Int × Int) :=
  if (decide ((List.length x0 : Int) > 64)) = true then
    some (0, 2)
  else
    (loop (lots_Check.r0 x0) 0).bind fun o25 =>
    match o25 with
    | .inl r35 => some r35
    | .inr w24 =>
      some ((List.length x0 : Int), 0)
set_option maxRecDepth 100000 in
set_option maxHeartbeats 4000000 in
theorem lots_Check.ok {x0 : List api_Lot} {r : Int × Int} (h : lots_Check.f x0 = some r) : Pm.Spec prog 49 [.imm (.row 2 (List.map api_Lot.enc x0))] (.tup [.imm (.val (.int .i64 r.1)), .imm (.val (.int .i64 r.2))]) [none] := by
  unfold lots_Check.f at h
  refine Pm.Spec.of_body Try.func49 rfl (by kernel_rfl) (Nat.le_of_ble_eq_true rfl) (Nat.le_of_ble_eq_true rfl) ?_
  refine W.ghost (σ' := (mkSt [(0, some (.imm (.row 2 (List.map api_Lot.enc x0))))] [] 1000)) (Gives.entry (.c rfl .n) .n) ?_
  refine W.seq ?_
  refine W.pk ?_
  refine .v rfl rfl (OpL.move (.inr rfl) rfl) ?_
  refine .v rfl rfl (OpL.move (.inr rfl) rfl) ?_
  refine .nil ?_
  refine W.seq ?_
  refine W.seq ?_
  refine W.pk ?_
  refine .v rfl rfl (OpL.move (.inl rfl) rfl) ?_
  refine .v rfl rfl (O.lenR sl25 rfl rfl) ?_
  refine .v rfl rfl (OpL.binI rfl rfl rfl rfl) ?_
  refine .nil ?_
  refine W.cond rfl (fun q1 => ?_) (fun q1 => ?_)
  · have h := ifT q1 h
    refine W.seq ?_
    refine W.pk ?_
    refine .v rfl rfl (OpL.move (.inr rfl) rfl) ?_
    refine .v rfl rfl (OpL.move (.inr rfl) rfl) ?_
    refine .nil ?_
    refine W.ret ?_
    cases h
    exact leaves (.inr rfl) rfl (.tup _ _ _ _ (cC (.imm _) (cC (.imm _) .nil))) (cN .nil) rfl rfl
  · have h := ifF q1 h
    refine W.skip ?_
    refine W.seq ?_
    refine W.seq ?_
    refine W.pk ?_
    refine .v rfl rfl (OpL.move (.inl rfl) rfl) ?_
    refine .v rfl rfl (O.lenR sl25 rfl rfl) ?_
    refine .v rfl rfl (OpL.move (.inl rfl) rfl) ?_
    refine .nil ?_
    obtain ⟨o25, b26, z27⟩ := bnd1 h
    refine W.fork2 (out := o25) (fun (w24 : Unit) => mkSt [(0, some (.imm (.row 2 (List.map api_Lot.enc x0))))] [] 1000) ?_ ?_
    · clear h
      refine W.block ?_
      refine W.loopF (fun (s_ : Int) => mkSt [(0, some (.imm (.row 2 (List.map api_Lot.enc x0)))), (9, some (.imm (.row 2 (List.map api_Lot.enc x0)))), (10, some (.imm (.val (.int .i64 (List.length x0 : Int))))), (11, some (.imm (.val (.int .i64 s_))))] [] 1000) b26 (Gives.mkR [] (.c rfl (.rfl _) rfl (.c rfl (.rfl _) rfl (.c rfl (.rfl _) rfl (.c rfl (.rfl _) rfl .n)))) .n rfl rfl rfl) ?_
      rintro v9 s_ hr
      have h : lots_Check.b0 x0 v9 = some s_ := hr
      unfold lots_Check.b0 at h
      refine W.seq ?_
      refine W.pk ?_
      refine .v rfl rfl (OpL.binI rfl rfl rfl rfl) ?_
      refine .nil ?_
      refine W.seq ?_
      refine W.cond rfl (fun q28 => ?_) (fun q28 => ?_)
      · have h := ifT q28 h
        refine W.skip ?_
        refine W.seq ?_
        refine W.block ?_
        refine W.seq ?_
        obtain ⟨c29, h⟩ := chk h
        refine W.pk ?_
        refine .v rfl rfl (OpL.move (.inl rfl) rfl) ?_
        refine .v rfl rfl (O.idx sl25 c29 rfl rfl rfl) ?_
        refine .v rfl rfl (O.ldN ty44 rfl rfl rfl) ?_
        refine .t rfl rfl (O.alloc z44 rfl) ?_
        refine .v rfl rfl (OpL.move (.inr rfl) rfl) ?_
        refine .s rfl rfl (O.st ty44 rfl rfl rfl rfl rfl rfl rfl rfl rfl rfl (all' := [.imm (.val (.string (tx ((nth x0 v9).ISIN)))), .imm (.val (.int .i64 ((nth x0 v9).Qty)))]) rfl) ?_
        refine .nil ?_
        refine W.block ?_
        refine W.seq ?_
        refine W.fork (mkSt [(0, some (.imm (.row 2 (List.map api_Lot.enc x0)))), (4, some (.imm (.val (.int .i64 v9)))), (5, some (.ptr 1000 0)), (9, some (.imm (.row 2 (List.map api_Lot.enc x0)))), (10, some (.imm (.val (.int .i64 (List.length x0 : Int))))), (11, some (.imm (.val (.int .i64 v9)))), (16, some (.imm (.val (.bool ((decide (((nth x0 v9).Qty) < 1)) || (decide (((nth x0 v9).Qty) > 1125899906842624)))))))] [(1000, some (.box [.imm (.val (.string (tx ((nth x0 v9).ISIN)))), .imm (.val (.int .i64 ((nth x0 v9).Qty)))]))] 1001) ?_ ?_
        · refine W.cond rfl (fun q31 => ?_) (fun q31 => ?_)
          · have h := ifT q31 h
            refine W.seq ?_
            refine W.pk ?_
            refine .v rfl rfl (OpL.move (.inl rfl) rfl) ?_
            refine .v rfl rfl (OpL.move (.inr rfl) rfl) ?_
            refine .v rfl rfl (OpL.move (.inr rfl) rfl) ?_
            refine .nil ?_
            refine W.ret ?_
            cases h
            refine rdR fun e_ => ?_
            subst e_
            have h := z27
            dsimp only at h
            refine fkR ?_
            cases h
            exact leaves (.inr rfl) rfl (.tup _ _ _ _ (cC (.imm _) (cC (.imm _) .nil))) (cN .nil) rfl rfl
          · have h := ifF q31 h
            refine W.seq ?_
            obtain ⟨c32, h⟩ := chk h
            refine W.fork (mkSt [(0, some (.imm (.row 2 (List.map api_Lot.enc x0)))), (4, some (.imm (.val (.int .i64 v9)))), (9, some (.imm (.row 2 (List.map api_Lot.enc x0)))), (10, some (.imm (.val (.int .i64 (List.length x0 : Int))))), (11, some (.imm (.val (.int .i64 v9)))), (26, some (.imm (.val (.bool ((decide (v9 > 0)) && (Go.Op.bytesLess ((nth x0 v9).ISIN) ((nth x0 (IntKind.wrap .i64 (v9 - 1))).ISIN) || ((nth x0 v9).ISIN) == ((nth x0 (IntKind.wrap .i64 (v9 - 1))).ISIN)))))))] [] 1001) ?_ ?_
            · refine W.cond rfl (fun q34 => ?_) (fun q34 => ?_)
              · have h := ifT q34 h
                refine W.seq ?_
                refine W.pk ?_
                refine .v rfl rfl (OpL.move (.inl rfl) rfl) ?_
                refine .v rfl rfl (OpL.move (.inr rfl) rfl) ?_
                refine .v rfl rfl (OpL.move (.inr rfl) rfl) ?_
                refine .nil ?_
                refine W.ret ?_
                cases h
                refine rdR fun e_ => ?_
                subst e_
                have h := z27
                dsimp only at h
                refine fkR ?_
                cases h
                exact leaves (.inr rfl) rfl (.tup _ _ _ _ (cC (.imm _) (cC (.imm _) .nil))) (cN .nil) rfl rfl
              · have h := ifF q34 h
                refine W.skip ?_
                refine W.pk ?_
                refine .v rfl rfl (OpL.binI rfl rfl rfl rfl) ?_
                refine .v rfl rfl (OpL.move (.inl rfl) rfl) ?_
                refine .nil ?_
                cases h
                exact rdN (Gives.mkR [] (.c rfl (.rfl _) rfl (.c rfl (.rfl _) rfl (.c rfl (.rfl _) rfl (.c rfl (.rfl _) rfl .n)))) .n rfl rfl rfl)
            · clear h
              rcases tf (decide (v9 > 0)) with g33 | g33
              · refine W.dk [[], [0], [0, 1], [0, 1, 2], [0, 1, 2, 3], [0, 1, 2], [0, 1, 2], [0, 1, 2, 6], [0, 1, 2, 5, 6, 7], [0, 1, 2, 5, 6, 7, 8], [0, 1, 2, 5, 6, 7, 8, 9], [0, 1, 2, 3, 4, 5, 6, 7, 8, 9, 10], [0, 1, 2, 3, 4, 5, 6, 7, 8, 9, 10, 11], [0, 1, 2, 3, 4, 5, 6, 7, 8, 9, 10, 11, 12]] rfl (by kernel_rfl) ?_
                refine .v rfl rfl (OpL.move (.inl rfl) rfl) ?_
                refine .v rfl rfl (OpL.binI rfl rfl rfl rfl) ?_
                refine .v rfl rfl (OpL.move (.inl rfl) rfl) ?_
                refine .v rfl (met rfl rfl rfl g33) (O.fld fld44_0 rfl rfl rfl) ?_
                refine .v rfl (met rfl rfl rfl g33) (O.ld ty9 rfl rfl rfl) ?_
                refine .v rfl (met rfl rfl rfl g33) (OpL.move (.inl rfl) rfl) ?_
                refine .v rfl (met rfl rfl rfl g33) (OpL.move (.inl rfl) rfl) ?_
                refine .v rfl (met rfl rfl rfl g33) (OpL.binI rfl rfl rfl rfl) ?_
                refine .v rfl (met rfl rfl rfl g33) (O.idx sl25 (c32 (by simp only [g33, Bool.true_or, Bool.or_true, Bool.false_or, Bool.or_false, Bool.true_and, Bool.and_true, Bool.false_and, Bool.and_false, Bool.not_true, Bool.not_false, cond_true, cond_false])) rfl rfl rfl) ?_
                refine .v rfl (met rfl rfl rfl g33) (O.fld fld44_0 rfl rfl rfl) ?_
                refine .v rfl (met rfl rfl rfl g33) (O.ld ty9 rfl rfl rfl) ?_
                refine .v rfl (met rfl rfl rfl g33) (O.cmpS rfl rfl rfl rfl) ?_
                refine .v rfl rfl (O.pickT g33 rfl rfl rfl) ?_
                refine .v rfl rfl (OpL.move (.inr rfl) rfl) ?_
                refine .nil ?_
                refine ⟨by kernel_rfl, by kernel_rfl, ?_⟩
                exact toN (Gives.mkR [] (.c rfl (.rfl _) rfl (.c rfl (.rfl _) rfl (.c rfl (.rfl _) rfl (.c rfl (.rfl _) rfl (.c rfl (.rfl _) rfl (.c rfl (sbb (by simp only [g33, Bool.true_or, Bool.or_true, Bool.false_or, Bool.or_false, Bool.true_and, Bool.and_true, Bool.false_and, Bool.and_false, Bool.not_true, Bool.not_false, cond_true, cond_false])) rfl .n)))))) .n rfl rfl rfl)
              · refine W.dk [[], [0], [0, 1], [0, 1, 2], [0, 1, 2, 3], [0, 1, 2], [0, 1, 2], [0, 1, 2, 6], [0, 1, 2, 5, 6, 7], [0, 1, 2, 5, 6, 7, 8], [0, 1, 2, 5, 6, 7, 8, 9], [0, 1, 2, 3, 4, 5, 6, 7, 8, 9, 10], [0, 1, 2, 3, 4, 5, 6, 7, 8, 9, 10, 11], [0, 1, 2, 3, 4, 5, 6, 7, 8, 9, 10, 11, 12]] rfl (by kernel_rfl) ?_
                refine .v rfl rfl (OpL.move (.inl rfl) rfl) ?_
                refine .v rfl rfl (OpL.binI rfl rfl rfl rfl) ?_
                refine .v rfl rfl (OpL.move (.inl rfl) rfl) ?_
                refine .x rfl (unmet rfl rfl rfl g33) ?_
                refine .x rfl (unmet rfl rfl rfl g33) ?_
                refine .x rfl (unmet rfl rfl rfl g33) ?_
                refine .x rfl (unmet rfl rfl rfl g33) ?_
                refine .x rfl (unmet rfl rfl rfl g33) ?_
                refine .x rfl (unmet rfl rfl rfl g33) ?_
                refine .x rfl (unmet rfl rfl rfl g33) ?_
                refine .x rfl (unmet rfl rfl rfl g33) ?_
                refine .x rfl (unmet rfl rfl rfl g33) ?_
                refine .v rfl rfl (O.pickF g33 rfl rfl rfl) ?_
                refine .v rfl rfl (OpL.move (.inr rfl) rfl) ?_
                refine .nil ?_
                refine ⟨by kernel_rfl, by kernel_rfl, ?_⟩
                exact toN (Gives.mkR [] (.c rfl (.rfl _) rfl (.c rfl (.rfl _) rfl (.c rfl (.rfl _) rfl (.c rfl (.rfl _) rfl (.c rfl (.rfl _) rfl (.c rfl (sbb (by simp only [g33, Bool.true_or, Bool.or_true, Bool.false_or, Bool.or_false, Bool.true_and, Bool.and_true, Bool.false_and, Bool.and_false, Bool.not_true, Bool.not_false, cond_true, cond_false])) rfl .n)))))) .n rfl rfl rfl)
        · clear h
          rcases tf (decide (((nth x0 v9).Qty) < 1)) with g30 | g30
          · refine W.pk ?_
            refine .v rfl rfl (O.fld fld44_1 rfl rfl rfl) ?_
            refine .v rfl rfl (O.ld ty3 rfl rfl rfl) ?_
            refine .v rfl rfl (OpL.binI rfl rfl rfl rfl) ?_
            refine .v rfl rfl (OpL.move (.inl rfl) rfl) ?_
            refine .x rfl (unmet rfl rfl rfl g30) ?_
            refine .x rfl (unmet rfl rfl rfl g30) ?_
            refine .x rfl (unmet rfl rfl rfl g30) ?_
            refine .v rfl rfl (O.pickT g30 rfl rfl rfl) ?_
            refine .v rfl rfl (OpL.move (.inr rfl) rfl) ?_
            refine .nil ?_
            exact toN (Gives.mkR [] (.c rfl (.rfl _) rfl (.c rfl (.rfl _) rfl (.c rfl (.rfl _) rfl (.c rfl (.rfl _) rfl (.c rfl (.rfl _) rfl (.c rfl (.rfl _) rfl (.c rfl (sbb (by simp only [g30, Bool.true_or, Bool.or_true, Bool.false_or, Bool.or_false, Bool.true_and, Bool.and_true, Bool.false_and, Bool.and_false, Bool.not_true, Bool.not_false, cond_true, cond_false])) rfl .n))))))) (.c rfl (.rfl _) rfl rfl .n) rfl rfl rfl)
          · refine W.pk ?_
            refine .v rfl rfl (O.fld fld44_1 rfl rfl rfl) ?_
            refine .v rfl rfl (O.ld ty3 rfl rfl rfl) ?_
            refine .v rfl rfl (OpL.binI rfl rfl rfl rfl) ?_
            refine .v rfl rfl (OpL.move (.inl rfl) rfl) ?_
            refine .v rfl (met rfl rfl rfl g30) (O.fld fld44_1 rfl rfl rfl) ?_
            refine .v rfl (met rfl rfl rfl g30) (O.ld ty3 rfl rfl rfl) ?_
            refine .v rfl (met rfl rfl rfl g30) (OpL.binI rfl rfl rfl rfl) ?_
            refine .v rfl rfl (O.pickF g30 rfl rfl rfl) ?_
            refine .v rfl rfl (OpL.move (.inr rfl) rfl) ?_
            refine .nil ?_
            exact toN (Gives.mkR [] (.c rfl (.rfl _) rfl (.c rfl (.rfl _) rfl (.c rfl (.rfl _) rfl (.c rfl (.rfl _) rfl (.c rfl (.rfl _) rfl (.c rfl (.rfl _) rfl (.c rfl (sbb (by simp only [g30, Bool.true_or, Bool.or_true, Bool.false_or, Bool.or_false, Bool.true_and, Bool.and_true, Bool.false_and, Bool.and_false, Bool.not_true, Bool.not_false, cond_true, cond_false])) rfl .n))))))) (.c rfl (.rfl _) rfl rfl .n) rfl rfl rfl)
      · have h := ifF q28 h
        refine W.exit ?_
        cases h
        refine rdX fun e_ => ?_
        subst e_
        refine hit ?_
        exact fkN (Gives.mkR [] (.c rfl (.rfl _) rfl .n) .n rfl rfl rfl)
    · intro w24 e_
      subst e_
      clear h
      have h := z27
      dsimp only at h
      refine W.seq ?_
      refine W.pk ?_
      refine .v rfl rfl (OpL.move (.inl rfl) rfl) ?_
      refine .v rfl rfl (O.lenR sl25 rfl rfl) ?_
      refine .v rfl rfl (OpL.move (.inr rfl) rfl) ?_
      refine .v rfl rfl (OpL.move (.inr rfl) rfl) ?_
      refine .nil ?_
      refine W.ret ?_
      cases h
      exact leaves (.inr rfl) rfl (.tup _ _ _ _ (cC (.imm _) (cC (.imm _) .nil))) (cN .nil) rfl rfl

noncomputable def leg_check.f (x0 : leg_Covered) : Option (Int) :=
  (trade_Check.f x0.Trade).bind fun t1 =>
  if (t1 != 0) = true then
    some t1
  else
    (lots_Check.f x0.Lots).bind fun t4 =>
    some t4.2
set_option maxRecDepth 100000 in
set_option maxHeartbeats 4000000 in
theorem leg_check.ok {x0 : leg_Covered} {r : Int} (h : leg_check.f x0 = some r) : Pm.Spec prog 27 [.agg [.imm (.val (.int .i64 x0.Trade.ID)), .imm (.val (.int .i64 x0.Trade.Twin)), .imm (.val (.int .i64 x0.Trade.Member)), .imm (.val (.int .i64 x0.Trade.Side)), .imm (.val (.int .i64 x0.Trade.Basket)), .imm (.val (.int .i64 x0.Trade.Amount)), .imm (.val (.int .i64 x0.Trade.Start)), .imm (.val (.int .i64 x0.Trade.End)), .imm (.row 2 (List.map api_Reset.enc x0.Trade.Resets)), .imm (.val (.int .i64 x0.Trade.Stage)), .imm (.val (.bool x0.Trade.Short)), .imm (.row 2 (List.map api_Lot.enc x0.Lots))]] (.imm (.val (.int .i64 r))) [none] := by
  unfold leg_check.f at h
  refine Pm.Spec.of_body Try.func27 rfl (by kernel_rfl) (Nat.le_of_ble_eq_true rfl) (Nat.le_of_ble_eq_true rfl) ?_
  refine W.ghost (σ' := (mkSt [(0, some (.agg [.imm (.val (.int .i64 x0.Trade.ID)), .imm (.val (.int .i64 x0.Trade.Twin)), .imm (.val (.int .i64 x0.Trade.Member)), .imm (.val (.int .i64 x0.Trade.Side)), .imm (.val (.int .i64 x0.Trade.Basket)), .imm (.val (.int .i64 x0.Trade.Amount)), .imm (.val (.int .i64 x0.Trade.Start)), .imm (.val (.int .i64 x0.Trade.End)), .imm (.row 2 (List.map api_Reset.enc x0.Trade.Resets)), .imm (.val (.int .i64 x0.Trade.Stage)), .imm (.val (.bool x0.Trade.Short)), .imm (.row 2 (List.map api_Lot.enc x0.Lots))]))] [] 1000)) (Gives.entry (.c rfl .n) .n) ?_
  refine W.seq ?_
  refine W.pk ?_
  refine .t rfl rfl (O.box rfl rfl rfl rfl rfl) ?_
  refine .v rfl rfl (OpL.move (.inr rfl) rfl) ?_
  refine .nil ?_
  refine W.seq ?_
  refine W.seq ?_
  obtain ⟨t1, b2, h⟩ := bnd1 h
  refine W.pk ?_
  refine .v rfl rfl (O.fld fld34_0 rfl rfl rfl) ?_
  refine .v rfl rfl (O.ldN ty24 rfl rfl rfl) ?_
  refine .call (.imm (.val (.int .i64 t1))) [] 0 (trade_Check.ok b2) rfl rfl rfl ca48 rfl rfl (cC (.agg _ _ _ _ (cC (.imm _) (cC (.imm _) (cC (.imm _) (cC (.imm _) (cC (.imm _) (cC (.imm _) (cC (.imm _) (cC (.imm _) (cC (.imm _) (cC (.imm _) (cC (.imm _) .nil)))))))))))) .nil) rfl rfl rfl rfl rfl ?_
  refine .v rfl rfl (OpL.move (.inr rfl) rfl) ?_
  refine .nil ?_
  refine W.seq ?_
  refine W.pk ?_
  refine .v rfl rfl (OpL.move (.inl rfl) rfl) ?_
  refine .v rfl rfl (OpL.binI rfl rfl rfl rfl) ?_
  refine .nil ?_
  refine W.cond rfl (fun q3 => ?_) (fun q3 => ?_)
  · have h := ifT q3 h
    refine W.seq ?_
    refine W.pk ?_
    refine .v rfl rfl (OpL.move (.inl rfl) rfl) ?_
    refine .v rfl rfl (OpL.move (.inr rfl) rfl) ?_
    refine .nil ?_
    refine W.ret ?_
    cases h
    exact leaves (.inr rfl) rfl (.imm _) (cN .nil) rfl rfl
  · have h := ifF q3 h
    refine W.skip ?_
    refine W.seq ?_
    obtain ⟨t4, b5, h⟩ := bnd1 h
    refine W.pk ?_
    refine .v rfl rfl (O.fld fld34_1 rfl rfl rfl) ?_
    refine .v rfl rfl (O.ld ty25 rfl rfl rfl) ?_
    refine .call (.tup [.imm (.val (.int .i64 t4.1)), .imm (.val (.int .i64 t4.2))]) [] 0 (lots_Check.ok b5) rfl rfl rfl ca49 rfl rfl (cC (.imm _) .nil) rfl rfl rfl rfl rfl ?_
    refine .v rfl rfl (OpL.move (.inl rfl) rfl) ?_
    refine .v rfl rfl (OpL.extract rfl rfl rfl) ?_
    refine .v rfl rfl (OpL.extract rfl rfl rfl) ?_
    refine .v rfl rfl (OpL.move (.inr rfl) rfl) ?_
    refine .v rfl rfl (OpL.move (.inr rfl) rfl) ?_
    refine .nil ?_
    refine W.seq ?_
    refine W.pk ?_
    refine .v rfl rfl (OpL.move (.inl rfl) rfl) ?_
    refine .v rfl rfl (OpL.move (.inr rfl) rfl) ?_
    refine .nil ?_
    refine W.ret ?_
    cases h
    exact leaves (.inr rfl) rfl (.imm _) (cN .nil) rfl rfl

noncomputable def leg_Covered_way.f (x0 : leg_Covered) : Option (Int) :=
  if (x0.Trade.Side == 1) = true then
    some 1
  else
    some (-1)
set_option maxRecDepth 100000 in
set_option maxHeartbeats 4000000 in
theorem leg_Covered_way.ok {x0 : leg_Covered} {r : Int} (h : leg_Covered_way.f x0 = some r) : Pm.Spec prog 29 [.agg [.imm (.val (.int .i64 x0.Trade.ID)), .imm (.val (.int .i64 x0.Trade.Twin)), .imm (.val (.int .i64 x0.Trade.Member)), .imm (.val (.int .i64 x0.Trade.Side)), .imm (.val (.int .i64 x0.Trade.Basket)), .imm (.val (.int .i64 x0.Trade.Amount)), .imm (.val (.int .i64 x0.Trade.Start)), .imm (.val (.int .i64 x0.Trade.End)), .imm (.row 2 (List.map api_Reset.enc x0.Trade.Resets)), .imm (.val (.int .i64 x0.Trade.Stage)), .imm (.val (.bool x0.Trade.Short)), .imm (.row 2 (List.map api_Lot.enc x0.Lots))]] (.imm (.val (.int .i64 r))) [none] := by
  unfold leg_Covered_way.f at h
  refine Pm.Spec.of_body Try.func29 rfl (by kernel_rfl) (Nat.le_of_ble_eq_true rfl) (Nat.le_of_ble_eq_true rfl) ?_
  refine W.ghost (σ' := (mkSt [(0, some (.agg [.imm (.val (.int .i64 x0.Trade.ID)), .imm (.val (.int .i64 x0.Trade.Twin)), .imm (.val (.int .i64 x0.Trade.Member)), .imm (.val (.int .i64 x0.Trade.Side)), .imm (.val (.int .i64 x0.Trade.Basket)), .imm (.val (.int .i64 x0.Trade.Amount)), .imm (.val (.int .i64 x0.Trade.Start)), .imm (.val (.int .i64 x0.Trade.End)), .imm (.row 2 (List.map api_Reset.enc x0.Trade.Resets)), .imm (.val (.int .i64 x0.Trade.Stage)), .imm (.val (.bool x0.Trade.Short)), .imm (.row 2 (List.map api_Lot.enc x0.Lots))]))] [] 1000)) (Gives.entry (.c rfl .n) .n) ?_
  refine W.seq ?_
  refine W.pk ?_
  refine .t rfl rfl (O.box rfl rfl rfl rfl rfl) ?_
  refine .v rfl rfl (OpL.move (.inr rfl) rfl) ?_
  refine .nil ?_
  refine W.seq ?_
  refine W.seq ?_
  refine W.pk ?_
  refine .v rfl rfl (O.fld fld34_0 rfl rfl rfl) ?_
  refine .v rfl rfl (O.fld fld24_3 rfl rfl rfl) ?_
  refine .v rfl rfl (O.ld ty3 rfl rfl rfl) ?_
  refine .v rfl rfl (OpL.binI rfl rfl rfl rfl) ?_
  refine .nil ?_
  refine W.cond rfl (fun q1 => ?_) (fun q1 => ?_)
  · have h := ifT q1 h
    refine W.seq ?_
    refine W.pk ?_
    refine .v rfl rfl (OpL.move (.inr rfl) rfl) ?_
    refine .nil ?_
    refine W.ret ?_
    cases h
    exact leaves (.inr rfl) rfl (.imm _) (cN .nil) rfl rfl
  · have h := ifF q1 h
    refine W.skip ?_
    refine W.seq ?_
    refine W.pk ?_
    refine .v rfl rfl (OpL.move (.inr rfl) rfl) ?_
    refine .nil ?_
    refine W.ret ?_
    cases h
    exact leaves (.inr rfl) rfl (.imm _) (cN .nil) rfl rfl

noncomputable def leg_signed.b0 (x0 : List api_Lot) (x1 : Int) (v5 : Int) (v6 : List api_Lot) : Option ((Int × (List api_Lot)) ⊕ (List api_Lot)) :=
  if (decide (v5 < (List.length x0 : Int))) = true then
    if (0 : Int) ≤ v5 ∧ v5 < (List.length x0 : Int) then
    if (List.length v6 + List.length [(⟨(nth x0 v5).ISIN, (IntKind.wrap .i64 (x1 * ((nth x0 v5).Qty)))⟩ : api_Lot)]) * 24 ≤ 140737488355328 then
    some (.inl ((IntKind.wrap .i64 (v5 + 1)), (v6 ++ [(⟨(nth x0 v5).ISIN, (IntKind.wrap .i64 (x1 * ((nth x0 v5).Qty)))⟩ : api_Lot)])))
    else none
    else none
  else
    some (.inr v6)
noncomputable def leg_signed.r0 (x0 : List api_Lot) (x1 : Int) (s : Int × (List api_Lot)) : Option ((Int × (List api_Lot)) ⊕ (List api_Lot)) := leg_signed.b0 x0 x1 s.1 s.2
noncomputable def leg_signed.f (x0 : List api_Lot) (x1 : Int) : Option (List api_Lot) :=
  if (0 : Int) ≤ 0 ∧ 0 ≤ (List.length x0 : Int) ∧ (24 : Int) * (List.length x0 : Int) ≤ 281474976710656 then
  (loop (leg_signed.r0 x0 x1) (0, (List.replicate (Int.toNat 0) ((⟨[], 0⟩ : api_Lot) : api_Lot)))).bind fun o14 =>
  some o14
  else none
set_option maxRecDepth 100000 in
set_option maxHeartbeats 4000000 in
theorem leg_signed.ok {x0 : List api_Lot} {x1 : Int} {r : List api_Lot} (h : leg_signed.f x0 x1 = some r) : Pm.Spec prog 50 [.imm (.row 2 (List.map api_Lot.enc x0)), .imm (.val (.int .i64 x1))] (.xown 44 2 (List.map api_Lot.enc r)) [none, none] := by
  unfold leg_signed.f at h
  refine Pm.Spec.of_body Try.func50 rfl (by kernel_rfl) (Nat.le_of_ble_eq_true rfl) (Nat.le_of_ble_eq_true rfl) ?_
  refine W.ghost (σ' := (mkSt [(0, some (.imm (.row 2 (List.map api_Lot.enc x0)))), (1, some (.imm (.val (.int .i64 x1))))] [] 1000)) (Gives.entry (.c rfl (.c rfl .n)) .n) ?_
  refine W.seq ?_
  refine W.pk ?_
  refine .v rfl rfl (OpL.move (.inr rfl) rfl) ?_
  refine .nil ?_
  refine W.seq ?_
  obtain ⟨c1, h⟩ := chk h
  refine W.pk ?_
  refine .v rfl rfl (OpL.move (.inl rfl) rfl) ?_
  refine .v rfl rfl (O.lenR sl25 rfl rfl) ?_
  refine .t rfl rfl (O.make (enc := api_Lot.enc) (z := ((⟨[], 0⟩ : api_Lot) : api_Lot)) sl25 c1 rfl rfl rfl rfl rfl) ?_
  refine .v rfl rfl (OpL.move (.inr rfl) rfl) ?_
  refine .nil ?_
  refine W.seq ?_
  refine W.seq ?_
  refine W.pk ?_
  refine .v rfl rfl (OpL.move (.inl rfl) rfl) ?_
  refine .v rfl rfl (O.lenR sl25 rfl rfl) ?_
  refine .v rfl rfl (OpL.move (.inl rfl) rfl) ?_
  refine .nil ?_
  obtain ⟨o14, b15, h⟩ := bnd1 h
  refine W.fork (mkSt [(5, some (.own 1000))] [(1000, some (.rows 44 2 (List.map api_Lot.enc o14) false))] 1001) ?_ ?_
  · refine W.seq ?_
    refine W.pk ?_
    refine .v rfl rfl (OpL.move (.inl rfl) rfl) ?_
    refine .v rfl rfl (OpL.move (.inr rfl) rfl) ?_
    refine .nil ?_
    refine W.ret ?_
    cases h
    exact leaves (.inr rfl) rfl (.own _ _ _ _ rfl) (cN (cN .nil)) rfl rfl
  · clear h
    refine W.block ?_
    refine W.loopF (fun (s_ : Int × (List api_Lot)) => mkSt [(1, some (.imm (.val (.int .i64 x1)))), (5, some (.own 1000)), (11, some (.imm (.row 2 (List.map api_Lot.enc x0)))), (12, some (.imm (.val (.int .i64 (List.length x0 : Int))))), (13, some (.imm (.val (.int .i64 s_.1))))] [(1000, some (.rows 44 2 (List.map api_Lot.enc s_.2) false))] 1001) b15 (Gives.mkR [] (.c rfl (.rfl _) rfl (.c rfl (.rfl _) rfl (.c rfl (.rfl _) rfl (.c rfl (.rfl _) rfl (.c rfl (.rfl _) rfl .n))))) (.c rfl (.rfl _) rfl rfl .n) rfl rfl rfl) ?_
    rintro ⟨v5, v6⟩ s_ hr
    have h : leg_signed.b0 x0 x1 v5 v6 = some s_ := hr
    unfold leg_signed.b0 at h
    refine W.seq ?_
    refine W.pk ?_
    refine .v rfl rfl (OpL.binI rfl rfl rfl rfl) ?_
    refine .nil ?_
    refine W.seq ?_
    refine W.cond rfl (fun q17 => ?_) (fun q17 => ?_)
    · have h := ifT q17 h
      refine W.skip ?_
      refine W.seq ?_
      refine W.block ?_
      refine W.seq ?_
      obtain ⟨c18, h⟩ := chk h
      refine W.pk ?_
      refine .v rfl rfl (O.idx sl25 c18 rfl rfl rfl) ?_
      refine .v rfl rfl (O.ldN ty44 rfl rfl rfl) ?_
      refine .t rfl rfl (O.alloc z44 rfl) ?_
      refine .s rfl rfl (O.st ty44 rfl rfl rfl rfl rfl rfl rfl rfl rfl rfl (all' := [.imm (.val (.string (tx ((nth x0 v5).ISIN)))), .imm (.val (.int .i64 ((nth x0 v5).Qty)))]) rfl) ?_
      refine .nil ?_
      obtain ⟨c19, h⟩ := chk h
      refine W.pk ?_
      refine .v rfl rfl (OpL.move (.inl rfl) rfl) ?_
      refine .v rfl rfl (O.fld fld44_0 rfl rfl rfl) ?_
      refine .v rfl rfl (O.ld ty9 rfl rfl rfl) ?_
      refine .v rfl rfl (OpL.move (.inl rfl) rfl) ?_
      refine .v rfl rfl (O.fld fld44_1 rfl rfl rfl) ?_
      refine .v rfl rfl (O.ld ty3 rfl rfl rfl) ?_
      refine .v rfl rfl (OpL.binI rfl rfl rfl rfl) ?_
      refine .v rfl rfl (O.build (out := [.imm (.val (.string (tx ((nth x0 v5).ISIN)))), .imm (.val (.int .i64 (IntKind.wrap .i64 (x1 * ((nth x0 v5).Qty)))))]) bl44 rfl rfl rfl rfl rfl) ?_
      refine .t rfl rfl (O.lit (enc := api_Lot.enc) (l := [(⟨(nth x0 v5).ISIN, (IntKind.wrap .i64 (x1 * ((nth x0 v5).Qty)))⟩ : api_Lot)]) sl25 rfl rfl rfl rfl rfl rfl rfl rfl rfl) ?_
      refine .t rfl rfl (O.appO sl25 api_Lot.ok c19 rfl rfl rfl rfl rfl) ?_
      refine .v rfl rfl (OpL.move (.inr rfl) rfl) ?_
      refine .nil ?_
      refine W.pk ?_
      refine .v rfl rfl (OpL.binI rfl rfl rfl rfl) ?_
      refine .v rfl rfl (OpL.move (.inl rfl) rfl) ?_
      refine .nil ?_
      cases h
      exact rdN (Gives.mkR [(1000, 1003)] (.c rfl (.rfl _) rfl (.c rfl (.rfl _) rfl (.c rfl (.rfl _) rfl (.c rfl (.rfl _) rfl (.c rfl (.rfl _) rfl .n))))) (.c rfl (.rfl _) rfl rfl .n) rfl rfl rfl)
    · have h := ifF q17 h
      refine W.exit ?_
      cases h
      refine rdX fun e_ => ?_
      subst e_
      refine hit ?_
      exact toN (Gives.mkR [] (.c rfl (.rfl _) rfl .n) (.c rfl (.rfl _) rfl rfl .n) rfl rfl rfl)

noncomputable def leg_Covered_leg.f (x0 : leg_Covered) (x1 : Int) (x2 : Int) (x3 : Int) : Option (api_Leg) :=
  (leg_signed.f x0.Lots (IntKind.wrap .i64 (0 - x3))).bind fun t1 =>
  some (⟨x1, x0.Trade.Member, x0.Trade.ID, (IntKind.wrap .i64 (x3 * x2)), t1⟩ : api_Leg)
set_option maxRecDepth 100000 in
set_option maxHeartbeats 4000000 in
theorem leg_Covered_leg.ok {x0 : leg_Covered} {x1 : Int} {x2 : Int} {x3 : Int} {r : api_Leg} (h : leg_Covered_leg.f x0 x1 x2 x3 = some r) : Pm.Spec prog 28 [.agg [.imm (.val (.int .i64 x0.Trade.ID)), .imm (.val (.int .i64 x0.Trade.Twin)), .imm (.val (.int .i64 x0.Trade.Member)), .imm (.val (.int .i64 x0.Trade.Side)), .imm (.val (.int .i64 x0.Trade.Basket)), .imm (.val (.int .i64 x0.Trade.Amount)), .imm (.val (.int .i64 x0.Trade.Start)), .imm (.val (.int .i64 x0.Trade.End)), .imm (.row 2 (List.map api_Reset.enc x0.Trade.Resets)), .imm (.val (.int .i64 x0.Trade.Stage)), .imm (.val (.bool x0.Trade.Short)), .imm (.row 2 (List.map api_Lot.enc x0.Lots))], .imm (.val (.int .i64 x1)), .imm (.val (.int .i64 x2)), .imm (.val (.int .i64 x3))] (.agg [.imm (.val (.int .i64 r.Day)), .imm (.val (.int .i64 r.Member)), .imm (.val (.int .i64 r.Trade)), .imm (.val (.int .i64 r.Cash)), .imm (.row 2 (List.map api_Lot.enc r.Lots))]) [none, none, none, none] := by
  unfold leg_Covered_leg.f at h
  refine Pm.Spec.of_body Try.func28 rfl (by kernel_rfl) (Nat.le_of_ble_eq_true rfl) (Nat.le_of_ble_eq_true rfl) ?_
  refine W.ghost (σ' := (mkSt [(0, some (.agg [.imm (.val (.int .i64 x0.Trade.ID)), .imm (.val (.int .i64 x0.Trade.Twin)), .imm (.val (.int .i64 x0.Trade.Member)), .imm (.val (.int .i64 x0.Trade.Side)), .imm (.val (.int .i64 x0.Trade.Basket)), .imm (.val (.int .i64 x0.Trade.Amount)), .imm (.val (.int .i64 x0.Trade.Start)), .imm (.val (.int .i64 x0.Trade.End)), .imm (.row 2 (List.map api_Reset.enc x0.Trade.Resets)), .imm (.val (.int .i64 x0.Trade.Stage)), .imm (.val (.bool x0.Trade.Short)), .imm (.row 2 (List.map api_Lot.enc x0.Lots))])), (1, some (.imm (.val (.int .i64 x1)))), (2, some (.imm (.val (.int .i64 x2)))), (3, some (.imm (.val (.int .i64 x3))))] [] 1000)) (Gives.entry (.c rfl (.c rfl (.c rfl (.c rfl .n)))) .n) ?_
  refine W.seq ?_
  refine W.pk ?_
  refine .t rfl rfl (O.box rfl rfl rfl rfl rfl) ?_
  refine .t rfl rfl (O.alloc z31 rfl) ?_
  refine .nil ?_
  refine W.seq ?_
  obtain ⟨t1, b2, h⟩ := bnd1 h
  refine W.dk [[], [], [1], [1, 2], [], [4], [4, 5], [], [], [7, 8], [], [10], [], [12], [10, 11, 12, 13], [0, 1, 2, 3, 4, 5, 6, 7, 8, 9, 10, 11, 12, 13, 14], [0, 1, 2, 3, 4, 5, 6, 7, 8, 9, 10, 11, 12, 13, 14, 15]] rfl (by kernel_rfl) ?_
  refine .v rfl rfl (OpL.move (.inl rfl) rfl) ?_
  refine .v rfl rfl (O.fld fld34_0 rfl rfl rfl) ?_
  refine .v rfl rfl (O.fld fld24_2 rfl rfl rfl) ?_
  refine .v rfl rfl (O.ld ty3 rfl rfl rfl) ?_
  refine .v rfl rfl (O.fld fld34_0 rfl rfl rfl) ?_
  refine .v rfl rfl (O.fld fld24_0 rfl rfl rfl) ?_
  refine .v rfl rfl (O.ld ty3 rfl rfl rfl) ?_
  refine .v rfl rfl (OpL.move (.inl rfl) rfl) ?_
  refine .v rfl rfl (OpL.move (.inl rfl) rfl) ?_
  refine .v rfl rfl (OpL.binI rfl rfl rfl rfl) ?_
  refine .v rfl rfl (O.fld fld34_1 rfl rfl rfl) ?_
  refine .v rfl rfl (O.ld ty25 rfl rfl rfl) ?_
  refine .v rfl rfl (OpL.move (.inl rfl) rfl) ?_
  refine .v rfl rfl (OpL.unV rfl rfl rfl) ?_
  refine .call (.own 1002) [(1002, some (.rows 44 2 (List.map api_Lot.enc t1) false))] 1 (leg_signed.ok b2) rfl rfl rfl ca50 rfl rfl (cC (.imm _) (cC (.imm _) .nil)) rfl rfl rfl rfl rfl ?_
  refine .v rfl rfl (O.build (out := [.imm (.val (.int .i64 x1)), .imm (.val (.int .i64 x0.Trade.Member)), .imm (.val (.int .i64 x0.Trade.ID)), .imm (.val (.int .i64 (IntKind.wrap .i64 (x3 * x2)))), .own 1002]) bl31 rfl rfl rfl rfl rfl) ?_
  refine .s rfl rfl (O.st ty31 rfl rfl rfl rfl rfl rfl rfl rfl rfl rfl (all' := [.imm (.val (.int .i64 x1)), .imm (.val (.int .i64 x0.Trade.Member)), .imm (.val (.int .i64 x0.Trade.ID)), .imm (.val (.int .i64 (IntKind.wrap .i64 (x3 * x2)))), .own 1002]) rfl) ?_
  refine .nil ?_
  refine ⟨by kernel_rfl, by kernel_rfl, ?_⟩
  refine W.ret ?_
  cases h
  exact leaves (.inr rfl) rfl (.agg _ _ _ _ (cC (.imm _) (cC (.imm _) (cC (.imm _) (cC (.imm _) (cC (.lend _ _ _ _ _ rfl) .nil)))))) (cN (cN (cN (cN .nil)))) rfl rfl

noncomputable def leg_Covered_Begin.f (x0 : leg_Covered) : Option (api_Leg × Int) :=
  (leg_check.f x0).bind fun t1 =>
  if (t1 != 0) = true then
    some ((⟨0, 0, 0, 0, []⟩ : api_Leg), t1)
  else
    (leg_Covered_way.f x0).bind fun t4 =>
    (leg_Covered_leg.f x0 x0.Trade.Start x0.Trade.Amount t4).bind fun t6 =>
    some (t6, 0)
set_option maxRecDepth 100000 in
set_option maxHeartbeats 4000000 in
theorem leg_Covered_Begin.ok {x0 : leg_Covered} {r : api_Leg × Int} (h : leg_Covered_Begin.f x0 = some r) : Pm.Spec prog 11 [.agg [.imm (.val (.int .i64 x0.Trade.ID)), .imm (.val (.int .i64 x0.Trade.Twin)), .imm (.val (.int .i64 x0.Trade.Member)), .imm (.val (.int .i64 x0.Trade.Side)), .imm (.val (.int .i64 x0.Trade.Basket)), .imm (.val (.int .i64 x0.Trade.Amount)), .imm (.val (.int .i64 x0.Trade.Start)), .imm (.val (.int .i64 x0.Trade.End)), .imm (.row 2 (List.map api_Reset.enc x0.Trade.Resets)), .imm (.val (.int .i64 x0.Trade.Stage)), .imm (.val (.bool x0.Trade.Short)), .imm (.row 2 (List.map api_Lot.enc x0.Lots))]] (.tup [.agg [.imm (.val (.int .i64 r.1.Day)), .imm (.val (.int .i64 r.1.Member)), .imm (.val (.int .i64 r.1.Trade)), .imm (.val (.int .i64 r.1.Cash)), .imm (.row 2 (List.map api_Lot.enc r.1.Lots))], .imm (.val (.int .i64 r.2))]) [none] := by
  unfold leg_Covered_Begin.f at h
  refine Pm.Spec.of_body Try.func11 rfl (by kernel_rfl) (Nat.le_of_ble_eq_true rfl) (Nat.le_of_ble_eq_true rfl) ?_
  refine W.ghost (σ' := (mkSt [(0, some (.agg [.imm (.val (.int .i64 x0.Trade.ID)), .imm (.val (.int .i64 x0.Trade.Twin)), .imm (.val (.int .i64 x0.Trade.Member)), .imm (.val (.int .i64 x0.Trade.Side)), .imm (.val (.int .i64 x0.Trade.Basket)), .imm (.val (.int .i64 x0.Trade.Amount)), .imm (.val (.int .i64 x0.Trade.Start)), .imm (.val (.int .i64 x0.Trade.End)), .imm (.row 2 (List.map api_Reset.enc x0.Trade.Resets)), .imm (.val (.int .i64 x0.Trade.Stage)), .imm (.val (.bool x0.Trade.Short)), .imm (.row 2 (List.map api_Lot.enc x0.Lots))]))] [] 1000)) (Gives.entry (.c rfl .n) .n) ?_
  refine W.seq ?_
  refine W.pk ?_
  refine .t rfl rfl (O.box rfl rfl rfl rfl rfl) ?_
  refine .t rfl rfl (O.alloc z31 rfl) ?_
  refine .v rfl rfl (OpL.move (.inr rfl) rfl) ?_
  refine .nil ?_
  refine W.seq ?_
  refine W.seq ?_
  obtain ⟨t1, b2, h⟩ := bnd1 h
  refine W.pk ?_
  refine .v rfl rfl (O.ldN ty34 rfl rfl rfl) ?_
  refine .call (.imm (.val (.int .i64 t1))) [] 0 (leg_check.ok b2) rfl rfl rfl ca27 rfl rfl (cC (.agg _ _ _ _ (cC (.imm _) (cC (.imm _) (cC (.imm _) (cC (.imm _) (cC (.imm _) (cC (.imm _) (cC (.imm _) (cC (.imm _) (cC (.imm _) (cC (.imm _) (cC (.imm _) (cC (.imm _) .nil))))))))))))) .nil) rfl rfl rfl rfl rfl ?_
  refine .v rfl rfl (OpL.move (.inr rfl) rfl) ?_
  refine .nil ?_
  refine W.seq ?_
  refine W.pk ?_
  refine .v rfl rfl (OpL.move (.inl rfl) rfl) ?_
  refine .v rfl rfl (OpL.binI rfl rfl rfl rfl) ?_
  refine .nil ?_
  refine W.cond rfl (fun q3 => ?_) (fun q3 => ?_)
  · have h := ifT q3 h
    refine W.seq ?_
    refine W.pk ?_
    refine .v rfl rfl (O.build (out := [.imm (.val (.int .i64 0)), .imm (.val (.int .i64 0)), .imm (.val (.int .i64 0)), .imm (.val (.int .i64 0)), .imm (.val (.slice none 0 0))]) bl31 rfl rfl rfl rfl rfl) ?_
    refine .v rfl rfl (OpL.move (.inl rfl) rfl) ?_
    refine .s rfl rfl (O.st ty31 rfl rfl rfl rfl rfl rfl rfl rfl rfl rfl (all' := [.imm (.val (.int .i64 0)), .imm (.val (.int .i64 0)), .imm (.val (.int .i64 0)), .imm (.val (.int .i64 0)), .imm (.val (.slice none 0 0))]) rfl) ?_
    refine .v rfl rfl (OpL.move (.inr rfl) rfl) ?_
    refine .nil ?_
    refine W.ret ?_
    cases h
    exact leaves (.inr rfl) rfl (.tup _ _ _ _ (cC (.agg _ _ _ _ (cC (.imm _) (cC (.imm _) (cC (.imm _) (cC (.imm _) (cC (.nilrow _) .nil)))))) (cC (.imm _) .nil))) (cN .nil) rfl rfl
  · have h := ifF q3 h
    refine W.skip ?_
    refine W.seq ?_
    obtain ⟨t4, b5, h⟩ := bnd1 h
    obtain ⟨t6, b7, h⟩ := bnd1 h
    refine W.dk [[], [], [1], [1, 2], [], [4], [4, 5], [], [7], [0, 1, 2, 3, 4, 5, 6, 7, 8], [0, 1, 2, 3, 4, 5, 6, 7, 8, 9], [0, 1, 2, 3, 4, 5, 6, 7, 8, 9, 10]] rfl (by kernel_rfl) ?_
    refine .v rfl rfl (O.ldN ty34 rfl rfl rfl) ?_
    refine .v rfl rfl (O.fld fld34_0 rfl rfl rfl) ?_
    refine .v rfl rfl (O.fld fld24_6 rfl rfl rfl) ?_
    refine .v rfl rfl (O.ld ty3 rfl rfl rfl) ?_
    refine .v rfl rfl (O.fld fld34_0 rfl rfl rfl) ?_
    refine .v rfl rfl (O.fld fld24_5 rfl rfl rfl) ?_
    refine .v rfl rfl (O.ld ty3 rfl rfl rfl) ?_
    refine .v rfl rfl (O.ldN ty34 rfl rfl rfl) ?_
    refine .call (.imm (.val (.int .i64 t4))) [] 0 (leg_Covered_way.ok b5) rfl rfl rfl ca29 rfl rfl (cC (.agg _ _ _ _ (cC (.imm _) (cC (.imm _) (cC (.imm _) (cC (.imm _) (cC (.imm _) (cC (.imm _) (cC (.imm _) (cC (.imm _) (cC (.imm _) (cC (.imm _) (cC (.imm _) (cC (.imm _) .nil))))))))))))) .nil) rfl rfl rfl rfl rfl ?_
    refine .call (.agg [.imm (.val (.int .i64 t6.Day)), .imm (.val (.int .i64 t6.Member)), .imm (.val (.int .i64 t6.Trade)), .imm (.val (.int .i64 t6.Cash)), .imm (.row 2 (List.map api_Lot.enc t6.Lots))]) [] 0 (leg_Covered_leg.ok b7) rfl rfl rfl ca28 rfl rfl (cC (.agg _ _ _ _ (cC (.imm _) (cC (.imm _) (cC (.imm _) (cC (.imm _) (cC (.imm _) (cC (.imm _) (cC (.imm _) (cC (.imm _) (cC (.imm _) (cC (.imm _) (cC (.imm _) (cC (.imm _) .nil))))))))))))) (cC (.imm _) (cC (.imm _) (cC (.imm _) .nil)))) rfl rfl rfl rfl rfl ?_
    refine .s rfl rfl (O.st ty31 rfl rfl rfl rfl rfl rfl rfl rfl rfl rfl (all' := [.imm (.val (.int .i64 t6.Day)), .imm (.val (.int .i64 t6.Member)), .imm (.val (.int .i64 t6.Trade)), .imm (.val (.int .i64 t6.Cash)), .imm (.row 2 (List.map api_Lot.enc t6.Lots))]) rfl) ?_
    refine .v rfl rfl (OpL.move (.inr rfl) rfl) ?_
    refine .nil ?_
    refine ⟨by kernel_rfl, by kernel_rfl, ?_⟩
    refine W.ret ?_
    cases h
    exact leaves (.inr rfl) rfl (.tup _ _ _ _ (cC (.agg _ _ _ _ (cC (.imm _) (cC (.imm _) (cC (.imm _) (cC (.imm _) (cC (.imm _) .nil)))))) (cC (.imm _) .nil))) (cN .nil) rfl rfl

noncomputable def life_Open.f (x0 : api_Trade) : Option (Bool) :=
  some (x0.End == 0)
set_option maxRecDepth 100000 in
set_option maxHeartbeats 4000000 in
theorem life_Open.ok {x0 : api_Trade} {r : Bool} (h : life_Open.f x0 = some r) : Pm.Spec prog 32 [.agg [.imm (.val (.int .i64 x0.ID)), .imm (.val (.int .i64 x0.Twin)), .imm (.val (.int .i64 x0.Member)), .imm (.val (.int .i64 x0.Side)), .imm (.val (.int .i64 x0.Basket)), .imm (.val (.int .i64 x0.Amount)), .imm (.val (.int .i64 x0.Start)), .imm (.val (.int .i64 x0.End)), .imm (.row 2 (List.map api_Reset.enc x0.Resets)), .imm (.val (.int .i64 x0.Stage)), .imm (.val (.bool x0.Short))]] (.imm (.val (.bool r))) [none] := by
  unfold life_Open.f at h
  refine Pm.Spec.of_body Try.func32 rfl (by kernel_rfl) (Nat.le_of_ble_eq_true rfl) (Nat.le_of_ble_eq_true rfl) ?_
  refine W.ghost (σ' := (mkSt [(0, some (.agg [.imm (.val (.int .i64 x0.ID)), .imm (.val (.int .i64 x0.Twin)), .imm (.val (.int .i64 x0.Member)), .imm (.val (.int .i64 x0.Side)), .imm (.val (.int .i64 x0.Basket)), .imm (.val (.int .i64 x0.Amount)), .imm (.val (.int .i64 x0.Start)), .imm (.val (.int .i64 x0.End)), .imm (.row 2 (List.map api_Reset.enc x0.Resets)), .imm (.val (.int .i64 x0.Stage)), .imm (.val (.bool x0.Short))]))] [] 1000)) (Gives.entry (.c rfl .n) .n) ?_
  refine W.seq ?_
  refine W.pk ?_
  refine .t rfl rfl (O.box rfl rfl rfl rfl rfl) ?_
  refine .v rfl rfl (OpL.move (.inr rfl) rfl) ?_
  refine .nil ?_
  refine W.seq ?_
  refine W.pk ?_
  refine .v rfl rfl (O.fld fld24_7 rfl rfl rfl) ?_
  refine .v rfl rfl (O.ld ty3 rfl rfl rfl) ?_
  refine .v rfl rfl (OpL.binI rfl rfl rfl rfl) ?_
  refine .v rfl rfl (OpL.move (.inr rfl) rfl) ?_
  refine .nil ?_
  refine W.ret ?_
  cases h
  exact leaves (.inr rfl) rfl (.imm _) (cN .nil) rfl rfl

noncomputable def life_until.f (x0 : api_Trade) (x1 : Int) : Option (Int) :=
  (life_Open.f x0).bind fun t1 =>
  if (!t1) = true then
    some (maxI (minI x1 x0.End) x0.Start)
  else
    some (maxI x1 x0.Start)
set_option maxRecDepth 100000 in
set_option maxHeartbeats 4000000 in
theorem life_until.ok {x0 : api_Trade} {x1 : Int} {r : Int} (h : life_until.f x0 x1 = some r) : Pm.Spec prog 68 [.agg [.imm (.val (.int .i64 x0.ID)), .imm (.val (.int .i64 x0.Twin)), .imm (.val (.int .i64 x0.Member)), .imm (.val (.int .i64 x0.Side)), .imm (.val (.int .i64 x0.Basket)), .imm (.val (.int .i64 x0.Amount)), .imm (.val (.int .i64 x0.Start)), .imm (.val (.int .i64 x0.End)), .imm (.row 2 (List.map api_Reset.enc x0.Resets)), .imm (.val (.int .i64 x0.Stage)), .imm (.val (.bool x0.Short))], .imm (.val (.int .i64 x1))] (.imm (.val (.int .i64 r))) [none, none] := by
  unfold life_until.f at h
  refine Pm.Spec.of_body Try.func68 rfl (by kernel_rfl) (Nat.le_of_ble_eq_true rfl) (Nat.le_of_ble_eq_true rfl) ?_
  refine W.ghost (σ' := (mkSt [(0, some (.agg [.imm (.val (.int .i64 x0.ID)), .imm (.val (.int .i64 x0.Twin)), .imm (.val (.int .i64 x0.Member)), .imm (.val (.int .i64 x0.Side)), .imm (.val (.int .i64 x0.Basket)), .imm (.val (.int .i64 x0.Amount)), .imm (.val (.int .i64 x0.Start)), .imm (.val (.int .i64 x0.End)), .imm (.row 2 (List.map api_Reset.enc x0.Resets)), .imm (.val (.int .i64 x0.Stage)), .imm (.val (.bool x0.Short))])), (1, some (.imm (.val (.int .i64 x1))))] [] 1000)) (Gives.entry (.c rfl (.c rfl .n)) .n) ?_
  refine W.seq ?_
  refine W.pk ?_
  refine .t rfl rfl (O.box rfl rfl rfl rfl rfl) ?_
  refine .v rfl rfl (OpL.move (.inr rfl) rfl) ?_
  refine .nil ?_
  refine W.seq ?_
  refine W.seq ?_
  obtain ⟨t1, b2, h⟩ := bnd1 h
  refine W.pk ?_
  refine .v rfl rfl (O.ldN ty24 rfl rfl rfl) ?_
  refine .call (.imm (.val (.bool t1))) [] 0 (life_Open.ok b2) rfl rfl rfl ca32 rfl rfl (cC (.agg _ _ _ _ (cC (.imm _) (cC (.imm _) (cC (.imm _) (cC (.imm _) (cC (.imm _) (cC (.imm _) (cC (.imm _) (cC (.imm _) (cC (.imm _) (cC (.imm _) (cC (.imm _) .nil)))))))))))) .nil) rfl rfl rfl rfl rfl ?_
  refine .v rfl rfl (OpL.unV rfl rfl rfl) ?_
  refine .nil ?_
  refine W.cond rfl (fun q3 => ?_) (fun q3 => ?_)
  · have h := ifT q3 h
    refine W.pk ?_
    refine .v rfl rfl (OpL.move (.inl rfl) rfl) ?_
    refine .v rfl rfl (O.fld fld24_7 rfl rfl rfl) ?_
    refine .v rfl rfl (O.ld ty3 rfl rfl rfl) ?_
    refine .v rfl rfl (O.min2 rfl rfl rfl) ?_
    refine .v rfl rfl (OpL.move (.inr rfl) rfl) ?_
    refine .nil ?_
    refine W.seq ?_
    refine W.pk ?_
    refine .v rfl rfl (OpL.move (.inl rfl) rfl) ?_
    refine .v rfl rfl (O.fld fld24_6 rfl rfl rfl) ?_
    refine .v rfl rfl (O.ld ty3 rfl rfl rfl) ?_
    refine .v rfl rfl (O.max2 rfl rfl rfl) ?_
    refine .v rfl rfl (OpL.move (.inr rfl) rfl) ?_
    refine .nil ?_
    refine W.ret ?_
    cases h
    exact leaves (.inr rfl) rfl (.imm _) (cN (cN .nil)) rfl rfl
  · have h := ifF q3 h
    refine W.skip ?_
    refine W.seq ?_
    refine W.pk ?_
    refine .v rfl rfl (OpL.move (.inl rfl) rfl) ?_
    refine .v rfl rfl (O.fld fld24_6 rfl rfl rfl) ?_
    refine .v rfl rfl (O.ld ty3 rfl rfl rfl) ?_
    refine .v rfl rfl (O.max2 rfl rfl rfl) ?_
    refine .v rfl rfl (OpL.move (.inr rfl) rfl) ?_
    refine .nil ?_
    refine W.ret ?_
    cases h
    exact leaves (.inr rfl) rfl (.imm _) (cN (cN .nil)) rfl rfl

noncomputable def cmp_isNaN_int.f (x0 : Int) : Option (Bool) :=
  some (x0 != x0)
set_option maxRecDepth 100000 in
set_option maxHeartbeats 4000000 in
theorem cmp_isNaN_int.ok {x0 : Int} {r : Bool} (h : cmp_isNaN_int.f x0 = some r) : Pm.Spec prog 60 [.imm (.val (.int .i64 x0))] (.imm (.val (.bool r))) [none] := by
  unfold cmp_isNaN_int.f at h
  refine Pm.Spec.of_body Try.func60 rfl (by kernel_rfl) (Nat.le_of_ble_eq_true rfl) (Nat.le_of_ble_eq_true rfl) ?_
  refine W.ghost (σ' := (mkSt [(0, some (.imm (.val (.int .i64 x0))))] [] 1000)) (Gives.entry (.c rfl .n) .n) ?_
  refine W.seq ?_
  refine W.pk ?_
  refine .v rfl rfl (OpL.move (.inr rfl) rfl) ?_
  refine .nil ?_
  refine W.seq ?_
  refine W.pk ?_
  refine .v rfl rfl (OpL.move (.inl rfl) rfl) ?_
  refine .v rfl rfl (OpL.move (.inl rfl) rfl) ?_
  refine .v rfl rfl (OpL.binI rfl rfl rfl rfl) ?_
  refine .v rfl rfl (OpL.move (.inr rfl) rfl) ?_
  refine .nil ?_
  refine W.ret ?_
  cases h
  exact leaves (.inr rfl) rfl (.imm _) (cN .nil) rfl rfl

noncomputable def cmp_Compare_int.f (x0 : Int) (x1 : Int) : Option (Int) :=
  (cmp_isNaN_int.f x0).bind fun t1 =>
  (cmp_isNaN_int.f x1).bind fun t3 =>
  if t1 = true then
    if t3 = true then
      some 0
    else
      some (-1)
  else
    if t3 = true then
      some 1
    else
      if (decide (x0 < x1)) = true then
        some (-1)
      else
        if (decide (x0 > x1)) = true then
          some 1
        else
          some 0
set_option maxRecDepth 100000 in
set_option maxHeartbeats 4000000 in
theorem cmp_Compare_int.ok {x0 : Int} {x1 : Int} {r : Int} (h : cmp_Compare_int.f x0 x1 = some r) : Pm.Spec prog 42 [.imm (.val (.int .i64 x0)), .imm (.val (.int .i64 x1))] (.imm (.val (.int .i64 r))) [none, none] := by
  unfold cmp_Compare_int.f at h
  refine Pm.Spec.of_body Try.func42 rfl (by kernel_rfl) (Nat.le_of_ble_eq_true rfl) (Nat.le_of_ble_eq_true rfl) ?_
  refine W.ghost (σ' := (mkSt [(0, some (.imm (.val (.int .i64 x0)))), (1, some (.imm (.val (.int .i64 x1))))] [] 1000)) (Gives.entry (.c rfl (.c rfl .n)) .n) ?_
  refine W.seq ?_
  refine W.pk ?_
  refine .v rfl rfl (OpL.move (.inr rfl) rfl) ?_
  refine .nil ?_
  refine W.seq ?_
  obtain ⟨t1, b2, h⟩ := bnd1 h
  refine W.pk ?_
  refine .v rfl rfl (OpL.move (.inl rfl) rfl) ?_
  refine .call (.imm (.val (.bool t1))) [] 0 (cmp_isNaN_int.ok b2) rfl rfl rfl ca60 rfl rfl (cC (.imm _) .nil) rfl rfl rfl rfl rfl ?_
  refine .v rfl rfl (OpL.move (.inr rfl) rfl) ?_
  refine .nil ?_
  refine W.seq ?_
  obtain ⟨t3, b4, h⟩ := bnd1 h
  refine W.pk ?_
  refine .v rfl rfl (OpL.move (.inl rfl) rfl) ?_
  refine .call (.imm (.val (.bool t3))) [] 0 (cmp_isNaN_int.ok b4) rfl rfl rfl ca60 rfl rfl (cC (.imm _) .nil) rfl rfl rfl rfl rfl ?_
  refine .v rfl rfl (OpL.move (.inr rfl) rfl) ?_
  refine .nil ?_
  refine W.seq ?_
  refine W.seq ?_
  refine W.pk ?_
  refine .v rfl rfl (OpL.move (.inl rfl) rfl) ?_
  refine .nil ?_
  refine W.cond rfl (fun q5 => ?_) (fun q5 => ?_)
  · have h := ifT q5 h
    refine W.seq ?_
    refine W.seq ?_
    refine W.pk ?_
    refine .v rfl rfl (OpL.move (.inl rfl) rfl) ?_
    refine .nil ?_
    refine W.cond rfl (fun q6 => ?_) (fun q6 => ?_)
    · have h := ifT q6 h
      refine W.seq ?_
      refine W.pk ?_
      refine .v rfl rfl (OpL.move (.inr rfl) rfl) ?_
      refine .nil ?_
      refine W.ret ?_
      cases h
      exact leaves (.inr rfl) rfl (.imm _) (cN (cN .nil)) rfl rfl
    · have h := ifF q6 h
      refine W.skip ?_
      refine W.seq ?_
      refine W.pk ?_
      refine .v rfl rfl (OpL.move (.inr rfl) rfl) ?_
      refine .nil ?_
      refine W.ret ?_
      cases h
      exact leaves (.inr rfl) rfl (.imm _) (cN (cN .nil)) rfl rfl
  · have h := ifF q5 h
    refine W.skip ?_
    refine W.seq ?_
    refine W.seq ?_
    refine W.pk ?_
    refine .v rfl rfl (OpL.move (.inl rfl) rfl) ?_
    refine .nil ?_
    refine W.cond rfl (fun q7 => ?_) (fun q7 => ?_)
    · have h := ifT q7 h
      refine W.seq ?_
      refine W.pk ?_
      refine .v rfl rfl (OpL.move (.inr rfl) rfl) ?_
      refine .nil ?_
      refine W.ret ?_
      cases h
      exact leaves (.inr rfl) rfl (.imm _) (cN (cN .nil)) rfl rfl
    · have h := ifF q7 h
      refine W.skip ?_
      refine W.seq ?_
      refine W.seq ?_
      refine W.pk ?_
      refine .v rfl rfl (OpL.move (.inl rfl) rfl) ?_
      refine .v rfl rfl (OpL.move (.inl rfl) rfl) ?_
      refine .v rfl rfl (OpL.binI rfl rfl rfl rfl) ?_
      refine .nil ?_
      refine W.cond rfl (fun q8 => ?_) (fun q8 => ?_)
      · have h := ifT q8 h
        refine W.seq ?_
        refine W.pk ?_
        refine .v rfl rfl (OpL.move (.inr rfl) rfl) ?_
        refine .nil ?_
        refine W.ret ?_
        cases h
        exact leaves (.inr rfl) rfl (.imm _) (cN (cN .nil)) rfl rfl
      · have h := ifF q8 h
        refine W.skip ?_
        refine W.seq ?_
        refine W.seq ?_
        refine W.pk ?_
        refine .v rfl rfl (OpL.move (.inl rfl) rfl) ?_
        refine .v rfl rfl (OpL.move (.inl rfl) rfl) ?_
        refine .v rfl rfl (OpL.binI rfl rfl rfl rfl) ?_
        refine .nil ?_
        refine W.cond rfl (fun q9 => ?_) (fun q9 => ?_)
        · have h := ifT q9 h
          refine W.seq ?_
          refine W.pk ?_
          refine .v rfl rfl (OpL.move (.inr rfl) rfl) ?_
          refine .nil ?_
          refine W.ret ?_
          cases h
          exact leaves (.inr rfl) rfl (.imm _) (cN (cN .nil)) rfl rfl
        · have h := ifF q9 h
          refine W.skip ?_
          refine W.seq ?_
          refine W.pk ?_
          refine .v rfl rfl (OpL.move (.inr rfl) rfl) ?_
          refine .nil ?_
          refine W.ret ?_
          cases h
          exact leaves (.inr rfl) rfl (.imm _) (cN (cN .nil)) rfl rfl

noncomputable def accrue_Rate_1_v2.f (x0 : api_Reset) (x1 : Int) : Option (Int) :=
  (cmp_Compare_int.f x0.Day x1).bind fun t1 =>
  some t1
set_option maxRecDepth 100000 in
set_option maxHeartbeats 4000000 in
theorem accrue_Rate_1_v2.ok {x0 : api_Reset} {x1 : Int} {r : Int} (h : accrue_Rate_1_v2.f x0 x1 = some r) : Pm.Spec prog 88 [.agg [.imm (.val (.int .i64 x0.Day)), .imm (.val (.int .i64 x0.Rate))], .imm (.val (.int .i64 x1))] (.imm (.val (.int .i64 r))) [none, none] := by
  unfold accrue_Rate_1_v2.f at h
  refine Pm.Spec.of_body Try.func88 rfl (by kernel_rfl) (Nat.le_of_ble_eq_true rfl) (Nat.le_of_ble_eq_true rfl) ?_
  refine W.ghost (σ' := (mkSt [(0, some (.agg [.imm (.val (.int .i64 x0.Day)), .imm (.val (.int .i64 x0.Rate))])), (1, some (.imm (.val (.int .i64 x1))))] [] 1000)) (Gives.entry (.c rfl (.c rfl .n)) .n) ?_
  refine W.seq ?_
  refine W.pk ?_
  refine .t rfl rfl (O.box rfl rfl rfl rfl rfl) ?_
  refine .v rfl rfl (OpL.move (.inr rfl) rfl) ?_
  refine .nil ?_
  refine W.seq ?_
  obtain ⟨t1, b2, h⟩ := bnd1 h
  refine W.pk ?_
  refine .v rfl rfl (O.fld fld75_0 rfl rfl rfl) ?_
  refine .v rfl rfl (O.ld ty3 rfl rfl rfl) ?_
  refine .v rfl rfl (OpL.move (.inl rfl) rfl) ?_
  refine .call (.imm (.val (.int .i64 t1))) [] 0 (cmp_Compare_int.ok b2) rfl rfl rfl ca42 rfl rfl (cC (.imm _) (cC (.imm _) .nil)) rfl rfl rfl rfl rfl ?_
  refine .v rfl rfl (OpL.move (.inr rfl) rfl) ?_
  refine .nil ?_
  refine W.ret ?_
  cases h
  exact leaves (.inr rfl) rfl (.imm _) (cN (cN .nil)) rfl rfl

noncomputable def slices_BinarySearchFunc_int__accrue_Rate_1.b0 (x0 : List api_Reset) (x1 : Int) (v6 : Int) (v7 : Int) : Option ((Int × Int) ⊕ Int) :=
  if (decide (v6 < v7)) = true then
    if (0 : Int) ≤ (IntKind.wrap .i64 (shrI .u64 (IntKind.wrap .u64 (IntKind.wrap .i64 (v6 + v7))) 1)) ∧ (IntKind.wrap .i64 (shrI .u64 (IntKind.wrap .u64 (IntKind.wrap .i64 (v6 + v7))) 1)) < (List.length x0 : Int) then
    (accrue_Rate_1_v2.f (nth x0 (IntKind.wrap .i64 (shrI .u64 (IntKind.wrap .u64 (IntKind.wrap .i64 (v6 + v7))) 1))) x1).bind fun t24 =>
    if (decide (t24 < 0)) = true then
      some (.inl ((IntKind.wrap .i64 ((IntKind.wrap .i64 (shrI .u64 (IntKind.wrap .u64 (IntKind.wrap .i64 (v6 + v7))) 1)) + 1)), v7))
    else
      some (.inl (v6, (IntKind.wrap .i64 (shrI .u64 (IntKind.wrap .u64 (IntKind.wrap .i64 (v6 + v7))) 1))))
    else none
  else
    some (.inr v6)
noncomputable def slices_BinarySearchFunc_int__accrue_Rate_1.r0 (x0 : List api_Reset) (x1 : Int) (s : Int × Int) : Option ((Int × Int) ⊕ Int) := slices_BinarySearchFunc_int__accrue_Rate_1.b0 x0 x1 s.1 s.2
noncomputable def slices_BinarySearchFunc_int__accrue_Rate_1.f (x0 : List api_Reset) (x1 : Int) : Option (Int × Bool) :=
  (loop (slices_BinarySearchFunc_int__accrue_Rate_1.r0 x0 x1) (0, (List.length x0 : Int))).bind fun o19 =>
  if ((decide (o19 < (List.length x0 : Int))) = true → (0 : Int) ≤ o19 ∧ o19 < (List.length x0 : Int)) then
  (if (decide (o19 < (List.length x0 : Int))) = true then accrue_Rate_1_v2.f (nth x0 o19) x1 else some default).bind fun t28 =>
  some (o19, ((decide (o19 < (List.length x0 : Int))) && (t28 == 0)))
  else none
set_option maxRecDepth 100000 in
set_option maxHeartbeats 4000000 in
theorem slices_BinarySearchFunc_int__accrue_Rate_1.ok {x0 : List api_Reset} {x1 : Int} {r : Int × Bool} (h : slices_BinarySearchFunc_int__accrue_Rate_1.f x0 x1 = some r) : Pm.Spec prog 87 [.imm (.row 2 (List.map api_Reset.enc x0)), .imm (.val (.int .i64 x1)), .fn 88 []] (.tup [.imm (.val (.int .i64 r.1)), .imm (.val (.bool r.2))]) [none, none, none] := by
  unfold slices_BinarySearchFunc_int__accrue_Rate_1.f at h
  refine Pm.Spec.of_body Try.func87 rfl (by kernel_rfl) (Nat.le_of_ble_eq_true rfl) (Nat.le_of_ble_eq_true rfl) ?_
  refine W.ghost (σ' := (mkSt [(0, some (.imm (.row 2 (List.map api_Reset.enc x0)))), (1, some (.imm (.val (.int .i64 x1)))), (2, some (.fn 88 []))] [] 1000)) (Gives.entry (.c rfl (.c rfl (.c rfl .n))) .n) ?_
  refine W.seq ?_
  refine W.pk ?_
  refine .v rfl rfl (OpL.move (.inr rfl) rfl) ?_
  refine .v rfl rfl (OpL.move (.inr rfl) rfl) ?_
  refine .nil ?_
  refine W.seq ?_
  refine W.pk ?_
  refine .v rfl rfl (OpL.move (.inl rfl) rfl) ?_
  refine .v rfl rfl (O.lenR sl22 rfl rfl) ?_
  refine .v rfl rfl (OpL.move (.inr rfl) rfl) ?_
  refine .nil ?_
  refine W.seq ?_
  refine W.pk ?_
  refine .v rfl rfl (OpL.move (.inl rfl) rfl) ?_
  refine .v rfl rfl (OpL.move (.inr rfl) rfl) ?_
  refine .v rfl rfl (OpL.move (.inr rfl) rfl) ?_
  refine .nil ?_
  refine W.seq ?_
  obtain ⟨o19, b20, h⟩ := bnd1 h
  refine W.fork (mkSt [(0, some (.imm (.row 2 (List.map api_Reset.enc x0)))), (1, some (.imm (.val (.int .i64 x1)))), (2, some (.fn 88 [])), (8, some (.imm (.val (.int .i64 (List.length x0 : Int))))), (9, some (.imm (.val (.int .i64 o19))))] [] 1000) ?_ ?_
  · refine W.seq ?_
    obtain ⟨c27, h⟩ := chk h
    obtain ⟨t28, b29, h⟩ := bnd1 h
    refine W.fork (mkSt [(6, some (.imm (.val (.int .i64 o19)))), (7, some (.imm (.val (.bool ((decide (o19 < (List.length x0 : Int))) && (t28 == 0))))))] [] 1000) ?_ ?_
    · refine W.ret ?_
      cases h
      exact leaves (.inr rfl) rfl (.tup _ _ _ _ (cC (.imm _) (cC (.imm _) .nil))) (cN (cN (cN .nil))) rfl rfl
    · clear h
      rcases tf (decide (o19 < (List.length x0 : Int))) with g30 | g30
      · refine W.pk ?_
        refine .v rfl rfl (OpL.move (.inl rfl) rfl) ?_
        refine .v rfl rfl (OpL.move (.inl rfl) rfl) ?_
        refine .v rfl rfl (OpL.move (.inl rfl) rfl) ?_
        refine .v rfl rfl (OpL.binI rfl rfl rfl rfl) ?_
        refine .v rfl rfl (OpL.move (.inl rfl) rfl) ?_
        refine .v rfl (met rfl rfl rfl g30) (OpL.move (.inl rfl) rfl) ?_
        refine .v rfl (met rfl rfl rfl g30) (OpL.move (.inl rfl) rfl) ?_
        refine .v rfl (met rfl rfl rfl g30) (OpL.move (.inl rfl) rfl) ?_
        refine .v rfl (met rfl rfl rfl g30) (O.idx sl22 (c27 (by simp only [g30, Bool.true_or, Bool.or_true, Bool.false_or, Bool.or_false, Bool.true_and, Bool.and_true, Bool.false_and, Bool.and_false, Bool.not_true, Bool.not_false, cond_true, cond_false])) rfl rfl rfl) ?_
        refine .v rfl (met rfl rfl rfl g30) (O.ldN ty75 rfl rfl rfl) ?_
        refine .v rfl (met rfl rfl rfl g30) (OpL.move (.inl rfl) rfl) ?_
        refine .call (.imm (.val (.int .i64 t28))) [] 0 (accrue_Rate_1_v2.ok ((if_pos (by simp only [g30, Bool.true_or, Bool.or_true, Bool.false_or, Bool.or_false, Bool.true_and, Bool.and_true, Bool.false_and, Bool.and_false, Bool.not_true, Bool.not_false, cond_true, cond_false])).symm.trans b29)) rfl (met rfl rfl rfl g30) rfl ca88 rfl rfl (cC (.agg _ _ _ _ (cC (.imm _) (cC (.imm _) .nil))) (cC (.imm _) .nil)) rfl rfl rfl rfl rfl ?_
        refine .v rfl (met rfl rfl rfl g30) (OpL.binI rfl rfl rfl rfl) ?_
        refine .v rfl rfl (O.pickT g30 rfl rfl rfl) ?_
        refine .v rfl rfl (OpL.move (.inr rfl) rfl) ?_
        refine .v rfl rfl (OpL.move (.inr rfl) rfl) ?_
        refine .nil ?_
        exact toN (Gives.mkR [] (.c rfl (.rfl _) rfl (.c rfl (sbb (by simp only [g30, Bool.true_or, Bool.or_true, Bool.false_or, Bool.or_false, Bool.true_and, Bool.and_true, Bool.false_and, Bool.and_false, Bool.not_true, Bool.not_false, cond_true, cond_false])) rfl .n)) .n rfl rfl rfl)
      · refine W.pk ?_
        refine .v rfl rfl (OpL.move (.inl rfl) rfl) ?_
        refine .v rfl rfl (OpL.move (.inl rfl) rfl) ?_
        refine .v rfl rfl (OpL.move (.inl rfl) rfl) ?_
        refine .v rfl rfl (OpL.binI rfl rfl rfl rfl) ?_
        refine .v rfl rfl (OpL.move (.inl rfl) rfl) ?_
        refine .x rfl (unmet rfl rfl rfl g30) ?_
        refine .x rfl (unmet rfl rfl rfl g30) ?_
        refine .x rfl (unmet rfl rfl rfl g30) ?_
        refine .x rfl (unmet rfl rfl rfl g30) ?_
        refine .x rfl (unmet rfl rfl rfl g30) ?_
        refine .x rfl (unmet rfl rfl rfl g30) ?_
        refine .x rfl (unmet rfl rfl rfl g30) ?_
        refine .x rfl (unmet rfl rfl rfl g30) ?_
        refine .v rfl rfl (O.pickF g30 rfl rfl rfl) ?_
        refine .v rfl rfl (OpL.move (.inr rfl) rfl) ?_
        refine .v rfl rfl (OpL.move (.inr rfl) rfl) ?_
        refine .nil ?_
        exact toN (Gives.mkR [] (.c rfl (.rfl _) rfl (.c rfl (sbb (by simp only [g30, Bool.true_or, Bool.or_true, Bool.false_or, Bool.or_false, Bool.true_and, Bool.and_true, Bool.false_and, Bool.and_false, Bool.not_true, Bool.not_false, cond_true, cond_false])) rfl .n)) .n rfl rfl rfl)
  · clear h
    refine W.block ?_
    refine W.loopF (fun (s_ : Int × Int) => mkSt [(0, some (.imm (.row 2 (List.map api_Reset.enc x0)))), (1, some (.imm (.val (.int .i64 x1)))), (2, some (.fn 88 [])), (8, some (.imm (.val (.int .i64 (List.length x0 : Int))))), (9, some (.imm (.val (.int .i64 s_.1)))), (10, some (.imm (.val (.int .i64 s_.2))))] [] 1000) b20 (Gives.mkR [] (.c rfl (.rfl _) rfl (.c rfl (.rfl _) rfl (.c rfl (.rfl _) rfl (.c rfl (.rfl _) rfl (.c rfl (.rfl _) rfl (.c rfl (.rfl _) rfl .n)))))) .n rfl rfl rfl) ?_
    rintro ⟨v6, v7⟩ s_ hr
    have h : slices_BinarySearchFunc_int__accrue_Rate_1.b0 x0 x1 v6 v7 = some s_ := hr
    unfold slices_BinarySearchFunc_int__accrue_Rate_1.b0 at h
    refine W.seq ?_
    refine W.seq ?_
    refine W.pk ?_
    refine .v rfl rfl (OpL.move (.inl rfl) rfl) ?_
    refine .v rfl rfl (OpL.move (.inl rfl) rfl) ?_
    refine .v rfl rfl (OpL.binI rfl rfl rfl rfl) ?_
    refine .nil ?_
    refine W.cond rfl (fun q22 => ?_) (fun q22 => ?_)
    · have h := ifT q22 h
      refine W.skip ?_
      refine W.block ?_
      refine W.seq ?_
      refine W.pk ?_
      refine .v rfl rfl (OpL.move (.inl rfl) rfl) ?_
      refine .v rfl rfl (OpL.move (.inl rfl) rfl) ?_
      refine .v rfl rfl (OpL.binI rfl rfl rfl rfl) ?_
      refine .v rfl rfl (O.conv h3 u113 rfl rfl) ?_
      refine .v rfl rfl (O.shr (by decide) rfl rfl rfl) ?_
      refine .v rfl rfl (O.conv h113 u3 rfl rfl) ?_
      refine .v rfl rfl (OpL.move (.inr rfl) rfl) ?_
      refine .nil ?_
      refine W.seq ?_
      obtain ⟨c23, h⟩ := chk h
      obtain ⟨t24, b25, h⟩ := bnd1 h
      refine W.pk ?_
      refine .v rfl rfl (OpL.move (.inl rfl) rfl) ?_
      refine .v rfl rfl (OpL.move (.inl rfl) rfl) ?_
      refine .v rfl rfl (OpL.move (.inl rfl) rfl) ?_
      refine .v rfl rfl (O.idx sl22 c23 rfl rfl rfl) ?_
      refine .v rfl rfl (O.ldN ty75 rfl rfl rfl) ?_
      refine .v rfl rfl (OpL.move (.inl rfl) rfl) ?_
      refine .call (.imm (.val (.int .i64 t24))) [] 0 (accrue_Rate_1_v2.ok b25) rfl rfl rfl ca88 rfl rfl (cC (.agg _ _ _ _ (cC (.imm _) (cC (.imm _) .nil))) (cC (.imm _) .nil)) rfl rfl rfl rfl rfl ?_
      refine .v rfl rfl (OpL.binI rfl rfl rfl rfl) ?_
      refine .nil ?_
      refine W.cond rfl (fun q26 => ?_) (fun q26 => ?_)
      · have h := ifT q26 h
        refine W.pk ?_
        refine .v rfl rfl (OpL.move (.inl rfl) rfl) ?_
        refine .v rfl rfl (OpL.binI rfl rfl rfl rfl) ?_
        refine .v rfl rfl (OpL.move (.inr rfl) rfl) ?_
        refine .nil ?_
        cases h
        exact rdN (Gives.mkR [] (.c rfl (.rfl _) rfl (.c rfl (.rfl _) rfl (.c rfl (.rfl _) rfl (.c rfl (.rfl _) rfl (.c rfl (.rfl _) rfl (.c rfl (.rfl _) rfl .n)))))) .n rfl rfl rfl)
      · have h := ifF q26 h
        refine W.pk ?_
        refine .v rfl rfl (OpL.move (.inl rfl) rfl) ?_
        refine .v rfl rfl (OpL.move (.inr rfl) rfl) ?_
        refine .nil ?_
        cases h
        exact rdN (Gives.mkR [] (.c rfl (.rfl _) rfl (.c rfl (.rfl _) rfl (.c rfl (.rfl _) rfl (.c rfl (.rfl _) rfl (.c rfl (.rfl _) rfl (.c rfl (.rfl _) rfl .n)))))) .n rfl rfl rfl)
    · have h := ifF q22 h
      refine W.exit ?_
      cases h
      refine rdX fun e_ => ?_
      subst e_
      refine hit ?_
      exact toN (Gives.mkR [] (.c rfl (.rfl _) rfl (.c rfl (.rfl _) rfl (.c rfl (.rfl _) rfl (.c rfl (.rfl _) rfl (.c rfl (.rfl _) rfl .n))))) .n rfl rfl rfl)
end Go.Proofs.Ytlgfdldonoaahaa
