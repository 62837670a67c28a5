/- Shows what functions of the program come to, each as a plain function: written by a program of the author's for this claim. -/
import Derived.Test.YtlgfdldonoaahaaGx8
namespace Go.Proofs.Ytlgfdldonoaahaa
open Go Go.Pm
set_option linter.unusedVariables false
set_option linter.unusedSimpArgs false
noncomputable def lombardref17_Check.b0 (x0 : List api_Lot) (v11 : Int) : Option (Int ⊕ ((Int × Int) ⊕ Unit)) :=
  if (decide (v11 < (List.length x0 : Int))) = true then
    if (0 : Int) ≤ v11 ∧ v11 < (List.length x0 : Int) then
    (lombardref17_good.f ((nth x0 v11).Qty)).bind fun t36 =>
    if (!t36) = true then
      some (.inr (.inl (v11, 1)))
    else
      if ((decide (v11 > 0)) = true → (0 : Int) ≤ (IntKind.wrap .i64 (v11 - 1)) ∧ (IntKind.wrap .i64 (v11 - 1)) < (List.length x0 : Int)) then
      if ((decide (v11 > 0)) = true → (0 : Int) ≤ v11 ∧ v11 < (List.length x0 : Int)) then
      if ((decide (v11 > 0)) && (!Go.Op.bytesLess ((nth x0 (IntKind.wrap .i64 (v11 - 1))).ISIN) ((nth x0 v11).ISIN))) = true then
        some (.inr (.inl (v11, 7)))
      else
        some (.inl (IntKind.wrap .i64 (v11 + 1)))
      else none
      else none
    else none
  else
    some (.inr (.inr ()))
noncomputable def lombardref17_Check.r0 (x0 : List api_Lot) (s : Int) : Option (Int ⊕ ((Int × Int) ⊕ Unit)) := lombardref17_Check.b0 x0 s
noncomputable def lombardref17_Check.f (x0 : List api_Lot) : Option (Int × Int) :=
  if (decide ((List.length x0 : Int) > 64)) = true then
    some (0, 2)
  else
    (loop (lombardref17_Check.r0 x0) 0).bind fun o31 =>
    match o31 with
    | .inl r43 => some r43
    | .inr w30 =>
      some ((List.length x0 : Int), 0)
set_option maxRecDepth 100000 in
set_option maxHeartbeats 4000000 in
theorem lombardref17_Check.ok {x0 : List api_Lot} {r : Int × Int} (h : lombardref17_Check.f x0 = some r) : Pm.Spec prog 52 [.imm (.row 2 (List.map api_Lot.enc x0))] (.tup [.imm (.val (.int .i64 r.1)), .imm (.val (.int .i64 r.2))]) [none] := by
  unfold lombardref17_Check.f at h
  refine Pm.Spec.of_body Try.func52 rfl (by kernel_rfl) (Nat.le_of_ble_eq_true rfl) (Nat.le_of_ble_eq_true rfl) ?_
  refine W.ghost (σ' := (mkSt [(0, some (.imm (.row 2 (List.map api_Lot.enc x0))))] [] 1000)) (Gives.entry (.c rfl .n) .n) ?_
  refine W.seq ?_
  refine W.pk ?_
  refine .v rfl rfl (OpL.move (.inr rfl) rfl) ?_
  refine .v rfl rfl (OpL.move (.inr rfl) rfl) ?_
  refine .nil ?_
  refine W.seq ?_
  refine W.seq ?_
  refine W.pk ?_
  refine .v rfl rfl (OpL.move (.inl rfl) rfl) ?_
  refine .v rfl rfl (O.lenR sl25 rfl rfl) ?_
  refine .v rfl rfl (OpL.binI rfl rfl rfl rfl) ?_
  refine .nil ?_
  refine W.cond rfl (fun q1 => ?_) (fun q1 => ?_)
  · have h := ifT q1 h
    refine W.seq ?_
    refine W.pk ?_
    refine .v rfl rfl (OpL.move (.inr rfl) rfl) ?_
    refine .v rfl rfl (OpL.move (.inr rfl) rfl) ?_
    refine .nil ?_
    refine W.ret ?_
    cases h
    exact leaves (.inr rfl) rfl (.tup _ _ _ _ (cC (.imm _) (cC (.imm _) .nil))) (cN .nil) rfl rfl
  · have h := ifF q1 h
    refine W.skip ?_
    refine W.seq ?_
    refine W.seq ?_
    refine W.pk ?_
    refine .v rfl rfl (OpL.move (.inr rfl) rfl) ?_
    refine .nil ?_
    obtain ⟨o31, b32, z33⟩ := bnd1 h
    refine W.fork2 (out := o31) (fun (w30 : Unit) => mkSt [(0, some (.imm (.row 2 (List.map api_Lot.enc x0))))] [] 1000) ?_ ?_
    · clear h
      refine W.block ?_
      refine W.loopF (fun (s_ : Int) => mkSt [(0, some (.imm (.row 2 (List.map api_Lot.enc x0)))), (4, some (.imm (.val (.int .i64 s_))))] [] 1000) b32 (Gives.mkR [] (.c rfl (.rfl _) rfl (.c rfl (.rfl _) rfl .n)) .n rfl rfl rfl) ?_
      rintro v11 s_ hr
      have h : lombardref17_Check.b0 x0 v11 = some s_ := hr
      unfold lombardref17_Check.b0 at h
      refine W.seq ?_
      refine W.seq ?_
      refine W.pk ?_
      refine .v rfl rfl (OpL.move (.inl rfl) rfl) ?_
      refine .v rfl rfl (OpL.move (.inl rfl) rfl) ?_
      refine .v rfl rfl (O.lenR sl25 rfl rfl) ?_
      refine .v rfl rfl (OpL.binI rfl rfl rfl rfl) ?_
      refine .nil ?_
      refine W.cond rfl (fun q34 => ?_) (fun q34 => ?_)
      · have h := ifT q34 h
        refine W.skip ?_
        refine W.seq ?_
        refine W.block ?_
        refine W.seq ?_
        refine W.seq ?_
        obtain ⟨c35, h⟩ := chk h
        obtain ⟨t36, b37, h⟩ := bnd1 h
        refine W.pk ?_
        refine .v rfl rfl (OpL.move (.inl rfl) rfl) ?_
        refine .v rfl rfl (OpL.move (.inl rfl) rfl) ?_
        refine .v rfl rfl (O.idx sl25 c35 rfl rfl rfl) ?_
        refine .v rfl rfl (O.fld fld44_1 rfl rfl rfl) ?_
        refine .v rfl rfl (O.ld ty3 rfl rfl rfl) ?_
        refine .call (.imm (.val (.bool t36))) [] 0 (lombardref17_good.ok b37) rfl rfl rfl ca66 rfl rfl (cC (.imm _) .nil) rfl rfl rfl rfl rfl ?_
        refine .v rfl rfl (OpL.unV rfl rfl rfl) ?_
        refine .nil ?_
        refine W.cond rfl (fun q38 => ?_) (fun q38 => ?_)
        · have h := ifT q38 h
          refine W.seq ?_
          refine W.pk ?_
          refine .v rfl rfl (OpL.move (.inl rfl) rfl) ?_
          refine .v rfl rfl (OpL.move (.inr rfl) rfl) ?_
          refine .v rfl rfl (OpL.move (.inr rfl) rfl) ?_
          refine .nil ?_
          refine W.ret ?_
          cases h
          refine rdR fun e_ => ?_
          subst e_
          have h := z33
          dsimp only at h
          refine fkR ?_
          cases h
          exact leaves (.inr rfl) rfl (.tup _ _ _ _ (cC (.imm _) (cC (.imm _) .nil))) (cN .nil) rfl rfl
        · have h := ifF q38 h
          refine W.skip ?_
          refine W.seq ?_
          obtain ⟨c39, h⟩ := chk h
          obtain ⟨c40, h⟩ := chk h
          refine W.fork (mkSt [(0, some (.imm (.row 2 (List.map api_Lot.enc x0)))), (4, some (.imm (.val (.int .i64 v11)))), (37, some (.imm (.val (.bool ((decide (v11 > 0)) && (!Go.Op.bytesLess ((nth x0 (IntKind.wrap .i64 (v11 - 1))).ISIN) ((nth x0 v11).ISIN)))))))] [] 1000) ?_ ?_
          · refine W.cond rfl (fun q42 => ?_) (fun q42 => ?_)
            · have h := ifT q42 h
              refine W.seq ?_
              refine W.pk ?_
              refine .v rfl rfl (OpL.move (.inl rfl) rfl) ?_
              refine .v rfl rfl (OpL.move (.inr rfl) rfl) ?_
              refine .v rfl rfl (OpL.move (.inr rfl) rfl) ?_
              refine .nil ?_
              refine W.ret ?_
              cases h
              refine rdR fun e_ => ?_
              subst e_
              have h := z33
              dsimp only at h
              refine fkR ?_
              cases h
              exact leaves (.inr rfl) rfl (.tup _ _ _ _ (cC (.imm _) (cC (.imm _) .nil))) (cN .nil) rfl rfl
            · have h := ifF q42 h
              refine W.skip ?_
              refine W.pk ?_
              refine .v rfl rfl (OpL.move (.inl rfl) rfl) ?_
              refine .v rfl rfl (OpL.binI rfl rfl rfl rfl) ?_
              refine .v rfl rfl (OpL.move (.inr rfl) rfl) ?_
              refine .nil ?_
              cases h
              exact rdN (Gives.mkR [] (.c rfl (.rfl _) rfl (.c rfl (.rfl _) rfl .n)) .n rfl rfl rfl)
          · clear h
            rcases tf (decide (v11 > 0)) with g41 | g41
            · refine W.dk [[], [0], [0, 1], [0, 1, 2], [0, 1, 2], [0, 1, 2, 4], [0, 1, 2, 3, 4, 5], [0, 1, 2, 3, 4, 5, 6], [0, 1, 2, 3, 4, 5, 6, 7], [0, 1, 2], [0, 1, 2], [0, 1, 2, 9, 10], [0, 1, 2, 9, 10, 11], [0, 1, 2, 9, 10, 11, 12], [0, 1, 2, 3, 4, 5, 6, 7, 8, 9, 10, 11, 12, 13], [0, 1, 2, 3, 4, 5, 6, 7, 8, 9, 10, 11, 12, 13, 14]] rfl (by kernel_rfl) ?_
              refine .v rfl rfl (OpL.move (.inl rfl) rfl) ?_
              refine .v rfl rfl (OpL.binI rfl rfl rfl rfl) ?_
              refine .v rfl rfl (OpL.move (.inl rfl) rfl) ?_
              refine .v rfl (met rfl rfl rfl g41) (OpL.move (.inl rfl) rfl) ?_
              refine .v rfl (met rfl rfl rfl g41) (OpL.move (.inl rfl) rfl) ?_
              refine .v rfl (met rfl rfl rfl g41) (OpL.binI rfl rfl rfl rfl) ?_
              refine .v rfl (met rfl rfl rfl g41) (O.idx sl25 (c39 (by simp only [g41, Bool.true_or, Bool.or_true, Bool.false_or, Bool.or_false, Bool.true_and, Bool.and_true, Bool.false_and, Bool.and_false, Bool.not_true, Bool.not_false, cond_true, cond_false])) rfl rfl rfl) ?_
              refine .v rfl (met rfl rfl rfl g41) (O.fld fld44_0 rfl rfl rfl) ?_
              refine .v rfl (met rfl rfl rfl g41) (O.ld ty9 rfl rfl rfl) ?_
              refine .v rfl (met rfl rfl rfl g41) (OpL.move (.inl rfl) rfl) ?_
              refine .v rfl (met rfl rfl rfl g41) (OpL.move (.inl rfl) rfl) ?_
              refine .v rfl (met rfl rfl rfl g41) (O.idx sl25 (c40 (by simp only [g41, Bool.true_or, Bool.or_true, Bool.false_or, Bool.or_false, Bool.true_and, Bool.and_true, Bool.false_and, Bool.and_false, Bool.not_true, Bool.not_false, cond_true, cond_false])) rfl rfl rfl) ?_
              refine .v rfl (met rfl rfl rfl g41) (O.fld fld44_0 rfl rfl rfl) ?_
              refine .v rfl (met rfl rfl rfl g41) (O.ld ty9 rfl rfl rfl) ?_
              refine .v rfl (met rfl rfl rfl g41) (O.cmpS rfl rfl rfl rfl) ?_
              refine .v rfl rfl (O.pickT g41 rfl rfl rfl) ?_
              refine .nil ?_
              refine ⟨by kernel_rfl, by kernel_rfl, ?_⟩
              exact toN (Gives.mkR [] (.c rfl (.rfl _) rfl (.c rfl (.rfl _) rfl (.c rfl (sbb (by simp only [g41, Bool.true_or, Bool.or_true, Bool.false_or, Bool.or_false, Bool.true_and, Bool.and_true, Bool.false_and, Bool.and_false, Bool.not_true, Bool.not_false, cond_true, cond_false])) rfl .n))) .n rfl rfl rfl)
            · refine W.dk [[], [0], [0, 1], [0, 1, 2], [0, 1, 2], [0, 1, 2, 4], [0, 1, 2, 3, 4, 5], [0, 1, 2, 3, 4, 5, 6], [0, 1, 2, 3, 4, 5, 6, 7], [0, 1, 2], [0, 1, 2], [0, 1, 2, 9, 10], [0, 1, 2, 9, 10, 11], [0, 1, 2, 9, 10, 11, 12], [0, 1, 2, 3, 4, 5, 6, 7, 8, 9, 10, 11, 12, 13], [0, 1, 2, 3, 4, 5, 6, 7, 8, 9, 10, 11, 12, 13, 14]] rfl (by kernel_rfl) ?_
              refine .v rfl rfl (OpL.move (.inl rfl) rfl) ?_
              refine .v rfl rfl (OpL.binI rfl rfl rfl rfl) ?_
              refine .v rfl rfl (OpL.move (.inl rfl) rfl) ?_
              refine .x rfl (unmet rfl rfl rfl g41) ?_
              refine .x rfl (unmet rfl rfl rfl g41) ?_
              refine .x rfl (unmet rfl rfl rfl g41) ?_
              refine .x rfl (unmet rfl rfl rfl g41) ?_
              refine .x rfl (unmet rfl rfl rfl g41) ?_
              refine .x rfl (unmet rfl rfl rfl g41) ?_
              refine .x rfl (unmet rfl rfl rfl g41) ?_
              refine .x rfl (unmet rfl rfl rfl g41) ?_
              refine .x rfl (unmet rfl rfl rfl g41) ?_
              refine .x rfl (unmet rfl rfl rfl g41) ?_
              refine .x rfl (unmet rfl rfl rfl g41) ?_
              refine .x rfl (unmet rfl rfl rfl g41) ?_
              refine .v rfl rfl (O.pickF g41 rfl rfl rfl) ?_
              refine .nil ?_
              refine ⟨by kernel_rfl, by kernel_rfl, ?_⟩
              exact toN (Gives.mkR [] (.c rfl (.rfl _) rfl (.c rfl (.rfl _) rfl (.c rfl (sbb (by simp only [g41, Bool.true_or, Bool.or_true, Bool.false_or, Bool.or_false, Bool.true_and, Bool.and_true, Bool.false_and, Bool.and_false, Bool.not_true, Bool.not_false, cond_true, cond_false])) rfl .n))) .n rfl rfl rfl)
      · have h := ifF q34 h
        refine W.exit ?_
        cases h
        refine rdX fun e_ => ?_
        subst e_
        refine hit ?_
        exact fkN (Gives.mkR [] (.c rfl (.rfl _) rfl .n) .n rfl rfl rfl)
    · intro w30 e_
      subst e_
      clear h
      have h := z33
      dsimp only at h
      refine W.seq ?_
      refine W.pk ?_
      refine .v rfl rfl (OpL.move (.inl rfl) rfl) ?_
      refine .v rfl rfl (O.lenR sl25 rfl rfl) ?_
      refine .v rfl rfl (OpL.move (.inr rfl) rfl) ?_
      refine .v rfl rfl (OpL.move (.inr rfl) rfl) ?_
      refine .nil ?_
      refine W.ret ?_
      cases h
      exact leaves (.inr rfl) rfl (.tup _ _ _ _ (cC (.imm _) (cC (.imm _) .nil))) (cN .nil) rfl rfl

noncomputable def lombardref25_wrong.f (x0 : lombardref25_Covered) : Option (Int) :=
  (lombardref23_Check.f x0.Trade).bind fun t1 =>
  if (t1 != 0) = true then
    some t1
  else
    (lombardref17_Check.f x0.Lots).bind fun t4 =>
    some t4.2
set_option maxRecDepth 100000 in
set_option maxHeartbeats 4000000 in
theorem lombardref25_wrong.ok {x0 : lombardref25_Covered} {r : Int} (h : lombardref25_wrong.f x0 = some r) : Pm.Spec prog 30 [.agg [.imm (.val (.int .i64 x0.Trade.ID)), .imm (.val (.int .i64 x0.Trade.Twin)), .imm (.val (.int .i64 x0.Trade.Member)), .imm (.val (.int .i64 x0.Trade.Side)), .imm (.val (.int .i64 x0.Trade.Basket)), .imm (.val (.int .i64 x0.Trade.Amount)), .imm (.val (.int .i64 x0.Trade.Start)), .imm (.val (.int .i64 x0.Trade.End)), .imm (.row 2 (List.map api_Reset.enc x0.Trade.Resets)), .imm (.val (.int .i64 x0.Trade.Stage)), .imm (.val (.bool x0.Trade.Short)), .imm (.row 2 (List.map api_Lot.enc x0.Lots))]] (.imm (.val (.int .i64 r))) [none] := by
  unfold lombardref25_wrong.f at h
  refine Pm.Spec.of_body Try.func30 rfl (by kernel_rfl) (Nat.le_of_ble_eq_true rfl) (Nat.le_of_ble_eq_true rfl) ?_
  refine W.ghost (σ' := (mkSt [(0, some (.agg [.imm (.val (.int .i64 x0.Trade.ID)), .imm (.val (.int .i64 x0.Trade.Twin)), .imm (.val (.int .i64 x0.Trade.Member)), .imm (.val (.int .i64 x0.Trade.Side)), .imm (.val (.int .i64 x0.Trade.Basket)), .imm (.val (.int .i64 x0.Trade.Amount)), .imm (.val (.int .i64 x0.Trade.Start)), .imm (.val (.int .i64 x0.Trade.End)), .imm (.row 2 (List.map api_Reset.enc x0.Trade.Resets)), .imm (.val (.int .i64 x0.Trade.Stage)), .imm (.val (.bool x0.Trade.Short)), .imm (.row 2 (List.map api_Lot.enc x0.Lots))]))] [] 1000)) (Gives.entry (.c rfl .n) .n) ?_
  refine W.seq ?_
  refine W.pk ?_
  refine .t rfl rfl (O.box rfl rfl rfl rfl rfl) ?_
  refine .v rfl rfl (OpL.move (.inr rfl) rfl) ?_
  refine .nil ?_
  refine W.seq ?_
  refine W.seq ?_
  obtain ⟨t1, b2, h⟩ := bnd1 h
  refine W.pk ?_
  refine .v rfl rfl (O.fld fld27_0 rfl rfl rfl) ?_
  refine .v rfl rfl (O.ldN ty24 rfl rfl rfl) ?_
  refine .call (.imm (.val (.int .i64 t1))) [] 0 (lombardref23_Check.ok b2) rfl rfl rfl ca51 rfl rfl (cC (.agg _ _ _ _ (cC (.imm _) (cC (.imm _) (cC (.imm _) (cC (.imm _) (cC (.imm _) (cC (.imm _) (cC (.imm _) (cC (.imm _) (cC (.imm _) (cC (.imm _) (cC (.imm _) .nil)))))))))))) .nil) rfl rfl rfl rfl rfl ?_
  refine .v rfl rfl (OpL.move (.inr rfl) rfl) ?_
  refine .nil ?_
  refine W.seq ?_
  refine W.pk ?_
  refine .v rfl rfl (OpL.move (.inl rfl) rfl) ?_
  refine .v rfl rfl (OpL.binI rfl rfl rfl rfl) ?_
  refine .nil ?_
  refine W.cond rfl (fun q3 => ?_) (fun q3 => ?_)
  · have h := ifT q3 h
    refine W.seq ?_
    refine W.pk ?_
    refine .v rfl rfl (OpL.move (.inl rfl) rfl) ?_
    refine .v rfl rfl (OpL.move (.inr rfl) rfl) ?_
    refine .nil ?_
    refine W.ret ?_
    cases h
    exact leaves (.inr rfl) rfl (.imm _) (cN .nil) rfl rfl
  · have h := ifF q3 h
    refine W.skip ?_
    refine W.seq ?_
    obtain ⟨t4, b5, h⟩ := bnd1 h
    refine W.pk ?_
    refine .v rfl rfl (O.fld fld27_1 rfl rfl rfl) ?_
    refine .v rfl rfl (O.ld ty25 rfl rfl rfl) ?_
    refine .call (.tup [.imm (.val (.int .i64 t4.1)), .imm (.val (.int .i64 t4.2))]) [] 0 (lombardref17_Check.ok b5) rfl rfl rfl ca52 rfl rfl (cC (.imm _) .nil) rfl rfl rfl rfl rfl ?_
    refine .v rfl rfl (OpL.move (.inl rfl) rfl) ?_
    refine .v rfl rfl (OpL.extract rfl rfl rfl) ?_
    refine .v rfl rfl (OpL.extract rfl rfl rfl) ?_
    refine .v rfl rfl (OpL.move (.inr rfl) rfl) ?_
    refine .v rfl rfl (OpL.move (.inr rfl) rfl) ?_
    refine .nil ?_
    refine W.seq ?_
    refine W.pk ?_
    refine .v rfl rfl (OpL.move (.inl rfl) rfl) ?_
    refine .v rfl rfl (OpL.move (.inr rfl) rfl) ?_
    refine .nil ?_
    refine W.ret ?_
    cases h
    exact leaves (.inr rfl) rfl (.imm _) (cN .nil) rfl rfl

noncomputable def lombardref25_due.b0 (x0 : lombardref25_Covered) (x3 : Bool) (v23 : Int) (v24 : List api_Lot) : Option ((Int × (List api_Lot)) ⊕ (List api_Lot)) :=
  if (decide (v23 < (List.length x0.Lots : Int))) = true then
    if (0 : Int) ≤ v23 ∧ v23 < (List.length x0.Lots : Int) then
    ((
      if x3 = true then
        some (IntKind.wrap .i64 (0 - ((nth x0.Lots v23).Qty)))
      else
        some ((nth x0.Lots v23).Qty) : Option (Int))).bind fun o49 =>
    if (List.length v24 + List.length [(⟨(nth x0.Lots v23).ISIN, o49⟩ : api_Lot)]) * 24 ≤ 140737488355328 then
    some (.inl ((IntKind.wrap .i64 (v23 + 1)), (v24 ++ [(⟨(nth x0.Lots v23).ISIN, o49⟩ : api_Lot)])))
    else none
    else none
  else
    some (.inr v24)
noncomputable def lombardref25_due.r0 (x0 : lombardref25_Covered) (x3 : Bool) (s : Int × (List api_Lot)) : Option ((Int × (List api_Lot)) ⊕ (List api_Lot)) := lombardref25_due.b0 x0 x3 s.1 s.2
noncomputable def lombardref25_due.f (x0 : lombardref25_Covered) (x1 : Int) (x2 : Int) (x3 : Bool) : Option (api_Leg) :=
  ((
    if (!x3) = true then
      some (IntKind.wrap .i64 (0 - x2))
    else
      some x2 : Option (Int))).bind fun o3 =>
  (loop (lombardref25_due.r0 x0 x3) (0, [])).bind fun o42 =>
  some (⟨x1, x0.Trade.Member, x0.Trade.ID, o3, o42⟩ : api_Leg)
set_option maxRecDepth 100000 in
set_option maxHeartbeats 4000000 in
theorem lombardref25_due.ok {x0 : lombardref25_Covered} {x1 : Int} {x2 : Int} {x3 : Bool} {r : api_Leg} (h : lombardref25_due.f x0 x1 x2 x3 = some r) : Pm.Spec prog 31 [.agg [.imm (.val (.int .i64 x0.Trade.ID)), .imm (.val (.int .i64 x0.Trade.Twin)), .imm (.val (.int .i64 x0.Trade.Member)), .imm (.val (.int .i64 x0.Trade.Side)), .imm (.val (.int .i64 x0.Trade.Basket)), .imm (.val (.int .i64 x0.Trade.Amount)), .imm (.val (.int .i64 x0.Trade.Start)), .imm (.val (.int .i64 x0.Trade.End)), .imm (.row 2 (List.map api_Reset.enc x0.Trade.Resets)), .imm (.val (.int .i64 x0.Trade.Stage)), .imm (.val (.bool x0.Trade.Short)), .imm (.row 2 (List.map api_Lot.enc x0.Lots))], .imm (.val (.int .i64 x1)), .imm (.val (.int .i64 x2)), .imm (.val (.bool x3))] (.agg [.imm (.val (.int .i64 r.Day)), .imm (.val (.int .i64 r.Member)), .imm (.val (.int .i64 r.Trade)), .imm (.val (.int .i64 r.Cash)), .imm (.row 2 (List.map api_Lot.enc r.Lots))]) [none, none, none, none] := by
  unfold lombardref25_due.f at h
  refine Pm.Spec.of_body Try.func31 rfl (by kernel_rfl) (Nat.le_of_ble_eq_true rfl) (Nat.le_of_ble_eq_true rfl) ?_
  refine W.ghost (σ' := (mkSt [(0, some (.agg [.imm (.val (.int .i64 x0.Trade.ID)), .imm (.val (.int .i64 x0.Trade.Twin)), .imm (.val (.int .i64 x0.Trade.Member)), .imm (.val (.int .i64 x0.Trade.Side)), .imm (.val (.int .i64 x0.Trade.Basket)), .imm (.val (.int .i64 x0.Trade.Amount)), .imm (.val (.int .i64 x0.Trade.Start)), .imm (.val (.int .i64 x0.Trade.End)), .imm (.row 2 (List.map api_Reset.enc x0.Trade.Resets)), .imm (.val (.int .i64 x0.Trade.Stage)), .imm (.val (.bool x0.Trade.Short)), .imm (.row 2 (List.map api_Lot.enc x0.Lots))])), (1, some (.imm (.val (.int .i64 x1)))), (2, some (.imm (.val (.int .i64 x2)))), (3, some (.imm (.val (.bool x3))))] [] 1000)) (Gives.entry (.c rfl (.c rfl (.c rfl (.c rfl .n)))) .n) ?_
  refine W.seq ?_
  refine W.pk ?_
  refine .t rfl rfl (O.box rfl rfl rfl rfl rfl) ?_
  refine .t rfl rfl (O.alloc z31 rfl) ?_
  refine .nil ?_
  refine W.seq ?_
  refine W.pk ?_
  refine .v rfl rfl (OpL.move (.inl rfl) rfl) ?_
  refine .v rfl rfl (O.fld fld27_0 rfl rfl rfl) ?_
  refine .v rfl rfl (O.fld fld24_2 rfl rfl rfl) ?_
  refine .v rfl rfl (O.ld ty3 rfl rfl rfl) ?_
  refine .v rfl rfl (O.fld fld27_0 rfl rfl rfl) ?_
  refine .v rfl rfl (O.fld fld24_0 rfl rfl rfl) ?_
  refine .v rfl rfl (O.ld ty3 rfl rfl rfl) ?_
  refine .v rfl rfl (OpL.move (.inl rfl) rfl) ?_
  refine .v rfl rfl (O.build (out := [.imm (.val (.int .i64 x1)), .imm (.val (.int .i64 x0.Trade.Member)), .imm (.val (.int .i64 x0.Trade.ID)), .imm (.val (.int .i64 x2)), .imm (.val (.slice none 0 0))]) bl31 rfl rfl rfl rfl rfl) ?_
  refine .t rfl rfl (O.alloc z31 rfl) ?_
  refine .s rfl rfl (O.st ty31 rfl rfl rfl rfl rfl rfl rfl rfl rfl rfl (all' := [.imm (.val (.int .i64 x1)), .imm (.val (.int .i64 x0.Trade.Member)), .imm (.val (.int .i64 x0.Trade.ID)), .imm (.val (.int .i64 x2)), .imm (.val (.slice none 0 0))]) rfl) ?_
  refine .nil ?_
  refine W.seq ?_
  refine W.seq ?_
  refine W.pk ?_
  refine .v rfl rfl (OpL.move (.inl rfl) rfl) ?_
  refine .v rfl rfl (OpL.unV rfl rfl rfl) ?_
  refine .nil ?_
  obtain ⟨o3, b4, h⟩ := bnd1 h
  refine W.fork (mkSt [(3, some (.imm (.val (.bool x3)))), (4, some (.ptr 1000 0)), (8, some (.ptr 1001 0)), (9, some (.ptr 1002 0))] [(1000, some (.box [.imm (.val (.int .i64 x0.Trade.ID)), .imm (.val (.int .i64 x0.Trade.Twin)), .imm (.val (.int .i64 x0.Trade.Member)), .imm (.val (.int .i64 x0.Trade.Side)), .imm (.val (.int .i64 x0.Trade.Basket)), .imm (.val (.int .i64 x0.Trade.Amount)), .imm (.val (.int .i64 x0.Trade.Start)), .imm (.val (.int .i64 x0.Trade.End)), .imm (.row 2 (List.map api_Reset.enc x0.Trade.Resets)), .imm (.val (.int .i64 x0.Trade.Stage)), .imm (.val (.bool x0.Trade.Short)), .imm (.row 2 (List.map api_Lot.enc x0.Lots))])), (1001, some (.box [.imm (.val (.int .i64 0)), .imm (.val (.int .i64 0)), .imm (.val (.int .i64 0)), .imm (.val (.int .i64 0)), .imm (.val (.slice none 0 0))])), (1002, some (.box [.imm (.val (.int .i64 x1)), .imm (.val (.int .i64 x0.Trade.Member)), .imm (.val (.int .i64 x0.Trade.ID)), .imm (.val (.int .i64 o3)), .imm (.val (.slice none 0 0))]))] 1003) ?_ ?_
  · refine W.seq ?_
    refine W.seq ?_
    refine W.pk ?_
    refine .v rfl rfl (OpL.move (.inr rfl) rfl) ?_
    refine .nil ?_
    refine W.ghost (Gives.mintB 1002 4 44 2 rfl rfl) ?_
    obtain ⟨o42, b43, h⟩ := bnd1 h
    refine W.fork (mkSt [(8, some (.ptr 1001 0)), (9, some (.ptr 1002 0))] [(1001, some (.box [.imm (.val (.int .i64 0)), .imm (.val (.int .i64 0)), .imm (.val (.int .i64 0)), .imm (.val (.int .i64 0)), .imm (.val (.slice none 0 0))])), (1002, some (.box [.imm (.val (.int .i64 x1)), .imm (.val (.int .i64 x0.Trade.Member)), .imm (.val (.int .i64 x0.Trade.ID)), .imm (.val (.int .i64 o3)), .own 1003])), (1003, some (.rows 44 2 (List.map api_Lot.enc o42) false))] 1004) ?_ ?_
    · refine W.seq ?_
      refine W.pk ?_
      refine .v rfl rfl (O.ldN ty31 rfl rfl rfl) ?_
      refine .s rfl rfl (O.st ty31 rfl rfl rfl rfl rfl rfl rfl rfl rfl rfl (all' := [.imm (.val (.int .i64 x1)), .imm (.val (.int .i64 x0.Trade.Member)), .imm (.val (.int .i64 x0.Trade.ID)), .imm (.val (.int .i64 o3)), .own 1003]) rfl) ?_
      refine .nil ?_
      refine W.ret ?_
      cases h
      exact leaves (.inr rfl) rfl (.agg _ _ _ _ (cC (.imm _) (cC (.imm _) (cC (.imm _) (cC (.imm _) (cC (.lend _ _ _ _ _ rfl) .nil)))))) (cN (cN (cN (cN .nil)))) rfl rfl
    · clear h
      refine W.block ?_
      refine W.loopF (fun (s_ : Int × (List api_Lot)) => mkSt [(3, some (.imm (.val (.bool x3)))), (4, some (.ptr 1000 0)), (8, some (.ptr 1001 0)), (9, some (.ptr 1002 0)), (10, some (.imm (.val (.int .i64 s_.1))))] [(1000, some (.box [.imm (.val (.int .i64 x0.Trade.ID)), .imm (.val (.int .i64 x0.Trade.Twin)), .imm (.val (.int .i64 x0.Trade.Member)), .imm (.val (.int .i64 x0.Trade.Side)), .imm (.val (.int .i64 x0.Trade.Basket)), .imm (.val (.int .i64 x0.Trade.Amount)), .imm (.val (.int .i64 x0.Trade.Start)), .imm (.val (.int .i64 x0.Trade.End)), .imm (.row 2 (List.map api_Reset.enc x0.Trade.Resets)), .imm (.val (.int .i64 x0.Trade.Stage)), .imm (.val (.bool x0.Trade.Short)), .imm (.row 2 (List.map api_Lot.enc x0.Lots))])), (1001, some (.box [.imm (.val (.int .i64 0)), .imm (.val (.int .i64 0)), .imm (.val (.int .i64 0)), .imm (.val (.int .i64 0)), .imm (.val (.slice none 0 0))])), (1002, some (.box [.imm (.val (.int .i64 x1)), .imm (.val (.int .i64 x0.Trade.Member)), .imm (.val (.int .i64 x0.Trade.ID)), .imm (.val (.int .i64 o3)), .own 1003])), (1003, some (.rows 44 2 (List.map api_Lot.enc s_.2) false))] 1004) b43 (Gives.mkR [] (.c rfl (.rfl _) rfl (.c rfl (.rfl _) rfl (.c rfl (.rfl _) rfl (.c rfl (.rfl _) rfl (.c rfl (.rfl _) rfl .n))))) (.c rfl (.rfl _) rfl rfl (.c rfl (.rfl _) rfl rfl (.c rfl (.rfl _) rfl rfl (.c rfl (.rfl _) rfl rfl .n)))) rfl rfl rfl) ?_
      rintro ⟨v23, v24⟩ s_ hr
      have h : lombardref25_due.b0 x0 x3 v23 v24 = some s_ := hr
      unfold lombardref25_due.b0 at h
      refine W.seq ?_
      refine W.seq ?_
      refine W.pk ?_
      refine .v rfl rfl (OpL.move (.inl rfl) rfl) ?_
      refine .v rfl rfl (O.fld fld27_1 rfl rfl rfl) ?_
      refine .v rfl rfl (O.ld ty25 rfl rfl rfl) ?_
      refine .v rfl rfl (O.lenR sl25 rfl rfl) ?_
      refine .v rfl rfl (OpL.binI rfl rfl rfl rfl) ?_
      refine .nil ?_
      refine W.cond rfl (fun q45 => ?_) (fun q45 => ?_)
      · have h := ifT q45 h
        refine W.skip ?_
        refine W.seq ?_
        refine W.block ?_
        refine W.seq ?_
        obtain ⟨c46, h⟩ := chk h
        refine W.pk ?_
        refine .v rfl rfl (O.fld fld27_1 rfl rfl rfl) ?_
        refine .v rfl rfl (O.ld ty25 rfl rfl rfl) ?_
        refine .v rfl rfl (OpL.move (.inl rfl) rfl) ?_
        refine .v rfl rfl (O.idx sl25 c46 rfl rfl rfl) ?_
        refine .v rfl rfl (O.ldN ty44 rfl rfl rfl) ?_
        refine .t rfl rfl (O.alloc z44 rfl) ?_
        refine .s rfl rfl (O.st ty44 rfl rfl rfl rfl rfl rfl rfl rfl rfl rfl (all' := [.imm (.val (.string (tx ((nth x0.Lots v23).ISIN)))), .imm (.val (.int .i64 ((nth x0.Lots v23).Qty)))]) rfl) ?_
        refine .nil ?_
        refine W.seq ?_
        refine W.seq ?_
        refine W.pk ?_
        refine .v rfl rfl (OpL.move (.inl rfl) rfl) ?_
        refine .nil ?_
        obtain ⟨o49, b50, h⟩ := bnd1 h
        refine W.fork (mkSt [(3, some (.imm (.val (.bool x3)))), (4, some (.ptr 1000 0)), (8, some (.ptr 1001 0)), (9, some (.ptr 1002 0)), (10, some (.imm (.val (.int .i64 v23)))), (11, some (.ptr 1004 0))] [(1000, some (.box [.imm (.val (.int .i64 x0.Trade.ID)), .imm (.val (.int .i64 x0.Trade.Twin)), .imm (.val (.int .i64 x0.Trade.Member)), .imm (.val (.int .i64 x0.Trade.Side)), .imm (.val (.int .i64 x0.Trade.Basket)), .imm (.val (.int .i64 x0.Trade.Amount)), .imm (.val (.int .i64 x0.Trade.Start)), .imm (.val (.int .i64 x0.Trade.End)), .imm (.row 2 (List.map api_Reset.enc x0.Trade.Resets)), .imm (.val (.int .i64 x0.Trade.Stage)), .imm (.val (.bool x0.Trade.Short)), .imm (.row 2 (List.map api_Lot.enc x0.Lots))])), (1001, some (.box [.imm (.val (.int .i64 0)), .imm (.val (.int .i64 0)), .imm (.val (.int .i64 0)), .imm (.val (.int .i64 0)), .imm (.val (.slice none 0 0))])), (1002, some (.box [.imm (.val (.int .i64 x1)), .imm (.val (.int .i64 x0.Trade.Member)), .imm (.val (.int .i64 x0.Trade.ID)), .imm (.val (.int .i64 o3)), .own 1003])), (1003, some (.rows 44 2 (List.map api_Lot.enc v24) false)), (1004, some (.box [.imm (.val (.string (tx ((nth x0.Lots v23).ISIN)))), .imm (.val (.int .i64 o49))]))] 1005) ?_ ?_
        · obtain ⟨c52, h⟩ := chk h
          refine W.pk ?_
          refine .v rfl rfl (O.fld fld31_4 rfl rfl rfl) ?_
          refine .v rfl rfl (O.ld ty25 rfl rfl rfl) ?_
          refine .v rfl rfl (O.ldN ty44 rfl rfl rfl) ?_
          refine .t rfl rfl (O.lit (enc := api_Lot.enc) (l := [(⟨(nth x0.Lots v23).ISIN, o49⟩ : api_Lot)]) sl25 rfl rfl rfl rfl rfl rfl rfl rfl rfl) ?_
          refine .t rfl rfl (O.appO sl25 api_Lot.ok c52 rfl rfl rfl rfl rfl) ?_
          refine .v rfl rfl (O.fld fld31_4 rfl rfl rfl) ?_
          refine .s rfl rfl (O.st ty25 rfl rfl rfl rfl rfl rfl rfl rfl rfl rfl (all' := [.imm (.val (.int .i64 x1)), .imm (.val (.int .i64 x0.Trade.Member)), .imm (.val (.int .i64 x0.Trade.ID)), .imm (.val (.int .i64 o3)), .own 1006]) rfl) ?_
          refine .nil ?_
          refine W.pk ?_
          refine .v rfl rfl (OpL.move (.inl rfl) rfl) ?_
          refine .v rfl rfl (OpL.binI rfl rfl rfl rfl) ?_
          refine .v rfl rfl (OpL.move (.inr rfl) rfl) ?_
          refine .nil ?_
          cases h
          exact rdN (Gives.mkR [(1003, 1006)] (.c rfl (.rfl _) rfl (.c rfl (.rfl _) rfl (.c rfl (.rfl _) rfl (.c rfl (.rfl _) rfl (.c rfl (.rfl _) rfl .n))))) (.c rfl (.rfl _) rfl rfl (.c rfl (.rfl _) rfl rfl (.c rfl (.rfl _) rfl rfl (.c rfl (.rfl _) rfl rfl .n)))) rfl rfl rfl)
        · clear h
          have h := b50
          refine W.cond rfl (fun q51 => ?_) (fun q51 => ?_)
          · have h := ifT q51 h
            refine W.pk ?_
            refine .v rfl rfl (O.fld fld44_1 rfl rfl rfl) ?_
            refine .v rfl rfl (O.ld ty3 rfl rfl rfl) ?_
            refine .v rfl rfl (OpL.binI rfl rfl rfl rfl) ?_
            refine .v rfl rfl (O.fld fld44_1 rfl rfl rfl) ?_
            refine .s rfl rfl (O.st ty3 rfl rfl rfl rfl rfl rfl rfl rfl rfl rfl (all' := [.imm (.val (.string (tx ((nth x0.Lots v23).ISIN)))), .imm (.val (.int .i64 (IntKind.wrap .i64 (0 - ((nth x0.Lots v23).Qty)))))]) rfl) ?_
            refine .nil ?_
            cases h
            exact toN (Gives.mkR [] (.c rfl (.rfl _) rfl (.c rfl (.rfl _) rfl (.c rfl (.rfl _) rfl (.c rfl (.rfl _) rfl (.c rfl (.rfl _) rfl (.c rfl (.rfl _) rfl .n)))))) (.c rfl (.rfl _) rfl rfl (.c rfl (.rfl _) rfl rfl (.c rfl (.rfl _) rfl rfl (.c rfl (.rfl _) rfl rfl (.c rfl (.rfl _) rfl rfl .n))))) rfl rfl rfl)
          · have h := ifF q51 h
            refine W.skip ?_
            cases h
            exact toN (Gives.mkR [] (.c rfl (.rfl _) rfl (.c rfl (.rfl _) rfl (.c rfl (.rfl _) rfl (.c rfl (.rfl _) rfl (.c rfl (.rfl _) rfl (.c rfl (.rfl _) rfl .n)))))) (.c rfl (.rfl _) rfl rfl (.c rfl (.rfl _) rfl rfl (.c rfl (.rfl _) rfl rfl (.c rfl (.rfl _) rfl rfl (.c rfl (.rfl _) rfl rfl .n))))) rfl rfl rfl)
      · have h := ifF q45 h
        refine W.exit ?_
        cases h
        refine rdX fun e_ => ?_
        subst e_
        refine hit ?_
        exact toN (Gives.mkR [] (.c rfl (.rfl _) rfl (.c rfl (.rfl _) rfl .n)) (.c rfl (.rfl _) rfl rfl (.c rfl (.rfl _) rfl rfl (.c rfl (.rfl _) rfl rfl .n))) rfl rfl rfl)
  · clear h
    have h := b4
    refine W.cond rfl (fun q5 => ?_) (fun q5 => ?_)
    · have h := ifT q5 h
      refine W.pk ?_
      refine .v rfl rfl (OpL.move (.inl rfl) rfl) ?_
      refine .v rfl rfl (OpL.binI rfl rfl rfl rfl) ?_
      refine .v rfl rfl (O.fld fld31_3 rfl rfl rfl) ?_
      refine .s rfl rfl (O.st ty3 rfl rfl rfl rfl rfl rfl rfl rfl rfl rfl (all' := [.imm (.val (.int .i64 x1)), .imm (.val (.int .i64 x0.Trade.Member)), .imm (.val (.int .i64 x0.Trade.ID)), .imm (.val (.int .i64 (IntKind.wrap .i64 (0 - x2)))), .imm (.val (.slice none 0 0))]) rfl) ?_
      refine .nil ?_
      cases h
      exact toN (Gives.mkR [] (.c rfl (.rfl _) rfl (.c rfl (.rfl _) rfl (.c rfl (.rfl _) rfl (.c rfl (.rfl _) rfl .n)))) (.c rfl (.rfl _) rfl rfl (.c rfl (.rfl _) rfl rfl (.c rfl (.rfl _) rfl rfl .n))) rfl rfl rfl)
    · have h := ifF q5 h
      refine W.skip ?_
      cases h
      exact toN (Gives.mkR [] (.c rfl (.rfl _) rfl (.c rfl (.rfl _) rfl (.c rfl (.rfl _) rfl (.c rfl (.rfl _) rfl .n)))) (.c rfl (.rfl _) rfl rfl (.c rfl (.rfl _) rfl rfl (.c rfl (.rfl _) rfl rfl .n))) rfl rfl rfl)

noncomputable def lombardref25_Begin.f (x0 : lombardref25_Covered) : Option (api_Leg × Int) :=
  (lombardref25_wrong.f x0).bind fun t1 =>
  if (t1 != 0) = true then
    (lombardref25_wrong.f x0).bind fun t4 =>
    some ((⟨0, 0, 0, 0, []⟩ : api_Leg), t4)
  else
    (lombardref25_due.f x0 x0.Trade.Start x0.Trade.Amount (x0.Trade.Side == 1)).bind fun t6 =>
    some (t6, 0)
set_option maxRecDepth 100000 in
set_option maxHeartbeats 4000000 in
theorem lombardref25_Begin.ok {x0 : lombardref25_Covered} {r : api_Leg × Int} (h : lombardref25_Begin.f x0 = some r) : Pm.Spec prog 12 [.agg [.imm (.val (.int .i64 x0.Trade.ID)), .imm (.val (.int .i64 x0.Trade.Twin)), .imm (.val (.int .i64 x0.Trade.Member)), .imm (.val (.int .i64 x0.Trade.Side)), .imm (.val (.int .i64 x0.Trade.Basket)), .imm (.val (.int .i64 x0.Trade.Amount)), .imm (.val (.int .i64 x0.Trade.Start)), .imm (.val (.int .i64 x0.Trade.End)), .imm (.row 2 (List.map api_Reset.enc x0.Trade.Resets)), .imm (.val (.int .i64 x0.Trade.Stage)), .imm (.val (.bool x0.Trade.Short)), .imm (.row 2 (List.map api_Lot.enc x0.Lots))]] (.tup [.agg [.imm (.val (.int .i64 r.1.Day)), .imm (.val (.int .i64 r.1.Member)), .imm (.val (.int .i64 r.1.Trade)), .imm (.val (.int .i64 r.1.Cash)), .imm (.row 2 (List.map api_Lot.enc r.1.Lots))], .imm (.val (.int .i64 r.2))]) [none] := by
  unfold lombardref25_Begin.f at h
  refine Pm.Spec.of_body Try.func12 rfl (by kernel_rfl) (Nat.le_of_ble_eq_true rfl) (Nat.le_of_ble_eq_true rfl) ?_
  refine W.ghost (σ' := (mkSt [(0, some (.agg [.imm (.val (.int .i64 x0.Trade.ID)), .imm (.val (.int .i64 x0.Trade.Twin)), .imm (.val (.int .i64 x0.Trade.Member)), .imm (.val (.int .i64 x0.Trade.Side)), .imm (.val (.int .i64 x0.Trade.Basket)), .imm (.val (.int .i64 x0.Trade.Amount)), .imm (.val (.int .i64 x0.Trade.Start)), .imm (.val (.int .i64 x0.Trade.End)), .imm (.row 2 (List.map api_Reset.enc x0.Trade.Resets)), .imm (.val (.int .i64 x0.Trade.Stage)), .imm (.val (.bool x0.Trade.Short)), .imm (.row 2 (List.map api_Lot.enc x0.Lots))]))] [] 1000)) (Gives.entry (.c rfl .n) .n) ?_
  refine W.seq ?_
  refine W.pk ?_
  refine .t rfl rfl (O.box rfl rfl rfl rfl rfl) ?_
  refine .t rfl rfl (O.alloc z31 rfl) ?_
  refine .v rfl rfl (OpL.move (.inr rfl) rfl) ?_
  refine .nil ?_
  refine W.seq ?_
  refine W.seq ?_
  obtain ⟨t1, b2, h⟩ := bnd1 h
  refine W.pk ?_
  refine .v rfl rfl (O.ldN ty27 rfl rfl rfl) ?_
  refine .call (.imm (.val (.int .i64 t1))) [] 0 (lombardref25_wrong.ok b2) rfl rfl rfl ca30 rfl rfl (cC (.agg _ _ _ _ (cC (.imm _) (cC (.imm _) (cC (.imm _) (cC (.imm _) (cC (.imm _) (cC (.imm _) (cC (.imm _) (cC (.imm _) (cC (.imm _) (cC (.imm _) (cC (.imm _) (cC (.imm _) .nil))))))))))))) .nil) rfl rfl rfl rfl rfl ?_
  refine .v rfl rfl (OpL.binI rfl rfl rfl rfl) ?_
  refine .nil ?_
  refine W.cond rfl (fun q3 => ?_) (fun q3 => ?_)
  · have h := ifT q3 h
    refine W.seq ?_
    obtain ⟨t4, b5, h⟩ := bnd1 h
    refine W.pk ?_
    refine .v rfl rfl (O.build (out := [.imm (.val (.int .i64 0)), .imm (.val (.int .i64 0)), .imm (.val (.int .i64 0)), .imm (.val (.int .i64 0)), .imm (.val (.slice none 0 0))]) bl31 rfl rfl rfl rfl rfl) ?_
    refine .v rfl rfl (O.ldN ty27 rfl rfl rfl) ?_
    refine .call (.imm (.val (.int .i64 t4))) [] 0 (lombardref25_wrong.ok b5) rfl rfl rfl ca30 rfl rfl (cC (.agg _ _ _ _ (cC (.imm _) (cC (.imm _) (cC (.imm _) (cC (.imm _) (cC (.imm _) (cC (.imm _) (cC (.imm _) (cC (.imm _) (cC (.imm _) (cC (.imm _) (cC (.imm _) (cC (.imm _) .nil))))))))))))) .nil) rfl rfl rfl rfl rfl ?_
    refine .s rfl rfl (O.st ty31 rfl rfl rfl rfl rfl rfl rfl rfl rfl rfl (all' := [.imm (.val (.int .i64 0)), .imm (.val (.int .i64 0)), .imm (.val (.int .i64 0)), .imm (.val (.int .i64 0)), .imm (.val (.slice none 0 0))]) rfl) ?_
    refine .v rfl rfl (OpL.move (.inr rfl) rfl) ?_
    refine .nil ?_
    refine W.ret ?_
    cases h
    exact leaves (.inr rfl) rfl (.tup _ _ _ _ (cC (.agg _ _ _ _ (cC (.imm _) (cC (.imm _) (cC (.imm _) (cC (.imm _) (cC (.nilrow _) .nil)))))) (cC (.imm _) .nil))) (cN .nil) rfl rfl
  · have h := ifF q3 h
    refine W.skip ?_
    refine W.seq ?_
    obtain ⟨t6, b7, h⟩ := bnd1 h
    refine W.pk ?_
    refine .v rfl rfl (O.ldN ty27 rfl rfl rfl) ?_
    refine .v rfl rfl (O.fld fld27_0 rfl rfl rfl) ?_
    refine .v rfl rfl (O.fld fld24_6 rfl rfl rfl) ?_
    refine .v rfl rfl (O.ld ty3 rfl rfl rfl) ?_
    refine .v rfl rfl (O.fld fld27_0 rfl rfl rfl) ?_
    refine .v rfl rfl (O.fld fld24_5 rfl rfl rfl) ?_
    refine .v rfl rfl (O.ld ty3 rfl rfl rfl) ?_
    refine .v rfl rfl (O.fld fld27_0 rfl rfl rfl) ?_
    refine .v rfl rfl (O.fld fld24_3 rfl rfl rfl) ?_
    refine .v rfl rfl (O.ld ty3 rfl rfl rfl) ?_
    refine .v rfl rfl (OpL.binI rfl rfl rfl rfl) ?_
    refine .call (.agg [.imm (.val (.int .i64 t6.Day)), .imm (.val (.int .i64 t6.Member)), .imm (.val (.int .i64 t6.Trade)), .imm (.val (.int .i64 t6.Cash)), .imm (.row 2 (List.map api_Lot.enc t6.Lots))]) [] 0 (lombardref25_due.ok b7) rfl rfl rfl ca31 rfl rfl (cC (.agg _ _ _ _ (cC (.imm _) (cC (.imm _) (cC (.imm _) (cC (.imm _) (cC (.imm _) (cC (.imm _) (cC (.imm _) (cC (.imm _) (cC (.imm _) (cC (.imm _) (cC (.imm _) (cC (.imm _) .nil))))))))))))) (cC (.imm _) (cC (.imm _) (cC (.imm _) .nil)))) rfl rfl rfl rfl rfl ?_
    refine .s rfl rfl (O.st ty31 rfl rfl rfl rfl rfl rfl rfl rfl rfl rfl (all' := [.imm (.val (.int .i64 t6.Day)), .imm (.val (.int .i64 t6.Member)), .imm (.val (.int .i64 t6.Trade)), .imm (.val (.int .i64 t6.Cash)), .imm (.row 2 (List.map api_Lot.enc t6.Lots))]) rfl) ?_
    refine .v rfl rfl (OpL.move (.inr rfl) rfl) ?_
    refine .nil ?_
    refine W.ret ?_
    cases h
    exact leaves (.inr rfl) rfl (.tup _ _ _ _ (cC (.agg _ _ _ _ (cC (.imm _) (cC (.imm _) (cC (.imm _) (cC (.imm _) (cC (.imm _) .nil)))))) (cC (.imm _) .nil))) (cN .nil) rfl rfl

noncomputable def lombardref03_Amount.f (x0 : Int) : Option (Bool) :=
  some ((decide (x0 ≥ 0)) && (decide (x0 ≤ 1125899906842624)))
set_option maxRecDepth 100000 in
set_option maxHeartbeats 4000000 in
theorem lombardref03_Amount.ok {x0 : Int} {r : Bool} (h : lombardref03_Amount.f x0 = some r) : Pm.Spec prog 57 [.imm (.val (.int .i64 x0))] (.imm (.val (.bool r))) [none] := by
  unfold lombardref03_Amount.f at h
  refine Pm.Spec.of_body Try.func57 rfl (by kernel_rfl) (Nat.le_of_ble_eq_true rfl) (Nat.le_of_ble_eq_true rfl) ?_
  refine W.ghost (σ' := (mkSt [(0, some (.imm (.val (.int .i64 x0))))] [] 1000)) (Gives.entry (.c rfl .n) .n) ?_
  refine W.seq ?_
  refine W.pk ?_
  refine .v rfl rfl (OpL.move (.inr rfl) rfl) ?_
  refine .nil ?_
  refine W.seq ?_
  refine W.fork (mkSt [(2, some (.imm (.val (.bool ((decide (x0 ≥ 0)) && (decide (x0 ≤ 1125899906842624)))))))] [] 1000) ?_ ?_
  · refine W.ret ?_
    cases h
    exact leaves (.inr rfl) rfl (.imm _) (cN .nil) rfl rfl
  · clear h
    rcases tf (decide (x0 ≥ 0)) with g1 | g1
    · refine W.pk ?_
      refine .v rfl rfl (OpL.move (.inl rfl) rfl) ?_
      refine .v rfl rfl (OpL.binI rfl rfl rfl rfl) ?_
      refine .v rfl rfl (OpL.move (.inl rfl) rfl) ?_
      refine .v rfl (met rfl rfl rfl g1) (OpL.move (.inl rfl) rfl) ?_
      refine .v rfl (met rfl rfl rfl g1) (OpL.binI rfl rfl rfl rfl) ?_
      refine .v rfl rfl (O.pickT g1 rfl rfl rfl) ?_
      refine .v rfl rfl (OpL.move (.inr rfl) rfl) ?_
      refine .nil ?_
      exact toN (Gives.mkR [] (.c rfl (sbb (by simp only [g1, Bool.true_or, Bool.or_true, Bool.false_or, Bool.or_false, Bool.true_and, Bool.and_true, Bool.false_and, Bool.and_false, Bool.not_true, Bool.not_false, cond_true, cond_false])) rfl .n) .n rfl rfl rfl)
    · refine W.pk ?_
      refine .v rfl rfl (OpL.move (.inl rfl) rfl) ?_
      refine .v rfl rfl (OpL.binI rfl rfl rfl rfl) ?_
      refine .v rfl rfl (OpL.move (.inl rfl) rfl) ?_
      refine .x rfl (unmet rfl rfl rfl g1) ?_
      refine .x rfl (unmet rfl rfl rfl g1) ?_
      refine .v rfl rfl (O.pickF g1 rfl rfl rfl) ?_
      refine .v rfl rfl (OpL.move (.inr rfl) rfl) ?_
      refine .nil ?_
      exact toN (Gives.mkR [] (.c rfl (sbb (by simp only [g1, Bool.true_or, Bool.or_true, Bool.false_or, Bool.or_false, Bool.true_and, Bool.and_true, Bool.false_and, Bool.and_false, Bool.not_true, Bool.not_false, cond_true, cond_false])) rfl .n) .n rfl rfl rfl)

noncomputable def lombardref01_Of.b0  (v6 : Int) (v7 : List Int) : Option ((Int × (List Int)) ⊕ (List Int)) :=
  if (decide (v6 > 0)) = true then
    if (List.length v7 + List.length [(Int.tmod v6 65536)]) * 8 ≤ 140737488355328 then
    some (.inl ((IntKind.wrap .u64 (Int.tdiv v6 65536)), (v7 ++ [(Int.tmod v6 65536)])))
    else none
  else
    some (.inr v7)
noncomputable def lombardref01_Of.r0  (s : Int × (List Int)) : Option ((Int × (List Int)) ⊕ (List Int)) := lombardref01_Of.b0  s.1 s.2
noncomputable def lombardref01_Of.f (x0 : Int) : Option (List Int) :=
  (loop lombardref01_Of.r0 (x0, [])).bind fun o13 =>
  some o13
set_option maxRecDepth 100000 in
set_option maxHeartbeats 4000000 in
theorem lombardref01_Of.ok {x0 : Int} {r : List Int} (h : lombardref01_Of.f x0 = some r) : Pm.Spec prog 75 [.imm (.val (.int .u64 x0))] (.xown 102 1 (List.map (encI .u64) r)) [none] := by
  unfold lombardref01_Of.f at h
  refine Pm.Spec.of_body Try.func75 rfl (by kernel_rfl) (Nat.le_of_ble_eq_true rfl) (Nat.le_of_ble_eq_true rfl) ?_
  refine W.ghost (σ' := (mkSt [(0, some (.imm (.val (.int .u64 x0))))] [] 1000)) (Gives.entry (.c rfl .n) .n) ?_
  refine W.seq ?_
  refine W.pk ?_
  refine .v rfl rfl (OpL.move (.inr rfl) rfl) ?_
  refine .nil ?_
  refine W.seq ?_
  refine W.pk ?_
  refine .v rfl rfl (OpL.move (.inr rfl) rfl) ?_
  refine .nil ?_
  refine W.seq ?_
  refine W.ghost (Gives.mintS 3 102 1 rfl) ?_
  obtain ⟨o13, b14, h⟩ := bnd1 h
  refine W.fork (mkSt [(3, some (.own 1000))] [(1000, some (.rows 102 1 (List.map (encI .u64) o13) false))] 1001) ?_ ?_
  · refine W.seq ?_
    refine W.pk ?_
    refine .v rfl rfl (OpL.move (.inl rfl) rfl) ?_
    refine .v rfl rfl (OpL.move (.inr rfl) rfl) ?_
    refine .nil ?_
    refine W.ret ?_
    cases h
    exact leaves (.inr rfl) rfl (.own _ _ _ _ rfl) (cN .nil) rfl rfl
  · clear h
    refine W.block ?_
    refine W.loopF (fun (s_ : Int × (List Int)) => mkSt [(0, some (.imm (.val (.int .u64 s_.1)))), (3, some (.own 1000))] [(1000, some (.rows 102 1 (List.map (encI .u64) s_.2) false))] 1001) b14 (Gives.mkR [] (.c rfl (.rfl _) rfl (.c rfl (.rfl _) rfl .n)) (.c rfl (.rfl _) rfl rfl .n) rfl rfl rfl) ?_
    rintro ⟨v6, v7⟩ s_ hr
    have h : lombardref01_Of.b0  v6 v7 = some s_ := hr
    unfold lombardref01_Of.b0 at h
    refine W.seq ?_
    refine W.seq ?_
    refine W.pk ?_
    refine .v rfl rfl (OpL.move (.inl rfl) rfl) ?_
    refine .v rfl rfl (OpL.binI rfl rfl rfl rfl) ?_
    refine .nil ?_
    refine W.cond rfl (fun q16 => ?_) (fun q16 => ?_)
    · have h := ifT q16 h
      refine W.skip ?_
      refine W.block ?_
      refine W.seq ?_
      obtain ⟨c17, h⟩ := chk h
      refine W.pk ?_
      refine .v rfl rfl (OpL.move (.inl rfl) rfl) ?_
      refine .v rfl rfl (OpL.move (.inl rfl) rfl) ?_
      refine .v rfl rfl (O.rem rfl rfl rfl (by decide)) ?_
      refine .t rfl rfl (O.lit (enc := (encI .u64)) (l := [(Int.tmod v6 65536)]) sl96 rfl rfl rfl rfl rfl rfl rfl rfl rfl) ?_
      refine .t rfl rfl (O.appO sl96 (EncOk.int .u64) c17 rfl rfl rfl rfl rfl) ?_
      refine .v rfl rfl (OpL.move (.inr rfl) rfl) ?_
      refine .nil ?_
      refine W.pk ?_
      refine .v rfl rfl (OpL.move (.inl rfl) rfl) ?_
      refine .v rfl rfl (O.quo rfl rfl rfl (by decide)) ?_
      refine .v rfl rfl (OpL.move (.inr rfl) rfl) ?_
      refine .nil ?_
      cases h
      exact rdN (Gives.mkR [(1000, 1002)] (.c rfl (.rfl _) rfl (.c rfl (.rfl _) rfl .n)) (.c rfl (.rfl _) rfl rfl .n) rfl rfl rfl)
    · have h := ifF q16 h
      refine W.exit ?_
      cases h
      refine rdX fun e_ => ?_
      subst e_
      refine hit ?_
      exact toN (Gives.mkR [] (.c rfl (.rfl _) rfl .n) (.c rfl (.rfl _) rfl rfl .n) rfl rfl rfl)

noncomputable def lombardref01_size.f (x0 : Int) : Option (List Int) :=
  if (x0 == (-9223372036854775808)) = true then
    (lombardref01_Of.f 9223372036854775808).bind fun t2 =>
    some t2
  else
    if (decide (x0 < 0)) = true then
      (lombardref01_Of.f (IntKind.wrap .u64 (IntKind.wrap .i64 (0 - x0)))).bind fun t5 =>
      some t5
    else
      (lombardref01_Of.f (IntKind.wrap .u64 x0)).bind fun t7 =>
      some t7
set_option maxRecDepth 100000 in
set_option maxHeartbeats 4000000 in
theorem lombardref01_size.ok {x0 : Int} {r : List Int} (h : lombardref01_size.f x0 = some r) : Pm.Spec prog 72 [.imm (.val (.int .i64 x0))] (.xown 102 1 (List.map (encI .u64) r)) [none] := by
  unfold lombardref01_size.f at h
  refine Pm.Spec.of_body Try.func72 rfl (by kernel_rfl) (Nat.le_of_ble_eq_true rfl) (Nat.le_of_ble_eq_true rfl) ?_
  refine W.ghost (σ' := (mkSt [(0, some (.imm (.val (.int .i64 x0))))] [] 1000)) (Gives.entry (.c rfl .n) .n) ?_
  refine W.seq ?_
  refine W.pk ?_
  refine .v rfl rfl (OpL.move (.inr rfl) rfl) ?_
  refine .nil ?_
  refine W.seq ?_
  refine W.seq ?_
  refine W.pk ?_
  refine .v rfl rfl (OpL.move (.inl rfl) rfl) ?_
  refine .v rfl rfl (OpL.binI rfl rfl rfl rfl) ?_
  refine .nil ?_
  refine W.cond rfl (fun q1 => ?_) (fun q1 => ?_)
  · have h := ifT q1 h
    refine W.seq ?_
    obtain ⟨t2, b3, h⟩ := bnd1 h
    refine W.pk ?_
    refine .call (.own 1000) [(1000, some (.rows 102 1 (List.map (encI .u64) t2) false))] 1 (lombardref01_Of.ok b3) rfl rfl rfl ca75 rfl rfl (cC (.imm _) .nil) rfl rfl rfl rfl rfl ?_
    refine .v rfl rfl (OpL.move (.inr rfl) rfl) ?_
    refine .nil ?_
    refine W.ret ?_
    cases h
    exact leaves (.inr rfl) rfl (.own _ _ _ _ rfl) (cN .nil) rfl rfl
  · have h := ifF q1 h
    refine W.skip ?_
    refine W.seq ?_
    refine W.seq ?_
    refine W.pk ?_
    refine .v rfl rfl (OpL.move (.inl rfl) rfl) ?_
    refine .v rfl rfl (OpL.binI rfl rfl rfl rfl) ?_
    refine .nil ?_
    refine W.cond rfl (fun q4 => ?_) (fun q4 => ?_)
    · have h := ifT q4 h
      refine W.seq ?_
      obtain ⟨t5, b6, h⟩ := bnd1 h
      refine W.pk ?_
      refine .v rfl rfl (OpL.move (.inl rfl) rfl) ?_
      refine .v rfl rfl (OpL.binI rfl rfl rfl rfl) ?_
      refine .v rfl rfl (O.conv h3 u102 rfl rfl) ?_
      refine .call (.own 1000) [(1000, some (.rows 102 1 (List.map (encI .u64) t5) false))] 1 (lombardref01_Of.ok b6) rfl rfl rfl ca75 rfl rfl (cC (.imm _) .nil) rfl rfl rfl rfl rfl ?_
      refine .v rfl rfl (OpL.move (.inr rfl) rfl) ?_
      refine .nil ?_
      refine W.ret ?_
      cases h
      exact leaves (.inr rfl) rfl (.own _ _ _ _ rfl) (cN .nil) rfl rfl
    · have h := ifF q4 h
      refine W.skip ?_
      refine W.seq ?_
      obtain ⟨t7, b8, h⟩ := bnd1 h
      refine W.pk ?_
      refine .v rfl rfl (OpL.move (.inl rfl) rfl) ?_
      refine .v rfl rfl (O.conv h3 u102 rfl rfl) ?_
      refine .call (.own 1000) [(1000, some (.rows 102 1 (List.map (encI .u64) t7) false))] 1 (lombardref01_Of.ok b8) rfl rfl rfl ca75 rfl rfl (cC (.imm _) .nil) rfl rfl rfl rfl rfl ?_
      refine .v rfl rfl (OpL.move (.inr rfl) rfl) ?_
      refine .nil ?_
      refine W.ret ?_
      cases h
      exact leaves (.inr rfl) rfl (.own _ _ _ _ rfl) (cN .nil) rfl rfl

noncomputable def lombardref01_trim.b0 (x0 : List Int) (v4 : Int) : Option (Int ⊕ Int) :=
  if ((decide (v4 > 0)) = true → (0 : Int) ≤ (IntKind.wrap .i64 (v4 - 1)) ∧ (IntKind.wrap .i64 (v4 - 1)) < (List.length x0 : Int)) then
  if ((decide (v4 > 0)) && ((nth x0 (IntKind.wrap .i64 (v4 - 1))) == 0)) = true then
    some (.inl (IntKind.wrap .i64 (v4 - 1)))
  else
    some (.inr v4)
  else none
noncomputable def lombardref01_trim.r0 (x0 : List Int) (s : Int) : Option (Int ⊕ Int) := lombardref01_trim.b0 x0 s
noncomputable def lombardref01_trim.f (x0 : List Int) : Option (List Int) :=
  (loop (lombardref01_trim.r0 x0) (List.length x0 : Int)).bind fun o12 =>
  if (0 : Int) ≤ 0 ∧ 0 ≤ o12 ∧ o12 ≤ (List.length x0 : Int) then
  some ((x0.drop (Int.toNat 0)).take (Int.toNat o12 - Int.toNat 0))
  else none
set_option maxRecDepth 100000 in
set_option maxHeartbeats 4000000 in
theorem lombardref01_trim.ok {x0 : List Int} {r : List Int} (h : lombardref01_trim.f x0 = some r) : Pm.Spec prog 81 [.xown 102 1 (List.map (encI .u64) x0)] (.imm (.row 1 (List.map (encI .u64) r))) [none] := by
  unfold lombardref01_trim.f at h
  refine Pm.Spec.of_body Try.func81 rfl (by kernel_rfl) (Nat.le_of_ble_eq_true rfl) (Nat.le_of_ble_eq_true rfl) ?_
  refine W.ghost (σ' := (mkSt [(0, some (.own 0))] [(0, some (.rows 102 1 (List.map (encI .u64) x0) false))] 1000)) (Gives.entry (.c rfl .n) (.c rfl .n)) ?_
  refine W.seq ?_
  refine W.pk ?_
  refine .v rfl rfl (OpL.move (.inr rfl) rfl) ?_
  refine .nil ?_
  refine W.seq ?_
  refine W.pk ?_
  refine .v rfl rfl (OpL.move (.inl rfl) rfl) ?_
  refine .v rfl rfl (O.lenO sl96 rfl rfl rfl) ?_
  refine .v rfl rfl (OpL.move (.inr rfl) rfl) ?_
  refine .nil ?_
  refine W.seq ?_
  obtain ⟨o12, b13, h⟩ := bnd1 h
  refine W.fork (mkSt [(0, some (.own 0)), (3, some (.imm (.val (.int .i64 o12))))] [(0, some (.rows 102 1 (List.map (encI .u64) x0) false))] 1000) ?_ ?_
  · refine W.seq ?_
    obtain ⟨c18, h⟩ := chk h
    refine W.pk ?_
    refine .v rfl rfl (OpL.move (.inl rfl) rfl) ?_
    refine .v rfl rfl (OpL.move (.inl rfl) rfl) ?_
    refine .v rfl rfl (O.partO sl96 c18 rfl rfl rfl rfl rfl) ?_
    refine .v rfl rfl (OpL.move (.inr rfl) rfl) ?_
    refine .nil ?_
    refine W.ret ?_
    cases h
    exact leaves (.inr rfl) rfl (cfView rfl c18) (cN .nil) rfl rfl
  · clear h
    refine W.block ?_
    refine W.loopF (fun (s_ : Int) => mkSt [(0, some (.own 0)), (3, some (.imm (.val (.int .i64 s_))))] [(0, some (.rows 102 1 (List.map (encI .u64) x0) false))] 1000) b13 (Gives.mkR [] (.c rfl (.rfl _) rfl (.c rfl (.rfl _) rfl .n)) (.c rfl (.rfl _) rfl rfl .n) rfl rfl rfl) ?_
    rintro v4 s_ hr
    have h : lombardref01_trim.b0 x0 v4 = some s_ := hr
    unfold lombardref01_trim.b0 at h
    refine W.seq ?_
    refine W.seq ?_
    obtain ⟨c15, h⟩ := chk h
    refine W.fork (mkSt [(0, some (.own 0)), (3, some (.imm (.val (.int .i64 v4)))), (15, some (.imm (.val (.bool ((decide (v4 > 0)) && ((nth x0 (IntKind.wrap .i64 (v4 - 1))) == 0))))))] [(0, some (.rows 102 1 (List.map (encI .u64) x0) false))] 1000) ?_ ?_
    · refine W.cond rfl (fun q17 => ?_) (fun q17 => ?_)
      · have h := ifT q17 h
        refine W.skip ?_
        refine W.block ?_
        refine W.pk ?_
        refine .v rfl rfl (OpL.move (.inl rfl) rfl) ?_
        refine .v rfl rfl (OpL.binI rfl rfl rfl rfl) ?_
        refine .v rfl rfl (OpL.move (.inr rfl) rfl) ?_
        refine .nil ?_
        cases h
        exact rdN (Gives.mkR [] (.c rfl (.rfl _) rfl (.c rfl (.rfl _) rfl .n)) (.c rfl (.rfl _) rfl rfl .n) rfl rfl rfl)
      · have h := ifF q17 h
        refine W.exit ?_
        cases h
        refine rdX fun e_ => ?_
        subst e_
        refine hit ?_
        exact toN (Gives.mkR [] (.c rfl (.rfl _) rfl (.c rfl (.rfl _) rfl .n)) (.c rfl (.rfl _) rfl rfl .n) rfl rfl rfl)
    · clear h
      rcases tf (decide (v4 > 0)) with g16 | g16
      · refine W.pk ?_
        refine .v rfl rfl (OpL.move (.inl rfl) rfl) ?_
        refine .v rfl rfl (OpL.binI rfl rfl rfl rfl) ?_
        refine .v rfl rfl (OpL.move (.inl rfl) rfl) ?_
        refine .v rfl (met rfl rfl rfl g16) (OpL.move (.inl rfl) rfl) ?_
        refine .v rfl (met rfl rfl rfl g16) (OpL.move (.inl rfl) rfl) ?_
        refine .v rfl (met rfl rfl rfl g16) (OpL.binI rfl rfl rfl rfl) ?_
        refine .v rfl (met rfl rfl rfl g16) (O.idxO sl96 (c15 (by simp only [g16, Bool.true_or, Bool.or_true, Bool.false_or, Bool.or_false, Bool.true_and, Bool.and_true, Bool.false_and, Bool.and_false, Bool.not_true, Bool.not_false, cond_true, cond_false])) rfl rfl rfl rfl) ?_
        refine .v rfl (met rfl rfl rfl g16) (O.ldE ty102 (c15 (by simp only [g16, Bool.true_or, Bool.or_true, Bool.false_or, Bool.or_false, Bool.true_and, Bool.and_true, Bool.false_and, Bool.and_false, Bool.not_true, Bool.not_false, cond_true, cond_false])) rfl rfl rfl rfl rfl) ?_
        refine .v rfl (met rfl rfl rfl g16) (OpL.binI rfl rfl rfl rfl) ?_
        refine .v rfl rfl (O.pickT g16 rfl rfl rfl) ?_
        refine .nil ?_
        exact toN (Gives.mkR [] (.c rfl (.rfl _) rfl (.c rfl (.rfl _) rfl (.c rfl (sbb (by simp only [g16, Bool.true_or, Bool.or_true, Bool.false_or, Bool.or_false, Bool.true_and, Bool.and_true, Bool.false_and, Bool.and_false, Bool.not_true, Bool.not_false, cond_true, cond_false])) rfl .n))) (.c rfl (.rfl _) rfl rfl .n) rfl rfl rfl)
      · refine W.pk ?_
        refine .v rfl rfl (OpL.move (.inl rfl) rfl) ?_
        refine .v rfl rfl (OpL.binI rfl rfl rfl rfl) ?_
        refine .v rfl rfl (OpL.move (.inl rfl) rfl) ?_
        refine .x rfl (unmet rfl rfl rfl g16) ?_
        refine .x rfl (unmet rfl rfl rfl g16) ?_
        refine .x rfl (unmet rfl rfl rfl g16) ?_
        refine .x rfl (unmet rfl rfl rfl g16) ?_
        refine .x rfl (unmet rfl rfl rfl g16) ?_
        refine .x rfl (unmet rfl rfl rfl g16) ?_
        refine .v rfl rfl (O.pickF g16 rfl rfl rfl) ?_
        refine .nil ?_
        exact toN (Gives.mkR [] (.c rfl (.rfl _) rfl (.c rfl (.rfl _) rfl (.c rfl (sbb (by simp only [g16, Bool.true_or, Bool.or_true, Bool.false_or, Bool.or_false, Bool.true_and, Bool.and_true, Bool.false_and, Bool.and_false, Bool.not_true, Bool.not_false, cond_true, cond_false])) rfl .n))) (.c rfl (.rfl _) rfl rfl .n) rfl rfl rfl)
end Go.Proofs.Ytlgfdldonoaahaa
