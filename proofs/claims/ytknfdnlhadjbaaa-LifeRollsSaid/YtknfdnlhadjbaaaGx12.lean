/- Shows what functions of the program come to, each as a plain function: written by a program of the author's for this claim. -/
import Derived.Test.YtknfdnlhadjbaaaGx11
namespace Go.Proofs.Ytknfdnlhadjbaaa
open Go Go.Pm
set_option linter.unusedVariables false
set_option linter.unusedSimpArgs false
noncomputable def lombardref24_Owed.f (x0 : api_Trade) (x1 : Int) : Option (Int × Int) :=
  (lombardref24_Interest.f x0 x1).bind fun t1 =>
  if (t1.2 != 0) = true then
    some (0, t1.2)
  else
    (lombardref01_Plus.f x0.Amount t1.1).bind fun t4 =>
    some (t4.1, t4.2)
set_option maxRecDepth 100000 in
set_option maxHeartbeats 4000000 in
theorem lombardref24_Owed.ok {x0 : api_Trade} {x1 : Int} {r : Int × Int} (h : lombardref24_Owed.f x0 x1 = some r) : Pm.Spec prog 15 [.agg [.imm (.val (.int .i64 x0.ID)), .imm (.val (.int .i64 x0.Twin)), .imm (.val (.int .i64 x0.Member)), .imm (.val (.int .i64 x0.Side)), .imm (.val (.int .i64 x0.Basket)), .imm (.val (.int .i64 x0.Amount)), .imm (.val (.int .i64 x0.Start)), .imm (.val (.int .i64 x0.End)), .imm (.row 2 (List.map api_Reset.enc x0.Resets)), .imm (.val (.int .i64 x0.Stage)), .imm (.val (.bool x0.Short))], .imm (.val (.int .i64 x1))] (.tup [.imm (.val (.int .i64 r.1)), .imm (.val (.int .i64 r.2))]) [none, none] := by
  unfold lombardref24_Owed.f at h
  refine Pm.Spec.of_body Try.func15 rfl (by kernel_rfl) (Nat.le_of_ble_eq_true rfl) (Nat.le_of_ble_eq_true rfl) ?_
  refine W.ghost (σ' := (mkSt [(0, some (.agg [.imm (.val (.int .i64 x0.ID)), .imm (.val (.int .i64 x0.Twin)), .imm (.val (.int .i64 x0.Member)), .imm (.val (.int .i64 x0.Side)), .imm (.val (.int .i64 x0.Basket)), .imm (.val (.int .i64 x0.Amount)), .imm (.val (.int .i64 x0.Start)), .imm (.val (.int .i64 x0.End)), .imm (.row 2 (List.map api_Reset.enc x0.Resets)), .imm (.val (.int .i64 x0.Stage)), .imm (.val (.bool x0.Short))])), (1, some (.imm (.val (.int .i64 x1))))] [] 1000)) (Gives.entry (.c rfl (.c rfl .n)) .n) ?_
  refine W.seq ?_
  refine W.pk ?_
  refine .t rfl rfl (O.box rfl rfl rfl rfl rfl) ?_
  refine .v rfl rfl (OpL.move (.inr rfl) rfl) ?_
  refine .v rfl rfl (OpL.move (.inr rfl) rfl) ?_
  refine .nil ?_
  refine W.seq ?_
  obtain ⟨t1, b2, h⟩ := bnd1 h
  refine W.pk ?_
  refine .v rfl rfl (O.ldN ty24 rfl rfl rfl) ?_
  refine .v rfl rfl (OpL.move (.inl rfl) rfl) ?_
  refine .call (.tup [.imm (.val (.int .i64 t1.1)), .imm (.val (.int .i64 t1.2))]) [] 0 (lombardref24_Interest.ok b2) rfl rfl rfl ca13 rfl rfl (cC (.agg _ _ _ _ (cC (.imm _) (cC (.imm _) (cC (.imm _) (cC (.imm _) (cC (.imm _) (cC (.imm _) (cC (.imm _) (cC (.imm _) (cC (.imm _) (cC (.imm _) (cC (.imm _) .nil)))))))))))) (cC (.imm _) .nil)) rfl rfl rfl rfl rfl ?_
  refine .v rfl rfl (OpL.move (.inl rfl) rfl) ?_
  refine .v rfl rfl (OpL.extract rfl rfl rfl) ?_
  refine .v rfl rfl (OpL.extract rfl rfl rfl) ?_
  refine .v rfl rfl (OpL.move (.inr rfl) rfl) ?_
  refine .v rfl rfl (OpL.move (.inr rfl) rfl) ?_
  refine .nil ?_
  refine W.seq ?_
  refine W.seq ?_
  refine W.pk ?_
  refine .v rfl rfl (OpL.move (.inl rfl) rfl) ?_
  refine .v rfl rfl (OpL.binI rfl rfl rfl rfl) ?_
  refine .nil ?_
  refine W.cond rfl (fun q3 => ?_) (fun q3 => ?_)
  · have h := ifT q3 h
    refine W.seq ?_
    refine W.pk ?_
    refine .v rfl rfl (OpL.move (.inl rfl) rfl) ?_
    refine .v rfl rfl (OpL.move (.inr rfl) rfl) ?_
    refine .v rfl rfl (OpL.move (.inr rfl) rfl) ?_
    refine .nil ?_
    refine W.ret ?_
    cases h
    exact leaves (.inr rfl) rfl (.tup _ _ _ _ (cC (.imm _) (cC (.imm _) .nil))) (cN (cN .nil)) rfl rfl
  · have h := ifF q3 h
    refine W.skip ?_
    refine W.seq ?_
    obtain ⟨t4, b5, h⟩ := bnd1 h
    refine W.pk ?_
    refine .v rfl rfl (O.fld fld24_5 rfl rfl rfl) ?_
    refine .v rfl rfl (O.ld ty3 rfl rfl rfl) ?_
    refine .v rfl rfl (OpL.move (.inl rfl) rfl) ?_
    refine .call (.tup [.imm (.val (.int .i64 t4.1)), .imm (.val (.int .i64 t4.2))]) [] 0 (lombardref01_Plus.ok b5) rfl rfl rfl ca47 rfl rfl (cC (.imm _) (cC (.imm _) .nil)) rfl rfl rfl rfl rfl ?_
    refine .v rfl rfl (OpL.extract rfl rfl rfl) ?_
    refine .v rfl rfl (OpL.extract rfl rfl rfl) ?_
    refine .v rfl rfl (OpL.move (.inr rfl) rfl) ?_
    refine .v rfl rfl (OpL.move (.inr rfl) rfl) ?_
    refine .nil ?_
    refine W.ret ?_
    cases h
    exact leaves (.inr rfl) rfl (.tup _ _ _ _ (cC (.imm _) (cC (.imm _) .nil))) (cN (cN .nil)) rfl rfl

noncomputable def lombardref24_Today.f (x0 : api_Trade) (x1 : Int) : Option (Int × Int) :=
  (lombardref24_Interest.f x0 x1).bind fun t1 =>
  if (t1.2 != 0) = true then
    some (0, t1.2)
  else
    ((
      if (decide (x1 < 200000)) = true then
        some (IntKind.wrap .i64 (x1 + 1))
      else
        some x1 : Option (Int))).bind fun o6 =>
    (lombardref24_Interest.f x0 o6).bind fun t9 =>
    if (t9.2 != 0) = true then
      some (0, t9.2)
    else
      some ((IntKind.wrap .i64 (t9.1 - t1.1)), 0)
set_option maxRecDepth 100000 in
set_option maxHeartbeats 4000000 in
theorem lombardref24_Today.ok {x0 : api_Trade} {x1 : Int} {r : Int × Int} (h : lombardref24_Today.f x0 x1 = some r) : Pm.Spec prog 16 [.agg [.imm (.val (.int .i64 x0.ID)), .imm (.val (.int .i64 x0.Twin)), .imm (.val (.int .i64 x0.Member)), .imm (.val (.int .i64 x0.Side)), .imm (.val (.int .i64 x0.Basket)), .imm (.val (.int .i64 x0.Amount)), .imm (.val (.int .i64 x0.Start)), .imm (.val (.int .i64 x0.End)), .imm (.row 2 (List.map api_Reset.enc x0.Resets)), .imm (.val (.int .i64 x0.Stage)), .imm (.val (.bool x0.Short))], .imm (.val (.int .i64 x1))] (.tup [.imm (.val (.int .i64 r.1)), .imm (.val (.int .i64 r.2))]) [none, none] := by
  unfold lombardref24_Today.f at h
  refine Pm.Spec.of_body Try.func16 rfl (by kernel_rfl) (Nat.le_of_ble_eq_true rfl) (Nat.le_of_ble_eq_true rfl) ?_
  refine W.ghost (σ' := (mkSt [(0, some (.agg [.imm (.val (.int .i64 x0.ID)), .imm (.val (.int .i64 x0.Twin)), .imm (.val (.int .i64 x0.Member)), .imm (.val (.int .i64 x0.Side)), .imm (.val (.int .i64 x0.Basket)), .imm (.val (.int .i64 x0.Amount)), .imm (.val (.int .i64 x0.Start)), .imm (.val (.int .i64 x0.End)), .imm (.row 2 (List.map api_Reset.enc x0.Resets)), .imm (.val (.int .i64 x0.Stage)), .imm (.val (.bool x0.Short))])), (1, some (.imm (.val (.int .i64 x1))))] [] 1000)) (Gives.entry (.c rfl (.c rfl .n)) .n) ?_
  refine W.seq ?_
  refine W.pk ?_
  refine .t rfl rfl (O.box rfl rfl rfl rfl rfl) ?_
  refine .v rfl rfl (OpL.move (.inr rfl) rfl) ?_
  refine .v rfl rfl (OpL.move (.inr rfl) rfl) ?_
  refine .nil ?_
  refine W.seq ?_
  obtain ⟨t1, b2, h⟩ := bnd1 h
  refine W.pk ?_
  refine .v rfl rfl (O.ldN ty24 rfl rfl rfl) ?_
  refine .v rfl rfl (OpL.move (.inl rfl) rfl) ?_
  refine .call (.tup [.imm (.val (.int .i64 t1.1)), .imm (.val (.int .i64 t1.2))]) [] 0 (lombardref24_Interest.ok b2) rfl rfl rfl ca13 rfl rfl (cC (.agg _ _ _ _ (cC (.imm _) (cC (.imm _) (cC (.imm _) (cC (.imm _) (cC (.imm _) (cC (.imm _) (cC (.imm _) (cC (.imm _) (cC (.imm _) (cC (.imm _) (cC (.imm _) .nil)))))))))))) (cC (.imm _) .nil)) rfl rfl rfl rfl rfl ?_
  refine .v rfl rfl (OpL.move (.inl rfl) rfl) ?_
  refine .v rfl rfl (OpL.extract rfl rfl rfl) ?_
  refine .v rfl rfl (OpL.extract rfl rfl rfl) ?_
  refine .v rfl rfl (OpL.move (.inr rfl) rfl) ?_
  refine .v rfl rfl (OpL.move (.inr rfl) rfl) ?_
  refine .nil ?_
  refine W.seq ?_
  refine W.seq ?_
  refine W.pk ?_
  refine .v rfl rfl (OpL.move (.inl rfl) rfl) ?_
  refine .v rfl rfl (OpL.binI rfl rfl rfl rfl) ?_
  refine .nil ?_
  refine W.cond rfl (fun q3 => ?_) (fun q3 => ?_)
  · have h := ifT q3 h
    refine W.seq ?_
    refine W.pk ?_
    refine .v rfl rfl (OpL.move (.inl rfl) rfl) ?_
    refine .v rfl rfl (OpL.move (.inr rfl) rfl) ?_
    refine .v rfl rfl (OpL.move (.inr rfl) rfl) ?_
    refine .nil ?_
    refine W.ret ?_
    cases h
    exact leaves (.inr rfl) rfl (.tup _ _ _ _ (cC (.imm _) (cC (.imm _) .nil))) (cN (cN .nil)) rfl rfl
  · have h := ifF q3 h
    refine W.skip ?_
    refine W.seq ?_
    refine W.seq ?_
    refine W.pk ?_
    refine .v rfl rfl (OpL.move (.inl rfl) rfl) ?_
    refine .v rfl rfl (OpL.binI rfl rfl rfl rfl) ?_
    refine .nil ?_
    obtain ⟨o6, b7, h⟩ := bnd1 h
    refine W.fork (mkSt [(1, some (.imm (.val (.int .i64 o6)))), (2, some (.ptr 1000 0)), (6, some (.imm (.val (.int .i64 t1.1))))] [(1000, some (.box [.imm (.val (.int .i64 x0.ID)), .imm (.val (.int .i64 x0.Twin)), .imm (.val (.int .i64 x0.Member)), .imm (.val (.int .i64 x0.Side)), .imm (.val (.int .i64 x0.Basket)), .imm (.val (.int .i64 x0.Amount)), .imm (.val (.int .i64 x0.Start)), .imm (.val (.int .i64 x0.End)), .imm (.row 2 (List.map api_Reset.enc x0.Resets)), .imm (.val (.int .i64 x0.Stage)), .imm (.val (.bool x0.Short))]))] 1001) ?_ ?_
    · refine W.seq ?_
      obtain ⟨t9, b10, h⟩ := bnd1 h
      refine W.pk ?_
      refine .v rfl rfl (O.ldN ty24 rfl rfl rfl) ?_
      refine .v rfl rfl (OpL.move (.inl rfl) rfl) ?_
      refine .call (.tup [.imm (.val (.int .i64 t9.1)), .imm (.val (.int .i64 t9.2))]) [] 0 (lombardref24_Interest.ok b10) rfl rfl rfl ca13 rfl rfl (cC (.agg _ _ _ _ (cC (.imm _) (cC (.imm _) (cC (.imm _) (cC (.imm _) (cC (.imm _) (cC (.imm _) (cC (.imm _) (cC (.imm _) (cC (.imm _) (cC (.imm _) (cC (.imm _) .nil)))))))))))) (cC (.imm _) .nil)) rfl rfl rfl rfl rfl ?_
      refine .v rfl rfl (OpL.move (.inl rfl) rfl) ?_
      refine .v rfl rfl (OpL.extract rfl rfl rfl) ?_
      refine .v rfl rfl (OpL.extract rfl rfl rfl) ?_
      refine .v rfl rfl (OpL.move (.inr rfl) rfl) ?_
      refine .v rfl rfl (OpL.move (.inr rfl) rfl) ?_
      refine .nil ?_
      refine W.seq ?_
      refine W.seq ?_
      refine W.pk ?_
      refine .v rfl rfl (OpL.move (.inl rfl) rfl) ?_
      refine .v rfl rfl (OpL.binI rfl rfl rfl rfl) ?_
      refine .nil ?_
      refine W.cond rfl (fun q11 => ?_) (fun q11 => ?_)
      · have h := ifT q11 h
        refine W.seq ?_
        refine W.pk ?_
        refine .v rfl rfl (OpL.move (.inl rfl) rfl) ?_
        refine .v rfl rfl (OpL.move (.inr rfl) rfl) ?_
        refine .v rfl rfl (OpL.move (.inr rfl) rfl) ?_
        refine .nil ?_
        refine W.ret ?_
        cases h
        exact leaves (.inr rfl) rfl (.tup _ _ _ _ (cC (.imm _) (cC (.imm _) .nil))) (cN (cN .nil)) rfl rfl
      · have h := ifF q11 h
        refine W.skip ?_
        refine W.seq ?_
        refine W.pk ?_
        refine .v rfl rfl (OpL.move (.inl rfl) rfl) ?_
        refine .v rfl rfl (OpL.move (.inl rfl) rfl) ?_
        refine .v rfl rfl (OpL.binI rfl rfl rfl rfl) ?_
        refine .v rfl rfl (OpL.move (.inr rfl) rfl) ?_
        refine .v rfl rfl (OpL.move (.inr rfl) rfl) ?_
        refine .nil ?_
        refine W.ret ?_
        cases h
        exact leaves (.inr rfl) rfl (.tup _ _ _ _ (cC (.imm _) (cC (.imm _) .nil))) (cN (cN .nil)) rfl rfl
    · clear h
      have h := b7
      refine W.cond rfl (fun q8 => ?_) (fun q8 => ?_)
      · have h := ifT q8 h
        refine W.pk ?_
        refine .v rfl rfl (OpL.move (.inl rfl) rfl) ?_
        refine .v rfl rfl (OpL.binI rfl rfl rfl rfl) ?_
        refine .v rfl rfl (OpL.move (.inr rfl) rfl) ?_
        refine .nil ?_
        cases h
        exact toN (Gives.mkR [] (.c rfl (.rfl _) rfl (.c rfl (.rfl _) rfl (.c rfl (.rfl _) rfl .n))) (.c rfl (.rfl _) rfl rfl .n) rfl rfl rfl)
      · have h := ifF q8 h
        refine W.skip ?_
        cases h
        exact toN (Gives.mkR [] (.c rfl (.rfl _) rfl (.c rfl (.rfl _) rfl (.c rfl (.rfl _) rfl .n))) (.c rfl (.rfl _) rfl rfl .n) rfl rfl rfl)

noncomputable def life_Rate.f (x0 : api_Trade) (x1 : Int) : Option (Int × Bool) :=
  (accrue_Rate.f x0.Resets x1).bind fun t1 =>
  some (t1.1, t1.2)
set_option maxRecDepth 100000 in
set_option maxHeartbeats 4000000 in
theorem life_Rate.ok {x0 : api_Trade} {x1 : Int} {r : Int × Bool} (h : life_Rate.f x0 x1 = some r) : Pm.Spec prog 17 [.agg [.imm (.val (.int .i64 x0.ID)), .imm (.val (.int .i64 x0.Twin)), .imm (.val (.int .i64 x0.Member)), .imm (.val (.int .i64 x0.Side)), .imm (.val (.int .i64 x0.Basket)), .imm (.val (.int .i64 x0.Amount)), .imm (.val (.int .i64 x0.Start)), .imm (.val (.int .i64 x0.End)), .imm (.row 2 (List.map api_Reset.enc x0.Resets)), .imm (.val (.int .i64 x0.Stage)), .imm (.val (.bool x0.Short))], .imm (.val (.int .i64 x1))] (.tup [.imm (.val (.int .i64 r.1)), .imm (.val (.bool r.2))]) [none, none] := by
  unfold life_Rate.f at h
  refine Pm.Spec.of_body Try.func17 rfl (by kernel_rfl) (Nat.le_of_ble_eq_true rfl) (Nat.le_of_ble_eq_true rfl) ?_
  refine W.ghost (σ' := (mkSt [(0, some (.agg [.imm (.val (.int .i64 x0.ID)), .imm (.val (.int .i64 x0.Twin)), .imm (.val (.int .i64 x0.Member)), .imm (.val (.int .i64 x0.Side)), .imm (.val (.int .i64 x0.Basket)), .imm (.val (.int .i64 x0.Amount)), .imm (.val (.int .i64 x0.Start)), .imm (.val (.int .i64 x0.End)), .imm (.row 2 (List.map api_Reset.enc x0.Resets)), .imm (.val (.int .i64 x0.Stage)), .imm (.val (.bool x0.Short))])), (1, some (.imm (.val (.int .i64 x1))))] [] 1000)) (Gives.entry (.c rfl (.c rfl .n)) .n) ?_
  refine W.seq ?_
  refine W.pk ?_
  refine .t rfl rfl (O.box rfl rfl rfl rfl rfl) ?_
  refine .v rfl rfl (OpL.move (.inr rfl) rfl) ?_
  refine .v rfl rfl (OpL.move (.inr rfl) rfl) ?_
  refine .nil ?_
  refine W.seq ?_
  obtain ⟨t1, b2, h⟩ := bnd1 h
  refine W.pk ?_
  refine .v rfl rfl (O.fld fld24_8 rfl rfl rfl) ?_
  refine .v rfl rfl (O.ld ty22 rfl rfl rfl) ?_
  refine .v rfl rfl (OpL.move (.inl rfl) rfl) ?_
  refine .call (.tup [.imm (.val (.int .i64 t1.1)), .imm (.val (.bool t1.2))]) [] 0 (accrue_Rate.ok b2) rfl rfl rfl ca48 rfl rfl (cC (.imm _) (cC (.imm _) .nil)) rfl rfl rfl rfl rfl ?_
  refine .v rfl rfl (OpL.extract rfl rfl rfl) ?_
  refine .v rfl rfl (OpL.extract rfl rfl rfl) ?_
  refine .v rfl rfl (OpL.move (.inr rfl) rfl) ?_
  refine .v rfl rfl (OpL.move (.inr rfl) rfl) ?_
  refine .nil ?_
  refine W.ret ?_
  cases h
  exact leaves (.inr rfl) rfl (.tup _ _ _ _ (cC (.imm _) (cC (.imm _) .nil))) (cN (cN .nil)) rfl rfl

noncomputable def lombardref03_Rate.b0 (x0 : List api_Reset) (x1 : Int) (v5 : Int) (v6 : Bool) (v7 : Int) : Option ((Int × Bool × Int) ⊕ (Int × Bool)) :=
  if (decide (v7 < (List.length x0 : Int))) = true then
    if (0 : Int) ≤ v7 ∧ v7 < (List.length x0 : Int) then
    if (decide (((nth x0 v7).Day) ≤ x1)) = true then
      if (0 : Int) ≤ v7 ∧ v7 < (List.length x0 : Int) then
      some (.inl ((nth x0 v7).Rate, true, (IntKind.wrap .i64 (v7 + 1))))
      else none
    else
      some (.inl (v5, v6, (IntKind.wrap .i64 (v7 + 1))))
    else none
  else
    some (.inr (v5, v6))
noncomputable def lombardref03_Rate.r0 (x0 : List api_Reset) (x1 : Int) (s : Int × Bool × Int) : Option ((Int × Bool × Int) ⊕ (Int × Bool)) := lombardref03_Rate.b0 x0 x1 s.1 s.2.1 s.2.2
noncomputable def lombardref03_Rate.f (x0 : List api_Reset) (x1 : Int) : Option (Int × Bool) :=
  (loop (lombardref03_Rate.r0 x0 x1) (0, false, 0)).bind fun o17 =>
  some (o17.1, o17.2)
set_option maxRecDepth 100000 in
set_option maxHeartbeats 4000000 in
theorem lombardref03_Rate.ok {x0 : List api_Reset} {x1 : Int} {r : Int × Bool} (h : lombardref03_Rate.f x0 x1 = some r) : Pm.Spec prog 18 [.imm (.row 2 (List.map api_Reset.enc x0)), .imm (.val (.int .i64 x1))] (.tup [.imm (.val (.int .i64 r.1)), .imm (.val (.bool r.2))]) [none, none] := by
  unfold lombardref03_Rate.f at h
  refine Pm.Spec.of_body Try.func18 rfl (by kernel_rfl) (Nat.le_of_ble_eq_true rfl) (Nat.le_of_ble_eq_true rfl) ?_
  refine W.ghost (σ' := (mkSt [(0, some (.imm (.row 2 (List.map api_Reset.enc x0)))), (1, some (.imm (.val (.int .i64 x1))))] [] 1000)) (Gives.entry (.c rfl (.c rfl .n)) .n) ?_
  refine W.seq ?_
  refine W.pk ?_
  refine .v rfl rfl (OpL.move (.inr rfl) rfl) ?_
  refine .v rfl rfl (OpL.move (.inr rfl) rfl) ?_
  refine .nil ?_
  refine W.seq ?_
  refine W.pk ?_
  refine .v rfl rfl (OpL.move (.inr rfl) rfl) ?_
  refine .v rfl rfl (OpL.move (.inr rfl) rfl) ?_
  refine .nil ?_
  refine W.seq ?_
  refine W.seq ?_
  refine W.pk ?_
  refine .v rfl rfl (OpL.move (.inr rfl) rfl) ?_
  refine .nil ?_
  obtain ⟨o17, b18, h⟩ := bnd1 h
  refine W.fork (mkSt [(6, some (.imm (.val (.int .i64 o17.1)))), (7, some (.imm (.val (.bool o17.2))))] [] 1000) ?_ ?_
  · refine W.seq ?_
    refine W.pk ?_
    refine .v rfl rfl (OpL.move (.inl rfl) rfl) ?_
    refine .v rfl rfl (OpL.move (.inl rfl) rfl) ?_
    refine .v rfl rfl (OpL.move (.inr rfl) rfl) ?_
    refine .v rfl rfl (OpL.move (.inr rfl) rfl) ?_
    refine .nil ?_
    refine W.ret ?_
    cases h
    exact leaves (.inr rfl) rfl (.tup _ _ _ _ (cC (.imm _) (cC (.imm _) .nil))) (cN (cN .nil)) rfl rfl
  · clear h
    refine W.block ?_
    refine W.loopF (fun (s_ : Int × Bool × Int) => mkSt [(0, some (.imm (.row 2 (List.map api_Reset.enc x0)))), (1, some (.imm (.val (.int .i64 x1)))), (6, some (.imm (.val (.int .i64 s_.1)))), (7, some (.imm (.val (.bool s_.2.1)))), (8, some (.imm (.val (.int .i64 s_.2.2))))] [] 1000) b18 (Gives.mkR [] (.c rfl (.rfl _) rfl (.c rfl (.rfl _) rfl (.c rfl (.rfl _) rfl (.c rfl (.rfl _) rfl (.c rfl (.rfl _) rfl .n))))) .n rfl rfl rfl) ?_
    rintro ⟨v5, v6, v7⟩ s_ hr
    have h : lombardref03_Rate.b0 x0 x1 v5 v6 v7 = some s_ := hr
    unfold lombardref03_Rate.b0 at h
    refine W.seq ?_
    refine W.seq ?_
    refine W.pk ?_
    refine .v rfl rfl (OpL.move (.inl rfl) rfl) ?_
    refine .v rfl rfl (OpL.move (.inl rfl) rfl) ?_
    refine .v rfl rfl (O.lenR sl22 rfl rfl) ?_
    refine .v rfl rfl (OpL.binI rfl rfl rfl rfl) ?_
    refine .nil ?_
    refine W.cond rfl (fun q20 => ?_) (fun q20 => ?_)
    · have h := ifT q20 h
      refine W.skip ?_
      refine W.seq ?_
      refine W.block ?_
      refine W.seq ?_
      obtain ⟨c21, h⟩ := chk h
      refine W.pk ?_
      refine .v rfl rfl (OpL.move (.inl rfl) rfl) ?_
      refine .v rfl rfl (OpL.move (.inl rfl) rfl) ?_
      refine .v rfl rfl (O.idx sl22 c21 rfl rfl rfl) ?_
      refine .v rfl rfl (O.fld fld46_0 rfl rfl rfl) ?_
      refine .v rfl rfl (O.ld ty3 rfl rfl rfl) ?_
      refine .v rfl rfl (OpL.move (.inl rfl) rfl) ?_
      refine .v rfl rfl (OpL.binI rfl rfl rfl rfl) ?_
      refine .nil ?_
      refine W.cond rfl (fun q22 => ?_) (fun q22 => ?_)
      · have h := ifT q22 h
        obtain ⟨c23, h⟩ := chk h
        refine W.pk ?_
        refine .v rfl rfl (OpL.move (.inl rfl) rfl) ?_
        refine .v rfl rfl (OpL.move (.inl rfl) rfl) ?_
        refine .v rfl rfl (O.idx sl22 c23 rfl rfl rfl) ?_
        refine .v rfl rfl (O.fld fld46_1 rfl rfl rfl) ?_
        refine .v rfl rfl (O.ld ty3 rfl rfl rfl) ?_
        refine .v rfl rfl (OpL.move (.inr rfl) rfl) ?_
        refine .v rfl rfl (OpL.move (.inr rfl) rfl) ?_
        refine .nil ?_
        refine W.pk ?_
        refine .v rfl rfl (OpL.move (.inl rfl) rfl) ?_
        refine .v rfl rfl (OpL.binI rfl rfl rfl rfl) ?_
        refine .v rfl rfl (OpL.move (.inr rfl) rfl) ?_
        refine .nil ?_
        cases h
        exact rdN (Gives.mkR [] (.c rfl (.rfl _) rfl (.c rfl (.rfl _) rfl (.c rfl (.rfl _) rfl (.c rfl (.rfl _) rfl (.c rfl (.rfl _) rfl .n))))) .n rfl rfl rfl)
      · have h := ifF q22 h
        refine W.skip ?_
        refine W.pk ?_
        refine .v rfl rfl (OpL.move (.inl rfl) rfl) ?_
        refine .v rfl rfl (OpL.binI rfl rfl rfl rfl) ?_
        refine .v rfl rfl (OpL.move (.inr rfl) rfl) ?_
        refine .nil ?_
        cases h
        exact rdN (Gives.mkR [] (.c rfl (.rfl _) rfl (.c rfl (.rfl _) rfl (.c rfl (.rfl _) rfl (.c rfl (.rfl _) rfl (.c rfl (.rfl _) rfl .n))))) .n rfl rfl rfl)
    · have h := ifF q20 h
      refine W.exit ?_
      cases h
      refine rdX fun e_ => ?_
      subst e_
      refine hit ?_
      exact toN (Gives.mkR [] (.c rfl (.rfl _) rfl (.c rfl (.rfl _) rfl .n)) .n rfl rfl rfl)

noncomputable def lombardlaw24_LifeInterest.f (x0 : api_Trade) (x1 : Int) : Option (Bool) :=
  (lombardlaw24_good.f x0).bind fun t1 =>
  if (!t1) = true then
    (lombardlaw24_awake.f).bind fun t4 =>
    some t4
  else
    (life_Interest.f x0 x1).bind fun t6 =>
    (lombardref24_Interest.f x0 x1).bind fun t8 =>
    (life_Owed.f x0 x1).bind fun t10 =>
    (lombardref24_Owed.f x0 x1).bind fun t12 =>
    (life_Today.f x0 x1).bind fun t14 =>
    (lombardref24_Today.f x0 x1).bind fun t16 =>
    (life_Rate.f x0 x1).bind fun t18 =>
    (lombardref03_Rate.f x0.Resets x1).bind fun t20 =>
    (if ((((((((t6.1 == t8.1) && (t6.2 == t8.2)) && (t10.1 == t12.1)) && (t10.2 == t12.2)) && (t14.1 == t16.1)) && (t14.2 == t16.2)) && (t18.1 == t20.1)) && (t18.2 == t20.2)) = true then lombardlaw24_awake.f else some default).bind fun t22 =>
    some (((((((((t6.1 == t8.1) && (t6.2 == t8.2)) && (t10.1 == t12.1)) && (t10.2 == t12.2)) && (t14.1 == t16.1)) && (t14.2 == t16.2)) && (t18.1 == t20.1)) && (t18.2 == t20.2)) && t22)
set_option maxRecDepth 100000 in
set_option maxHeartbeats 4000000 in
theorem lombardlaw24_LifeInterest.ok {x0 : api_Trade} {x1 : Int} {r : Bool} (h : lombardlaw24_LifeInterest.f x0 x1 = some r) : Pm.Spec prog 4 [.agg [.imm (.val (.int .i64 x0.ID)), .imm (.val (.int .i64 x0.Twin)), .imm (.val (.int .i64 x0.Member)), .imm (.val (.int .i64 x0.Side)), .imm (.val (.int .i64 x0.Basket)), .imm (.val (.int .i64 x0.Amount)), .imm (.val (.int .i64 x0.Start)), .imm (.val (.int .i64 x0.End)), .imm (.row 2 (List.map api_Reset.enc x0.Resets)), .imm (.val (.int .i64 x0.Stage)), .imm (.val (.bool x0.Short))], .imm (.val (.int .i64 x1))] (.imm (.val (.bool r))) [none, none] := by
  unfold lombardlaw24_LifeInterest.f at h
  refine Pm.Spec.of_body Try.func4 rfl (by kernel_rfl) (Nat.le_of_ble_eq_true rfl) (Nat.le_of_ble_eq_true rfl) ?_
  refine W.ghost (σ' := (mkSt [(0, some (.agg [.imm (.val (.int .i64 x0.ID)), .imm (.val (.int .i64 x0.Twin)), .imm (.val (.int .i64 x0.Member)), .imm (.val (.int .i64 x0.Side)), .imm (.val (.int .i64 x0.Basket)), .imm (.val (.int .i64 x0.Amount)), .imm (.val (.int .i64 x0.Start)), .imm (.val (.int .i64 x0.End)), .imm (.row 2 (List.map api_Reset.enc x0.Resets)), .imm (.val (.int .i64 x0.Stage)), .imm (.val (.bool x0.Short))])), (1, some (.imm (.val (.int .i64 x1))))] [] 1000)) (Gives.entry (.c rfl (.c rfl .n)) .n) ?_
  refine W.seq ?_
  refine W.pk ?_
  refine .t rfl rfl (O.box rfl rfl rfl rfl rfl) ?_
  refine .v rfl rfl (OpL.move (.inr rfl) rfl) ?_
  refine .nil ?_
  refine W.seq ?_
  refine W.seq ?_
  obtain ⟨t1, b2, h⟩ := bnd1 h
  refine W.pk ?_
  refine .v rfl rfl (O.ldN ty24 rfl rfl rfl) ?_
  refine .call (.imm (.val (.bool t1))) [] 0 (lombardlaw24_good.ok b2) rfl rfl rfl ca9 rfl rfl (cC (.agg _ _ _ _ (cC (.imm _) (cC (.imm _) (cC (.imm _) (cC (.imm _) (cC (.imm _) (cC (.imm _) (cC (.imm _) (cC (.imm _) (cC (.imm _) (cC (.imm _) (cC (.imm _) .nil)))))))))))) .nil) rfl rfl rfl rfl rfl ?_
  refine .v rfl rfl (OpL.unV rfl rfl rfl) ?_
  refine .nil ?_
  refine W.cond rfl (fun q3 => ?_) (fun q3 => ?_)
  · have h := ifT q3 h
    refine W.seq ?_
    obtain ⟨t4, b5, h⟩ := bnd1 h
    refine W.pk ?_
    refine .call (.imm (.val (.bool t4))) [] 0 (lombardlaw24_awake.ok b5) rfl rfl rfl ca10 rfl rfl .nil rfl rfl rfl rfl rfl ?_
    refine .v rfl rfl (OpL.move (.inr rfl) rfl) ?_
    refine .nil ?_
    refine W.ret ?_
    cases h
    exact leaves (.inr rfl) rfl (.imm _) (cN (cN .nil)) rfl rfl
  · have h := ifF q3 h
    refine W.skip ?_
    refine W.seq ?_
    obtain ⟨t6, b7, h⟩ := bnd1 h
    refine W.pk ?_
    refine .v rfl rfl (O.ldN ty24 rfl rfl rfl) ?_
    refine .v rfl rfl (OpL.move (.inl rfl) rfl) ?_
    refine .call (.tup [.imm (.val (.int .i64 t6.1)), .imm (.val (.int .i64 t6.2))]) [] 0 (life_Interest.ok b7) rfl rfl rfl ca11 rfl rfl (cC (.agg _ _ _ _ (cC (.imm _) (cC (.imm _) (cC (.imm _) (cC (.imm _) (cC (.imm _) (cC (.imm _) (cC (.imm _) (cC (.imm _) (cC (.imm _) (cC (.imm _) (cC (.imm _) .nil)))))))))))) (cC (.imm _) .nil)) rfl rfl rfl rfl rfl ?_
    refine .v rfl rfl (OpL.move (.inl rfl) rfl) ?_
    refine .v rfl rfl (OpL.extract rfl rfl rfl) ?_
    refine .v rfl rfl (OpL.extract rfl rfl rfl) ?_
    refine .v rfl rfl (OpL.move (.inr rfl) rfl) ?_
    refine .v rfl rfl (OpL.move (.inr rfl) rfl) ?_
    refine .nil ?_
    refine W.seq ?_
    obtain ⟨t8, b9, h⟩ := bnd1 h
    refine W.pk ?_
    refine .v rfl rfl (O.ldN ty24 rfl rfl rfl) ?_
    refine .v rfl rfl (OpL.move (.inl rfl) rfl) ?_
    refine .call (.tup [.imm (.val (.int .i64 t8.1)), .imm (.val (.int .i64 t8.2))]) [] 0 (lombardref24_Interest.ok b9) rfl rfl rfl ca13 rfl rfl (cC (.agg _ _ _ _ (cC (.imm _) (cC (.imm _) (cC (.imm _) (cC (.imm _) (cC (.imm _) (cC (.imm _) (cC (.imm _) (cC (.imm _) (cC (.imm _) (cC (.imm _) (cC (.imm _) .nil)))))))))))) (cC (.imm _) .nil)) rfl rfl rfl rfl rfl ?_
    refine .v rfl rfl (OpL.move (.inl rfl) rfl) ?_
    refine .v rfl rfl (OpL.extract rfl rfl rfl) ?_
    refine .v rfl rfl (OpL.extract rfl rfl rfl) ?_
    refine .v rfl rfl (OpL.move (.inr rfl) rfl) ?_
    refine .v rfl rfl (OpL.move (.inr rfl) rfl) ?_
    refine .nil ?_
    refine W.seq ?_
    obtain ⟨t10, b11, h⟩ := bnd1 h
    refine W.pk ?_
    refine .v rfl rfl (O.ldN ty24 rfl rfl rfl) ?_
    refine .v rfl rfl (OpL.move (.inl rfl) rfl) ?_
    refine .call (.tup [.imm (.val (.int .i64 t10.1)), .imm (.val (.int .i64 t10.2))]) [] 0 (life_Owed.ok b11) rfl rfl rfl ca14 rfl rfl (cC (.agg _ _ _ _ (cC (.imm _) (cC (.imm _) (cC (.imm _) (cC (.imm _) (cC (.imm _) (cC (.imm _) (cC (.imm _) (cC (.imm _) (cC (.imm _) (cC (.imm _) (cC (.imm _) .nil)))))))))))) (cC (.imm _) .nil)) rfl rfl rfl rfl rfl ?_
    refine .v rfl rfl (OpL.move (.inl rfl) rfl) ?_
    refine .v rfl rfl (OpL.extract rfl rfl rfl) ?_
    refine .v rfl rfl (OpL.extract rfl rfl rfl) ?_
    refine .v rfl rfl (OpL.move (.inr rfl) rfl) ?_
    refine .v rfl rfl (OpL.move (.inr rfl) rfl) ?_
    refine .nil ?_
    refine W.seq ?_
    obtain ⟨t12, b13, h⟩ := bnd1 h
    refine W.pk ?_
    refine .v rfl rfl (O.ldN ty24 rfl rfl rfl) ?_
    refine .v rfl rfl (OpL.move (.inl rfl) rfl) ?_
    refine .call (.tup [.imm (.val (.int .i64 t12.1)), .imm (.val (.int .i64 t12.2))]) [] 0 (lombardref24_Owed.ok b13) rfl rfl rfl ca15 rfl rfl (cC (.agg _ _ _ _ (cC (.imm _) (cC (.imm _) (cC (.imm _) (cC (.imm _) (cC (.imm _) (cC (.imm _) (cC (.imm _) (cC (.imm _) (cC (.imm _) (cC (.imm _) (cC (.imm _) .nil)))))))))))) (cC (.imm _) .nil)) rfl rfl rfl rfl rfl ?_
    refine .v rfl rfl (OpL.move (.inl rfl) rfl) ?_
    refine .v rfl rfl (OpL.extract rfl rfl rfl) ?_
    refine .v rfl rfl (OpL.extract rfl rfl rfl) ?_
    refine .v rfl rfl (OpL.move (.inr rfl) rfl) ?_
    refine .v rfl rfl (OpL.move (.inr rfl) rfl) ?_
    refine .nil ?_
    refine W.seq ?_
    obtain ⟨t14, b15, h⟩ := bnd1 h
    refine W.pk ?_
    refine .v rfl rfl (O.ldN ty24 rfl rfl rfl) ?_
    refine .v rfl rfl (OpL.move (.inl rfl) rfl) ?_
    refine .call (.tup [.imm (.val (.int .i64 t14.1)), .imm (.val (.int .i64 t14.2))]) [] 0 (life_Today.ok b15) rfl rfl rfl ca12 rfl rfl (cC (.agg _ _ _ _ (cC (.imm _) (cC (.imm _) (cC (.imm _) (cC (.imm _) (cC (.imm _) (cC (.imm _) (cC (.imm _) (cC (.imm _) (cC (.imm _) (cC (.imm _) (cC (.imm _) .nil)))))))))))) (cC (.imm _) .nil)) rfl rfl rfl rfl rfl ?_
    refine .v rfl rfl (OpL.move (.inl rfl) rfl) ?_
    refine .v rfl rfl (OpL.extract rfl rfl rfl) ?_
    refine .v rfl rfl (OpL.extract rfl rfl rfl) ?_
    refine .v rfl rfl (OpL.move (.inr rfl) rfl) ?_
    refine .v rfl rfl (OpL.move (.inr rfl) rfl) ?_
    refine .nil ?_
    refine W.seq ?_
    obtain ⟨t16, b17, h⟩ := bnd1 h
    refine W.pk ?_
    refine .v rfl rfl (O.ldN ty24 rfl rfl rfl) ?_
    refine .v rfl rfl (OpL.move (.inl rfl) rfl) ?_
    refine .call (.tup [.imm (.val (.int .i64 t16.1)), .imm (.val (.int .i64 t16.2))]) [] 0 (lombardref24_Today.ok b17) rfl rfl rfl ca16 rfl rfl (cC (.agg _ _ _ _ (cC (.imm _) (cC (.imm _) (cC (.imm _) (cC (.imm _) (cC (.imm _) (cC (.imm _) (cC (.imm _) (cC (.imm _) (cC (.imm _) (cC (.imm _) (cC (.imm _) .nil)))))))))))) (cC (.imm _) .nil)) rfl rfl rfl rfl rfl ?_
    refine .v rfl rfl (OpL.move (.inl rfl) rfl) ?_
    refine .v rfl rfl (OpL.extract rfl rfl rfl) ?_
    refine .v rfl rfl (OpL.extract rfl rfl rfl) ?_
    refine .v rfl rfl (OpL.move (.inr rfl) rfl) ?_
    refine .v rfl rfl (OpL.move (.inr rfl) rfl) ?_
    refine .nil ?_
    refine W.seq ?_
    obtain ⟨t18, b19, h⟩ := bnd1 h
    refine W.pk ?_
    refine .v rfl rfl (O.ldN ty24 rfl rfl rfl) ?_
    refine .v rfl rfl (OpL.move (.inl rfl) rfl) ?_
    refine .call (.tup [.imm (.val (.int .i64 t18.1)), .imm (.val (.bool t18.2))]) [] 0 (life_Rate.ok b19) rfl rfl rfl ca17 rfl rfl (cC (.agg _ _ _ _ (cC (.imm _) (cC (.imm _) (cC (.imm _) (cC (.imm _) (cC (.imm _) (cC (.imm _) (cC (.imm _) (cC (.imm _) (cC (.imm _) (cC (.imm _) (cC (.imm _) .nil)))))))))))) (cC (.imm _) .nil)) rfl rfl rfl rfl rfl ?_
    refine .v rfl rfl (OpL.move (.inl rfl) rfl) ?_
    refine .v rfl rfl (OpL.extract rfl rfl rfl) ?_
    refine .v rfl rfl (OpL.extract rfl rfl rfl) ?_
    refine .v rfl rfl (OpL.move (.inr rfl) rfl) ?_
    refine .v rfl rfl (OpL.move (.inr rfl) rfl) ?_
    refine .nil ?_
    refine W.seq ?_
    obtain ⟨t20, b21, h⟩ := bnd1 h
    refine W.pk ?_
    refine .v rfl rfl (O.fld fld24_8 rfl rfl rfl) ?_
    refine .v rfl rfl (O.ld ty22 rfl rfl rfl) ?_
    refine .v rfl rfl (OpL.move (.inl rfl) rfl) ?_
    refine .call (.tup [.imm (.val (.int .i64 t20.1)), .imm (.val (.bool t20.2))]) [] 0 (lombardref03_Rate.ok b21) rfl rfl rfl ca18 rfl rfl (cC (.imm _) (cC (.imm _) .nil)) rfl rfl rfl rfl rfl ?_
    refine .v rfl rfl (OpL.move (.inl rfl) rfl) ?_
    refine .v rfl rfl (OpL.extract rfl rfl rfl) ?_
    refine .v rfl rfl (OpL.extract rfl rfl rfl) ?_
    refine .v rfl rfl (OpL.move (.inr rfl) rfl) ?_
    refine .v rfl rfl (OpL.move (.inr rfl) rfl) ?_
    refine .nil ?_
    refine W.seq ?_
    obtain ⟨t22, b23, h⟩ := bnd1 h
    refine W.fork (mkSt [(4, some (.imm (.val (.bool (((((((((t6.1 == t8.1) && (t6.2 == t8.2)) && (t10.1 == t12.1)) && (t10.2 == t12.2)) && (t14.1 == t16.1)) && (t14.2 == t16.2)) && (t18.1 == t20.1)) && (t18.2 == t20.2)) && t22)))))] [] 1001) ?_ ?_
    · refine W.ret ?_
      cases h
      exact leaves (.inr rfl) rfl (.imm _) (cN (cN .nil)) rfl rfl
    · clear h
      rcases tf (t6.1 == t8.1) with g24 | g24
      · rcases tf (t6.2 == t8.2) with g25 | g25
        · rcases tf (t10.1 == t12.1) with g26 | g26
          · rcases tf (t10.2 == t12.2) with g27 | g27
            · rcases tf (t14.1 == t16.1) with g28 | g28
              · rcases tf (t14.2 == t16.2) with g29 | g29
                · rcases tf (t18.1 == t20.1) with g30 | g30
                  · rcases tf (t18.2 == t20.2) with g31 | g31
                    · refine W.pk ?_
                      refine .v rfl rfl (OpL.move (.inl rfl) rfl) ?_
                      refine .v rfl rfl (OpL.move (.inl rfl) rfl) ?_
                      refine .v rfl rfl (OpL.binI rfl rfl rfl rfl) ?_
                      refine .v rfl rfl (OpL.move (.inl rfl) rfl) ?_
                      refine .v rfl (met rfl rfl rfl g24) (OpL.move (.inl rfl) rfl) ?_
                      refine .v rfl (met rfl rfl rfl g24) (OpL.move (.inl rfl) rfl) ?_
                      refine .v rfl (met rfl rfl rfl g24) (OpL.binI rfl rfl rfl rfl) ?_
                      refine .v rfl rfl (O.pickT g24 rfl rfl rfl) ?_
                      refine .v rfl rfl (OpL.move (.inl rfl) rfl) ?_
                      refine .v rfl (met rfl rfl rfl g25) (OpL.move (.inl rfl) rfl) ?_
                      refine .v rfl (met rfl rfl rfl g25) (OpL.move (.inl rfl) rfl) ?_
                      refine .v rfl (met rfl rfl rfl g25) (OpL.binI rfl rfl rfl rfl) ?_
                      refine .v rfl rfl (O.pickT g25 rfl rfl rfl) ?_
                      refine .v rfl rfl (OpL.move (.inl rfl) rfl) ?_
                      refine .v rfl (met rfl rfl rfl g26) (OpL.move (.inl rfl) rfl) ?_
                      refine .v rfl (met rfl rfl rfl g26) (OpL.move (.inl rfl) rfl) ?_
                      refine .v rfl (met rfl rfl rfl g26) (OpL.binI rfl rfl rfl rfl) ?_
                      refine .v rfl rfl (O.pickT g26 rfl rfl rfl) ?_
                      refine .v rfl rfl (OpL.move (.inl rfl) rfl) ?_
                      refine .v rfl (met rfl rfl rfl g27) (OpL.move (.inl rfl) rfl) ?_
                      refine .v rfl (met rfl rfl rfl g27) (OpL.move (.inl rfl) rfl) ?_
                      refine .v rfl (met rfl rfl rfl g27) (OpL.binI rfl rfl rfl rfl) ?_
                      refine .v rfl rfl (O.pickT g27 rfl rfl rfl) ?_
                      refine .v rfl rfl (OpL.move (.inl rfl) rfl) ?_
                      refine .v rfl (met rfl rfl rfl g28) (OpL.move (.inl rfl) rfl) ?_
                      refine .v rfl (met rfl rfl rfl g28) (OpL.move (.inl rfl) rfl) ?_
                      refine .v rfl (met rfl rfl rfl g28) (OpL.binI rfl rfl rfl rfl) ?_
                      refine .v rfl rfl (O.pickT g28 rfl rfl rfl) ?_
                      refine .v rfl rfl (OpL.move (.inl rfl) rfl) ?_
                      refine .v rfl (met rfl rfl rfl g29) (OpL.move (.inl rfl) rfl) ?_
                      refine .v rfl (met rfl rfl rfl g29) (OpL.move (.inl rfl) rfl) ?_
                      refine .v rfl (met rfl rfl rfl g29) (OpL.binI rfl rfl rfl rfl) ?_
                      refine .v rfl rfl (O.pickT g29 rfl rfl rfl) ?_
                      refine .v rfl rfl (OpL.move (.inl rfl) rfl) ?_
                      refine .v rfl (met rfl rfl rfl g30) (OpL.move (.inl rfl) rfl) ?_
                      refine .v rfl (met rfl rfl rfl g30) (OpL.move (.inl rfl) rfl) ?_
                      refine .v rfl (met rfl rfl rfl g30) (OpL.eqB rfl u4 rfl rfl) ?_
                      refine .v rfl rfl (O.pickT g30 rfl rfl rfl) ?_
                      refine .v rfl rfl (OpL.move (.inl rfl) rfl) ?_
                      refine .call (.imm (.val (.bool t22))) [] 0 (lombardlaw24_awake.ok ((if_pos (by simp only [g24, g25, g26, g27, g28, g29, g30, g31, Bool.true_or, Bool.or_true, Bool.false_or, Bool.or_false, Bool.true_and, Bool.and_true, Bool.false_and, Bool.and_false, Bool.not_true, Bool.not_false, cond_true, cond_false])).symm.trans b23)) rfl (met rfl rfl rfl g31) rfl ca10 rfl rfl .nil rfl rfl rfl rfl rfl ?_
                      refine .v rfl rfl (O.pickT g31 rfl rfl rfl) ?_
                      refine .v rfl rfl (OpL.move (.inr rfl) rfl) ?_
                      refine .nil ?_
                      exact toN (Gives.mkR [] (.c rfl (sbb (by simp only [g24, g25, g26, g27, g28, g29, g30, g31, Bool.true_or, Bool.or_true, Bool.false_or, Bool.or_false, Bool.true_and, Bool.and_true, Bool.false_and, Bool.and_false, Bool.not_true, Bool.not_false, cond_true, cond_false])) rfl .n) .n rfl rfl rfl)
                    · refine W.pk ?_
                      refine .v rfl rfl (OpL.move (.inl rfl) rfl) ?_
                      refine .v rfl rfl (OpL.move (.inl rfl) rfl) ?_
                      refine .v rfl rfl (OpL.binI rfl rfl rfl rfl) ?_
                      refine .v rfl rfl (OpL.move (.inl rfl) rfl) ?_
                      refine .v rfl (met rfl rfl rfl g24) (OpL.move (.inl rfl) rfl) ?_
                      refine .v rfl (met rfl rfl rfl g24) (OpL.move (.inl rfl) rfl) ?_
                      refine .v rfl (met rfl rfl rfl g24) (OpL.binI rfl rfl rfl rfl) ?_
                      refine .v rfl rfl (O.pickT g24 rfl rfl rfl) ?_
                      refine .v rfl rfl (OpL.move (.inl rfl) rfl) ?_
                      refine .v rfl (met rfl rfl rfl g25) (OpL.move (.inl rfl) rfl) ?_
                      refine .v rfl (met rfl rfl rfl g25) (OpL.move (.inl rfl) rfl) ?_
                      refine .v rfl (met rfl rfl rfl g25) (OpL.binI rfl rfl rfl rfl) ?_
                      refine .v rfl rfl (O.pickT g25 rfl rfl rfl) ?_
                      refine .v rfl rfl (OpL.move (.inl rfl) rfl) ?_
                      refine .v rfl (met rfl rfl rfl g26) (OpL.move (.inl rfl) rfl) ?_
                      refine .v rfl (met rfl rfl rfl g26) (OpL.move (.inl rfl) rfl) ?_
                      refine .v rfl (met rfl rfl rfl g26) (OpL.binI rfl rfl rfl rfl) ?_
                      refine .v rfl rfl (O.pickT g26 rfl rfl rfl) ?_
                      refine .v rfl rfl (OpL.move (.inl rfl) rfl) ?_
                      refine .v rfl (met rfl rfl rfl g27) (OpL.move (.inl rfl) rfl) ?_
                      refine .v rfl (met rfl rfl rfl g27) (OpL.move (.inl rfl) rfl) ?_
                      refine .v rfl (met rfl rfl rfl g27) (OpL.binI rfl rfl rfl rfl) ?_
                      refine .v rfl rfl (O.pickT g27 rfl rfl rfl) ?_
                      refine .v rfl rfl (OpL.move (.inl rfl) rfl) ?_
                      refine .v rfl (met rfl rfl rfl g28) (OpL.move (.inl rfl) rfl) ?_
                      refine .v rfl (met rfl rfl rfl g28) (OpL.move (.inl rfl) rfl) ?_
                      refine .v rfl (met rfl rfl rfl g28) (OpL.binI rfl rfl rfl rfl) ?_
                      refine .v rfl rfl (O.pickT g28 rfl rfl rfl) ?_
                      refine .v rfl rfl (OpL.move (.inl rfl) rfl) ?_
                      refine .v rfl (met rfl rfl rfl g29) (OpL.move (.inl rfl) rfl) ?_
                      refine .v rfl (met rfl rfl rfl g29) (OpL.move (.inl rfl) rfl) ?_
                      refine .v rfl (met rfl rfl rfl g29) (OpL.binI rfl rfl rfl rfl) ?_
                      refine .v rfl rfl (O.pickT g29 rfl rfl rfl) ?_
                      refine .v rfl rfl (OpL.move (.inl rfl) rfl) ?_
                      refine .v rfl (met rfl rfl rfl g30) (OpL.move (.inl rfl) rfl) ?_
                      refine .v rfl (met rfl rfl rfl g30) (OpL.move (.inl rfl) rfl) ?_
                      refine .v rfl (met rfl rfl rfl g30) (OpL.eqB rfl u4 rfl rfl) ?_
                      refine .v rfl rfl (O.pickT g30 rfl rfl rfl) ?_
                      refine .v rfl rfl (OpL.move (.inl rfl) rfl) ?_
                      refine .x rfl (unmet rfl rfl rfl g31) ?_
                      refine .v rfl rfl (O.pickF g31 rfl rfl rfl) ?_
                      refine .v rfl rfl (OpL.move (.inr rfl) rfl) ?_
                      refine .nil ?_
                      exact toN (Gives.mkR [] (.c rfl (sbb (by simp only [g24, g25, g26, g27, g28, g29, g30, g31, Bool.true_or, Bool.or_true, Bool.false_or, Bool.or_false, Bool.true_and, Bool.and_true, Bool.false_and, Bool.and_false, Bool.not_true, Bool.not_false, cond_true, cond_false])) rfl .n) .n rfl rfl rfl)
                  · refine W.pk ?_
                    refine .v rfl rfl (OpL.move (.inl rfl) rfl) ?_
                    refine .v rfl rfl (OpL.move (.inl rfl) rfl) ?_
                    refine .v rfl rfl (OpL.binI rfl rfl rfl rfl) ?_
                    refine .v rfl rfl (OpL.move (.inl rfl) rfl) ?_
                    refine .v rfl (met rfl rfl rfl g24) (OpL.move (.inl rfl) rfl) ?_
                    refine .v rfl (met rfl rfl rfl g24) (OpL.move (.inl rfl) rfl) ?_
                    refine .v rfl (met rfl rfl rfl g24) (OpL.binI rfl rfl rfl rfl) ?_
                    refine .v rfl rfl (O.pickT g24 rfl rfl rfl) ?_
                    refine .v rfl rfl (OpL.move (.inl rfl) rfl) ?_
                    refine .v rfl (met rfl rfl rfl g25) (OpL.move (.inl rfl) rfl) ?_
                    refine .v rfl (met rfl rfl rfl g25) (OpL.move (.inl rfl) rfl) ?_
                    refine .v rfl (met rfl rfl rfl g25) (OpL.binI rfl rfl rfl rfl) ?_
                    refine .v rfl rfl (O.pickT g25 rfl rfl rfl) ?_
                    refine .v rfl rfl (OpL.move (.inl rfl) rfl) ?_
                    refine .v rfl (met rfl rfl rfl g26) (OpL.move (.inl rfl) rfl) ?_
                    refine .v rfl (met rfl rfl rfl g26) (OpL.move (.inl rfl) rfl) ?_
                    refine .v rfl (met rfl rfl rfl g26) (OpL.binI rfl rfl rfl rfl) ?_
                    refine .v rfl rfl (O.pickT g26 rfl rfl rfl) ?_
                    refine .v rfl rfl (OpL.move (.inl rfl) rfl) ?_
                    refine .v rfl (met rfl rfl rfl g27) (OpL.move (.inl rfl) rfl) ?_
                    refine .v rfl (met rfl rfl rfl g27) (OpL.move (.inl rfl) rfl) ?_
                    refine .v rfl (met rfl rfl rfl g27) (OpL.binI rfl rfl rfl rfl) ?_
                    refine .v rfl rfl (O.pickT g27 rfl rfl rfl) ?_
                    refine .v rfl rfl (OpL.move (.inl rfl) rfl) ?_
                    refine .v rfl (met rfl rfl rfl g28) (OpL.move (.inl rfl) rfl) ?_
                    refine .v rfl (met rfl rfl rfl g28) (OpL.move (.inl rfl) rfl) ?_
                    refine .v rfl (met rfl rfl rfl g28) (OpL.binI rfl rfl rfl rfl) ?_
                    refine .v rfl rfl (O.pickT g28 rfl rfl rfl) ?_
                    refine .v rfl rfl (OpL.move (.inl rfl) rfl) ?_
                    refine .v rfl (met rfl rfl rfl g29) (OpL.move (.inl rfl) rfl) ?_
                    refine .v rfl (met rfl rfl rfl g29) (OpL.move (.inl rfl) rfl) ?_
                    refine .v rfl (met rfl rfl rfl g29) (OpL.binI rfl rfl rfl rfl) ?_
                    refine .v rfl rfl (O.pickT g29 rfl rfl rfl) ?_
                    refine .v rfl rfl (OpL.move (.inl rfl) rfl) ?_
                    refine .x rfl (unmet rfl rfl rfl g30) ?_
                    refine .x rfl (unmet rfl rfl rfl g30) ?_
                    refine .x rfl (unmet rfl rfl rfl g30) ?_
                    refine .v rfl rfl (O.pickF g30 rfl rfl rfl) ?_
                    refine .v rfl rfl (OpL.move (.inl rfl) rfl) ?_
                    refine .x rfl (unmet rfl rfl rfl rfl) ?_
                    refine .v rfl rfl (O.pickF rfl rfl rfl rfl) ?_
                    refine .v rfl rfl (OpL.move (.inr rfl) rfl) ?_
                    refine .nil ?_
                    exact toN (Gives.mkR [] (.c rfl (sbb (by simp only [g24, g25, g26, g27, g28, g29, g30, Bool.true_or, Bool.or_true, Bool.false_or, Bool.or_false, Bool.true_and, Bool.and_true, Bool.false_and, Bool.and_false, Bool.not_true, Bool.not_false, cond_true, cond_false])) rfl .n) .n rfl rfl rfl)
                · refine W.pk ?_
                  refine .v rfl rfl (OpL.move (.inl rfl) rfl) ?_
                  refine .v rfl rfl (OpL.move (.inl rfl) rfl) ?_
                  refine .v rfl rfl (OpL.binI rfl rfl rfl rfl) ?_
                  refine .v rfl rfl (OpL.move (.inl rfl) rfl) ?_
                  refine .v rfl (met rfl rfl rfl g24) (OpL.move (.inl rfl) rfl) ?_
                  refine .v rfl (met rfl rfl rfl g24) (OpL.move (.inl rfl) rfl) ?_
                  refine .v rfl (met rfl rfl rfl g24) (OpL.binI rfl rfl rfl rfl) ?_
                  refine .v rfl rfl (O.pickT g24 rfl rfl rfl) ?_
                  refine .v rfl rfl (OpL.move (.inl rfl) rfl) ?_
                  refine .v rfl (met rfl rfl rfl g25) (OpL.move (.inl rfl) rfl) ?_
                  refine .v rfl (met rfl rfl rfl g25) (OpL.move (.inl rfl) rfl) ?_
                  refine .v rfl (met rfl rfl rfl g25) (OpL.binI rfl rfl rfl rfl) ?_
                  refine .v rfl rfl (O.pickT g25 rfl rfl rfl) ?_
                  refine .v rfl rfl (OpL.move (.inl rfl) rfl) ?_
                  refine .v rfl (met rfl rfl rfl g26) (OpL.move (.inl rfl) rfl) ?_
                  refine .v rfl (met rfl rfl rfl g26) (OpL.move (.inl rfl) rfl) ?_
                  refine .v rfl (met rfl rfl rfl g26) (OpL.binI rfl rfl rfl rfl) ?_
                  refine .v rfl rfl (O.pickT g26 rfl rfl rfl) ?_
                  refine .v rfl rfl (OpL.move (.inl rfl) rfl) ?_
                  refine .v rfl (met rfl rfl rfl g27) (OpL.move (.inl rfl) rfl) ?_
                  refine .v rfl (met rfl rfl rfl g27) (OpL.move (.inl rfl) rfl) ?_
                  refine .v rfl (met rfl rfl rfl g27) (OpL.binI rfl rfl rfl rfl) ?_
                  refine .v rfl rfl (O.pickT g27 rfl rfl rfl) ?_
                  refine .v rfl rfl (OpL.move (.inl rfl) rfl) ?_
                  refine .v rfl (met rfl rfl rfl g28) (OpL.move (.inl rfl) rfl) ?_
                  refine .v rfl (met rfl rfl rfl g28) (OpL.move (.inl rfl) rfl) ?_
                  refine .v rfl (met rfl rfl rfl g28) (OpL.binI rfl rfl rfl rfl) ?_
                  refine .v rfl rfl (O.pickT g28 rfl rfl rfl) ?_
                  refine .v rfl rfl (OpL.move (.inl rfl) rfl) ?_
                  refine .x rfl (unmet rfl rfl rfl g29) ?_
                  refine .x rfl (unmet rfl rfl rfl g29) ?_
                  refine .x rfl (unmet rfl rfl rfl g29) ?_
                  refine .v rfl rfl (O.pickF g29 rfl rfl rfl) ?_
                  refine .v rfl rfl (OpL.move (.inl rfl) rfl) ?_
                  refine .x rfl (unmet rfl rfl rfl rfl) ?_
                  refine .x rfl (unmet rfl rfl rfl rfl) ?_
                  refine .x rfl (unmet rfl rfl rfl rfl) ?_
                  refine .v rfl rfl (O.pickF rfl rfl rfl rfl) ?_
                  refine .v rfl rfl (OpL.move (.inl rfl) rfl) ?_
                  refine .x rfl (unmet rfl rfl rfl rfl) ?_
                  refine .v rfl rfl (O.pickF rfl rfl rfl rfl) ?_
                  refine .v rfl rfl (OpL.move (.inr rfl) rfl) ?_
                  refine .nil ?_
                  exact toN (Gives.mkR [] (.c rfl (sbb (by simp only [g24, g25, g26, g27, g28, g29, Bool.true_or, Bool.or_true, Bool.false_or, Bool.or_false, Bool.true_and, Bool.and_true, Bool.false_and, Bool.and_false, Bool.not_true, Bool.not_false, cond_true, cond_false])) rfl .n) .n rfl rfl rfl)
              · refine W.pk ?_
                refine .v rfl rfl (OpL.move (.inl rfl) rfl) ?_
                refine .v rfl rfl (OpL.move (.inl rfl) rfl) ?_
                refine .v rfl rfl (OpL.binI rfl rfl rfl rfl) ?_
                refine .v rfl rfl (OpL.move (.inl rfl) rfl) ?_
                refine .v rfl (met rfl rfl rfl g24) (OpL.move (.inl rfl) rfl) ?_
                refine .v rfl (met rfl rfl rfl g24) (OpL.move (.inl rfl) rfl) ?_
                refine .v rfl (met rfl rfl rfl g24) (OpL.binI rfl rfl rfl rfl) ?_
                refine .v rfl rfl (O.pickT g24 rfl rfl rfl) ?_
                refine .v rfl rfl (OpL.move (.inl rfl) rfl) ?_
                refine .v rfl (met rfl rfl rfl g25) (OpL.move (.inl rfl) rfl) ?_
                refine .v rfl (met rfl rfl rfl g25) (OpL.move (.inl rfl) rfl) ?_
                refine .v rfl (met rfl rfl rfl g25) (OpL.binI rfl rfl rfl rfl) ?_
                refine .v rfl rfl (O.pickT g25 rfl rfl rfl) ?_
                refine .v rfl rfl (OpL.move (.inl rfl) rfl) ?_
                refine .v rfl (met rfl rfl rfl g26) (OpL.move (.inl rfl) rfl) ?_
                refine .v rfl (met rfl rfl rfl g26) (OpL.move (.inl rfl) rfl) ?_
                refine .v rfl (met rfl rfl rfl g26) (OpL.binI rfl rfl rfl rfl) ?_
                refine .v rfl rfl (O.pickT g26 rfl rfl rfl) ?_
                refine .v rfl rfl (OpL.move (.inl rfl) rfl) ?_
                refine .v rfl (met rfl rfl rfl g27) (OpL.move (.inl rfl) rfl) ?_
                refine .v rfl (met rfl rfl rfl g27) (OpL.move (.inl rfl) rfl) ?_
                refine .v rfl (met rfl rfl rfl g27) (OpL.binI rfl rfl rfl rfl) ?_
                refine .v rfl rfl (O.pickT g27 rfl rfl rfl) ?_
                refine .v rfl rfl (OpL.move (.inl rfl) rfl) ?_
                refine .x rfl (unmet rfl rfl rfl g28) ?_
                refine .x rfl (unmet rfl rfl rfl g28) ?_
                refine .x rfl (unmet rfl rfl rfl g28) ?_
                refine .v rfl rfl (O.pickF g28 rfl rfl rfl) ?_
                refine .v rfl rfl (OpL.move (.inl rfl) rfl) ?_
                refine .x rfl (unmet rfl rfl rfl rfl) ?_
                refine .x rfl (unmet rfl rfl rfl rfl) ?_
                refine .x rfl (unmet rfl rfl rfl rfl) ?_
                refine .v rfl rfl (O.pickF rfl rfl rfl rfl) ?_
                refine .v rfl rfl (OpL.move (.inl rfl) rfl) ?_
                refine .x rfl (unmet rfl rfl rfl rfl) ?_
                refine .x rfl (unmet rfl rfl rfl rfl) ?_
                refine .x rfl (unmet rfl rfl rfl rfl) ?_
                refine .v rfl rfl (O.pickF rfl rfl rfl rfl) ?_
                refine .v rfl rfl (OpL.move (.inl rfl) rfl) ?_
                refine .x rfl (unmet rfl rfl rfl rfl) ?_
                refine .v rfl rfl (O.pickF rfl rfl rfl rfl) ?_
                refine .v rfl rfl (OpL.move (.inr rfl) rfl) ?_
                refine .nil ?_
                exact toN (Gives.mkR [] (.c rfl (sbb (by simp only [g24, g25, g26, g27, g28, Bool.true_or, Bool.or_true, Bool.false_or, Bool.or_false, Bool.true_and, Bool.and_true, Bool.false_and, Bool.and_false, Bool.not_true, Bool.not_false, cond_true, cond_false])) rfl .n) .n rfl rfl rfl)
            · refine W.pk ?_
              refine .v rfl rfl (OpL.move (.inl rfl) rfl) ?_
              refine .v rfl rfl (OpL.move (.inl rfl) rfl) ?_
              refine .v rfl rfl (OpL.binI rfl rfl rfl rfl) ?_
              refine .v rfl rfl (OpL.move (.inl rfl) rfl) ?_
              refine .v rfl (met rfl rfl rfl g24) (OpL.move (.inl rfl) rfl) ?_
              refine .v rfl (met rfl rfl rfl g24) (OpL.move (.inl rfl) rfl) ?_
              refine .v rfl (met rfl rfl rfl g24) (OpL.binI rfl rfl rfl rfl) ?_
              refine .v rfl rfl (O.pickT g24 rfl rfl rfl) ?_
              refine .v rfl rfl (OpL.move (.inl rfl) rfl) ?_
              refine .v rfl (met rfl rfl rfl g25) (OpL.move (.inl rfl) rfl) ?_
              refine .v rfl (met rfl rfl rfl g25) (OpL.move (.inl rfl) rfl) ?_
              refine .v rfl (met rfl rfl rfl g25) (OpL.binI rfl rfl rfl rfl) ?_
              refine .v rfl rfl (O.pickT g25 rfl rfl rfl) ?_
              refine .v rfl rfl (OpL.move (.inl rfl) rfl) ?_
              refine .v rfl (met rfl rfl rfl g26) (OpL.move (.inl rfl) rfl) ?_
              refine .v rfl (met rfl rfl rfl g26) (OpL.move (.inl rfl) rfl) ?_
              refine .v rfl (met rfl rfl rfl g26) (OpL.binI rfl rfl rfl rfl) ?_
              refine .v rfl rfl (O.pickT g26 rfl rfl rfl) ?_
              refine .v rfl rfl (OpL.move (.inl rfl) rfl) ?_
              refine .x rfl (unmet rfl rfl rfl g27) ?_
              refine .x rfl (unmet rfl rfl rfl g27) ?_
              refine .x rfl (unmet rfl rfl rfl g27) ?_
              refine .v rfl rfl (O.pickF g27 rfl rfl rfl) ?_
              refine .v rfl rfl (OpL.move (.inl rfl) rfl) ?_
              refine .x rfl (unmet rfl rfl rfl rfl) ?_
              refine .x rfl (unmet rfl rfl rfl rfl) ?_
              refine .x rfl (unmet rfl rfl rfl rfl) ?_
              refine .v rfl rfl (O.pickF rfl rfl rfl rfl) ?_
              refine .v rfl rfl (OpL.move (.inl rfl) rfl) ?_
              refine .x rfl (unmet rfl rfl rfl rfl) ?_
              refine .x rfl (unmet rfl rfl rfl rfl) ?_
              refine .x rfl (unmet rfl rfl rfl rfl) ?_
              refine .v rfl rfl (O.pickF rfl rfl rfl rfl) ?_
              refine .v rfl rfl (OpL.move (.inl rfl) rfl) ?_
              refine .x rfl (unmet rfl rfl rfl rfl) ?_
              refine .x rfl (unmet rfl rfl rfl rfl) ?_
              refine .x rfl (unmet rfl rfl rfl rfl) ?_
              refine .v rfl rfl (O.pickF rfl rfl rfl rfl) ?_
              refine .v rfl rfl (OpL.move (.inl rfl) rfl) ?_
              refine .x rfl (unmet rfl rfl rfl rfl) ?_
              refine .v rfl rfl (O.pickF rfl rfl rfl rfl) ?_
              refine .v rfl rfl (OpL.move (.inr rfl) rfl) ?_
              refine .nil ?_
              exact toN (Gives.mkR [] (.c rfl (sbb (by simp only [g24, g25, g26, g27, Bool.true_or, Bool.or_true, Bool.false_or, Bool.or_false, Bool.true_and, Bool.and_true, Bool.false_and, Bool.and_false, Bool.not_true, Bool.not_false, cond_true, cond_false])) rfl .n) .n rfl rfl rfl)
          · refine W.pk ?_
            refine .v rfl rfl (OpL.move (.inl rfl) rfl) ?_
            refine .v rfl rfl (OpL.move (.inl rfl) rfl) ?_
            refine .v rfl rfl (OpL.binI rfl rfl rfl rfl) ?_
            refine .v rfl rfl (OpL.move (.inl rfl) rfl) ?_
            refine .v rfl (met rfl rfl rfl g24) (OpL.move (.inl rfl) rfl) ?_
            refine .v rfl (met rfl rfl rfl g24) (OpL.move (.inl rfl) rfl) ?_
            refine .v rfl (met rfl rfl rfl g24) (OpL.binI rfl rfl rfl rfl) ?_
            refine .v rfl rfl (O.pickT g24 rfl rfl rfl) ?_
            refine .v rfl rfl (OpL.move (.inl rfl) rfl) ?_
            refine .v rfl (met rfl rfl rfl g25) (OpL.move (.inl rfl) rfl) ?_
            refine .v rfl (met rfl rfl rfl g25) (OpL.move (.inl rfl) rfl) ?_
            refine .v rfl (met rfl rfl rfl g25) (OpL.binI rfl rfl rfl rfl) ?_
            refine .v rfl rfl (O.pickT g25 rfl rfl rfl) ?_
            refine .v rfl rfl (OpL.move (.inl rfl) rfl) ?_
            refine .x rfl (unmet rfl rfl rfl g26) ?_
            refine .x rfl (unmet rfl rfl rfl g26) ?_
            refine .x rfl (unmet rfl rfl rfl g26) ?_
            refine .v rfl rfl (O.pickF g26 rfl rfl rfl) ?_
            refine .v rfl rfl (OpL.move (.inl rfl) rfl) ?_
            refine .x rfl (unmet rfl rfl rfl rfl) ?_
            refine .x rfl (unmet rfl rfl rfl rfl) ?_
            refine .x rfl (unmet rfl rfl rfl rfl) ?_
            refine .v rfl rfl (O.pickF rfl rfl rfl rfl) ?_
            refine .v rfl rfl (OpL.move (.inl rfl) rfl) ?_
            refine .x rfl (unmet rfl rfl rfl rfl) ?_
            refine .x rfl (unmet rfl rfl rfl rfl) ?_
            refine .x rfl (unmet rfl rfl rfl rfl) ?_
            refine .v rfl rfl (O.pickF rfl rfl rfl rfl) ?_
            refine .v rfl rfl (OpL.move (.inl rfl) rfl) ?_
            refine .x rfl (unmet rfl rfl rfl rfl) ?_
            refine .x rfl (unmet rfl rfl rfl rfl) ?_
            refine .x rfl (unmet rfl rfl rfl rfl) ?_
            refine .v rfl rfl (O.pickF rfl rfl rfl rfl) ?_
            refine .v rfl rfl (OpL.move (.inl rfl) rfl) ?_
            refine .x rfl (unmet rfl rfl rfl rfl) ?_
            refine .x rfl (unmet rfl rfl rfl rfl) ?_
            refine .x rfl (unmet rfl rfl rfl rfl) ?_
            refine .v rfl rfl (O.pickF rfl rfl rfl rfl) ?_
            refine .v rfl rfl (OpL.move (.inl rfl) rfl) ?_
            refine .x rfl (unmet rfl rfl rfl rfl) ?_
            refine .v rfl rfl (O.pickF rfl rfl rfl rfl) ?_
            refine .v rfl rfl (OpL.move (.inr rfl) rfl) ?_
            refine .nil ?_
            exact toN (Gives.mkR [] (.c rfl (sbb (by simp only [g24, g25, g26, Bool.true_or, Bool.or_true, Bool.false_or, Bool.or_false, Bool.true_and, Bool.and_true, Bool.false_and, Bool.and_false, Bool.not_true, Bool.not_false, cond_true, cond_false])) rfl .n) .n rfl rfl rfl)
        · refine W.pk ?_
          refine .v rfl rfl (OpL.move (.inl rfl) rfl) ?_
          refine .v rfl rfl (OpL.move (.inl rfl) rfl) ?_
          refine .v rfl rfl (OpL.binI rfl rfl rfl rfl) ?_
          refine .v rfl rfl (OpL.move (.inl rfl) rfl) ?_
          refine .v rfl (met rfl rfl rfl g24) (OpL.move (.inl rfl) rfl) ?_
          refine .v rfl (met rfl rfl rfl g24) (OpL.move (.inl rfl) rfl) ?_
          refine .v rfl (met rfl rfl rfl g24) (OpL.binI rfl rfl rfl rfl) ?_
          refine .v rfl rfl (O.pickT g24 rfl rfl rfl) ?_
          refine .v rfl rfl (OpL.move (.inl rfl) rfl) ?_
          refine .x rfl (unmet rfl rfl rfl g25) ?_
          refine .x rfl (unmet rfl rfl rfl g25) ?_
          refine .x rfl (unmet rfl rfl rfl g25) ?_
          refine .v rfl rfl (O.pickF g25 rfl rfl rfl) ?_
          refine .v rfl rfl (OpL.move (.inl rfl) rfl) ?_
          refine .x rfl (unmet rfl rfl rfl rfl) ?_
          refine .x rfl (unmet rfl rfl rfl rfl) ?_
          refine .x rfl (unmet rfl rfl rfl rfl) ?_
          refine .v rfl rfl (O.pickF rfl rfl rfl rfl) ?_
          refine .v rfl rfl (OpL.move (.inl rfl) rfl) ?_
          refine .x rfl (unmet rfl rfl rfl rfl) ?_
          refine .x rfl (unmet rfl rfl rfl rfl) ?_
          refine .x rfl (unmet rfl rfl rfl rfl) ?_
          refine .v rfl rfl (O.pickF rfl rfl rfl rfl) ?_
          refine .v rfl rfl (OpL.move (.inl rfl) rfl) ?_
          refine .x rfl (unmet rfl rfl rfl rfl) ?_
          refine .x rfl (unmet rfl rfl rfl rfl) ?_
          refine .x rfl (unmet rfl rfl rfl rfl) ?_
          refine .v rfl rfl (O.pickF rfl rfl rfl rfl) ?_
          refine .v rfl rfl (OpL.move (.inl rfl) rfl) ?_
          refine .x rfl (unmet rfl rfl rfl rfl) ?_
          refine .x rfl (unmet rfl rfl rfl rfl) ?_
          refine .x rfl (unmet rfl rfl rfl rfl) ?_
          refine .v rfl rfl (O.pickF rfl rfl rfl rfl) ?_
          refine .v rfl rfl (OpL.move (.inl rfl) rfl) ?_
          refine .x rfl (unmet rfl rfl rfl rfl) ?_
          refine .x rfl (unmet rfl rfl rfl rfl) ?_
          refine .x rfl (unmet rfl rfl rfl rfl) ?_
          refine .v rfl rfl (O.pickF rfl rfl rfl rfl) ?_
          refine .v rfl rfl (OpL.move (.inl rfl) rfl) ?_
          refine .x rfl (unmet rfl rfl rfl rfl) ?_
          refine .v rfl rfl (O.pickF rfl rfl rfl rfl) ?_
          refine .v rfl rfl (OpL.move (.inr rfl) rfl) ?_
          refine .nil ?_
          exact toN (Gives.mkR [] (.c rfl (sbb (by simp only [g24, g25, Bool.true_or, Bool.or_true, Bool.false_or, Bool.or_false, Bool.true_and, Bool.and_true, Bool.false_and, Bool.and_false, Bool.not_true, Bool.not_false, cond_true, cond_false])) rfl .n) .n rfl rfl rfl)
      · refine W.pk ?_
        refine .v rfl rfl (OpL.move (.inl rfl) rfl) ?_
        refine .v rfl rfl (OpL.move (.inl rfl) rfl) ?_
        refine .v rfl rfl (OpL.binI rfl rfl rfl rfl) ?_
        refine .v rfl rfl (OpL.move (.inl rfl) rfl) ?_
        refine .x rfl (unmet rfl rfl rfl g24) ?_
        refine .x rfl (unmet rfl rfl rfl g24) ?_
        refine .x rfl (unmet rfl rfl rfl g24) ?_
        refine .v rfl rfl (O.pickF g24 rfl rfl rfl) ?_
        refine .v rfl rfl (OpL.move (.inl rfl) rfl) ?_
        refine .x rfl (unmet rfl rfl rfl rfl) ?_
        refine .x rfl (unmet rfl rfl rfl rfl) ?_
        refine .x rfl (unmet rfl rfl rfl rfl) ?_
        refine .v rfl rfl (O.pickF rfl rfl rfl rfl) ?_
        refine .v rfl rfl (OpL.move (.inl rfl) rfl) ?_
        refine .x rfl (unmet rfl rfl rfl rfl) ?_
        refine .x rfl (unmet rfl rfl rfl rfl) ?_
        refine .x rfl (unmet rfl rfl rfl rfl) ?_
        refine .v rfl rfl (O.pickF rfl rfl rfl rfl) ?_
        refine .v rfl rfl (OpL.move (.inl rfl) rfl) ?_
        refine .x rfl (unmet rfl rfl rfl rfl) ?_
        refine .x rfl (unmet rfl rfl rfl rfl) ?_
        refine .x rfl (unmet rfl rfl rfl rfl) ?_
        refine .v rfl rfl (O.pickF rfl rfl rfl rfl) ?_
        refine .v rfl rfl (OpL.move (.inl rfl) rfl) ?_
        refine .x rfl (unmet rfl rfl rfl rfl) ?_
        refine .x rfl (unmet rfl rfl rfl rfl) ?_
        refine .x rfl (unmet rfl rfl rfl rfl) ?_
        refine .v rfl rfl (O.pickF rfl rfl rfl rfl) ?_
        refine .v rfl rfl (OpL.move (.inl rfl) rfl) ?_
        refine .x rfl (unmet rfl rfl rfl rfl) ?_
        refine .x rfl (unmet rfl rfl rfl rfl) ?_
        refine .x rfl (unmet rfl rfl rfl rfl) ?_
        refine .v rfl rfl (O.pickF rfl rfl rfl rfl) ?_
        refine .v rfl rfl (OpL.move (.inl rfl) rfl) ?_
        refine .x rfl (unmet rfl rfl rfl rfl) ?_
        refine .x rfl (unmet rfl rfl rfl rfl) ?_
        refine .x rfl (unmet rfl rfl rfl rfl) ?_
        refine .v rfl rfl (O.pickF rfl rfl rfl rfl) ?_
        refine .v rfl rfl (OpL.move (.inl rfl) rfl) ?_
        refine .x rfl (unmet rfl rfl rfl rfl) ?_
        refine .v rfl rfl (O.pickF rfl rfl rfl rfl) ?_
        refine .v rfl rfl (OpL.move (.inr rfl) rfl) ?_
        refine .nil ?_
        exact toN (Gives.mkR [] (.c rfl (sbb (by simp only [g24, Bool.true_or, Bool.or_true, Bool.false_or, Bool.or_false, Bool.true_and, Bool.and_true, Bool.false_and, Bool.and_false, Bool.not_true, Bool.not_false, cond_true, cond_false])) rfl .n) .n rfl rfl rfl)
end Go.Proofs.Ytknfdnlhadjbaaa
