/- Shows what functions of the program come to, each as a plain function: written by a program of the author's for this claim. -/
import Derived.Test.YtlgfdldonoaahaaTy
namespace Go.Proofs.Ytlgfdldonoaahaa
open Go Go.Pm
set_option linter.unusedVariables false
set_option linter.unusedSimpArgs false
noncomputable def lombardlaw25_short.f (x0 : lombardref25_Covered) : Option (Bool) :=
  some ((decide ((List.length x0.Lots : Int) ≤ 80)) && (decide ((List.length x0.Trade.Resets : Int) ≤ 80)))
set_option maxRecDepth 100000 in
set_option maxHeartbeats 4000000 in
theorem lombardlaw25_short.ok {x0 : lombardref25_Covered} {r : Bool} (h : lombardlaw25_short.f x0 = some r) : Pm.Spec prog 8 [.agg [.imm (.val (.int .i64 x0.Trade.ID)), .imm (.val (.int .i64 x0.Trade.Twin)), .imm (.val (.int .i64 x0.Trade.Member)), .imm (.val (.int .i64 x0.Trade.Side)), .imm (.val (.int .i64 x0.Trade.Basket)), .imm (.val (.int .i64 x0.Trade.Amount)), .imm (.val (.int .i64 x0.Trade.Start)), .imm (.val (.int .i64 x0.Trade.End)), .imm (.row 2 (List.map api_Reset.enc x0.Trade.Resets)), .imm (.val (.int .i64 x0.Trade.Stage)), .imm (.val (.bool x0.Trade.Short)), .imm (.row 2 (List.map api_Lot.enc x0.Lots))]] (.imm (.val (.bool r))) [none] := by
  unfold lombardlaw25_short.f at h
  refine Pm.Spec.of_body Try.func8 rfl (by kernel_rfl) (Nat.le_of_ble_eq_true rfl) (Nat.le_of_ble_eq_true rfl) ?_
  refine W.ghost (σ' := (mkSt [(0, some (.agg [.imm (.val (.int .i64 x0.Trade.ID)), .imm (.val (.int .i64 x0.Trade.Twin)), .imm (.val (.int .i64 x0.Trade.Member)), .imm (.val (.int .i64 x0.Trade.Side)), .imm (.val (.int .i64 x0.Trade.Basket)), .imm (.val (.int .i64 x0.Trade.Amount)), .imm (.val (.int .i64 x0.Trade.Start)), .imm (.val (.int .i64 x0.Trade.End)), .imm (.row 2 (List.map api_Reset.enc x0.Trade.Resets)), .imm (.val (.int .i64 x0.Trade.Stage)), .imm (.val (.bool x0.Trade.Short)), .imm (.row 2 (List.map api_Lot.enc x0.Lots))]))] [] 1000)) (Gives.entry (.c rfl .n) .n) ?_
  refine W.seq ?_
  refine W.pk ?_
  refine .t rfl rfl (O.box rfl rfl rfl rfl rfl) ?_
  refine .v rfl rfl (OpL.move (.inr rfl) rfl) ?_
  refine .nil ?_
  refine W.seq ?_
  refine W.fork (mkSt [(2, some (.imm (.val (.bool ((decide ((List.length x0.Lots : Int) ≤ 80)) && (decide ((List.length x0.Trade.Resets : Int) ≤ 80)))))))] [] 1001) ?_ ?_
  · refine W.ret ?_
    cases h
    exact leaves (.inr rfl) rfl (.imm _) (cN .nil) rfl rfl
  · clear h
    rcases tf (decide ((List.length x0.Lots : Int) ≤ 80)) with g1 | g1
    · refine W.pk ?_
      refine .v rfl rfl (O.fld fld27_1 rfl rfl rfl) ?_
      refine .v rfl rfl (O.ld ty25 rfl rfl rfl) ?_
      refine .v rfl rfl (O.lenR sl25 rfl rfl) ?_
      refine .v rfl rfl (OpL.binI rfl rfl rfl rfl) ?_
      refine .v rfl rfl (OpL.move (.inl rfl) rfl) ?_
      refine .v rfl (met rfl rfl rfl g1) (O.fld fld27_0 rfl rfl rfl) ?_
      refine .v rfl (met rfl rfl rfl g1) (O.fld fld24_8 rfl rfl rfl) ?_
      refine .v rfl (met rfl rfl rfl g1) (O.ld ty22 rfl rfl rfl) ?_
      refine .v rfl (met rfl rfl rfl g1) (O.lenR sl22 rfl rfl) ?_
      refine .v rfl (met rfl rfl rfl g1) (OpL.binI rfl rfl rfl rfl) ?_
      refine .v rfl rfl (O.pickT g1 rfl rfl rfl) ?_
      refine .v rfl rfl (OpL.move (.inr rfl) rfl) ?_
      refine .nil ?_
      exact toN (Gives.mkR [] (.c rfl (sbb (by simp only [g1, Bool.true_or, Bool.or_true, Bool.false_or, Bool.or_false, Bool.true_and, Bool.and_true, Bool.false_and, Bool.and_false, Bool.not_true, Bool.not_false, cond_true, cond_false])) rfl .n) .n rfl rfl rfl)
    · refine W.pk ?_
      refine .v rfl rfl (O.fld fld27_1 rfl rfl rfl) ?_
      refine .v rfl rfl (O.ld ty25 rfl rfl rfl) ?_
      refine .v rfl rfl (O.lenR sl25 rfl rfl) ?_
      refine .v rfl rfl (OpL.binI rfl rfl rfl rfl) ?_
      refine .v rfl rfl (OpL.move (.inl rfl) rfl) ?_
      refine .x rfl (unmet rfl rfl rfl g1) ?_
      refine .x rfl (unmet rfl rfl rfl g1) ?_
      refine .x rfl (unmet rfl rfl rfl g1) ?_
      refine .x rfl (unmet rfl rfl rfl g1) ?_
      refine .x rfl (unmet rfl rfl rfl g1) ?_
      refine .v rfl rfl (O.pickF g1 rfl rfl rfl) ?_
      refine .v rfl rfl (OpL.move (.inr rfl) rfl) ?_
      refine .nil ?_
      exact toN (Gives.mkR [] (.c rfl (sbb (by simp only [g1, Bool.true_or, Bool.or_true, Bool.false_or, Bool.or_false, Bool.true_and, Bool.and_true, Bool.false_and, Bool.and_false, Bool.not_true, Bool.not_false, cond_true, cond_false])) rfl .n) .n rfl rfl rfl)

noncomputable def lombardlaw25_some.f  : Option (lombardref25_Covered) :=
  some (⟨(⟨1, 2, 1, 1, 1, 100, 0, 0, [(⟨0, 0⟩ : api_Reset)], 1, false⟩ : api_Trade), [(⟨[65], 7⟩ : api_Lot)]⟩ : lombardref25_Covered)
set_option maxRecDepth 100000 in
set_option maxHeartbeats 4000000 in
theorem lombardlaw25_some.ok  {r : lombardref25_Covered} (h : lombardlaw25_some.f  = some r) : Pm.Spec prog 26 [] (.agg [.imm (.val (.int .i64 r.Trade.ID)), .imm (.val (.int .i64 r.Trade.Twin)), .imm (.val (.int .i64 r.Trade.Member)), .imm (.val (.int .i64 r.Trade.Side)), .imm (.val (.int .i64 r.Trade.Basket)), .imm (.val (.int .i64 r.Trade.Amount)), .imm (.val (.int .i64 r.Trade.Start)), .imm (.val (.int .i64 r.Trade.End)), .imm (.row 2 (List.map api_Reset.enc r.Trade.Resets)), .imm (.val (.int .i64 r.Trade.Stage)), .imm (.val (.bool r.Trade.Short)), .imm (.row 2 (List.map api_Lot.enc r.Lots))]) [] := by
  unfold lombardlaw25_some.f at h
  refine Pm.Spec.of_body Try.func26 rfl (by kernel_rfl) (Nat.le_of_ble_eq_true rfl) (Nat.le_of_ble_eq_true rfl) ?_
  refine W.ghost (σ' := (mkSt [] [] 1000)) (Gives.entry .n .n) ?_
  refine W.seq ?_
  refine W.pk ?_
  refine .t rfl rfl (O.alloc z27 rfl) ?_
  refine .nil ?_
  refine W.seq ?_
  refine W.pk ?_
  refine .v rfl rfl (O.build (out := [.imm (.val (.int .i64 0)), .imm (.val (.int .i64 0))]) bl75 rfl rfl rfl rfl rfl) ?_
  refine .t rfl rfl (O.lit (enc := api_Reset.enc) (l := [(⟨0, 0⟩ : api_Reset)]) sl22 rfl rfl rfl rfl rfl rfl rfl rfl rfl) ?_
  refine .v rfl rfl (O.build (out := [.imm (.val (.int .i64 1)), .imm (.val (.int .i64 2)), .imm (.val (.int .i64 1)), .imm (.val (.int .i64 1)), .imm (.val (.int .i64 1)), .imm (.val (.int .i64 100)), .imm (.val (.int .i64 0)), .imm (.val (.int .i64 0)), .own 1001, .imm (.val (.int .i64 1)), .imm (.val (.bool false))]) bl24 rfl rfl rfl rfl rfl) ?_
  refine .v rfl rfl (O.build (out := [.imm (.val (.string (tx [65]))), .imm (.val (.int .i64 7))]) bl44 rfl rfl rfl rfl rfl) ?_
  refine .t rfl rfl (O.lit (enc := api_Lot.enc) (l := [(⟨[65], 7⟩ : api_Lot)]) sl25 rfl rfl rfl rfl rfl rfl rfl rfl rfl) ?_
  refine .v rfl rfl (O.build (out := [.imm (.val (.int .i64 1)), .imm (.val (.int .i64 2)), .imm (.val (.int .i64 1)), .imm (.val (.int .i64 1)), .imm (.val (.int .i64 1)), .imm (.val (.int .i64 100)), .imm (.val (.int .i64 0)), .imm (.val (.int .i64 0)), .own 1001, .imm (.val (.int .i64 1)), .imm (.val (.bool false)), .own 1002]) bl27 rfl rfl rfl rfl rfl) ?_
  refine .s rfl rfl (O.st ty27 rfl rfl rfl rfl rfl rfl rfl rfl rfl rfl (all' := [.imm (.val (.int .i64 1)), .imm (.val (.int .i64 2)), .imm (.val (.int .i64 1)), .imm (.val (.int .i64 1)), .imm (.val (.int .i64 1)), .imm (.val (.int .i64 100)), .imm (.val (.int .i64 0)), .imm (.val (.int .i64 0)), .own 1001, .imm (.val (.int .i64 1)), .imm (.val (.bool false)), .own 1002]) rfl) ?_
  refine .nil ?_
  refine W.ret ?_
  cases h
  exact leaves (.inr rfl) rfl (.agg _ _ _ _ (cC (.imm _) (cC (.imm _) (cC (.imm _) (cC (.imm _) (cC (.imm _) (cC (.imm _) (cC (.imm _) (cC (.imm _) (cC (.lend _ _ _ _ _ rfl) (cC (.imm _) (cC (.imm _) (cC (.lend _ _ _ _ _ rfl) .nil))))))))))))) .nil rfl rfl

noncomputable def lombardlaw25_of.f (x0 : lombardref25_Covered) : Option (leg_Covered) :=
  some (⟨x0.Trade, x0.Lots⟩ : leg_Covered)
set_option maxRecDepth 100000 in
set_option maxHeartbeats 4000000 in
theorem lombardlaw25_of.ok {x0 : lombardref25_Covered} {r : leg_Covered} (h : lombardlaw25_of.f x0 = some r) : Pm.Spec prog 10 [.agg [.imm (.val (.int .i64 x0.Trade.ID)), .imm (.val (.int .i64 x0.Trade.Twin)), .imm (.val (.int .i64 x0.Trade.Member)), .imm (.val (.int .i64 x0.Trade.Side)), .imm (.val (.int .i64 x0.Trade.Basket)), .imm (.val (.int .i64 x0.Trade.Amount)), .imm (.val (.int .i64 x0.Trade.Start)), .imm (.val (.int .i64 x0.Trade.End)), .imm (.row 2 (List.map api_Reset.enc x0.Trade.Resets)), .imm (.val (.int .i64 x0.Trade.Stage)), .imm (.val (.bool x0.Trade.Short)), .imm (.row 2 (List.map api_Lot.enc x0.Lots))]] (.agg [.imm (.val (.int .i64 r.Trade.ID)), .imm (.val (.int .i64 r.Trade.Twin)), .imm (.val (.int .i64 r.Trade.Member)), .imm (.val (.int .i64 r.Trade.Side)), .imm (.val (.int .i64 r.Trade.Basket)), .imm (.val (.int .i64 r.Trade.Amount)), .imm (.val (.int .i64 r.Trade.Start)), .imm (.val (.int .i64 r.Trade.End)), .imm (.row 2 (List.map api_Reset.enc r.Trade.Resets)), .imm (.val (.int .i64 r.Trade.Stage)), .imm (.val (.bool r.Trade.Short)), .imm (.row 2 (List.map api_Lot.enc r.Lots))]) [none] := by
  unfold lombardlaw25_of.f at h
  refine Pm.Spec.of_body Try.func10 rfl (by kernel_rfl) (Nat.le_of_ble_eq_true rfl) (Nat.le_of_ble_eq_true rfl) ?_
  refine W.ghost (σ' := (mkSt [(0, some (.agg [.imm (.val (.int .i64 x0.Trade.ID)), .imm (.val (.int .i64 x0.Trade.Twin)), .imm (.val (.int .i64 x0.Trade.Member)), .imm (.val (.int .i64 x0.Trade.Side)), .imm (.val (.int .i64 x0.Trade.Basket)), .imm (.val (.int .i64 x0.Trade.Amount)), .imm (.val (.int .i64 x0.Trade.Start)), .imm (.val (.int .i64 x0.Trade.End)), .imm (.row 2 (List.map api_Reset.enc x0.Trade.Resets)), .imm (.val (.int .i64 x0.Trade.Stage)), .imm (.val (.bool x0.Trade.Short)), .imm (.row 2 (List.map api_Lot.enc x0.Lots))]))] [] 1000)) (Gives.entry (.c rfl .n) .n) ?_
  refine W.seq ?_
  refine W.pk ?_
  refine .t rfl rfl (O.box rfl rfl rfl rfl rfl) ?_
  refine .t rfl rfl (O.alloc z34 rfl) ?_
  refine .nil ?_
  refine W.seq ?_
  refine W.pk ?_
  refine .v rfl rfl (O.fld fld27_0 rfl rfl rfl) ?_
  refine .v rfl rfl (O.ldN ty24 rfl rfl rfl) ?_
  refine .v rfl rfl (O.fld fld27_1 rfl rfl rfl) ?_
  refine .v rfl rfl (O.ld ty25 rfl rfl rfl) ?_
  refine .v rfl rfl (O.build (out := [.imm (.val (.int .i64 x0.Trade.ID)), .imm (.val (.int .i64 x0.Trade.Twin)), .imm (.val (.int .i64 x0.Trade.Member)), .imm (.val (.int .i64 x0.Trade.Side)), .imm (.val (.int .i64 x0.Trade.Basket)), .imm (.val (.int .i64 x0.Trade.Amount)), .imm (.val (.int .i64 x0.Trade.Start)), .imm (.val (.int .i64 x0.Trade.End)), .imm (.row 2 (List.map api_Reset.enc x0.Trade.Resets)), .imm (.val (.int .i64 x0.Trade.Stage)), .imm (.val (.bool x0.Trade.Short)), .imm (.row 2 (List.map api_Lot.enc x0.Lots))]) bl34 rfl rfl rfl rfl rfl) ?_
  refine .s rfl rfl (O.st ty34 rfl rfl rfl rfl rfl rfl rfl rfl rfl rfl (all' := [.imm (.val (.int .i64 x0.Trade.ID)), .imm (.val (.int .i64 x0.Trade.Twin)), .imm (.val (.int .i64 x0.Trade.Member)), .imm (.val (.int .i64 x0.Trade.Side)), .imm (.val (.int .i64 x0.Trade.Basket)), .imm (.val (.int .i64 x0.Trade.Amount)), .imm (.val (.int .i64 x0.Trade.Start)), .imm (.val (.int .i64 x0.Trade.End)), .imm (.row 2 (List.map api_Reset.enc x0.Trade.Resets)), .imm (.val (.int .i64 x0.Trade.Stage)), .imm (.val (.bool x0.Trade.Short)), .imm (.row 2 (List.map api_Lot.enc x0.Lots))]) rfl) ?_
  refine .nil ?_
  refine W.ret ?_
  cases h
  exact leaves (.inr rfl) rfl (.agg _ _ _ _ (cC (.imm _) (cC (.imm _) (cC (.imm _) (cC (.imm _) (cC (.imm _) (cC (.imm _) (cC (.imm _) (cC (.imm _) (cC (.imm _) (cC (.imm _) (cC (.imm _) (cC (.imm _) .nil))))))))))))) (cN .nil) rfl rfl

noncomputable def calendar_Good.f (x0 : Int) : Option (Bool) :=
  some ((decide (x0 ≥ 0)) && (decide (x0 ≤ 200000)))
set_option maxRecDepth 100000 in
set_option maxHeartbeats 4000000 in
theorem calendar_Good.ok {x0 : Int} {r : Bool} (h : calendar_Good.f x0 = some r) : Pm.Spec prog 44 [.imm (.val (.int .i64 x0))] (.imm (.val (.bool r))) [none] := by
  unfold calendar_Good.f at h
  refine Pm.Spec.of_body Try.func44 rfl (by kernel_rfl) (Nat.le_of_ble_eq_true rfl) (Nat.le_of_ble_eq_true rfl) ?_
  refine W.ghost (σ' := (mkSt [(0, some (.imm (.val (.int .i64 x0))))] [] 1000)) (Gives.entry (.c rfl .n) .n) ?_
  refine W.seq ?_
  refine W.pk ?_
  refine .v rfl rfl (OpL.move (.inr rfl) rfl) ?_
  refine .nil ?_
  refine W.seq ?_
  refine W.fork (mkSt [(2, some (.imm (.val (.bool ((decide (x0 ≥ 0)) && (decide (x0 ≤ 200000)))))))] [] 1000) ?_ ?_
  · refine W.ret ?_
    cases h
    exact leaves (.inr rfl) rfl (.imm _) (cN .nil) rfl rfl
  · clear h
    rcases tf (decide (x0 ≥ 0)) with g1 | g1
    · refine W.pk ?_
      refine .v rfl rfl (OpL.move (.inl rfl) rfl) ?_
      refine .v rfl rfl (OpL.binI rfl rfl rfl rfl) ?_
      refine .v rfl rfl (OpL.move (.inl rfl) rfl) ?_
      refine .v rfl (met rfl rfl rfl g1) (OpL.move (.inl rfl) rfl) ?_
      refine .v rfl (met rfl rfl rfl g1) (OpL.binI rfl rfl rfl rfl) ?_
      refine .v rfl rfl (O.pickT g1 rfl rfl rfl) ?_
      refine .v rfl rfl (OpL.move (.inr rfl) rfl) ?_
      refine .nil ?_
      exact toN (Gives.mkR [] (.c rfl (sbb (by simp only [g1, Bool.true_or, Bool.or_true, Bool.false_or, Bool.or_false, Bool.true_and, Bool.and_true, Bool.false_and, Bool.and_false, Bool.not_true, Bool.not_false, cond_true, cond_false])) rfl .n) .n rfl rfl rfl)
    · refine W.pk ?_
      refine .v rfl rfl (OpL.move (.inl rfl) rfl) ?_
      refine .v rfl rfl (OpL.binI rfl rfl rfl rfl) ?_
      refine .v rfl rfl (OpL.move (.inl rfl) rfl) ?_
      refine .x rfl (unmet rfl rfl rfl g1) ?_
      refine .x rfl (unmet rfl rfl rfl g1) ?_
      refine .v rfl rfl (O.pickF g1 rfl rfl rfl) ?_
      refine .v rfl rfl (OpL.move (.inr rfl) rfl) ?_
      refine .nil ?_
      exact toN (Gives.mkR [] (.c rfl (sbb (by simp only [g1, Bool.true_or, Bool.or_true, Bool.false_or, Bool.or_false, Bool.true_and, Bool.and_true, Bool.false_and, Bool.and_false, Bool.not_true, Bool.not_false, cond_true, cond_false])) rfl .n) .n rfl rfl rfl)

noncomputable def accrue_Check.b0 (x0 : List api_Reset) (v13 : Int) : Option (Int ⊕ (Int ⊕ Unit)) :=
  if (decide (v13 < (List.length x0 : Int))) = true then
    if (0 : Int) ≤ v13 ∧ v13 < (List.length x0 : Int) then
    (calendar_Good.f ((nth x0 v13).Day)).bind fun t40 =>
    if ((!t40) = false ∧ (decide (v13 > 0)) = true → (0 : Int) ≤ (IntKind.wrap .i64 (v13 - 1)) ∧ (IntKind.wrap .i64 (v13 - 1)) < (List.length x0 : Int)) then
    if ((!t40) || ((decide (v13 > 0)) && (decide (((nth x0 v13).Day) ≤ ((nth x0 (IntKind.wrap .i64 (v13 - 1))).Day))))) = true then
      some (.inr (.inl 10))
    else
      if ((decide (((nth x0 v13).Rate) < (-1000000))) || (decide (((nth x0 v13).Rate) > 1000000))) = true then
        some (.inr (.inl 1))
      else
        some (.inl (IntKind.wrap .i64 (v13 + 1)))
    else none
    else none
  else
    some (.inr (.inr ()))
noncomputable def accrue_Check.r0 (x0 : List api_Reset) (s : Int) : Option (Int ⊕ (Int ⊕ Unit)) := accrue_Check.b0 x0 s
noncomputable def accrue_Check.f (x0 : List api_Reset) : Option (Int) :=
  if ((List.length x0 : Int) == 0) = true then
    some 6
  else
    if (decide ((List.length x0 : Int) > 64)) = true then
      some 2
    else
      (loop (accrue_Check.r0 x0) 0).bind fun o35 =>
      match o35 with
      | .inl r48 => some r48
      | .inr w34 =>
        some 0
set_option maxRecDepth 100000 in
set_option maxHeartbeats 4000000 in
theorem accrue_Check.ok {x0 : List api_Reset} {r : Int} (h : accrue_Check.f x0 = some r) : Pm.Spec prog 62 [.imm (.row 2 (List.map api_Reset.enc x0))] (.imm (.val (.int .i64 r))) [none] := by
  unfold accrue_Check.f at h
  refine Pm.Spec.of_body Try.func62 rfl (by kernel_rfl) (Nat.le_of_ble_eq_true rfl) (Nat.le_of_ble_eq_true rfl) ?_
  refine W.ghost (σ' := (mkSt [(0, some (.imm (.row 2 (List.map api_Reset.enc x0))))] [] 1000)) (Gives.entry (.c rfl .n) .n) ?_
  refine W.seq ?_
  refine W.pk ?_
  refine .v rfl rfl (OpL.move (.inr rfl) rfl) ?_
  refine .nil ?_
  refine W.seq ?_
  refine W.block ?_
  refine W.seq ?_
  refine W.pk ?_
  refine .v rfl rfl (OpL.move (.inl rfl) rfl) ?_
  refine .v rfl rfl (O.lenR sl22 rfl rfl) ?_
  refine .v rfl rfl (OpL.binI rfl rfl rfl rfl) ?_
  refine .v rfl rfl (OpL.move (.inr rfl) rfl) ?_
  refine .nil ?_
  refine W.cond rfl (fun q1 => ?_) (fun q1 => ?_)
  · have h := ifT q1 h
    refine W.seq ?_
    refine W.pk ?_
    refine .v rfl rfl (OpL.move (.inr rfl) rfl) ?_
    refine .nil ?_
    refine W.ret ?_
    cases h
    exact leaves (.inr rfl) rfl (.imm _) (cN .nil) rfl rfl
  · have h := ifF q1 h
    refine W.seq ?_
    refine W.pk ?_
    refine .v rfl rfl (OpL.move (.inl rfl) rfl) ?_
    refine .v rfl rfl (O.lenR sl22 rfl rfl) ?_
    refine .v rfl rfl (OpL.binI rfl rfl rfl rfl) ?_
    refine .v rfl rfl (OpL.move (.inr rfl) rfl) ?_
    refine .nil ?_
    refine W.cond rfl (fun q2 => ?_) (fun q2 => ?_)
    · have h := ifT q2 h
      refine W.seq ?_
      refine W.pk ?_
      refine .v rfl rfl (OpL.move (.inr rfl) rfl) ?_
      refine .nil ?_
      refine W.ret ?_
      cases h
      exact leaves (.inr rfl) rfl (.imm _) (cN .nil) rfl rfl
    · have h := ifF q2 h
      refine W.skip ?_
      refine W.seq ?_
      refine W.seq ?_
      refine W.pk ?_
      refine .v rfl rfl (OpL.move (.inl rfl) rfl) ?_
      refine .v rfl rfl (O.lenR sl22 rfl rfl) ?_
      refine .v rfl rfl (OpL.move (.inl rfl) rfl) ?_
      refine .nil ?_
      obtain ⟨o35, b36, z37⟩ := bnd1 h
      refine W.fork2 (out := o35) (fun (w34 : Unit) => mkSt [] [] 1000) ?_ ?_
      · clear h
        refine W.block ?_
        refine W.loopF (fun (s_ : Int) => mkSt [(0, some (.imm (.row 2 (List.map api_Reset.enc x0)))), (13, some (.imm (.row 2 (List.map api_Reset.enc x0)))), (14, some (.imm (.val (.int .i64 (List.length x0 : Int))))), (15, some (.imm (.val (.int .i64 s_))))] [] 1000) b36 (Gives.mkR [] (.c rfl (.rfl _) rfl (.c rfl (.rfl _) rfl (.c rfl (.rfl _) rfl (.c rfl (.rfl _) rfl .n)))) .n rfl rfl rfl) ?_
        rintro v13 s_ hr
        have h : accrue_Check.b0 x0 v13 = some s_ := hr
        unfold accrue_Check.b0 at h
        refine W.seq ?_
        refine W.pk ?_
        refine .v rfl rfl (OpL.binI rfl rfl rfl rfl) ?_
        refine .nil ?_
        refine W.seq ?_
        refine W.cond rfl (fun q38 => ?_) (fun q38 => ?_)
        · have h := ifT q38 h
          refine W.skip ?_
          refine W.seq ?_
          refine W.block ?_
          refine W.seq ?_
          obtain ⟨c39, h⟩ := chk h
          refine W.pk ?_
          refine .v rfl rfl (OpL.move (.inl rfl) rfl) ?_
          refine .v rfl rfl (O.idx sl22 c39 rfl rfl rfl) ?_
          refine .v rfl rfl (O.ldN ty75 rfl rfl rfl) ?_
          refine .t rfl rfl (O.alloc z75 rfl) ?_
          refine .v rfl rfl (OpL.move (.inr rfl) rfl) ?_
          refine .s rfl rfl (O.st ty75 rfl rfl rfl rfl rfl rfl rfl rfl rfl rfl (all' := [.imm (.val (.int .i64 ((nth x0 v13).Day))), .imm (.val (.int .i64 ((nth x0 v13).Rate)))]) rfl) ?_
          refine .nil ?_
          refine W.block ?_
          refine W.seq ?_
          obtain ⟨t40, b41, h⟩ := bnd1 h
          obtain ⟨c42, h⟩ := chk h
          refine W.fork (mkSt [(0, some (.imm (.row 2 (List.map api_Reset.enc x0)))), (4, some (.ptr 1000 0)), (13, some (.imm (.row 2 (List.map api_Reset.enc x0)))), (14, some (.imm (.val (.int .i64 (List.length x0 : Int))))), (15, some (.imm (.val (.int .i64 v13)))), (20, some (.imm (.val (.bool ((!t40) || ((decide (v13 > 0)) && (decide (((nth x0 v13).Day) ≤ ((nth x0 (IntKind.wrap .i64 (v13 - 1))).Day)))))))))] [(1000, some (.box [.imm (.val (.int .i64 ((nth x0 v13).Day))), .imm (.val (.int .i64 ((nth x0 v13).Rate)))]))] 1001) ?_ ?_
          · refine W.cond rfl (fun q45 => ?_) (fun q45 => ?_)
            · have h := ifT q45 h
              refine W.seq ?_
              refine W.pk ?_
              refine .v rfl rfl (OpL.move (.inr rfl) rfl) ?_
              refine .nil ?_
              refine W.ret ?_
              cases h
              refine rdR fun e_ => ?_
              subst e_
              have h := z37
              dsimp only at h
              refine fkR ?_
              cases h
              exact leaves (.inr rfl) rfl (.imm _) (cN .nil) rfl rfl
            · have h := ifF q45 h
              refine W.seq ?_
              refine W.fork (mkSt [(0, some (.imm (.row 2 (List.map api_Reset.enc x0)))), (13, some (.imm (.row 2 (List.map api_Reset.enc x0)))), (14, some (.imm (.val (.int .i64 (List.length x0 : Int))))), (15, some (.imm (.val (.int .i64 v13)))), (40, some (.imm (.val (.bool ((decide (((nth x0 v13).Rate) < (-1000000))) || (decide (((nth x0 v13).Rate) > 1000000)))))))] [] 1001) ?_ ?_
              · refine W.cond rfl (fun q47 => ?_) (fun q47 => ?_)
                · have h := ifT q47 h
                  refine W.seq ?_
                  refine W.pk ?_
                  refine .v rfl rfl (OpL.move (.inr rfl) rfl) ?_
                  refine .nil ?_
                  refine W.ret ?_
                  cases h
                  refine rdR fun e_ => ?_
                  subst e_
                  have h := z37
                  dsimp only at h
                  refine fkR ?_
                  cases h
                  exact leaves (.inr rfl) rfl (.imm _) (cN .nil) rfl rfl
                · have h := ifF q47 h
                  refine W.skip ?_
                  refine W.pk ?_
                  refine .v rfl rfl (OpL.binI rfl rfl rfl rfl) ?_
                  refine .v rfl rfl (OpL.move (.inl rfl) rfl) ?_
                  refine .nil ?_
                  cases h
                  exact rdN (Gives.mkR [] (.c rfl (.rfl _) rfl (.c rfl (.rfl _) rfl (.c rfl (.rfl _) rfl (.c rfl (.rfl _) rfl .n)))) .n rfl rfl rfl)
              · clear h
                rcases tf (decide (((nth x0 v13).Rate) < (-1000000))) with g46 | g46
                · refine W.pk ?_
                  refine .v rfl rfl (O.fld fld75_1 rfl rfl rfl) ?_
                  refine .v rfl rfl (O.ld ty3 rfl rfl rfl) ?_
                  refine .v rfl rfl (OpL.binI rfl rfl rfl rfl) ?_
                  refine .v rfl rfl (OpL.move (.inl rfl) rfl) ?_
                  refine .x rfl (unmet rfl rfl rfl g46) ?_
                  refine .x rfl (unmet rfl rfl rfl g46) ?_
                  refine .x rfl (unmet rfl rfl rfl g46) ?_
                  refine .v rfl rfl (O.pickT g46 rfl rfl rfl) ?_
                  refine .v rfl rfl (OpL.move (.inr rfl) rfl) ?_
                  refine .nil ?_
                  exact toN (Gives.mkR [] (.c rfl (.rfl _) rfl (.c rfl (.rfl _) rfl (.c rfl (.rfl _) rfl (.c rfl (.rfl _) rfl (.c rfl (sbb (by simp only [g46, Bool.true_or, Bool.or_true, Bool.false_or, Bool.or_false, Bool.true_and, Bool.and_true, Bool.false_and, Bool.and_false, Bool.not_true, Bool.not_false, cond_true, cond_false])) rfl .n))))) .n rfl rfl rfl)
                · refine W.pk ?_
                  refine .v rfl rfl (O.fld fld75_1 rfl rfl rfl) ?_
                  refine .v rfl rfl (O.ld ty3 rfl rfl rfl) ?_
                  refine .v rfl rfl (OpL.binI rfl rfl rfl rfl) ?_
                  refine .v rfl rfl (OpL.move (.inl rfl) rfl) ?_
                  refine .v rfl (met rfl rfl rfl g46) (O.fld fld75_1 rfl rfl rfl) ?_
                  refine .v rfl (met rfl rfl rfl g46) (O.ld ty3 rfl rfl rfl) ?_
                  refine .v rfl (met rfl rfl rfl g46) (OpL.binI rfl rfl rfl rfl) ?_
                  refine .v rfl rfl (O.pickF g46 rfl rfl rfl) ?_
                  refine .v rfl rfl (OpL.move (.inr rfl) rfl) ?_
                  refine .nil ?_
                  exact toN (Gives.mkR [] (.c rfl (.rfl _) rfl (.c rfl (.rfl _) rfl (.c rfl (.rfl _) rfl (.c rfl (.rfl _) rfl (.c rfl (sbb (by simp only [g46, Bool.true_or, Bool.or_true, Bool.false_or, Bool.or_false, Bool.true_and, Bool.and_true, Bool.false_and, Bool.and_false, Bool.not_true, Bool.not_false, cond_true, cond_false])) rfl .n))))) .n rfl rfl rfl)
          · clear h
            rcases tf t40 with g43 | g43
            · rcases tf (decide (v13 > 0)) with g44 | g44
              · refine W.dk [[], [0], [0, 1], [0, 1, 2], [0, 1, 2, 3], [0, 1, 2, 3, 4], [0, 1, 2, 3, 4, 5], [0, 1, 2, 3, 4, 5, 6], [0, 1, 2, 3, 4, 5, 6, 7], [0, 1, 2, 3, 4, 5, 6, 7, 8], [0, 1, 2, 3, 4, 5, 6, 7], [0, 1, 2, 3, 4, 5, 6, 7], [0, 1, 2, 3, 4, 5, 6, 7, 11], [0, 1, 2, 3, 4, 5, 6, 7, 10, 11, 12], [0, 1, 2, 3, 4, 5, 6, 7, 10, 11, 12, 13], [0, 1, 2, 3, 4, 5, 6, 7, 10, 11, 12, 13, 14], [0, 1, 2, 3, 4, 5, 6, 7, 8, 9, 10, 11, 12, 13, 14, 15], [0, 1, 2, 3, 4, 5, 6, 7, 8, 9, 10, 11, 12, 13, 14, 15, 16], [0, 1, 2, 3, 4, 5, 6, 7, 8, 9, 10, 11, 12, 13, 14, 15, 16, 17], [0, 1, 2, 3, 4, 5, 6, 7, 8, 9, 10, 11, 12, 13, 14, 15, 16, 17, 18]] rfl (by kernel_rfl) ?_
                refine .v rfl rfl (O.fld fld75_0 rfl rfl rfl) ?_
                refine .v rfl rfl (O.ld ty3 rfl rfl rfl) ?_
                refine .call (.imm (.val (.bool t40))) [] 0 (calendar_Good.ok b41) rfl rfl rfl ca44 rfl rfl (cC (.imm _) .nil) rfl rfl rfl rfl rfl ?_
                refine .v rfl rfl (OpL.unV rfl rfl rfl) ?_
                refine .v rfl rfl (OpL.move (.inl rfl) rfl) ?_
                refine .v rfl (met rfl rfl rfl (notT g43)) (OpL.move (.inl rfl) rfl) ?_
                refine .v rfl (met rfl rfl rfl (notT g43)) (OpL.binI rfl rfl rfl rfl) ?_
                refine .v rfl (met rfl rfl rfl (notT g43)) (OpL.move (.inl rfl) rfl) ?_
                refine .v rfl (met rfl rfl rfl g44) (O.fld fld75_0 rfl rfl rfl) ?_
                refine .v rfl (met rfl rfl rfl g44) (O.ld ty3 rfl rfl rfl) ?_
                refine .v rfl (met rfl rfl rfl g44) (OpL.move (.inl rfl) rfl) ?_
                refine .v rfl (met rfl rfl rfl g44) (OpL.move (.inl rfl) rfl) ?_
                refine .v rfl (met rfl rfl rfl g44) (OpL.binI rfl rfl rfl rfl) ?_
                refine .v rfl (met rfl rfl rfl g44) (O.idx sl22 (c42 ⟨(by simp only [g43, g44, Bool.true_or, Bool.or_true, Bool.false_or, Bool.or_false, Bool.true_and, Bool.and_true, Bool.false_and, Bool.and_false, Bool.not_true, Bool.not_false, cond_true, cond_false]), (by simp only [g43, g44, Bool.true_or, Bool.or_true, Bool.false_or, Bool.or_false, Bool.true_and, Bool.and_true, Bool.false_and, Bool.and_false, Bool.not_true, Bool.not_false, cond_true, cond_false])⟩) rfl rfl rfl) ?_
                refine .v rfl (met rfl rfl rfl g44) (O.fld fld75_0 rfl rfl rfl) ?_
                refine .v rfl (met rfl rfl rfl g44) (O.ld ty3 rfl rfl rfl) ?_
                refine .v rfl (met rfl rfl rfl g44) (OpL.binI rfl rfl rfl rfl) ?_
                refine .v rfl (met rfl rfl rfl (notT g43)) (O.pickT g44 rfl rfl rfl) ?_
                refine .v rfl rfl (O.pickF (notT g43) rfl rfl rfl) ?_
                refine .v rfl rfl (OpL.move (.inr rfl) rfl) ?_
                refine .nil ?_
                refine ⟨by kernel_rfl, by kernel_rfl, ?_⟩
                exact toN (Gives.mkR [] (.c rfl (.rfl _) rfl (.c rfl (.rfl _) rfl (.c rfl (.rfl _) rfl (.c rfl (.rfl _) rfl (.c rfl (.rfl _) rfl (.c rfl (sbb (by simp only [g43, g44, Bool.true_or, Bool.or_true, Bool.false_or, Bool.or_false, Bool.true_and, Bool.and_true, Bool.false_and, Bool.and_false, Bool.not_true, Bool.not_false, cond_true, cond_false])) rfl .n)))))) (.c rfl (.rfl _) rfl rfl .n) rfl rfl rfl)
              · refine W.dk [[], [0], [0, 1], [0, 1, 2], [0, 1, 2, 3], [0, 1, 2, 3, 4], [0, 1, 2, 3, 4, 5], [0, 1, 2, 3, 4, 5, 6], [0, 1, 2, 3, 4, 5, 6, 7], [0, 1, 2, 3, 4, 5, 6, 7, 8], [0, 1, 2, 3, 4, 5, 6, 7], [0, 1, 2, 3, 4, 5, 6, 7], [0, 1, 2, 3, 4, 5, 6, 7, 11], [0, 1, 2, 3, 4, 5, 6, 7, 10, 11, 12], [0, 1, 2, 3, 4, 5, 6, 7, 10, 11, 12, 13], [0, 1, 2, 3, 4, 5, 6, 7, 10, 11, 12, 13, 14], [0, 1, 2, 3, 4, 5, 6, 7, 8, 9, 10, 11, 12, 13, 14, 15], [0, 1, 2, 3, 4, 5, 6, 7, 8, 9, 10, 11, 12, 13, 14, 15, 16], [0, 1, 2, 3, 4, 5, 6, 7, 8, 9, 10, 11, 12, 13, 14, 15, 16, 17], [0, 1, 2, 3, 4, 5, 6, 7, 8, 9, 10, 11, 12, 13, 14, 15, 16, 17, 18]] rfl (by kernel_rfl) ?_
                refine .v rfl rfl (O.fld fld75_0 rfl rfl rfl) ?_
                refine .v rfl rfl (O.ld ty3 rfl rfl rfl) ?_
                refine .call (.imm (.val (.bool t40))) [] 0 (calendar_Good.ok b41) rfl rfl rfl ca44 rfl rfl (cC (.imm _) .nil) rfl rfl rfl rfl rfl ?_
                refine .v rfl rfl (OpL.unV rfl rfl rfl) ?_
                refine .v rfl rfl (OpL.move (.inl rfl) rfl) ?_
                refine .v rfl (met rfl rfl rfl (notT g43)) (OpL.move (.inl rfl) rfl) ?_
                refine .v rfl (met rfl rfl rfl (notT g43)) (OpL.binI rfl rfl rfl rfl) ?_
                refine .v rfl (met rfl rfl rfl (notT g43)) (OpL.move (.inl rfl) rfl) ?_
                refine .x rfl (unmet rfl rfl rfl g44) ?_
                refine .x rfl (unmet rfl rfl rfl g44) ?_
                refine .x rfl (unmet rfl rfl rfl g44) ?_
                refine .x rfl (unmet rfl rfl rfl g44) ?_
                refine .x rfl (unmet rfl rfl rfl g44) ?_
                refine .x rfl (unmet rfl rfl rfl g44) ?_
                refine .x rfl (unmet rfl rfl rfl g44) ?_
                refine .x rfl (unmet rfl rfl rfl g44) ?_
                refine .x rfl (unmet rfl rfl rfl g44) ?_
                refine .v rfl (met rfl rfl rfl (notT g43)) (O.pickF g44 rfl rfl rfl) ?_
                refine .v rfl rfl (O.pickF (notT g43) rfl rfl rfl) ?_
                refine .v rfl rfl (OpL.move (.inr rfl) rfl) ?_
                refine .nil ?_
                refine ⟨by kernel_rfl, by kernel_rfl, ?_⟩
                exact toN (Gives.mkR [] (.c rfl (.rfl _) rfl (.c rfl (.rfl _) rfl (.c rfl (.rfl _) rfl (.c rfl (.rfl _) rfl (.c rfl (.rfl _) rfl (.c rfl (sbb (by simp only [g43, g44, Bool.true_or, Bool.or_true, Bool.false_or, Bool.or_false, Bool.true_and, Bool.and_true, Bool.false_and, Bool.and_false, Bool.not_true, Bool.not_false, cond_true, cond_false])) rfl .n)))))) (.c rfl (.rfl _) rfl rfl .n) rfl rfl rfl)
            · refine W.dk [[], [0], [0, 1], [0, 1, 2], [0, 1, 2, 3], [0, 1, 2, 3, 4], [0, 1, 2, 3, 4, 5], [0, 1, 2, 3, 4, 5, 6], [0, 1, 2, 3, 4, 5, 6, 7], [0, 1, 2, 3, 4, 5, 6, 7, 8], [0, 1, 2, 3, 4, 5, 6, 7], [0, 1, 2, 3, 4, 5, 6, 7], [0, 1, 2, 3, 4, 5, 6, 7, 11], [0, 1, 2, 3, 4, 5, 6, 7, 10, 11, 12], [0, 1, 2, 3, 4, 5, 6, 7, 10, 11, 12, 13], [0, 1, 2, 3, 4, 5, 6, 7, 10, 11, 12, 13, 14], [0, 1, 2, 3, 4, 5, 6, 7, 8, 9, 10, 11, 12, 13, 14, 15], [0, 1, 2, 3, 4, 5, 6, 7, 8, 9, 10, 11, 12, 13, 14, 15, 16], [0, 1, 2, 3, 4, 5, 6, 7, 8, 9, 10, 11, 12, 13, 14, 15, 16, 17], [0, 1, 2, 3, 4, 5, 6, 7, 8, 9, 10, 11, 12, 13, 14, 15, 16, 17, 18]] rfl (by kernel_rfl) ?_
              refine .v rfl rfl (O.fld fld75_0 rfl rfl rfl) ?_
              refine .v rfl rfl (O.ld ty3 rfl rfl rfl) ?_
              refine .call (.imm (.val (.bool t40))) [] 0 (calendar_Good.ok b41) rfl rfl rfl ca44 rfl rfl (cC (.imm _) .nil) rfl rfl rfl rfl rfl ?_
              refine .v rfl rfl (OpL.unV rfl rfl rfl) ?_
              refine .v rfl rfl (OpL.move (.inl rfl) rfl) ?_
              refine .x rfl (unmet rfl rfl rfl (notF g43)) ?_
              refine .x rfl (unmet rfl rfl rfl (notF g43)) ?_
              refine .x rfl (unmet rfl rfl rfl (notF g43)) ?_
              refine .x rfl (unmetU rfl rfl rfl) ?_
              refine .x rfl (unmetU rfl rfl rfl) ?_
              refine .x rfl (unmetU rfl rfl rfl) ?_
              refine .x rfl (unmetU rfl rfl rfl) ?_
              refine .x rfl (unmetU rfl rfl rfl) ?_
              refine .x rfl (unmetU rfl rfl rfl) ?_
              refine .x rfl (unmetU rfl rfl rfl) ?_
              refine .x rfl (unmetU rfl rfl rfl) ?_
              refine .x rfl (unmetU rfl rfl rfl) ?_
              refine .x rfl (unmet rfl rfl rfl (notF g43)) ?_
              refine .v rfl rfl (O.pickT (notF g43) rfl rfl rfl) ?_
              refine .v rfl rfl (OpL.move (.inr rfl) rfl) ?_
              refine .nil ?_
              refine ⟨by kernel_rfl, by kernel_rfl, ?_⟩
              exact toN (Gives.mkR [] (.c rfl (.rfl _) rfl (.c rfl (.rfl _) rfl (.c rfl (.rfl _) rfl (.c rfl (.rfl _) rfl (.c rfl (.rfl _) rfl (.c rfl (sbb (by simp only [g43, Bool.true_or, Bool.or_true, Bool.false_or, Bool.or_false, Bool.true_and, Bool.and_true, Bool.false_and, Bool.and_false, Bool.not_true, Bool.not_false, cond_true, cond_false])) rfl .n)))))) (.c rfl (.rfl _) rfl rfl .n) rfl rfl rfl)
        · have h := ifF q38 h
          refine W.exit ?_
          cases h
          refine rdX fun e_ => ?_
          subst e_
          refine hit ?_
          exact fkN (Gives.mkR [] .n .n rfl rfl rfl)
      · intro w34 e_
        subst e_
        clear h
        have h := z37
        dsimp only at h
        refine W.seq ?_
        refine W.pk ?_
        refine .v rfl rfl (OpL.move (.inr rfl) rfl) ?_
        refine .nil ?_
        refine W.ret ?_
        cases h
        exact leaves (.inr rfl) rfl (.imm _) (cN .nil) rfl rfl

noncomputable def trade_Fill_1.f (x0 : Int) : Option (Bool) :=
  some ((decide (x0 ≥ 1)) && (decide (x0 ≤ 32)))
set_option maxRecDepth 100000 in
set_option maxHeartbeats 4000000 in
theorem trade_Fill_1.ok {x0 : Int} {r : Bool} (h : trade_Fill_1.f x0 = some r) : Pm.Spec prog 79 [.imm (.val (.int .i64 x0))] (.imm (.val (.bool r))) [none] := by
  unfold trade_Fill_1.f at h
  refine Pm.Spec.of_body Try.func79 rfl (by kernel_rfl) (Nat.le_of_ble_eq_true rfl) (Nat.le_of_ble_eq_true rfl) ?_
  refine W.ghost (σ' := (mkSt [(0, some (.imm (.val (.int .i64 x0))))] [] 1000)) (Gives.entry (.c rfl .n) .n) ?_
  refine W.seq ?_
  refine W.pk ?_
  refine .v rfl rfl (OpL.move (.inr rfl) rfl) ?_
  refine .nil ?_
  refine W.seq ?_
  refine W.fork (mkSt [(2, some (.imm (.val (.bool ((decide (x0 ≥ 1)) && (decide (x0 ≤ 32)))))))] [] 1000) ?_ ?_
  · refine W.ret ?_
    cases h
    exact leaves (.inr rfl) rfl (.imm _) (cN .nil) rfl rfl
  · clear h
    rcases tf (decide (x0 ≥ 1)) with g1 | g1
    · refine W.pk ?_
      refine .v rfl rfl (OpL.move (.inl rfl) rfl) ?_
      refine .v rfl rfl (OpL.binI rfl rfl rfl rfl) ?_
      refine .v rfl rfl (OpL.move (.inl rfl) rfl) ?_
      refine .v rfl (met rfl rfl rfl g1) (OpL.move (.inl rfl) rfl) ?_
      refine .v rfl (met rfl rfl rfl g1) (OpL.binI rfl rfl rfl rfl) ?_
      refine .v rfl rfl (O.pickT g1 rfl rfl rfl) ?_
      refine .v rfl rfl (OpL.move (.inr rfl) rfl) ?_
      refine .nil ?_
      exact toN (Gives.mkR [] (.c rfl (sbb (by simp only [g1, Bool.true_or, Bool.or_true, Bool.false_or, Bool.or_false, Bool.true_and, Bool.and_true, Bool.false_and, Bool.and_false, Bool.not_true, Bool.not_false, cond_true, cond_false])) rfl .n) .n rfl rfl rfl)
    · refine W.pk ?_
      refine .v rfl rfl (OpL.move (.inl rfl) rfl) ?_
      refine .v rfl rfl (OpL.binI rfl rfl rfl rfl) ?_
      refine .v rfl rfl (OpL.move (.inl rfl) rfl) ?_
      refine .x rfl (unmet rfl rfl rfl g1) ?_
      refine .x rfl (unmet rfl rfl rfl g1) ?_
      refine .v rfl rfl (O.pickF g1 rfl rfl rfl) ?_
      refine .v rfl rfl (OpL.move (.inr rfl) rfl) ?_
      refine .nil ?_
      exact toN (Gives.mkR [] (.c rfl (sbb (by simp only [g1, Bool.true_or, Bool.or_true, Bool.false_or, Bool.or_false, Bool.true_and, Bool.and_true, Bool.false_and, Bool.and_false, Bool.not_true, Bool.not_false, cond_true, cond_false])) rfl .n) .n rfl rfl rfl)
end Go.Proofs.Ytlgfdldonoaahaa
