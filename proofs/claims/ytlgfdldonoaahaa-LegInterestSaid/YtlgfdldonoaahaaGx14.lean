/- Shows what functions of the program come to, each as a plain function: written by a program of the author's for this claim. -/
import Derived.Test.YtlgfdldonoaahaaGx13
namespace Go.Proofs.Ytlgfdldonoaahaa
open Go Go.Pm
set_option linter.unusedVariables false
set_option linter.unusedSimpArgs false
noncomputable def lombardref25_End.f (x0 : lombardref25_Covered) : Option (api_Leg × Int) :=
  (lombardref25_wrong.f x0).bind fun t1 =>
  if (t1 != 0) = true then
    (lombardref25_wrong.f x0).bind fun t4 =>
    some ((⟨0, 0, 0, 0, []⟩ : api_Leg), t4)
  else
    if (x0.Trade.End == 0) = true then
      some ((⟨0, 0, 0, 0, []⟩ : api_Leg), 33)
    else
      (lombardref24_Owed.f x0.Trade x0.Trade.End).bind fun t7 =>
      if (t7.2 != 0) = true then
        some ((⟨0, 0, 0, 0, []⟩ : api_Leg), t7.2)
      else
        (lombardref25_due.f x0 x0.Trade.End t7.1 (x0.Trade.Side == 2)).bind fun t10 =>
        some (t10, 0)
set_option maxRecDepth 100000 in
set_option maxHeartbeats 4000000 in
theorem lombardref25_End.ok {x0 : lombardref25_Covered} {r : api_Leg × Int} (h : lombardref25_End.f x0 = some r) : Pm.Spec prog 14 [.agg [.imm (.val (.int .i64 x0.Trade.ID)), .imm (.val (.int .i64 x0.Trade.Twin)), .imm (.val (.int .i64 x0.Trade.Member)), .imm (.val (.int .i64 x0.Trade.Side)), .imm (.val (.int .i64 x0.Trade.Basket)), .imm (.val (.int .i64 x0.Trade.Amount)), .imm (.val (.int .i64 x0.Trade.Start)), .imm (.val (.int .i64 x0.Trade.End)), .imm (.row 2 (List.map api_Reset.enc x0.Trade.Resets)), .imm (.val (.int .i64 x0.Trade.Stage)), .imm (.val (.bool x0.Trade.Short)), .imm (.row 2 (List.map api_Lot.enc x0.Lots))]] (.tup [.agg [.imm (.val (.int .i64 r.1.Day)), .imm (.val (.int .i64 r.1.Member)), .imm (.val (.int .i64 r.1.Trade)), .imm (.val (.int .i64 r.1.Cash)), .imm (.row 2 (List.map api_Lot.enc r.1.Lots))], .imm (.val (.int .i64 r.2))]) [none] := by
  unfold lombardref25_End.f at h
  refine Pm.Spec.of_body Try.func14 rfl (by kernel_rfl) (Nat.le_of_ble_eq_true rfl) (Nat.le_of_ble_eq_true rfl) ?_
  refine W.ghost (σ' := (mkSt [(0, some (.agg [.imm (.val (.int .i64 x0.Trade.ID)), .imm (.val (.int .i64 x0.Trade.Twin)), .imm (.val (.int .i64 x0.Trade.Member)), .imm (.val (.int .i64 x0.Trade.Side)), .imm (.val (.int .i64 x0.Trade.Basket)), .imm (.val (.int .i64 x0.Trade.Amount)), .imm (.val (.int .i64 x0.Trade.Start)), .imm (.val (.int .i64 x0.Trade.End)), .imm (.row 2 (List.map api_Reset.enc x0.Trade.Resets)), .imm (.val (.int .i64 x0.Trade.Stage)), .imm (.val (.bool x0.Trade.Short)), .imm (.row 2 (List.map api_Lot.enc x0.Lots))]))] [] 1000)) (Gives.entry (.c rfl .n) .n) ?_
  refine W.seq ?_
  refine W.pk ?_
  refine .t rfl rfl (O.box rfl rfl rfl rfl rfl) ?_
  refine .t rfl rfl (O.alloc z31 rfl) ?_
  refine .v rfl rfl (OpL.move (.inr rfl) rfl) ?_
  refine .nil ?_
  refine W.seq ?_
  refine W.seq ?_
  obtain ⟨t1, b2, h⟩ := bnd1 h
  refine W.pk ?_
  refine .v rfl rfl (O.ldN ty27 rfl rfl rfl) ?_
  refine .call (.imm (.val (.int .i64 t1))) [] 0 (lombardref25_wrong.ok b2) rfl rfl rfl ca30 rfl rfl (cC (.agg _ _ _ _ (cC (.imm _) (cC (.imm _) (cC (.imm _) (cC (.imm _) (cC (.imm _) (cC (.imm _) (cC (.imm _) (cC (.imm _) (cC (.imm _) (cC (.imm _) (cC (.imm _) (cC (.imm _) .nil))))))))))))) .nil) rfl rfl rfl rfl rfl ?_
  refine .v rfl rfl (OpL.binI rfl rfl rfl rfl) ?_
  refine .nil ?_
  refine W.cond rfl (fun q3 => ?_) (fun q3 => ?_)
  · have h := ifT q3 h
    refine W.seq ?_
    obtain ⟨t4, b5, h⟩ := bnd1 h
    refine W.pk ?_
    refine .v rfl rfl (O.build (out := [.imm (.val (.int .i64 0)), .imm (.val (.int .i64 0)), .imm (.val (.int .i64 0)), .imm (.val (.int .i64 0)), .imm (.val (.slice none 0 0))]) bl31 rfl rfl rfl rfl rfl) ?_
    refine .v rfl rfl (O.ldN ty27 rfl rfl rfl) ?_
    refine .call (.imm (.val (.int .i64 t4))) [] 0 (lombardref25_wrong.ok b5) rfl rfl rfl ca30 rfl rfl (cC (.agg _ _ _ _ (cC (.imm _) (cC (.imm _) (cC (.imm _) (cC (.imm _) (cC (.imm _) (cC (.imm _) (cC (.imm _) (cC (.imm _) (cC (.imm _) (cC (.imm _) (cC (.imm _) (cC (.imm _) .nil))))))))))))) .nil) rfl rfl rfl rfl rfl ?_
    refine .s rfl rfl (O.st ty31 rfl rfl rfl rfl rfl rfl rfl rfl rfl rfl (all' := [.imm (.val (.int .i64 0)), .imm (.val (.int .i64 0)), .imm (.val (.int .i64 0)), .imm (.val (.int .i64 0)), .imm (.val (.slice none 0 0))]) rfl) ?_
    refine .v rfl rfl (OpL.move (.inr rfl) rfl) ?_
    refine .nil ?_
    refine W.ret ?_
    cases h
    exact leaves (.inr rfl) rfl (.tup _ _ _ _ (cC (.agg _ _ _ _ (cC (.imm _) (cC (.imm _) (cC (.imm _) (cC (.imm _) (cC (.nilrow _) .nil)))))) (cC (.imm _) .nil))) (cN .nil) rfl rfl
  · have h := ifF q3 h
    refine W.skip ?_
    refine W.seq ?_
    refine W.seq ?_
    refine W.pk ?_
    refine .v rfl rfl (O.fld fld27_0 rfl rfl rfl) ?_
    refine .v rfl rfl (O.fld fld24_7 rfl rfl rfl) ?_
    refine .v rfl rfl (O.ld ty3 rfl rfl rfl) ?_
    refine .v rfl rfl (OpL.binI rfl rfl rfl rfl) ?_
    refine .nil ?_
    refine W.cond rfl (fun q6 => ?_) (fun q6 => ?_)
    · have h := ifT q6 h
      refine W.seq ?_
      refine W.pk ?_
      refine .v rfl rfl (O.build (out := [.imm (.val (.int .i64 0)), .imm (.val (.int .i64 0)), .imm (.val (.int .i64 0)), .imm (.val (.int .i64 0)), .imm (.val (.slice none 0 0))]) bl31 rfl rfl rfl rfl rfl) ?_
      refine .s rfl rfl (O.st ty31 rfl rfl rfl rfl rfl rfl rfl rfl rfl rfl (all' := [.imm (.val (.int .i64 0)), .imm (.val (.int .i64 0)), .imm (.val (.int .i64 0)), .imm (.val (.int .i64 0)), .imm (.val (.slice none 0 0))]) rfl) ?_
      refine .v rfl rfl (OpL.move (.inr rfl) rfl) ?_
      refine .nil ?_
      refine W.ret ?_
      cases h
      exact leaves (.inr rfl) rfl (.tup _ _ _ _ (cC (.agg _ _ _ _ (cC (.imm _) (cC (.imm _) (cC (.imm _) (cC (.imm _) (cC (.nilrow _) .nil)))))) (cC (.imm _) .nil))) (cN .nil) rfl rfl
    · have h := ifF q6 h
      refine W.skip ?_
      refine W.seq ?_
      obtain ⟨t7, b8, h⟩ := bnd1 h
      refine W.pk ?_
      refine .v rfl rfl (O.fld fld27_0 rfl rfl rfl) ?_
      refine .v rfl rfl (O.ldN ty24 rfl rfl rfl) ?_
      refine .v rfl rfl (O.fld fld27_0 rfl rfl rfl) ?_
      refine .v rfl rfl (O.fld fld24_7 rfl rfl rfl) ?_
      refine .v rfl rfl (O.ld ty3 rfl rfl rfl) ?_
      refine .call (.tup [.imm (.val (.int .i64 t7.1)), .imm (.val (.int .i64 t7.2))]) [] 0 (lombardref24_Owed.ok b8) rfl rfl rfl ca34 rfl rfl (cC (.agg _ _ _ _ (cC (.imm _) (cC (.imm _) (cC (.imm _) (cC (.imm _) (cC (.imm _) (cC (.imm _) (cC (.imm _) (cC (.imm _) (cC (.imm _) (cC (.imm _) (cC (.imm _) .nil)))))))))))) (cC (.imm _) .nil)) rfl rfl rfl rfl rfl ?_
      refine .v rfl rfl (OpL.move (.inl rfl) rfl) ?_
      refine .v rfl rfl (OpL.extract rfl rfl rfl) ?_
      refine .v rfl rfl (OpL.extract rfl rfl rfl) ?_
      refine .v rfl rfl (OpL.move (.inr rfl) rfl) ?_
      refine .v rfl rfl (OpL.move (.inr rfl) rfl) ?_
      refine .nil ?_
      refine W.seq ?_
      refine W.seq ?_
      refine W.pk ?_
      refine .v rfl rfl (OpL.move (.inl rfl) rfl) ?_
      refine .v rfl rfl (OpL.binI rfl rfl rfl rfl) ?_
      refine .nil ?_
      refine W.cond rfl (fun q9 => ?_) (fun q9 => ?_)
      · have h := ifT q9 h
        refine W.seq ?_
        refine W.pk ?_
        refine .v rfl rfl (O.build (out := [.imm (.val (.int .i64 0)), .imm (.val (.int .i64 0)), .imm (.val (.int .i64 0)), .imm (.val (.int .i64 0)), .imm (.val (.slice none 0 0))]) bl31 rfl rfl rfl rfl rfl) ?_
        refine .v rfl rfl (OpL.move (.inl rfl) rfl) ?_
        refine .s rfl rfl (O.st ty31 rfl rfl rfl rfl rfl rfl rfl rfl rfl rfl (all' := [.imm (.val (.int .i64 0)), .imm (.val (.int .i64 0)), .imm (.val (.int .i64 0)), .imm (.val (.int .i64 0)), .imm (.val (.slice none 0 0))]) rfl) ?_
        refine .v rfl rfl (OpL.move (.inr rfl) rfl) ?_
        refine .nil ?_
        refine W.ret ?_
        cases h
        exact leaves (.inr rfl) rfl (.tup _ _ _ _ (cC (.agg _ _ _ _ (cC (.imm _) (cC (.imm _) (cC (.imm _) (cC (.imm _) (cC (.nilrow _) .nil)))))) (cC (.imm _) .nil))) (cN .nil) rfl rfl
      · have h := ifF q9 h
        refine W.skip ?_
        refine W.seq ?_
        obtain ⟨t10, b11, h⟩ := bnd1 h
        refine W.pk ?_
        refine .v rfl rfl (O.ldN ty27 rfl rfl rfl) ?_
        refine .v rfl rfl (O.fld fld27_0 rfl rfl rfl) ?_
        refine .v rfl rfl (O.fld fld24_7 rfl rfl rfl) ?_
        refine .v rfl rfl (O.ld ty3 rfl rfl rfl) ?_
        refine .v rfl rfl (OpL.move (.inl rfl) rfl) ?_
        refine .v rfl rfl (O.fld fld27_0 rfl rfl rfl) ?_
        refine .v rfl rfl (O.fld fld24_3 rfl rfl rfl) ?_
        refine .v rfl rfl (O.ld ty3 rfl rfl rfl) ?_
        refine .v rfl rfl (OpL.binI rfl rfl rfl rfl) ?_
        refine .call (.agg [.imm (.val (.int .i64 t10.Day)), .imm (.val (.int .i64 t10.Member)), .imm (.val (.int .i64 t10.Trade)), .imm (.val (.int .i64 t10.Cash)), .imm (.row 2 (List.map api_Lot.enc t10.Lots))]) [] 0 (lombardref25_due.ok b11) rfl rfl rfl ca31 rfl rfl (cC (.agg _ _ _ _ (cC (.imm _) (cC (.imm _) (cC (.imm _) (cC (.imm _) (cC (.imm _) (cC (.imm _) (cC (.imm _) (cC (.imm _) (cC (.imm _) (cC (.imm _) (cC (.imm _) (cC (.imm _) .nil))))))))))))) (cC (.imm _) (cC (.imm _) (cC (.imm _) .nil)))) rfl rfl rfl rfl rfl ?_
        refine .s rfl rfl (O.st ty31 rfl rfl rfl rfl rfl rfl rfl rfl rfl rfl (all' := [.imm (.val (.int .i64 t10.Day)), .imm (.val (.int .i64 t10.Member)), .imm (.val (.int .i64 t10.Trade)), .imm (.val (.int .i64 t10.Cash)), .imm (.row 2 (List.map api_Lot.enc t10.Lots))]) rfl) ?_
        refine .v rfl rfl (OpL.move (.inr rfl) rfl) ?_
        refine .nil ?_
        refine W.ret ?_
        cases h
        exact leaves (.inr rfl) rfl (.tup _ _ _ _ (cC (.agg _ _ _ _ (cC (.imm _) (cC (.imm _) (cC (.imm _) (cC (.imm _) (cC (.imm _) .nil)))))) (cC (.imm _) .nil))) (cN .nil) rfl rfl

noncomputable def lombardlaw25_LegBoth.f (x0 : lombardref25_Covered) : Option (Bool) :=
  (lombardlaw25_short.f x0).bind fun t1 =>
  if (!t1) = true then
    (lombardlaw25_awake.f).bind fun t4 =>
    some t4
  else
    (lombardlaw25_of.f x0).bind fun t6 =>
    (leg_Covered_Begin.f t6).bind fun t8 =>
    (lombardref25_Begin.f x0).bind fun t10 =>
    (lombardlaw25_of.f x0).bind fun t12 =>
    (leg_Covered_End.f t12).bind fun t14 =>
    (lombardref25_End.f x0).bind fun t16 =>
    (lombardref25_Same.f t8.1 t10.1).bind fun t18 =>
    (if (t18 && (t8.2 == t10.2)) = true then lombardref25_Same.f t14.1 t16.1 else some default).bind fun t20 =>
    (if (((t18 && (t8.2 == t10.2)) && t20) && (t14.2 == t16.2)) = true then lombardlaw25_awake.f else some default).bind fun t22 =>
    some ((((t18 && (t8.2 == t10.2)) && t20) && (t14.2 == t16.2)) && t22)
set_option maxRecDepth 100000 in
set_option maxHeartbeats 4000000 in
theorem lombardlaw25_LegBoth.ok {x0 : lombardref25_Covered} {r : Bool} (h : lombardlaw25_LegBoth.f x0 = some r) : Pm.Spec prog 3 [.agg [.imm (.val (.int .i64 x0.Trade.ID)), .imm (.val (.int .i64 x0.Trade.Twin)), .imm (.val (.int .i64 x0.Trade.Member)), .imm (.val (.int .i64 x0.Trade.Side)), .imm (.val (.int .i64 x0.Trade.Basket)), .imm (.val (.int .i64 x0.Trade.Amount)), .imm (.val (.int .i64 x0.Trade.Start)), .imm (.val (.int .i64 x0.Trade.End)), .imm (.row 2 (List.map api_Reset.enc x0.Trade.Resets)), .imm (.val (.int .i64 x0.Trade.Stage)), .imm (.val (.bool x0.Trade.Short)), .imm (.row 2 (List.map api_Lot.enc x0.Lots))]] (.imm (.val (.bool r))) [none] := by
  unfold lombardlaw25_LegBoth.f at h
  refine Pm.Spec.of_body Try.func3 rfl (by kernel_rfl) (Nat.le_of_ble_eq_true rfl) (Nat.le_of_ble_eq_true rfl) ?_
  refine W.ghost (σ' := (mkSt [(0, some (.agg [.imm (.val (.int .i64 x0.Trade.ID)), .imm (.val (.int .i64 x0.Trade.Twin)), .imm (.val (.int .i64 x0.Trade.Member)), .imm (.val (.int .i64 x0.Trade.Side)), .imm (.val (.int .i64 x0.Trade.Basket)), .imm (.val (.int .i64 x0.Trade.Amount)), .imm (.val (.int .i64 x0.Trade.Start)), .imm (.val (.int .i64 x0.Trade.End)), .imm (.row 2 (List.map api_Reset.enc x0.Trade.Resets)), .imm (.val (.int .i64 x0.Trade.Stage)), .imm (.val (.bool x0.Trade.Short)), .imm (.row 2 (List.map api_Lot.enc x0.Lots))]))] [] 1000)) (Gives.entry (.c rfl .n) .n) ?_
  refine W.seq ?_
  refine W.pk ?_
  refine .t rfl rfl (O.box rfl rfl rfl rfl rfl) ?_
  refine .v rfl rfl (OpL.move (.inr rfl) rfl) ?_
  refine .nil ?_
  refine W.seq ?_
  refine W.seq ?_
  obtain ⟨t1, b2, h⟩ := bnd1 h
  refine W.pk ?_
  refine .v rfl rfl (O.ldN ty27 rfl rfl rfl) ?_
  refine .call (.imm (.val (.bool t1))) [] 0 (lombardlaw25_short.ok b2) rfl rfl rfl ca8 rfl rfl (cC (.agg _ _ _ _ (cC (.imm _) (cC (.imm _) (cC (.imm _) (cC (.imm _) (cC (.imm _) (cC (.imm _) (cC (.imm _) (cC (.imm _) (cC (.imm _) (cC (.imm _) (cC (.imm _) (cC (.imm _) .nil))))))))))))) .nil) rfl rfl rfl rfl rfl ?_
  refine .v rfl rfl (OpL.unV rfl rfl rfl) ?_
  refine .nil ?_
  refine W.cond rfl (fun q3 => ?_) (fun q3 => ?_)
  · have h := ifT q3 h
    refine W.seq ?_
    obtain ⟨t4, b5, h⟩ := bnd1 h
    refine W.pk ?_
    refine .call (.imm (.val (.bool t4))) [] 0 (lombardlaw25_awake.ok b5) rfl rfl rfl ca9 rfl rfl .nil rfl rfl rfl rfl rfl ?_
    refine .v rfl rfl (OpL.move (.inr rfl) rfl) ?_
    refine .nil ?_
    refine W.ret ?_
    cases h
    exact leaves (.inr rfl) rfl (.imm _) (cN .nil) rfl rfl
  · have h := ifF q3 h
    refine W.skip ?_
    refine W.seq ?_
    obtain ⟨t6, b7, h⟩ := bnd1 h
    obtain ⟨t8, b9, h⟩ := bnd1 h
    refine W.pk ?_
    refine .v rfl rfl (O.ldN ty27 rfl rfl rfl) ?_
    refine .call (.agg [.imm (.val (.int .i64 t6.Trade.ID)), .imm (.val (.int .i64 t6.Trade.Twin)), .imm (.val (.int .i64 t6.Trade.Member)), .imm (.val (.int .i64 t6.Trade.Side)), .imm (.val (.int .i64 t6.Trade.Basket)), .imm (.val (.int .i64 t6.Trade.Amount)), .imm (.val (.int .i64 t6.Trade.Start)), .imm (.val (.int .i64 t6.Trade.End)), .imm (.row 2 (List.map api_Reset.enc t6.Trade.Resets)), .imm (.val (.int .i64 t6.Trade.Stage)), .imm (.val (.bool t6.Trade.Short)), .imm (.row 2 (List.map api_Lot.enc t6.Lots))]) [] 0 (lombardlaw25_of.ok b7) rfl rfl rfl ca10 rfl rfl (cC (.agg _ _ _ _ (cC (.imm _) (cC (.imm _) (cC (.imm _) (cC (.imm _) (cC (.imm _) (cC (.imm _) (cC (.imm _) (cC (.imm _) (cC (.imm _) (cC (.imm _) (cC (.imm _) (cC (.imm _) .nil))))))))))))) .nil) rfl rfl rfl rfl rfl ?_
    refine .call (.tup [.agg [.imm (.val (.int .i64 t8.1.Day)), .imm (.val (.int .i64 t8.1.Member)), .imm (.val (.int .i64 t8.1.Trade)), .imm (.val (.int .i64 t8.1.Cash)), .imm (.row 2 (List.map api_Lot.enc t8.1.Lots))], .imm (.val (.int .i64 t8.2))]) [] 0 (leg_Covered_Begin.ok b9) rfl rfl rfl ca11 rfl rfl (cC (.agg _ _ _ _ (cC (.imm _) (cC (.imm _) (cC (.imm _) (cC (.imm _) (cC (.imm _) (cC (.imm _) (cC (.imm _) (cC (.imm _) (cC (.imm _) (cC (.imm _) (cC (.imm _) (cC (.imm _) .nil))))))))))))) .nil) rfl rfl rfl rfl rfl ?_
    refine .v rfl rfl (OpL.move (.inl rfl) rfl) ?_
    refine .v rfl rfl (OpL.extract rfl rfl rfl) ?_
    refine .v rfl rfl (OpL.extract rfl rfl rfl) ?_
    refine .t rfl rfl (O.alloc z31 rfl) ?_
    refine .s rfl rfl (O.st ty31 rfl rfl rfl rfl rfl rfl rfl rfl rfl rfl (all' := [.imm (.val (.int .i64 t8.1.Day)), .imm (.val (.int .i64 t8.1.Member)), .imm (.val (.int .i64 t8.1.Trade)), .imm (.val (.int .i64 t8.1.Cash)), .imm (.row 2 (List.map api_Lot.enc t8.1.Lots))]) rfl) ?_
    refine .v rfl rfl (OpL.move (.inr rfl) rfl) ?_
    refine .nil ?_
    refine W.seq ?_
    obtain ⟨t10, b11, h⟩ := bnd1 h
    refine W.pk ?_
    refine .v rfl rfl (O.ldN ty27 rfl rfl rfl) ?_
    refine .call (.tup [.agg [.imm (.val (.int .i64 t10.1.Day)), .imm (.val (.int .i64 t10.1.Member)), .imm (.val (.int .i64 t10.1.Trade)), .imm (.val (.int .i64 t10.1.Cash)), .imm (.row 2 (List.map api_Lot.enc t10.1.Lots))], .imm (.val (.int .i64 t10.2))]) [] 0 (lombardref25_Begin.ok b11) rfl rfl rfl ca12 rfl rfl (cC (.agg _ _ _ _ (cC (.imm _) (cC (.imm _) (cC (.imm _) (cC (.imm _) (cC (.imm _) (cC (.imm _) (cC (.imm _) (cC (.imm _) (cC (.imm _) (cC (.imm _) (cC (.imm _) (cC (.imm _) .nil))))))))))))) .nil) rfl rfl rfl rfl rfl ?_
    refine .v rfl rfl (OpL.move (.inl rfl) rfl) ?_
    refine .v rfl rfl (OpL.extract rfl rfl rfl) ?_
    refine .v rfl rfl (OpL.extract rfl rfl rfl) ?_
    refine .t rfl rfl (O.alloc z31 rfl) ?_
    refine .s rfl rfl (O.st ty31 rfl rfl rfl rfl rfl rfl rfl rfl rfl rfl (all' := [.imm (.val (.int .i64 t10.1.Day)), .imm (.val (.int .i64 t10.1.Member)), .imm (.val (.int .i64 t10.1.Trade)), .imm (.val (.int .i64 t10.1.Cash)), .imm (.row 2 (List.map api_Lot.enc t10.1.Lots))]) rfl) ?_
    refine .v rfl rfl (OpL.move (.inr rfl) rfl) ?_
    refine .nil ?_
    refine W.seq ?_
    obtain ⟨t12, b13, h⟩ := bnd1 h
    obtain ⟨t14, b15, h⟩ := bnd1 h
    refine W.pk ?_
    refine .v rfl rfl (O.ldN ty27 rfl rfl rfl) ?_
    refine .call (.agg [.imm (.val (.int .i64 t12.Trade.ID)), .imm (.val (.int .i64 t12.Trade.Twin)), .imm (.val (.int .i64 t12.Trade.Member)), .imm (.val (.int .i64 t12.Trade.Side)), .imm (.val (.int .i64 t12.Trade.Basket)), .imm (.val (.int .i64 t12.Trade.Amount)), .imm (.val (.int .i64 t12.Trade.Start)), .imm (.val (.int .i64 t12.Trade.End)), .imm (.row 2 (List.map api_Reset.enc t12.Trade.Resets)), .imm (.val (.int .i64 t12.Trade.Stage)), .imm (.val (.bool t12.Trade.Short)), .imm (.row 2 (List.map api_Lot.enc t12.Lots))]) [] 0 (lombardlaw25_of.ok b13) rfl rfl rfl ca10 rfl rfl (cC (.agg _ _ _ _ (cC (.imm _) (cC (.imm _) (cC (.imm _) (cC (.imm _) (cC (.imm _) (cC (.imm _) (cC (.imm _) (cC (.imm _) (cC (.imm _) (cC (.imm _) (cC (.imm _) (cC (.imm _) .nil))))))))))))) .nil) rfl rfl rfl rfl rfl ?_
    refine .call (.tup [.agg [.imm (.val (.int .i64 t14.1.Day)), .imm (.val (.int .i64 t14.1.Member)), .imm (.val (.int .i64 t14.1.Trade)), .imm (.val (.int .i64 t14.1.Cash)), .imm (.row 2 (List.map api_Lot.enc t14.1.Lots))], .imm (.val (.int .i64 t14.2))]) [] 0 (leg_Covered_End.ok b15) rfl rfl rfl ca13 rfl rfl (cC (.agg _ _ _ _ (cC (.imm _) (cC (.imm _) (cC (.imm _) (cC (.imm _) (cC (.imm _) (cC (.imm _) (cC (.imm _) (cC (.imm _) (cC (.imm _) (cC (.imm _) (cC (.imm _) (cC (.imm _) .nil))))))))))))) .nil) rfl rfl rfl rfl rfl ?_
    refine .v rfl rfl (OpL.move (.inl rfl) rfl) ?_
    refine .v rfl rfl (OpL.extract rfl rfl rfl) ?_
    refine .v rfl rfl (OpL.extract rfl rfl rfl) ?_
    refine .t rfl rfl (O.alloc z31 rfl) ?_
    refine .s rfl rfl (O.st ty31 rfl rfl rfl rfl rfl rfl rfl rfl rfl rfl (all' := [.imm (.val (.int .i64 t14.1.Day)), .imm (.val (.int .i64 t14.1.Member)), .imm (.val (.int .i64 t14.1.Trade)), .imm (.val (.int .i64 t14.1.Cash)), .imm (.row 2 (List.map api_Lot.enc t14.1.Lots))]) rfl) ?_
    refine .v rfl rfl (OpL.move (.inr rfl) rfl) ?_
    refine .nil ?_
    refine W.seq ?_
    obtain ⟨t16, b17, h⟩ := bnd1 h
    refine W.pk ?_
    refine .v rfl rfl (O.ldN ty27 rfl rfl rfl) ?_
    refine .call (.tup [.agg [.imm (.val (.int .i64 t16.1.Day)), .imm (.val (.int .i64 t16.1.Member)), .imm (.val (.int .i64 t16.1.Trade)), .imm (.val (.int .i64 t16.1.Cash)), .imm (.row 2 (List.map api_Lot.enc t16.1.Lots))], .imm (.val (.int .i64 t16.2))]) [] 0 (lombardref25_End.ok b17) rfl rfl rfl ca14 rfl rfl (cC (.agg _ _ _ _ (cC (.imm _) (cC (.imm _) (cC (.imm _) (cC (.imm _) (cC (.imm _) (cC (.imm _) (cC (.imm _) (cC (.imm _) (cC (.imm _) (cC (.imm _) (cC (.imm _) (cC (.imm _) .nil))))))))))))) .nil) rfl rfl rfl rfl rfl ?_
    refine .v rfl rfl (OpL.move (.inl rfl) rfl) ?_
    refine .v rfl rfl (OpL.extract rfl rfl rfl) ?_
    refine .v rfl rfl (OpL.extract rfl rfl rfl) ?_
    refine .t rfl rfl (O.alloc z31 rfl) ?_
    refine .s rfl rfl (O.st ty31 rfl rfl rfl rfl rfl rfl rfl rfl rfl rfl (all' := [.imm (.val (.int .i64 t16.1.Day)), .imm (.val (.int .i64 t16.1.Member)), .imm (.val (.int .i64 t16.1.Trade)), .imm (.val (.int .i64 t16.1.Cash)), .imm (.row 2 (List.map api_Lot.enc t16.1.Lots))]) rfl) ?_
    refine .v rfl rfl (OpL.move (.inr rfl) rfl) ?_
    refine .nil ?_
    refine W.seq ?_
    obtain ⟨t18, b19, h⟩ := bnd1 h
    obtain ⟨t20, b21, h⟩ := bnd1 h
    obtain ⟨t22, b23, h⟩ := bnd1 h
    refine W.fork (mkSt [(2, some (.imm (.val (.bool ((((t18 && (t8.2 == t10.2)) && t20) && (t14.2 == t16.2)) && t22)))))] [] 1005) ?_ ?_
    · refine W.ret ?_
      cases h
      exact leaves (.inr rfl) rfl (.imm _) (cN .nil) rfl rfl
    · clear h
      rcases tf t18 with g24 | g24
      · rcases tf (t8.2 == t10.2) with g25 | g25
        · rcases tf t20 with g26 | g26
          · rcases tf (t14.2 == t16.2) with g27 | g27
            · refine W.pk ?_
              refine .v rfl rfl (O.ldN ty31 rfl rfl rfl) ?_
              refine .v rfl rfl (O.ldN ty31 rfl rfl rfl) ?_
              refine .call (.imm (.val (.bool t18))) [] 0 (lombardref25_Same.ok b19) rfl rfl rfl ca15 rfl rfl (cC (.agg _ _ _ _ (cC (.imm _) (cC (.imm _) (cC (.imm _) (cC (.imm _) (cC (.imm _) .nil)))))) (cC (.agg _ _ _ _ (cC (.imm _) (cC (.imm _) (cC (.imm _) (cC (.imm _) (cC (.imm _) .nil)))))) .nil)) rfl rfl rfl rfl rfl ?_
              refine .v rfl rfl (OpL.move (.inl rfl) rfl) ?_
              refine .v rfl (met rfl rfl rfl g24) (OpL.move (.inl rfl) rfl) ?_
              refine .v rfl (met rfl rfl rfl g24) (OpL.move (.inl rfl) rfl) ?_
              refine .v rfl (met rfl rfl rfl g24) (OpL.binI rfl rfl rfl rfl) ?_
              refine .v rfl rfl (O.pickT g24 rfl rfl rfl) ?_
              refine .v rfl rfl (OpL.move (.inl rfl) rfl) ?_
              refine .v rfl (met rfl rfl rfl g25) (O.ldN ty31 rfl rfl rfl) ?_
              refine .v rfl (met rfl rfl rfl g25) (O.ldN ty31 rfl rfl rfl) ?_
              refine .call (.imm (.val (.bool t20))) [] 0 (lombardref25_Same.ok ((if_pos (by simp only [g24, g25, g26, g27, Bool.true_or, Bool.or_true, Bool.false_or, Bool.or_false, Bool.true_and, Bool.and_true, Bool.false_and, Bool.and_false, Bool.not_true, Bool.not_false, cond_true, cond_false])).symm.trans b21)) rfl (met rfl rfl rfl g25) rfl ca15 rfl rfl (cC (.agg _ _ _ _ (cC (.imm _) (cC (.imm _) (cC (.imm _) (cC (.imm _) (cC (.imm _) .nil)))))) (cC (.agg _ _ _ _ (cC (.imm _) (cC (.imm _) (cC (.imm _) (cC (.imm _) (cC (.imm _) .nil)))))) .nil)) rfl rfl rfl rfl rfl ?_
              refine .v rfl rfl (O.pickT g25 rfl rfl rfl) ?_
              refine .v rfl rfl (OpL.move (.inl rfl) rfl) ?_
              refine .v rfl (met rfl rfl rfl g26) (OpL.move (.inl rfl) rfl) ?_
              refine .v rfl (met rfl rfl rfl g26) (OpL.move (.inl rfl) rfl) ?_
              refine .v rfl (met rfl rfl rfl g26) (OpL.binI rfl rfl rfl rfl) ?_
              refine .v rfl rfl (O.pickT g26 rfl rfl rfl) ?_
              refine .v rfl rfl (OpL.move (.inl rfl) rfl) ?_
              refine .call (.imm (.val (.bool t22))) [] 0 (lombardlaw25_awake.ok ((if_pos (by simp only [g24, g25, g26, g27, Bool.true_or, Bool.or_true, Bool.false_or, Bool.or_false, Bool.true_and, Bool.and_true, Bool.false_and, Bool.and_false, Bool.not_true, Bool.not_false, cond_true, cond_false])).symm.trans b23)) rfl (met rfl rfl rfl g27) rfl ca9 rfl rfl .nil rfl rfl rfl rfl rfl ?_
              refine .v rfl rfl (O.pickT g27 rfl rfl rfl) ?_
              refine .v rfl rfl (OpL.move (.inr rfl) rfl) ?_
              refine .nil ?_
              exact toN (Gives.mkR [] (.c rfl (sbb (by simp only [g24, g25, g26, g27, Bool.true_or, Bool.or_true, Bool.false_or, Bool.or_false, Bool.true_and, Bool.and_true, Bool.false_and, Bool.and_false, Bool.not_true, Bool.not_false, cond_true, cond_false])) rfl .n) .n rfl rfl rfl)
            · refine W.pk ?_
              refine .v rfl rfl (O.ldN ty31 rfl rfl rfl) ?_
              refine .v rfl rfl (O.ldN ty31 rfl rfl rfl) ?_
              refine .call (.imm (.val (.bool t18))) [] 0 (lombardref25_Same.ok b19) rfl rfl rfl ca15 rfl rfl (cC (.agg _ _ _ _ (cC (.imm _) (cC (.imm _) (cC (.imm _) (cC (.imm _) (cC (.imm _) .nil)))))) (cC (.agg _ _ _ _ (cC (.imm _) (cC (.imm _) (cC (.imm _) (cC (.imm _) (cC (.imm _) .nil)))))) .nil)) rfl rfl rfl rfl rfl ?_
              refine .v rfl rfl (OpL.move (.inl rfl) rfl) ?_
              refine .v rfl (met rfl rfl rfl g24) (OpL.move (.inl rfl) rfl) ?_
              refine .v rfl (met rfl rfl rfl g24) (OpL.move (.inl rfl) rfl) ?_
              refine .v rfl (met rfl rfl rfl g24) (OpL.binI rfl rfl rfl rfl) ?_
              refine .v rfl rfl (O.pickT g24 rfl rfl rfl) ?_
              refine .v rfl rfl (OpL.move (.inl rfl) rfl) ?_
              refine .v rfl (met rfl rfl rfl g25) (O.ldN ty31 rfl rfl rfl) ?_
              refine .v rfl (met rfl rfl rfl g25) (O.ldN ty31 rfl rfl rfl) ?_
              refine .call (.imm (.val (.bool t20))) [] 0 (lombardref25_Same.ok ((if_pos (by simp only [g24, g25, g26, g27, Bool.true_or, Bool.or_true, Bool.false_or, Bool.or_false, Bool.true_and, Bool.and_true, Bool.false_and, Bool.and_false, Bool.not_true, Bool.not_false, cond_true, cond_false])).symm.trans b21)) rfl (met rfl rfl rfl g25) rfl ca15 rfl rfl (cC (.agg _ _ _ _ (cC (.imm _) (cC (.imm _) (cC (.imm _) (cC (.imm _) (cC (.imm _) .nil)))))) (cC (.agg _ _ _ _ (cC (.imm _) (cC (.imm _) (cC (.imm _) (cC (.imm _) (cC (.imm _) .nil)))))) .nil)) rfl rfl rfl rfl rfl ?_
              refine .v rfl rfl (O.pickT g25 rfl rfl rfl) ?_
              refine .v rfl rfl (OpL.move (.inl rfl) rfl) ?_
              refine .v rfl (met rfl rfl rfl g26) (OpL.move (.inl rfl) rfl) ?_
              refine .v rfl (met rfl rfl rfl g26) (OpL.move (.inl rfl) rfl) ?_
              refine .v rfl (met rfl rfl rfl g26) (OpL.binI rfl rfl rfl rfl) ?_
              refine .v rfl rfl (O.pickT g26 rfl rfl rfl) ?_
              refine .v rfl rfl (OpL.move (.inl rfl) rfl) ?_
              refine .x rfl (unmet rfl rfl rfl g27) ?_
              refine .v rfl rfl (O.pickF g27 rfl rfl rfl) ?_
              refine .v rfl rfl (OpL.move (.inr rfl) rfl) ?_
              refine .nil ?_
              exact toN (Gives.mkR [] (.c rfl (sbb (by simp only [g24, g25, g26, g27, Bool.true_or, Bool.or_true, Bool.false_or, Bool.or_false, Bool.true_and, Bool.and_true, Bool.false_and, Bool.and_false, Bool.not_true, Bool.not_false, cond_true, cond_false])) rfl .n) .n rfl rfl rfl)
          · refine W.pk ?_
            refine .v rfl rfl (O.ldN ty31 rfl rfl rfl) ?_
            refine .v rfl rfl (O.ldN ty31 rfl rfl rfl) ?_
            refine .call (.imm (.val (.bool t18))) [] 0 (lombardref25_Same.ok b19) rfl rfl rfl ca15 rfl rfl (cC (.agg _ _ _ _ (cC (.imm _) (cC (.imm _) (cC (.imm _) (cC (.imm _) (cC (.imm _) .nil)))))) (cC (.agg _ _ _ _ (cC (.imm _) (cC (.imm _) (cC (.imm _) (cC (.imm _) (cC (.imm _) .nil)))))) .nil)) rfl rfl rfl rfl rfl ?_
            refine .v rfl rfl (OpL.move (.inl rfl) rfl) ?_
            refine .v rfl (met rfl rfl rfl g24) (OpL.move (.inl rfl) rfl) ?_
            refine .v rfl (met rfl rfl rfl g24) (OpL.move (.inl rfl) rfl) ?_
            refine .v rfl (met rfl rfl rfl g24) (OpL.binI rfl rfl rfl rfl) ?_
            refine .v rfl rfl (O.pickT g24 rfl rfl rfl) ?_
            refine .v rfl rfl (OpL.move (.inl rfl) rfl) ?_
            refine .v rfl (met rfl rfl rfl g25) (O.ldN ty31 rfl rfl rfl) ?_
            refine .v rfl (met rfl rfl rfl g25) (O.ldN ty31 rfl rfl rfl) ?_
            refine .call (.imm (.val (.bool t20))) [] 0 (lombardref25_Same.ok ((if_pos (by simp only [g24, g25, g26, Bool.true_or, Bool.or_true, Bool.false_or, Bool.or_false, Bool.true_and, Bool.and_true, Bool.false_and, Bool.and_false, Bool.not_true, Bool.not_false, cond_true, cond_false])).symm.trans b21)) rfl (met rfl rfl rfl g25) rfl ca15 rfl rfl (cC (.agg _ _ _ _ (cC (.imm _) (cC (.imm _) (cC (.imm _) (cC (.imm _) (cC (.imm _) .nil)))))) (cC (.agg _ _ _ _ (cC (.imm _) (cC (.imm _) (cC (.imm _) (cC (.imm _) (cC (.imm _) .nil)))))) .nil)) rfl rfl rfl rfl rfl ?_
            refine .v rfl rfl (O.pickT g25 rfl rfl rfl) ?_
            refine .v rfl rfl (OpL.move (.inl rfl) rfl) ?_
            refine .x rfl (unmet rfl rfl rfl g26) ?_
            refine .x rfl (unmet rfl rfl rfl g26) ?_
            refine .x rfl (unmet rfl rfl rfl g26) ?_
            refine .v rfl rfl (O.pickF g26 rfl rfl rfl) ?_
            refine .v rfl rfl (OpL.move (.inl rfl) rfl) ?_
            refine .x rfl (unmet rfl rfl rfl rfl) ?_
            refine .v rfl rfl (O.pickF rfl rfl rfl rfl) ?_
            refine .v rfl rfl (OpL.move (.inr rfl) rfl) ?_
            refine .nil ?_
            exact toN (Gives.mkR [] (.c rfl (sbb (by simp only [g24, g25, g26, Bool.true_or, Bool.or_true, Bool.false_or, Bool.or_false, Bool.true_and, Bool.and_true, Bool.false_and, Bool.and_false, Bool.not_true, Bool.not_false, cond_true, cond_false])) rfl .n) .n rfl rfl rfl)
        · refine W.pk ?_
          refine .v rfl rfl (O.ldN ty31 rfl rfl rfl) ?_
          refine .v rfl rfl (O.ldN ty31 rfl rfl rfl) ?_
          refine .call (.imm (.val (.bool t18))) [] 0 (lombardref25_Same.ok b19) rfl rfl rfl ca15 rfl rfl (cC (.agg _ _ _ _ (cC (.imm _) (cC (.imm _) (cC (.imm _) (cC (.imm _) (cC (.imm _) .nil)))))) (cC (.agg _ _ _ _ (cC (.imm _) (cC (.imm _) (cC (.imm _) (cC (.imm _) (cC (.imm _) .nil)))))) .nil)) rfl rfl rfl rfl rfl ?_
          refine .v rfl rfl (OpL.move (.inl rfl) rfl) ?_
          refine .v rfl (met rfl rfl rfl g24) (OpL.move (.inl rfl) rfl) ?_
          refine .v rfl (met rfl rfl rfl g24) (OpL.move (.inl rfl) rfl) ?_
          refine .v rfl (met rfl rfl rfl g24) (OpL.binI rfl rfl rfl rfl) ?_
          refine .v rfl rfl (O.pickT g24 rfl rfl rfl) ?_
          refine .v rfl rfl (OpL.move (.inl rfl) rfl) ?_
          refine .x rfl (unmet rfl rfl rfl g25) ?_
          refine .x rfl (unmet rfl rfl rfl g25) ?_
          refine .x rfl (unmet rfl rfl rfl g25) ?_
          refine .v rfl rfl (O.pickF g25 rfl rfl rfl) ?_
          refine .v rfl rfl (OpL.move (.inl rfl) rfl) ?_
          refine .x rfl (unmet rfl rfl rfl rfl) ?_
          refine .x rfl (unmet rfl rfl rfl rfl) ?_
          refine .x rfl (unmet rfl rfl rfl rfl) ?_
          refine .v rfl rfl (O.pickF rfl rfl rfl rfl) ?_
          refine .v rfl rfl (OpL.move (.inl rfl) rfl) ?_
          refine .x rfl (unmet rfl rfl rfl rfl) ?_
          refine .v rfl rfl (O.pickF rfl rfl rfl rfl) ?_
          refine .v rfl rfl (OpL.move (.inr rfl) rfl) ?_
          refine .nil ?_
          exact toN (Gives.mkR [] (.c rfl (sbb (by simp only [g24, g25, Bool.true_or, Bool.or_true, Bool.false_or, Bool.or_false, Bool.true_and, Bool.and_true, Bool.false_and, Bool.and_false, Bool.not_true, Bool.not_false, cond_true, cond_false])) rfl .n) .n rfl rfl rfl)
      · refine W.pk ?_
        refine .v rfl rfl (O.ldN ty31 rfl rfl rfl) ?_
        refine .v rfl rfl (O.ldN ty31 rfl rfl rfl) ?_
        refine .call (.imm (.val (.bool t18))) [] 0 (lombardref25_Same.ok b19) rfl rfl rfl ca15 rfl rfl (cC (.agg _ _ _ _ (cC (.imm _) (cC (.imm _) (cC (.imm _) (cC (.imm _) (cC (.imm _) .nil)))))) (cC (.agg _ _ _ _ (cC (.imm _) (cC (.imm _) (cC (.imm _) (cC (.imm _) (cC (.imm _) .nil)))))) .nil)) rfl rfl rfl rfl rfl ?_
        refine .v rfl rfl (OpL.move (.inl rfl) rfl) ?_
        refine .x rfl (unmet rfl rfl rfl g24) ?_
        refine .x rfl (unmet rfl rfl rfl g24) ?_
        refine .x rfl (unmet rfl rfl rfl g24) ?_
        refine .v rfl rfl (O.pickF g24 rfl rfl rfl) ?_
        refine .v rfl rfl (OpL.move (.inl rfl) rfl) ?_
        refine .x rfl (unmet rfl rfl rfl rfl) ?_
        refine .x rfl (unmet rfl rfl rfl rfl) ?_
        refine .x rfl (unmet rfl rfl rfl rfl) ?_
        refine .v rfl rfl (O.pickF rfl rfl rfl rfl) ?_
        refine .v rfl rfl (OpL.move (.inl rfl) rfl) ?_
        refine .x rfl (unmet rfl rfl rfl rfl) ?_
        refine .x rfl (unmet rfl rfl rfl rfl) ?_
        refine .x rfl (unmet rfl rfl rfl rfl) ?_
        refine .v rfl rfl (O.pickF rfl rfl rfl rfl) ?_
        refine .v rfl rfl (OpL.move (.inl rfl) rfl) ?_
        refine .x rfl (unmet rfl rfl rfl rfl) ?_
        refine .v rfl rfl (O.pickF rfl rfl rfl rfl) ?_
        refine .v rfl rfl (OpL.move (.inr rfl) rfl) ?_
        refine .nil ?_
        exact toN (Gives.mkR [] (.c rfl (sbb (by simp only [g24, Bool.true_or, Bool.or_true, Bool.false_or, Bool.or_false, Bool.true_and, Bool.and_true, Bool.false_and, Bool.and_false, Bool.not_true, Bool.not_false, cond_true, cond_false])) rfl .n) .n rfl rfl rfl)

noncomputable def lombardref25_Against.b0 (x0 : api_Leg) (x1 : api_Leg) (v11 : Int) : Option (Int ⊕ (Bool ⊕ Unit)) :=
  if (decide (v11 < (List.length x0.Lots : Int))) = true then
    if (0 : Int) ≤ v11 ∧ v11 < (List.length x0.Lots : Int) then
    if (0 : Int) ≤ v11 ∧ v11 < (List.length x1.Lots : Int) then
    if ((!(((nth x0.Lots v11).ISIN) == ((nth x1.Lots v11).ISIN))) = false → (0 : Int) ≤ v11 ∧ v11 < (List.length x0.Lots : Int)) then
    if ((!(((nth x0.Lots v11).ISIN) == ((nth x1.Lots v11).ISIN))) = false → (0 : Int) ≤ v11 ∧ v11 < (List.length x1.Lots : Int)) then
    if ((!(((nth x0.Lots v11).ISIN) == ((nth x1.Lots v11).ISIN))) || ((IntKind.wrap .i64 (((nth x0.Lots v11).Qty) + ((nth x1.Lots v11).Qty))) != 0)) = true then
      some (.inr (.inl false))
    else
      some (.inl (IntKind.wrap .i64 (v11 + 1)))
    else none
    else none
    else none
    else none
  else
    some (.inr (.inr ()))
noncomputable def lombardref25_Against.r0 (x0 : api_Leg) (x1 : api_Leg) (s : Int) : Option (Int ⊕ (Bool ⊕ Unit)) := lombardref25_Against.b0 x0 x1 s
noncomputable def lombardref25_Against.f (x0 : api_Leg) (x1 : api_Leg) : Option (Bool) :=
  if (((x0.Day != x1.Day) || ((IntKind.wrap .i64 (x0.Cash + x1.Cash)) != 0)) || ((List.length x0.Lots : Int) != (List.length x1.Lots : Int))) = true then
    some false
  else
    (loop (lombardref25_Against.r0 x0 x1) 0).bind fun o27 =>
    match o27 with
    | .inl r37 => some r37
    | .inr w26 =>
      some true
set_option maxRecDepth 100000 in
set_option maxHeartbeats 4000000 in
theorem lombardref25_Against.ok {x0 : api_Leg} {x1 : api_Leg} {r : Bool} (h : lombardref25_Against.f x0 x1 = some r) : Pm.Spec prog 16 [.agg [.imm (.val (.int .i64 x0.Day)), .imm (.val (.int .i64 x0.Member)), .imm (.val (.int .i64 x0.Trade)), .imm (.val (.int .i64 x0.Cash)), .imm (.row 2 (List.map api_Lot.enc x0.Lots))], .agg [.imm (.val (.int .i64 x1.Day)), .imm (.val (.int .i64 x1.Member)), .imm (.val (.int .i64 x1.Trade)), .imm (.val (.int .i64 x1.Cash)), .imm (.row 2 (List.map api_Lot.enc x1.Lots))]] (.imm (.val (.bool r))) [none, none] := by
  unfold lombardref25_Against.f at h
  refine Pm.Spec.of_body Try.func16 rfl (by kernel_rfl) (Nat.le_of_ble_eq_true rfl) (Nat.le_of_ble_eq_true rfl) ?_
  refine W.ghost (σ' := (mkSt [(0, some (.agg [.imm (.val (.int .i64 x0.Day)), .imm (.val (.int .i64 x0.Member)), .imm (.val (.int .i64 x0.Trade)), .imm (.val (.int .i64 x0.Cash)), .imm (.row 2 (List.map api_Lot.enc x0.Lots))])), (1, some (.agg [.imm (.val (.int .i64 x1.Day)), .imm (.val (.int .i64 x1.Member)), .imm (.val (.int .i64 x1.Trade)), .imm (.val (.int .i64 x1.Cash)), .imm (.row 2 (List.map api_Lot.enc x1.Lots))]))] [] 1000)) (Gives.entry (.c rfl (.c rfl .n)) .n) ?_
  refine W.seq ?_
  refine W.pk ?_
  refine .t rfl rfl (O.box rfl rfl rfl rfl rfl) ?_
  refine .t rfl rfl (O.box rfl rfl rfl rfl rfl) ?_
  refine .v rfl rfl (OpL.move (.inr rfl) rfl) ?_
  refine .nil ?_
  refine W.seq ?_
  refine W.seq ?_
  refine W.fork (mkSt [(2, some (.ptr 1000 0)), (3, some (.ptr 1001 0)), (27, some (.imm (.val (.bool (((x0.Day != x1.Day) || ((IntKind.wrap .i64 (x0.Cash + x1.Cash)) != 0)) || ((List.length x0.Lots : Int) != (List.length x1.Lots : Int)))))))] [(1000, some (.box [.imm (.val (.int .i64 x0.Day)), .imm (.val (.int .i64 x0.Member)), .imm (.val (.int .i64 x0.Trade)), .imm (.val (.int .i64 x0.Cash)), .imm (.row 2 (List.map api_Lot.enc x0.Lots))])), (1001, some (.box [.imm (.val (.int .i64 x1.Day)), .imm (.val (.int .i64 x1.Member)), .imm (.val (.int .i64 x1.Trade)), .imm (.val (.int .i64 x1.Cash)), .imm (.row 2 (List.map api_Lot.enc x1.Lots))]))] 1002) ?_ ?_
  · refine W.cond rfl (fun q3 => ?_) (fun q3 => ?_)
    · have h := ifT q3 h
      refine W.seq ?_
      refine W.pk ?_
      refine .v rfl rfl (OpL.move (.inr rfl) rfl) ?_
      refine .nil ?_
      refine W.ret ?_
      cases h
      exact leaves (.inr rfl) rfl (.imm _) (cN (cN .nil)) rfl rfl
    · have h := ifF q3 h
      refine W.skip ?_
      refine W.seq ?_
      refine W.seq ?_
      refine W.pk ?_
      refine .v rfl rfl (OpL.move (.inr rfl) rfl) ?_
      refine .nil ?_
      obtain ⟨o27, b28, z29⟩ := bnd1 h
      refine W.fork2 (out := o27) (fun (w26 : Unit) => mkSt [] [] 1002) ?_ ?_
      · clear h
        refine W.block ?_
        refine W.loopF (fun (s_ : Int) => mkSt [(2, some (.ptr 1000 0)), (3, some (.ptr 1001 0)), (5, some (.imm (.val (.int .i64 s_))))] [(1000, some (.box [.imm (.val (.int .i64 x0.Day)), .imm (.val (.int .i64 x0.Member)), .imm (.val (.int .i64 x0.Trade)), .imm (.val (.int .i64 x0.Cash)), .imm (.row 2 (List.map api_Lot.enc x0.Lots))])), (1001, some (.box [.imm (.val (.int .i64 x1.Day)), .imm (.val (.int .i64 x1.Member)), .imm (.val (.int .i64 x1.Trade)), .imm (.val (.int .i64 x1.Cash)), .imm (.row 2 (List.map api_Lot.enc x1.Lots))]))] 1002) b28 (Gives.mkR [] (.c rfl (.rfl _) rfl (.c rfl (.rfl _) rfl (.c rfl (.rfl _) rfl .n))) (.c rfl (.rfl _) rfl rfl (.c rfl (.rfl _) rfl rfl .n)) rfl rfl rfl) ?_
        rintro v11 s_ hr
        have h : lombardref25_Against.b0 x0 x1 v11 = some s_ := hr
        unfold lombardref25_Against.b0 at h
        refine W.seq ?_
        refine W.seq ?_
        refine W.pk ?_
        refine .v rfl rfl (OpL.move (.inl rfl) rfl) ?_
        refine .v rfl rfl (O.fld fld31_4 rfl rfl rfl) ?_
        refine .v rfl rfl (O.ld ty25 rfl rfl rfl) ?_
        refine .v rfl rfl (O.lenR sl25 rfl rfl) ?_
        refine .v rfl rfl (OpL.binI rfl rfl rfl rfl) ?_
        refine .nil ?_
        refine W.cond rfl (fun q30 => ?_) (fun q30 => ?_)
        · have h := ifT q30 h
          refine W.skip ?_
          refine W.seq ?_
          refine W.block ?_
          refine W.seq ?_
          obtain ⟨c31, h⟩ := chk h
          obtain ⟨c32, h⟩ := chk h
          obtain ⟨c33, h⟩ := chk h
          obtain ⟨c34, h⟩ := chk h
          refine W.fork (mkSt [(2, some (.ptr 1000 0)), (3, some (.ptr 1001 0)), (5, some (.imm (.val (.int .i64 v11)))), (63, some (.imm (.val (.bool ((!(((nth x0.Lots v11).ISIN) == ((nth x1.Lots v11).ISIN))) || ((IntKind.wrap .i64 (((nth x0.Lots v11).Qty) + ((nth x1.Lots v11).Qty))) != 0))))))] [(1000, some (.box [.imm (.val (.int .i64 x0.Day)), .imm (.val (.int .i64 x0.Member)), .imm (.val (.int .i64 x0.Trade)), .imm (.val (.int .i64 x0.Cash)), .imm (.row 2 (List.map api_Lot.enc x0.Lots))])), (1001, some (.box [.imm (.val (.int .i64 x1.Day)), .imm (.val (.int .i64 x1.Member)), .imm (.val (.int .i64 x1.Trade)), .imm (.val (.int .i64 x1.Cash)), .imm (.row 2 (List.map api_Lot.enc x1.Lots))]))] 1002) ?_ ?_
          · refine W.cond rfl (fun q36 => ?_) (fun q36 => ?_)
            · have h := ifT q36 h
              refine W.seq ?_
              refine W.pk ?_
              refine .v rfl rfl (OpL.move (.inr rfl) rfl) ?_
              refine .nil ?_
              refine W.ret ?_
              cases h
              refine rdR fun e_ => ?_
              subst e_
              have h := z29
              dsimp only at h
              refine fkR ?_
              cases h
              exact leaves (.inr rfl) rfl (.imm _) (cN (cN .nil)) rfl rfl
            · have h := ifF q36 h
              refine W.skip ?_
              refine W.pk ?_
              refine .v rfl rfl (OpL.move (.inl rfl) rfl) ?_
              refine .v rfl rfl (OpL.binI rfl rfl rfl rfl) ?_
              refine .v rfl rfl (OpL.move (.inr rfl) rfl) ?_
              refine .nil ?_
              cases h
              exact rdN (Gives.mkR [] (.c rfl (.rfl _) rfl (.c rfl (.rfl _) rfl (.c rfl (.rfl _) rfl .n))) (.c rfl (.rfl _) rfl rfl (.c rfl (.rfl _) rfl rfl .n)) rfl rfl rfl)
          · clear h
            rcases tf (((nth x0.Lots v11).ISIN) == ((nth x1.Lots v11).ISIN)) with g35 | g35
            · refine W.dk [[], [0], [], [0, 1, 2], [0, 1, 2, 3], [0, 1, 2, 3, 4], [], [6], [], [6, 7, 8], [6, 7, 8, 9], [6, 7, 8, 9, 10], [0, 1, 2, 3, 4, 5, 6, 7, 8, 9, 10, 11], [0, 1, 2, 3, 4, 5, 6, 7, 8, 9, 10, 11, 12], [0, 1, 2, 3, 4, 5, 6, 7, 8, 9, 10, 11, 12, 13], [0, 1, 2, 3, 4, 5, 6, 7, 8, 9, 10, 11, 12, 13, 14], [0, 1, 2, 3, 4, 5, 6, 7, 8, 9, 10, 11, 12, 13], [0, 1, 2, 3, 4, 5, 6, 7, 8, 9, 10, 11, 12, 13, 14, 15, 16], [0, 1, 2, 3, 4, 5, 6, 7, 8, 9, 10, 11, 12, 13, 14, 15, 16, 17], [0, 1, 2, 3, 4, 5, 6, 7, 8, 9, 10, 11, 12, 13, 14, 15, 16, 17, 18], [0, 1, 2, 3, 4, 5, 6, 7, 8, 9, 10, 11, 12, 13], [0, 1, 2, 3, 4, 5, 6, 7, 8, 9, 10, 11, 12, 13, 20], [0, 1, 2, 3, 4, 5, 6, 7, 8, 9, 10, 11, 12, 13], [0, 1, 2, 3, 4, 5, 6, 7, 8, 9, 10, 11, 12, 13, 20, 21, 22], [0, 1, 2, 3, 4, 5, 6, 7, 8, 9, 10, 11, 12, 13, 20, 21, 22, 23], [0, 1, 2, 3, 4, 5, 6, 7, 8, 9, 10, 11, 12, 13, 20, 21, 22, 23, 24], [0, 1, 2, 3, 4, 5, 6, 7, 8, 9, 10, 11, 12, 13, 14, 15, 16, 17, 18, 19, 20, 21, 22, 23, 24, 25], [0, 1, 2, 3, 4, 5, 6, 7, 8, 9, 10, 11, 12, 13, 14, 15, 16, 17, 18, 19, 20, 21, 22, 23, 24, 25, 26], [0, 1, 2, 3, 4, 5, 6, 7, 8, 9, 10, 11, 12, 13, 14, 15, 16, 17, 18, 19, 20, 21, 22, 23, 24, 25, 26, 27]] rfl (by kernel_rfl) ?_
              refine .v rfl rfl (O.fld fld31_4 rfl rfl rfl) ?_
              refine .v rfl rfl (O.ld ty25 rfl rfl rfl) ?_
              refine .v rfl rfl (OpL.move (.inl rfl) rfl) ?_
              refine .v rfl rfl (O.idx sl25 c31 rfl rfl rfl) ?_
              refine .v rfl rfl (O.fld fld44_0 rfl rfl rfl) ?_
              refine .v rfl rfl (O.ld ty9 rfl rfl rfl) ?_
              refine .v rfl rfl (O.fld fld31_4 rfl rfl rfl) ?_
              refine .v rfl rfl (O.ld ty25 rfl rfl rfl) ?_
              refine .v rfl rfl (OpL.move (.inl rfl) rfl) ?_
              refine .v rfl rfl (O.idx sl25 c32 rfl rfl rfl) ?_
              refine .v rfl rfl (O.fld fld44_0 rfl rfl rfl) ?_
              refine .v rfl rfl (O.ld ty9 rfl rfl rfl) ?_
              refine .v rfl rfl (O.cmpS rfl rfl rfl rfl) ?_
              refine .v rfl rfl (OpL.move (.inl rfl) rfl) ?_
              refine .v rfl (met rfl rfl rfl (notT g35)) (O.fld fld31_4 rfl rfl rfl) ?_
              refine .v rfl (met rfl rfl rfl (notT g35)) (O.ld ty25 rfl rfl rfl) ?_
              refine .v rfl (met rfl rfl rfl (notT g35)) (OpL.move (.inl rfl) rfl) ?_
              refine .v rfl (met rfl rfl rfl (notT g35)) (O.idx sl25 (c33 (by simp only [g35, Bool.true_or, Bool.or_true, Bool.false_or, Bool.or_false, Bool.true_and, Bool.and_true, Bool.false_and, Bool.and_false, Bool.not_true, Bool.not_false, cond_true, cond_false])) rfl rfl rfl) ?_
              refine .v rfl (met rfl rfl rfl (notT g35)) (O.fld fld44_1 rfl rfl rfl) ?_
              refine .v rfl (met rfl rfl rfl (notT g35)) (O.ld ty3 rfl rfl rfl) ?_
              refine .v rfl (met rfl rfl rfl (notT g35)) (O.fld fld31_4 rfl rfl rfl) ?_
              refine .v rfl (met rfl rfl rfl (notT g35)) (O.ld ty25 rfl rfl rfl) ?_
              refine .v rfl (met rfl rfl rfl (notT g35)) (OpL.move (.inl rfl) rfl) ?_
              refine .v rfl (met rfl rfl rfl (notT g35)) (O.idx sl25 (c34 (by simp only [g35, Bool.true_or, Bool.or_true, Bool.false_or, Bool.or_false, Bool.true_and, Bool.and_true, Bool.false_and, Bool.and_false, Bool.not_true, Bool.not_false, cond_true, cond_false])) rfl rfl rfl) ?_
              refine .v rfl (met rfl rfl rfl (notT g35)) (O.fld fld44_1 rfl rfl rfl) ?_
              refine .v rfl (met rfl rfl rfl (notT g35)) (O.ld ty3 rfl rfl rfl) ?_
              refine .v rfl (met rfl rfl rfl (notT g35)) (OpL.binI rfl rfl rfl rfl) ?_
              refine .v rfl (met rfl rfl rfl (notT g35)) (OpL.binI rfl rfl rfl rfl) ?_
              refine .v rfl rfl (O.pickF (notT g35) rfl rfl rfl) ?_
              refine .nil ?_
              refine ⟨by kernel_rfl, by kernel_rfl, ?_⟩
              exact toN (Gives.mkR [] (.c rfl (.rfl _) rfl (.c rfl (.rfl _) rfl (.c rfl (.rfl _) rfl (.c rfl (sbb (by simp only [g35, Bool.true_or, Bool.or_true, Bool.false_or, Bool.or_false, Bool.true_and, Bool.and_true, Bool.false_and, Bool.and_false, Bool.not_true, Bool.not_false, cond_true, cond_false])) rfl .n)))) (.c rfl (.rfl _) rfl rfl (.c rfl (.rfl _) rfl rfl .n)) rfl rfl rfl)
            · refine W.dk [[], [0], [], [0, 1, 2], [0, 1, 2, 3], [0, 1, 2, 3, 4], [], [6], [], [6, 7, 8], [6, 7, 8, 9], [6, 7, 8, 9, 10], [0, 1, 2, 3, 4, 5, 6, 7, 8, 9, 10, 11], [0, 1, 2, 3, 4, 5, 6, 7, 8, 9, 10, 11, 12], [0, 1, 2, 3, 4, 5, 6, 7, 8, 9, 10, 11, 12, 13], [0, 1, 2, 3, 4, 5, 6, 7, 8, 9, 10, 11, 12, 13, 14], [0, 1, 2, 3, 4, 5, 6, 7, 8, 9, 10, 11, 12, 13], [0, 1, 2, 3, 4, 5, 6, 7, 8, 9, 10, 11, 12, 13, 14, 15, 16], [0, 1, 2, 3, 4, 5, 6, 7, 8, 9, 10, 11, 12, 13, 14, 15, 16, 17], [0, 1, 2, 3, 4, 5, 6, 7, 8, 9, 10, 11, 12, 13, 14, 15, 16, 17, 18], [0, 1, 2, 3, 4, 5, 6, 7, 8, 9, 10, 11, 12, 13], [0, 1, 2, 3, 4, 5, 6, 7, 8, 9, 10, 11, 12, 13, 20], [0, 1, 2, 3, 4, 5, 6, 7, 8, 9, 10, 11, 12, 13], [0, 1, 2, 3, 4, 5, 6, 7, 8, 9, 10, 11, 12, 13, 20, 21, 22], [0, 1, 2, 3, 4, 5, 6, 7, 8, 9, 10, 11, 12, 13, 20, 21, 22, 23], [0, 1, 2, 3, 4, 5, 6, 7, 8, 9, 10, 11, 12, 13, 20, 21, 22, 23, 24], [0, 1, 2, 3, 4, 5, 6, 7, 8, 9, 10, 11, 12, 13, 14, 15, 16, 17, 18, 19, 20, 21, 22, 23, 24, 25], [0, 1, 2, 3, 4, 5, 6, 7, 8, 9, 10, 11, 12, 13, 14, 15, 16, 17, 18, 19, 20, 21, 22, 23, 24, 25, 26], [0, 1, 2, 3, 4, 5, 6, 7, 8, 9, 10, 11, 12, 13, 14, 15, 16, 17, 18, 19, 20, 21, 22, 23, 24, 25, 26, 27]] rfl (by kernel_rfl) ?_
              refine .v rfl rfl (O.fld fld31_4 rfl rfl rfl) ?_
              refine .v rfl rfl (O.ld ty25 rfl rfl rfl) ?_
              refine .v rfl rfl (OpL.move (.inl rfl) rfl) ?_
              refine .v rfl rfl (O.idx sl25 c31 rfl rfl rfl) ?_
              refine .v rfl rfl (O.fld fld44_0 rfl rfl rfl) ?_
              refine .v rfl rfl (O.ld ty9 rfl rfl rfl) ?_
              refine .v rfl rfl (O.fld fld31_4 rfl rfl rfl) ?_
              refine .v rfl rfl (O.ld ty25 rfl rfl rfl) ?_
              refine .v rfl rfl (OpL.move (.inl rfl) rfl) ?_
              refine .v rfl rfl (O.idx sl25 c32 rfl rfl rfl) ?_
              refine .v rfl rfl (O.fld fld44_0 rfl rfl rfl) ?_
              refine .v rfl rfl (O.ld ty9 rfl rfl rfl) ?_
              refine .v rfl rfl (O.cmpS rfl rfl rfl rfl) ?_
              refine .v rfl rfl (OpL.move (.inl rfl) rfl) ?_
              refine .x rfl (unmet rfl rfl rfl (notF g35)) ?_
              refine .x rfl (unmet rfl rfl rfl (notF g35)) ?_
              refine .x rfl (unmet rfl rfl rfl (notF g35)) ?_
              refine .x rfl (unmet rfl rfl rfl (notF g35)) ?_
              refine .x rfl (unmet rfl rfl rfl (notF g35)) ?_
              refine .x rfl (unmet rfl rfl rfl (notF g35)) ?_
              refine .x rfl (unmet rfl rfl rfl (notF g35)) ?_
              refine .x rfl (unmet rfl rfl rfl (notF g35)) ?_
              refine .x rfl (unmet rfl rfl rfl (notF g35)) ?_
              refine .x rfl (unmet rfl rfl rfl (notF g35)) ?_
              refine .x rfl (unmet rfl rfl rfl (notF g35)) ?_
              refine .x rfl (unmet rfl rfl rfl (notF g35)) ?_
              refine .x rfl (unmet rfl rfl rfl (notF g35)) ?_
              refine .x rfl (unmet rfl rfl rfl (notF g35)) ?_
              refine .v rfl rfl (O.pickT (notF g35) rfl rfl rfl) ?_
              refine .nil ?_
              refine ⟨by kernel_rfl, by kernel_rfl, ?_⟩
              exact toN (Gives.mkR [] (.c rfl (.rfl _) rfl (.c rfl (.rfl _) rfl (.c rfl (.rfl _) rfl (.c rfl (sbb (by simp only [g35, Bool.true_or, Bool.or_true, Bool.false_or, Bool.or_false, Bool.true_and, Bool.and_true, Bool.false_and, Bool.and_false, Bool.not_true, Bool.not_false, cond_true, cond_false])) rfl .n)))) (.c rfl (.rfl _) rfl rfl (.c rfl (.rfl _) rfl rfl .n)) rfl rfl rfl)
        · have h := ifF q30 h
          refine W.exit ?_
          cases h
          refine rdX fun e_ => ?_
          subst e_
          refine hit ?_
          exact fkN (Gives.mkR [] .n .n rfl rfl rfl)
      · intro w26 e_
        subst e_
        clear h
        have h := z29
        dsimp only at h
        refine W.seq ?_
        refine W.pk ?_
        refine .v rfl rfl (OpL.move (.inr rfl) rfl) ?_
        refine .nil ?_
        refine W.ret ?_
        cases h
        exact leaves (.inr rfl) rfl (.imm _) (cN (cN .nil)) rfl rfl
  · clear h
    rcases tf (x0.Day != x1.Day) with g1 | g1
    · refine W.pk ?_
      refine .v rfl rfl (O.fld fld31_0 rfl rfl rfl) ?_
      refine .v rfl rfl (O.ld ty3 rfl rfl rfl) ?_
      refine .v rfl rfl (O.fld fld31_0 rfl rfl rfl) ?_
      refine .v rfl rfl (O.ld ty3 rfl rfl rfl) ?_
      refine .v rfl rfl (OpL.binI rfl rfl rfl rfl) ?_
      refine .v rfl rfl (OpL.move (.inl rfl) rfl) ?_
      refine .x rfl (unmet rfl rfl rfl g1) ?_
      refine .x rfl (unmet rfl rfl rfl g1) ?_
      refine .x rfl (unmet rfl rfl rfl g1) ?_
      refine .x rfl (unmet rfl rfl rfl g1) ?_
      refine .x rfl (unmet rfl rfl rfl g1) ?_
      refine .x rfl (unmet rfl rfl rfl g1) ?_
      refine .v rfl rfl (O.pickT g1 rfl rfl rfl) ?_
      refine .v rfl rfl (OpL.move (.inl rfl) rfl) ?_
      refine .x rfl (unmet rfl rfl rfl rfl) ?_
      refine .x rfl (unmet rfl rfl rfl rfl) ?_
      refine .x rfl (unmet rfl rfl rfl rfl) ?_
      refine .x rfl (unmet rfl rfl rfl rfl) ?_
      refine .x rfl (unmet rfl rfl rfl rfl) ?_
      refine .x rfl (unmet rfl rfl rfl rfl) ?_
      refine .x rfl (unmet rfl rfl rfl rfl) ?_
      refine .v rfl rfl (O.pickT rfl rfl rfl rfl) ?_
      refine .nil ?_
      exact toN (Gives.mkR [] (.c rfl (.rfl _) rfl (.c rfl (.rfl _) rfl (.c rfl (sbb (by simp only [g1, Bool.true_or, Bool.or_true, Bool.false_or, Bool.or_false, Bool.true_and, Bool.and_true, Bool.false_and, Bool.and_false, Bool.not_true, Bool.not_false, cond_true, cond_false])) rfl .n))) (.c rfl (.rfl _) rfl rfl (.c rfl (.rfl _) rfl rfl .n)) rfl rfl rfl)
    · rcases tf ((IntKind.wrap .i64 (x0.Cash + x1.Cash)) != 0) with g2 | g2
      · refine W.pk ?_
        refine .v rfl rfl (O.fld fld31_0 rfl rfl rfl) ?_
        refine .v rfl rfl (O.ld ty3 rfl rfl rfl) ?_
        refine .v rfl rfl (O.fld fld31_0 rfl rfl rfl) ?_
        refine .v rfl rfl (O.ld ty3 rfl rfl rfl) ?_
        refine .v rfl rfl (OpL.binI rfl rfl rfl rfl) ?_
        refine .v rfl rfl (OpL.move (.inl rfl) rfl) ?_
        refine .v rfl (met rfl rfl rfl g1) (O.fld fld31_3 rfl rfl rfl) ?_
        refine .v rfl (met rfl rfl rfl g1) (O.ld ty3 rfl rfl rfl) ?_
        refine .v rfl (met rfl rfl rfl g1) (O.fld fld31_3 rfl rfl rfl) ?_
        refine .v rfl (met rfl rfl rfl g1) (O.ld ty3 rfl rfl rfl) ?_
        refine .v rfl (met rfl rfl rfl g1) (OpL.binI rfl rfl rfl rfl) ?_
        refine .v rfl (met rfl rfl rfl g1) (OpL.binI rfl rfl rfl rfl) ?_
        refine .v rfl rfl (O.pickF g1 rfl rfl rfl) ?_
        refine .v rfl rfl (OpL.move (.inl rfl) rfl) ?_
        refine .x rfl (unmet rfl rfl rfl g2) ?_
        refine .x rfl (unmet rfl rfl rfl g2) ?_
        refine .x rfl (unmet rfl rfl rfl g2) ?_
        refine .x rfl (unmet rfl rfl rfl g2) ?_
        refine .x rfl (unmet rfl rfl rfl g2) ?_
        refine .x rfl (unmet rfl rfl rfl g2) ?_
        refine .x rfl (unmet rfl rfl rfl g2) ?_
        refine .v rfl rfl (O.pickT g2 rfl rfl rfl) ?_
        refine .nil ?_
        exact toN (Gives.mkR [] (.c rfl (.rfl _) rfl (.c rfl (.rfl _) rfl (.c rfl (sbb (by simp only [g1, g2, Bool.true_or, Bool.or_true, Bool.false_or, Bool.or_false, Bool.true_and, Bool.and_true, Bool.false_and, Bool.and_false, Bool.not_true, Bool.not_false, cond_true, cond_false])) rfl .n))) (.c rfl (.rfl _) rfl rfl (.c rfl (.rfl _) rfl rfl .n)) rfl rfl rfl)
      · refine W.pk ?_
        refine .v rfl rfl (O.fld fld31_0 rfl rfl rfl) ?_
        refine .v rfl rfl (O.ld ty3 rfl rfl rfl) ?_
        refine .v rfl rfl (O.fld fld31_0 rfl rfl rfl) ?_
        refine .v rfl rfl (O.ld ty3 rfl rfl rfl) ?_
        refine .v rfl rfl (OpL.binI rfl rfl rfl rfl) ?_
        refine .v rfl rfl (OpL.move (.inl rfl) rfl) ?_
        refine .v rfl (met rfl rfl rfl g1) (O.fld fld31_3 rfl rfl rfl) ?_
        refine .v rfl (met rfl rfl rfl g1) (O.ld ty3 rfl rfl rfl) ?_
        refine .v rfl (met rfl rfl rfl g1) (O.fld fld31_3 rfl rfl rfl) ?_
        refine .v rfl (met rfl rfl rfl g1) (O.ld ty3 rfl rfl rfl) ?_
        refine .v rfl (met rfl rfl rfl g1) (OpL.binI rfl rfl rfl rfl) ?_
        refine .v rfl (met rfl rfl rfl g1) (OpL.binI rfl rfl rfl rfl) ?_
        refine .v rfl rfl (O.pickF g1 rfl rfl rfl) ?_
        refine .v rfl rfl (OpL.move (.inl rfl) rfl) ?_
        refine .v rfl (met rfl rfl rfl g2) (O.fld fld31_4 rfl rfl rfl) ?_
        refine .v rfl (met rfl rfl rfl g2) (O.ld ty25 rfl rfl rfl) ?_
        refine .v rfl (met rfl rfl rfl g2) (O.lenR sl25 rfl rfl) ?_
        refine .v rfl (met rfl rfl rfl g2) (O.fld fld31_4 rfl rfl rfl) ?_
        refine .v rfl (met rfl rfl rfl g2) (O.ld ty25 rfl rfl rfl) ?_
        refine .v rfl (met rfl rfl rfl g2) (O.lenR sl25 rfl rfl) ?_
        refine .v rfl (met rfl rfl rfl g2) (OpL.binI rfl rfl rfl rfl) ?_
        refine .v rfl rfl (O.pickF g2 rfl rfl rfl) ?_
        refine .nil ?_
        exact toN (Gives.mkR [] (.c rfl (.rfl _) rfl (.c rfl (.rfl _) rfl (.c rfl (sbb (by simp only [g1, g2, Bool.true_or, Bool.or_true, Bool.false_or, Bool.or_false, Bool.true_and, Bool.and_true, Bool.false_and, Bool.and_false, Bool.not_true, Bool.not_false, cond_true, cond_false])) rfl .n))) (.c rfl (.rfl _) rfl rfl (.c rfl (.rfl _) rfl rfl .n)) rfl rfl rfl)
end Go.Proofs.Ytlgfdldonoaahaa
