/- Shows what functions of the program come to, each as a plain function: written by a program of the author's for this claim. -/
import Derived.Test.YtlgfdldonoaahaaGx15
namespace Go.Proofs.Ytlgfdldonoaahaa
open Go Go.Pm
set_option linter.unusedVariables false
set_option linter.unusedSimpArgs false
noncomputable def lombardlaw25_LegInterest.b0 (x0 : lombardref25_Covered) (t8 : api_Leg × Int) (t12 : api_Leg × Int) (v30 : Int) : Option (Int ⊕ (Bool ⊕ Unit)) :=
  if (decide (v30 < (List.length x0.Lots : Int))) = true then
    if (0 : Int) ≤ v30 ∧ v30 < (List.length t8.1.Lots : Int) then
    if (0 : Int) ≤ v30 ∧ v30 < (List.length t12.1.Lots : Int) then
    if (((IntKind.wrap .i64 (((nth t8.1.Lots v30).Qty) + ((nth t12.1.Lots v30).Qty))) != 0) = false → (0 : Int) ≤ v30 ∧ v30 < (List.length t8.1.Lots : Int)) then
    if (((IntKind.wrap .i64 (((nth t8.1.Lots v30).Qty) + ((nth t12.1.Lots v30).Qty))) != 0) = false → (0 : Int) ≤ v30 ∧ v30 < (List.length t12.1.Lots : Int)) then
    if (((IntKind.wrap .i64 (((nth t8.1.Lots v30).Qty) + ((nth t12.1.Lots v30).Qty))) != 0) || (!(((nth t8.1.Lots v30).ISIN) == ((nth t12.1.Lots v30).ISIN)))) = true then
      some (.inr (.inl false))
    else
      some (.inl (IntKind.wrap .i64 (v30 + 1)))
    else none
    else none
    else none
    else none
  else
    some (.inr (.inr ()))
noncomputable def lombardlaw25_LegInterest.r0 (x0 : lombardref25_Covered) (t8 : api_Leg × Int) (t12 : api_Leg × Int) (s : Int) : Option (Int ⊕ (Bool ⊕ Unit)) := lombardlaw25_LegInterest.b0 x0 t8 t12 s
noncomputable def lombardlaw25_LegInterest.f (x0 : lombardref25_Covered) : Option (Bool) :=
  (lombardlaw25_short.f x0).bind fun t1 =>
  if (!t1) = true then
    (lombardlaw25_awake.f).bind fun t4 =>
    some t4
  else
    (lombardlaw25_of.f x0).bind fun t6 =>
    (leg_Covered_Begin.f t6).bind fun t8 =>
    (lombardlaw25_of.f x0).bind fun t10 =>
    (leg_Covered_End.f t10).bind fun t12 =>
    if ((t8.2 != 0) || (t12.2 != 0)) = true then
      (lombardlaw25_awake.f).bind fun t16 =>
      some t16
    else
      (lombardref24_Interest.f x0.Trade x0.Trade.End).bind fun t18 =>
      if (((t18.2 != 0) || ((List.length t8.1.Lots : Int) != (List.length x0.Lots : Int))) || ((List.length t12.1.Lots : Int) != (List.length x0.Lots : Int))) = true then
        some false
      else
        (loop (lombardlaw25_LegInterest.r0 x0 t8 t12) 0).bind fun o46 =>
        match o46 with
        | .inl r56 => some r56
        | .inr w45 =>
          if (x0.Trade.Side == 1) = true then
            (if ((t8.1.Cash == x0.Trade.Amount) && (t12.1.Cash == (IntKind.wrap .i64 ((IntKind.wrap .i64 (0 - t8.1.Cash)) - t18.1)))) = true then lombardlaw25_awake.f else some default).bind fun t58 =>
            some (((t8.1.Cash == x0.Trade.Amount) && (t12.1.Cash == (IntKind.wrap .i64 ((IntKind.wrap .i64 (0 - t8.1.Cash)) - t18.1)))) && t58)
          else
            (if ((t8.1.Cash == (IntKind.wrap .i64 (0 - x0.Trade.Amount))) && (t12.1.Cash == (IntKind.wrap .i64 (t18.1 - t8.1.Cash)))) = true then lombardlaw25_awake.f else some default).bind fun t62 =>
            some (((t8.1.Cash == (IntKind.wrap .i64 (0 - x0.Trade.Amount))) && (t12.1.Cash == (IntKind.wrap .i64 (t18.1 - t8.1.Cash)))) && t62)
set_option maxRecDepth 100000 in
set_option maxHeartbeats 4000000 in
theorem lombardlaw25_LegInterest.ok {x0 : lombardref25_Covered} {r : Bool} (h : lombardlaw25_LegInterest.f x0 = some r) : Pm.Spec prog 5 [.agg [.imm (.val (.int .i64 x0.Trade.ID)), .imm (.val (.int .i64 x0.Trade.Twin)), .imm (.val (.int .i64 x0.Trade.Member)), .imm (.val (.int .i64 x0.Trade.Side)), .imm (.val (.int .i64 x0.Trade.Basket)), .imm (.val (.int .i64 x0.Trade.Amount)), .imm (.val (.int .i64 x0.Trade.Start)), .imm (.val (.int .i64 x0.Trade.End)), .imm (.row 2 (List.map api_Reset.enc x0.Trade.Resets)), .imm (.val (.int .i64 x0.Trade.Stage)), .imm (.val (.bool x0.Trade.Short)), .imm (.row 2 (List.map api_Lot.enc x0.Lots))]] (.imm (.val (.bool r))) [none] := by
  unfold lombardlaw25_LegInterest.f at h
  refine Pm.Spec.of_body Try.func5 rfl (by kernel_rfl) (Nat.le_of_ble_eq_true rfl) (Nat.le_of_ble_eq_true rfl) ?_
  refine W.ghost (σ' := (mkSt [(0, some (.agg [.imm (.val (.int .i64 x0.Trade.ID)), .imm (.val (.int .i64 x0.Trade.Twin)), .imm (.val (.int .i64 x0.Trade.Member)), .imm (.val (.int .i64 x0.Trade.Side)), .imm (.val (.int .i64 x0.Trade.Basket)), .imm (.val (.int .i64 x0.Trade.Amount)), .imm (.val (.int .i64 x0.Trade.Start)), .imm (.val (.int .i64 x0.Trade.End)), .imm (.row 2 (List.map api_Reset.enc x0.Trade.Resets)), .imm (.val (.int .i64 x0.Trade.Stage)), .imm (.val (.bool x0.Trade.Short)), .imm (.row 2 (List.map api_Lot.enc x0.Lots))]))] [] 1000)) (Gives.entry (.c rfl .n) .n) ?_
  refine W.seq ?_
  refine W.pk ?_
  refine .t rfl rfl (O.box rfl rfl rfl rfl rfl) ?_
  refine .v rfl rfl (OpL.move (.inr rfl) rfl) ?_
  refine .nil ?_
  refine W.seq ?_
  refine W.seq ?_
  obtain ⟨t1, b2, h⟩ := bnd1 h
  refine W.pk ?_
  refine .v rfl rfl (O.ldN ty27 rfl rfl rfl) ?_
  refine .call (.imm (.val (.bool t1))) [] 0 (lombardlaw25_short.ok b2) rfl rfl rfl ca8 rfl rfl (cC (.agg _ _ _ _ (cC (.imm _) (cC (.imm _) (cC (.imm _) (cC (.imm _) (cC (.imm _) (cC (.imm _) (cC (.imm _) (cC (.imm _) (cC (.imm _) (cC (.imm _) (cC (.imm _) (cC (.imm _) .nil))))))))))))) .nil) rfl rfl rfl rfl rfl ?_
  refine .v rfl rfl (OpL.unV rfl rfl rfl) ?_
  refine .nil ?_
  refine W.cond rfl (fun q3 => ?_) (fun q3 => ?_)
  · have h := ifT q3 h
    refine W.seq ?_
    obtain ⟨t4, b5, h⟩ := bnd1 h
    refine W.pk ?_
    refine .call (.imm (.val (.bool t4))) [] 0 (lombardlaw25_awake.ok b5) rfl rfl rfl ca9 rfl rfl .nil rfl rfl rfl rfl rfl ?_
    refine .v rfl rfl (OpL.move (.inr rfl) rfl) ?_
    refine .nil ?_
    refine W.ret ?_
    cases h
    exact leaves (.inr rfl) rfl (.imm _) (cN .nil) rfl rfl
  · have h := ifF q3 h
    refine W.skip ?_
    refine W.seq ?_
    obtain ⟨t6, b7, h⟩ := bnd1 h
    obtain ⟨t8, b9, h⟩ := bnd1 h
    refine W.pk ?_
    refine .v rfl rfl (O.ldN ty27 rfl rfl rfl) ?_
    refine .call (.agg [.imm (.val (.int .i64 t6.Trade.ID)), .imm (.val (.int .i64 t6.Trade.Twin)), .imm (.val (.int .i64 t6.Trade.Member)), .imm (.val (.int .i64 t6.Trade.Side)), .imm (.val (.int .i64 t6.Trade.Basket)), .imm (.val (.int .i64 t6.Trade.Amount)), .imm (.val (.int .i64 t6.Trade.Start)), .imm (.val (.int .i64 t6.Trade.End)), .imm (.row 2 (List.map api_Reset.enc t6.Trade.Resets)), .imm (.val (.int .i64 t6.Trade.Stage)), .imm (.val (.bool t6.Trade.Short)), .imm (.row 2 (List.map api_Lot.enc t6.Lots))]) [] 0 (lombardlaw25_of.ok b7) rfl rfl rfl ca10 rfl rfl (cC (.agg _ _ _ _ (cC (.imm _) (cC (.imm _) (cC (.imm _) (cC (.imm _) (cC (.imm _) (cC (.imm _) (cC (.imm _) (cC (.imm _) (cC (.imm _) (cC (.imm _) (cC (.imm _) (cC (.imm _) .nil))))))))))))) .nil) rfl rfl rfl rfl rfl ?_
    refine .call (.tup [.agg [.imm (.val (.int .i64 t8.1.Day)), .imm (.val (.int .i64 t8.1.Member)), .imm (.val (.int .i64 t8.1.Trade)), .imm (.val (.int .i64 t8.1.Cash)), .imm (.row 2 (List.map api_Lot.enc t8.1.Lots))], .imm (.val (.int .i64 t8.2))]) [] 0 (leg_Covered_Begin.ok b9) rfl rfl rfl ca11 rfl rfl (cC (.agg _ _ _ _ (cC (.imm _) (cC (.imm _) (cC (.imm _) (cC (.imm _) (cC (.imm _) (cC (.imm _) (cC (.imm _) (cC (.imm _) (cC (.imm _) (cC (.imm _) (cC (.imm _) (cC (.imm _) .nil))))))))))))) .nil) rfl rfl rfl rfl rfl ?_
    refine .v rfl rfl (OpL.move (.inl rfl) rfl) ?_
    refine .v rfl rfl (OpL.extract rfl rfl rfl) ?_
    refine .v rfl rfl (OpL.extract rfl rfl rfl) ?_
    refine .t rfl rfl (O.alloc z31 rfl) ?_
    refine .s rfl rfl (O.st ty31 rfl rfl rfl rfl rfl rfl rfl rfl rfl rfl (all' := [.imm (.val (.int .i64 t8.1.Day)), .imm (.val (.int .i64 t8.1.Member)), .imm (.val (.int .i64 t8.1.Trade)), .imm (.val (.int .i64 t8.1.Cash)), .imm (.row 2 (List.map api_Lot.enc t8.1.Lots))]) rfl) ?_
    refine .v rfl rfl (OpL.move (.inr rfl) rfl) ?_
    refine .nil ?_
    refine W.seq ?_
    obtain ⟨t10, b11, h⟩ := bnd1 h
    obtain ⟨t12, b13, h⟩ := bnd1 h
    refine W.pk ?_
    refine .v rfl rfl (O.ldN ty27 rfl rfl rfl) ?_
    refine .call (.agg [.imm (.val (.int .i64 t10.Trade.ID)), .imm (.val (.int .i64 t10.Trade.Twin)), .imm (.val (.int .i64 t10.Trade.Member)), .imm (.val (.int .i64 t10.Trade.Side)), .imm (.val (.int .i64 t10.Trade.Basket)), .imm (.val (.int .i64 t10.Trade.Amount)), .imm (.val (.int .i64 t10.Trade.Start)), .imm (.val (.int .i64 t10.Trade.End)), .imm (.row 2 (List.map api_Reset.enc t10.Trade.Resets)), .imm (.val (.int .i64 t10.Trade.Stage)), .imm (.val (.bool t10.Trade.Short)), .imm (.row 2 (List.map api_Lot.enc t10.Lots))]) [] 0 (lombardlaw25_of.ok b11) rfl rfl rfl ca10 rfl rfl (cC (.agg _ _ _ _ (cC (.imm _) (cC (.imm _) (cC (.imm _) (cC (.imm _) (cC (.imm _) (cC (.imm _) (cC (.imm _) (cC (.imm _) (cC (.imm _) (cC (.imm _) (cC (.imm _) (cC (.imm _) .nil))))))))))))) .nil) rfl rfl rfl rfl rfl ?_
    refine .call (.tup [.agg [.imm (.val (.int .i64 t12.1.Day)), .imm (.val (.int .i64 t12.1.Member)), .imm (.val (.int .i64 t12.1.Trade)), .imm (.val (.int .i64 t12.1.Cash)), .imm (.row 2 (List.map api_Lot.enc t12.1.Lots))], .imm (.val (.int .i64 t12.2))]) [] 0 (leg_Covered_End.ok b13) rfl rfl rfl ca13 rfl rfl (cC (.agg _ _ _ _ (cC (.imm _) (cC (.imm _) (cC (.imm _) (cC (.imm _) (cC (.imm _) (cC (.imm _) (cC (.imm _) (cC (.imm _) (cC (.imm _) (cC (.imm _) (cC (.imm _) (cC (.imm _) .nil))))))))))))) .nil) rfl rfl rfl rfl rfl ?_
    refine .v rfl rfl (OpL.move (.inl rfl) rfl) ?_
    refine .v rfl rfl (OpL.extract rfl rfl rfl) ?_
    refine .v rfl rfl (OpL.extract rfl rfl rfl) ?_
    refine .t rfl rfl (O.alloc z31 rfl) ?_
    refine .s rfl rfl (O.st ty31 rfl rfl rfl rfl rfl rfl rfl rfl rfl rfl (all' := [.imm (.val (.int .i64 t12.1.Day)), .imm (.val (.int .i64 t12.1.Member)), .imm (.val (.int .i64 t12.1.Trade)), .imm (.val (.int .i64 t12.1.Cash)), .imm (.row 2 (List.map api_Lot.enc t12.1.Lots))]) rfl) ?_
    refine .v rfl rfl (OpL.move (.inr rfl) rfl) ?_
    refine .nil ?_
    refine W.seq ?_
    refine W.seq ?_
    refine W.fork (mkSt [(1, some (.ptr 1000 0)), (3, some (.ptr 1001 0)), (5, some (.ptr 1002 0)), (31, some (.imm (.val (.bool ((t8.2 != 0) || (t12.2 != 0))))))] [(1000, some (.box [.imm (.val (.int .i64 x0.Trade.ID)), .imm (.val (.int .i64 x0.Trade.Twin)), .imm (.val (.int .i64 x0.Trade.Member)), .imm (.val (.int .i64 x0.Trade.Side)), .imm (.val (.int .i64 x0.Trade.Basket)), .imm (.val (.int .i64 x0.Trade.Amount)), .imm (.val (.int .i64 x0.Trade.Start)), .imm (.val (.int .i64 x0.Trade.End)), .imm (.row 2 (List.map api_Reset.enc x0.Trade.Resets)), .imm (.val (.int .i64 x0.Trade.Stage)), .imm (.val (.bool x0.Trade.Short)), .imm (.row 2 (List.map api_Lot.enc x0.Lots))])), (1001, some (.box [.imm (.val (.int .i64 t8.1.Day)), .imm (.val (.int .i64 t8.1.Member)), .imm (.val (.int .i64 t8.1.Trade)), .imm (.val (.int .i64 t8.1.Cash)), .imm (.row 2 (List.map api_Lot.enc t8.1.Lots))])), (1002, some (.box [.imm (.val (.int .i64 t12.1.Day)), .imm (.val (.int .i64 t12.1.Member)), .imm (.val (.int .i64 t12.1.Trade)), .imm (.val (.int .i64 t12.1.Cash)), .imm (.row 2 (List.map api_Lot.enc t12.1.Lots))]))] 1003) ?_ ?_
    · refine W.cond rfl (fun q15 => ?_) (fun q15 => ?_)
      · have h := ifT q15 h
        refine W.seq ?_
        obtain ⟨t16, b17, h⟩ := bnd1 h
        refine W.pk ?_
        refine .call (.imm (.val (.bool t16))) [] 0 (lombardlaw25_awake.ok b17) rfl rfl rfl ca9 rfl rfl .nil rfl rfl rfl rfl rfl ?_
        refine .v rfl rfl (OpL.move (.inr rfl) rfl) ?_
        refine .nil ?_
        refine W.ret ?_
        cases h
        exact leaves (.inr rfl) rfl (.imm _) (cN .nil) rfl rfl
      · have h := ifF q15 h
        refine W.skip ?_
        refine W.seq ?_
        obtain ⟨t18, b19, h⟩ := bnd1 h
        refine W.pk ?_
        refine .v rfl rfl (O.fld fld27_0 rfl rfl rfl) ?_
        refine .v rfl rfl (O.ldN ty24 rfl rfl rfl) ?_
        refine .v rfl rfl (O.fld fld27_0 rfl rfl rfl) ?_
        refine .v rfl rfl (O.fld fld24_7 rfl rfl rfl) ?_
        refine .v rfl rfl (O.ld ty3 rfl rfl rfl) ?_
        refine .call (.tup [.imm (.val (.int .i64 t18.1)), .imm (.val (.int .i64 t18.2))]) [] 0 (lombardref24_Interest.ok b19) rfl rfl rfl ca17 rfl rfl (cC (.agg _ _ _ _ (cC (.imm _) (cC (.imm _) (cC (.imm _) (cC (.imm _) (cC (.imm _) (cC (.imm _) (cC (.imm _) (cC (.imm _) (cC (.imm _) (cC (.imm _) (cC (.imm _) .nil)))))))))))) (cC (.imm _) .nil)) rfl rfl rfl rfl rfl ?_
        refine .v rfl rfl (OpL.move (.inl rfl) rfl) ?_
        refine .v rfl rfl (OpL.extract rfl rfl rfl) ?_
        refine .v rfl rfl (OpL.extract rfl rfl rfl) ?_
        refine .v rfl rfl (OpL.move (.inr rfl) rfl) ?_
        refine .v rfl rfl (OpL.move (.inr rfl) rfl) ?_
        refine .nil ?_
        refine W.seq ?_
        refine W.seq ?_
        refine W.fork (mkSt [(1, some (.ptr 1000 0)), (3, some (.ptr 1001 0)), (5, some (.ptr 1002 0)), (7, some (.imm (.val (.int .i64 t18.1)))), (61, some (.imm (.val (.bool (((t18.2 != 0) || ((List.length t8.1.Lots : Int) != (List.length x0.Lots : Int))) || ((List.length t12.1.Lots : Int) != (List.length x0.Lots : Int)))))))] [(1000, some (.box [.imm (.val (.int .i64 x0.Trade.ID)), .imm (.val (.int .i64 x0.Trade.Twin)), .imm (.val (.int .i64 x0.Trade.Member)), .imm (.val (.int .i64 x0.Trade.Side)), .imm (.val (.int .i64 x0.Trade.Basket)), .imm (.val (.int .i64 x0.Trade.Amount)), .imm (.val (.int .i64 x0.Trade.Start)), .imm (.val (.int .i64 x0.Trade.End)), .imm (.row 2 (List.map api_Reset.enc x0.Trade.Resets)), .imm (.val (.int .i64 x0.Trade.Stage)), .imm (.val (.bool x0.Trade.Short)), .imm (.row 2 (List.map api_Lot.enc x0.Lots))])), (1001, some (.box [.imm (.val (.int .i64 t8.1.Day)), .imm (.val (.int .i64 t8.1.Member)), .imm (.val (.int .i64 t8.1.Trade)), .imm (.val (.int .i64 t8.1.Cash)), .imm (.row 2 (List.map api_Lot.enc t8.1.Lots))])), (1002, some (.box [.imm (.val (.int .i64 t12.1.Day)), .imm (.val (.int .i64 t12.1.Member)), .imm (.val (.int .i64 t12.1.Trade)), .imm (.val (.int .i64 t12.1.Cash)), .imm (.row 2 (List.map api_Lot.enc t12.1.Lots))]))] 1003) ?_ ?_
        · refine W.cond rfl (fun q22 => ?_) (fun q22 => ?_)
          · have h := ifT q22 h
            refine W.seq ?_
            refine W.pk ?_
            refine .v rfl rfl (OpL.move (.inr rfl) rfl) ?_
            refine .nil ?_
            refine W.ret ?_
            cases h
            exact leaves (.inr rfl) rfl (.imm _) (cN .nil) rfl rfl
          · have h := ifF q22 h
            refine W.skip ?_
            refine W.seq ?_
            refine W.seq ?_
            refine W.pk ?_
            refine .v rfl rfl (OpL.move (.inr rfl) rfl) ?_
            refine .nil ?_
            obtain ⟨o46, b47, z48⟩ := bnd1 h
            refine W.fork2 (out := o46) (fun (w45 : Unit) => mkSt [(1, some (.ptr 1000 0)), (3, some (.ptr 1001 0)), (5, some (.ptr 1002 0)), (7, some (.imm (.val (.int .i64 t18.1))))] [(1000, some (.box [.imm (.val (.int .i64 x0.Trade.ID)), .imm (.val (.int .i64 x0.Trade.Twin)), .imm (.val (.int .i64 x0.Trade.Member)), .imm (.val (.int .i64 x0.Trade.Side)), .imm (.val (.int .i64 x0.Trade.Basket)), .imm (.val (.int .i64 x0.Trade.Amount)), .imm (.val (.int .i64 x0.Trade.Start)), .imm (.val (.int .i64 x0.Trade.End)), .imm (.row 2 (List.map api_Reset.enc x0.Trade.Resets)), .imm (.val (.int .i64 x0.Trade.Stage)), .imm (.val (.bool x0.Trade.Short)), .imm (.row 2 (List.map api_Lot.enc x0.Lots))])), (1001, some (.box [.imm (.val (.int .i64 t8.1.Day)), .imm (.val (.int .i64 t8.1.Member)), .imm (.val (.int .i64 t8.1.Trade)), .imm (.val (.int .i64 t8.1.Cash)), .imm (.row 2 (List.map api_Lot.enc t8.1.Lots))])), (1002, some (.box [.imm (.val (.int .i64 t12.1.Day)), .imm (.val (.int .i64 t12.1.Member)), .imm (.val (.int .i64 t12.1.Trade)), .imm (.val (.int .i64 t12.1.Cash)), .imm (.row 2 (List.map api_Lot.enc t12.1.Lots))]))] 1003) ?_ ?_
            · clear h
              refine W.block ?_
              refine W.loopF (fun (s_ : Int) => mkSt [(1, some (.ptr 1000 0)), (3, some (.ptr 1001 0)), (5, some (.ptr 1002 0)), (7, some (.imm (.val (.int .i64 t18.1)))), (9, some (.imm (.val (.int .i64 s_))))] [(1000, some (.box [.imm (.val (.int .i64 x0.Trade.ID)), .imm (.val (.int .i64 x0.Trade.Twin)), .imm (.val (.int .i64 x0.Trade.Member)), .imm (.val (.int .i64 x0.Trade.Side)), .imm (.val (.int .i64 x0.Trade.Basket)), .imm (.val (.int .i64 x0.Trade.Amount)), .imm (.val (.int .i64 x0.Trade.Start)), .imm (.val (.int .i64 x0.Trade.End)), .imm (.row 2 (List.map api_Reset.enc x0.Trade.Resets)), .imm (.val (.int .i64 x0.Trade.Stage)), .imm (.val (.bool x0.Trade.Short)), .imm (.row 2 (List.map api_Lot.enc x0.Lots))])), (1001, some (.box [.imm (.val (.int .i64 t8.1.Day)), .imm (.val (.int .i64 t8.1.Member)), .imm (.val (.int .i64 t8.1.Trade)), .imm (.val (.int .i64 t8.1.Cash)), .imm (.row 2 (List.map api_Lot.enc t8.1.Lots))])), (1002, some (.box [.imm (.val (.int .i64 t12.1.Day)), .imm (.val (.int .i64 t12.1.Member)), .imm (.val (.int .i64 t12.1.Trade)), .imm (.val (.int .i64 t12.1.Cash)), .imm (.row 2 (List.map api_Lot.enc t12.1.Lots))]))] 1003) b47 (Gives.mkR [] (.c rfl (.rfl _) rfl (.c rfl (.rfl _) rfl (.c rfl (.rfl _) rfl (.c rfl (.rfl _) rfl (.c rfl (.rfl _) rfl .n))))) (.c rfl (.rfl _) rfl rfl (.c rfl (.rfl _) rfl rfl (.c rfl (.rfl _) rfl rfl .n))) rfl rfl rfl) ?_
              rintro v30 s_ hr
              have h : lombardlaw25_LegInterest.b0 x0 t8 t12 v30 = some s_ := hr
              unfold lombardlaw25_LegInterest.b0 at h
              refine W.seq ?_
              refine W.seq ?_
              refine W.pk ?_
              refine .v rfl rfl (OpL.move (.inl rfl) rfl) ?_
              refine .v rfl rfl (O.fld fld27_1 rfl rfl rfl) ?_
              refine .v rfl rfl (O.ld ty25 rfl rfl rfl) ?_
              refine .v rfl rfl (O.lenR sl25 rfl rfl) ?_
              refine .v rfl rfl (OpL.binI rfl rfl rfl rfl) ?_
              refine .nil ?_
              refine W.cond rfl (fun q49 => ?_) (fun q49 => ?_)
              · have h := ifT q49 h
                refine W.skip ?_
                refine W.seq ?_
                refine W.block ?_
                refine W.seq ?_
                obtain ⟨c50, h⟩ := chk h
                obtain ⟨c51, h⟩ := chk h
                obtain ⟨c52, h⟩ := chk h
                obtain ⟨c53, h⟩ := chk h
                refine W.fork (mkSt [(1, some (.ptr 1000 0)), (3, some (.ptr 1001 0)), (5, some (.ptr 1002 0)), (7, some (.imm (.val (.int .i64 t18.1)))), (9, some (.imm (.val (.int .i64 v30)))), (97, some (.imm (.val (.bool (((IntKind.wrap .i64 (((nth t8.1.Lots v30).Qty) + ((nth t12.1.Lots v30).Qty))) != 0) || (!(((nth t8.1.Lots v30).ISIN) == ((nth t12.1.Lots v30).ISIN))))))))] [(1000, some (.box [.imm (.val (.int .i64 x0.Trade.ID)), .imm (.val (.int .i64 x0.Trade.Twin)), .imm (.val (.int .i64 x0.Trade.Member)), .imm (.val (.int .i64 x0.Trade.Side)), .imm (.val (.int .i64 x0.Trade.Basket)), .imm (.val (.int .i64 x0.Trade.Amount)), .imm (.val (.int .i64 x0.Trade.Start)), .imm (.val (.int .i64 x0.Trade.End)), .imm (.row 2 (List.map api_Reset.enc x0.Trade.Resets)), .imm (.val (.int .i64 x0.Trade.Stage)), .imm (.val (.bool x0.Trade.Short)), .imm (.row 2 (List.map api_Lot.enc x0.Lots))])), (1001, some (.box [.imm (.val (.int .i64 t8.1.Day)), .imm (.val (.int .i64 t8.1.Member)), .imm (.val (.int .i64 t8.1.Trade)), .imm (.val (.int .i64 t8.1.Cash)), .imm (.row 2 (List.map api_Lot.enc t8.1.Lots))])), (1002, some (.box [.imm (.val (.int .i64 t12.1.Day)), .imm (.val (.int .i64 t12.1.Member)), .imm (.val (.int .i64 t12.1.Trade)), .imm (.val (.int .i64 t12.1.Cash)), .imm (.row 2 (List.map api_Lot.enc t12.1.Lots))]))] 1003) ?_ ?_
                · refine W.cond rfl (fun q55 => ?_) (fun q55 => ?_)
                  · have h := ifT q55 h
                    refine W.seq ?_
                    refine W.pk ?_
                    refine .v rfl rfl (OpL.move (.inr rfl) rfl) ?_
                    refine .nil ?_
                    refine W.ret ?_
                    cases h
                    refine rdR fun e_ => ?_
                    subst e_
                    have h := z48
                    dsimp only at h
                    refine fkR ?_
                    cases h
                    exact leaves (.inr rfl) rfl (.imm _) (cN .nil) rfl rfl
                  · have h := ifF q55 h
                    refine W.skip ?_
                    refine W.pk ?_
                    refine .v rfl rfl (OpL.move (.inl rfl) rfl) ?_
                    refine .v rfl rfl (OpL.binI rfl rfl rfl rfl) ?_
                    refine .v rfl rfl (OpL.move (.inr rfl) rfl) ?_
                    refine .nil ?_
                    cases h
                    exact rdN (Gives.mkR [] (.c rfl (.rfl _) rfl (.c rfl (.rfl _) rfl (.c rfl (.rfl _) rfl (.c rfl (.rfl _) rfl (.c rfl (.rfl _) rfl .n))))) (.c rfl (.rfl _) rfl rfl (.c rfl (.rfl _) rfl rfl (.c rfl (.rfl _) rfl rfl .n))) rfl rfl rfl)
                · clear h
                  rcases tf ((IntKind.wrap .i64 (((nth t8.1.Lots v30).Qty) + ((nth t12.1.Lots v30).Qty))) != 0) with g54 | g54
                  · refine W.dk [[], [0], [], [0, 1, 2], [0, 1, 2, 3], [0, 1, 2, 3, 4], [], [6], [], [6, 7, 8], [6, 7, 8, 9], [6, 7, 8, 9, 10], [0, 1, 2, 3, 4, 5, 6, 7, 8, 9, 10, 11], [0, 1, 2, 3, 4, 5, 6, 7, 8, 9, 10, 11, 12], [0, 1, 2, 3, 4, 5, 6, 7, 8, 9, 10, 11, 12, 13], [0, 1, 2, 3, 4, 5, 6, 7, 8, 9, 10, 11, 12, 13, 14], [0, 1, 2, 3, 4, 5, 6, 7, 8, 9, 10, 11, 12, 13, 14, 15], [0, 1, 2, 3, 4, 5, 6, 7, 8, 9, 10, 11, 12, 13, 14], [0, 1, 2, 3, 4, 5, 6, 7, 8, 9, 10, 11, 12, 13, 14, 15, 16, 17], [0, 1, 2, 3, 4, 5, 6, 7, 8, 9, 10, 11, 12, 13, 14, 15, 16, 17, 18], [0, 1, 2, 3, 4, 5, 6, 7, 8, 9, 10, 11, 12, 13, 14, 15, 16, 17, 18, 19], [0, 1, 2, 3, 4, 5, 6, 7, 8, 9, 10, 11, 12, 13, 14], [0, 1, 2, 3, 4, 5, 6, 7, 8, 9, 10, 11, 12, 13, 14, 21], [0, 1, 2, 3, 4, 5, 6, 7, 8, 9, 10, 11, 12, 13, 14], [0, 1, 2, 3, 4, 5, 6, 7, 8, 9, 10, 11, 12, 13, 14, 21, 22, 23], [0, 1, 2, 3, 4, 5, 6, 7, 8, 9, 10, 11, 12, 13, 14, 21, 22, 23, 24], [0, 1, 2, 3, 4, 5, 6, 7, 8, 9, 10, 11, 12, 13, 14, 21, 22, 23, 24, 25], [0, 1, 2, 3, 4, 5, 6, 7, 8, 9, 10, 11, 12, 13, 14, 15, 16, 17, 18, 19, 20, 21, 22, 23, 24, 25, 26], [0, 1, 2, 3, 4, 5, 6, 7, 8, 9, 10, 11, 12, 13, 14, 15, 16, 17, 18, 19, 20, 21, 22, 23, 24, 25, 26, 27]] rfl (by kernel_rfl) ?_
                    refine .v rfl rfl (O.fld fld31_4 rfl rfl rfl) ?_
                    refine .v rfl rfl (O.ld ty25 rfl rfl rfl) ?_
                    refine .v rfl rfl (OpL.move (.inl rfl) rfl) ?_
                    refine .v rfl rfl (O.idx sl25 c50 rfl rfl rfl) ?_
                    refine .v rfl rfl (O.fld fld44_1 rfl rfl rfl) ?_
                    refine .v rfl rfl (O.ld ty3 rfl rfl rfl) ?_
                    refine .v rfl rfl (O.fld fld31_4 rfl rfl rfl) ?_
                    refine .v rfl rfl (O.ld ty25 rfl rfl rfl) ?_
                    refine .v rfl rfl (OpL.move (.inl rfl) rfl) ?_
                    refine .v rfl rfl (O.idx sl25 c51 rfl rfl rfl) ?_
                    refine .v rfl rfl (O.fld fld44_1 rfl rfl rfl) ?_
                    refine .v rfl rfl (O.ld ty3 rfl rfl rfl) ?_
                    refine .v rfl rfl (OpL.binI rfl rfl rfl rfl) ?_
                    refine .v rfl rfl (OpL.binI rfl rfl rfl rfl) ?_
                    refine .v rfl rfl (OpL.move (.inl rfl) rfl) ?_
                    refine .x rfl (unmet rfl rfl rfl g54) ?_
                    refine .x rfl (unmet rfl rfl rfl g54) ?_
                    refine .x rfl (unmet rfl rfl rfl g54) ?_
                    refine .x rfl (unmet rfl rfl rfl g54) ?_
                    refine .x rfl (unmet rfl rfl rfl g54) ?_
                    refine .x rfl (unmet rfl rfl rfl g54) ?_
                    refine .x rfl (unmet rfl rfl rfl g54) ?_
                    refine .x rfl (unmet rfl rfl rfl g54) ?_
                    refine .x rfl (unmet rfl rfl rfl g54) ?_
                    refine .x rfl (unmet rfl rfl rfl g54) ?_
                    refine .x rfl (unmet rfl rfl rfl g54) ?_
                    refine .x rfl (unmet rfl rfl rfl g54) ?_
                    refine .x rfl (unmet rfl rfl rfl g54) ?_
                    refine .v rfl rfl (O.pickT g54 rfl rfl rfl) ?_
                    refine .nil ?_
                    refine ⟨by kernel_rfl, by kernel_rfl, ?_⟩
                    exact toN (Gives.mkR [] (.c rfl (.rfl _) rfl (.c rfl (.rfl _) rfl (.c rfl (.rfl _) rfl (.c rfl (.rfl _) rfl (.c rfl (.rfl _) rfl (.c rfl (sbb (by simp only [g54, Bool.true_or, Bool.or_true, Bool.false_or, Bool.or_false, Bool.true_and, Bool.and_true, Bool.false_and, Bool.and_false, Bool.not_true, Bool.not_false, cond_true, cond_false])) rfl .n)))))) (.c rfl (.rfl _) rfl rfl (.c rfl (.rfl _) rfl rfl (.c rfl (.rfl _) rfl rfl .n))) rfl rfl rfl)
                  · refine W.dk [[], [0], [], [0, 1, 2], [0, 1, 2, 3], [0, 1, 2, 3, 4], [], [6], [], [6, 7, 8], [6, 7, 8, 9], [6, 7, 8, 9, 10], [0, 1, 2, 3, 4, 5, 6, 7, 8, 9, 10, 11], [0, 1, 2, 3, 4, 5, 6, 7, 8, 9, 10, 11, 12], [0, 1, 2, 3, 4, 5, 6, 7, 8, 9, 10, 11, 12, 13], [0, 1, 2, 3, 4, 5, 6, 7, 8, 9, 10, 11, 12, 13, 14], [0, 1, 2, 3, 4, 5, 6, 7, 8, 9, 10, 11, 12, 13, 14, 15], [0, 1, 2, 3, 4, 5, 6, 7, 8, 9, 10, 11, 12, 13, 14], [0, 1, 2, 3, 4, 5, 6, 7, 8, 9, 10, 11, 12, 13, 14, 15, 16, 17], [0, 1, 2, 3, 4, 5, 6, 7, 8, 9, 10, 11, 12, 13, 14, 15, 16, 17, 18], [0, 1, 2, 3, 4, 5, 6, 7, 8, 9, 10, 11, 12, 13, 14, 15, 16, 17, 18, 19], [0, 1, 2, 3, 4, 5, 6, 7, 8, 9, 10, 11, 12, 13, 14], [0, 1, 2, 3, 4, 5, 6, 7, 8, 9, 10, 11, 12, 13, 14, 21], [0, 1, 2, 3, 4, 5, 6, 7, 8, 9, 10, 11, 12, 13, 14], [0, 1, 2, 3, 4, 5, 6, 7, 8, 9, 10, 11, 12, 13, 14, 21, 22, 23], [0, 1, 2, 3, 4, 5, 6, 7, 8, 9, 10, 11, 12, 13, 14, 21, 22, 23, 24], [0, 1, 2, 3, 4, 5, 6, 7, 8, 9, 10, 11, 12, 13, 14, 21, 22, 23, 24, 25], [0, 1, 2, 3, 4, 5, 6, 7, 8, 9, 10, 11, 12, 13, 14, 15, 16, 17, 18, 19, 20, 21, 22, 23, 24, 25, 26], [0, 1, 2, 3, 4, 5, 6, 7, 8, 9, 10, 11, 12, 13, 14, 15, 16, 17, 18, 19, 20, 21, 22, 23, 24, 25, 26, 27]] rfl (by kernel_rfl) ?_
                    refine .v rfl rfl (O.fld fld31_4 rfl rfl rfl) ?_
                    refine .v rfl rfl (O.ld ty25 rfl rfl rfl) ?_
                    refine .v rfl rfl (OpL.move (.inl rfl) rfl) ?_
                    refine .v rfl rfl (O.idx sl25 c50 rfl rfl rfl) ?_
                    refine .v rfl rfl (O.fld fld44_1 rfl rfl rfl) ?_
                    refine .v rfl rfl (O.ld ty3 rfl rfl rfl) ?_
                    refine .v rfl rfl (O.fld fld31_4 rfl rfl rfl) ?_
                    refine .v rfl rfl (O.ld ty25 rfl rfl rfl) ?_
                    refine .v rfl rfl (OpL.move (.inl rfl) rfl) ?_
                    refine .v rfl rfl (O.idx sl25 c51 rfl rfl rfl) ?_
                    refine .v rfl rfl (O.fld fld44_1 rfl rfl rfl) ?_
                    refine .v rfl rfl (O.ld ty3 rfl rfl rfl) ?_
                    refine .v rfl rfl (OpL.binI rfl rfl rfl rfl) ?_
                    refine .v rfl rfl (OpL.binI rfl rfl rfl rfl) ?_
                    refine .v rfl rfl (OpL.move (.inl rfl) rfl) ?_
                    refine .v rfl (met rfl rfl rfl g54) (O.fld fld31_4 rfl rfl rfl) ?_
                    refine .v rfl (met rfl rfl rfl g54) (O.ld ty25 rfl rfl rfl) ?_
                    refine .v rfl (met rfl rfl rfl g54) (OpL.move (.inl rfl) rfl) ?_
                    refine .v rfl (met rfl rfl rfl g54) (O.idx sl25 (c52 (by simp only [g54, Bool.true_or, Bool.or_true, Bool.false_or, Bool.or_false, Bool.true_and, Bool.and_true, Bool.false_and, Bool.and_false, Bool.not_true, Bool.not_false, cond_true, cond_false])) rfl rfl rfl) ?_
                    refine .v rfl (met rfl rfl rfl g54) (O.fld fld44_0 rfl rfl rfl) ?_
                    refine .v rfl (met rfl rfl rfl g54) (O.ld ty9 rfl rfl rfl) ?_
                    refine .v rfl (met rfl rfl rfl g54) (O.fld fld31_4 rfl rfl rfl) ?_
                    refine .v rfl (met rfl rfl rfl g54) (O.ld ty25 rfl rfl rfl) ?_
                    refine .v rfl (met rfl rfl rfl g54) (OpL.move (.inl rfl) rfl) ?_
                    refine .v rfl (met rfl rfl rfl g54) (O.idx sl25 (c53 (by simp only [g54, Bool.true_or, Bool.or_true, Bool.false_or, Bool.or_false, Bool.true_and, Bool.and_true, Bool.false_and, Bool.and_false, Bool.not_true, Bool.not_false, cond_true, cond_false])) rfl rfl rfl) ?_
                    refine .v rfl (met rfl rfl rfl g54) (O.fld fld44_0 rfl rfl rfl) ?_
                    refine .v rfl (met rfl rfl rfl g54) (O.ld ty9 rfl rfl rfl) ?_
                    refine .v rfl (met rfl rfl rfl g54) (O.cmpS rfl rfl rfl rfl) ?_
                    refine .v rfl rfl (O.pickF g54 rfl rfl rfl) ?_
                    refine .nil ?_
                    refine ⟨by kernel_rfl, by kernel_rfl, ?_⟩
                    exact toN (Gives.mkR [] (.c rfl (.rfl _) rfl (.c rfl (.rfl _) rfl (.c rfl (.rfl _) rfl (.c rfl (.rfl _) rfl (.c rfl (.rfl _) rfl (.c rfl (sbb (by simp only [g54, Bool.true_or, Bool.or_true, Bool.false_or, Bool.or_false, Bool.true_and, Bool.and_true, Bool.false_and, Bool.and_false, Bool.not_true, Bool.not_false, cond_true, cond_false])) rfl .n)))))) (.c rfl (.rfl _) rfl rfl (.c rfl (.rfl _) rfl rfl (.c rfl (.rfl _) rfl rfl .n))) rfl rfl rfl)
              · have h := ifF q49 h
                refine W.exit ?_
                cases h
                refine rdX fun e_ => ?_
                subst e_
                refine hit ?_
                exact fkN (Gives.mkR [] (.c rfl (.rfl _) rfl (.c rfl (.rfl _) rfl (.c rfl (.rfl _) rfl (.c rfl (.rfl _) rfl .n)))) (.c rfl (.rfl _) rfl rfl (.c rfl (.rfl _) rfl rfl (.c rfl (.rfl _) rfl rfl .n))) rfl rfl rfl)
            · intro w45 e_
              subst e_
              clear h
              have h := z48
              dsimp only at h
              refine W.seq ?_
              refine W.seq ?_
              refine W.pk ?_
              refine .v rfl rfl (O.fld fld27_0 rfl rfl rfl) ?_
              refine .v rfl rfl (O.fld fld24_3 rfl rfl rfl) ?_
              refine .v rfl rfl (O.ld ty3 rfl rfl rfl) ?_
              refine .v rfl rfl (OpL.binI rfl rfl rfl rfl) ?_
              refine .nil ?_
              refine W.cond rfl (fun q57 => ?_) (fun q57 => ?_)
              · have h := ifT q57 h
                refine W.seq ?_
                obtain ⟨t58, b59, h⟩ := bnd1 h
                refine W.fork (mkSt [(2, some (.imm (.val (.bool (((t8.1.Cash == x0.Trade.Amount) && (t12.1.Cash == (IntKind.wrap .i64 ((IntKind.wrap .i64 (0 - t8.1.Cash)) - t18.1)))) && t58)))))] [] 1003) ?_ ?_
                · refine W.ret ?_
                  cases h
                  exact leaves (.inr rfl) rfl (.imm _) (cN .nil) rfl rfl
                · clear h
                  rcases tf (t8.1.Cash == x0.Trade.Amount) with g60 | g60
                  · rcases tf (t12.1.Cash == (IntKind.wrap .i64 ((IntKind.wrap .i64 (0 - t8.1.Cash)) - t18.1))) with g61 | g61
                    · refine W.pk ?_
                      refine .v rfl rfl (O.fld fld31_3 rfl rfl rfl) ?_
                      refine .v rfl rfl (O.ld ty3 rfl rfl rfl) ?_
                      refine .v rfl rfl (O.fld fld27_0 rfl rfl rfl) ?_
                      refine .v rfl rfl (O.fld fld24_5 rfl rfl rfl) ?_
                      refine .v rfl rfl (O.ld ty3 rfl rfl rfl) ?_
                      refine .v rfl rfl (OpL.binI rfl rfl rfl rfl) ?_
                      refine .v rfl rfl (OpL.move (.inl rfl) rfl) ?_
                      refine .v rfl (met rfl rfl rfl g60) (O.fld fld31_3 rfl rfl rfl) ?_
                      refine .v rfl (met rfl rfl rfl g60) (O.ld ty3 rfl rfl rfl) ?_
                      refine .v rfl (met rfl rfl rfl g60) (O.fld fld31_3 rfl rfl rfl) ?_
                      refine .v rfl (met rfl rfl rfl g60) (O.ld ty3 rfl rfl rfl) ?_
                      refine .v rfl (met rfl rfl rfl g60) (OpL.binI rfl rfl rfl rfl) ?_
                      refine .v rfl (met rfl rfl rfl g60) (OpL.move (.inl rfl) rfl) ?_
                      refine .v rfl (met rfl rfl rfl g60) (OpL.binI rfl rfl rfl rfl) ?_
                      refine .v rfl (met rfl rfl rfl g60) (OpL.binI rfl rfl rfl rfl) ?_
                      refine .v rfl rfl (O.pickT g60 rfl rfl rfl) ?_
                      refine .v rfl rfl (OpL.move (.inl rfl) rfl) ?_
                      refine .call (.imm (.val (.bool t58))) [] 0 (lombardlaw25_awake.ok ((if_pos (by simp only [g60, g61, Bool.true_or, Bool.or_true, Bool.false_or, Bool.or_false, Bool.true_and, Bool.and_true, Bool.false_and, Bool.and_false, Bool.not_true, Bool.not_false, cond_true, cond_false])).symm.trans b59)) rfl (met rfl rfl rfl g61) rfl ca9 rfl rfl .nil rfl rfl rfl rfl rfl ?_
                      refine .v rfl rfl (O.pickT g61 rfl rfl rfl) ?_
                      refine .v rfl rfl (OpL.move (.inr rfl) rfl) ?_
                      refine .nil ?_
                      exact toN (Gives.mkR [] (.c rfl (sbb (by simp only [g60, g61, Bool.true_or, Bool.or_true, Bool.false_or, Bool.or_false, Bool.true_and, Bool.and_true, Bool.false_and, Bool.and_false, Bool.not_true, Bool.not_false, cond_true, cond_false])) rfl .n) .n rfl rfl rfl)
                    · refine W.pk ?_
                      refine .v rfl rfl (O.fld fld31_3 rfl rfl rfl) ?_
                      refine .v rfl rfl (O.ld ty3 rfl rfl rfl) ?_
                      refine .v rfl rfl (O.fld fld27_0 rfl rfl rfl) ?_
                      refine .v rfl rfl (O.fld fld24_5 rfl rfl rfl) ?_
                      refine .v rfl rfl (O.ld ty3 rfl rfl rfl) ?_
                      refine .v rfl rfl (OpL.binI rfl rfl rfl rfl) ?_
                      refine .v rfl rfl (OpL.move (.inl rfl) rfl) ?_
                      refine .v rfl (met rfl rfl rfl g60) (O.fld fld31_3 rfl rfl rfl) ?_
                      refine .v rfl (met rfl rfl rfl g60) (O.ld ty3 rfl rfl rfl) ?_
                      refine .v rfl (met rfl rfl rfl g60) (O.fld fld31_3 rfl rfl rfl) ?_
                      refine .v rfl (met rfl rfl rfl g60) (O.ld ty3 rfl rfl rfl) ?_
                      refine .v rfl (met rfl rfl rfl g60) (OpL.binI rfl rfl rfl rfl) ?_
                      refine .v rfl (met rfl rfl rfl g60) (OpL.move (.inl rfl) rfl) ?_
                      refine .v rfl (met rfl rfl rfl g60) (OpL.binI rfl rfl rfl rfl) ?_
                      refine .v rfl (met rfl rfl rfl g60) (OpL.binI rfl rfl rfl rfl) ?_
                      refine .v rfl rfl (O.pickT g60 rfl rfl rfl) ?_
                      refine .v rfl rfl (OpL.move (.inl rfl) rfl) ?_
                      refine .x rfl (unmet rfl rfl rfl g61) ?_
                      refine .v rfl rfl (O.pickF g61 rfl rfl rfl) ?_
                      refine .v rfl rfl (OpL.move (.inr rfl) rfl) ?_
                      refine .nil ?_
                      exact toN (Gives.mkR [] (.c rfl (sbb (by simp only [g60, g61, Bool.true_or, Bool.or_true, Bool.false_or, Bool.or_false, Bool.true_and, Bool.and_true, Bool.false_and, Bool.and_false, Bool.not_true, Bool.not_false, cond_true, cond_false])) rfl .n) .n rfl rfl rfl)
                  · refine W.pk ?_
                    refine .v rfl rfl (O.fld fld31_3 rfl rfl rfl) ?_
                    refine .v rfl rfl (O.ld ty3 rfl rfl rfl) ?_
                    refine .v rfl rfl (O.fld fld27_0 rfl rfl rfl) ?_
                    refine .v rfl rfl (O.fld fld24_5 rfl rfl rfl) ?_
                    refine .v rfl rfl (O.ld ty3 rfl rfl rfl) ?_
                    refine .v rfl rfl (OpL.binI rfl rfl rfl rfl) ?_
                    refine .v rfl rfl (OpL.move (.inl rfl) rfl) ?_
                    refine .x rfl (unmet rfl rfl rfl g60) ?_
                    refine .x rfl (unmet rfl rfl rfl g60) ?_
                    refine .x rfl (unmet rfl rfl rfl g60) ?_
                    refine .x rfl (unmet rfl rfl rfl g60) ?_
                    refine .x rfl (unmet rfl rfl rfl g60) ?_
                    refine .x rfl (unmet rfl rfl rfl g60) ?_
                    refine .x rfl (unmet rfl rfl rfl g60) ?_
                    refine .x rfl (unmet rfl rfl rfl g60) ?_
                    refine .v rfl rfl (O.pickF g60 rfl rfl rfl) ?_
                    refine .v rfl rfl (OpL.move (.inl rfl) rfl) ?_
                    refine .x rfl (unmet rfl rfl rfl rfl) ?_
                    refine .v rfl rfl (O.pickF rfl rfl rfl rfl) ?_
                    refine .v rfl rfl (OpL.move (.inr rfl) rfl) ?_
                    refine .nil ?_
                    exact toN (Gives.mkR [] (.c rfl (sbb (by simp only [g60, Bool.true_or, Bool.or_true, Bool.false_or, Bool.or_false, Bool.true_and, Bool.and_true, Bool.false_and, Bool.and_false, Bool.not_true, Bool.not_false, cond_true, cond_false])) rfl .n) .n rfl rfl rfl)
              · have h := ifF q57 h
                refine W.skip ?_
                refine W.seq ?_
                obtain ⟨t62, b63, h⟩ := bnd1 h
                refine W.fork (mkSt [(2, some (.imm (.val (.bool (((t8.1.Cash == (IntKind.wrap .i64 (0 - x0.Trade.Amount))) && (t12.1.Cash == (IntKind.wrap .i64 (t18.1 - t8.1.Cash)))) && t62)))))] [] 1003) ?_ ?_
                · refine W.ret ?_
                  cases h
                  exact leaves (.inr rfl) rfl (.imm _) (cN .nil) rfl rfl
                · clear h
                  rcases tf (t8.1.Cash == (IntKind.wrap .i64 (0 - x0.Trade.Amount))) with g64 | g64
                  · rcases tf (t12.1.Cash == (IntKind.wrap .i64 (t18.1 - t8.1.Cash))) with g65 | g65
                    · refine W.pk ?_
                      refine .v rfl rfl (O.fld fld31_3 rfl rfl rfl) ?_
                      refine .v rfl rfl (O.ld ty3 rfl rfl rfl) ?_
                      refine .v rfl rfl (O.fld fld27_0 rfl rfl rfl) ?_
                      refine .v rfl rfl (O.fld fld24_5 rfl rfl rfl) ?_
                      refine .v rfl rfl (O.ld ty3 rfl rfl rfl) ?_
                      refine .v rfl rfl (OpL.binI rfl rfl rfl rfl) ?_
                      refine .v rfl rfl (OpL.binI rfl rfl rfl rfl) ?_
                      refine .v rfl rfl (OpL.move (.inl rfl) rfl) ?_
                      refine .v rfl (met rfl rfl rfl g64) (O.fld fld31_3 rfl rfl rfl) ?_
                      refine .v rfl (met rfl rfl rfl g64) (O.ld ty3 rfl rfl rfl) ?_
                      refine .v rfl (met rfl rfl rfl g64) (OpL.move (.inl rfl) rfl) ?_
                      refine .v rfl (met rfl rfl rfl g64) (O.fld fld31_3 rfl rfl rfl) ?_
                      refine .v rfl (met rfl rfl rfl g64) (O.ld ty3 rfl rfl rfl) ?_
                      refine .v rfl (met rfl rfl rfl g64) (OpL.binI rfl rfl rfl rfl) ?_
                      refine .v rfl (met rfl rfl rfl g64) (OpL.binI rfl rfl rfl rfl) ?_
                      refine .v rfl rfl (O.pickT g64 rfl rfl rfl) ?_
                      refine .v rfl rfl (OpL.move (.inl rfl) rfl) ?_
                      refine .call (.imm (.val (.bool t62))) [] 0 (lombardlaw25_awake.ok ((if_pos (by simp only [g64, g65, Bool.true_or, Bool.or_true, Bool.false_or, Bool.or_false, Bool.true_and, Bool.and_true, Bool.false_and, Bool.and_false, Bool.not_true, Bool.not_false, cond_true, cond_false])).symm.trans b63)) rfl (met rfl rfl rfl g65) rfl ca9 rfl rfl .nil rfl rfl rfl rfl rfl ?_
                      refine .v rfl rfl (O.pickT g65 rfl rfl rfl) ?_
                      refine .v rfl rfl (OpL.move (.inr rfl) rfl) ?_
                      refine .nil ?_
                      exact toN (Gives.mkR [] (.c rfl (sbb (by simp only [g64, g65, Bool.true_or, Bool.or_true, Bool.false_or, Bool.or_false, Bool.true_and, Bool.and_true, Bool.false_and, Bool.and_false, Bool.not_true, Bool.not_false, cond_true, cond_false])) rfl .n) .n rfl rfl rfl)
                    · refine W.pk ?_
                      refine .v rfl rfl (O.fld fld31_3 rfl rfl rfl) ?_
                      refine .v rfl rfl (O.ld ty3 rfl rfl rfl) ?_
                      refine .v rfl rfl (O.fld fld27_0 rfl rfl rfl) ?_
                      refine .v rfl rfl (O.fld fld24_5 rfl rfl rfl) ?_
                      refine .v rfl rfl (O.ld ty3 rfl rfl rfl) ?_
                      refine .v rfl rfl (OpL.binI rfl rfl rfl rfl) ?_
                      refine .v rfl rfl (OpL.binI rfl rfl rfl rfl) ?_
                      refine .v rfl rfl (OpL.move (.inl rfl) rfl) ?_
                      refine .v rfl (met rfl rfl rfl g64) (O.fld fld31_3 rfl rfl rfl) ?_
                      refine .v rfl (met rfl rfl rfl g64) (O.ld ty3 rfl rfl rfl) ?_
                      refine .v rfl (met rfl rfl rfl g64) (OpL.move (.inl rfl) rfl) ?_
                      refine .v rfl (met rfl rfl rfl g64) (O.fld fld31_3 rfl rfl rfl) ?_
                      refine .v rfl (met rfl rfl rfl g64) (O.ld ty3 rfl rfl rfl) ?_
                      refine .v rfl (met rfl rfl rfl g64) (OpL.binI rfl rfl rfl rfl) ?_
                      refine .v rfl (met rfl rfl rfl g64) (OpL.binI rfl rfl rfl rfl) ?_
                      refine .v rfl rfl (O.pickT g64 rfl rfl rfl) ?_
                      refine .v rfl rfl (OpL.move (.inl rfl) rfl) ?_
                      refine .x rfl (unmet rfl rfl rfl g65) ?_
                      refine .v rfl rfl (O.pickF g65 rfl rfl rfl) ?_
                      refine .v rfl rfl (OpL.move (.inr rfl) rfl) ?_
                      refine .nil ?_
                      exact toN (Gives.mkR [] (.c rfl (sbb (by simp only [g64, g65, Bool.true_or, Bool.or_true, Bool.false_or, Bool.or_false, Bool.true_and, Bool.and_true, Bool.false_and, Bool.and_false, Bool.not_true, Bool.not_false, cond_true, cond_false])) rfl .n) .n rfl rfl rfl)
                  · refine W.pk ?_
                    refine .v rfl rfl (O.fld fld31_3 rfl rfl rfl) ?_
                    refine .v rfl rfl (O.ld ty3 rfl rfl rfl) ?_
                    refine .v rfl rfl (O.fld fld27_0 rfl rfl rfl) ?_
                    refine .v rfl rfl (O.fld fld24_5 rfl rfl rfl) ?_
                    refine .v rfl rfl (O.ld ty3 rfl rfl rfl) ?_
                    refine .v rfl rfl (OpL.binI rfl rfl rfl rfl) ?_
                    refine .v rfl rfl (OpL.binI rfl rfl rfl rfl) ?_
                    refine .v rfl rfl (OpL.move (.inl rfl) rfl) ?_
                    refine .x rfl (unmet rfl rfl rfl g64) ?_
                    refine .x rfl (unmet rfl rfl rfl g64) ?_
                    refine .x rfl (unmet rfl rfl rfl g64) ?_
                    refine .x rfl (unmet rfl rfl rfl g64) ?_
                    refine .x rfl (unmet rfl rfl rfl g64) ?_
                    refine .x rfl (unmet rfl rfl rfl g64) ?_
                    refine .x rfl (unmet rfl rfl rfl g64) ?_
                    refine .v rfl rfl (O.pickF g64 rfl rfl rfl) ?_
                    refine .v rfl rfl (OpL.move (.inl rfl) rfl) ?_
                    refine .x rfl (unmet rfl rfl rfl rfl) ?_
                    refine .v rfl rfl (O.pickF rfl rfl rfl rfl) ?_
                    refine .v rfl rfl (OpL.move (.inr rfl) rfl) ?_
                    refine .nil ?_
                    exact toN (Gives.mkR [] (.c rfl (sbb (by simp only [g64, Bool.true_or, Bool.or_true, Bool.false_or, Bool.or_false, Bool.true_and, Bool.and_true, Bool.false_and, Bool.and_false, Bool.not_true, Bool.not_false, cond_true, cond_false])) rfl .n) .n rfl rfl rfl)
        · clear h
          rcases tf (t18.2 != 0) with g20 | g20
          · refine W.pk ?_
            refine .v rfl rfl (OpL.move (.inl rfl) rfl) ?_
            refine .v rfl rfl (OpL.binI rfl rfl rfl rfl) ?_
            refine .v rfl rfl (OpL.move (.inl rfl) rfl) ?_
            refine .x rfl (unmet rfl rfl rfl g20) ?_
            refine .x rfl (unmet rfl rfl rfl g20) ?_
            refine .x rfl (unmet rfl rfl rfl g20) ?_
            refine .x rfl (unmet rfl rfl rfl g20) ?_
            refine .x rfl (unmet rfl rfl rfl g20) ?_
            refine .x rfl (unmet rfl rfl rfl g20) ?_
            refine .x rfl (unmet rfl rfl rfl g20) ?_
            refine .v rfl rfl (O.pickT g20 rfl rfl rfl) ?_
            refine .v rfl rfl (OpL.move (.inl rfl) rfl) ?_
            refine .x rfl (unmet rfl rfl rfl rfl) ?_
            refine .x rfl (unmet rfl rfl rfl rfl) ?_
            refine .x rfl (unmet rfl rfl rfl rfl) ?_
            refine .x rfl (unmet rfl rfl rfl rfl) ?_
            refine .x rfl (unmet rfl rfl rfl rfl) ?_
            refine .x rfl (unmet rfl rfl rfl rfl) ?_
            refine .x rfl (unmet rfl rfl rfl rfl) ?_
            refine .v rfl rfl (O.pickT rfl rfl rfl rfl) ?_
            refine .nil ?_
            exact toN (Gives.mkR [] (.c rfl (.rfl _) rfl (.c rfl (.rfl _) rfl (.c rfl (.rfl _) rfl (.c rfl (.rfl _) rfl (.c rfl (sbb (by simp only [g20, Bool.true_or, Bool.or_true, Bool.false_or, Bool.or_false, Bool.true_and, Bool.and_true, Bool.false_and, Bool.and_false, Bool.not_true, Bool.not_false, cond_true, cond_false])) rfl .n))))) (.c rfl (.rfl _) rfl rfl (.c rfl (.rfl _) rfl rfl (.c rfl (.rfl _) rfl rfl .n))) rfl rfl rfl)
          · rcases tf ((List.length t8.1.Lots : Int) != (List.length x0.Lots : Int)) with g21 | g21
            · refine W.pk ?_
              refine .v rfl rfl (OpL.move (.inl rfl) rfl) ?_
              refine .v rfl rfl (OpL.binI rfl rfl rfl rfl) ?_
              refine .v rfl rfl (OpL.move (.inl rfl) rfl) ?_
              refine .v rfl (met rfl rfl rfl g20) (O.fld fld31_4 rfl rfl rfl) ?_
              refine .v rfl (met rfl rfl rfl g20) (O.ld ty25 rfl rfl rfl) ?_
              refine .v rfl (met rfl rfl rfl g20) (O.lenR sl25 rfl rfl) ?_
              refine .v rfl (met rfl rfl rfl g20) (O.fld fld27_1 rfl rfl rfl) ?_
              refine .v rfl (met rfl rfl rfl g20) (O.ld ty25 rfl rfl rfl) ?_
              refine .v rfl (met rfl rfl rfl g20) (O.lenR sl25 rfl rfl) ?_
              refine .v rfl (met rfl rfl rfl g20) (OpL.binI rfl rfl rfl rfl) ?_
              refine .v rfl rfl (O.pickF g20 rfl rfl rfl) ?_
              refine .v rfl rfl (OpL.move (.inl rfl) rfl) ?_
              refine .x rfl (unmet rfl rfl rfl g21) ?_
              refine .x rfl (unmet rfl rfl rfl g21) ?_
              refine .x rfl (unmet rfl rfl rfl g21) ?_
              refine .x rfl (unmet rfl rfl rfl g21) ?_
              refine .x rfl (unmet rfl rfl rfl g21) ?_
              refine .x rfl (unmet rfl rfl rfl g21) ?_
              refine .x rfl (unmet rfl rfl rfl g21) ?_
              refine .v rfl rfl (O.pickT g21 rfl rfl rfl) ?_
              refine .nil ?_
              exact toN (Gives.mkR [] (.c rfl (.rfl _) rfl (.c rfl (.rfl _) rfl (.c rfl (.rfl _) rfl (.c rfl (.rfl _) rfl (.c rfl (sbb (by simp only [g20, g21, Bool.true_or, Bool.or_true, Bool.false_or, Bool.or_false, Bool.true_and, Bool.and_true, Bool.false_and, Bool.and_false, Bool.not_true, Bool.not_false, cond_true, cond_false])) rfl .n))))) (.c rfl (.rfl _) rfl rfl (.c rfl (.rfl _) rfl rfl (.c rfl (.rfl _) rfl rfl .n))) rfl rfl rfl)
            · refine W.pk ?_
              refine .v rfl rfl (OpL.move (.inl rfl) rfl) ?_
              refine .v rfl rfl (OpL.binI rfl rfl rfl rfl) ?_
              refine .v rfl rfl (OpL.move (.inl rfl) rfl) ?_
              refine .v rfl (met rfl rfl rfl g20) (O.fld fld31_4 rfl rfl rfl) ?_
              refine .v rfl (met rfl rfl rfl g20) (O.ld ty25 rfl rfl rfl) ?_
              refine .v rfl (met rfl rfl rfl g20) (O.lenR sl25 rfl rfl) ?_
              refine .v rfl (met rfl rfl rfl g20) (O.fld fld27_1 rfl rfl rfl) ?_
              refine .v rfl (met rfl rfl rfl g20) (O.ld ty25 rfl rfl rfl) ?_
              refine .v rfl (met rfl rfl rfl g20) (O.lenR sl25 rfl rfl) ?_
              refine .v rfl (met rfl rfl rfl g20) (OpL.binI rfl rfl rfl rfl) ?_
              refine .v rfl rfl (O.pickF g20 rfl rfl rfl) ?_
              refine .v rfl rfl (OpL.move (.inl rfl) rfl) ?_
              refine .v rfl (met rfl rfl rfl g21) (O.fld fld31_4 rfl rfl rfl) ?_
              refine .v rfl (met rfl rfl rfl g21) (O.ld ty25 rfl rfl rfl) ?_
              refine .v rfl (met rfl rfl rfl g21) (O.lenR sl25 rfl rfl) ?_
              refine .v rfl (met rfl rfl rfl g21) (O.fld fld27_1 rfl rfl rfl) ?_
              refine .v rfl (met rfl rfl rfl g21) (O.ld ty25 rfl rfl rfl) ?_
              refine .v rfl (met rfl rfl rfl g21) (O.lenR sl25 rfl rfl) ?_
              refine .v rfl (met rfl rfl rfl g21) (OpL.binI rfl rfl rfl rfl) ?_
              refine .v rfl rfl (O.pickF g21 rfl rfl rfl) ?_
              refine .nil ?_
              exact toN (Gives.mkR [] (.c rfl (.rfl _) rfl (.c rfl (.rfl _) rfl (.c rfl (.rfl _) rfl (.c rfl (.rfl _) rfl (.c rfl (sbb (by simp only [g20, g21, Bool.true_or, Bool.or_true, Bool.false_or, Bool.or_false, Bool.true_and, Bool.and_true, Bool.false_and, Bool.and_false, Bool.not_true, Bool.not_false, cond_true, cond_false])) rfl .n))))) (.c rfl (.rfl _) rfl rfl (.c rfl (.rfl _) rfl rfl (.c rfl (.rfl _) rfl rfl .n))) rfl rfl rfl)
    · clear h
      rcases tf (t8.2 != 0) with g14 | g14
      · refine W.pk ?_
        refine .v rfl rfl (OpL.move (.inl rfl) rfl) ?_
        refine .v rfl rfl (OpL.binI rfl rfl rfl rfl) ?_
        refine .v rfl rfl (OpL.move (.inl rfl) rfl) ?_
        refine .x rfl (unmet rfl rfl rfl g14) ?_
        refine .x rfl (unmet rfl rfl rfl g14) ?_
        refine .v rfl rfl (O.pickT g14 rfl rfl rfl) ?_
        refine .nil ?_
        exact toN (Gives.mkR [] (.c rfl (.rfl _) rfl (.c rfl (.rfl _) rfl (.c rfl (.rfl _) rfl (.c rfl (sbb (by simp only [g14, Bool.true_or, Bool.or_true, Bool.false_or, Bool.or_false, Bool.true_and, Bool.and_true, Bool.false_and, Bool.and_false, Bool.not_true, Bool.not_false, cond_true, cond_false])) rfl .n)))) (.c rfl (.rfl _) rfl rfl (.c rfl (.rfl _) rfl rfl (.c rfl (.rfl _) rfl rfl .n))) rfl rfl rfl)
      · refine W.pk ?_
        refine .v rfl rfl (OpL.move (.inl rfl) rfl) ?_
        refine .v rfl rfl (OpL.binI rfl rfl rfl rfl) ?_
        refine .v rfl rfl (OpL.move (.inl rfl) rfl) ?_
        refine .v rfl (met rfl rfl rfl g14) (OpL.move (.inl rfl) rfl) ?_
        refine .v rfl (met rfl rfl rfl g14) (OpL.binI rfl rfl rfl rfl) ?_
        refine .v rfl rfl (O.pickF g14 rfl rfl rfl) ?_
        refine .nil ?_
        exact toN (Gives.mkR [] (.c rfl (.rfl _) rfl (.c rfl (.rfl _) rfl (.c rfl (.rfl _) rfl (.c rfl (sbb (by simp only [g14, Bool.true_or, Bool.or_true, Bool.false_or, Bool.or_false, Bool.true_and, Bool.and_true, Bool.false_and, Bool.and_false, Bool.not_true, Bool.not_false, cond_true, cond_false])) rfl .n)))) (.c rfl (.rfl _) rfl rfl (.c rfl (.rfl _) rfl rfl (.c rfl (.rfl _) rfl rfl .n))) rfl rfl rfl)

noncomputable def leg_begins.f (x0 : api_Trade) (x1 : Int) : Option (Bool) :=
  some ((x0.Stage == 1) && (x0.Start == x1))
set_option maxRecDepth 100000 in
set_option maxHeartbeats 4000000 in
theorem leg_begins.ok {x0 : api_Trade} {x1 : Int} {r : Bool} (h : leg_begins.f x0 x1 = some r) : Pm.Spec prog 45 [.agg [.imm (.val (.int .i64 x0.ID)), .imm (.val (.int .i64 x0.Twin)), .imm (.val (.int .i64 x0.Member)), .imm (.val (.int .i64 x0.Side)), .imm (.val (.int .i64 x0.Basket)), .imm (.val (.int .i64 x0.Amount)), .imm (.val (.int .i64 x0.Start)), .imm (.val (.int .i64 x0.End)), .imm (.row 2 (List.map api_Reset.enc x0.Resets)), .imm (.val (.int .i64 x0.Stage)), .imm (.val (.bool x0.Short))], .imm (.val (.int .i64 x1))] (.imm (.val (.bool r))) [none, none] := by
  unfold leg_begins.f at h
  refine Pm.Spec.of_body Try.func45 rfl (by kernel_rfl) (Nat.le_of_ble_eq_true rfl) (Nat.le_of_ble_eq_true rfl) ?_
  refine W.ghost (σ' := (mkSt [(0, some (.agg [.imm (.val (.int .i64 x0.ID)), .imm (.val (.int .i64 x0.Twin)), .imm (.val (.int .i64 x0.Member)), .imm (.val (.int .i64 x0.Side)), .imm (.val (.int .i64 x0.Basket)), .imm (.val (.int .i64 x0.Amount)), .imm (.val (.int .i64 x0.Start)), .imm (.val (.int .i64 x0.End)), .imm (.row 2 (List.map api_Reset.enc x0.Resets)), .imm (.val (.int .i64 x0.Stage)), .imm (.val (.bool x0.Short))])), (1, some (.imm (.val (.int .i64 x1))))] [] 1000)) (Gives.entry (.c rfl (.c rfl .n)) .n) ?_
  refine W.seq ?_
  refine W.pk ?_
  refine .t rfl rfl (O.box rfl rfl rfl rfl rfl) ?_
  refine .v rfl rfl (OpL.move (.inr rfl) rfl) ?_
  refine .nil ?_
  refine W.seq ?_
  refine W.fork (mkSt [(4, some (.imm (.val (.bool ((x0.Stage == 1) && (x0.Start == x1))))))] [] 1001) ?_ ?_
  · refine W.ret ?_
    cases h
    exact leaves (.inr rfl) rfl (.imm _) (cN (cN .nil)) rfl rfl
  · clear h
    rcases tf (x0.Stage == 1) with g1 | g1
    · refine W.pk ?_
      refine .v rfl rfl (O.fld fld24_9 rfl rfl rfl) ?_
      refine .v rfl rfl (O.ld ty3 rfl rfl rfl) ?_
      refine .v rfl rfl (OpL.binI rfl rfl rfl rfl) ?_
      refine .v rfl rfl (OpL.move (.inl rfl) rfl) ?_
      refine .v rfl (met rfl rfl rfl g1) (O.fld fld24_6 rfl rfl rfl) ?_
      refine .v rfl (met rfl rfl rfl g1) (O.ld ty3 rfl rfl rfl) ?_
      refine .v rfl (met rfl rfl rfl g1) (OpL.move (.inl rfl) rfl) ?_
      refine .v rfl (met rfl rfl rfl g1) (OpL.binI rfl rfl rfl rfl) ?_
      refine .v rfl rfl (O.pickT g1 rfl rfl rfl) ?_
      refine .v rfl rfl (OpL.move (.inr rfl) rfl) ?_
      refine .nil ?_
      exact toN (Gives.mkR [] (.c rfl (sbb (by simp only [g1, Bool.true_or, Bool.or_true, Bool.false_or, Bool.or_false, Bool.true_and, Bool.and_true, Bool.false_and, Bool.and_false, Bool.not_true, Bool.not_false, cond_true, cond_false])) rfl .n) .n rfl rfl rfl)
    · refine W.pk ?_
      refine .v rfl rfl (O.fld fld24_9 rfl rfl rfl) ?_
      refine .v rfl rfl (O.ld ty3 rfl rfl rfl) ?_
      refine .v rfl rfl (OpL.binI rfl rfl rfl rfl) ?_
      refine .v rfl rfl (OpL.move (.inl rfl) rfl) ?_
      refine .x rfl (unmet rfl rfl rfl g1) ?_
      refine .x rfl (unmet rfl rfl rfl g1) ?_
      refine .x rfl (unmet rfl rfl rfl g1) ?_
      refine .x rfl (unmet rfl rfl rfl g1) ?_
      refine .v rfl rfl (O.pickF g1 rfl rfl rfl) ?_
      refine .v rfl rfl (OpL.move (.inr rfl) rfl) ?_
      refine .nil ?_
      exact toN (Gives.mkR [] (.c rfl (sbb (by simp only [g1, Bool.true_or, Bool.or_true, Bool.false_or, Bool.or_false, Bool.true_and, Bool.and_true, Bool.false_and, Bool.and_false, Bool.not_true, Bool.not_false, cond_true, cond_false])) rfl .n) .n rfl rfl rfl)

noncomputable def life_Live.f (x0 : api_Trade) : Option (Bool) :=
  some ((x0.Stage == 2) || (x0.Stage == 3))
set_option maxRecDepth 100000 in
set_option maxHeartbeats 4000000 in
theorem life_Live.ok {x0 : api_Trade} {r : Bool} (h : life_Live.f x0 = some r) : Pm.Spec prog 61 [.agg [.imm (.val (.int .i64 x0.ID)), .imm (.val (.int .i64 x0.Twin)), .imm (.val (.int .i64 x0.Member)), .imm (.val (.int .i64 x0.Side)), .imm (.val (.int .i64 x0.Basket)), .imm (.val (.int .i64 x0.Amount)), .imm (.val (.int .i64 x0.Start)), .imm (.val (.int .i64 x0.End)), .imm (.row 2 (List.map api_Reset.enc x0.Resets)), .imm (.val (.int .i64 x0.Stage)), .imm (.val (.bool x0.Short))]] (.imm (.val (.bool r))) [none] := by
  unfold life_Live.f at h
  refine Pm.Spec.of_body Try.func61 rfl (by kernel_rfl) (Nat.le_of_ble_eq_true rfl) (Nat.le_of_ble_eq_true rfl) ?_
  refine W.ghost (σ' := (mkSt [(0, some (.agg [.imm (.val (.int .i64 x0.ID)), .imm (.val (.int .i64 x0.Twin)), .imm (.val (.int .i64 x0.Member)), .imm (.val (.int .i64 x0.Side)), .imm (.val (.int .i64 x0.Basket)), .imm (.val (.int .i64 x0.Amount)), .imm (.val (.int .i64 x0.Start)), .imm (.val (.int .i64 x0.End)), .imm (.row 2 (List.map api_Reset.enc x0.Resets)), .imm (.val (.int .i64 x0.Stage)), .imm (.val (.bool x0.Short))]))] [] 1000)) (Gives.entry (.c rfl .n) .n) ?_
  refine W.seq ?_
  refine W.pk ?_
  refine .t rfl rfl (O.box rfl rfl rfl rfl rfl) ?_
  refine .v rfl rfl (OpL.move (.inr rfl) rfl) ?_
  refine .nil ?_
  refine W.seq ?_
  refine W.fork (mkSt [(2, some (.imm (.val (.bool ((x0.Stage == 2) || (x0.Stage == 3))))))] [] 1001) ?_ ?_
  · refine W.ret ?_
    cases h
    exact leaves (.inr rfl) rfl (.imm _) (cN .nil) rfl rfl
  · clear h
    rcases tf (x0.Stage == 2) with g1 | g1
    · refine W.pk ?_
      refine .v rfl rfl (O.fld fld24_9 rfl rfl rfl) ?_
      refine .v rfl rfl (O.ld ty3 rfl rfl rfl) ?_
      refine .v rfl rfl (OpL.binI rfl rfl rfl rfl) ?_
      refine .v rfl rfl (OpL.move (.inl rfl) rfl) ?_
      refine .x rfl (unmet rfl rfl rfl g1) ?_
      refine .x rfl (unmet rfl rfl rfl g1) ?_
      refine .x rfl (unmet rfl rfl rfl g1) ?_
      refine .v rfl rfl (O.pickT g1 rfl rfl rfl) ?_
      refine .v rfl rfl (OpL.move (.inr rfl) rfl) ?_
      refine .nil ?_
      exact toN (Gives.mkR [] (.c rfl (sbb (by simp only [g1, Bool.true_or, Bool.or_true, Bool.false_or, Bool.or_false, Bool.true_and, Bool.and_true, Bool.false_and, Bool.and_false, Bool.not_true, Bool.not_false, cond_true, cond_false])) rfl .n) .n rfl rfl rfl)
    · refine W.pk ?_
      refine .v rfl rfl (O.fld fld24_9 rfl rfl rfl) ?_
      refine .v rfl rfl (O.ld ty3 rfl rfl rfl) ?_
      refine .v rfl rfl (OpL.binI rfl rfl rfl rfl) ?_
      refine .v rfl rfl (OpL.move (.inl rfl) rfl) ?_
      refine .v rfl (met rfl rfl rfl g1) (O.fld fld24_9 rfl rfl rfl) ?_
      refine .v rfl (met rfl rfl rfl g1) (O.ld ty3 rfl rfl rfl) ?_
      refine .v rfl (met rfl rfl rfl g1) (OpL.binI rfl rfl rfl rfl) ?_
      refine .v rfl rfl (O.pickF g1 rfl rfl rfl) ?_
      refine .v rfl rfl (OpL.move (.inr rfl) rfl) ?_
      refine .nil ?_
      exact toN (Gives.mkR [] (.c rfl (sbb (by simp only [g1, Bool.true_or, Bool.or_true, Bool.false_or, Bool.or_false, Bool.true_and, Bool.and_true, Bool.false_and, Bool.and_false, Bool.not_true, Bool.not_false, cond_true, cond_false])) rfl .n) .n rfl rfl rfl)
end Go.Proofs.Ytlgfdldonoaahaa
