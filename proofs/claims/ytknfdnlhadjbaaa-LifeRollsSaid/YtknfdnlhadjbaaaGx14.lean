/- Shows what functions of the program come to, each as a plain function: written by a program of the author's for this claim. -/
import Derived.Test.YtknfdnlhadjbaaaGx13
namespace Go.Proofs.Ytknfdnlhadjbaaa
open Go Go.Pm
set_option linter.unusedVariables false
set_option linter.unusedSimpArgs false
noncomputable def lombardref24_Left.f (x0 : api_Trade) (x1 : Int) : Option (Int) :=
  if (x0.End == 0) = true then
    some (-1)
  else
    ((
      if (decide (x1 < 0)) = true then
        some 0
      else
        some x1 : Option (Int))).bind fun o4 =>
    if (decide (o4 ≥ x0.End)) = true then
      some 0
    else
      some (IntKind.wrap .i64 (x0.End - o4))
set_option maxRecDepth 100000 in
set_option maxHeartbeats 4000000 in
theorem lombardref24_Left.ok {x0 : api_Trade} {x1 : Int} {r : Int} (h : lombardref24_Left.f x0 x1 = some r) : Pm.Spec prog 22 [.agg [.imm (.val (.int .i64 x0.ID)), .imm (.val (.int .i64 x0.Twin)), .imm (.val (.int .i64 x0.Member)), .imm (.val (.int .i64 x0.Side)), .imm (.val (.int .i64 x0.Basket)), .imm (.val (.int .i64 x0.Amount)), .imm (.val (.int .i64 x0.Start)), .imm (.val (.int .i64 x0.End)), .imm (.row 2 (List.map api_Reset.enc x0.Resets)), .imm (.val (.int .i64 x0.Stage)), .imm (.val (.bool x0.Short))], .imm (.val (.int .i64 x1))] (.imm (.val (.int .i64 r))) [none, none] := by
  unfold lombardref24_Left.f at h
  refine Pm.Spec.of_body Try.func22 rfl (by kernel_rfl) (Nat.le_of_ble_eq_true rfl) (Nat.le_of_ble_eq_true rfl) ?_
  refine W.ghost (σ' := (mkSt [(0, some (.agg [.imm (.val (.int .i64 x0.ID)), .imm (.val (.int .i64 x0.Twin)), .imm (.val (.int .i64 x0.Member)), .imm (.val (.int .i64 x0.Side)), .imm (.val (.int .i64 x0.Basket)), .imm (.val (.int .i64 x0.Amount)), .imm (.val (.int .i64 x0.Start)), .imm (.val (.int .i64 x0.End)), .imm (.row 2 (List.map api_Reset.enc x0.Resets)), .imm (.val (.int .i64 x0.Stage)), .imm (.val (.bool x0.Short))])), (1, some (.imm (.val (.int .i64 x1))))] [] 1000)) (Gives.entry (.c rfl (.c rfl .n)) .n) ?_
  refine W.seq ?_
  refine W.pk ?_
  refine .t rfl rfl (O.box rfl rfl rfl rfl rfl) ?_
  refine .v rfl rfl (OpL.move (.inr rfl) rfl) ?_
  refine .nil ?_
  refine W.seq ?_
  refine W.seq ?_
  refine W.pk ?_
  refine .v rfl rfl (O.fld fld24_7 rfl rfl rfl) ?_
  refine .v rfl rfl (O.ld ty3 rfl rfl rfl) ?_
  refine .v rfl rfl (OpL.binI rfl rfl rfl rfl) ?_
  refine .nil ?_
  refine W.cond rfl (fun q1 => ?_) (fun q1 => ?_)
  · have h := ifT q1 h
    refine W.seq ?_
    refine W.pk ?_
    refine .v rfl rfl (OpL.move (.inr rfl) rfl) ?_
    refine .nil ?_
    refine W.ret ?_
    cases h
    exact leaves (.inr rfl) rfl (.imm _) (cN (cN .nil)) rfl rfl
  · have h := ifF q1 h
    refine W.skip ?_
    refine W.seq ?_
    refine W.seq ?_
    refine W.pk ?_
    refine .v rfl rfl (OpL.move (.inl rfl) rfl) ?_
    refine .v rfl rfl (OpL.binI rfl rfl rfl rfl) ?_
    refine .nil ?_
    obtain ⟨o4, b5, h⟩ := bnd1 h
    refine W.fork (mkSt [(1, some (.imm (.val (.int .i64 o4)))), (2, some (.ptr 1000 0))] [(1000, some (.box [.imm (.val (.int .i64 x0.ID)), .imm (.val (.int .i64 x0.Twin)), .imm (.val (.int .i64 x0.Member)), .imm (.val (.int .i64 x0.Side)), .imm (.val (.int .i64 x0.Basket)), .imm (.val (.int .i64 x0.Amount)), .imm (.val (.int .i64 x0.Start)), .imm (.val (.int .i64 x0.End)), .imm (.row 2 (List.map api_Reset.enc x0.Resets)), .imm (.val (.int .i64 x0.Stage)), .imm (.val (.bool x0.Short))]))] 1001) ?_ ?_
    · refine W.seq ?_
      refine W.seq ?_
      refine W.pk ?_
      refine .v rfl rfl (OpL.move (.inl rfl) rfl) ?_
      refine .v rfl rfl (O.fld fld24_7 rfl rfl rfl) ?_
      refine .v rfl rfl (O.ld ty3 rfl rfl rfl) ?_
      refine .v rfl rfl (OpL.binI rfl rfl rfl rfl) ?_
      refine .nil ?_
      refine W.cond rfl (fun q7 => ?_) (fun q7 => ?_)
      · have h := ifT q7 h
        refine W.seq ?_
        refine W.pk ?_
        refine .v rfl rfl (OpL.move (.inr rfl) rfl) ?_
        refine .nil ?_
        refine W.ret ?_
        cases h
        exact leaves (.inr rfl) rfl (.imm _) (cN (cN .nil)) rfl rfl
      · have h := ifF q7 h
        refine W.skip ?_
        refine W.seq ?_
        refine W.pk ?_
        refine .v rfl rfl (O.fld fld24_7 rfl rfl rfl) ?_
        refine .v rfl rfl (O.ld ty3 rfl rfl rfl) ?_
        refine .v rfl rfl (OpL.move (.inl rfl) rfl) ?_
        refine .v rfl rfl (OpL.binI rfl rfl rfl rfl) ?_
        refine .v rfl rfl (OpL.move (.inr rfl) rfl) ?_
        refine .nil ?_
        refine W.ret ?_
        cases h
        exact leaves (.inr rfl) rfl (.imm _) (cN (cN .nil)) rfl rfl
    · clear h
      have h := b5
      refine W.cond rfl (fun q6 => ?_) (fun q6 => ?_)
      · have h := ifT q6 h
        refine W.pk ?_
        refine .v rfl rfl (OpL.move (.inr rfl) rfl) ?_
        refine .nil ?_
        cases h
        exact toN (Gives.mkR [] (.c rfl (.rfl _) rfl (.c rfl (.rfl _) rfl .n)) (.c rfl (.rfl _) rfl rfl .n) rfl rfl rfl)
      · have h := ifF q6 h
        refine W.skip ?_
        cases h
        exact toN (Gives.mkR [] (.c rfl (.rfl _) rfl (.c rfl (.rfl _) rfl .n)) (.c rfl (.rfl _) rfl rfl .n) rfl rfl rfl)

noncomputable def lombardlaw24_LifeRolls.f (x0 : api_Trade) (x1 : api_Trade) (x2 : Int) (x3 : Int) (x4 : Int) : Option (Bool) :=
  (lombardlaw24_good.f x0).bind fun t1 =>
  (if (!t1) = false then lombardlaw24_good.f x1 else some default).bind fun t3 =>
  if ((!t1) || (!t3)) = true then
    (lombardlaw24_awake.f).bind fun t7 =>
    some t7
  else
    (life_Roll.f x0 x1 x3 x4).bind fun t9 =>
    (lombardref24_Roll.f x0 x1 x3 x4).bind fun t11 =>
    (if (((t9.1.Lender == t11.1.Lender) && ((t9.1.Borrower == t11.1.Borrower) && ((t9.1.Basket == t11.1.Basket) && ((t9.1.Amount == t11.1.Amount) && ((t9.1.Rate == t11.1.Rate) && ((t9.1.Start == t11.1.Start) && (t9.1.End == t11.1.End))))))) && (t9.2 == t11.2)) = true then life_Left.f x0 x2 else some default).bind fun t13 =>
    (if (((t9.1.Lender == t11.1.Lender) && ((t9.1.Borrower == t11.1.Borrower) && ((t9.1.Basket == t11.1.Basket) && ((t9.1.Amount == t11.1.Amount) && ((t9.1.Rate == t11.1.Rate) && ((t9.1.Start == t11.1.Start) && (t9.1.End == t11.1.End))))))) && (t9.2 == t11.2)) = true then lombardref24_Left.f x0 x2 else some default).bind fun t15 =>
    (if ((((t9.1.Lender == t11.1.Lender) && ((t9.1.Borrower == t11.1.Borrower) && ((t9.1.Basket == t11.1.Basket) && ((t9.1.Amount == t11.1.Amount) && ((t9.1.Rate == t11.1.Rate) && ((t9.1.Start == t11.1.Start) && (t9.1.End == t11.1.End))))))) && (t9.2 == t11.2)) && (t13 == t15)) = true then lombardlaw24_awake.f else some default).bind fun t17 =>
    some (((((t9.1.Lender == t11.1.Lender) && ((t9.1.Borrower == t11.1.Borrower) && ((t9.1.Basket == t11.1.Basket) && ((t9.1.Amount == t11.1.Amount) && ((t9.1.Rate == t11.1.Rate) && ((t9.1.Start == t11.1.Start) && (t9.1.End == t11.1.End))))))) && (t9.2 == t11.2)) && (t13 == t15)) && t17)
set_option maxRecDepth 100000 in
set_option maxHeartbeats 4000000 in
theorem lombardlaw24_LifeRolls.ok {x0 : api_Trade} {x1 : api_Trade} {x2 : Int} {x3 : Int} {x4 : Int} {r : Bool} (h : lombardlaw24_LifeRolls.f x0 x1 x2 x3 x4 = some r) : Pm.Spec prog 5 [.agg [.imm (.val (.int .i64 x0.ID)), .imm (.val (.int .i64 x0.Twin)), .imm (.val (.int .i64 x0.Member)), .imm (.val (.int .i64 x0.Side)), .imm (.val (.int .i64 x0.Basket)), .imm (.val (.int .i64 x0.Amount)), .imm (.val (.int .i64 x0.Start)), .imm (.val (.int .i64 x0.End)), .imm (.row 2 (List.map api_Reset.enc x0.Resets)), .imm (.val (.int .i64 x0.Stage)), .imm (.val (.bool x0.Short))], .agg [.imm (.val (.int .i64 x1.ID)), .imm (.val (.int .i64 x1.Twin)), .imm (.val (.int .i64 x1.Member)), .imm (.val (.int .i64 x1.Side)), .imm (.val (.int .i64 x1.Basket)), .imm (.val (.int .i64 x1.Amount)), .imm (.val (.int .i64 x1.Start)), .imm (.val (.int .i64 x1.End)), .imm (.row 2 (List.map api_Reset.enc x1.Resets)), .imm (.val (.int .i64 x1.Stage)), .imm (.val (.bool x1.Short))], .imm (.val (.int .i64 x2)), .imm (.val (.int .i64 x3)), .imm (.val (.int .i64 x4))] (.imm (.val (.bool r))) [none, none, none, none, none] := by
  unfold lombardlaw24_LifeRolls.f at h
  refine Pm.Spec.of_body Try.func5 rfl (by kernel_rfl) (Nat.le_of_ble_eq_true rfl) (Nat.le_of_ble_eq_true rfl) ?_
  refine W.ghost (σ' := (mkSt [(0, some (.agg [.imm (.val (.int .i64 x0.ID)), .imm (.val (.int .i64 x0.Twin)), .imm (.val (.int .i64 x0.Member)), .imm (.val (.int .i64 x0.Side)), .imm (.val (.int .i64 x0.Basket)), .imm (.val (.int .i64 x0.Amount)), .imm (.val (.int .i64 x0.Start)), .imm (.val (.int .i64 x0.End)), .imm (.row 2 (List.map api_Reset.enc x0.Resets)), .imm (.val (.int .i64 x0.Stage)), .imm (.val (.bool x0.Short))])), (1, some (.agg [.imm (.val (.int .i64 x1.ID)), .imm (.val (.int .i64 x1.Twin)), .imm (.val (.int .i64 x1.Member)), .imm (.val (.int .i64 x1.Side)), .imm (.val (.int .i64 x1.Basket)), .imm (.val (.int .i64 x1.Amount)), .imm (.val (.int .i64 x1.Start)), .imm (.val (.int .i64 x1.End)), .imm (.row 2 (List.map api_Reset.enc x1.Resets)), .imm (.val (.int .i64 x1.Stage)), .imm (.val (.bool x1.Short))])), (2, some (.imm (.val (.int .i64 x2)))), (3, some (.imm (.val (.int .i64 x3)))), (4, some (.imm (.val (.int .i64 x4))))] [] 1000)) (Gives.entry (.c rfl (.c rfl (.c rfl (.c rfl (.c rfl .n))))) .n) ?_
  refine W.seq ?_
  refine W.pk ?_
  refine .t rfl rfl (O.box rfl rfl rfl rfl rfl) ?_
  refine .t rfl rfl (O.box rfl rfl rfl rfl rfl) ?_
  refine .v rfl rfl (OpL.move (.inr rfl) rfl) ?_
  refine .nil ?_
  refine W.seq ?_
  refine W.seq ?_
  obtain ⟨t1, b2, h⟩ := bnd1 h
  obtain ⟨t3, b4, h⟩ := bnd1 h
  refine W.fork (mkSt [(2, some (.imm (.val (.int .i64 x2)))), (3, some (.imm (.val (.int .i64 x3)))), (4, some (.imm (.val (.int .i64 x4)))), (5, some (.ptr 1000 0)), (6, some (.ptr 1001 0)), (22, some (.imm (.val (.bool ((!t1) || (!t3))))))] [(1000, some (.box [.imm (.val (.int .i64 x0.ID)), .imm (.val (.int .i64 x0.Twin)), .imm (.val (.int .i64 x0.Member)), .imm (.val (.int .i64 x0.Side)), .imm (.val (.int .i64 x0.Basket)), .imm (.val (.int .i64 x0.Amount)), .imm (.val (.int .i64 x0.Start)), .imm (.val (.int .i64 x0.End)), .imm (.row 2 (List.map api_Reset.enc x0.Resets)), .imm (.val (.int .i64 x0.Stage)), .imm (.val (.bool x0.Short))])), (1001, some (.box [.imm (.val (.int .i64 x1.ID)), .imm (.val (.int .i64 x1.Twin)), .imm (.val (.int .i64 x1.Member)), .imm (.val (.int .i64 x1.Side)), .imm (.val (.int .i64 x1.Basket)), .imm (.val (.int .i64 x1.Amount)), .imm (.val (.int .i64 x1.Start)), .imm (.val (.int .i64 x1.End)), .imm (.row 2 (List.map api_Reset.enc x1.Resets)), .imm (.val (.int .i64 x1.Stage)), .imm (.val (.bool x1.Short))]))] 1002) ?_ ?_
  · refine W.cond rfl (fun q6 => ?_) (fun q6 => ?_)
    · have h := ifT q6 h
      refine W.seq ?_
      obtain ⟨t7, b8, h⟩ := bnd1 h
      refine W.pk ?_
      refine .call (.imm (.val (.bool t7))) [] 0 (lombardlaw24_awake.ok b8) rfl rfl rfl ca10 rfl rfl .nil rfl rfl rfl rfl rfl ?_
      refine .v rfl rfl (OpL.move (.inr rfl) rfl) ?_
      refine .nil ?_
      refine W.ret ?_
      cases h
      exact leaves (.inr rfl) rfl (.imm _) (cN (cN (cN (cN (cN .nil))))) rfl rfl
    · have h := ifF q6 h
      refine W.skip ?_
      refine W.seq ?_
      obtain ⟨t9, b10, h⟩ := bnd1 h
      refine W.pk ?_
      refine .v rfl rfl (O.ldN ty24 rfl rfl rfl) ?_
      refine .v rfl rfl (O.ldN ty24 rfl rfl rfl) ?_
      refine .v rfl rfl (OpL.move (.inl rfl) rfl) ?_
      refine .v rfl rfl (OpL.move (.inl rfl) rfl) ?_
      refine .call (.tup [.agg [.imm (.val (.int .i64 t9.1.Lender)), .imm (.val (.int .i64 t9.1.Borrower)), .imm (.val (.int .i64 t9.1.Basket)), .imm (.val (.int .i64 t9.1.Amount)), .imm (.val (.int .i64 t9.1.Rate)), .imm (.val (.int .i64 t9.1.Start)), .imm (.val (.int .i64 t9.1.End))], .imm (.val (.int .i64 t9.2))]) [] 0 (life_Roll.ok b10) rfl rfl rfl ca19 rfl rfl (cC (.agg _ _ _ _ (cC (.imm _) (cC (.imm _) (cC (.imm _) (cC (.imm _) (cC (.imm _) (cC (.imm _) (cC (.imm _) (cC (.imm _) (cC (.imm _) (cC (.imm _) (cC (.imm _) .nil)))))))))))) (cC (.agg _ _ _ _ (cC (.imm _) (cC (.imm _) (cC (.imm _) (cC (.imm _) (cC (.imm _) (cC (.imm _) (cC (.imm _) (cC (.imm _) (cC (.imm _) (cC (.imm _) (cC (.imm _) .nil)))))))))))) (cC (.imm _) (cC (.imm _) .nil)))) rfl rfl rfl rfl rfl ?_
      refine .v rfl rfl (OpL.move (.inl rfl) rfl) ?_
      refine .v rfl rfl (OpL.extract rfl rfl rfl) ?_
      refine .v rfl rfl (OpL.extract rfl rfl rfl) ?_
      refine .t rfl rfl (O.alloc z38 rfl) ?_
      refine .s rfl rfl (O.st ty38 rfl rfl rfl rfl rfl rfl rfl rfl rfl rfl (all' := [.imm (.val (.int .i64 t9.1.Lender)), .imm (.val (.int .i64 t9.1.Borrower)), .imm (.val (.int .i64 t9.1.Basket)), .imm (.val (.int .i64 t9.1.Amount)), .imm (.val (.int .i64 t9.1.Rate)), .imm (.val (.int .i64 t9.1.Start)), .imm (.val (.int .i64 t9.1.End))]) rfl) ?_
      refine .v rfl rfl (OpL.move (.inr rfl) rfl) ?_
      refine .nil ?_
      refine W.seq ?_
      obtain ⟨t11, b12, h⟩ := bnd1 h
      refine W.pk ?_
      refine .v rfl rfl (O.ldN ty24 rfl rfl rfl) ?_
      refine .v rfl rfl (O.ldN ty24 rfl rfl rfl) ?_
      refine .v rfl rfl (OpL.move (.inl rfl) rfl) ?_
      refine .v rfl rfl (OpL.move (.inl rfl) rfl) ?_
      refine .call (.tup [.agg [.imm (.val (.int .i64 t11.1.Lender)), .imm (.val (.int .i64 t11.1.Borrower)), .imm (.val (.int .i64 t11.1.Basket)), .imm (.val (.int .i64 t11.1.Amount)), .imm (.val (.int .i64 t11.1.Rate)), .imm (.val (.int .i64 t11.1.Start)), .imm (.val (.int .i64 t11.1.End))], .imm (.val (.int .i64 t11.2))]) [] 0 (lombardref24_Roll.ok b12) rfl rfl rfl ca20 rfl rfl (cC (.agg _ _ _ _ (cC (.imm _) (cC (.imm _) (cC (.imm _) (cC (.imm _) (cC (.imm _) (cC (.imm _) (cC (.imm _) (cC (.imm _) (cC (.imm _) (cC (.imm _) (cC (.imm _) .nil)))))))))))) (cC (.agg _ _ _ _ (cC (.imm _) (cC (.imm _) (cC (.imm _) (cC (.imm _) (cC (.imm _) (cC (.imm _) (cC (.imm _) (cC (.imm _) (cC (.imm _) (cC (.imm _) (cC (.imm _) .nil)))))))))))) (cC (.imm _) (cC (.imm _) .nil)))) rfl rfl rfl rfl rfl ?_
      refine .v rfl rfl (OpL.move (.inl rfl) rfl) ?_
      refine .v rfl rfl (OpL.extract rfl rfl rfl) ?_
      refine .v rfl rfl (OpL.extract rfl rfl rfl) ?_
      refine .t rfl rfl (O.alloc z38 rfl) ?_
      refine .s rfl rfl (O.st ty38 rfl rfl rfl rfl rfl rfl rfl rfl rfl rfl (all' := [.imm (.val (.int .i64 t11.1.Lender)), .imm (.val (.int .i64 t11.1.Borrower)), .imm (.val (.int .i64 t11.1.Basket)), .imm (.val (.int .i64 t11.1.Amount)), .imm (.val (.int .i64 t11.1.Rate)), .imm (.val (.int .i64 t11.1.Start)), .imm (.val (.int .i64 t11.1.End))]) rfl) ?_
      refine .v rfl rfl (OpL.move (.inr rfl) rfl) ?_
      refine .nil ?_
      refine W.seq ?_
      obtain ⟨t13, b14, h⟩ := bnd1 h
      obtain ⟨t15, b16, h⟩ := bnd1 h
      obtain ⟨t17, b18, h⟩ := bnd1 h
      refine W.fork (mkSt [(10, some (.imm (.val (.bool (((((t9.1.Lender == t11.1.Lender) && ((t9.1.Borrower == t11.1.Borrower) && ((t9.1.Basket == t11.1.Basket) && ((t9.1.Amount == t11.1.Amount) && ((t9.1.Rate == t11.1.Rate) && ((t9.1.Start == t11.1.Start) && (t9.1.End == t11.1.End))))))) && (t9.2 == t11.2)) && (t13 == t15)) && t17)))))] [] 1004) ?_ ?_
      · refine W.ret ?_
        cases h
        exact leaves (.inr rfl) rfl (.imm _) (cN (cN (cN (cN (cN .nil))))) rfl rfl
      · clear h
        rcases tf ((t9.1.Lender == t11.1.Lender) && ((t9.1.Borrower == t11.1.Borrower) && ((t9.1.Basket == t11.1.Basket) && ((t9.1.Amount == t11.1.Amount) && ((t9.1.Rate == t11.1.Rate) && ((t9.1.Start == t11.1.Start) && (t9.1.End == t11.1.End))))))) with g19 | g19
        · rcases tf (t9.2 == t11.2) with g20 | g20
          · rcases tf (t13 == t15) with g21 | g21
            · refine W.dk [[], [], [0, 1], [0, 1, 2], [0, 1, 2, 3], [0, 1, 2, 3], [0, 1, 2, 3, 4, 5], [0, 1, 2, 3, 4, 5, 6], [0, 1, 2, 3, 4, 5, 6, 7], [0, 1, 2, 3, 4, 5, 6, 7, 8], [0, 1, 2, 3, 4, 5, 6, 7, 8], [0, 1, 2, 3, 4, 5, 6, 7, 8, 9, 10], [0, 1, 2, 3, 4, 5, 6, 7, 8], [0, 1, 2, 3, 4, 5, 6, 7, 8], [0, 1, 2, 3, 4, 5, 6, 7, 8, 9, 10, 11, 12, 13], [0, 1, 2, 3, 4, 5, 6, 7, 8, 9, 10, 11, 12, 13, 14], [0, 1, 2, 3, 4, 5, 6, 7, 8, 9, 10, 11, 12, 13, 14, 15], [0, 1, 2, 3, 4, 5, 6, 7, 8, 9, 10, 11, 12, 13, 14, 15, 16], [0, 1, 2, 3, 4, 5, 6, 7, 8, 9, 10, 11, 12, 13, 14, 15, 16, 17], [0, 1, 2, 3, 4, 5, 6, 7, 8, 9, 10, 11, 12, 13, 14, 15, 16, 17, 18], [0, 1, 2, 3, 4, 5, 6, 7, 8, 9, 10, 11, 12, 13, 14, 15, 16, 17, 18, 19]] rfl (by kernel_rfl) ?_
              refine .v rfl rfl (O.ldN ty38 rfl rfl rfl) ?_
              refine .v rfl rfl (O.ldN ty38 rfl rfl rfl) ?_
              refine .v rfl rfl (O.eqS (r := ((t9.1.Lender == t11.1.Lender) && ((t9.1.Borrower == t11.1.Borrower) && ((t9.1.Basket == t11.1.Basket) && ((t9.1.Amount == t11.1.Amount) && ((t9.1.Rate == t11.1.Rate) && ((t9.1.Start == t11.1.Start) && (t9.1.End == t11.1.End)))))))) fl38 rfl rfl rfl rfl rfl rfl) ?_
              refine .v rfl rfl (OpL.move (.inl rfl) rfl) ?_
              refine .v rfl (met rfl rfl rfl g19) (OpL.move (.inl rfl) rfl) ?_
              refine .v rfl (met rfl rfl rfl g19) (OpL.move (.inl rfl) rfl) ?_
              refine .v rfl (met rfl rfl rfl g19) (OpL.binI rfl rfl rfl rfl) ?_
              refine .v rfl rfl (O.pickT g19 rfl rfl rfl) ?_
              refine .v rfl rfl (OpL.move (.inl rfl) rfl) ?_
              refine .v rfl (met rfl rfl rfl g20) (O.ldN ty24 rfl rfl rfl) ?_
              refine .v rfl (met rfl rfl rfl g20) (OpL.move (.inl rfl) rfl) ?_
              refine .call (.imm (.val (.int .i64 t13))) [] 0 (life_Left.ok ((if_pos (by simp only [g19, g20, g21, Bool.true_or, Bool.or_true, Bool.false_or, Bool.or_false, Bool.true_and, Bool.and_true, Bool.false_and, Bool.and_false, Bool.not_true, Bool.not_false, cond_true, cond_false])).symm.trans b14)) rfl (met rfl rfl rfl g20) rfl ca21 rfl rfl (cC (.agg _ _ _ _ (cC (.imm _) (cC (.imm _) (cC (.imm _) (cC (.imm _) (cC (.imm _) (cC (.imm _) (cC (.imm _) (cC (.imm _) (cC (.imm _) (cC (.imm _) (cC (.imm _) .nil)))))))))))) (cC (.imm _) .nil)) rfl rfl rfl rfl rfl ?_
              refine .v rfl (met rfl rfl rfl g20) (O.ldN ty24 rfl rfl rfl) ?_
              refine .v rfl (met rfl rfl rfl g20) (OpL.move (.inl rfl) rfl) ?_
              refine .call (.imm (.val (.int .i64 t15))) [] 0 (lombardref24_Left.ok ((if_pos (by simp only [g19, g20, g21, Bool.true_or, Bool.or_true, Bool.false_or, Bool.or_false, Bool.true_and, Bool.and_true, Bool.false_and, Bool.and_false, Bool.not_true, Bool.not_false, cond_true, cond_false])).symm.trans b16)) rfl (met rfl rfl rfl g20) rfl ca22 rfl rfl (cC (.agg _ _ _ _ (cC (.imm _) (cC (.imm _) (cC (.imm _) (cC (.imm _) (cC (.imm _) (cC (.imm _) (cC (.imm _) (cC (.imm _) (cC (.imm _) (cC (.imm _) (cC (.imm _) .nil)))))))))))) (cC (.imm _) .nil)) rfl rfl rfl rfl rfl ?_
              refine .v rfl (met rfl rfl rfl g20) (OpL.binI rfl rfl rfl rfl) ?_
              refine .v rfl rfl (O.pickT g20 rfl rfl rfl) ?_
              refine .v rfl rfl (OpL.move (.inl rfl) rfl) ?_
              refine .call (.imm (.val (.bool t17))) [] 0 (lombardlaw24_awake.ok ((if_pos (by simp only [g19, g20, g21, Bool.true_or, Bool.or_true, Bool.false_or, Bool.or_false, Bool.true_and, Bool.and_true, Bool.false_and, Bool.and_false, Bool.not_true, Bool.not_false, cond_true, cond_false])).symm.trans b18)) rfl (met rfl rfl rfl g21) rfl ca10 rfl rfl .nil rfl rfl rfl rfl rfl ?_
              refine .v rfl rfl (O.pickT g21 rfl rfl rfl) ?_
              refine .v rfl rfl (OpL.move (.inr rfl) rfl) ?_
              refine .nil ?_
              refine ⟨by kernel_rfl, by kernel_rfl, ?_⟩
              exact toN (Gives.mkR [] (.c rfl (sbb (by simp only [g19, g20, g21, Bool.true_or, Bool.or_true, Bool.false_or, Bool.or_false, Bool.true_and, Bool.and_true, Bool.false_and, Bool.and_false, Bool.not_true, Bool.not_false, cond_true, cond_false])) rfl .n) .n rfl rfl rfl)
            · refine W.dk [[], [], [0, 1], [0, 1, 2], [0, 1, 2, 3], [0, 1, 2, 3], [0, 1, 2, 3, 4, 5], [0, 1, 2, 3, 4, 5, 6], [0, 1, 2, 3, 4, 5, 6, 7], [0, 1, 2, 3, 4, 5, 6, 7, 8], [0, 1, 2, 3, 4, 5, 6, 7, 8], [0, 1, 2, 3, 4, 5, 6, 7, 8, 9, 10], [0, 1, 2, 3, 4, 5, 6, 7, 8], [0, 1, 2, 3, 4, 5, 6, 7, 8], [0, 1, 2, 3, 4, 5, 6, 7, 8, 9, 10, 11, 12, 13], [0, 1, 2, 3, 4, 5, 6, 7, 8, 9, 10, 11, 12, 13, 14], [0, 1, 2, 3, 4, 5, 6, 7, 8, 9, 10, 11, 12, 13, 14, 15], [0, 1, 2, 3, 4, 5, 6, 7, 8, 9, 10, 11, 12, 13, 14, 15, 16], [0, 1, 2, 3, 4, 5, 6, 7, 8, 9, 10, 11, 12, 13, 14, 15, 16, 17], [0, 1, 2, 3, 4, 5, 6, 7, 8, 9, 10, 11, 12, 13, 14, 15, 16, 17, 18], [0, 1, 2, 3, 4, 5, 6, 7, 8, 9, 10, 11, 12, 13, 14, 15, 16, 17, 18, 19]] rfl (by kernel_rfl) ?_
              refine .v rfl rfl (O.ldN ty38 rfl rfl rfl) ?_
              refine .v rfl rfl (O.ldN ty38 rfl rfl rfl) ?_
              refine .v rfl rfl (O.eqS (r := ((t9.1.Lender == t11.1.Lender) && ((t9.1.Borrower == t11.1.Borrower) && ((t9.1.Basket == t11.1.Basket) && ((t9.1.Amount == t11.1.Amount) && ((t9.1.Rate == t11.1.Rate) && ((t9.1.Start == t11.1.Start) && (t9.1.End == t11.1.End)))))))) fl38 rfl rfl rfl rfl rfl rfl) ?_
              refine .v rfl rfl (OpL.move (.inl rfl) rfl) ?_
              refine .v rfl (met rfl rfl rfl g19) (OpL.move (.inl rfl) rfl) ?_
              refine .v rfl (met rfl rfl rfl g19) (OpL.move (.inl rfl) rfl) ?_
              refine .v rfl (met rfl rfl rfl g19) (OpL.binI rfl rfl rfl rfl) ?_
              refine .v rfl rfl (O.pickT g19 rfl rfl rfl) ?_
              refine .v rfl rfl (OpL.move (.inl rfl) rfl) ?_
              refine .v rfl (met rfl rfl rfl g20) (O.ldN ty24 rfl rfl rfl) ?_
              refine .v rfl (met rfl rfl rfl g20) (OpL.move (.inl rfl) rfl) ?_
              refine .call (.imm (.val (.int .i64 t13))) [] 0 (life_Left.ok ((if_pos (by simp only [g19, g20, g21, Bool.true_or, Bool.or_true, Bool.false_or, Bool.or_false, Bool.true_and, Bool.and_true, Bool.false_and, Bool.and_false, Bool.not_true, Bool.not_false, cond_true, cond_false])).symm.trans b14)) rfl (met rfl rfl rfl g20) rfl ca21 rfl rfl (cC (.agg _ _ _ _ (cC (.imm _) (cC (.imm _) (cC (.imm _) (cC (.imm _) (cC (.imm _) (cC (.imm _) (cC (.imm _) (cC (.imm _) (cC (.imm _) (cC (.imm _) (cC (.imm _) .nil)))))))))))) (cC (.imm _) .nil)) rfl rfl rfl rfl rfl ?_
              refine .v rfl (met rfl rfl rfl g20) (O.ldN ty24 rfl rfl rfl) ?_
              refine .v rfl (met rfl rfl rfl g20) (OpL.move (.inl rfl) rfl) ?_
              refine .call (.imm (.val (.int .i64 t15))) [] 0 (lombardref24_Left.ok ((if_pos (by simp only [g19, g20, g21, Bool.true_or, Bool.or_true, Bool.false_or, Bool.or_false, Bool.true_and, Bool.and_true, Bool.false_and, Bool.and_false, Bool.not_true, Bool.not_false, cond_true, cond_false])).symm.trans b16)) rfl (met rfl rfl rfl g20) rfl ca22 rfl rfl (cC (.agg _ _ _ _ (cC (.imm _) (cC (.imm _) (cC (.imm _) (cC (.imm _) (cC (.imm _) (cC (.imm _) (cC (.imm _) (cC (.imm _) (cC (.imm _) (cC (.imm _) (cC (.imm _) .nil)))))))))))) (cC (.imm _) .nil)) rfl rfl rfl rfl rfl ?_
              refine .v rfl (met rfl rfl rfl g20) (OpL.binI rfl rfl rfl rfl) ?_
              refine .v rfl rfl (O.pickT g20 rfl rfl rfl) ?_
              refine .v rfl rfl (OpL.move (.inl rfl) rfl) ?_
              refine .x rfl (unmet rfl rfl rfl g21) ?_
              refine .v rfl rfl (O.pickF g21 rfl rfl rfl) ?_
              refine .v rfl rfl (OpL.move (.inr rfl) rfl) ?_
              refine .nil ?_
              refine ⟨by kernel_rfl, by kernel_rfl, ?_⟩
              exact toN (Gives.mkR [] (.c rfl (sbb (by simp only [g19, g20, g21, Bool.true_or, Bool.or_true, Bool.false_or, Bool.or_false, Bool.true_and, Bool.and_true, Bool.false_and, Bool.and_false, Bool.not_true, Bool.not_false, cond_true, cond_false])) rfl .n) .n rfl rfl rfl)
          · refine W.dk [[], [], [0, 1], [0, 1, 2], [0, 1, 2, 3], [0, 1, 2, 3], [0, 1, 2, 3, 4, 5], [0, 1, 2, 3, 4, 5, 6], [0, 1, 2, 3, 4, 5, 6, 7], [0, 1, 2, 3, 4, 5, 6, 7, 8], [0, 1, 2, 3, 4, 5, 6, 7, 8], [0, 1, 2, 3, 4, 5, 6, 7, 8, 9, 10], [0, 1, 2, 3, 4, 5, 6, 7, 8], [0, 1, 2, 3, 4, 5, 6, 7, 8], [0, 1, 2, 3, 4, 5, 6, 7, 8, 9, 10, 11, 12, 13], [0, 1, 2, 3, 4, 5, 6, 7, 8, 9, 10, 11, 12, 13, 14], [0, 1, 2, 3, 4, 5, 6, 7, 8, 9, 10, 11, 12, 13, 14, 15], [0, 1, 2, 3, 4, 5, 6, 7, 8, 9, 10, 11, 12, 13, 14, 15, 16], [0, 1, 2, 3, 4, 5, 6, 7, 8, 9, 10, 11, 12, 13, 14, 15, 16, 17], [0, 1, 2, 3, 4, 5, 6, 7, 8, 9, 10, 11, 12, 13, 14, 15, 16, 17, 18], [0, 1, 2, 3, 4, 5, 6, 7, 8, 9, 10, 11, 12, 13, 14, 15, 16, 17, 18, 19]] rfl (by kernel_rfl) ?_
            refine .v rfl rfl (O.ldN ty38 rfl rfl rfl) ?_
            refine .v rfl rfl (O.ldN ty38 rfl rfl rfl) ?_
            refine .v rfl rfl (O.eqS (r := ((t9.1.Lender == t11.1.Lender) && ((t9.1.Borrower == t11.1.Borrower) && ((t9.1.Basket == t11.1.Basket) && ((t9.1.Amount == t11.1.Amount) && ((t9.1.Rate == t11.1.Rate) && ((t9.1.Start == t11.1.Start) && (t9.1.End == t11.1.End)))))))) fl38 rfl rfl rfl rfl rfl rfl) ?_
            refine .v rfl rfl (OpL.move (.inl rfl) rfl) ?_
            refine .v rfl (met rfl rfl rfl g19) (OpL.move (.inl rfl) rfl) ?_
            refine .v rfl (met rfl rfl rfl g19) (OpL.move (.inl rfl) rfl) ?_
            refine .v rfl (met rfl rfl rfl g19) (OpL.binI rfl rfl rfl rfl) ?_
            refine .v rfl rfl (O.pickT g19 rfl rfl rfl) ?_
            refine .v rfl rfl (OpL.move (.inl rfl) rfl) ?_
            refine .x rfl (unmet rfl rfl rfl g20) ?_
            refine .x rfl (unmet rfl rfl rfl g20) ?_
            refine .x rfl (unmet rfl rfl rfl g20) ?_
            refine .x rfl (unmet rfl rfl rfl g20) ?_
            refine .x rfl (unmet rfl rfl rfl g20) ?_
            refine .x rfl (unmet rfl rfl rfl g20) ?_
            refine .x rfl (unmet rfl rfl rfl g20) ?_
            refine .v rfl rfl (O.pickF g20 rfl rfl rfl) ?_
            refine .v rfl rfl (OpL.move (.inl rfl) rfl) ?_
            refine .x rfl (unmet rfl rfl rfl rfl) ?_
            refine .v rfl rfl (O.pickF rfl rfl rfl rfl) ?_
            refine .v rfl rfl (OpL.move (.inr rfl) rfl) ?_
            refine .nil ?_
            refine ⟨by kernel_rfl, by kernel_rfl, ?_⟩
            exact toN (Gives.mkR [] (.c rfl (sbb (by simp only [g19, g20, Bool.true_or, Bool.or_true, Bool.false_or, Bool.or_false, Bool.true_and, Bool.and_true, Bool.false_and, Bool.and_false, Bool.not_true, Bool.not_false, cond_true, cond_false])) rfl .n) .n rfl rfl rfl)
        · refine W.dk [[], [], [0, 1], [0, 1, 2], [0, 1, 2, 3], [0, 1, 2, 3], [0, 1, 2, 3, 4, 5], [0, 1, 2, 3, 4, 5, 6], [0, 1, 2, 3, 4, 5, 6, 7], [0, 1, 2, 3, 4, 5, 6, 7, 8], [0, 1, 2, 3, 4, 5, 6, 7, 8], [0, 1, 2, 3, 4, 5, 6, 7, 8, 9, 10], [0, 1, 2, 3, 4, 5, 6, 7, 8], [0, 1, 2, 3, 4, 5, 6, 7, 8], [0, 1, 2, 3, 4, 5, 6, 7, 8, 9, 10, 11, 12, 13], [0, 1, 2, 3, 4, 5, 6, 7, 8, 9, 10, 11, 12, 13, 14], [0, 1, 2, 3, 4, 5, 6, 7, 8, 9, 10, 11, 12, 13, 14, 15], [0, 1, 2, 3, 4, 5, 6, 7, 8, 9, 10, 11, 12, 13, 14, 15, 16], [0, 1, 2, 3, 4, 5, 6, 7, 8, 9, 10, 11, 12, 13, 14, 15, 16, 17], [0, 1, 2, 3, 4, 5, 6, 7, 8, 9, 10, 11, 12, 13, 14, 15, 16, 17, 18], [0, 1, 2, 3, 4, 5, 6, 7, 8, 9, 10, 11, 12, 13, 14, 15, 16, 17, 18, 19]] rfl (by kernel_rfl) ?_
          refine .v rfl rfl (O.ldN ty38 rfl rfl rfl) ?_
          refine .v rfl rfl (O.ldN ty38 rfl rfl rfl) ?_
          refine .v rfl rfl (O.eqS (r := ((t9.1.Lender == t11.1.Lender) && ((t9.1.Borrower == t11.1.Borrower) && ((t9.1.Basket == t11.1.Basket) && ((t9.1.Amount == t11.1.Amount) && ((t9.1.Rate == t11.1.Rate) && ((t9.1.Start == t11.1.Start) && (t9.1.End == t11.1.End)))))))) fl38 rfl rfl rfl rfl rfl rfl) ?_
          refine .v rfl rfl (OpL.move (.inl rfl) rfl) ?_
          refine .x rfl (unmet rfl rfl rfl g19) ?_
          refine .x rfl (unmet rfl rfl rfl g19) ?_
          refine .x rfl (unmet rfl rfl rfl g19) ?_
          refine .v rfl rfl (O.pickF g19 rfl rfl rfl) ?_
          refine .v rfl rfl (OpL.move (.inl rfl) rfl) ?_
          refine .x rfl (unmet rfl rfl rfl rfl) ?_
          refine .x rfl (unmet rfl rfl rfl rfl) ?_
          refine .x rfl (unmet rfl rfl rfl rfl) ?_
          refine .x rfl (unmet rfl rfl rfl rfl) ?_
          refine .x rfl (unmet rfl rfl rfl rfl) ?_
          refine .x rfl (unmet rfl rfl rfl rfl) ?_
          refine .x rfl (unmet rfl rfl rfl rfl) ?_
          refine .v rfl rfl (O.pickF rfl rfl rfl rfl) ?_
          refine .v rfl rfl (OpL.move (.inl rfl) rfl) ?_
          refine .x rfl (unmet rfl rfl rfl rfl) ?_
          refine .v rfl rfl (O.pickF rfl rfl rfl rfl) ?_
          refine .v rfl rfl (OpL.move (.inr rfl) rfl) ?_
          refine .nil ?_
          refine ⟨by kernel_rfl, by kernel_rfl, ?_⟩
          exact toN (Gives.mkR [] (.c rfl (sbb (by simp only [g19, Bool.true_or, Bool.or_true, Bool.false_or, Bool.or_false, Bool.true_and, Bool.and_true, Bool.false_and, Bool.and_false, Bool.not_true, Bool.not_false, cond_true, cond_false])) rfl .n) .n rfl rfl rfl)
  · clear h
    rcases tf t1 with g5 | g5
    · refine W.pk ?_
      refine .v rfl rfl (O.ldN ty24 rfl rfl rfl) ?_
      refine .call (.imm (.val (.bool t1))) [] 0 (lombardlaw24_good.ok b2) rfl rfl rfl ca9 rfl rfl (cC (.agg _ _ _ _ (cC (.imm _) (cC (.imm _) (cC (.imm _) (cC (.imm _) (cC (.imm _) (cC (.imm _) (cC (.imm _) (cC (.imm _) (cC (.imm _) (cC (.imm _) (cC (.imm _) .nil)))))))))))) .nil) rfl rfl rfl rfl rfl ?_
      refine .v rfl rfl (OpL.unV rfl rfl rfl) ?_
      refine .v rfl rfl (OpL.move (.inl rfl) rfl) ?_
      refine .v rfl (met rfl rfl rfl (notT g5)) (O.ldN ty24 rfl rfl rfl) ?_
      refine .call (.imm (.val (.bool t3))) [] 0 (lombardlaw24_good.ok ((if_pos (by simp only [g5, Bool.true_or, Bool.or_true, Bool.false_or, Bool.or_false, Bool.true_and, Bool.and_true, Bool.false_and, Bool.and_false, Bool.not_true, Bool.not_false, cond_true, cond_false])).symm.trans b4)) rfl (met rfl rfl rfl (notT g5)) rfl ca9 rfl rfl (cC (.agg _ _ _ _ (cC (.imm _) (cC (.imm _) (cC (.imm _) (cC (.imm _) (cC (.imm _) (cC (.imm _) (cC (.imm _) (cC (.imm _) (cC (.imm _) (cC (.imm _) (cC (.imm _) .nil)))))))))))) .nil) rfl rfl rfl rfl rfl ?_
      refine .v rfl (met rfl rfl rfl (notT g5)) (OpL.unV rfl rfl rfl) ?_
      refine .v rfl rfl (O.pickF (notT g5) rfl rfl rfl) ?_
      refine .nil ?_
      exact toN (Gives.mkR [] (.c rfl (.rfl _) rfl (.c rfl (.rfl _) rfl (.c rfl (.rfl _) rfl (.c rfl (.rfl _) rfl (.c rfl (.rfl _) rfl (.c rfl (sbb (by simp only [g5, Bool.true_or, Bool.or_true, Bool.false_or, Bool.or_false, Bool.true_and, Bool.and_true, Bool.false_and, Bool.and_false, Bool.not_true, Bool.not_false, cond_true, cond_false])) rfl .n)))))) (.c rfl (.rfl _) rfl rfl (.c rfl (.rfl _) rfl rfl .n)) rfl rfl rfl)
    · refine W.pk ?_
      refine .v rfl rfl (O.ldN ty24 rfl rfl rfl) ?_
      refine .call (.imm (.val (.bool t1))) [] 0 (lombardlaw24_good.ok b2) rfl rfl rfl ca9 rfl rfl (cC (.agg _ _ _ _ (cC (.imm _) (cC (.imm _) (cC (.imm _) (cC (.imm _) (cC (.imm _) (cC (.imm _) (cC (.imm _) (cC (.imm _) (cC (.imm _) (cC (.imm _) (cC (.imm _) .nil)))))))))))) .nil) rfl rfl rfl rfl rfl ?_
      refine .v rfl rfl (OpL.unV rfl rfl rfl) ?_
      refine .v rfl rfl (OpL.move (.inl rfl) rfl) ?_
      refine .x rfl (unmet rfl rfl rfl (notF g5)) ?_
      refine .x rfl (unmet rfl rfl rfl (notF g5)) ?_
      refine .x rfl (unmet rfl rfl rfl (notF g5)) ?_
      refine .v rfl rfl (O.pickT (notF g5) rfl rfl rfl) ?_
      refine .nil ?_
      exact toN (Gives.mkR [] (.c rfl (.rfl _) rfl (.c rfl (.rfl _) rfl (.c rfl (.rfl _) rfl (.c rfl (.rfl _) rfl (.c rfl (.rfl _) rfl (.c rfl (sbb (by simp only [g5, Bool.true_or, Bool.or_true, Bool.false_or, Bool.or_false, Bool.true_and, Bool.and_true, Bool.false_and, Bool.and_false, Bool.not_true, Bool.not_false, cond_true, cond_false])) rfl .n)))))) (.c rfl (.rfl _) rfl rfl (.c rfl (.rfl _) rfl rfl .n)) rfl rfl rfl)

noncomputable def life_Begin.f (x0 : api_Trade) (x1 : Int) : Option (api_Trade × Int) :=
  if (x0.Stage != 1) = true then
    some (x0, 8)
  else
    (calendar_Good.f x1).bind fun t2 =>
    if ((!t2) || (decide (x1 < x0.Start))) = true then
      some (x0, 10)
    else
      some ((⟨x0.ID, x0.Twin, x0.Member, x0.Side, x0.Basket, x0.Amount, x0.Start, x0.End, x0.Resets, 2, x0.Short⟩ : api_Trade), 0)
set_option maxRecDepth 100000 in
set_option maxHeartbeats 4000000 in
theorem life_Begin.ok {x0 : api_Trade} {x1 : Int} {r : api_Trade × Int} (h : life_Begin.f x0 x1 = some r) : Pm.Spec prog 23 [.agg [.imm (.val (.int .i64 x0.ID)), .imm (.val (.int .i64 x0.Twin)), .imm (.val (.int .i64 x0.Member)), .imm (.val (.int .i64 x0.Side)), .imm (.val (.int .i64 x0.Basket)), .imm (.val (.int .i64 x0.Amount)), .imm (.val (.int .i64 x0.Start)), .imm (.val (.int .i64 x0.End)), .imm (.row 2 (List.map api_Reset.enc x0.Resets)), .imm (.val (.int .i64 x0.Stage)), .imm (.val (.bool x0.Short))], .imm (.val (.int .i64 x1))] (.tup [.agg [.imm (.val (.int .i64 r.1.ID)), .imm (.val (.int .i64 r.1.Twin)), .imm (.val (.int .i64 r.1.Member)), .imm (.val (.int .i64 r.1.Side)), .imm (.val (.int .i64 r.1.Basket)), .imm (.val (.int .i64 r.1.Amount)), .imm (.val (.int .i64 r.1.Start)), .imm (.val (.int .i64 r.1.End)), .imm (.row 2 (List.map api_Reset.enc r.1.Resets)), .imm (.val (.int .i64 r.1.Stage)), .imm (.val (.bool r.1.Short))], .imm (.val (.int .i64 r.2))]) [none, none] := by
  unfold life_Begin.f at h
  refine Pm.Spec.of_body Try.func23 rfl (by kernel_rfl) (Nat.le_of_ble_eq_true rfl) (Nat.le_of_ble_eq_true rfl) ?_
  refine W.ghost (σ' := (mkSt [(0, some (.agg [.imm (.val (.int .i64 x0.ID)), .imm (.val (.int .i64 x0.Twin)), .imm (.val (.int .i64 x0.Member)), .imm (.val (.int .i64 x0.Side)), .imm (.val (.int .i64 x0.Basket)), .imm (.val (.int .i64 x0.Amount)), .imm (.val (.int .i64 x0.Start)), .imm (.val (.int .i64 x0.End)), .imm (.row 2 (List.map api_Reset.enc x0.Resets)), .imm (.val (.int .i64 x0.Stage)), .imm (.val (.bool x0.Short))])), (1, some (.imm (.val (.int .i64 x1))))] [] 1000)) (Gives.entry (.c rfl (.c rfl .n)) .n) ?_
  refine W.seq ?_
  refine W.pk ?_
  refine .t rfl rfl (O.box rfl rfl rfl rfl rfl) ?_
  refine .t rfl rfl (O.alloc z24 rfl) ?_
  refine .v rfl rfl (OpL.move (.inr rfl) rfl) ?_
  refine .nil ?_
  refine W.seq ?_
  refine W.block ?_
  refine W.seq ?_
  refine W.pk ?_
  refine .v rfl rfl (O.fld fld24_9 rfl rfl rfl) ?_
  refine .v rfl rfl (O.ld ty3 rfl rfl rfl) ?_
  refine .v rfl rfl (OpL.binI rfl rfl rfl rfl) ?_
  refine .v rfl rfl (OpL.move (.inr rfl) rfl) ?_
  refine .nil ?_
  refine W.cond rfl (fun q1 => ?_) (fun q1 => ?_)
  · have h := ifT q1 h
    refine W.seq ?_
    refine W.pk ?_
    refine .v rfl rfl (O.ldN ty24 rfl rfl rfl) ?_
    refine .s rfl rfl (O.st ty24 rfl rfl rfl rfl rfl rfl rfl rfl rfl rfl (all' := [.imm (.val (.int .i64 x0.ID)), .imm (.val (.int .i64 x0.Twin)), .imm (.val (.int .i64 x0.Member)), .imm (.val (.int .i64 x0.Side)), .imm (.val (.int .i64 x0.Basket)), .imm (.val (.int .i64 x0.Amount)), .imm (.val (.int .i64 x0.Start)), .imm (.val (.int .i64 x0.End)), .imm (.row 2 (List.map api_Reset.enc x0.Resets)), .imm (.val (.int .i64 x0.Stage)), .imm (.val (.bool x0.Short))]) rfl) ?_
    refine .v rfl rfl (OpL.move (.inr rfl) rfl) ?_
    refine .nil ?_
    refine W.ret ?_
    cases h
    exact leaves (.inr rfl) rfl (.tup _ _ _ _ (cC (.agg _ _ _ _ (cC (.imm _) (cC (.imm _) (cC (.imm _) (cC (.imm _) (cC (.imm _) (cC (.imm _) (cC (.imm _) (cC (.imm _) (cC (.imm _) (cC (.imm _) (cC (.imm _) .nil)))))))))))) (cC (.imm _) .nil))) (cN (cN .nil)) rfl rfl
  · have h := ifF q1 h
    refine W.seq ?_
    obtain ⟨t2, b3, h⟩ := bnd1 h
    refine W.fork (mkSt [(2, some (.ptr 1000 0)), (4, some (.ptr 1001 0)), (11, some (.imm (.val (.bool ((!t2) || (decide (x1 < x0.Start)))))))] [(1000, some (.box [.imm (.val (.int .i64 x0.ID)), .imm (.val (.int .i64 x0.Twin)), .imm (.val (.int .i64 x0.Member)), .imm (.val (.int .i64 x0.Side)), .imm (.val (.int .i64 x0.Basket)), .imm (.val (.int .i64 x0.Amount)), .imm (.val (.int .i64 x0.Start)), .imm (.val (.int .i64 x0.End)), .imm (.row 2 (List.map api_Reset.enc x0.Resets)), .imm (.val (.int .i64 x0.Stage)), .imm (.val (.bool x0.Short))])), (1001, some (.box [.imm (.val (.int .i64 0)), .imm (.val (.int .i64 0)), .imm (.val (.int .i64 0)), .imm (.val (.int .i64 0)), .imm (.val (.int .i64 0)), .imm (.val (.int .i64 0)), .imm (.val (.int .i64 0)), .imm (.val (.int .i64 0)), .imm (.val (.slice none 0 0)), .imm (.val (.int .i64 0)), .imm (.val (.bool false))]))] 1002) ?_ ?_
    · refine W.cond rfl (fun q5 => ?_) (fun q5 => ?_)
      · have h := ifT q5 h
        refine W.seq ?_
        refine W.pk ?_
        refine .v rfl rfl (O.ldN ty24 rfl rfl rfl) ?_
        refine .s rfl rfl (O.st ty24 rfl rfl rfl rfl rfl rfl rfl rfl rfl rfl (all' := [.imm (.val (.int .i64 x0.ID)), .imm (.val (.int .i64 x0.Twin)), .imm (.val (.int .i64 x0.Member)), .imm (.val (.int .i64 x0.Side)), .imm (.val (.int .i64 x0.Basket)), .imm (.val (.int .i64 x0.Amount)), .imm (.val (.int .i64 x0.Start)), .imm (.val (.int .i64 x0.End)), .imm (.row 2 (List.map api_Reset.enc x0.Resets)), .imm (.val (.int .i64 x0.Stage)), .imm (.val (.bool x0.Short))]) rfl) ?_
        refine .v rfl rfl (OpL.move (.inr rfl) rfl) ?_
        refine .nil ?_
        refine W.ret ?_
        cases h
        exact leaves (.inr rfl) rfl (.tup _ _ _ _ (cC (.agg _ _ _ _ (cC (.imm _) (cC (.imm _) (cC (.imm _) (cC (.imm _) (cC (.imm _) (cC (.imm _) (cC (.imm _) (cC (.imm _) (cC (.imm _) (cC (.imm _) (cC (.imm _) .nil)))))))))))) (cC (.imm _) .nil))) (cN (cN .nil)) rfl rfl
      · have h := ifF q5 h
        refine W.skip ?_
        refine W.seq ?_
        refine W.pk ?_
        refine .v rfl rfl (O.fld fld24_9 rfl rfl rfl) ?_
        refine .s rfl rfl (O.st ty3 rfl rfl rfl rfl rfl rfl rfl rfl rfl rfl (all' := [.imm (.val (.int .i64 x0.ID)), .imm (.val (.int .i64 x0.Twin)), .imm (.val (.int .i64 x0.Member)), .imm (.val (.int .i64 x0.Side)), .imm (.val (.int .i64 x0.Basket)), .imm (.val (.int .i64 x0.Amount)), .imm (.val (.int .i64 x0.Start)), .imm (.val (.int .i64 x0.End)), .imm (.row 2 (List.map api_Reset.enc x0.Resets)), .imm (.val (.int .i64 2)), .imm (.val (.bool x0.Short))]) rfl) ?_
        refine .nil ?_
        refine W.seq ?_
        refine W.pk ?_
        refine .v rfl rfl (O.ldN ty24 rfl rfl rfl) ?_
        refine .s rfl rfl (O.st ty24 rfl rfl rfl rfl rfl rfl rfl rfl rfl rfl (all' := [.imm (.val (.int .i64 x0.ID)), .imm (.val (.int .i64 x0.Twin)), .imm (.val (.int .i64 x0.Member)), .imm (.val (.int .i64 x0.Side)), .imm (.val (.int .i64 x0.Basket)), .imm (.val (.int .i64 x0.Amount)), .imm (.val (.int .i64 x0.Start)), .imm (.val (.int .i64 x0.End)), .imm (.row 2 (List.map api_Reset.enc x0.Resets)), .imm (.val (.int .i64 2)), .imm (.val (.bool x0.Short))]) rfl) ?_
        refine .v rfl rfl (OpL.move (.inr rfl) rfl) ?_
        refine .nil ?_
        refine W.ret ?_
        cases h
        exact leaves (.inr rfl) rfl (.tup _ _ _ _ (cC (.agg _ _ _ _ (cC (.imm _) (cC (.imm _) (cC (.imm _) (cC (.imm _) (cC (.imm _) (cC (.imm _) (cC (.imm _) (cC (.imm _) (cC (.imm _) (cC (.imm _) (cC (.imm _) .nil)))))))))))) (cC (.imm _) .nil))) (cN (cN .nil)) rfl rfl
    · clear h
      rcases tf t2 with g4 | g4
      · refine W.pk ?_
        refine .v rfl rfl (OpL.move (.inl rfl) rfl) ?_
        refine .call (.imm (.val (.bool t2))) [] 0 (calendar_Good.ok b3) rfl rfl rfl ca41 rfl rfl (cC (.imm _) .nil) rfl rfl rfl rfl rfl ?_
        refine .v rfl rfl (OpL.unV rfl rfl rfl) ?_
        refine .v rfl rfl (OpL.move (.inl rfl) rfl) ?_
        refine .v rfl (met rfl rfl rfl (notT g4)) (OpL.move (.inl rfl) rfl) ?_
        refine .v rfl (met rfl rfl rfl (notT g4)) (O.fld fld24_6 rfl rfl rfl) ?_
        refine .v rfl (met rfl rfl rfl (notT g4)) (O.ld ty3 rfl rfl rfl) ?_
        refine .v rfl (met rfl rfl rfl (notT g4)) (OpL.binI rfl rfl rfl rfl) ?_
        refine .v rfl rfl (O.pickF (notT g4) rfl rfl rfl) ?_
        refine .v rfl rfl (OpL.move (.inr rfl) rfl) ?_
        refine .nil ?_
        exact toN (Gives.mkR [] (.c rfl (.rfl _) rfl (.c rfl (.rfl _) rfl (.c rfl (sbb (by simp only [g4, Bool.true_or, Bool.or_true, Bool.false_or, Bool.or_false, Bool.true_and, Bool.and_true, Bool.false_and, Bool.and_false, Bool.not_true, Bool.not_false, cond_true, cond_false])) rfl .n))) (.c rfl (.rfl _) rfl rfl (.c rfl (.rfl _) rfl rfl .n)) rfl rfl rfl)
      · refine W.pk ?_
        refine .v rfl rfl (OpL.move (.inl rfl) rfl) ?_
        refine .call (.imm (.val (.bool t2))) [] 0 (calendar_Good.ok b3) rfl rfl rfl ca41 rfl rfl (cC (.imm _) .nil) rfl rfl rfl rfl rfl ?_
        refine .v rfl rfl (OpL.unV rfl rfl rfl) ?_
        refine .v rfl rfl (OpL.move (.inl rfl) rfl) ?_
        refine .x rfl (unmet rfl rfl rfl (notF g4)) ?_
        refine .x rfl (unmet rfl rfl rfl (notF g4)) ?_
        refine .x rfl (unmet rfl rfl rfl (notF g4)) ?_
        refine .x rfl (unmet rfl rfl rfl (notF g4)) ?_
        refine .v rfl rfl (O.pickT (notF g4) rfl rfl rfl) ?_
        refine .v rfl rfl (OpL.move (.inr rfl) rfl) ?_
        refine .nil ?_
        exact toN (Gives.mkR [] (.c rfl (.rfl _) rfl (.c rfl (.rfl _) rfl (.c rfl (sbb (by simp only [g4, Bool.true_or, Bool.or_true, Bool.false_or, Bool.or_false, Bool.true_and, Bool.and_true, Bool.false_and, Bool.and_false, Bool.not_true, Bool.not_false, cond_true, cond_false])) rfl .n))) (.c rfl (.rfl _) rfl rfl (.c rfl (.rfl _) rfl rfl .n)) rfl rfl rfl)

noncomputable def lombardref24_Begin.f (x0 : api_Trade) (x1 : Int) : Option (api_Trade × Int) :=
  if (x0.Stage != 1) = true then
    some (x0, 8)
  else
    (lombardref02_Good.f x1).bind fun t2 =>
    if ((!t2) || (decide (x1 < x0.Start))) = true then
      some (x0, 10)
    else
      some ((⟨x0.ID, x0.Twin, x0.Member, x0.Side, x0.Basket, x0.Amount, x0.Start, x0.End, x0.Resets, 2, x0.Short⟩ : api_Trade), 0)
set_option maxRecDepth 100000 in
set_option maxHeartbeats 4000000 in
theorem lombardref24_Begin.ok {x0 : api_Trade} {x1 : Int} {r : api_Trade × Int} (h : lombardref24_Begin.f x0 x1 = some r) : Pm.Spec prog 24 [.agg [.imm (.val (.int .i64 x0.ID)), .imm (.val (.int .i64 x0.Twin)), .imm (.val (.int .i64 x0.Member)), .imm (.val (.int .i64 x0.Side)), .imm (.val (.int .i64 x0.Basket)), .imm (.val (.int .i64 x0.Amount)), .imm (.val (.int .i64 x0.Start)), .imm (.val (.int .i64 x0.End)), .imm (.row 2 (List.map api_Reset.enc x0.Resets)), .imm (.val (.int .i64 x0.Stage)), .imm (.val (.bool x0.Short))], .imm (.val (.int .i64 x1))] (.tup [.agg [.imm (.val (.int .i64 r.1.ID)), .imm (.val (.int .i64 r.1.Twin)), .imm (.val (.int .i64 r.1.Member)), .imm (.val (.int .i64 r.1.Side)), .imm (.val (.int .i64 r.1.Basket)), .imm (.val (.int .i64 r.1.Amount)), .imm (.val (.int .i64 r.1.Start)), .imm (.val (.int .i64 r.1.End)), .imm (.row 2 (List.map api_Reset.enc r.1.Resets)), .imm (.val (.int .i64 r.1.Stage)), .imm (.val (.bool r.1.Short))], .imm (.val (.int .i64 r.2))]) [none, none] := by
  unfold lombardref24_Begin.f at h
  refine Pm.Spec.of_body Try.func24 rfl (by kernel_rfl) (Nat.le_of_ble_eq_true rfl) (Nat.le_of_ble_eq_true rfl) ?_
  refine W.ghost (σ' := (mkSt [(0, some (.agg [.imm (.val (.int .i64 x0.ID)), .imm (.val (.int .i64 x0.Twin)), .imm (.val (.int .i64 x0.Member)), .imm (.val (.int .i64 x0.Side)), .imm (.val (.int .i64 x0.Basket)), .imm (.val (.int .i64 x0.Amount)), .imm (.val (.int .i64 x0.Start)), .imm (.val (.int .i64 x0.End)), .imm (.row 2 (List.map api_Reset.enc x0.Resets)), .imm (.val (.int .i64 x0.Stage)), .imm (.val (.bool x0.Short))])), (1, some (.imm (.val (.int .i64 x1))))] [] 1000)) (Gives.entry (.c rfl (.c rfl .n)) .n) ?_
  refine W.seq ?_
  refine W.pk ?_
  refine .t rfl rfl (O.box rfl rfl rfl rfl rfl) ?_
  refine .t rfl rfl (O.alloc z24 rfl) ?_
  refine .v rfl rfl (OpL.move (.inr rfl) rfl) ?_
  refine .nil ?_
  refine W.seq ?_
  refine W.seq ?_
  refine W.pk ?_
  refine .v rfl rfl (O.fld fld24_9 rfl rfl rfl) ?_
  refine .v rfl rfl (O.ld ty3 rfl rfl rfl) ?_
  refine .v rfl rfl (OpL.binI rfl rfl rfl rfl) ?_
  refine .nil ?_
  refine W.cond rfl (fun q1 => ?_) (fun q1 => ?_)
  · have h := ifT q1 h
    refine W.seq ?_
    refine W.pk ?_
    refine .v rfl rfl (O.ldN ty24 rfl rfl rfl) ?_
    refine .s rfl rfl (O.st ty24 rfl rfl rfl rfl rfl rfl rfl rfl rfl rfl (all' := [.imm (.val (.int .i64 x0.ID)), .imm (.val (.int .i64 x0.Twin)), .imm (.val (.int .i64 x0.Member)), .imm (.val (.int .i64 x0.Side)), .imm (.val (.int .i64 x0.Basket)), .imm (.val (.int .i64 x0.Amount)), .imm (.val (.int .i64 x0.Start)), .imm (.val (.int .i64 x0.End)), .imm (.row 2 (List.map api_Reset.enc x0.Resets)), .imm (.val (.int .i64 x0.Stage)), .imm (.val (.bool x0.Short))]) rfl) ?_
    refine .v rfl rfl (OpL.move (.inr rfl) rfl) ?_
    refine .nil ?_
    refine W.ret ?_
    cases h
    exact leaves (.inr rfl) rfl (.tup _ _ _ _ (cC (.agg _ _ _ _ (cC (.imm _) (cC (.imm _) (cC (.imm _) (cC (.imm _) (cC (.imm _) (cC (.imm _) (cC (.imm _) (cC (.imm _) (cC (.imm _) (cC (.imm _) (cC (.imm _) .nil)))))))))))) (cC (.imm _) .nil))) (cN (cN .nil)) rfl rfl
  · have h := ifF q1 h
    refine W.skip ?_
    refine W.seq ?_
    refine W.seq ?_
    obtain ⟨t2, b3, h⟩ := bnd1 h
    refine W.fork (mkSt [(2, some (.ptr 1000 0)), (4, some (.ptr 1001 0)), (18, some (.imm (.val (.bool ((!t2) || (decide (x1 < x0.Start)))))))] [(1000, some (.box [.imm (.val (.int .i64 x0.ID)), .imm (.val (.int .i64 x0.Twin)), .imm (.val (.int .i64 x0.Member)), .imm (.val (.int .i64 x0.Side)), .imm (.val (.int .i64 x0.Basket)), .imm (.val (.int .i64 x0.Amount)), .imm (.val (.int .i64 x0.Start)), .imm (.val (.int .i64 x0.End)), .imm (.row 2 (List.map api_Reset.enc x0.Resets)), .imm (.val (.int .i64 x0.Stage)), .imm (.val (.bool x0.Short))])), (1001, some (.box [.imm (.val (.int .i64 0)), .imm (.val (.int .i64 0)), .imm (.val (.int .i64 0)), .imm (.val (.int .i64 0)), .imm (.val (.int .i64 0)), .imm (.val (.int .i64 0)), .imm (.val (.int .i64 0)), .imm (.val (.int .i64 0)), .imm (.val (.slice none 0 0)), .imm (.val (.int .i64 0)), .imm (.val (.bool false))]))] 1002) ?_ ?_
    · refine W.cond rfl (fun q5 => ?_) (fun q5 => ?_)
      · have h := ifT q5 h
        refine W.seq ?_
        refine W.pk ?_
        refine .v rfl rfl (O.ldN ty24 rfl rfl rfl) ?_
        refine .s rfl rfl (O.st ty24 rfl rfl rfl rfl rfl rfl rfl rfl rfl rfl (all' := [.imm (.val (.int .i64 x0.ID)), .imm (.val (.int .i64 x0.Twin)), .imm (.val (.int .i64 x0.Member)), .imm (.val (.int .i64 x0.Side)), .imm (.val (.int .i64 x0.Basket)), .imm (.val (.int .i64 x0.Amount)), .imm (.val (.int .i64 x0.Start)), .imm (.val (.int .i64 x0.End)), .imm (.row 2 (List.map api_Reset.enc x0.Resets)), .imm (.val (.int .i64 x0.Stage)), .imm (.val (.bool x0.Short))]) rfl) ?_
        refine .v rfl rfl (OpL.move (.inr rfl) rfl) ?_
        refine .nil ?_
        refine W.ret ?_
        cases h
        exact leaves (.inr rfl) rfl (.tup _ _ _ _ (cC (.agg _ _ _ _ (cC (.imm _) (cC (.imm _) (cC (.imm _) (cC (.imm _) (cC (.imm _) (cC (.imm _) (cC (.imm _) (cC (.imm _) (cC (.imm _) (cC (.imm _) (cC (.imm _) .nil)))))))))))) (cC (.imm _) .nil))) (cN (cN .nil)) rfl rfl
      · have h := ifF q5 h
        refine W.skip ?_
        refine W.seq ?_
        refine W.pk ?_
        refine .v rfl rfl (O.fld fld24_9 rfl rfl rfl) ?_
        refine .s rfl rfl (O.st ty3 rfl rfl rfl rfl rfl rfl rfl rfl rfl rfl (all' := [.imm (.val (.int .i64 x0.ID)), .imm (.val (.int .i64 x0.Twin)), .imm (.val (.int .i64 x0.Member)), .imm (.val (.int .i64 x0.Side)), .imm (.val (.int .i64 x0.Basket)), .imm (.val (.int .i64 x0.Amount)), .imm (.val (.int .i64 x0.Start)), .imm (.val (.int .i64 x0.End)), .imm (.row 2 (List.map api_Reset.enc x0.Resets)), .imm (.val (.int .i64 2)), .imm (.val (.bool x0.Short))]) rfl) ?_
        refine .nil ?_
        refine W.seq ?_
        refine W.pk ?_
        refine .v rfl rfl (O.ldN ty24 rfl rfl rfl) ?_
        refine .s rfl rfl (O.st ty24 rfl rfl rfl rfl rfl rfl rfl rfl rfl rfl (all' := [.imm (.val (.int .i64 x0.ID)), .imm (.val (.int .i64 x0.Twin)), .imm (.val (.int .i64 x0.Member)), .imm (.val (.int .i64 x0.Side)), .imm (.val (.int .i64 x0.Basket)), .imm (.val (.int .i64 x0.Amount)), .imm (.val (.int .i64 x0.Start)), .imm (.val (.int .i64 x0.End)), .imm (.row 2 (List.map api_Reset.enc x0.Resets)), .imm (.val (.int .i64 2)), .imm (.val (.bool x0.Short))]) rfl) ?_
        refine .v rfl rfl (OpL.move (.inr rfl) rfl) ?_
        refine .nil ?_
        refine W.ret ?_
        cases h
        exact leaves (.inr rfl) rfl (.tup _ _ _ _ (cC (.agg _ _ _ _ (cC (.imm _) (cC (.imm _) (cC (.imm _) (cC (.imm _) (cC (.imm _) (cC (.imm _) (cC (.imm _) (cC (.imm _) (cC (.imm _) (cC (.imm _) (cC (.imm _) .nil)))))))))))) (cC (.imm _) .nil))) (cN (cN .nil)) rfl rfl
    · clear h
      rcases tf t2 with g4 | g4
      · refine W.pk ?_
        refine .v rfl rfl (OpL.move (.inl rfl) rfl) ?_
        refine .call (.imm (.val (.bool t2))) [] 0 (lombardref02_Good.ok b3) rfl rfl rfl ca44 rfl rfl (cC (.imm _) .nil) rfl rfl rfl rfl rfl ?_
        refine .v rfl rfl (OpL.unV rfl rfl rfl) ?_
        refine .v rfl rfl (OpL.move (.inl rfl) rfl) ?_
        refine .v rfl (met rfl rfl rfl (notT g4)) (OpL.move (.inl rfl) rfl) ?_
        refine .v rfl (met rfl rfl rfl (notT g4)) (O.fld fld24_6 rfl rfl rfl) ?_
        refine .v rfl (met rfl rfl rfl (notT g4)) (O.ld ty3 rfl rfl rfl) ?_
        refine .v rfl (met rfl rfl rfl (notT g4)) (OpL.binI rfl rfl rfl rfl) ?_
        refine .v rfl rfl (O.pickF (notT g4) rfl rfl rfl) ?_
        refine .nil ?_
        exact toN (Gives.mkR [] (.c rfl (.rfl _) rfl (.c rfl (.rfl _) rfl (.c rfl (sbb (by simp only [g4, Bool.true_or, Bool.or_true, Bool.false_or, Bool.or_false, Bool.true_and, Bool.and_true, Bool.false_and, Bool.and_false, Bool.not_true, Bool.not_false, cond_true, cond_false])) rfl .n))) (.c rfl (.rfl _) rfl rfl (.c rfl (.rfl _) rfl rfl .n)) rfl rfl rfl)
      · refine W.pk ?_
        refine .v rfl rfl (OpL.move (.inl rfl) rfl) ?_
        refine .call (.imm (.val (.bool t2))) [] 0 (lombardref02_Good.ok b3) rfl rfl rfl ca44 rfl rfl (cC (.imm _) .nil) rfl rfl rfl rfl rfl ?_
        refine .v rfl rfl (OpL.unV rfl rfl rfl) ?_
        refine .v rfl rfl (OpL.move (.inl rfl) rfl) ?_
        refine .x rfl (unmet rfl rfl rfl (notF g4)) ?_
        refine .x rfl (unmet rfl rfl rfl (notF g4)) ?_
        refine .x rfl (unmet rfl rfl rfl (notF g4)) ?_
        refine .x rfl (unmet rfl rfl rfl (notF g4)) ?_
        refine .v rfl rfl (O.pickT (notF g4) rfl rfl rfl) ?_
        refine .nil ?_
        exact toN (Gives.mkR [] (.c rfl (.rfl _) rfl (.c rfl (.rfl _) rfl (.c rfl (sbb (by simp only [g4, Bool.true_or, Bool.or_true, Bool.false_or, Bool.or_false, Bool.true_and, Bool.and_true, Bool.false_and, Bool.and_false, Bool.not_true, Bool.not_false, cond_true, cond_false])) rfl .n))) (.c rfl (.rfl _) rfl rfl (.c rfl (.rfl _) rfl rfl .n)) rfl rfl rfl)
end Go.Proofs.Ytknfdnlhadjbaaa
