/- Shows what functions of the program come to, each as a plain function: written by a program of the author's for this claim. -/
import Derived.Test.YtidinbjehfodoaaTy
namespace Go.Proofs.Ytidinbjehfodoaa
open Go Go.Pm
set_option linter.unusedVariables false
set_option linter.unusedSimpArgs false
noncomputable def trade_New.f  : Option (trade_Book) :=
  some (⟨[], 0, true⟩ : trade_Book)
set_option maxRecDepth 100000 in
set_option maxHeartbeats 4000000 in
theorem trade_New.ok  {r : trade_Book} (h : trade_New.f  = some r) : Pm.Spec prog 20 [] (.xbox [.xown 26 11 (List.map api_Trade.enc r.l), .imm (.val (.int .i64 r.next)), .imm (.val (.bool r.made))]) [] := by
 unfold trade_New.f at h
 refine Pm.Spec.of_body Try.func20 rfl (by kernel_rfl) (Nat.le_of_ble_eq_true rfl) (Nat.le_of_ble_eq_true rfl) ?_
 refine W.ghost (σ' := (mkSt [] [] 1000)) (Gives.entry .n .n) ?_
 refine W.seq ?_
 refine W.pk ?_
 refine .a rfl rfl rfl rfl ?_
 refine .nil ?_
 refine W.seq ?_
 refine W.pk ?_
 refine .v rfl rfl (O.build (out := [.imm (.val (.slice none 0 0)), .i 0, .b true]) bl62 rfl rfl rfl rfl (by kernel_rfl)) ?_
 refine .t rfl rfl (O.box rfl rfl rfl rfl rfl) ?_
 refine .a rfl rfl rfl rfl ?_
 refine .nil ?_
 refine W.ret ?_
 cases h
 exact leaves (.inr rfl) rfl (.ptr _ _ _ _ _ rfl (cC (.nilown _ _) (cC (.imm _) (cC (.imm _) .nil)))) .nil rfl rfl

noncomputable def lombardlaw23_short.f (x0 : lombardlaw23_Act) : Option (Bool) :=
  some ((decide ((List.length x0.X.Resets : Int) ≤ 80)) && (decide ((List.length x0.Y.Resets : Int) ≤ 80)))
set_option maxRecDepth 100000 in
set_option maxHeartbeats 4000000 in
theorem lombardlaw23_short.ok {x0 : lombardlaw23_Act} {r : Bool} (h : lombardlaw23_short.f x0 = some r) : Pm.Spec prog 21 [.agg [.imm (.val (.int .i64 x0.Kind)), .imm (.val (.int .i64 x0.Fill.Lender)), .imm (.val (.int .i64 x0.Fill.Borrower)), .imm (.val (.int .i64 x0.Fill.Basket)), .imm (.val (.int .i64 x0.Fill.Amount)), .imm (.val (.int .i64 x0.Fill.Rate)), .imm (.val (.int .i64 x0.Fill.Start)), .imm (.val (.int .i64 x0.Fill.End)), .imm (.val (.int .i64 x0.X.ID)), .imm (.val (.int .i64 x0.X.Twin)), .imm (.val (.int .i64 x0.X.Member)), .imm (.val (.int .i64 x0.X.Side)), .imm (.val (.int .i64 x0.X.Basket)), .imm (.val (.int .i64 x0.X.Amount)), .imm (.val (.int .i64 x0.X.Start)), .imm (.val (.int .i64 x0.X.End)), .imm (.row 2 (List.map api_Reset.enc x0.X.Resets)), .imm (.val (.int .i64 x0.X.Stage)), .imm (.val (.bool x0.X.Short)), .imm (.val (.int .i64 x0.Y.ID)), .imm (.val (.int .i64 x0.Y.Twin)), .imm (.val (.int .i64 x0.Y.Member)), .imm (.val (.int .i64 x0.Y.Side)), .imm (.val (.int .i64 x0.Y.Basket)), .imm (.val (.int .i64 x0.Y.Amount)), .imm (.val (.int .i64 x0.Y.Start)), .imm (.val (.int .i64 x0.Y.End)), .imm (.row 2 (List.map api_Reset.enc x0.Y.Resets)), .imm (.val (.int .i64 x0.Y.Stage)), .imm (.val (.bool x0.Y.Short)), .imm (.val (.int .i64 x0.ID))]] (.imm (.val (.bool r))) [none] := by
 unfold lombardlaw23_short.f at h
 refine Pm.Spec.of_body Try.func21 rfl (by kernel_rfl) (Nat.le_of_ble_eq_true rfl) (Nat.le_of_ble_eq_true rfl) ?_
 refine W.ghost (σ' := (mkSt [(0, some (.agg (lombardlaw23_Act.av x0)))] [] 1000)) (Gives.entry (.c rfl .n) .n) ?_
 refine W.seq ?_
 refine W.pk ?_
 refine .t rfl rfl (O.box rfl rfl rfl rfl rfl) ?_
 refine .a rfl rfl rfl rfl ?_
 refine .nil ?_
 refine W.seq ?_
 refine W.fork (mkSt [(2, some (.b ((decide ((List.length x0.X.Resets : Int) ≤ 80)) && (decide ((List.length x0.Y.Resets : Int) ≤ 80)))))] [] 1001) ?_ ?_
 ·refine W.ret ?_
  cases h
  exact leaves (.inr rfl) rfl (.imm _) (cN .nil) rfl rfl
 ·clear h
  rcases tf (decide ((List.length x0.X.Resets : Int) ≤ 80)) with g1 | g1
  ·refine W.pk ?_
   refine .v rfl rfl (O.fld fld50_2 rfl rfl rfl) ?_
   refine .v rfl rfl (O.fld fld26_8 rfl rfl rfl) ?_
   refine .v rfl rfl (O.ld (y := .imm (.row 2 (List.map api_Reset.enc x0.X.Resets))) ty24 rfl rfl rfl) ?_
   refine .v rfl rfl (O.lenR sl24 rfl rfl) ?_
   refine .v rfl rfl (OpL.binI rfl rfl rfl rfl) ?_
   refine .m rfl rfl rfl rfl ?_
   refine .v rfl (met rfl rfl rfl g1) (O.fld fld50_3 rfl rfl rfl) ?_
   refine .v rfl (met rfl rfl rfl g1) (O.fld fld26_8 rfl rfl rfl) ?_
   refine .v rfl (met rfl rfl rfl g1) (O.ld (y := .imm (.row 2 (List.map api_Reset.enc x0.Y.Resets))) ty24 rfl rfl rfl) ?_
   refine .v rfl (met rfl rfl rfl g1) (O.lenR sl24 rfl rfl) ?_
   refine .v rfl (met rfl rfl rfl g1) (OpL.binI rfl rfl rfl rfl) ?_
   refine .v rfl rfl (O.pickT g1 rfl rfl rfl) ?_
   refine .a rfl rfl rfl rfl ?_
   refine .nil ?_
   exact toN (Gives.mkR [] (.c rfl (sbb (by simp only [g1, Bool.true_or, Bool.or_true, Bool.false_or, Bool.or_false, Bool.true_and, Bool.and_true, Bool.false_and, Bool.and_false, Bool.not_true, Bool.not_false, cond_true, cond_false])) rfl .n) .n rfl rfl rfl)
  ·refine W.pk ?_
   refine .v rfl rfl (O.fld fld50_2 rfl rfl rfl) ?_
   refine .v rfl rfl (O.fld fld26_8 rfl rfl rfl) ?_
   refine .v rfl rfl (O.ld (y := .imm (.row 2 (List.map api_Reset.enc x0.X.Resets))) ty24 rfl rfl rfl) ?_
   refine .v rfl rfl (O.lenR sl24 rfl rfl) ?_
   refine .v rfl rfl (OpL.binI rfl rfl rfl rfl) ?_
   refine .m rfl rfl rfl rfl ?_
   refine .x rfl (unmet rfl rfl rfl g1) ?_
   refine .x rfl (unmet rfl rfl rfl g1) ?_
   refine .x rfl (unmet rfl rfl rfl g1) ?_
   refine .x rfl (unmet rfl rfl rfl g1) ?_
   refine .x rfl (unmet rfl rfl rfl g1) ?_
   refine .v rfl rfl (O.pickF g1 rfl rfl rfl) ?_
   refine .a rfl rfl rfl rfl ?_
   refine .nil ?_
   exact toN (Gives.mkR [] (.c rfl (sbb (by simp only [g1, Bool.true_or, Bool.or_true, Bool.false_or, Bool.or_false, Bool.true_and, Bool.and_true, Bool.false_and, Bool.and_false, Bool.not_true, Bool.not_false, cond_true, cond_false])) rfl .n) .n rfl rfl rfl)

noncomputable def lombardref23_in.f (x0 : Int) (x1 : Int) (x2 : Int) : Option (Bool) :=
  some ((decide (x0 ≥ x1)) && (decide (x0 ≤ x2)))
set_option maxRecDepth 100000 in
set_option maxHeartbeats 4000000 in
theorem lombardref23_in.ok {x0 : Int} {x1 : Int} {x2 : Int} {r : Bool} (h : lombardref23_in.f x0 x1 x2 = some r) : Pm.Spec prog 36 [.imm (.val (.int .i64 x0)), .imm (.val (.int .i64 x1)), .imm (.val (.int .i64 x2))] (.imm (.val (.bool r))) [none, none, none] := by
 unfold lombardref23_in.f at h
 refine Pm.Spec.of_body Try.func36 rfl (by kernel_rfl) (Nat.le_of_ble_eq_true rfl) (Nat.le_of_ble_eq_true rfl) ?_
 refine W.ghost (σ' := (mkSt [(0, some (.i x0)), (1, some (.i x1)), (2, some (.i x2))] [] 1000)) (Gives.entry (.c rfl (.c rfl (.c rfl .n))) .n) ?_
 refine W.seq ?_
 refine W.pk ?_
 refine .a rfl rfl rfl rfl ?_
 refine .nil ?_
 refine W.seq ?_
 refine W.fork (mkSt [(6, some (.b ((decide (x0 ≥ x1)) && (decide (x0 ≤ x2)))))] [] 1000) ?_ ?_
 ·refine W.ret ?_
  cases h
  exact leaves (.inr rfl) rfl (.imm _) (cN (cN (cN .nil))) rfl rfl
 ·clear h
  rcases tf (decide (x0 ≥ x1)) with g1 | g1
  ·refine W.pk ?_
   refine .m rfl rfl rfl rfl ?_
   refine .m rfl rfl rfl rfl ?_
   refine .v rfl rfl (OpL.binI rfl rfl rfl rfl) ?_
   refine .m rfl rfl rfl rfl ?_
   refine .m rfl (met rfl rfl rfl g1) rfl rfl ?_
   refine .m rfl (met rfl rfl rfl g1) rfl rfl ?_
   refine .v rfl (met rfl rfl rfl g1) (OpL.binI rfl rfl rfl rfl) ?_
   refine .v rfl rfl (O.pickT g1 rfl rfl rfl) ?_
   refine .a rfl rfl rfl rfl ?_
   refine .nil ?_
   exact toN (Gives.mkR [] (.c rfl (sbb (by simp only [g1, Bool.true_or, Bool.or_true, Bool.false_or, Bool.or_false, Bool.true_and, Bool.and_true, Bool.false_and, Bool.and_false, Bool.not_true, Bool.not_false, cond_true, cond_false])) rfl .n) .n rfl rfl rfl)
  ·refine W.pk ?_
   refine .m rfl rfl rfl rfl ?_
   refine .m rfl rfl rfl rfl ?_
   refine .v rfl rfl (OpL.binI rfl rfl rfl rfl) ?_
   refine .m rfl rfl rfl rfl ?_
   refine .x rfl (unmet rfl rfl rfl g1) ?_
   refine .x rfl (unmet rfl rfl rfl g1) ?_
   refine .x rfl (unmet rfl rfl rfl g1) ?_
   refine .v rfl rfl (O.pickF g1 rfl rfl rfl) ?_
   refine .a rfl rfl rfl rfl ?_
   refine .nil ?_
   exact toN (Gives.mkR [] (.c rfl (sbb (by simp only [g1, Bool.true_or, Bool.or_true, Bool.false_or, Bool.or_false, Bool.true_and, Bool.and_true, Bool.false_and, Bool.and_false, Bool.not_true, Bool.not_false, cond_true, cond_false])) rfl .n) .n rfl rfl rfl)

noncomputable def lombardref02_Good.f (x0 : Int) : Option (Bool) :=
  some ((decide (x0 ≥ 0)) && (decide (x0 ≤ 200000)))
set_option maxRecDepth 100000 in
set_option maxHeartbeats 4000000 in
theorem lombardref02_Good.ok {x0 : Int} {r : Bool} (h : lombardref02_Good.f x0 = some r) : Pm.Spec prog 50 [.imm (.val (.int .i64 x0))] (.imm (.val (.bool r))) [none] := by
 unfold lombardref02_Good.f at h
 refine Pm.Spec.of_body Try.func50 rfl (by kernel_rfl) (Nat.le_of_ble_eq_true rfl) (Nat.le_of_ble_eq_true rfl) ?_
 refine W.ghost (σ' := (mkSt [(0, some (.i x0))] [] 1000)) (Gives.entry (.c rfl .n) .n) ?_
 refine W.seq ?_
 refine W.pk ?_
 refine .a rfl rfl rfl rfl ?_
 refine .nil ?_
 refine W.seq ?_
 refine W.fork (mkSt [(2, some (.b ((decide (x0 ≥ 0)) && (decide (x0 ≤ 200000)))))] [] 1000) ?_ ?_
 ·refine W.ret ?_
  cases h
  exact leaves (.inr rfl) rfl (.imm _) (cN .nil) rfl rfl
 ·clear h
  rcases tf (decide (x0 ≥ 0)) with g1 | g1
  ·refine W.pk ?_
   refine .m rfl rfl rfl rfl ?_
   refine .v rfl rfl (OpL.binI rfl rfl rfl rfl) ?_
   refine .m rfl rfl rfl rfl ?_
   refine .m rfl (met rfl rfl rfl g1) rfl rfl ?_
   refine .v rfl (met rfl rfl rfl g1) (OpL.binI rfl rfl rfl rfl) ?_
   refine .v rfl rfl (O.pickT g1 rfl rfl rfl) ?_
   refine .a rfl rfl rfl rfl ?_
   refine .nil ?_
   exact toN (Gives.mkR [] (.c rfl (sbb (by simp only [g1, Bool.true_or, Bool.or_true, Bool.false_or, Bool.or_false, Bool.true_and, Bool.and_true, Bool.false_and, Bool.and_false, Bool.not_true, Bool.not_false, cond_true, cond_false])) rfl .n) .n rfl rfl rfl)
  ·refine W.pk ?_
   refine .m rfl rfl rfl rfl ?_
   refine .v rfl rfl (OpL.binI rfl rfl rfl rfl) ?_
   refine .m rfl rfl rfl rfl ?_
   refine .x rfl (unmet rfl rfl rfl g1) ?_
   refine .x rfl (unmet rfl rfl rfl g1) ?_
   refine .v rfl rfl (O.pickF g1 rfl rfl rfl) ?_
   refine .a rfl rfl rfl rfl ?_
   refine .nil ?_
   exact toN (Gives.mkR [] (.c rfl (sbb (by simp only [g1, Bool.true_or, Bool.or_true, Bool.false_or, Bool.or_false, Bool.true_and, Bool.and_true, Bool.false_and, Bool.and_false, Bool.not_true, Bool.not_false, cond_true, cond_false])) rfl .n) .n rfl rfl rfl)

noncomputable def lombardref23_Terms.f (x0 : api_Fill) : Option (Int) :=
  (lombardref23_in.f x0.Basket 1 64).bind fun t1 =>
  (if (!t1) = false then lombardref23_in.f x0.Amount 1 1125899906842624 else some default).bind fun t3 =>
  (if ((!t1) || (!t3)) = false then lombardref23_in.f x0.Rate (-1000000) 1000000 else some default).bind fun t5 =>
  if (((!t1) || (!t3)) || (!t5)) = true then
    some 1
  else
    (lombardref02_Good.f x0.Start).bind fun t10 =>
    (if (!t10) = false ∧ (x0.End != 0) = true then lombardref02_Good.f x0.End else some default).bind fun t12 =>
    (if (!t10) = false ∧ (x0.End != 0) = true ∧ (!t12) = false then lombardref23_in.f (IntKind.wrap .i64 (x0.End - x0.Start)) 1 3660 else some default).bind fun t14 =>
    if ((!t10) || ((x0.End != 0) && ((!t12) || (!t14)))) = true then
      some 10
    else
      some 0
set_option maxRecDepth 100000 in
set_option maxHeartbeats 4000000 in
theorem lombardref23_Terms.ok {x0 : api_Fill} {r : Int} (h : lombardref23_Terms.f x0 = some r) : Pm.Spec prog 37 [.agg [.imm (.val (.int .i64 x0.Lender)), .imm (.val (.int .i64 x0.Borrower)), .imm (.val (.int .i64 x0.Basket)), .imm (.val (.int .i64 x0.Amount)), .imm (.val (.int .i64 x0.Rate)), .imm (.val (.int .i64 x0.Start)), .imm (.val (.int .i64 x0.End))]] (.imm (.val (.int .i64 r))) [none] := by
 unfold lombardref23_Terms.f at h
 refine Pm.Spec.of_body Try.func37 rfl (by kernel_rfl) (Nat.le_of_ble_eq_true rfl) (Nat.le_of_ble_eq_true rfl) ?_
 refine W.ghost (σ' := (mkSt [(0, some (.agg (api_Fill.av x0)))] [] 1000)) (Gives.entry (.c rfl .n) .n) ?_
 refine W.seq ?_
 refine W.pk ?_
 refine .t rfl rfl (O.box rfl rfl rfl rfl rfl) ?_
 refine .a rfl rfl rfl rfl ?_
 refine .nil ?_
 refine W.seq ?_
 refine W.seq ?_
 obtain ⟨t1, b2, h⟩ := bnd1 h
 obtain ⟨t3, b4, h⟩ := bnd1 h
 obtain ⟨t5, b6, h⟩ := bnd1 h
 refine W.fork (mkSt [(1, some (.ptr 1000 0)), (18, some (.b (((!t1) || (!t3)) || (!t5))))] [(1000, some (.box [.i x0.Lender, .i x0.Borrower, .i x0.Basket, .i x0.Amount, .i x0.Rate, .i x0.Start, .i x0.End]))] 1001) ?_ ?_
 ·refine W.cond rfl (fun q9 => ?_) (fun q9 => ?_)
  ·have h := ifT q9 h
   refine W.seq ?_
   refine W.pk ?_
   refine .a rfl rfl rfl rfl ?_
   refine .nil ?_
   refine W.ret ?_
   cases h
   exact leaves (.inr rfl) rfl (.imm _) (cN .nil) rfl rfl
  ·have h := ifF q9 h
   refine W.skip ?_
   refine W.seq ?_
   refine W.seq ?_
   obtain ⟨t10, b11, h⟩ := bnd1 h
   obtain ⟨t12, b13, h⟩ := bnd1 h
   obtain ⟨t14, b15, h⟩ := bnd1 h
   refine W.fork (mkSt [(42, some (.b ((!t10) || ((x0.End != 0) && ((!t12) || (!t14))))))] [] 1001) ?_ ?_
   ·refine W.cond rfl (fun q19 => ?_) (fun q19 => ?_)
    ·have h := ifT q19 h
     refine W.seq ?_
     refine W.pk ?_
     refine .a rfl rfl rfl rfl ?_
     refine .nil ?_
     refine W.ret ?_
     cases h
     exact leaves (.inr rfl) rfl (.imm _) (cN .nil) rfl rfl
    ·have h := ifF q19 h
     refine W.skip ?_
     refine W.seq ?_
     refine W.pk ?_
     refine .a rfl rfl rfl rfl ?_
     refine .nil ?_
     refine W.ret ?_
     cases h
     exact leaves (.inr rfl) rfl (.imm _) (cN .nil) rfl rfl
   ·clear h
    rcases tf t10 with g16 | g16
    ·rcases tf (x0.End != 0) with g17 | g17
     ·rcases tf t12 with g18 | g18
      ·refine W.pk ?_
       refine .v rfl rfl (O.fld fld23_5 rfl rfl rfl) ?_
       refine .v rfl rfl (O.ld (y := .i x0.Start) ty3 rfl rfl rfl) ?_
       refine .call (.b t10) [] 0 (lombardref02_Good.ok b11) rfl rfl rfl ca50 rfl rfl (cC (.imm _) .nil) rfl rfl rfl rfl rfl ?_
       refine .v rfl rfl (OpL.unV rfl rfl rfl) ?_
       refine .m rfl rfl rfl rfl ?_
       refine .v rfl (met rfl rfl rfl (notT g16)) (O.fld fld23_6 rfl rfl rfl) ?_
       refine .v rfl (met rfl rfl rfl (notT g16)) (O.ld (y := .i x0.End) ty3 rfl rfl rfl) ?_
       refine .v rfl (met rfl rfl rfl (notT g16)) (OpL.binI rfl rfl rfl rfl) ?_
       refine .m rfl (met rfl rfl rfl (notT g16)) rfl rfl ?_
       refine .v rfl (met rfl rfl rfl g17) (O.fld fld23_6 rfl rfl rfl) ?_
       refine .v rfl (met rfl rfl rfl g17) (O.ld (y := .i x0.End) ty3 rfl rfl rfl) ?_
       refine .call (.b t12) [] 0 (lombardref02_Good.ok ((if_pos ⟨(by first | (simp only [g16, g17, g18, Bool.true_or, Bool.or_true, Bool.false_or, Bool.or_false, Bool.true_and, Bool.and_true, Bool.false_and, Bool.and_false, Bool.not_true, Bool.not_false, cond_true, cond_false]; done) | (repeat (first | rw [g16] | rw [g17] | rw [g18])) <;> simp only [Bool.true_or, Bool.or_true, Bool.false_or, Bool.or_false, Bool.true_and, Bool.and_true, Bool.false_and, Bool.and_false, Bool.not_true, Bool.not_false, cond_true, cond_false]), (by first | (simp only [g16, g17, g18, Bool.true_or, Bool.or_true, Bool.false_or, Bool.or_false, Bool.true_and, Bool.and_true, Bool.false_and, Bool.and_false, Bool.not_true, Bool.not_false, cond_true, cond_false]; done) | (repeat (first | rw [g16] | rw [g17] | rw [g18])) <;> simp only [Bool.true_or, Bool.or_true, Bool.false_or, Bool.or_false, Bool.true_and, Bool.and_true, Bool.false_and, Bool.and_false, Bool.not_true, Bool.not_false, cond_true, cond_false])⟩).symm.trans b13)) rfl (met rfl rfl rfl g17) rfl ca50 rfl rfl (cC (.imm _) .nil) rfl rfl rfl rfl rfl ?_
       refine .v rfl (met rfl rfl rfl g17) (OpL.unV rfl rfl rfl) ?_
       refine .m rfl (met rfl rfl rfl g17) rfl rfl ?_
       refine .v rfl (met rfl rfl rfl (notT g18)) (O.fld fld23_6 rfl rfl rfl) ?_
       refine .v rfl (met rfl rfl rfl (notT g18)) (O.ld (y := .i x0.End) ty3 rfl rfl rfl) ?_
       refine .v rfl (met rfl rfl rfl (notT g18)) (O.fld fld23_5 rfl rfl rfl) ?_
       refine .v rfl (met rfl rfl rfl (notT g18)) (O.ld (y := .i x0.Start) ty3 rfl rfl rfl) ?_
       refine .v rfl (met rfl rfl rfl (notT g18)) (OpL.binI rfl rfl rfl rfl) ?_
       refine .call (.b t14) [] 0 (lombardref23_in.ok ((if_pos ⟨(by first | (simp only [g16, g17, g18, Bool.true_or, Bool.or_true, Bool.false_or, Bool.or_false, Bool.true_and, Bool.and_true, Bool.false_and, Bool.and_false, Bool.not_true, Bool.not_false, cond_true, cond_false]; done) | (repeat (first | rw [g16] | rw [g17] | rw [g18])) <;> simp only [Bool.true_or, Bool.or_true, Bool.false_or, Bool.or_false, Bool.true_and, Bool.and_true, Bool.false_and, Bool.and_false, Bool.not_true, Bool.not_false, cond_true, cond_false]), (by first | (simp only [g16, g17, g18, Bool.true_or, Bool.or_true, Bool.false_or, Bool.or_false, Bool.true_and, Bool.and_true, Bool.false_and, Bool.and_false, Bool.not_true, Bool.not_false, cond_true, cond_false]; done) | (repeat (first | rw [g16] | rw [g17] | rw [g18])) <;> simp only [Bool.true_or, Bool.or_true, Bool.false_or, Bool.or_false, Bool.true_and, Bool.and_true, Bool.false_and, Bool.and_false, Bool.not_true, Bool.not_false, cond_true, cond_false]), (by first | (simp only [g16, g17, g18, Bool.true_or, Bool.or_true, Bool.false_or, Bool.or_false, Bool.true_and, Bool.and_true, Bool.false_and, Bool.and_false, Bool.not_true, Bool.not_false, cond_true, cond_false]; done) | (repeat (first | rw [g16] | rw [g17] | rw [g18])) <;> simp only [Bool.true_or, Bool.or_true, Bool.false_or, Bool.or_false, Bool.true_and, Bool.and_true, Bool.false_and, Bool.and_false, Bool.not_true, Bool.not_false, cond_true, cond_false])⟩).symm.trans b15)) rfl (met rfl rfl rfl (notT g18)) rfl ca36 rfl rfl (cC (.imm _) (cC (.imm _) (cC (.imm _) .nil))) rfl rfl rfl rfl rfl ?_
       refine .v rfl (met rfl rfl rfl (notT g18)) (OpL.unV rfl rfl rfl) ?_
       refine .v rfl (met rfl rfl rfl g17) (O.pickF (notT g18) rfl rfl rfl) ?_
       refine .v rfl (met rfl rfl rfl (notT g16)) (O.pickT g17 rfl rfl rfl) ?_
       refine .v rfl rfl (O.pickF (notT g16) rfl rfl rfl) ?_
       refine .nil ?_
       exact toN (Gives.mkR [] (.c rfl (sbb (by first | (simp only [g16, g17, g18, Bool.true_or, Bool.or_true, Bool.false_or, Bool.or_false, Bool.true_and, Bool.and_true, Bool.false_and, Bool.and_false, Bool.not_true, Bool.not_false, cond_true, cond_false]; done) | (repeat (first | rw [g16] | rw [g17] | rw [g18])) <;> simp only [Bool.true_or, Bool.or_true, Bool.false_or, Bool.or_false, Bool.true_and, Bool.and_true, Bool.false_and, Bool.and_false, Bool.not_true, Bool.not_false, cond_true, cond_false])) rfl .n) .n rfl rfl rfl)
      ·refine W.pk ?_
       refine .v rfl rfl (O.fld fld23_5 rfl rfl rfl) ?_
       refine .v rfl rfl (O.ld (y := .i x0.Start) ty3 rfl rfl rfl) ?_
       refine .call (.b t10) [] 0 (lombardref02_Good.ok b11) rfl rfl rfl ca50 rfl rfl (cC (.imm _) .nil) rfl rfl rfl rfl rfl ?_
       refine .v rfl rfl (OpL.unV rfl rfl rfl) ?_
       refine .m rfl rfl rfl rfl ?_
       refine .v rfl (met rfl rfl rfl (notT g16)) (O.fld fld23_6 rfl rfl rfl) ?_
       refine .v rfl (met rfl rfl rfl (notT g16)) (O.ld (y := .i x0.End) ty3 rfl rfl rfl) ?_
       refine .v rfl (met rfl rfl rfl (notT g16)) (OpL.binI rfl rfl rfl rfl) ?_
       refine .m rfl (met rfl rfl rfl (notT g16)) rfl rfl ?_
       refine .v rfl (met rfl rfl rfl g17) (O.fld fld23_6 rfl rfl rfl) ?_
       refine .v rfl (met rfl rfl rfl g17) (O.ld (y := .i x0.End) ty3 rfl rfl rfl) ?_
       refine .call (.b t12) [] 0 (lombardref02_Good.ok ((if_pos ⟨(by first | (simp only [g16, g17, g18, Bool.true_or, Bool.or_true, Bool.false_or, Bool.or_false, Bool.true_and, Bool.and_true, Bool.false_and, Bool.and_false, Bool.not_true, Bool.not_false, cond_true, cond_false]; done) | (repeat (first | rw [g16] | rw [g17] | rw [g18])) <;> simp only [Bool.true_or, Bool.or_true, Bool.false_or, Bool.or_false, Bool.true_and, Bool.and_true, Bool.false_and, Bool.and_false, Bool.not_true, Bool.not_false, cond_true, cond_false]), (by first | (simp only [g16, g17, g18, Bool.true_or, Bool.or_true, Bool.false_or, Bool.or_false, Bool.true_and, Bool.and_true, Bool.false_and, Bool.and_false, Bool.not_true, Bool.not_false, cond_true, cond_false]; done) | (repeat (first | rw [g16] | rw [g17] | rw [g18])) <;> simp only [Bool.true_or, Bool.or_true, Bool.false_or, Bool.or_false, Bool.true_and, Bool.and_true, Bool.false_and, Bool.and_false, Bool.not_true, Bool.not_false, cond_true, cond_false])⟩).symm.trans b13)) rfl (met rfl rfl rfl g17) rfl ca50 rfl rfl (cC (.imm _) .nil) rfl rfl rfl rfl rfl ?_
       refine .v rfl (met rfl rfl rfl g17) (OpL.unV rfl rfl rfl) ?_
       refine .m rfl (met rfl rfl rfl g17) rfl rfl ?_
       refine .x rfl (unmet rfl rfl rfl (notF g18)) ?_
       refine .x rfl (unmet rfl rfl rfl (notF g18)) ?_
       refine .x rfl (unmet rfl rfl rfl (notF g18)) ?_
       refine .x rfl (unmet rfl rfl rfl (notF g18)) ?_
       refine .x rfl (unmet rfl rfl rfl (notF g18)) ?_
       refine .x rfl (unmet rfl rfl rfl (notF g18)) ?_
       refine .x rfl (unmet rfl rfl rfl (notF g18)) ?_
       refine .v rfl (met rfl rfl rfl g17) (O.pickT (notF g18) rfl rfl rfl) ?_
       refine .v rfl (met rfl rfl rfl (notT g16)) (O.pickT g17 rfl rfl rfl) ?_
       refine .v rfl rfl (O.pickF (notT g16) rfl rfl rfl) ?_
       refine .nil ?_
       exact toN (Gives.mkR [] (.c rfl (sbb (by first | (simp only [g16, g17, g18, Bool.true_or, Bool.or_true, Bool.false_or, Bool.or_false, Bool.true_and, Bool.and_true, Bool.false_and, Bool.and_false, Bool.not_true, Bool.not_false, cond_true, cond_false]; done) | (repeat (first | rw [g16] | rw [g17] | rw [g18])) <;> simp only [Bool.true_or, Bool.or_true, Bool.false_or, Bool.or_false, Bool.true_and, Bool.and_true, Bool.false_and, Bool.and_false, Bool.not_true, Bool.not_false, cond_true, cond_false])) rfl .n) .n rfl rfl rfl)
     ·refine W.pk ?_
      refine .v rfl rfl (O.fld fld23_5 rfl rfl rfl) ?_
      refine .v rfl rfl (O.ld (y := .i x0.Start) ty3 rfl rfl rfl) ?_
      refine .call (.b t10) [] 0 (lombardref02_Good.ok b11) rfl rfl rfl ca50 rfl rfl (cC (.imm _) .nil) rfl rfl rfl rfl rfl ?_
      refine .v rfl rfl (OpL.unV rfl rfl rfl) ?_
      refine .m rfl rfl rfl rfl ?_
      refine .v rfl (met rfl rfl rfl (notT g16)) (O.fld fld23_6 rfl rfl rfl) ?_
      refine .v rfl (met rfl rfl rfl (notT g16)) (O.ld (y := .i x0.End) ty3 rfl rfl rfl) ?_
      refine .v rfl (met rfl rfl rfl (notT g16)) (OpL.binI rfl rfl rfl rfl) ?_
      refine .m rfl (met rfl rfl rfl (notT g16)) rfl rfl ?_
      refine .x rfl (unmet rfl rfl rfl g17) ?_
      refine .x rfl (unmet rfl rfl rfl g17) ?_
      refine .x rfl (unmet rfl rfl rfl g17) ?_
      refine .x rfl (unmet rfl rfl rfl g17) ?_
      refine .x rfl (unmet rfl rfl rfl g17) ?_
      refine .x rfl (unmetU rfl rfl rfl) ?_
      refine .x rfl (unmetU rfl rfl rfl) ?_
      refine .x rfl (unmetU rfl rfl rfl) ?_
      refine .x rfl (unmetU rfl rfl rfl) ?_
      refine .x rfl (unmetU rfl rfl rfl) ?_
      refine .x rfl (unmetU rfl rfl rfl) ?_
      refine .x rfl (unmetU rfl rfl rfl) ?_
      refine .x rfl (unmet rfl rfl rfl g17) ?_
      refine .v rfl (met rfl rfl rfl (notT g16)) (O.pickF g17 rfl rfl rfl) ?_
      refine .v rfl rfl (O.pickF (notT g16) rfl rfl rfl) ?_
      refine .nil ?_
      exact toN (Gives.mkR [] (.c rfl (sbb (by first | (simp only [g16, g17, Bool.true_or, Bool.or_true, Bool.false_or, Bool.or_false, Bool.true_and, Bool.and_true, Bool.false_and, Bool.and_false, Bool.not_true, Bool.not_false, cond_true, cond_false]; done) | (repeat (first | rw [g16] | rw [g17])) <;> simp only [Bool.true_or, Bool.or_true, Bool.false_or, Bool.or_false, Bool.true_and, Bool.and_true, Bool.false_and, Bool.and_false, Bool.not_true, Bool.not_false, cond_true, cond_false])) rfl .n) .n rfl rfl rfl)
    ·refine W.pk ?_
     refine .v rfl rfl (O.fld fld23_5 rfl rfl rfl) ?_
     refine .v rfl rfl (O.ld (y := .i x0.Start) ty3 rfl rfl rfl) ?_
     refine .call (.b t10) [] 0 (lombardref02_Good.ok b11) rfl rfl rfl ca50 rfl rfl (cC (.imm _) .nil) rfl rfl rfl rfl rfl ?_
     refine .v rfl rfl (OpL.unV rfl rfl rfl) ?_
     refine .m rfl rfl rfl rfl ?_
     refine .x rfl (unmet rfl rfl rfl (notF g16)) ?_
     refine .x rfl (unmet rfl rfl rfl (notF g16)) ?_
     refine .x rfl (unmet rfl rfl rfl (notF g16)) ?_
     refine .x rfl (unmet rfl rfl rfl (notF g16)) ?_
     refine .x rfl (unmetU rfl rfl rfl) ?_
     refine .x rfl (unmetU rfl rfl rfl) ?_
     refine .x rfl (unmetU rfl rfl rfl) ?_
     refine .x rfl (unmetU rfl rfl rfl) ?_
     refine .x rfl (unmetU rfl rfl rfl) ?_
     refine .x rfl (unmetU rfl rfl rfl) ?_
     refine .x rfl (unmetU rfl rfl rfl) ?_
     refine .x rfl (unmetU rfl rfl rfl) ?_
     refine .x rfl (unmetU rfl rfl rfl) ?_
     refine .x rfl (unmetU rfl rfl rfl) ?_
     refine .x rfl (unmetU rfl rfl rfl) ?_
     refine .x rfl (unmetU rfl rfl rfl) ?_
     refine .x rfl (unmetU rfl rfl rfl) ?_
     refine .x rfl (unmet rfl rfl rfl (notF g16)) ?_
     refine .v rfl rfl (O.pickT (notF g16) rfl rfl rfl) ?_
     refine .nil ?_
     exact toN (Gives.mkR [] (.c rfl (sbb (by simp only [g16, Bool.true_or, Bool.or_true, Bool.false_or, Bool.or_false, Bool.true_and, Bool.and_true, Bool.false_and, Bool.and_false, Bool.not_true, Bool.not_false, cond_true, cond_false])) rfl .n) .n rfl rfl rfl)
 ·clear h
  rcases tf t1 with g7 | g7
  ·rcases tf t3 with g8 | g8
   ·refine W.pk ?_
    refine .v rfl rfl (O.fld fld23_2 rfl rfl rfl) ?_
    refine .v rfl rfl (O.ld (y := .i x0.Basket) ty3 rfl rfl rfl) ?_
    refine .call (.b t1) [] 0 (lombardref23_in.ok b2) rfl rfl rfl ca36 rfl rfl (cC (.imm _) (cC (.imm _) (cC (.imm _) .nil))) rfl rfl rfl rfl rfl ?_
    refine .v rfl rfl (OpL.unV rfl rfl rfl) ?_
    refine .m rfl rfl rfl rfl ?_
    refine .v rfl (met rfl rfl rfl (notT g7)) (O.fld fld23_3 rfl rfl rfl) ?_
    refine .v rfl (met rfl rfl rfl (notT g7)) (O.ld (y := .i x0.Amount) ty3 rfl rfl rfl) ?_
    refine .call (.b t3) [] 0 (lombardref23_in.ok ((if_pos (by first | (simp only [g7, g8, Bool.true_or, Bool.or_true, Bool.false_or, Bool.or_false, Bool.true_and, Bool.and_true, Bool.false_and, Bool.and_false, Bool.not_true, Bool.not_false, cond_true, cond_false]; done) | (repeat (first | rw [g7] | rw [g8])) <;> simp only [Bool.true_or, Bool.or_true, Bool.false_or, Bool.or_false, Bool.true_and, Bool.and_true, Bool.false_and, Bool.and_false, Bool.not_true, Bool.not_false, cond_true, cond_false])).symm.trans b4)) rfl (met rfl rfl rfl (notT g7)) rfl ca36 rfl rfl (cC (.imm _) (cC (.imm _) (cC (.imm _) .nil))) rfl rfl rfl rfl rfl ?_
    refine .v rfl (met rfl rfl rfl (notT g7)) (OpL.unV rfl rfl rfl) ?_
    refine .v rfl rfl (O.pickF (notT g7) rfl rfl rfl) ?_
    refine .m rfl rfl rfl rfl ?_
    refine .v rfl (met rfl rfl rfl (notT g8)) (O.fld fld23_4 rfl rfl rfl) ?_
    refine .v rfl (met rfl rfl rfl (notT g8)) (O.ld (y := .i x0.Rate) ty3 rfl rfl rfl) ?_
    refine .call (.b t5) [] 0 (lombardref23_in.ok ((if_pos (by first | (simp only [g7, g8, Bool.true_or, Bool.or_true, Bool.false_or, Bool.or_false, Bool.true_and, Bool.and_true, Bool.false_and, Bool.and_false, Bool.not_true, Bool.not_false, cond_true, cond_false]; done) | (repeat (first | rw [g7] | rw [g8])) <;> simp only [Bool.true_or, Bool.or_true, Bool.false_or, Bool.or_false, Bool.true_and, Bool.and_true, Bool.false_and, Bool.and_false, Bool.not_true, Bool.not_false, cond_true, cond_false])).symm.trans b6)) rfl (met rfl rfl rfl (notT g8)) rfl ca36 rfl rfl (cC (.imm _) (cC (.imm _) (cC (.imm _) .nil))) rfl rfl rfl rfl rfl ?_
    refine .v rfl (met rfl rfl rfl (notT g8)) (OpL.unV rfl rfl rfl) ?_
    refine .v rfl rfl (O.pickF (notT g8) rfl rfl rfl) ?_
    refine .nil ?_
    exact toN (Gives.mkR [] (.r rfl rfl (.c rfl (sbb (by first | (simp only [g7, g8, Bool.true_or, Bool.or_true, Bool.false_or, Bool.or_false, Bool.true_and, Bool.and_true, Bool.false_and, Bool.and_false, Bool.not_true, Bool.not_false, cond_true, cond_false]; done) | (repeat (first | rw [g7] | rw [g8])) <;> simp only [Bool.true_or, Bool.or_true, Bool.false_or, Bool.or_false, Bool.true_and, Bool.and_true, Bool.false_and, Bool.and_false, Bool.not_true, Bool.not_false, cond_true, cond_false])) rfl .n)) (.r rfl rfl rfl .n) rfl rfl rfl)
   ·refine W.pk ?_
    refine .v rfl rfl (O.fld fld23_2 rfl rfl rfl) ?_
    refine .v rfl rfl (O.ld (y := .i x0.Basket) ty3 rfl rfl rfl) ?_
    refine .call (.b t1) [] 0 (lombardref23_in.ok b2) rfl rfl rfl ca36 rfl rfl (cC (.imm _) (cC (.imm _) (cC (.imm _) .nil))) rfl rfl rfl rfl rfl ?_
    refine .v rfl rfl (OpL.unV rfl rfl rfl) ?_
    refine .m rfl rfl rfl rfl ?_
    refine .v rfl (met rfl rfl rfl (notT g7)) (O.fld fld23_3 rfl rfl rfl) ?_
    refine .v rfl (met rfl rfl rfl (notT g7)) (O.ld (y := .i x0.Amount) ty3 rfl rfl rfl) ?_
    refine .call (.b t3) [] 0 (lombardref23_in.ok ((if_pos (by first | (simp only [g7, g8, Bool.true_or, Bool.or_true, Bool.false_or, Bool.or_false, Bool.true_and, Bool.and_true, Bool.false_and, Bool.and_false, Bool.not_true, Bool.not_false, cond_true, cond_false]; done) | (repeat (first | rw [g7] | rw [g8])) <;> simp only [Bool.true_or, Bool.or_true, Bool.false_or, Bool.or_false, Bool.true_and, Bool.and_true, Bool.false_and, Bool.and_false, Bool.not_true, Bool.not_false, cond_true, cond_false])).symm.trans b4)) rfl (met rfl rfl rfl (notT g7)) rfl ca36 rfl rfl (cC (.imm _) (cC (.imm _) (cC (.imm _) .nil))) rfl rfl rfl rfl rfl ?_
    refine .v rfl (met rfl rfl rfl (notT g7)) (OpL.unV rfl rfl rfl) ?_
    refine .v rfl rfl (O.pickF (notT g7) rfl rfl rfl) ?_
    refine .m rfl rfl rfl rfl ?_
    refine .x rfl (unmet rfl rfl rfl (notF g8)) ?_
    refine .x rfl (unmet rfl rfl rfl (notF g8)) ?_
    refine .x rfl (unmet rfl rfl rfl (notF g8)) ?_
    refine .x rfl (unmet rfl rfl rfl (notF g8)) ?_
    refine .v rfl rfl (O.pickT (notF g8) rfl rfl rfl) ?_
    refine .nil ?_
    exact toN (Gives.mkR [] (.r rfl rfl (.c rfl (sbb (by first | (simp only [g7, g8, Bool.true_or, Bool.or_true, Bool.false_or, Bool.or_false, Bool.true_and, Bool.and_true, Bool.false_and, Bool.and_false, Bool.not_true, Bool.not_false, cond_true, cond_false]; done) | (repeat (first | rw [g7] | rw [g8])) <;> simp only [Bool.true_or, Bool.or_true, Bool.false_or, Bool.or_false, Bool.true_and, Bool.and_true, Bool.false_and, Bool.and_false, Bool.not_true, Bool.not_false, cond_true, cond_false])) rfl .n)) (.r rfl rfl rfl .n) rfl rfl rfl)
  ·refine W.pk ?_
   refine .v rfl rfl (O.fld fld23_2 rfl rfl rfl) ?_
   refine .v rfl rfl (O.ld (y := .i x0.Basket) ty3 rfl rfl rfl) ?_
   refine .call (.b t1) [] 0 (lombardref23_in.ok b2) rfl rfl rfl ca36 rfl rfl (cC (.imm _) (cC (.imm _) (cC (.imm _) .nil))) rfl rfl rfl rfl rfl ?_
   refine .v rfl rfl (OpL.unV rfl rfl rfl) ?_
   refine .m rfl rfl rfl rfl ?_
   refine .x rfl (unmet rfl rfl rfl (notF g7)) ?_
   refine .x rfl (unmet rfl rfl rfl (notF g7)) ?_
   refine .x rfl (unmet rfl rfl rfl (notF g7)) ?_
   refine .x rfl (unmet rfl rfl rfl (notF g7)) ?_
   refine .v rfl rfl (O.pickT (notF g7) rfl rfl rfl) ?_
   refine .m rfl rfl rfl rfl ?_
   refine .x rfl (unmet rfl rfl rfl rfl) ?_
   refine .x rfl (unmet rfl rfl rfl rfl) ?_
   refine .x rfl (unmet rfl rfl rfl rfl) ?_
   refine .x rfl (unmet rfl rfl rfl rfl) ?_
   refine .v rfl rfl (O.pickT rfl rfl rfl rfl) ?_
   refine .nil ?_
   exact toN (Gives.mkR [] (.r rfl rfl (.c rfl (sbb (by simp only [g7, Bool.true_or, Bool.or_true, Bool.false_or, Bool.or_false, Bool.true_and, Bool.and_true, Bool.false_and, Bool.and_false, Bool.not_true, Bool.not_false, cond_true, cond_false])) rfl .n)) (.r rfl rfl rfl .n) rfl rfl rfl)

noncomputable def lombardref23_Fill.f (x0 : api_Fill) : Option (Int) :=
  (lombardref23_in.f x0.Lender 1 32).bind fun t1 =>
  (if (!t1) = false then lombardref23_in.f x0.Borrower 1 32 else some default).bind fun t3 =>
  if ((!t1) || (!t3)) = true then
    some 22
  else
    if (x0.Lender == x0.Borrower) = true then
      some 32
    else
      (lombardref23_Terms.f x0).bind fun t8 =>
      some t8
set_option maxRecDepth 100000 in
set_option maxHeartbeats 4000000 in
theorem lombardref23_Fill.ok {x0 : api_Fill} {r : Int} (h : lombardref23_Fill.f x0 = some r) : Pm.Spec prog 10 [.agg [.imm (.val (.int .i64 x0.Lender)), .imm (.val (.int .i64 x0.Borrower)), .imm (.val (.int .i64 x0.Basket)), .imm (.val (.int .i64 x0.Amount)), .imm (.val (.int .i64 x0.Rate)), .imm (.val (.int .i64 x0.Start)), .imm (.val (.int .i64 x0.End))]] (.imm (.val (.int .i64 r))) [none] := by
 unfold lombardref23_Fill.f at h
 refine Pm.Spec.of_body Try.func10 rfl (by kernel_rfl) (Nat.le_of_ble_eq_true rfl) (Nat.le_of_ble_eq_true rfl) ?_
 refine W.ghost (σ' := (mkSt [(0, some (.agg (api_Fill.av x0)))] [] 1000)) (Gives.entry (.c rfl .n) .n) ?_
 refine W.seq ?_
 refine W.pk ?_
 refine .t rfl rfl (O.box rfl rfl rfl rfl rfl) ?_
 refine .a rfl rfl rfl rfl ?_
 refine .nil ?_
 refine W.seq ?_
 refine W.seq ?_
 obtain ⟨t1, b2, h⟩ := bnd1 h
 obtain ⟨t3, b4, h⟩ := bnd1 h
 refine W.fork (mkSt [(1, some (.ptr 1000 0)), (12, some (.b ((!t1) || (!t3))))] [(1000, some (.box [.i x0.Lender, .i x0.Borrower, .i x0.Basket, .i x0.Amount, .i x0.Rate, .i x0.Start, .i x0.End]))] 1001) ?_ ?_
 ·refine W.cond rfl (fun q6 => ?_) (fun q6 => ?_)
  ·have h := ifT q6 h
   refine W.seq ?_
   refine W.pk ?_
   refine .a rfl rfl rfl rfl ?_
   refine .nil ?_
   refine W.ret ?_
   cases h
   exact leaves (.inr rfl) rfl (.imm _) (cN .nil) rfl rfl
  ·have h := ifF q6 h
   refine W.skip ?_
   refine W.seq ?_
   refine W.seq ?_
   refine W.pk ?_
   refine .v rfl rfl (O.fld fld23_0 rfl rfl rfl) ?_
   refine .v rfl rfl (O.ld (y := .i x0.Lender) ty3 rfl rfl rfl) ?_
   refine .v rfl rfl (O.fld fld23_1 rfl rfl rfl) ?_
   refine .v rfl rfl (O.ld (y := .i x0.Borrower) ty3 rfl rfl rfl) ?_
   refine .v rfl rfl (OpL.binI rfl rfl rfl rfl) ?_
   refine .nil ?_
   refine W.cond rfl (fun q7 => ?_) (fun q7 => ?_)
   ·have h := ifT q7 h
    refine W.seq ?_
    refine W.pk ?_
    refine .a rfl rfl rfl rfl ?_
    refine .nil ?_
    refine W.ret ?_
    cases h
    exact leaves (.inr rfl) rfl (.imm _) (cN .nil) rfl rfl
   ·have h := ifF q7 h
    refine W.skip ?_
    refine W.seq ?_
    obtain ⟨t8, b9, h⟩ := bnd1 h
    refine W.pk ?_
    refine .v rfl rfl (O.ldN ty23 rfl rfl rfl) ?_
    refine .call (.i t8) [] 0 (lombardref23_Terms.ok b9) rfl rfl rfl ca37 rfl rfl (cC (.agg _ _ _ _ (cC (.imm _) (cC (.imm _) (cC (.imm _) (cC (.imm _) (cC (.imm _) (cC (.imm _) (cC (.imm _) .nil)))))))) .nil) rfl rfl rfl rfl rfl ?_
    refine .a rfl rfl rfl rfl ?_
    refine .nil ?_
    refine W.ret ?_
    cases h
    exact leaves (.inr rfl) rfl (.imm _) (cN .nil) rfl rfl
 ·clear h
  rcases tf t1 with g5 | g5
  ·refine W.pk ?_
   refine .v rfl rfl (O.fld fld23_0 rfl rfl rfl) ?_
   refine .v rfl rfl (O.ld (y := .i x0.Lender) ty3 rfl rfl rfl) ?_
   refine .call (.b t1) [] 0 (lombardref23_in.ok b2) rfl rfl rfl ca36 rfl rfl (cC (.imm _) (cC (.imm _) (cC (.imm _) .nil))) rfl rfl rfl rfl rfl ?_
   refine .v rfl rfl (OpL.unV rfl rfl rfl) ?_
   refine .m rfl rfl rfl rfl ?_
   refine .v rfl (met rfl rfl rfl (notT g5)) (O.fld fld23_1 rfl rfl rfl) ?_
   refine .v rfl (met rfl rfl rfl (notT g5)) (O.ld (y := .i x0.Borrower) ty3 rfl rfl rfl) ?_
   refine .call (.b t3) [] 0 (lombardref23_in.ok ((if_pos (by simp only [g5, Bool.true_or, Bool.or_true, Bool.false_or, Bool.or_false, Bool.true_and, Bool.and_true, Bool.false_and, Bool.and_false, Bool.not_true, Bool.not_false, cond_true, cond_false])).symm.trans b4)) rfl (met rfl rfl rfl (notT g5)) rfl ca36 rfl rfl (cC (.imm _) (cC (.imm _) (cC (.imm _) .nil))) rfl rfl rfl rfl rfl ?_
   refine .v rfl (met rfl rfl rfl (notT g5)) (OpL.unV rfl rfl rfl) ?_
   refine .v rfl rfl (O.pickF (notT g5) rfl rfl rfl) ?_
   refine .nil ?_
   exact toN (Gives.mkR [] (.r rfl rfl (.c rfl (sbb (by simp only [g5, Bool.true_or, Bool.or_true, Bool.false_or, Bool.or_false, Bool.true_and, Bool.and_true, Bool.false_and, Bool.and_false, Bool.not_true, Bool.not_false, cond_true, cond_false])) rfl .n)) (.r rfl rfl rfl .n) rfl rfl rfl)
  ·refine W.pk ?_
   refine .v rfl rfl (O.fld fld23_0 rfl rfl rfl) ?_
   refine .v rfl rfl (O.ld (y := .i x0.Lender) ty3 rfl rfl rfl) ?_
   refine .call (.b t1) [] 0 (lombardref23_in.ok b2) rfl rfl rfl ca36 rfl rfl (cC (.imm _) (cC (.imm _) (cC (.imm _) .nil))) rfl rfl rfl rfl rfl ?_
   refine .v rfl rfl (OpL.unV rfl rfl rfl) ?_
   refine .m rfl rfl rfl rfl ?_
   refine .x rfl (unmet rfl rfl rfl (notF g5)) ?_
   refine .x rfl (unmet rfl rfl rfl (notF g5)) ?_
   refine .x rfl (unmet rfl rfl rfl (notF g5)) ?_
   refine .x rfl (unmet rfl rfl rfl (notF g5)) ?_
   refine .v rfl rfl (O.pickT (notF g5) rfl rfl rfl) ?_
   refine .nil ?_
   exact toN (Gives.mkR [] (.r rfl rfl (.c rfl (sbb (by simp only [g5, Bool.true_or, Bool.or_true, Bool.false_or, Bool.or_false, Bool.true_and, Bool.and_true, Bool.false_and, Bool.and_false, Bool.not_true, Bool.not_false, cond_true, cond_false])) rfl .n)) (.r rfl rfl rfl .n) rfl rfl rfl)

noncomputable def lombardref23_Book_Novate.f (x0 : lombardref23_Book) (x1 : api_Fill) : Option (lombardref23_Book × Int) :=
  (lombardref23_Fill.f x1).bind fun t1 =>
  if (t1 != 0) = true then
    (lombardref23_Fill.f x1).bind fun t4 =>
    some (x0, t4)
  else
    if ((decide ((List.length x0.L : Int) > 62)) || (decide ((IntKind.wrap .i64 (x0.Next + 2)) > 1125899906842624))) = true then
      some (x0, 18)
    else
      if (List.length ([] : List api_Trade) + List.length x0.L) * 104 ≤ 140737488355328 then
      if (List.length (([] : List api_Trade) ++ x0.L) + List.length [(⟨(IntKind.wrap .i64 (x0.Next + 1)), (IntKind.wrap .i64 (x0.Next + 2)), x1.Lender, 1, x1.Basket, x1.Amount, x1.Start, x1.End, [(⟨x1.Start, x1.Rate⟩ : api_Reset)], 1, false⟩ : api_Trade), (⟨(IntKind.wrap .i64 (x0.Next + 2)), (IntKind.wrap .i64 (x0.Next + 1)), x1.Borrower, 2, x1.Basket, x1.Amount, x1.Start, x1.End, [(⟨x1.Start, x1.Rate⟩ : api_Reset)], 1, false⟩ : api_Trade)]) * 104 ≤ 140737488355328 then
      some ((⟨((([] : List api_Trade) ++ x0.L) ++ [(⟨(IntKind.wrap .i64 (x0.Next + 1)), (IntKind.wrap .i64 (x0.Next + 2)), x1.Lender, 1, x1.Basket, x1.Amount, x1.Start, x1.End, [(⟨x1.Start, x1.Rate⟩ : api_Reset)], 1, false⟩ : api_Trade), (⟨(IntKind.wrap .i64 (x0.Next + 2)), (IntKind.wrap .i64 (x0.Next + 1)), x1.Borrower, 2, x1.Basket, x1.Amount, x1.Start, x1.End, [(⟨x1.Start, x1.Rate⟩ : api_Reset)], 1, false⟩ : api_Trade)]), (IntKind.wrap .i64 (x0.Next + 2))⟩ : lombardref23_Book), 0)
      else none
      else none
set_option maxRecDepth 100000 in
set_option maxHeartbeats 4000000 in
theorem lombardref23_Book_Novate.ok {x0 : lombardref23_Book} {x1 : api_Fill} {r : lombardref23_Book × Int} (h : lombardref23_Book_Novate.f x0 x1 = some r) : Pm.Spec prog 43 [.agg [.imm (.row 11 (List.map api_Trade.enc x0.L)), .imm (.val (.int .i64 x0.Next))], .agg [.imm (.val (.int .i64 x1.Lender)), .imm (.val (.int .i64 x1.Borrower)), .imm (.val (.int .i64 x1.Basket)), .imm (.val (.int .i64 x1.Amount)), .imm (.val (.int .i64 x1.Rate)), .imm (.val (.int .i64 x1.Start)), .imm (.val (.int .i64 x1.End))]] (.tup [.agg [.imm (.row 11 (List.map api_Trade.enc r.1.L)), .imm (.val (.int .i64 r.1.Next))], .imm (.val (.int .i64 r.2))]) [none, none] := by
 unfold lombardref23_Book_Novate.f at h
 refine Pm.Spec.of_body Try.func43 rfl (by kernel_rfl) (Nat.le_of_ble_eq_true rfl) (Nat.le_of_ble_eq_true rfl) ?_
 refine W.ghost (σ' := (mkSt [(0, some (.agg [.imm (.row 11 (List.map api_Trade.enc x0.L)), .i x0.Next])), (1, some (.agg (api_Fill.av x1)))] [] 1000)) (Gives.entry (.c rfl (.c rfl .n)) .n) ?_
 refine W.seq ?_
 refine W.pk ?_
 refine .t rfl rfl (O.box rfl rfl rfl rfl rfl) ?_
 refine .t rfl rfl (O.box rfl rfl rfl rfl rfl) ?_
 refine .t rfl rfl (O.alloc z47 rfl) ?_
 refine .a rfl rfl rfl rfl ?_
 refine .nil ?_
 refine W.seq ?_
 refine W.seq ?_
 obtain ⟨t1, b2, h⟩ := bnd1 h
 refine W.pk ?_
 refine .v rfl rfl (O.ldN ty23 rfl rfl rfl) ?_
 refine .call (.i t1) [] 0 (lombardref23_Fill.ok b2) rfl rfl rfl ca10 rfl rfl (cC (.agg _ _ _ _ (cC (.imm _) (cC (.imm _) (cC (.imm _) (cC (.imm _) (cC (.imm _) (cC (.imm _) (cC (.imm _) .nil)))))))) .nil) rfl rfl rfl rfl rfl ?_
 refine .v rfl rfl (OpL.binI rfl rfl rfl rfl) ?_
 refine .nil ?_
 refine W.cond rfl (fun q3 => ?_) (fun q3 => ?_)
 ·have h := ifT q3 h
  refine W.seq ?_
  obtain ⟨t4, b5, h⟩ := bnd1 h
  refine W.dk (unm 5 [0, 0, 2, 7, 15]) rfl (by kernel_rfl) ?_
  refine .v rfl rfl (O.ldN ty47 rfl rfl rfl) ?_
  refine .v rfl rfl (O.ldN ty23 rfl rfl rfl) ?_
  refine .call (.i t4) [] 0 (lombardref23_Fill.ok b5) rfl rfl rfl ca10 rfl rfl (cC (.agg _ _ _ _ (cC (.imm _) (cC (.imm _) (cC (.imm _) (cC (.imm _) (cC (.imm _) (cC (.imm _) (cC (.imm _) .nil)))))))) .nil) rfl rfl rfl rfl rfl ?_
  refine .s rfl rfl (O.st ty47 rfl rfl rfl rfl rfl rfl rfl rfl rfl rfl (all' := [.imm (.row 11 (List.map api_Trade.enc x0.L)), .i x0.Next]) rfl) ?_
  refine .a rfl rfl rfl rfl ?_
  refine .nil ?_
  refine ⟨by kernel_rfl, by kernel_rfl, ?_⟩
  refine W.ret ?_
  cases h
  exact leaves (.inr rfl) rfl (.tup _ _ _ _ (cC (.agg _ _ _ _ (cC (.imm _) (cC (.imm _) .nil))) (cC (.imm _) .nil))) (cN (cN .nil)) rfl rfl
 ·have h := ifF q3 h
  refine W.skip ?_
  refine W.seq ?_
  refine W.seq ?_
  refine W.fork (mkSt [(2, some (.ptr 1000 0)), (3, some (.ptr 1001 0)), (4, some (.ptr 1002 0)), (23, some (.b ((decide ((List.length x0.L : Int) > 62)) || (decide ((IntKind.wrap .i64 (x0.Next + 2)) > 1125899906842624)))))] [(1000, some (.box [.imm (.row 11 (List.map api_Trade.enc x0.L)), .i x0.Next])), (1001, some (.box [.i x1.Lender, .i x1.Borrower, .i x1.Basket, .i x1.Amount, .i x1.Rate, .i x1.Start, .i x1.End])), (1002, some (.box [.imm (.val (.slice none 0 0)), .i 0]))] 1003) ?_ ?_
  ·refine W.cond rfl (fun q7 => ?_) (fun q7 => ?_)
   ·have h := ifT q7 h
    refine W.seq ?_
    refine W.pk ?_
    refine .v rfl rfl (O.ldN ty47 rfl rfl rfl) ?_
    refine .s rfl rfl (O.st ty47 rfl rfl rfl rfl rfl rfl rfl rfl rfl rfl (all' := [.imm (.row 11 (List.map api_Trade.enc x0.L)), .i x0.Next]) rfl) ?_
    refine .a rfl rfl rfl rfl ?_
    refine .nil ?_
    refine W.ret ?_
    cases h
    exact leaves (.inr rfl) rfl (.tup _ _ _ _ (cC (.agg _ _ _ _ (cC (.imm _) (cC (.imm _) .nil))) (cC (.imm _) .nil))) (cN (cN .nil)) rfl rfl
   ·have h := ifF q7 h
    refine W.skip ?_
    refine W.seq ?_
    refine W.pk ?_
    refine .v rfl rfl (O.fld fld47_1 rfl rfl rfl) ?_
    refine .v rfl rfl (O.ld (y := .i x0.Next) ty3 rfl rfl rfl) ?_
    refine .v rfl rfl (OpL.binI rfl rfl rfl rfl) ?_
    refine .v rfl rfl (O.fld fld47_1 rfl rfl rfl) ?_
    refine .v rfl rfl (O.ld (y := .i x0.Next) ty3 rfl rfl rfl) ?_
    refine .v rfl rfl (OpL.binI rfl rfl rfl rfl) ?_
    refine .v rfl rfl (O.fld fld23_0 rfl rfl rfl) ?_
    refine .v rfl rfl (O.ld (y := .i x1.Lender) ty3 rfl rfl rfl) ?_
    refine .v rfl rfl (O.fld fld23_2 rfl rfl rfl) ?_
    refine .v rfl rfl (O.ld (y := .i x1.Basket) ty3 rfl rfl rfl) ?_
    refine .v rfl rfl (O.fld fld23_3 rfl rfl rfl) ?_
    refine .v rfl rfl (O.ld (y := .i x1.Amount) ty3 rfl rfl rfl) ?_
    refine .v rfl rfl (O.fld fld23_5 rfl rfl rfl) ?_
    refine .v rfl rfl (O.ld (y := .i x1.Start) ty3 rfl rfl rfl) ?_
    refine .v rfl rfl (O.fld fld23_6 rfl rfl rfl) ?_
    refine .v rfl rfl (O.ld (y := .i x1.End) ty3 rfl rfl rfl) ?_
    refine .v rfl rfl (O.fld fld23_5 rfl rfl rfl) ?_
    refine .v rfl rfl (O.ld (y := .i x1.Start) ty3 rfl rfl rfl) ?_
    refine .v rfl rfl (O.fld fld23_4 rfl rfl rfl) ?_
    refine .v rfl rfl (O.ld (y := .i x1.Rate) ty3 rfl rfl rfl) ?_
    refine .v rfl rfl (O.build (out := [.i x1.Start, .i x1.Rate]) bl60 rfl rfl rfl rfl (by kernel_rfl)) ?_
    refine .t rfl rfl (OpL.frz (O.lit (enc := api_Reset.enc) (l := [(⟨x1.Start, x1.Rate⟩ : api_Reset)]) sl24 rfl rfl rfl rfl rfl rfl rfl rfl rfl) rfl) ?_
    refine .v rfl rfl (O.build (out := [.i (IntKind.wrap .i64 (x0.Next + 1)), .i (IntKind.wrap .i64 (x0.Next + 2)), .i x1.Lender, .i 1, .i x1.Basket, .i x1.Amount, .i x1.Start, .i x1.End, .imm (.row 2 (List.map api_Reset.enc [(⟨x1.Start, x1.Rate⟩ : api_Reset)])), .i 1, .b false]) bl26 rfl rfl rfl rfl (by kernel_rfl)) ?_
    refine .t rfl rfl (O.alloc z26 rfl) ?_
    refine .s rfl rfl (O.st ty26 rfl rfl rfl rfl rfl rfl rfl rfl rfl rfl (all' := [.i (IntKind.wrap .i64 (x0.Next + 1)), .i (IntKind.wrap .i64 (x0.Next + 2)), .i x1.Lender, .i 1, .i x1.Basket, .i x1.Amount, .i x1.Start, .i x1.End, .imm (.row 2 (List.map api_Reset.enc [(⟨x1.Start, x1.Rate⟩ : api_Reset)])), .i 1, .b false]) rfl) ?_
    refine .nil ?_
    refine W.seq ?_
    refine W.pk ?_
    refine .v rfl rfl (O.ldN ty26 rfl rfl rfl) ?_
    refine .t rfl rfl (O.alloc z26 rfl) ?_
    refine .s rfl rfl (O.st ty26 rfl rfl rfl rfl rfl rfl rfl rfl rfl rfl (all' := [.i (IntKind.wrap .i64 (x0.Next + 1)), .i (IntKind.wrap .i64 (x0.Next + 2)), .i x1.Lender, .i 1, .i x1.Basket, .i x1.Amount, .i x1.Start, .i x1.End, .imm (.row 2 (List.map api_Reset.enc [(⟨x1.Start, x1.Rate⟩ : api_Reset)])), .i 1, .b false]) rfl) ?_
    refine .nil ?_
    refine W.seq ?_
    refine W.dk (unm 16 [0, 1, 3, 0, 8, 24, 0, 64, 7, 263, 831, 1855, 4095, 8191, 16383, 32767]) rfl (by kernel_rfl) ?_
    refine .v rfl rfl (O.fld fld47_1 rfl rfl rfl) ?_
    refine .v rfl rfl (O.ld (y := .i x0.Next) ty3 rfl rfl rfl) ?_
    refine .v rfl rfl (OpL.binI rfl rfl rfl rfl) ?_
    refine .v rfl rfl (O.fld fld47_1 rfl rfl rfl) ?_
    refine .v rfl rfl (O.ld (y := .i x0.Next) ty3 rfl rfl rfl) ?_
    refine .v rfl rfl (OpL.binI rfl rfl rfl rfl) ?_
    refine .v rfl rfl (O.fld fld23_1 rfl rfl rfl) ?_
    refine .v rfl rfl (O.ld (y := .i x1.Borrower) ty3 rfl rfl rfl) ?_
    refine .v rfl rfl (O.fld fld26_0 rfl rfl rfl) ?_
    refine .s rfl rfl (O.st ty3 rfl rfl rfl rfl rfl rfl rfl rfl rfl rfl (all' := [.i (IntKind.wrap .i64 (x0.Next + 2)), .i (IntKind.wrap .i64 (x0.Next + 2)), .i x1.Lender, .i 1, .i x1.Basket, .i x1.Amount, .i x1.Start, .i x1.End, .imm (.row 2 (List.map api_Reset.enc [(⟨x1.Start, x1.Rate⟩ : api_Reset)])), .i 1, .b false]) rfl) ?_
    refine .v rfl rfl (O.fld fld26_1 rfl rfl rfl) ?_
    refine .s rfl rfl (O.st ty3 rfl rfl rfl rfl rfl rfl rfl rfl rfl rfl (all' := [.i (IntKind.wrap .i64 (x0.Next + 2)), .i (IntKind.wrap .i64 (x0.Next + 1)), .i x1.Lender, .i 1, .i x1.Basket, .i x1.Amount, .i x1.Start, .i x1.End, .imm (.row 2 (List.map api_Reset.enc [(⟨x1.Start, x1.Rate⟩ : api_Reset)])), .i 1, .b false]) rfl) ?_
    refine .v rfl rfl (O.fld fld26_2 rfl rfl rfl) ?_
    refine .s rfl rfl (O.st ty3 rfl rfl rfl rfl rfl rfl rfl rfl rfl rfl (all' := [.i (IntKind.wrap .i64 (x0.Next + 2)), .i (IntKind.wrap .i64 (x0.Next + 1)), .i x1.Borrower, .i 1, .i x1.Basket, .i x1.Amount, .i x1.Start, .i x1.End, .imm (.row 2 (List.map api_Reset.enc [(⟨x1.Start, x1.Rate⟩ : api_Reset)])), .i 1, .b false]) rfl) ?_
    refine .v rfl rfl (O.fld fld26_3 rfl rfl rfl) ?_
    refine .s rfl rfl (O.st ty3 rfl rfl rfl rfl rfl rfl rfl rfl rfl rfl (all' := [.i (IntKind.wrap .i64 (x0.Next + 2)), .i (IntKind.wrap .i64 (x0.Next + 1)), .i x1.Borrower, .i 2, .i x1.Basket, .i x1.Amount, .i x1.Start, .i x1.End, .imm (.row 2 (List.map api_Reset.enc [(⟨x1.Start, x1.Rate⟩ : api_Reset)])), .i 1, .b false]) rfl) ?_
    refine .nil ?_
    refine ⟨by kernel_rfl, by kernel_rfl, ?_⟩
    refine W.seq ?_
    obtain ⟨c8, h⟩ := chk h
    obtain ⟨c9, h⟩ := chk h
    refine W.dk (unm 14 [0, 0, 2, 7, 0, 0, 48, 127, 0, 256, 768, 2047, 4095, 8191]) rfl (by kernel_rfl) ?_
    refine .t rfl rfl (O.lit (enc := api_Trade.enc) (l := ([] : List api_Trade)) sl35 rfl rfl rfl rfl rfl rfl rfl rfl rfl) ?_
    refine .v rfl rfl (O.fld fld47_0 rfl rfl rfl) ?_
    refine .v rfl rfl (O.ld (y := .imm (.row 11 (List.map api_Trade.enc x0.L))) ty35 rfl rfl rfl) ?_
    refine .t rfl rfl (O.app sl35 api_Trade.ok c8 rfl rfl rfl rfl) ?_
    refine .v rfl rfl (O.ldN ty26 rfl rfl rfl) ?_
    refine .v rfl rfl (O.ldN ty26 rfl rfl rfl) ?_
    refine .t rfl rfl (O.lit (enc := api_Trade.enc) (l := [(⟨(IntKind.wrap .i64 (x0.Next + 1)), (IntKind.wrap .i64 (x0.Next + 2)), x1.Lender, 1, x1.Basket, x1.Amount, x1.Start, x1.End, [(⟨x1.Start, x1.Rate⟩ : api_Reset)], 1, false⟩ : api_Trade), (⟨(IntKind.wrap .i64 (x0.Next + 2)), (IntKind.wrap .i64 (x0.Next + 1)), x1.Borrower, 2, x1.Basket, x1.Amount, x1.Start, x1.End, [(⟨x1.Start, x1.Rate⟩ : api_Reset)], 1, false⟩ : api_Trade)]) sl35 rfl rfl rfl rfl rfl rfl rfl rfl rfl) ?_
    refine .t rfl rfl (O.appO sl35 api_Trade.ok c9 rfl rfl rfl rfl rfl) ?_
    refine .v rfl rfl (O.fld fld47_1 rfl rfl rfl) ?_
    refine .v rfl rfl (O.ld (y := .i x0.Next) ty3 rfl rfl rfl) ?_
    refine .v rfl rfl (OpL.binI rfl rfl rfl rfl) ?_
    refine .v rfl rfl (O.build (out := [.own 1009, .i (IntKind.wrap .i64 (x0.Next + 2))]) bl47 rfl rfl rfl rfl (by kernel_rfl)) ?_
    refine .s rfl rfl (O.st ty47 rfl rfl rfl rfl rfl rfl rfl rfl rfl rfl (all' := [.own 1009, .i (IntKind.wrap .i64 (x0.Next + 2))]) rfl) ?_
    refine .a rfl rfl rfl rfl ?_
    refine .nil ?_
    refine ⟨by kernel_rfl, by kernel_rfl, ?_⟩
    refine W.ret ?_
    cases h
    exact leaves (.inr rfl) rfl (.tup _ _ _ _ (cC (.agg _ _ _ _ (cC (.lend _ _ _ _ _ rfl) (cC (.imm _) .nil))) (cC (.imm _) .nil))) (cN (cN .nil)) rfl rfl
  ·clear h
   rcases tf (decide ((List.length x0.L : Int) > 62)) with g6 | g6
   ·refine W.pk ?_
    refine .v rfl rfl (O.fld fld47_0 rfl rfl rfl) ?_
    refine .v rfl rfl (O.ld (y := .imm (.row 11 (List.map api_Trade.enc x0.L))) ty35 rfl rfl rfl) ?_
    refine .v rfl rfl (O.lenR sl35 rfl rfl) ?_
    refine .v rfl rfl (OpL.binI rfl rfl rfl rfl) ?_
    refine .m rfl rfl rfl rfl ?_
    refine .x rfl (unmet rfl rfl rfl g6) ?_
    refine .x rfl (unmet rfl rfl rfl g6) ?_
    refine .x rfl (unmet rfl rfl rfl g6) ?_
    refine .x rfl (unmet rfl rfl rfl g6) ?_
    refine .v rfl rfl (O.pickT g6 rfl rfl rfl) ?_
    refine .nil ?_
    exact toN (Gives.mkR [] (.r rfl rfl (.r rfl rfl (.r rfl rfl (.c rfl (sbb (by simp only [g6, Bool.true_or, Bool.or_true, Bool.false_or, Bool.or_false, Bool.true_and, Bool.and_true, Bool.false_and, Bool.and_false, Bool.not_true, Bool.not_false, cond_true, cond_false])) rfl .n)))) (.r rfl rfl rfl (.r rfl rfl rfl (.r rfl rfl rfl .n))) rfl rfl rfl)
   ·refine W.pk ?_
    refine .v rfl rfl (O.fld fld47_0 rfl rfl rfl) ?_
    refine .v rfl rfl (O.ld (y := .imm (.row 11 (List.map api_Trade.enc x0.L))) ty35 rfl rfl rfl) ?_
    refine .v rfl rfl (O.lenR sl35 rfl rfl) ?_
    refine .v rfl rfl (OpL.binI rfl rfl rfl rfl) ?_
    refine .m rfl rfl rfl rfl ?_
    refine .v rfl (met rfl rfl rfl g6) (O.fld fld47_1 rfl rfl rfl) ?_
    refine .v rfl (met rfl rfl rfl g6) (O.ld (y := .i x0.Next) ty3 rfl rfl rfl) ?_
    refine .v rfl (met rfl rfl rfl g6) (OpL.binI rfl rfl rfl rfl) ?_
    refine .v rfl (met rfl rfl rfl g6) (OpL.binI rfl rfl rfl rfl) ?_
    refine .v rfl rfl (O.pickF g6 rfl rfl rfl) ?_
    refine .nil ?_
    exact toN (Gives.mkR [] (.r rfl rfl (.r rfl rfl (.r rfl rfl (.c rfl (sbb (by simp only [g6, Bool.true_or, Bool.or_true, Bool.false_or, Bool.or_false, Bool.true_and, Bool.and_true, Bool.false_and, Bool.and_false, Bool.not_true, Bool.not_false, cond_true, cond_false])) rfl .n)))) (.r rfl rfl rfl (.r rfl rfl rfl (.r rfl rfl rfl .n))) rfl rfl rfl)

noncomputable def trade_Fill_1.f (x0 : Int) : Option (Bool) :=
  some ((decide (x0 ≥ 1)) && (decide (x0 ≤ 32)))
set_option maxRecDepth 100000 in
set_option maxHeartbeats 4000000 in
theorem trade_Fill_1.ok {x0 : Int} {r : Bool} (h : trade_Fill_1.f x0 = some r) : Pm.Spec prog 34 [.imm (.val (.int .i64 x0))] (.imm (.val (.bool r))) [none] := by
 unfold trade_Fill_1.f at h
 refine Pm.Spec.of_body Try.func34 rfl (by kernel_rfl) (Nat.le_of_ble_eq_true rfl) (Nat.le_of_ble_eq_true rfl) ?_
 refine W.ghost (σ' := (mkSt [(0, some (.i x0))] [] 1000)) (Gives.entry (.c rfl .n) .n) ?_
 refine W.seq ?_
 refine W.pk ?_
 refine .a rfl rfl rfl rfl ?_
 refine .nil ?_
 refine W.seq ?_
 refine W.fork (mkSt [(2, some (.b ((decide (x0 ≥ 1)) && (decide (x0 ≤ 32)))))] [] 1000) ?_ ?_
 ·refine W.ret ?_
  cases h
  exact leaves (.inr rfl) rfl (.imm _) (cN .nil) rfl rfl
 ·clear h
  rcases tf (decide (x0 ≥ 1)) with g1 | g1
  ·refine W.pk ?_
   refine .m rfl rfl rfl rfl ?_
   refine .v rfl rfl (OpL.binI rfl rfl rfl rfl) ?_
   refine .m rfl rfl rfl rfl ?_
   refine .m rfl (met rfl rfl rfl g1) rfl rfl ?_
   refine .v rfl (met rfl rfl rfl g1) (OpL.binI rfl rfl rfl rfl) ?_
   refine .v rfl rfl (O.pickT g1 rfl rfl rfl) ?_
   refine .a rfl rfl rfl rfl ?_
   refine .nil ?_
   exact toN (Gives.mkR [] (.c rfl (sbb (by simp only [g1, Bool.true_or, Bool.or_true, Bool.false_or, Bool.or_false, Bool.true_and, Bool.and_true, Bool.false_and, Bool.and_false, Bool.not_true, Bool.not_false, cond_true, cond_false])) rfl .n) .n rfl rfl rfl)
  ·refine W.pk ?_
   refine .m rfl rfl rfl rfl ?_
   refine .v rfl rfl (OpL.binI rfl rfl rfl rfl) ?_
   refine .m rfl rfl rfl rfl ?_
   refine .x rfl (unmet rfl rfl rfl g1) ?_
   refine .x rfl (unmet rfl rfl rfl g1) ?_
   refine .v rfl rfl (O.pickF g1 rfl rfl rfl) ?_
   refine .a rfl rfl rfl rfl ?_
   refine .nil ?_
   exact toN (Gives.mkR [] (.c rfl (sbb (by simp only [g1, Bool.true_or, Bool.or_true, Bool.false_or, Bool.or_false, Bool.true_and, Bool.and_true, Bool.false_and, Bool.and_false, Bool.not_true, Bool.not_false, cond_true, cond_false])) rfl .n) .n rfl rfl rfl)

noncomputable def calendar_Good.f (x0 : Int) : Option (Bool) :=
  some ((decide (x0 ≥ 0)) && (decide (x0 ≤ 200000)))
set_option maxRecDepth 100000 in
set_option maxHeartbeats 4000000 in
theorem calendar_Good.ok {x0 : Int} {r : Bool} (h : calendar_Good.f x0 = some r) : Pm.Spec prog 35 [.imm (.val (.int .i64 x0))] (.imm (.val (.bool r))) [none] := by
 unfold calendar_Good.f at h
 refine Pm.Spec.of_body Try.func35 rfl (by kernel_rfl) (Nat.le_of_ble_eq_true rfl) (Nat.le_of_ble_eq_true rfl) ?_
 refine W.ghost (σ' := (mkSt [(0, some (.i x0))] [] 1000)) (Gives.entry (.c rfl .n) .n) ?_
 refine W.seq ?_
 refine W.pk ?_
 refine .a rfl rfl rfl rfl ?_
 refine .nil ?_
 refine W.seq ?_
 refine W.fork (mkSt [(2, some (.b ((decide (x0 ≥ 0)) && (decide (x0 ≤ 200000)))))] [] 1000) ?_ ?_
 ·refine W.ret ?_
  cases h
  exact leaves (.inr rfl) rfl (.imm _) (cN .nil) rfl rfl
 ·clear h
  rcases tf (decide (x0 ≥ 0)) with g1 | g1
  ·refine W.pk ?_
   refine .m rfl rfl rfl rfl ?_
   refine .v rfl rfl (OpL.binI rfl rfl rfl rfl) ?_
   refine .m rfl rfl rfl rfl ?_
   refine .m rfl (met rfl rfl rfl g1) rfl rfl ?_
   refine .v rfl (met rfl rfl rfl g1) (OpL.binI rfl rfl rfl rfl) ?_
   refine .v rfl rfl (O.pickT g1 rfl rfl rfl) ?_
   refine .a rfl rfl rfl rfl ?_
   refine .nil ?_
   exact toN (Gives.mkR [] (.c rfl (sbb (by simp only [g1, Bool.true_or, Bool.or_true, Bool.false_or, Bool.or_false, Bool.true_and, Bool.and_true, Bool.false_and, Bool.and_false, Bool.not_true, Bool.not_false, cond_true, cond_false])) rfl .n) .n rfl rfl rfl)
  ·refine W.pk ?_
   refine .m rfl rfl rfl rfl ?_
   refine .v rfl rfl (OpL.binI rfl rfl rfl rfl) ?_
   refine .m rfl rfl rfl rfl ?_
   refine .x rfl (unmet rfl rfl rfl g1) ?_
   refine .x rfl (unmet rfl rfl rfl g1) ?_
   refine .v rfl rfl (O.pickF g1 rfl rfl rfl) ?_
   refine .a rfl rfl rfl rfl ?_
   refine .nil ?_
   exact toN (Gives.mkR [] (.c rfl (sbb (by simp only [g1, Bool.true_or, Bool.or_true, Bool.false_or, Bool.or_false, Bool.true_and, Bool.and_true, Bool.false_and, Bool.and_false, Bool.not_true, Bool.not_false, cond_true, cond_false])) rfl .n) .n rfl rfl rfl)
end Go.Proofs.Ytidinbjehfodoaa
