/- Shows what functions of the program come to, each as a plain function: written by a program of the author's for this claim. -/
import Derived.Test.YtkcjlpiaaklnkaaGx11
namespace Go.Proofs.Ytkcjlpiaaklnkaa
open Go Go.Pm
set_option linter.unusedVariables false
set_option linter.unusedSimpArgs false
noncomputable def lombardref13_Worth.f (x0 : Int) (x1 : Int) : Option (Int × Int) :=
  if ((((decide (x0 < 0)) || (decide (x0 > 1125899906842624))) || (decide (x1 < 1))) || (decide (x1 > 4294967296))) = true then
    some (0, 1)
  else
    (lombardref01_MulDiv.f x0 x1 1000000 1).bind fun t5 =>
    some (t5.1, t5.2)
set_option maxRecDepth 100000 in
set_option maxHeartbeats 4000000 in
theorem lombardref13_Worth.ok {x0 : Int} {x1 : Int} {r : Int × Int} (h : lombardref13_Worth.f x0 x1 = some r) : Pm.Spec prog 23 [.imm (.val (.int .i64 x0)), .imm (.val (.int .i64 x1))] (.tup [.imm (.val (.int .i64 r.1)), .imm (.val (.int .i64 r.2))]) [none, none] := by
 unfold lombardref13_Worth.f at h
 refine Pm.Spec.of_body Try.func23 rfl (by kernel_rfl) (Nat.le_of_ble_eq_true rfl) (Nat.le_of_ble_eq_true rfl) ?_
 refine W.ghost (σ' := (mkSt [(0, some (.i x0)), (1, some (.i x1))] [] 1000)) (Gives.entry (.c rfl (.c rfl .n)) .n) ?_
 refine W.seq ?_
 refine W.pk ?_
 refine .a rfl rfl rfl rfl ?_
 refine .a rfl rfl rfl rfl ?_
 refine .nil ?_
 refine W.seq ?_
 refine W.seq ?_
 refine W.fork (mkSt [(0, some (.i x0)), (1, some (.i x1)), (19, some (.b ((((decide (x0 < 0)) || (decide (x0 > 1125899906842624))) || (decide (x1 < 1))) || (decide (x1 > 4294967296)))))] [] 1000) ?_ ?_
 ·refine W.cond rfl (fun q4 => ?_) (fun q4 => ?_)
  ·have h := ifT q4 h
   refine W.seq ?_
   refine W.pk ?_
   refine .a rfl rfl rfl rfl ?_
   refine .a rfl rfl rfl rfl ?_
   refine .nil ?_
   refine W.ret ?_
   cases h
   exact leaves (.inr rfl) rfl (.tup _ _ _ _ (cC (.imm _) (cC (.imm _) .nil))) (cN (cN .nil)) rfl rfl
  ·have h := ifF q4 h
   refine W.skip ?_
   refine W.seq ?_
   obtain ⟨t5, b6, h⟩ := bnd1 h
   refine W.pk ?_
   refine .m rfl rfl rfl rfl ?_
   refine .m rfl rfl rfl rfl ?_
   refine .call (.tup [.i t5.1, .i t5.2]) [] 0 (lombardref01_MulDiv.ok b6) rfl rfl rfl ca37 rfl rfl (cC (.imm _) (cC (.imm _) (cC (.imm _) (cC (.imm _) .nil)))) rfl rfl rfl rfl rfl ?_
   refine .v rfl rfl (OpL.extract rfl rfl rfl) ?_
   refine .v rfl rfl (OpL.extract rfl rfl rfl) ?_
   refine .a rfl rfl rfl rfl ?_
   refine .a rfl rfl rfl rfl ?_
   refine .nil ?_
   refine W.ret ?_
   cases h
   exact leaves (.inr rfl) rfl (.tup _ _ _ _ (cC (.imm _) (cC (.imm _) .nil))) (cN (cN .nil)) rfl rfl
 ·clear h
  rcases tf (decide (x0 < 0)) with g1 | g1
  ·refine W.pk ?_
   refine .m rfl rfl rfl rfl ?_
   refine .v rfl rfl (OpL.binI rfl rfl rfl rfl) ?_
   refine .m rfl rfl rfl rfl ?_
   refine .x rfl (unmet rfl rfl rfl g1) ?_
   refine .x rfl (unmet rfl rfl rfl g1) ?_
   refine .v rfl rfl (O.pickT g1 rfl rfl rfl) ?_
   refine .m rfl rfl rfl rfl ?_
   refine .x rfl (unmet rfl rfl rfl rfl) ?_
   refine .x rfl (unmet rfl rfl rfl rfl) ?_
   refine .v rfl rfl (O.pickT rfl rfl rfl rfl) ?_
   refine .m rfl rfl rfl rfl ?_
   refine .x rfl (unmet rfl rfl rfl rfl) ?_
   refine .x rfl (unmet rfl rfl rfl rfl) ?_
   refine .v rfl rfl (O.pickT rfl rfl rfl rfl) ?_
   refine .nil ?_
   exact toN (Gives.mkR [] (.r rfl rfl (.r rfl rfl (.c rfl (sbb (by simp only [g1, Bool.true_or, Bool.or_true, Bool.false_or, Bool.or_false, Bool.true_and, Bool.and_true, Bool.false_and, Bool.and_false, Bool.not_true, Bool.not_false, cond_true, cond_false])) rfl .n))) .n rfl rfl rfl)
  ·rcases tf (decide (x0 > 1125899906842624)) with g2 | g2
   ·refine W.pk ?_
    refine .m rfl rfl rfl rfl ?_
    refine .v rfl rfl (OpL.binI rfl rfl rfl rfl) ?_
    refine .m rfl rfl rfl rfl ?_
    refine .m rfl (met rfl rfl rfl g1) rfl rfl ?_
    refine .v rfl (met rfl rfl rfl g1) (OpL.binI rfl rfl rfl rfl) ?_
    refine .v rfl rfl (O.pickF g1 rfl rfl rfl) ?_
    refine .m rfl rfl rfl rfl ?_
    refine .x rfl (unmet rfl rfl rfl g2) ?_
    refine .x rfl (unmet rfl rfl rfl g2) ?_
    refine .v rfl rfl (O.pickT g2 rfl rfl rfl) ?_
    refine .m rfl rfl rfl rfl ?_
    refine .x rfl (unmet rfl rfl rfl rfl) ?_
    refine .x rfl (unmet rfl rfl rfl rfl) ?_
    refine .v rfl rfl (O.pickT rfl rfl rfl rfl) ?_
    refine .nil ?_
    exact toN (Gives.mkR [] (.r rfl rfl (.r rfl rfl (.c rfl (sbb (by first | (simp only [g1, g2, Bool.true_or, Bool.or_true, Bool.false_or, Bool.or_false, Bool.true_and, Bool.and_true, Bool.false_and, Bool.and_false, Bool.not_true, Bool.not_false, cond_true, cond_false]; done) | (repeat (first | rw [g1] | rw [g2])) <;> simp only [Bool.true_or, Bool.or_true, Bool.false_or, Bool.or_false, Bool.true_and, Bool.and_true, Bool.false_and, Bool.and_false, Bool.not_true, Bool.not_false, cond_true, cond_false])) rfl .n))) .n rfl rfl rfl)
   ·rcases tf (decide (x1 < 1)) with g3 | g3
    ·refine W.pk ?_
     refine .m rfl rfl rfl rfl ?_
     refine .v rfl rfl (OpL.binI rfl rfl rfl rfl) ?_
     refine .m rfl rfl rfl rfl ?_
     refine .m rfl (met rfl rfl rfl g1) rfl rfl ?_
     refine .v rfl (met rfl rfl rfl g1) (OpL.binI rfl rfl rfl rfl) ?_
     refine .v rfl rfl (O.pickF g1 rfl rfl rfl) ?_
     refine .m rfl rfl rfl rfl ?_
     refine .m rfl (met rfl rfl rfl g2) rfl rfl ?_
     refine .v rfl (met rfl rfl rfl g2) (OpL.binI rfl rfl rfl rfl) ?_
     refine .v rfl rfl (O.pickF g2 rfl rfl rfl) ?_
     refine .m rfl rfl rfl rfl ?_
     refine .x rfl (unmet rfl rfl rfl g3) ?_
     refine .x rfl (unmet rfl rfl rfl g3) ?_
     refine .v rfl rfl (O.pickT g3 rfl rfl rfl) ?_
     refine .nil ?_
     exact toN (Gives.mkR [] (.r rfl rfl (.r rfl rfl (.c rfl (sbb (by first | (simp only [g1, g2, g3, Bool.true_or, Bool.or_true, Bool.false_or, Bool.or_false, Bool.true_and, Bool.and_true, Bool.false_and, Bool.and_false, Bool.not_true, Bool.not_false, cond_true, cond_false]; done) | (repeat (first | rw [g1] | rw [g2] | rw [g3])) <;> simp only [Bool.true_or, Bool.or_true, Bool.false_or, Bool.or_false, Bool.true_and, Bool.and_true, Bool.false_and, Bool.and_false, Bool.not_true, Bool.not_false, cond_true, cond_false])) rfl .n))) .n rfl rfl rfl)
    ·refine W.pk ?_
     refine .m rfl rfl rfl rfl ?_
     refine .v rfl rfl (OpL.binI rfl rfl rfl rfl) ?_
     refine .m rfl rfl rfl rfl ?_
     refine .m rfl (met rfl rfl rfl g1) rfl rfl ?_
     refine .v rfl (met rfl rfl rfl g1) (OpL.binI rfl rfl rfl rfl) ?_
     refine .v rfl rfl (O.pickF g1 rfl rfl rfl) ?_
     refine .m rfl rfl rfl rfl ?_
     refine .m rfl (met rfl rfl rfl g2) rfl rfl ?_
     refine .v rfl (met rfl rfl rfl g2) (OpL.binI rfl rfl rfl rfl) ?_
     refine .v rfl rfl (O.pickF g2 rfl rfl rfl) ?_
     refine .m rfl rfl rfl rfl ?_
     refine .m rfl (met rfl rfl rfl g3) rfl rfl ?_
     refine .v rfl (met rfl rfl rfl g3) (OpL.binI rfl rfl rfl rfl) ?_
     refine .v rfl rfl (O.pickF g3 rfl rfl rfl) ?_
     refine .nil ?_
     exact toN (Gives.mkR [] (.r rfl rfl (.r rfl rfl (.c rfl (sbb (by first | (simp only [g1, g2, g3, Bool.true_or, Bool.or_true, Bool.false_or, Bool.or_false, Bool.true_and, Bool.and_true, Bool.false_and, Bool.and_false, Bool.not_true, Bool.not_false, cond_true, cond_false]; done) | (repeat (first | rw [g1] | rw [g2] | rw [g3])) <;> simp only [Bool.true_or, Bool.or_true, Bool.false_or, Bool.or_false, Bool.true_and, Bool.and_true, Bool.false_and, Bool.and_false, Bool.not_true, Bool.not_false, cond_true, cond_false])) rfl .n))) .n rfl rfl rfl)

noncomputable def asset_Book_Value.f (x0 : asset_Book) (x1 : api_Lot) : Option (Int × Int) :=
  if (!x0.made) = true then
    some (0, 3)
  else
    (asset_Book_place.f x0 x1.ISIN).bind fun t2 =>
    if (!t2.2) = true then
      some (0, 21)
    else
      (asset_Book_Price.f x0 x1.ISIN).bind fun t5 =>
      if (!t5.2) = true then
        some (0, 31)
      else
        (asset_Worth.f x1.Qty t5.1).bind fun t8 =>
        some (t8.1, t8.2)
set_option maxRecDepth 100000 in
set_option maxHeartbeats 4000000 in
theorem asset_Book_Value.ok {x0 : asset_Book} {x1 : api_Lot} {r : Int × Int} (h : asset_Book_Value.f x0 x1 = some r) : Pm.Spec prog 26 [.xbox [.xown 29 5 (List.map api_Asset.enc x0.l), .xown 3 1 (List.map (encI .i64) x0.prices), .imm (.val (.bool x0.made))], .agg [.imm (.val (.string (tx x1.ISIN))), .imm (.val (.int .i64 x1.Qty))]] (.tup [.imm (.val (.int .i64 r.1)), .imm (.val (.int .i64 r.2))]) [some (.xbox [.xown 29 5 (List.map api_Asset.enc x0.l), .xown 3 1 (List.map (encI .i64) x0.prices), .imm (.val (.bool x0.made))]), none] := by
 unfold asset_Book_Value.f at h
 refine Pm.Spec.of_body Try.func26 rfl (by kernel_rfl) (Nat.le_of_ble_eq_true rfl) (Nat.le_of_ble_eq_true rfl) ?_
 refine W.ghost (σ' := (mkSt [(0, some (.ptr 0 0)), (1, some (.agg [.s x1.ISIN, .i x1.Qty]))] [(0, some (.box [.own 1, .own 2, .b x0.made])), (1, some (.rows 29 5 (List.map api_Asset.enc x0.l) false)), (2, some (.rows 3 1 (List.map (encI .i64) x0.prices) false))] 1000)) (Gives.entry (.c rfl (.c rfl .n)) (.c rfl (.c rfl (.c rfl .n)))) ?_
 refine W.ghost (σ' := (mkSt [(0, some (.ptr 0 0)), (1, some (.agg [.s x1.ISIN, .i x1.Qty]))] [(0, some (.box [.own 1000, .own 1001, .b x0.made])), (1000, some (.rows 29 5 (List.map api_Asset.enc x0.l) false)), (1001, some (.rows 3 1 (List.map (encI .i64) x0.prices) false))] 1002)) (Gives.mkR [(1000, 1), (1001, 2)] (.r rfl rfl (.r rfl rfl .n)) (.r rfl rfl rfl (.r rfl rfl rfl (.r rfl rfl rfl .n))) rfl rfl rfl) ?_
 refine W.seq ?_
 refine W.pk ?_
 refine .t rfl rfl (O.box rfl rfl rfl rfl rfl) ?_
 refine .a rfl rfl rfl rfl ?_
 refine .a rfl rfl rfl rfl ?_
 refine .nil ?_
 refine W.seq ?_
 refine W.seq ?_
 refine W.pk ?_
 refine .m rfl rfl rfl rfl ?_
 refine .v rfl rfl (OpL.eqP rfl u30 rfl rfl rfl) ?_
 refine .m rfl rfl rfl rfl ?_
 refine .m rfl (met rfl rfl rfl rfl) rfl rfl ?_
 refine .v rfl (met rfl rfl rfl rfl) (OpL.nilP rfl rfl rfl) ?_
 refine .v rfl (met rfl rfl rfl rfl) (O.fld fld71_2 rfl rfl rfl) ?_
 refine .v rfl (met rfl rfl rfl rfl) (O.ld (y := .b x0.made) ty4 rfl rfl rfl) ?_
 refine .v rfl (met rfl rfl rfl rfl) (OpL.unV rfl rfl rfl) ?_
 refine .v rfl rfl (O.pickF rfl rfl rfl rfl) ?_
 refine .nil ?_
 refine W.cond rfl (fun q1 => ?_) (fun q1 => ?_)
 ·have h := ifT q1 h
  refine W.seq ?_
  refine W.pk ?_
  refine .a rfl rfl rfl rfl ?_
  refine .a rfl rfl rfl rfl ?_
  refine .nil ?_
  refine W.ret ?_
  cases h
  exact leaves (.inr rfl) rfl (.tup _ _ _ _ (cC (.imm _) (cC (.imm _) .nil))) (cS (.ptr _ _ _ _ _ rfl (cC (.own _ _ _ _ rfl) (cC (.own _ _ _ _ rfl) (cC (.imm _) .nil)))) (cN .nil)) rfl rfl
 ·have h := ifF q1 h
  refine W.skip ?_
  refine W.seq ?_
  refine W.seq ?_
  obtain ⟨t2, b3, h⟩ := bnd1 h
  refine W.pk ?_
  refine .m rfl rfl rfl rfl ?_
  refine .v rfl rfl (O.fld fld63_0 rfl rfl rfl) ?_
  refine .v rfl rfl (O.ld (y := .s x1.ISIN) ty9 rfl rfl rfl) ?_
  refine .call (.tup [.i t2.1, .b t2.2]) [(0, some (.box [.own 1003, .own 1004, .b x0.made])), (1003, some (.rows 29 5 (List.map api_Asset.enc x0.l) false)), (1004, some (.rows 3 1 (List.map (encI .i64) x0.prices) false)), (0, none), (1000, none), (1001, none)] 2 (asset_Book_place.ok b3) rfl rfl rfl ca34 rfl rfl (cC (.ptr _ _ _ _ _ rfl (cC (.own _ _ _ _ rfl) (cC (.own _ _ _ _ rfl) (cC (.imm _) .nil)))) (cC (.imm _) .nil)) rfl rfl rfl rfl rfl ?_
  refine .m rfl rfl rfl rfl ?_
  refine .v rfl rfl (OpL.extract rfl rfl rfl) ?_
  refine .v rfl rfl (OpL.extract rfl rfl rfl) ?_
  refine .a rfl rfl rfl rfl ?_
  refine .a rfl rfl rfl rfl ?_
  refine .nil ?_
  refine W.seq ?_
  refine W.pk ?_
  refine .m rfl rfl rfl rfl ?_
  refine .v rfl rfl (OpL.unV rfl rfl rfl) ?_
  refine .nil ?_
  refine W.cond rfl (fun q4 => ?_) (fun q4 => ?_)
  ·have h := ifT q4 h
   refine W.seq ?_
   refine W.pk ?_
   refine .a rfl rfl rfl rfl ?_
   refine .a rfl rfl rfl rfl ?_
   refine .nil ?_
   refine W.ret ?_
   cases h
   exact leaves (.inr rfl) rfl (.tup _ _ _ _ (cC (.imm _) (cC (.imm _) .nil))) (cS (.ptr _ _ _ _ _ rfl (cC (.own _ _ _ _ rfl) (cC (.own _ _ _ _ rfl) (cC (.imm _) .nil)))) (cN .nil)) rfl rfl
  ·have h := ifF q4 h
   refine W.skip ?_
   refine W.seq ?_
   obtain ⟨t5, b6, h⟩ := bnd1 h
   refine W.pk ?_
   refine .m rfl rfl rfl rfl ?_
   refine .v rfl rfl (O.fld fld63_0 rfl rfl rfl) ?_
   refine .v rfl rfl (O.ld (y := .s x1.ISIN) ty9 rfl rfl rfl) ?_
   refine .call (.tup [.i t5.1, .b t5.2]) [(0, some (.box [.own 1005, .own 1006, .b x0.made])), (1005, some (.rows 29 5 (List.map api_Asset.enc x0.l) false)), (1006, some (.rows 3 1 (List.map (encI .i64) x0.prices) false)), (0, none), (1003, none), (1004, none)] 2 (asset_Book_Price.ok b6) rfl rfl rfl ca19 rfl rfl (cC (.ptr _ _ _ _ _ rfl (cC (.own _ _ _ _ rfl) (cC (.own _ _ _ _ rfl) (cC (.imm _) .nil)))) (cC (.imm _) .nil)) rfl rfl rfl rfl rfl ?_
   refine .m rfl rfl rfl rfl ?_
   refine .v rfl rfl (OpL.extract rfl rfl rfl) ?_
   refine .v rfl rfl (OpL.extract rfl rfl rfl) ?_
   refine .a rfl rfl rfl rfl ?_
   refine .a rfl rfl rfl rfl ?_
   refine .nil ?_
   refine W.seq ?_
   refine W.seq ?_
   refine W.pk ?_
   refine .m rfl rfl rfl rfl ?_
   refine .v rfl rfl (OpL.unV rfl rfl rfl) ?_
   refine .nil ?_
   refine W.cond rfl (fun q7 => ?_) (fun q7 => ?_)
   ·have h := ifT q7 h
    refine W.seq ?_
    refine W.pk ?_
    refine .a rfl rfl rfl rfl ?_
    refine .a rfl rfl rfl rfl ?_
    refine .nil ?_
    refine W.ret ?_
    cases h
    exact leaves (.inr rfl) rfl (.tup _ _ _ _ (cC (.imm _) (cC (.imm _) .nil))) (cS (.ptr _ _ _ _ _ rfl (cC (.own _ _ _ _ rfl) (cC (.own _ _ _ _ rfl) (cC (.imm _) .nil)))) (cN .nil)) rfl rfl
   ·have h := ifF q7 h
    refine W.skip ?_
    refine W.seq ?_
    obtain ⟨t8, b9, h⟩ := bnd1 h
    refine W.pk ?_
    refine .v rfl rfl (O.fld fld63_1 rfl rfl rfl) ?_
    refine .v rfl rfl (O.ld (y := .i x1.Qty) ty3 rfl rfl rfl) ?_
    refine .m rfl rfl rfl rfl ?_
    refine .call (.tup [.i t8.1, .i t8.2]) [] 0 (asset_Worth.ok b9) rfl rfl rfl ca10 rfl rfl (cC (.imm _) (cC (.imm _) .nil)) rfl rfl rfl rfl rfl ?_
    refine .v rfl rfl (OpL.extract rfl rfl rfl) ?_
    refine .v rfl rfl (OpL.extract rfl rfl rfl) ?_
    refine .a rfl rfl rfl rfl ?_
    refine .a rfl rfl rfl rfl ?_
    refine .nil ?_
    refine W.ret ?_
    cases h
    exact leaves (.inr rfl) rfl (.tup _ _ _ _ (cC (.imm _) (cC (.imm _) .nil))) (cS (.ptr _ _ _ _ _ rfl (cC (.own _ _ _ _ rfl) (cC (.own _ _ _ _ rfl) (cC (.imm _) .nil)))) (cN .nil)) rfl rfl

noncomputable def fixnum_Plus.f (x0 : Int) (x1 : Int) : Option (Int × Int) :=
  if ((((decide (x0 > 0)) && (decide (x1 > 0))) && (decide ((IntKind.wrap .i64 (x0 + x1)) < 0))) || (((decide (x0 < 0)) && (decide (x1 < 0))) && (decide ((IntKind.wrap .i64 (x0 + x1)) ≥ 0)))) = true then
    some (0, 9)
  else
    some ((IntKind.wrap .i64 (x0 + x1)), 0)
set_option maxRecDepth 100000 in
set_option maxHeartbeats 4000000 in
theorem fixnum_Plus.ok {x0 : Int} {x1 : Int} {r : Int × Int} (h : fixnum_Plus.f x0 x1 = some r) : Pm.Spec prog 38 [.imm (.val (.int .i64 x0)), .imm (.val (.int .i64 x1))] (.tup [.imm (.val (.int .i64 r.1)), .imm (.val (.int .i64 r.2))]) [none, none] := by
 unfold fixnum_Plus.f at h
 refine Pm.Spec.of_body Try.func38 rfl (by kernel_rfl) (Nat.le_of_ble_eq_true rfl) (Nat.le_of_ble_eq_true rfl) ?_
 refine W.ghost (σ' := (mkSt [(0, some (.i x0)), (1, some (.i x1))] [] 1000)) (Gives.entry (.c rfl (.c rfl .n)) .n) ?_
 refine W.seq ?_
 refine W.pk ?_
 refine .a rfl rfl rfl rfl ?_
 refine .a rfl rfl rfl rfl ?_
 refine .nil ?_
 refine W.seq ?_
 refine W.pk ?_
 refine .m rfl rfl rfl rfl ?_
 refine .m rfl rfl rfl rfl ?_
 refine .v rfl rfl (OpL.binI rfl rfl rfl rfl) ?_
 refine .a rfl rfl rfl rfl ?_
 refine .nil ?_
 refine W.seq ?_
 refine W.seq ?_
 refine W.fork (mkSt [(6, some (.i (IntKind.wrap .i64 (x0 + x1)))), (31, some (.b ((((decide (x0 > 0)) && (decide (x1 > 0))) && (decide ((IntKind.wrap .i64 (x0 + x1)) < 0))) || (((decide (x0 < 0)) && (decide (x1 < 0))) && (decide ((IntKind.wrap .i64 (x0 + x1)) ≥ 0))))))] [] 1000) ?_ ?_
 ·refine W.cond rfl (fun q10 => ?_) (fun q10 => ?_)
  ·have h := ifT q10 h
   refine W.seq ?_
   refine W.pk ?_
   refine .a rfl rfl rfl rfl ?_
   refine .a rfl rfl rfl rfl ?_
   refine .nil ?_
   refine W.ret ?_
   cases h
   exact leaves (.inr rfl) rfl (.tup _ _ _ _ (cC (.imm _) (cC (.imm _) .nil))) (cN (cN .nil)) rfl rfl
  ·have h := ifF q10 h
   refine W.skip ?_
   refine W.seq ?_
   refine W.pk ?_
   refine .m rfl rfl rfl rfl ?_
   refine .a rfl rfl rfl rfl ?_
   refine .a rfl rfl rfl rfl ?_
   refine .nil ?_
   refine W.ret ?_
   cases h
   exact leaves (.inr rfl) rfl (.tup _ _ _ _ (cC (.imm _) (cC (.imm _) .nil))) (cN (cN .nil)) rfl rfl
 ·clear h
  rcases tf (decide (x0 > 0)) with g1 | g1
  ·rcases tf (decide (x1 > 0)) with g2 | g2
   ·rcases tf (decide ((IntKind.wrap .i64 (x0 + x1)) < 0)) with g3 | g3
    ·refine W.pk ?_
     refine .m rfl rfl rfl rfl ?_
     refine .v rfl rfl (OpL.binI rfl rfl rfl rfl) ?_
     refine .m rfl rfl rfl rfl ?_
     refine .m rfl (met rfl rfl rfl g1) rfl rfl ?_
     refine .v rfl (met rfl rfl rfl g1) (OpL.binI rfl rfl rfl rfl) ?_
     refine .v rfl rfl (O.pickT g1 rfl rfl rfl) ?_
     refine .m rfl rfl rfl rfl ?_
     refine .m rfl (met rfl rfl rfl g2) rfl rfl ?_
     refine .v rfl (met rfl rfl rfl g2) (OpL.binI rfl rfl rfl rfl) ?_
     refine .v rfl rfl (O.pickT g2 rfl rfl rfl) ?_
     refine .m rfl rfl rfl rfl ?_
     refine .x rfl (unmet rfl rfl rfl g3) ?_
     refine .x rfl (unmet rfl rfl rfl g3) ?_
     refine .x rfl (unmet rfl rfl rfl g3) ?_
     refine .x rfl (unmetU rfl rfl rfl) ?_
     refine .x rfl (unmetU rfl rfl rfl) ?_
     refine .x rfl (unmet rfl rfl rfl g3) ?_
     refine .x rfl (unmet rfl rfl rfl g3) ?_
     refine .x rfl (unmetU rfl rfl rfl) ?_
     refine .x rfl (unmetU rfl rfl rfl) ?_
     refine .x rfl (unmet rfl rfl rfl g3) ?_
     refine .v rfl rfl (O.pickT g3 rfl rfl rfl) ?_
     refine .nil ?_
     exact toN (Gives.mkR [] (.r rfl rfl (.c rfl (sbb (by first | (simp only [g1, g2, g3, Bool.true_or, Bool.or_true, Bool.false_or, Bool.or_false, Bool.true_and, Bool.and_true, Bool.false_and, Bool.and_false, Bool.not_true, Bool.not_false, cond_true, cond_false]; done) | (repeat (first | rw [g1] | rw [g2] | rw [g3])) <;> simp only [Bool.true_or, Bool.or_true, Bool.false_or, Bool.or_false, Bool.true_and, Bool.and_true, Bool.false_and, Bool.and_false, Bool.not_true, Bool.not_false, cond_true, cond_false])) rfl .n)) .n rfl rfl rfl)
    ·rcases tf (decide (x0 < 0)) with g4 | g4
     ·rcases tf (decide (x1 < 0)) with g5 | g5
      ·refine W.pk ?_
       refine .m rfl rfl rfl rfl ?_
       refine .v rfl rfl (OpL.binI rfl rfl rfl rfl) ?_
       refine .m rfl rfl rfl rfl ?_
       refine .m rfl (met rfl rfl rfl g1) rfl rfl ?_
       refine .v rfl (met rfl rfl rfl g1) (OpL.binI rfl rfl rfl rfl) ?_
       refine .v rfl rfl (O.pickT g1 rfl rfl rfl) ?_
       refine .m rfl rfl rfl rfl ?_
       refine .m rfl (met rfl rfl rfl g2) rfl rfl ?_
       refine .v rfl (met rfl rfl rfl g2) (OpL.binI rfl rfl rfl rfl) ?_
       refine .v rfl rfl (O.pickT g2 rfl rfl rfl) ?_
       refine .m rfl rfl rfl rfl ?_
       refine .m rfl (met rfl rfl rfl g3) rfl rfl ?_
       refine .v rfl (met rfl rfl rfl g3) (OpL.binI rfl rfl rfl rfl) ?_
       refine .m rfl (met rfl rfl rfl g3) rfl rfl ?_
       refine .m rfl (met rfl rfl rfl g4) rfl rfl ?_
       refine .v rfl (met rfl rfl rfl g4) (OpL.binI rfl rfl rfl rfl) ?_
       refine .v rfl (met rfl rfl rfl g3) (O.pickT g4 rfl rfl rfl) ?_
       refine .m rfl (met rfl rfl rfl g3) rfl rfl ?_
       refine .m rfl (met rfl rfl rfl g5) rfl rfl ?_
       refine .v rfl (met rfl rfl rfl g5) (OpL.binI rfl rfl rfl rfl) ?_
       refine .v rfl (met rfl rfl rfl g3) (O.pickT g5 rfl rfl rfl) ?_
       refine .v rfl rfl (O.pickF g3 rfl rfl rfl) ?_
       refine .nil ?_
       exact toN (Gives.mkR [] (.r rfl rfl (.c rfl (sbb (by first | (simp only [g1, g2, g3, g4, g5, Bool.true_or, Bool.or_true, Bool.false_or, Bool.or_false, Bool.true_and, Bool.and_true, Bool.false_and, Bool.and_false, Bool.not_true, Bool.not_false, cond_true, cond_false]; done) | (repeat (first | rw [g1] | rw [g2] | rw [g3] | rw [g4] | rw [g5])) <;> simp only [Bool.true_or, Bool.or_true, Bool.false_or, Bool.or_false, Bool.true_and, Bool.and_true, Bool.false_and, Bool.and_false, Bool.not_true, Bool.not_false, cond_true, cond_false])) rfl .n)) .n rfl rfl rfl)
      ·refine W.pk ?_
       refine .m rfl rfl rfl rfl ?_
       refine .v rfl rfl (OpL.binI rfl rfl rfl rfl) ?_
       refine .m rfl rfl rfl rfl ?_
       refine .m rfl (met rfl rfl rfl g1) rfl rfl ?_
       refine .v rfl (met rfl rfl rfl g1) (OpL.binI rfl rfl rfl rfl) ?_
       refine .v rfl rfl (O.pickT g1 rfl rfl rfl) ?_
       refine .m rfl rfl rfl rfl ?_
       refine .m rfl (met rfl rfl rfl g2) rfl rfl ?_
       refine .v rfl (met rfl rfl rfl g2) (OpL.binI rfl rfl rfl rfl) ?_
       refine .v rfl rfl (O.pickT g2 rfl rfl rfl) ?_
       refine .m rfl rfl rfl rfl ?_
       refine .m rfl (met rfl rfl rfl g3) rfl rfl ?_
       refine .v rfl (met rfl rfl rfl g3) (OpL.binI rfl rfl rfl rfl) ?_
       refine .m rfl (met rfl rfl rfl g3) rfl rfl ?_
       refine .m rfl (met rfl rfl rfl g4) rfl rfl ?_
       refine .v rfl (met rfl rfl rfl g4) (OpL.binI rfl rfl rfl rfl) ?_
       refine .v rfl (met rfl rfl rfl g3) (O.pickT g4 rfl rfl rfl) ?_
       refine .m rfl (met rfl rfl rfl g3) rfl rfl ?_
       refine .x rfl (unmet rfl rfl rfl g5) ?_
       refine .x rfl (unmet rfl rfl rfl g5) ?_
       refine .v rfl (met rfl rfl rfl g3) (O.pickF g5 rfl rfl rfl) ?_
       refine .v rfl rfl (O.pickF g3 rfl rfl rfl) ?_
       refine .nil ?_
       exact toN (Gives.mkR [] (.r rfl rfl (.c rfl (sbb (by first | (simp only [g1, g2, g3, g4, g5, Bool.true_or, Bool.or_true, Bool.false_or, Bool.or_false, Bool.true_and, Bool.and_true, Bool.false_and, Bool.and_false, Bool.not_true, Bool.not_false, cond_true, cond_false]; done) | (repeat (first | rw [g1] | rw [g2] | rw [g3] | rw [g4] | rw [g5])) <;> simp only [Bool.true_or, Bool.or_true, Bool.false_or, Bool.or_false, Bool.true_and, Bool.and_true, Bool.false_and, Bool.and_false, Bool.not_true, Bool.not_false, cond_true, cond_false])) rfl .n)) .n rfl rfl rfl)
     ·refine W.pk ?_
      refine .m rfl rfl rfl rfl ?_
      refine .v rfl rfl (OpL.binI rfl rfl rfl rfl) ?_
      refine .m rfl rfl rfl rfl ?_
      refine .m rfl (met rfl rfl rfl g1) rfl rfl ?_
      refine .v rfl (met rfl rfl rfl g1) (OpL.binI rfl rfl rfl rfl) ?_
      refine .v rfl rfl (O.pickT g1 rfl rfl rfl) ?_
      refine .m rfl rfl rfl rfl ?_
      refine .m rfl (met rfl rfl rfl g2) rfl rfl ?_
      refine .v rfl (met rfl rfl rfl g2) (OpL.binI rfl rfl rfl rfl) ?_
      refine .v rfl rfl (O.pickT g2 rfl rfl rfl) ?_
      refine .m rfl rfl rfl rfl ?_
      refine .m rfl (met rfl rfl rfl g3) rfl rfl ?_
      refine .v rfl (met rfl rfl rfl g3) (OpL.binI rfl rfl rfl rfl) ?_
      refine .m rfl (met rfl rfl rfl g3) rfl rfl ?_
      refine .x rfl (unmet rfl rfl rfl g4) ?_
      refine .x rfl (unmet rfl rfl rfl g4) ?_
      refine .v rfl (met rfl rfl rfl g3) (O.pickF g4 rfl rfl rfl) ?_
      refine .m rfl (met rfl rfl rfl g3) rfl rfl ?_
      refine .x rfl (unmet rfl rfl rfl rfl) ?_
      refine .x rfl (unmet rfl rfl rfl rfl) ?_
      refine .v rfl (met rfl rfl rfl g3) (O.pickF rfl rfl rfl rfl) ?_
      refine .v rfl rfl (O.pickF g3 rfl rfl rfl) ?_
      refine .nil ?_
      exact toN (Gives.mkR [] (.r rfl rfl (.c rfl (sbb (by first | (simp only [g1, g2, g3, g4, Bool.true_or, Bool.or_true, Bool.false_or, Bool.or_false, Bool.true_and, Bool.and_true, Bool.false_and, Bool.and_false, Bool.not_true, Bool.not_false, cond_true, cond_false]; done) | (repeat (first | rw [g1] | rw [g2] | rw [g3] | rw [g4])) <;> simp only [Bool.true_or, Bool.or_true, Bool.false_or, Bool.or_false, Bool.true_and, Bool.and_true, Bool.false_and, Bool.and_false, Bool.not_true, Bool.not_false, cond_true, cond_false])) rfl .n)) .n rfl rfl rfl)
   ·rcases tf (decide (x0 < 0)) with g6 | g6
    ·rcases tf (decide (x1 < 0)) with g7 | g7
     ·refine W.pk ?_
      refine .m rfl rfl rfl rfl ?_
      refine .v rfl rfl (OpL.binI rfl rfl rfl rfl) ?_
      refine .m rfl rfl rfl rfl ?_
      refine .m rfl (met rfl rfl rfl g1) rfl rfl ?_
      refine .v rfl (met rfl rfl rfl g1) (OpL.binI rfl rfl rfl rfl) ?_
      refine .v rfl rfl (O.pickT g1 rfl rfl rfl) ?_
      refine .m rfl rfl rfl rfl ?_
      refine .x rfl (unmet rfl rfl rfl g2) ?_
      refine .x rfl (unmet rfl rfl rfl g2) ?_
      refine .v rfl rfl (O.pickF g2 rfl rfl rfl) ?_
      refine .m rfl rfl rfl rfl ?_
      refine .m rfl (met rfl rfl rfl rfl) rfl rfl ?_
      refine .v rfl (met rfl rfl rfl rfl) (OpL.binI rfl rfl rfl rfl) ?_
      refine .m rfl (met rfl rfl rfl rfl) rfl rfl ?_
      refine .m rfl (met rfl rfl rfl g6) rfl rfl ?_
      refine .v rfl (met rfl rfl rfl g6) (OpL.binI rfl rfl rfl rfl) ?_
      refine .v rfl (met rfl rfl rfl rfl) (O.pickT g6 rfl rfl rfl) ?_
      refine .m rfl (met rfl rfl rfl rfl) rfl rfl ?_
      refine .m rfl (met rfl rfl rfl g7) rfl rfl ?_
      refine .v rfl (met rfl rfl rfl g7) (OpL.binI rfl rfl rfl rfl) ?_
      refine .v rfl (met rfl rfl rfl rfl) (O.pickT g7 rfl rfl rfl) ?_
      refine .v rfl rfl (O.pickF rfl rfl rfl rfl) ?_
      refine .nil ?_
      exact toN (Gives.mkR [] (.r rfl rfl (.c rfl (sbb (by first | (simp only [g1, g2, g6, g7, Bool.true_or, Bool.or_true, Bool.false_or, Bool.or_false, Bool.true_and, Bool.and_true, Bool.false_and, Bool.and_false, Bool.not_true, Bool.not_false, cond_true, cond_false]; done) | (repeat (first | rw [g1] | rw [g2] | rw [g6] | rw [g7])) <;> simp only [Bool.true_or, Bool.or_true, Bool.false_or, Bool.or_false, Bool.true_and, Bool.and_true, Bool.false_and, Bool.and_false, Bool.not_true, Bool.not_false, cond_true, cond_false])) rfl .n)) .n rfl rfl rfl)
     ·refine W.pk ?_
      refine .m rfl rfl rfl rfl ?_
      refine .v rfl rfl (OpL.binI rfl rfl rfl rfl) ?_
      refine .m rfl rfl rfl rfl ?_
      refine .m rfl (met rfl rfl rfl g1) rfl rfl ?_
      refine .v rfl (met rfl rfl rfl g1) (OpL.binI rfl rfl rfl rfl) ?_
      refine .v rfl rfl (O.pickT g1 rfl rfl rfl) ?_
      refine .m rfl rfl rfl rfl ?_
      refine .x rfl (unmet rfl rfl rfl g2) ?_
      refine .x rfl (unmet rfl rfl rfl g2) ?_
      refine .v rfl rfl (O.pickF g2 rfl rfl rfl) ?_
      refine .m rfl rfl rfl rfl ?_
      refine .m rfl (met rfl rfl rfl rfl) rfl rfl ?_
      refine .v rfl (met rfl rfl rfl rfl) (OpL.binI rfl rfl rfl rfl) ?_
      refine .m rfl (met rfl rfl rfl rfl) rfl rfl ?_
      refine .m rfl (met rfl rfl rfl g6) rfl rfl ?_
      refine .v rfl (met rfl rfl rfl g6) (OpL.binI rfl rfl rfl rfl) ?_
      refine .v rfl (met rfl rfl rfl rfl) (O.pickT g6 rfl rfl rfl) ?_
      refine .m rfl (met rfl rfl rfl rfl) rfl rfl ?_
      refine .x rfl (unmet rfl rfl rfl g7) ?_
      refine .x rfl (unmet rfl rfl rfl g7) ?_
      refine .v rfl (met rfl rfl rfl rfl) (O.pickF g7 rfl rfl rfl) ?_
      refine .v rfl rfl (O.pickF rfl rfl rfl rfl) ?_
      refine .nil ?_
      exact toN (Gives.mkR [] (.r rfl rfl (.c rfl (sbb (by first | (simp only [g1, g2, g6, g7, Bool.true_or, Bool.or_true, Bool.false_or, Bool.or_false, Bool.true_and, Bool.and_true, Bool.false_and, Bool.and_false, Bool.not_true, Bool.not_false, cond_true, cond_false]; done) | (repeat (first | rw [g1] | rw [g2] | rw [g6] | rw [g7])) <;> simp only [Bool.true_or, Bool.or_true, Bool.false_or, Bool.or_false, Bool.true_and, Bool.and_true, Bool.false_and, Bool.and_false, Bool.not_true, Bool.not_false, cond_true, cond_false])) rfl .n)) .n rfl rfl rfl)
    ·refine W.pk ?_
     refine .m rfl rfl rfl rfl ?_
     refine .v rfl rfl (OpL.binI rfl rfl rfl rfl) ?_
     refine .m rfl rfl rfl rfl ?_
     refine .m rfl (met rfl rfl rfl g1) rfl rfl ?_
     refine .v rfl (met rfl rfl rfl g1) (OpL.binI rfl rfl rfl rfl) ?_
     refine .v rfl rfl (O.pickT g1 rfl rfl rfl) ?_
     refine .m rfl rfl rfl rfl ?_
     refine .x rfl (unmet rfl rfl rfl g2) ?_
     refine .x rfl (unmet rfl rfl rfl g2) ?_
     refine .v rfl rfl (O.pickF g2 rfl rfl rfl) ?_
     refine .m rfl rfl rfl rfl ?_
     refine .m rfl (met rfl rfl rfl rfl) rfl rfl ?_
     refine .v rfl (met rfl rfl rfl rfl) (OpL.binI rfl rfl rfl rfl) ?_
     refine .m rfl (met rfl rfl rfl rfl) rfl rfl ?_
     refine .x rfl (unmet rfl rfl rfl g6) ?_
     refine .x rfl (unmet rfl rfl rfl g6) ?_
     refine .v rfl (met rfl rfl rfl rfl) (O.pickF g6 rfl rfl rfl) ?_
     refine .m rfl (met rfl rfl rfl rfl) rfl rfl ?_
     refine .x rfl (unmet rfl rfl rfl rfl) ?_
     refine .x rfl (unmet rfl rfl rfl rfl) ?_
     refine .v rfl (met rfl rfl rfl rfl) (O.pickF rfl rfl rfl rfl) ?_
     refine .v rfl rfl (O.pickF rfl rfl rfl rfl) ?_
     refine .nil ?_
     exact toN (Gives.mkR [] (.r rfl rfl (.c rfl (sbb (by first | (simp only [g1, g2, g6, Bool.true_or, Bool.or_true, Bool.false_or, Bool.or_false, Bool.true_and, Bool.and_true, Bool.false_and, Bool.and_false, Bool.not_true, Bool.not_false, cond_true, cond_false]; done) | (repeat (first | rw [g1] | rw [g2] | rw [g6])) <;> simp only [Bool.true_or, Bool.or_true, Bool.false_or, Bool.or_false, Bool.true_and, Bool.and_true, Bool.false_and, Bool.and_false, Bool.not_true, Bool.not_false, cond_true, cond_false])) rfl .n)) .n rfl rfl rfl)
  ·rcases tf (decide (x0 < 0)) with g8 | g8
   ·rcases tf (decide (x1 < 0)) with g9 | g9
    ·refine W.pk ?_
     refine .m rfl rfl rfl rfl ?_
     refine .v rfl rfl (OpL.binI rfl rfl rfl rfl) ?_
     refine .m rfl rfl rfl rfl ?_
     refine .x rfl (unmet rfl rfl rfl g1) ?_
     refine .x rfl (unmet rfl rfl rfl g1) ?_
     refine .v rfl rfl (O.pickF g1 rfl rfl rfl) ?_
     refine .m rfl rfl rfl rfl ?_
     refine .x rfl (unmet rfl rfl rfl rfl) ?_
     refine .x rfl (unmet rfl rfl rfl rfl) ?_
     refine .v rfl rfl (O.pickF rfl rfl rfl rfl) ?_
     refine .m rfl rfl rfl rfl ?_
     refine .m rfl (met rfl rfl rfl rfl) rfl rfl ?_
     refine .v rfl (met rfl rfl rfl rfl) (OpL.binI rfl rfl rfl rfl) ?_
     refine .m rfl (met rfl rfl rfl rfl) rfl rfl ?_
     refine .m rfl (met rfl rfl rfl g8) rfl rfl ?_
     refine .v rfl (met rfl rfl rfl g8) (OpL.binI rfl rfl rfl rfl) ?_
     refine .v rfl (met rfl rfl rfl rfl) (O.pickT g8 rfl rfl rfl) ?_
     refine .m rfl (met rfl rfl rfl rfl) rfl rfl ?_
     refine .m rfl (met rfl rfl rfl g9) rfl rfl ?_
     refine .v rfl (met rfl rfl rfl g9) (OpL.binI rfl rfl rfl rfl) ?_
     refine .v rfl (met rfl rfl rfl rfl) (O.pickT g9 rfl rfl rfl) ?_
     refine .v rfl rfl (O.pickF rfl rfl rfl rfl) ?_
     refine .nil ?_
     exact toN (Gives.mkR [] (.r rfl rfl (.c rfl (sbb (by first | (simp only [g1, g8, g9, Bool.true_or, Bool.or_true, Bool.false_or, Bool.or_false, Bool.true_and, Bool.and_true, Bool.false_and, Bool.and_false, Bool.not_true, Bool.not_false, cond_true, cond_false]; done) | (repeat (first | rw [g1] | rw [g8] | rw [g9])) <;> simp only [Bool.true_or, Bool.or_true, Bool.false_or, Bool.or_false, Bool.true_and, Bool.and_true, Bool.false_and, Bool.and_false, Bool.not_true, Bool.not_false, cond_true, cond_false])) rfl .n)) .n rfl rfl rfl)
    ·refine W.pk ?_
     refine .m rfl rfl rfl rfl ?_
     refine .v rfl rfl (OpL.binI rfl rfl rfl rfl) ?_
     refine .m rfl rfl rfl rfl ?_
     refine .x rfl (unmet rfl rfl rfl g1) ?_
     refine .x rfl (unmet rfl rfl rfl g1) ?_
     refine .v rfl rfl (O.pickF g1 rfl rfl rfl) ?_
     refine .m rfl rfl rfl rfl ?_
     refine .x rfl (unmet rfl rfl rfl rfl) ?_
     refine .x rfl (unmet rfl rfl rfl rfl) ?_
     refine .v rfl rfl (O.pickF rfl rfl rfl rfl) ?_
     refine .m rfl rfl rfl rfl ?_
     refine .m rfl (met rfl rfl rfl rfl) rfl rfl ?_
     refine .v rfl (met rfl rfl rfl rfl) (OpL.binI rfl rfl rfl rfl) ?_
     refine .m rfl (met rfl rfl rfl rfl) rfl rfl ?_
     refine .m rfl (met rfl rfl rfl g8) rfl rfl ?_
     refine .v rfl (met rfl rfl rfl g8) (OpL.binI rfl rfl rfl rfl) ?_
     refine .v rfl (met rfl rfl rfl rfl) (O.pickT g8 rfl rfl rfl) ?_
     refine .m rfl (met rfl rfl rfl rfl) rfl rfl ?_
     refine .x rfl (unmet rfl rfl rfl g9) ?_
     refine .x rfl (unmet rfl rfl rfl g9) ?_
     refine .v rfl (met rfl rfl rfl rfl) (O.pickF g9 rfl rfl rfl) ?_
     refine .v rfl rfl (O.pickF rfl rfl rfl rfl) ?_
     refine .nil ?_
     exact toN (Gives.mkR [] (.r rfl rfl (.c rfl (sbb (by first | (simp only [g1, g8, g9, Bool.true_or, Bool.or_true, Bool.false_or, Bool.or_false, Bool.true_and, Bool.and_true, Bool.false_and, Bool.and_false, Bool.not_true, Bool.not_false, cond_true, cond_false]; done) | (repeat (first | rw [g1] | rw [g8] | rw [g9])) <;> simp only [Bool.true_or, Bool.or_true, Bool.false_or, Bool.or_false, Bool.true_and, Bool.and_true, Bool.false_and, Bool.and_false, Bool.not_true, Bool.not_false, cond_true, cond_false])) rfl .n)) .n rfl rfl rfl)
   ·refine W.pk ?_
    refine .m rfl rfl rfl rfl ?_
    refine .v rfl rfl (OpL.binI rfl rfl rfl rfl) ?_
    refine .m rfl rfl rfl rfl ?_
    refine .x rfl (unmet rfl rfl rfl g1) ?_
    refine .x rfl (unmet rfl rfl rfl g1) ?_
    refine .v rfl rfl (O.pickF g1 rfl rfl rfl) ?_
    refine .m rfl rfl rfl rfl ?_
    refine .x rfl (unmet rfl rfl rfl rfl) ?_
    refine .x rfl (unmet rfl rfl rfl rfl) ?_
    refine .v rfl rfl (O.pickF rfl rfl rfl rfl) ?_
    refine .m rfl rfl rfl rfl ?_
    refine .m rfl (met rfl rfl rfl rfl) rfl rfl ?_
    refine .v rfl (met rfl rfl rfl rfl) (OpL.binI rfl rfl rfl rfl) ?_
    refine .m rfl (met rfl rfl rfl rfl) rfl rfl ?_
    refine .x rfl (unmet rfl rfl rfl g8) ?_
    refine .x rfl (unmet rfl rfl rfl g8) ?_
    refine .v rfl (met rfl rfl rfl rfl) (O.pickF g8 rfl rfl rfl) ?_
    refine .m rfl (met rfl rfl rfl rfl) rfl rfl ?_
    refine .x rfl (unmet rfl rfl rfl rfl) ?_
    refine .x rfl (unmet rfl rfl rfl rfl) ?_
    refine .v rfl (met rfl rfl rfl rfl) (O.pickF rfl rfl rfl rfl) ?_
    refine .v rfl rfl (O.pickF rfl rfl rfl rfl) ?_
    refine .nil ?_
    exact toN (Gives.mkR [] (.r rfl rfl (.c rfl (sbb (by first | (simp only [g1, g8, Bool.true_or, Bool.or_true, Bool.false_or, Bool.or_false, Bool.true_and, Bool.and_true, Bool.false_and, Bool.and_false, Bool.not_true, Bool.not_false, cond_true, cond_false]; done) | (repeat (first | rw [g1] | rw [g8])) <;> simp only [Bool.true_or, Bool.or_true, Bool.false_or, Bool.or_false, Bool.true_and, Bool.and_true, Bool.false_and, Bool.and_false, Bool.not_true, Bool.not_false, cond_true, cond_false])) rfl .n)) .n rfl rfl rfl)

noncomputable def asset_Book_Total.b0 (x0 : asset_Book) (x1 : List api_Lot) (v16 : Int) (v17 : Int) : Option ((Int × Int) ⊕ ((Int × Int) ⊕ Int)) :=
  if (decide (v17 < (List.length x1 : Int))) = true then
    if (0 : Int) ≤ v17 ∧ v17 < (List.length x1 : Int) then
    (asset_Book_Value.f x0 (nth x1 v17)).bind fun t54 =>
    ((
      if (t54.2 == 0) = true then
        (fixnum_Plus.f v16 t54.1).bind fun t64 =>
        some (t64.1, t64.2)
      else
        some (v16, t54.2) : Option (Int × Int))).bind fun o61 =>
    if (o61.2 != 0) = true then
      some (.inr (.inl (0, o61.2)))
    else
      some (.inl (o61.1, (IntKind.wrap .i64 (v17 + 1))))
    else none
  else
    some (.inr (.inr v16))
noncomputable def asset_Book_Total.r0 (x0 : asset_Book) (x1 : List api_Lot) (s : Int × Int) : Option ((Int × Int) ⊕ ((Int × Int) ⊕ Int)) := asset_Book_Total.b0 x0 x1 s.1 s.2
noncomputable def asset_Book_Total.f (x0 : asset_Book) (x1 : List api_Lot) : Option (Int × Int) :=
  (loop (asset_Book_Total.r0 x0 x1) (0, 0)).bind fun o49 =>
  match o49 with
  | .inl r67 => some r67
  | .inr w48 =>
    some (w48, 0)
set_option maxRecDepth 100000 in
set_option maxHeartbeats 4000000 in
theorem asset_Book_Total.ok {x0 : asset_Book} {x1 : List api_Lot} {r : Int × Int} (h : asset_Book_Total.f x0 x1 = some r) : Pm.Spec prog 24 [.xbox [.xown 29 5 (List.map api_Asset.enc x0.l), .xown 3 1 (List.map (encI .i64) x0.prices), .imm (.val (.bool x0.made))], .imm (.row 2 (List.map api_Lot.enc x1))] (.tup [.imm (.val (.int .i64 r.1)), .imm (.val (.int .i64 r.2))]) [some (.xbox [.xown 29 5 (List.map api_Asset.enc x0.l), .xown 3 1 (List.map (encI .i64) x0.prices), .imm (.val (.bool x0.made))]), none] := by
 unfold asset_Book_Total.f at h
 refine Pm.Spec.of_body Try.func24 rfl (by kernel_rfl) (Nat.le_of_ble_eq_true rfl) (Nat.le_of_ble_eq_true rfl) ?_
 refine W.ghost (σ' := (mkSt [(0, some (.ptr 0 0)), (1, some (.imm (.row 2 (List.map api_Lot.enc x1))))] [(0, some (.box [.own 1, .own 2, .b x0.made])), (1, some (.rows 29 5 (List.map api_Asset.enc x0.l) false)), (2, some (.rows 3 1 (List.map (encI .i64) x0.prices) false))] 1000)) (Gives.entry (.c rfl (.c rfl .n)) (.c rfl (.c rfl (.c rfl .n)))) ?_
 refine W.ghost (σ' := (mkSt [(0, some (.ptr 0 0)), (1, some (.imm (.row 2 (List.map api_Lot.enc x1))))] [(0, some (.box [.own 1000, .own 1001, .b x0.made])), (1000, some (.rows 29 5 (List.map api_Asset.enc x0.l) false)), (1001, some (.rows 3 1 (List.map (encI .i64) x0.prices) false))] 1002)) (Gives.mkR [(1000, 1), (1001, 2)] (.r rfl rfl (.r rfl rfl .n)) (.r rfl rfl rfl (.r rfl rfl rfl (.r rfl rfl rfl .n))) rfl rfl rfl) ?_
 refine W.seq ?_
 refine W.pk ?_
 refine .a rfl rfl rfl rfl ?_
 refine .a rfl rfl rfl rfl ?_
 refine .nil ?_
 refine W.seq ?_
 refine W.pk ?_
 refine .a rfl rfl rfl rfl ?_
 refine .nil ?_
 refine W.seq ?_
 refine W.seq ?_
 refine W.pk ?_
 refine .m rfl rfl rfl rfl ?_
 refine .v rfl rfl (O.lenR sl56 rfl rfl) ?_
 refine .m rfl rfl rfl rfl ?_
 refine .nil ?_
 obtain ⟨o49, b50, z51⟩ := bnd1 h
 refine W.fork2 (out := o49) (fun (w48 : Int) => mkSt [(6, some (.i w48))] [(0, some (.box [.own 1000, .own 1001, .b x0.made])), (1000, some (.rows 29 5 (List.map api_Asset.enc x0.l) false)), (1001, some (.rows 3 1 (List.map (encI .i64) x0.prices) false))] 1002) ?_ ?_
 ·clear h
  refine W.block ?_
  refine W.loopF (fun (s_ : Int × Int) => mkSt [(0, some (.ptr 0 0)), (6, some (.i s_.1)), (11, some (.imm (.row 2 (List.map api_Lot.enc x1)))), (12, some (.i (List.length x1 : Int))), (13, some (.i s_.2))] [(0, some (.box [.own 1000, .own 1001, .b x0.made])), (1000, some (.rows 29 5 (List.map api_Asset.enc x0.l) false)), (1001, some (.rows 3 1 (List.map (encI .i64) x0.prices) false))] 1002) b50 (Gives.mkR [] (.r rfl rfl (.r rfl rfl (.r rfl rfl (.r rfl rfl (.r rfl rfl .n))))) (.r rfl rfl rfl (.r rfl rfl rfl (.r rfl rfl rfl .n))) rfl rfl rfl) ?_
  rintro ⟨v16, v17⟩ s_ hr
  have h : asset_Book_Total.b0 x0 x1 v16 v17 = some s_ := hr
  unfold asset_Book_Total.b0 at h
  refine W.seq ?_
  refine W.pk ?_
  refine .v rfl rfl (OpL.binI rfl rfl rfl rfl) ?_
  refine .nil ?_
  refine W.seq ?_
  refine W.cond rfl (fun q52 => ?_) (fun q52 => ?_)
  ·have h := ifT q52 h
   refine W.skip ?_
   refine W.seq ?_
   refine W.block ?_
   refine W.seq ?_
   obtain ⟨c53, h⟩ := chk h
   refine W.pk ?_
   refine .v rfl rfl (O.idx sl56 c53 rfl rfl rfl) ?_
   refine .v rfl rfl (O.ldN ty63 rfl rfl rfl) ?_
   refine .t rfl rfl (O.alloc z63 rfl) ?_
   refine .s rfl rfl (O.st ty63 rfl rfl rfl rfl rfl rfl rfl rfl rfl rfl (all' := [.s ((nth x1 v17).ISIN), .i ((nth x1 v17).Qty)]) rfl) ?_
   refine .nil ?_
   refine W.seq ?_
   obtain ⟨t54, b55, h⟩ := bnd1 h
   refine W.pk ?_
   refine .m rfl rfl rfl rfl ?_
   refine .v rfl rfl (O.ldN ty63 rfl rfl rfl) ?_
   refine .call (.tup [.i t54.1, .i t54.2]) [(0, some (.box [.own 1003, .own 1004, .b x0.made])), (1003, some (.rows 29 5 (List.map api_Asset.enc x0.l) false)), (1004, some (.rows 3 1 (List.map (encI .i64) x0.prices) false)), (0, none), (1000, none), (1001, none)] 2 (asset_Book_Value.ok b55) rfl rfl rfl ca26 rfl rfl (cC (.ptr _ _ _ _ _ rfl (cC (.own _ _ _ _ rfl) (cC (.own _ _ _ _ rfl) (cC (.imm _) .nil)))) (cC (.agg _ _ _ _ (cC (.imm _) (cC (.imm _) .nil))) .nil)) rfl rfl rfl rfl rfl ?_
   refine .m rfl rfl rfl rfl ?_
   refine .v rfl rfl (OpL.extract rfl rfl rfl) ?_
   refine .v rfl rfl (OpL.extract rfl rfl rfl) ?_
   refine .a rfl rfl rfl rfl ?_
   refine .a rfl rfl rfl rfl ?_
   refine .nil ?_
   refine W.seq ?_
   refine W.seq ?_
   refine W.pk ?_
   refine .m rfl rfl rfl rfl ?_
   refine .v rfl rfl (OpL.binI rfl rfl rfl rfl) ?_
   refine .nil ?_
   obtain ⟨o61, b62, h⟩ := bnd1 h
   refine W.fork (mkSt [(0, some (.ptr 0 0)), (6, some (.i o61.1)), (10, some (.i o61.2)), (11, some (.imm (.row 2 (List.map api_Lot.enc x1)))), (12, some (.i (List.length x1 : Int))), (13, some (.i v17))] [(0, some (.box [.own 1003, .own 1004, .b x0.made])), (1003, some (.rows 29 5 (List.map api_Asset.enc x0.l) false)), (1004, some (.rows 3 1 (List.map (encI .i64) x0.prices) false))] 1005) ?_ ?_
   ·refine W.seq ?_
    refine W.pk ?_
    refine .m rfl rfl rfl rfl ?_
    refine .v rfl rfl (OpL.binI rfl rfl rfl rfl) ?_
    refine .nil ?_
    refine W.cond rfl (fun q66 => ?_) (fun q66 => ?_)
    ·have h := ifT q66 h
     refine W.seq ?_
     refine W.pk ?_
     refine .m rfl rfl rfl rfl ?_
     refine .a rfl rfl rfl rfl ?_
     refine .a rfl rfl rfl rfl ?_
     refine .nil ?_
     refine W.ret ?_
     cases h
     refine rdR fun e_ => ?_
     subst e_
     have h := z51
     dsimp only at h
     refine fkR ?_
     cases h
     exact leaves (.inr rfl) rfl (.tup _ _ _ _ (cC (.imm _) (cC (.imm _) .nil))) (cS (.ptr _ _ _ _ _ rfl (cC (.own _ _ _ _ rfl) (cC (.own _ _ _ _ rfl) (cC (.imm _) .nil)))) (cN .nil)) rfl rfl
    ·have h := ifF q66 h
     refine W.skip ?_
     refine W.pk ?_
     refine .v rfl rfl (OpL.binI rfl rfl rfl rfl) ?_
     refine .m rfl rfl rfl rfl ?_
     refine .nil ?_
     cases h
     exact rdN (Gives.mkR [(1000, 1003), (1001, 1004)] (.r rfl rfl (.r rfl rfl (.r rfl rfl (.r rfl rfl (.r rfl rfl .n))))) (.r rfl rfl rfl (.r rfl rfl rfl (.r rfl rfl rfl .n))) rfl rfl rfl)
   ·clear h
    have h := b62
    refine W.cond rfl (fun q63 => ?_) (fun q63 => ?_)
    ·have h := ifT q63 h
     obtain ⟨t64, b65, h⟩ := bnd1 h
     refine W.pk ?_
     refine .m rfl rfl rfl rfl ?_
     refine .m rfl rfl rfl rfl ?_
     refine .call (.tup [.i t64.1, .i t64.2]) [] 0 (fixnum_Plus.ok b65) rfl rfl rfl ca38 rfl rfl (cC (.imm _) (cC (.imm _) .nil)) rfl rfl rfl rfl rfl ?_
     refine .m rfl rfl rfl rfl ?_
     refine .v rfl rfl (OpL.extract rfl rfl rfl) ?_
     refine .v rfl rfl (OpL.extract rfl rfl rfl) ?_
     refine .a rfl rfl rfl rfl ?_
     refine .a rfl rfl rfl rfl ?_
     refine .nil ?_
     cases h
     exact toN (Gives.mkR [] (.r rfl rfl (.r rfl rfl (.r rfl rfl (.r rfl rfl (.r rfl rfl (.r rfl rfl .n)))))) (.r rfl rfl rfl (.r rfl rfl rfl (.r rfl rfl rfl .n))) rfl rfl rfl)
    ·have h := ifF q63 h
     refine W.skip ?_
     cases h
     exact toN (Gives.mkR [] (.r rfl rfl (.r rfl rfl (.r rfl rfl (.r rfl rfl (.r rfl rfl (.r rfl rfl .n)))))) (.r rfl rfl rfl (.r rfl rfl rfl (.r rfl rfl rfl .n))) rfl rfl rfl)
  ·have h := ifF q52 h
   refine W.exit ?_
   cases h
   refine rdX fun e_ => ?_
   subst e_
   repeat with_reducible refine thru ?_
   refine hit ?_
   exact fkN (Gives.mkR [] (.r rfl rfl .n) (.r rfl rfl rfl (.r rfl rfl rfl (.r rfl rfl rfl .n))) rfl rfl rfl)
 ·intro w48 e_
  subst e_
  clear h
  have h := z51
  dsimp only at h
  refine W.seq ?_
  refine W.pk ?_
  refine .m rfl rfl rfl rfl ?_
  refine .a rfl rfl rfl rfl ?_
  refine .a rfl rfl rfl rfl ?_
  refine .nil ?_
  refine W.ret ?_
  cases h
  exact leaves (.inr rfl) rfl (.tup _ _ _ _ (cC (.imm _) (cC (.imm _) .nil))) (cS (.ptr _ _ _ _ _ rfl (cC (.own _ _ _ _ rfl) (cC (.own _ _ _ _ rfl) (cC (.imm _) .nil)))) (cN .nil)) rfl rfl

noncomputable def lombardref13_Value.f (x0 : List lombardref13_Known) (x1 : api_Lot) : Option (Int × Int) :=
  (lombardref13_Find.f x0 x1.ISIN).bind fun t1 =>
  if (decide (t1 < 0)) = true then
    some (0, 21)
  else
    if (0 : Int) ≤ t1 ∧ t1 < (List.length x0 : Int) then
    if (((nth x0 t1).Price) == 0) = true then
      some (0, 31)
    else
      if (0 : Int) ≤ t1 ∧ t1 < (List.length x0 : Int) then
      (lombardref13_Worth.f x1.Qty ((nth x0 t1).Price)).bind fun t7 =>
      some (t7.1, t7.2)
      else none
    else none
set_option maxRecDepth 100000 in
set_option maxHeartbeats 4000000 in
theorem lombardref13_Value.ok {x0 : List lombardref13_Known} {x1 : api_Lot} {r : Int × Int} (h : lombardref13_Value.f x0 x1 = some r) : Pm.Spec prog 27 [.xown 46 6 (List.map lombardref13_Known.enc x0), .agg [.imm (.val (.string (tx x1.ISIN))), .imm (.val (.int .i64 x1.Qty))]] (.tup [.imm (.val (.int .i64 r.1)), .imm (.val (.int .i64 r.2))]) [some (.xown 46 6 (List.map lombardref13_Known.enc x0)), none] := by
 unfold lombardref13_Value.f at h
 refine Pm.Spec.of_body Try.func27 rfl (by kernel_rfl) (Nat.le_of_ble_eq_true rfl) (Nat.le_of_ble_eq_true rfl) ?_
 refine W.ghost (σ' := (mkSt [(0, some (.own 0)), (1, some (.agg [.s x1.ISIN, .i x1.Qty]))] [(0, some (.rows 46 6 (List.map lombardref13_Known.enc x0) false))] 1000)) (Gives.entry (.c rfl (.c rfl .n)) (.c rfl .n)) ?_
 refine W.seq ?_
 refine W.pk ?_
 refine .t rfl rfl (O.box rfl rfl rfl rfl rfl) ?_
 refine .a rfl rfl rfl rfl ?_
 refine .a rfl rfl rfl rfl ?_
 refine .nil ?_
 refine W.seq ?_
 obtain ⟨t1, b2, h⟩ := bnd1 h
 refine W.pk ?_
 refine .m rfl rfl rfl rfl ?_
 refine .v rfl rfl (O.fld fld63_0 rfl rfl rfl) ?_
 refine .v rfl rfl (O.ld (y := .s x1.ISIN) ty9 rfl rfl rfl) ?_
 refine .call (.i t1) [(0, some (.rows 46 6 (List.map lombardref13_Known.enc x0) false)), (0, none)] 0 (lombardref13_Find.ok b2) rfl rfl rfl ca17 rfl rfl (cC (.own _ _ _ _ rfl) (cC (.imm _) .nil)) rfl rfl rfl rfl rfl ?_
 refine .a rfl rfl rfl rfl ?_
 refine .nil ?_
 refine W.seq ?_
 refine W.seq ?_
 refine W.pk ?_
 refine .m rfl rfl rfl rfl ?_
 refine .v rfl rfl (OpL.binI rfl rfl rfl rfl) ?_
 refine .nil ?_
 refine W.cond rfl (fun q3 => ?_) (fun q3 => ?_)
 ·have h := ifT q3 h
  refine W.seq ?_
  refine W.pk ?_
  refine .a rfl rfl rfl rfl ?_
  refine .a rfl rfl rfl rfl ?_
  refine .nil ?_
  refine W.ret ?_
  cases h
  exact leaves (.inr rfl) rfl (.tup _ _ _ _ (cC (.imm _) (cC (.imm _) .nil))) (cS (.own _ _ _ _ rfl) (cN .nil)) rfl rfl
 ·have h := ifF q3 h
  refine W.skip ?_
  refine W.seq ?_
  refine W.seq ?_
  obtain ⟨c4, h⟩ := chk h
  refine W.pk ?_
  refine .m rfl rfl rfl rfl ?_
  refine .m rfl rfl rfl rfl ?_
  refine .v rfl rfl (O.idxO sl31 c4 rfl rfl rfl rfl) ?_
  refine .v rfl rfl (O.fld fld46_1 rfl rfl rfl) ?_
  refine .v rfl rfl (O.ldE (c := (.val (.int .i64 ((nth x0 t1).Price)))) ty3 c4 rfl rfl rfl rfl rfl) ?_
  refine .v rfl rfl (OpL.binI rfl rfl rfl rfl) ?_
  refine .nil ?_
  refine W.cond rfl (fun q5 => ?_) (fun q5 => ?_)
  ·have h := ifT q5 h
   refine W.seq ?_
   refine W.pk ?_
   refine .a rfl rfl rfl rfl ?_
   refine .a rfl rfl rfl rfl ?_
   refine .nil ?_
   refine W.ret ?_
   cases h
   exact leaves (.inr rfl) rfl (.tup _ _ _ _ (cC (.imm _) (cC (.imm _) .nil))) (cS (.own _ _ _ _ rfl) (cN .nil)) rfl rfl
  ·have h := ifF q5 h
   refine W.skip ?_
   refine W.seq ?_
   obtain ⟨c6, h⟩ := chk h
   obtain ⟨t7, b8, h⟩ := bnd1 h
   refine W.dk (unm 12 [0, 1, 0, 0, 12, 28, 60, 127, 255, 255, 1023, 2047]) rfl (by kernel_rfl) ?_
   refine .v rfl rfl (O.fld fld63_1 rfl rfl rfl) ?_
   refine .v rfl rfl (O.ld (y := .i x1.Qty) ty3 rfl rfl rfl) ?_
   refine .m rfl rfl rfl rfl ?_
   refine .m rfl rfl rfl rfl ?_
   refine .v rfl rfl (O.idxO sl31 c6 rfl rfl rfl rfl) ?_
   refine .v rfl rfl (O.fld fld46_1 rfl rfl rfl) ?_
   refine .v rfl rfl (O.ldE (c := (.val (.int .i64 ((nth x0 t1).Price)))) ty3 c6 rfl rfl rfl rfl rfl) ?_
   refine .call (.tup [.i t7.1, .i t7.2]) [] 0 (lombardref13_Worth.ok b8) rfl rfl rfl ca23 rfl rfl (cC (.imm _) (cC (.imm _) .nil)) rfl rfl rfl rfl rfl ?_
   refine .v rfl rfl (OpL.extract rfl rfl rfl) ?_
   refine .v rfl rfl (OpL.extract rfl rfl rfl) ?_
   refine .a rfl rfl rfl rfl ?_
   refine .a rfl rfl rfl rfl ?_
   refine .nil ?_
   refine ⟨by kernel_rfl, by kernel_rfl, ?_⟩
   refine W.ret ?_
   cases h
   exact leaves (.inr rfl) rfl (.tup _ _ _ _ (cC (.imm _) (cC (.imm _) .nil))) (cS (.own _ _ _ _ rfl) (cN .nil)) rfl rfl

noncomputable def lombardref01_Plus.f (x0 : Int) (x1 : Int) : Option (Int × Int) :=
  if (((decide (x1 > 0)) && (decide (x0 > (IntKind.wrap .i64 (9223372036854775807 - x1))))) || ((decide (x1 < 0)) && (decide (x0 < (IntKind.wrap .i64 ((-9223372036854775808) - x1)))))) = true then
    some (0, 9)
  else
    some ((IntKind.wrap .i64 (x0 + x1)), 0)
set_option maxRecDepth 100000 in
set_option maxHeartbeats 4000000 in
theorem lombardref01_Plus.ok {x0 : Int} {x1 : Int} {r : Int × Int} (h : lombardref01_Plus.f x0 x1 = some r) : Pm.Spec prog 39 [.imm (.val (.int .i64 x0)), .imm (.val (.int .i64 x1))] (.tup [.imm (.val (.int .i64 r.1)), .imm (.val (.int .i64 r.2))]) [none, none] := by
 unfold lombardref01_Plus.f at h
 refine Pm.Spec.of_body Try.func39 rfl (by kernel_rfl) (Nat.le_of_ble_eq_true rfl) (Nat.le_of_ble_eq_true rfl) ?_
 refine W.ghost (σ' := (mkSt [(0, some (.i x0)), (1, some (.i x1))] [] 1000)) (Gives.entry (.c rfl (.c rfl .n)) .n) ?_
 refine W.seq ?_
 refine W.pk ?_
 refine .a rfl rfl rfl rfl ?_
 refine .a rfl rfl rfl rfl ?_
 refine .nil ?_
 refine W.seq ?_
 refine W.seq ?_
 refine W.fork (mkSt [(0, some (.i x0)), (1, some (.i x1)), (23, some (.b (((decide (x1 > 0)) && (decide (x0 > (IntKind.wrap .i64 (9223372036854775807 - x1))))) || ((decide (x1 < 0)) && (decide (x0 < (IntKind.wrap .i64 ((-9223372036854775808) - x1))))))))] [] 1000) ?_ ?_
 ·refine W.cond rfl (fun q5 => ?_) (fun q5 => ?_)
  ·have h := ifT q5 h
   refine W.seq ?_
   refine W.pk ?_
   refine .a rfl rfl rfl rfl ?_
   refine .a rfl rfl rfl rfl ?_
   refine .nil ?_
   refine W.ret ?_
   cases h
   exact leaves (.inr rfl) rfl (.tup _ _ _ _ (cC (.imm _) (cC (.imm _) .nil))) (cN (cN .nil)) rfl rfl
  ·have h := ifF q5 h
   refine W.skip ?_
   refine W.seq ?_
   refine W.pk ?_
   refine .m rfl rfl rfl rfl ?_
   refine .m rfl rfl rfl rfl ?_
   refine .v rfl rfl (OpL.binI rfl rfl rfl rfl) ?_
   refine .a rfl rfl rfl rfl ?_
   refine .a rfl rfl rfl rfl ?_
   refine .nil ?_
   refine W.ret ?_
   cases h
   exact leaves (.inr rfl) rfl (.tup _ _ _ _ (cC (.imm _) (cC (.imm _) .nil))) (cN (cN .nil)) rfl rfl
 ·clear h
  rcases tf (decide (x1 > 0)) with g1 | g1
  ·rcases tf (decide (x0 > (IntKind.wrap .i64 (9223372036854775807 - x1)))) with g2 | g2
   ·refine W.pk ?_
    refine .m rfl rfl rfl rfl ?_
    refine .v rfl rfl (OpL.binI rfl rfl rfl rfl) ?_
    refine .m rfl rfl rfl rfl ?_
    refine .m rfl (met rfl rfl rfl g1) rfl rfl ?_
    refine .m rfl (met rfl rfl rfl g1) rfl rfl ?_
    refine .v rfl (met rfl rfl rfl g1) (OpL.binI rfl rfl rfl rfl) ?_
    refine .v rfl (met rfl rfl rfl g1) (OpL.binI rfl rfl rfl rfl) ?_
    refine .v rfl rfl (O.pickT g1 rfl rfl rfl) ?_
    refine .m rfl rfl rfl rfl ?_
    refine .x rfl (unmet rfl rfl rfl g2) ?_
    refine .x rfl (unmet rfl rfl rfl g2) ?_
    refine .x rfl (unmet rfl rfl rfl g2) ?_
    refine .x rfl (unmetU rfl rfl rfl) ?_
    refine .x rfl (unmetU rfl rfl rfl) ?_
    refine .x rfl (unmetU rfl rfl rfl) ?_
    refine .x rfl (unmetU rfl rfl rfl) ?_
    refine .x rfl (unmet rfl rfl rfl g2) ?_
    refine .v rfl rfl (O.pickT g2 rfl rfl rfl) ?_
    refine .nil ?_
    exact toN (Gives.mkR [] (.r rfl rfl (.r rfl rfl (.c rfl (sbb (by first | (simp only [g1, g2, Bool.true_or, Bool.or_true, Bool.false_or, Bool.or_false, Bool.true_and, Bool.and_true, Bool.false_and, Bool.and_false, Bool.not_true, Bool.not_false, cond_true, cond_false]; done) | (repeat (first | rw [g1] | rw [g2])) <;> simp only [Bool.true_or, Bool.or_true, Bool.false_or, Bool.or_false, Bool.true_and, Bool.and_true, Bool.false_and, Bool.and_false, Bool.not_true, Bool.not_false, cond_true, cond_false])) rfl .n))) .n rfl rfl rfl)
   ·rcases tf (decide (x1 < 0)) with g3 | g3
    ·refine W.pk ?_
     refine .m rfl rfl rfl rfl ?_
     refine .v rfl rfl (OpL.binI rfl rfl rfl rfl) ?_
     refine .m rfl rfl rfl rfl ?_
     refine .m rfl (met rfl rfl rfl g1) rfl rfl ?_
     refine .m rfl (met rfl rfl rfl g1) rfl rfl ?_
     refine .v rfl (met rfl rfl rfl g1) (OpL.binI rfl rfl rfl rfl) ?_
     refine .v rfl (met rfl rfl rfl g1) (OpL.binI rfl rfl rfl rfl) ?_
     refine .v rfl rfl (O.pickT g1 rfl rfl rfl) ?_
     refine .m rfl rfl rfl rfl ?_
     refine .m rfl (met rfl rfl rfl g2) rfl rfl ?_
     refine .v rfl (met rfl rfl rfl g2) (OpL.binI rfl rfl rfl rfl) ?_
     refine .m rfl (met rfl rfl rfl g2) rfl rfl ?_
     refine .m rfl (met rfl rfl rfl g3) rfl rfl ?_
     refine .m rfl (met rfl rfl rfl g3) rfl rfl ?_
     refine .v rfl (met rfl rfl rfl g3) (OpL.binI rfl rfl rfl rfl) ?_
     refine .v rfl (met rfl rfl rfl g3) (OpL.binI rfl rfl rfl rfl) ?_
     refine .v rfl (met rfl rfl rfl g2) (O.pickT g3 rfl rfl rfl) ?_
     refine .v rfl rfl (O.pickF g2 rfl rfl rfl) ?_
     refine .nil ?_
     exact toN (Gives.mkR [] (.r rfl rfl (.r rfl rfl (.c rfl (sbb (by first | (simp only [g1, g2, g3, Bool.true_or, Bool.or_true, Bool.false_or, Bool.or_false, Bool.true_and, Bool.and_true, Bool.false_and, Bool.and_false, Bool.not_true, Bool.not_false, cond_true, cond_false]; done) | (repeat (first | rw [g1] | rw [g2] | rw [g3])) <;> simp only [Bool.true_or, Bool.or_true, Bool.false_or, Bool.or_false, Bool.true_and, Bool.and_true, Bool.false_and, Bool.and_false, Bool.not_true, Bool.not_false, cond_true, cond_false])) rfl .n))) .n rfl rfl rfl)
    ·refine W.pk ?_
     refine .m rfl rfl rfl rfl ?_
     refine .v rfl rfl (OpL.binI rfl rfl rfl rfl) ?_
     refine .m rfl rfl rfl rfl ?_
     refine .m rfl (met rfl rfl rfl g1) rfl rfl ?_
     refine .m rfl (met rfl rfl rfl g1) rfl rfl ?_
     refine .v rfl (met rfl rfl rfl g1) (OpL.binI rfl rfl rfl rfl) ?_
     refine .v rfl (met rfl rfl rfl g1) (OpL.binI rfl rfl rfl rfl) ?_
     refine .v rfl rfl (O.pickT g1 rfl rfl rfl) ?_
     refine .m rfl rfl rfl rfl ?_
     refine .m rfl (met rfl rfl rfl g2) rfl rfl ?_
     refine .v rfl (met rfl rfl rfl g2) (OpL.binI rfl rfl rfl rfl) ?_
     refine .m rfl (met rfl rfl rfl g2) rfl rfl ?_
     refine .x rfl (unmet rfl rfl rfl g3) ?_
     refine .x rfl (unmet rfl rfl rfl g3) ?_
     refine .x rfl (unmet rfl rfl rfl g3) ?_
     refine .x rfl (unmet rfl rfl rfl g3) ?_
     refine .v rfl (met rfl rfl rfl g2) (O.pickF g3 rfl rfl rfl) ?_
     refine .v rfl rfl (O.pickF g2 rfl rfl rfl) ?_
     refine .nil ?_
     exact toN (Gives.mkR [] (.r rfl rfl (.r rfl rfl (.c rfl (sbb (by first | (simp only [g1, g2, g3, Bool.true_or, Bool.or_true, Bool.false_or, Bool.or_false, Bool.true_and, Bool.and_true, Bool.false_and, Bool.and_false, Bool.not_true, Bool.not_false, cond_true, cond_false]; done) | (repeat (first | rw [g1] | rw [g2] | rw [g3])) <;> simp only [Bool.true_or, Bool.or_true, Bool.false_or, Bool.or_false, Bool.true_and, Bool.and_true, Bool.false_and, Bool.and_false, Bool.not_true, Bool.not_false, cond_true, cond_false])) rfl .n))) .n rfl rfl rfl)
  ·rcases tf (decide (x1 < 0)) with g4 | g4
   ·refine W.pk ?_
    refine .m rfl rfl rfl rfl ?_
    refine .v rfl rfl (OpL.binI rfl rfl rfl rfl) ?_
    refine .m rfl rfl rfl rfl ?_
    refine .x rfl (unmet rfl rfl rfl g1) ?_
    refine .x rfl (unmet rfl rfl rfl g1) ?_
    refine .x rfl (unmet rfl rfl rfl g1) ?_
    refine .x rfl (unmet rfl rfl rfl g1) ?_
    refine .v rfl rfl (O.pickF g1 rfl rfl rfl) ?_
    refine .m rfl rfl rfl rfl ?_
    refine .m rfl (met rfl rfl rfl rfl) rfl rfl ?_
    refine .v rfl (met rfl rfl rfl rfl) (OpL.binI rfl rfl rfl rfl) ?_
    refine .m rfl (met rfl rfl rfl rfl) rfl rfl ?_
    refine .m rfl (met rfl rfl rfl g4) rfl rfl ?_
    refine .m rfl (met rfl rfl rfl g4) rfl rfl ?_
    refine .v rfl (met rfl rfl rfl g4) (OpL.binI rfl rfl rfl rfl) ?_
    refine .v rfl (met rfl rfl rfl g4) (OpL.binI rfl rfl rfl rfl) ?_
    refine .v rfl (met rfl rfl rfl rfl) (O.pickT g4 rfl rfl rfl) ?_
    refine .v rfl rfl (O.pickF rfl rfl rfl rfl) ?_
    refine .nil ?_
    exact toN (Gives.mkR [] (.r rfl rfl (.r rfl rfl (.c rfl (sbb (by first | (simp only [g1, g4, Bool.true_or, Bool.or_true, Bool.false_or, Bool.or_false, Bool.true_and, Bool.and_true, Bool.false_and, Bool.and_false, Bool.not_true, Bool.not_false, cond_true, cond_false]; done) | (repeat (first | rw [g1] | rw [g4])) <;> simp only [Bool.true_or, Bool.or_true, Bool.false_or, Bool.or_false, Bool.true_and, Bool.and_true, Bool.false_and, Bool.and_false, Bool.not_true, Bool.not_false, cond_true, cond_false])) rfl .n))) .n rfl rfl rfl)
   ·refine W.pk ?_
    refine .m rfl rfl rfl rfl ?_
    refine .v rfl rfl (OpL.binI rfl rfl rfl rfl) ?_
    refine .m rfl rfl rfl rfl ?_
    refine .x rfl (unmet rfl rfl rfl g1) ?_
    refine .x rfl (unmet rfl rfl rfl g1) ?_
    refine .x rfl (unmet rfl rfl rfl g1) ?_
    refine .x rfl (unmet rfl rfl rfl g1) ?_
    refine .v rfl rfl (O.pickF g1 rfl rfl rfl) ?_
    refine .m rfl rfl rfl rfl ?_
    refine .m rfl (met rfl rfl rfl rfl) rfl rfl ?_
    refine .v rfl (met rfl rfl rfl rfl) (OpL.binI rfl rfl rfl rfl) ?_
    refine .m rfl (met rfl rfl rfl rfl) rfl rfl ?_
    refine .x rfl (unmet rfl rfl rfl g4) ?_
    refine .x rfl (unmet rfl rfl rfl g4) ?_
    refine .x rfl (unmet rfl rfl rfl g4) ?_
    refine .x rfl (unmet rfl rfl rfl g4) ?_
    refine .v rfl (met rfl rfl rfl rfl) (O.pickF g4 rfl rfl rfl) ?_
    refine .v rfl rfl (O.pickF rfl rfl rfl rfl) ?_
    refine .nil ?_
    exact toN (Gives.mkR [] (.r rfl rfl (.r rfl rfl (.c rfl (sbb (by first | (simp only [g1, g4, Bool.true_or, Bool.or_true, Bool.false_or, Bool.or_false, Bool.true_and, Bool.and_true, Bool.false_and, Bool.and_false, Bool.not_true, Bool.not_false, cond_true, cond_false]; done) | (repeat (first | rw [g1] | rw [g4])) <;> simp only [Bool.true_or, Bool.or_true, Bool.false_or, Bool.or_false, Bool.true_and, Bool.and_true, Bool.false_and, Bool.and_false, Bool.not_true, Bool.not_false, cond_true, cond_false])) rfl .n))) .n rfl rfl rfl)
end Go.Proofs.Ytkcjlpiaaklnkaa
