/- Shows what functions of the program come to, each as a plain function: written by a program of the author's for this claim. -/
import Derived.Test.YtkcjlpiaaklnkaaGx6
namespace Go.Proofs.Ytkcjlpiaaklnkaa
open Go Go.Pm
set_option linter.unusedVariables false
set_option linter.unusedSimpArgs false
noncomputable def lombardlaw13_AssetTells.f (x0 : List lombardlaw13_Act) (x1 : Bs) : Option (Bool) :=
  (lombardlaw13_filled.f x0).bind fun t1 =>
  if (!t1.2.2) = true then
    some false
  else
    (lombardref13_Find.f t1.2.1 x1).bind fun t4 =>
    (asset_Book_Get.f t1.1 x1).bind fun t6 =>
    (asset_Book_Price.f t1.1 x1).bind fun t8 =>
    if (decide (t4 < 0)) = true then
      (if (((((t6.1.ISIN == []) && ((t6.1.Issuer == 0) && ((t6.1.Rating == 0) && ((t6.1.Maturity == 0) && (t6.1.Currency == []))))) && (!t6.2)) && (t8.1 == 0)) && (!t8.2)) = true then lombardlaw13_awake.f else some default).bind fun t11 =>
      some ((((((t6.1.ISIN == []) && ((t6.1.Issuer == 0) && ((t6.1.Rating == 0) && ((t6.1.Maturity == 0) && (t6.1.Currency == []))))) && (!t6.2)) && (t8.1 == 0)) && (!t8.2)) && t11)
    else
      if (t6.2 = true → (0 : Int) ≤ t4 ∧ t4 < (List.length t1.2.1 : Int)) then
      if ((t6.2 && ((t6.1.ISIN == (((nth t1.2.1 t4).A).ISIN)) && ((t6.1.Issuer == (((nth t1.2.1 t4).A).Issuer)) && ((t6.1.Rating == (((nth t1.2.1 t4).A).Rating)) && ((t6.1.Maturity == (((nth t1.2.1 t4).A).Maturity)) && (t6.1.Currency == (((nth t1.2.1 t4).A).Currency))))))) = true → (0 : Int) ≤ t4 ∧ t4 < (List.length t1.2.1 : Int)) then
      if (((t6.2 && ((t6.1.ISIN == (((nth t1.2.1 t4).A).ISIN)) && ((t6.1.Issuer == (((nth t1.2.1 t4).A).Issuer)) && ((t6.1.Rating == (((nth t1.2.1 t4).A).Rating)) && ((t6.1.Maturity == (((nth t1.2.1 t4).A).Maturity)) && (t6.1.Currency == (((nth t1.2.1 t4).A).Currency))))))) && (t8.1 == ((nth t1.2.1 t4).Price))) = true → (0 : Int) ≤ t4 ∧ t4 < (List.length t1.2.1 : Int)) then
      (if (((t6.2 && ((t6.1.ISIN == (((nth t1.2.1 t4).A).ISIN)) && ((t6.1.Issuer == (((nth t1.2.1 t4).A).Issuer)) && ((t6.1.Rating == (((nth t1.2.1 t4).A).Rating)) && ((t6.1.Maturity == (((nth t1.2.1 t4).A).Maturity)) && (t6.1.Currency == (((nth t1.2.1 t4).A).Currency))))))) && (t8.1 == ((nth t1.2.1 t4).Price))) && (t8.2 == (decide (((nth t1.2.1 t4).Price) > 0)))) = true then lombardlaw13_awake.f else some default).bind fun t20 =>
      some ((((t6.2 && ((t6.1.ISIN == (((nth t1.2.1 t4).A).ISIN)) && ((t6.1.Issuer == (((nth t1.2.1 t4).A).Issuer)) && ((t6.1.Rating == (((nth t1.2.1 t4).A).Rating)) && ((t6.1.Maturity == (((nth t1.2.1 t4).A).Maturity)) && (t6.1.Currency == (((nth t1.2.1 t4).A).Currency))))))) && (t8.1 == ((nth t1.2.1 t4).Price))) && (t8.2 == (decide (((nth t1.2.1 t4).Price) > 0)))) && t20)
      else none
      else none
      else none
set_option maxRecDepth 100000 in
set_option maxHeartbeats 4000000 in
theorem lombardlaw13_AssetTells.ok {x0 : List lombardlaw13_Act} {x1 : Bs} {r : Bool} (h : lombardlaw13_AssetTells.f x0 x1 = some r) : Pm.Spec prog 5 [.imm (.row 7 (List.map lombardlaw13_Act.enc x0)), .imm (.val (.string (tx x1)))] (.imm (.val (.bool r))) [none, none] := by
 unfold lombardlaw13_AssetTells.f at h
 refine Pm.Spec.of_body Try.func5 rfl (by kernel_rfl) (Nat.le_of_ble_eq_true rfl) (Nat.le_of_ble_eq_true rfl) ?_
 refine W.ghost (σ' := (mkSt [(0, some (.imm (.row 7 (List.map lombardlaw13_Act.enc x0)))), (1, some (.s x1))] [] 1000)) (Gives.entry (.c rfl (.c rfl .n)) .n) ?_
 refine W.seq ?_
 refine W.pk ?_
 refine .a rfl rfl rfl rfl ?_
 refine .nil ?_
 refine W.seq ?_
 obtain ⟨t1, b2, h⟩ := bnd1 h
 refine W.pk ?_
 refine .m rfl rfl rfl rfl ?_
 refine .call (.tup [.ptr 1000 0, .own 1003, .b t1.2.2]) [(1000, some (.box [.own 1001, .own 1002, .b t1.1.made])), (1001, some (.rows 29 5 (List.map api_Asset.enc t1.1.l) false)), (1002, some (.rows 3 1 (List.map (encI .i64) t1.1.prices) false)), (1003, some (.rows 46 6 (List.map lombardref13_Known.enc t1.2.1) false))] 4 (lombardlaw13_filled.ok b2) rfl rfl rfl ca11 rfl rfl (cC (.imm _) .nil) rfl rfl rfl rfl rfl ?_
 refine .m rfl rfl rfl rfl ?_
 refine .v rfl rfl (OpL.extract rfl rfl rfl) ?_
 refine .v rfl rfl (OpL.extract rfl rfl rfl) ?_
 refine .v rfl rfl (OpL.extract rfl rfl rfl) ?_
 refine .a rfl rfl rfl rfl ?_
 refine .a rfl rfl rfl rfl ?_
 refine .a rfl rfl rfl rfl ?_
 refine .nil ?_
 refine W.seq ?_
 refine W.seq ?_
 refine W.pk ?_
 refine .m rfl rfl rfl rfl ?_
 refine .v rfl rfl (OpL.unV rfl rfl rfl) ?_
 refine .nil ?_
 refine W.cond rfl (fun q3 => ?_) (fun q3 => ?_)
 ·have h := ifT q3 h
  refine W.seq ?_
  refine W.pk ?_
  refine .a rfl rfl rfl rfl ?_
  refine .nil ?_
  refine W.ret ?_
  cases h
  exact leaves (.inr rfl) rfl (.imm _) (cN (cN .nil)) rfl rfl
 ·have h := ifF q3 h
  refine W.skip ?_
  refine W.seq ?_
  obtain ⟨t4, b5, h⟩ := bnd1 h
  refine W.pk ?_
  refine .m rfl rfl rfl rfl ?_
  refine .m rfl rfl rfl rfl ?_
  refine .call (.i t4) [(1003, some (.rows 46 6 (List.map lombardref13_Known.enc t1.2.1) false)), (1003, none)] 0 (lombardref13_Find.ok b5) rfl rfl rfl ca17 rfl rfl (cC (.own _ _ _ _ rfl) (cC (.imm _) .nil)) rfl rfl rfl rfl rfl ?_
  refine .a rfl rfl rfl rfl ?_
  refine .nil ?_
  refine W.seq ?_
  obtain ⟨t6, b7, h⟩ := bnd1 h
  refine W.pk ?_
  refine .m rfl rfl rfl rfl ?_
  refine .m rfl rfl rfl rfl ?_
  refine .call (.tup [.agg (api_Asset.av t6.1), .b t6.2]) [(1000, some (.box [.own 1004, .own 1005, .b t1.1.made])), (1004, some (.rows 29 5 (List.map api_Asset.enc t1.1.l) false)), (1005, some (.rows 3 1 (List.map (encI .i64) t1.1.prices) false)), (1000, none), (1001, none), (1002, none)] 2 (asset_Book_Get.ok b7) rfl rfl rfl ca18 rfl rfl (cC (.ptr _ _ _ _ _ rfl (cC (.own _ _ _ _ rfl) (cC (.own _ _ _ _ rfl) (cC (.imm _) .nil)))) (cC (.imm _) .nil)) rfl rfl rfl rfl rfl ?_
  refine .m rfl rfl rfl rfl ?_
  refine .v rfl rfl (OpL.extract rfl rfl rfl) ?_
  refine .v rfl rfl (OpL.extract rfl rfl rfl) ?_
  refine .t rfl rfl (O.alloc z29 rfl) ?_
  refine .s rfl rfl (O.st ty29 rfl rfl rfl rfl rfl rfl rfl rfl rfl rfl (all' := [.s t6.1.ISIN, .i t6.1.Issuer, .i t6.1.Rating, .i t6.1.Maturity, .s t6.1.Currency]) rfl) ?_
  refine .a rfl rfl rfl rfl ?_
  refine .nil ?_
  refine W.seq ?_
  obtain ⟨t8, b9, h⟩ := bnd1 h
  refine W.pk ?_
  refine .m rfl rfl rfl rfl ?_
  refine .m rfl rfl rfl rfl ?_
  refine .call (.tup [.i t8.1, .b t8.2]) [(1000, some (.box [.own 1007, .own 1008, .b t1.1.made])), (1007, some (.rows 29 5 (List.map api_Asset.enc t1.1.l) false)), (1008, some (.rows 3 1 (List.map (encI .i64) t1.1.prices) false)), (1000, none), (1004, none), (1005, none)] 2 (asset_Book_Price.ok b9) rfl rfl rfl ca19 rfl rfl (cC (.ptr _ _ _ _ _ rfl (cC (.own _ _ _ _ rfl) (cC (.own _ _ _ _ rfl) (cC (.imm _) .nil)))) (cC (.imm _) .nil)) rfl rfl rfl rfl rfl ?_
  refine .m rfl rfl rfl rfl ?_
  refine .v rfl rfl (OpL.extract rfl rfl rfl) ?_
  refine .v rfl rfl (OpL.extract rfl rfl rfl) ?_
  refine .a rfl rfl rfl rfl ?_
  refine .a rfl rfl rfl rfl ?_
  refine .nil ?_
  refine W.seq ?_
  refine W.seq ?_
  refine W.pk ?_
  refine .m rfl rfl rfl rfl ?_
  refine .v rfl rfl (OpL.binI rfl rfl rfl rfl) ?_
  refine .nil ?_
  refine W.cond rfl (fun q10 => ?_) (fun q10 => ?_)
  ·have h := ifT q10 h
   refine W.seq ?_
   obtain ⟨t11, b12, h⟩ := bnd1 h
   refine W.fork (mkSt [(4, some (.b ((((((t6.1.ISIN == []) && ((t6.1.Issuer == 0) && ((t6.1.Rating == 0) && ((t6.1.Maturity == 0) && (t6.1.Currency == []))))) && (!t6.2)) && (t8.1 == 0)) && (!t8.2)) && t11)))] [] 1009) ?_ ?_
   ·refine W.ret ?_
    cases h
    exact leaves (.inr rfl) rfl (.imm _) (cN (cN .nil)) rfl rfl
   ·clear h
    rcases tf ((t6.1.ISIN == []) && ((t6.1.Issuer == 0) && ((t6.1.Rating == 0) && ((t6.1.Maturity == 0) && (t6.1.Currency == []))))) with g13 | g13
    ·rcases tf t6.2 with g14 | g14
     ·refine W.pk ?_
      refine .v rfl rfl (O.ldN ty29 rfl rfl rfl) ?_
      refine .v rfl rfl (O.build (out := [.s [], .i 0, .i 0, .i 0, .s []]) bl29 rfl rfl rfl rfl (by kernel_rfl)) ?_
      refine .v rfl rfl (O.eqS (r := ((t6.1.ISIN == []) && ((t6.1.Issuer == 0) && ((t6.1.Rating == 0) && ((t6.1.Maturity == 0) && (t6.1.Currency == [])))))) fl29 rfl rfl rfl rfl rfl rfl) ?_
      refine .m rfl rfl rfl rfl ?_
      refine .m rfl (met rfl rfl rfl g13) rfl rfl ?_
      refine .v rfl (met rfl rfl rfl g13) (OpL.unV rfl rfl rfl) ?_
      refine .v rfl rfl (O.pickT g13 rfl rfl rfl) ?_
      refine .m rfl rfl rfl rfl ?_
      refine .x rfl (unmet rfl rfl rfl (notT g14)) ?_
      refine .x rfl (unmet rfl rfl rfl (notT g14)) ?_
      refine .v rfl rfl (O.pickF (notT g14) rfl rfl rfl) ?_
      refine .m rfl rfl rfl rfl ?_
      refine .x rfl (unmet rfl rfl rfl rfl) ?_
      refine .x rfl (unmet rfl rfl rfl rfl) ?_
      refine .v rfl rfl (O.pickF rfl rfl rfl rfl) ?_
      refine .m rfl rfl rfl rfl ?_
      refine .x rfl (unmet rfl rfl rfl rfl) ?_
      refine .v rfl rfl (O.pickF rfl rfl rfl rfl) ?_
      refine .a rfl rfl rfl rfl ?_
      refine .nil ?_
      exact toN (Gives.mkR [] (.c rfl (sbb (by first | (simp only [g13, g14, Bool.true_or, Bool.or_true, Bool.false_or, Bool.or_false, Bool.true_and, Bool.and_true, Bool.false_and, Bool.and_false, Bool.not_true, Bool.not_false, cond_true, cond_false]; done) | (repeat (first | rw [g13] | rw [g14])) <;> simp only [Bool.true_or, Bool.or_true, Bool.false_or, Bool.or_false, Bool.true_and, Bool.and_true, Bool.false_and, Bool.and_false, Bool.not_true, Bool.not_false, cond_true, cond_false])) rfl .n) .n rfl rfl rfl)
     ·rcases tf (t8.1 == 0) with g15 | g15
      ·rcases tf t8.2 with g16 | g16
       ·refine W.pk ?_
        refine .v rfl rfl (O.ldN ty29 rfl rfl rfl) ?_
        refine .v rfl rfl (O.build (out := [.s [], .i 0, .i 0, .i 0, .s []]) bl29 rfl rfl rfl rfl (by kernel_rfl)) ?_
        refine .v rfl rfl (O.eqS (r := ((t6.1.ISIN == []) && ((t6.1.Issuer == 0) && ((t6.1.Rating == 0) && ((t6.1.Maturity == 0) && (t6.1.Currency == [])))))) fl29 rfl rfl rfl rfl rfl rfl) ?_
        refine .m rfl rfl rfl rfl ?_
        refine .m rfl (met rfl rfl rfl g13) rfl rfl ?_
        refine .v rfl (met rfl rfl rfl g13) (OpL.unV rfl rfl rfl) ?_
        refine .v rfl rfl (O.pickT g13 rfl rfl rfl) ?_
        refine .m rfl rfl rfl rfl ?_
        refine .m rfl (met rfl rfl rfl (notF g14)) rfl rfl ?_
        refine .v rfl (met rfl rfl rfl (notF g14)) (OpL.binI rfl rfl rfl rfl) ?_
        refine .v rfl rfl (O.pickT (notF g14) rfl rfl rfl) ?_
        refine .m rfl rfl rfl rfl ?_
        refine .m rfl (met rfl rfl rfl g15) rfl rfl ?_
        refine .v rfl (met rfl rfl rfl g15) (OpL.unV rfl rfl rfl) ?_
        refine .v rfl rfl (O.pickT g15 rfl rfl rfl) ?_
        refine .m rfl rfl rfl rfl ?_
        refine .x rfl (unmet rfl rfl rfl (notT g16)) ?_
        refine .v rfl rfl (O.pickF (notT g16) rfl rfl rfl) ?_
        refine .a rfl rfl rfl rfl ?_
        refine .nil ?_
        exact toN (Gives.mkR [] (.c rfl (sbb (by first | (simp only [g13, g14, g15, g16, Bool.true_or, Bool.or_true, Bool.false_or, Bool.or_false, Bool.true_and, Bool.and_true, Bool.false_and, Bool.and_false, Bool.not_true, Bool.not_false, cond_true, cond_false]; done) | (repeat (first | rw [g13] | rw [g14] | rw [g15] | rw [g16])) <;> simp only [Bool.true_or, Bool.or_true, Bool.false_or, Bool.or_false, Bool.true_and, Bool.and_true, Bool.false_and, Bool.and_false, Bool.not_true, Bool.not_false, cond_true, cond_false])) rfl .n) .n rfl rfl rfl)
       ·refine W.pk ?_
        refine .v rfl rfl (O.ldN ty29 rfl rfl rfl) ?_
        refine .v rfl rfl (O.build (out := [.s [], .i 0, .i 0, .i 0, .s []]) bl29 rfl rfl rfl rfl (by kernel_rfl)) ?_
        refine .v rfl rfl (O.eqS (r := ((t6.1.ISIN == []) && ((t6.1.Issuer == 0) && ((t6.1.Rating == 0) && ((t6.1.Maturity == 0) && (t6.1.Currency == [])))))) fl29 rfl rfl rfl rfl rfl rfl) ?_
        refine .m rfl rfl rfl rfl ?_
        refine .m rfl (met rfl rfl rfl g13) rfl rfl ?_
        refine .v rfl (met rfl rfl rfl g13) (OpL.unV rfl rfl rfl) ?_
        refine .v rfl rfl (O.pickT g13 rfl rfl rfl) ?_
        refine .m rfl rfl rfl rfl ?_
        refine .m rfl (met rfl rfl rfl (notF g14)) rfl rfl ?_
        refine .v rfl (met rfl rfl rfl (notF g14)) (OpL.binI rfl rfl rfl rfl) ?_
        refine .v rfl rfl (O.pickT (notF g14) rfl rfl rfl) ?_
        refine .m rfl rfl rfl rfl ?_
        refine .m rfl (met rfl rfl rfl g15) rfl rfl ?_
        refine .v rfl (met rfl rfl rfl g15) (OpL.unV rfl rfl rfl) ?_
        refine .v rfl rfl (O.pickT g15 rfl rfl rfl) ?_
        refine .m rfl rfl rfl rfl ?_
        refine .call (.b t11) [] 0 (lombardlaw13_awake.ok ((if_pos (by first | (simp only [g13, g14, g15, g16, Bool.true_or, Bool.or_true, Bool.false_or, Bool.or_false, Bool.true_and, Bool.and_true, Bool.false_and, Bool.and_false, Bool.not_true, Bool.not_false, cond_true, cond_false]; done) | (repeat (first | rw [g13] | rw [g14] | rw [g15] | rw [g16])) <;> simp only [Bool.true_or, Bool.or_true, Bool.false_or, Bool.or_false, Bool.true_and, Bool.and_true, Bool.false_and, Bool.and_false, Bool.not_true, Bool.not_false, cond_true, cond_false])).symm.trans b12)) rfl (met rfl rfl rfl (notF g16)) rfl ca9 rfl rfl .nil rfl rfl rfl rfl rfl ?_
        refine .v rfl rfl (O.pickT (notF g16) rfl rfl rfl) ?_
        refine .a rfl rfl rfl rfl ?_
        refine .nil ?_
        exact toN (Gives.mkR [] (.c rfl (sbb (by first | (simp only [g13, g14, g15, g16, Bool.true_or, Bool.or_true, Bool.false_or, Bool.or_false, Bool.true_and, Bool.and_true, Bool.false_and, Bool.and_false, Bool.not_true, Bool.not_false, cond_true, cond_false]; done) | (repeat (first | rw [g13] | rw [g14] | rw [g15] | rw [g16])) <;> simp only [Bool.true_or, Bool.or_true, Bool.false_or, Bool.or_false, Bool.true_and, Bool.and_true, Bool.false_and, Bool.and_false, Bool.not_true, Bool.not_false, cond_true, cond_false])) rfl .n) .n rfl rfl rfl)
      ·refine W.pk ?_
       refine .v rfl rfl (O.ldN ty29 rfl rfl rfl) ?_
       refine .v rfl rfl (O.build (out := [.s [], .i 0, .i 0, .i 0, .s []]) bl29 rfl rfl rfl rfl (by kernel_rfl)) ?_
       refine .v rfl rfl (O.eqS (r := ((t6.1.ISIN == []) && ((t6.1.Issuer == 0) && ((t6.1.Rating == 0) && ((t6.1.Maturity == 0) && (t6.1.Currency == [])))))) fl29 rfl rfl rfl rfl rfl rfl) ?_
       refine .m rfl rfl rfl rfl ?_
       refine .m rfl (met rfl rfl rfl g13) rfl rfl ?_
       refine .v rfl (met rfl rfl rfl g13) (OpL.unV rfl rfl rfl) ?_
       refine .v rfl rfl (O.pickT g13 rfl rfl rfl) ?_
       refine .m rfl rfl rfl rfl ?_
       refine .m rfl (met rfl rfl rfl (notF g14)) rfl rfl ?_
       refine .v rfl (met rfl rfl rfl (notF g14)) (OpL.binI rfl rfl rfl rfl) ?_
       refine .v rfl rfl (O.pickT (notF g14) rfl rfl rfl) ?_
       refine .m rfl rfl rfl rfl ?_
       refine .x rfl (unmet rfl rfl rfl g15) ?_
       refine .x rfl (unmet rfl rfl rfl g15) ?_
       refine .v rfl rfl (O.pickF g15 rfl rfl rfl) ?_
       refine .m rfl rfl rfl rfl ?_
       refine .x rfl (unmet rfl rfl rfl rfl) ?_
       refine .v rfl rfl (O.pickF rfl rfl rfl rfl) ?_
       refine .a rfl rfl rfl rfl ?_
       refine .nil ?_
       exact toN (Gives.mkR [] (.c rfl (sbb (by first | (simp only [g13, g14, g15, Bool.true_or, Bool.or_true, Bool.false_or, Bool.or_false, Bool.true_and, Bool.and_true, Bool.false_and, Bool.and_false, Bool.not_true, Bool.not_false, cond_true, cond_false]; done) | (repeat (first | rw [g13] | rw [g14] | rw [g15])) <;> simp only [Bool.true_or, Bool.or_true, Bool.false_or, Bool.or_false, Bool.true_and, Bool.and_true, Bool.false_and, Bool.and_false, Bool.not_true, Bool.not_false, cond_true, cond_false])) rfl .n) .n rfl rfl rfl)
    ·refine W.pk ?_
     refine .v rfl rfl (O.ldN ty29 rfl rfl rfl) ?_
     refine .v rfl rfl (O.build (out := [.s [], .i 0, .i 0, .i 0, .s []]) bl29 rfl rfl rfl rfl (by kernel_rfl)) ?_
     refine .v rfl rfl (O.eqS (r := ((t6.1.ISIN == []) && ((t6.1.Issuer == 0) && ((t6.1.Rating == 0) && ((t6.1.Maturity == 0) && (t6.1.Currency == [])))))) fl29 rfl rfl rfl rfl rfl rfl) ?_
     refine .m rfl rfl rfl rfl ?_
     refine .x rfl (unmet rfl rfl rfl g13) ?_
     refine .x rfl (unmet rfl rfl rfl g13) ?_
     refine .v rfl rfl (O.pickF g13 rfl rfl rfl) ?_
     refine .m rfl rfl rfl rfl ?_
     refine .x rfl (unmet rfl rfl rfl rfl) ?_
     refine .x rfl (unmet rfl rfl rfl rfl) ?_
     refine .v rfl rfl (O.pickF rfl rfl rfl rfl) ?_
     refine .m rfl rfl rfl rfl ?_
     refine .x rfl (unmet rfl rfl rfl rfl) ?_
     refine .x rfl (unmet rfl rfl rfl rfl) ?_
     refine .v rfl rfl (O.pickF rfl rfl rfl rfl) ?_
     refine .m rfl rfl rfl rfl ?_
     refine .x rfl (unmet rfl rfl rfl rfl) ?_
     refine .v rfl rfl (O.pickF rfl rfl rfl rfl) ?_
     refine .a rfl rfl rfl rfl ?_
     refine .nil ?_
     exact toN (Gives.mkR [] (.c rfl (sbb (by simp only [g13, Bool.true_or, Bool.or_true, Bool.false_or, Bool.or_false, Bool.true_and, Bool.and_true, Bool.false_and, Bool.and_false, Bool.not_true, Bool.not_false, cond_true, cond_false])) rfl .n) .n rfl rfl rfl)
  ·have h := ifF q10 h
   refine W.skip ?_
   refine W.seq ?_
   obtain ⟨c17, h⟩ := chk h
   obtain ⟨c18, h⟩ := chk h
   obtain ⟨c19, h⟩ := chk h
   obtain ⟨t20, b21, h⟩ := bnd1 h
   refine W.fork (mkSt [(4, some (.b ((((t6.2 && ((t6.1.ISIN == (((nth t1.2.1 t4).A).ISIN)) && ((t6.1.Issuer == (((nth t1.2.1 t4).A).Issuer)) && ((t6.1.Rating == (((nth t1.2.1 t4).A).Rating)) && ((t6.1.Maturity == (((nth t1.2.1 t4).A).Maturity)) && (t6.1.Currency == (((nth t1.2.1 t4).A).Currency))))))) && (t8.1 == ((nth t1.2.1 t4).Price))) && (t8.2 == (decide (((nth t1.2.1 t4).Price) > 0)))) && t20)))] [] 1009) ?_ ?_
   ·refine W.ret ?_
    cases h
    exact leaves (.inr rfl) rfl (.imm _) (cN (cN .nil)) rfl rfl
   ·clear h
    rcases tf t6.2 with g22 | g22
    ·rcases tf ((t6.1.ISIN == (((nth t1.2.1 t4).A).ISIN)) && ((t6.1.Issuer == (((nth t1.2.1 t4).A).Issuer)) && ((t6.1.Rating == (((nth t1.2.1 t4).A).Rating)) && ((t6.1.Maturity == (((nth t1.2.1 t4).A).Maturity)) && (t6.1.Currency == (((nth t1.2.1 t4).A).Currency)))))) with g23 | g23
     ·rcases tf (t8.1 == ((nth t1.2.1 t4).Price)) with g24 | g24
      ·rcases tf (t8.2 == (decide (((nth t1.2.1 t4).Price) > 0))) with g25 | g25
       ·refine W.dk (unm 33 [0, 1, 3, 3, 3, 27, 59, 123, 255, 511, 1023, 2047, 2047, 2047, 14335, 30719, 63487, 131071, 262143, 524287, 1048575, 1048575, 1048575, 7340031, 15728639, 32505855, 66060287, 134217727, 268435455, 536870911, 1073741823, 2147483647, 4294967295]) rfl (by kernel_rfl) ?_
        refine .m rfl rfl rfl rfl ?_
        refine .m rfl rfl rfl rfl ?_
        refine .v rfl (met rfl rfl rfl g22) (O.ldN ty29 rfl rfl rfl) ?_
        refine .m rfl (met rfl rfl rfl g22) rfl rfl ?_
        refine .m rfl (met rfl rfl rfl g22) rfl rfl ?_
        refine .v rfl (met rfl rfl rfl g22) (O.idxO sl31 (c17 (by first | (simp only [g22, g23, g24, g25, Bool.true_or, Bool.or_true, Bool.false_or, Bool.or_false, Bool.true_and, Bool.and_true, Bool.false_and, Bool.and_false, Bool.not_true, Bool.not_false, cond_true, cond_false]; done) | (repeat (first | rw [g22] | rw [g23] | rw [g24] | rw [g25])) <;> simp only [Bool.true_or, Bool.or_true, Bool.false_or, Bool.or_false, Bool.true_and, Bool.and_true, Bool.false_and, Bool.and_false, Bool.not_true, Bool.not_false, cond_true, cond_false])) rfl rfl rfl rfl) ?_
        refine .v rfl (met rfl rfl rfl g22) (O.fld fld46_0 rfl rfl rfl) ?_
        refine .v rfl (met rfl rfl rfl g22) (O.ldEN ty29 (c17 (by first | (simp only [g22, g23, g24, g25, Bool.true_or, Bool.or_true, Bool.false_or, Bool.or_false, Bool.true_and, Bool.and_true, Bool.false_and, Bool.and_false, Bool.not_true, Bool.not_false, cond_true, cond_false]; done) | (repeat (first | rw [g22] | rw [g23] | rw [g24] | rw [g25])) <;> simp only [Bool.true_or, Bool.or_true, Bool.false_or, Bool.or_false, Bool.true_and, Bool.and_true, Bool.false_and, Bool.and_false, Bool.not_true, Bool.not_false, cond_true, cond_false])) rfl rfl rfl rfl rfl) ?_
        refine .v rfl (met rfl rfl rfl g22) (O.eqS (r := ((t6.1.ISIN == (((nth t1.2.1 t4).A).ISIN)) && ((t6.1.Issuer == (((nth t1.2.1 t4).A).Issuer)) && ((t6.1.Rating == (((nth t1.2.1 t4).A).Rating)) && ((t6.1.Maturity == (((nth t1.2.1 t4).A).Maturity)) && (t6.1.Currency == (((nth t1.2.1 t4).A).Currency))))))) fl29 rfl rfl rfl rfl rfl rfl) ?_
        refine .v rfl rfl (O.pickT g22 rfl rfl rfl) ?_
        refine .m rfl rfl rfl rfl ?_
        refine .m rfl (met rfl rfl rfl g23) rfl rfl ?_
        refine .m rfl (met rfl rfl rfl g23) rfl rfl ?_
        refine .m rfl (met rfl rfl rfl g23) rfl rfl ?_
        refine .v rfl (met rfl rfl rfl g23) (O.idxO sl31 (c18 (by first | (simp only [g22, g23, g24, g25, Bool.true_or, Bool.or_true, Bool.false_or, Bool.or_false, Bool.true_and, Bool.and_true, Bool.false_and, Bool.and_false, Bool.not_true, Bool.not_false, cond_true, cond_false]; done) | (repeat (first | rw [g22] | rw [g23] | rw [g24] | rw [g25])) <;> simp only [Bool.true_or, Bool.or_true, Bool.false_or, Bool.or_false, Bool.true_and, Bool.and_true, Bool.false_and, Bool.and_false, Bool.not_true, Bool.not_false, cond_true, cond_false])) rfl rfl rfl rfl) ?_
        refine .v rfl (met rfl rfl rfl g23) (O.fld fld46_1 rfl rfl rfl) ?_
        refine .v rfl (met rfl rfl rfl g23) (O.ldE (c := (.val (.int .i64 ((nth t1.2.1 t4).Price)))) ty3 (c18 (by first | (simp only [g22, g23, g24, g25, Bool.true_or, Bool.or_true, Bool.false_or, Bool.or_false, Bool.true_and, Bool.and_true, Bool.false_and, Bool.and_false, Bool.not_true, Bool.not_false, cond_true, cond_false]; done) | (repeat (first | rw [g22] | rw [g23] | rw [g24] | rw [g25])) <;> simp only [Bool.true_or, Bool.or_true, Bool.false_or, Bool.or_false, Bool.true_and, Bool.and_true, Bool.false_and, Bool.and_false, Bool.not_true, Bool.not_false, cond_true, cond_false])) rfl rfl rfl rfl rfl) ?_
        refine .v rfl (met rfl rfl rfl g23) (OpL.binI rfl rfl rfl rfl) ?_
        refine .v rfl rfl (O.pickT g23 rfl rfl rfl) ?_
        refine .m rfl rfl rfl rfl ?_
        refine .m rfl (met rfl rfl rfl g24) rfl rfl ?_
        refine .m rfl (met rfl rfl rfl g24) rfl rfl ?_
        refine .m rfl (met rfl rfl rfl g24) rfl rfl ?_
        refine .v rfl (met rfl rfl rfl g24) (O.idxO sl31 (c19 (by first | (simp only [g22, g23, g24, g25, Bool.true_or, Bool.or_true, Bool.false_or, Bool.or_false, Bool.true_and, Bool.and_true, Bool.false_and, Bool.and_false, Bool.not_true, Bool.not_false, cond_true, cond_false]; done) | (repeat (first | rw [g22] | rw [g23] | rw [g24] | rw [g25])) <;> simp only [Bool.true_or, Bool.or_true, Bool.false_or, Bool.or_false, Bool.true_and, Bool.and_true, Bool.false_and, Bool.and_false, Bool.not_true, Bool.not_false, cond_true, cond_false])) rfl rfl rfl rfl) ?_
        refine .v rfl (met rfl rfl rfl g24) (O.fld fld46_1 rfl rfl rfl) ?_
        refine .v rfl (met rfl rfl rfl g24) (O.ldE (c := (.val (.int .i64 ((nth t1.2.1 t4).Price)))) ty3 (c19 (by first | (simp only [g22, g23, g24, g25, Bool.true_or, Bool.or_true, Bool.false_or, Bool.or_false, Bool.true_and, Bool.and_true, Bool.false_and, Bool.and_false, Bool.not_true, Bool.not_false, cond_true, cond_false]; done) | (repeat (first | rw [g22] | rw [g23] | rw [g24] | rw [g25])) <;> simp only [Bool.true_or, Bool.or_true, Bool.false_or, Bool.or_false, Bool.true_and, Bool.and_true, Bool.false_and, Bool.and_false, Bool.not_true, Bool.not_false, cond_true, cond_false])) rfl rfl rfl rfl rfl) ?_
        refine .v rfl (met rfl rfl rfl g24) (OpL.binI rfl rfl rfl rfl) ?_
        refine .v rfl (met rfl rfl rfl g24) (OpL.eqB rfl u4 rfl rfl) ?_
        refine .v rfl rfl (O.pickT g24 rfl rfl rfl) ?_
        refine .m rfl rfl rfl rfl ?_
        refine .call (.b t20) [] 0 (lombardlaw13_awake.ok ((if_pos (by first | (simp only [g22, g23, g24, g25, Bool.true_or, Bool.or_true, Bool.false_or, Bool.or_false, Bool.true_and, Bool.and_true, Bool.false_and, Bool.and_false, Bool.not_true, Bool.not_false, cond_true, cond_false]; done) | (repeat (first | rw [g22] | rw [g23] | rw [g24] | rw [g25])) <;> simp only [Bool.true_or, Bool.or_true, Bool.false_or, Bool.or_false, Bool.true_and, Bool.and_true, Bool.false_and, Bool.and_false, Bool.not_true, Bool.not_false, cond_true, cond_false])).symm.trans b21)) rfl (met rfl rfl rfl g25) rfl ca9 rfl rfl .nil rfl rfl rfl rfl rfl ?_
        refine .v rfl rfl (O.pickT g25 rfl rfl rfl) ?_
        refine .a rfl rfl rfl rfl ?_
        refine .nil ?_
        refine ⟨by kernel_rfl, by kernel_rfl, ?_⟩
        exact toN (Gives.mkR [] (.c rfl (sbb (by first | (simp only [g22, g23, g24, g25, Bool.true_or, Bool.or_true, Bool.false_or, Bool.or_false, Bool.true_and, Bool.and_true, Bool.false_and, Bool.and_false, Bool.not_true, Bool.not_false, cond_true, cond_false]; done) | (repeat (first | rw [g22] | rw [g23] | rw [g24] | rw [g25])) <;> simp only [Bool.true_or, Bool.or_true, Bool.false_or, Bool.or_false, Bool.true_and, Bool.and_true, Bool.false_and, Bool.and_false, Bool.not_true, Bool.not_false, cond_true, cond_false])) rfl .n) .n rfl rfl rfl)
       ·refine W.dk (unm 33 [0, 1, 3, 3, 3, 27, 59, 123, 255, 511, 1023, 2047, 2047, 2047, 14335, 30719, 63487, 131071, 262143, 524287, 1048575, 1048575, 1048575, 7340031, 15728639, 32505855, 66060287, 134217727, 268435455, 536870911, 1073741823, 2147483647, 4294967295]) rfl (by kernel_rfl) ?_
        refine .m rfl rfl rfl rfl ?_
        refine .m rfl rfl rfl rfl ?_
        refine .v rfl (met rfl rfl rfl g22) (O.ldN ty29 rfl rfl rfl) ?_
        refine .m rfl (met rfl rfl rfl g22) rfl rfl ?_
        refine .m rfl (met rfl rfl rfl g22) rfl rfl ?_
        refine .v rfl (met rfl rfl rfl g22) (O.idxO sl31 (c17 (by first | (simp only [g22, g23, g24, g25, Bool.true_or, Bool.or_true, Bool.false_or, Bool.or_false, Bool.true_and, Bool.and_true, Bool.false_and, Bool.and_false, Bool.not_true, Bool.not_false, cond_true, cond_false]; done) | (repeat (first | rw [g22] | rw [g23] | rw [g24] | rw [g25])) <;> simp only [Bool.true_or, Bool.or_true, Bool.false_or, Bool.or_false, Bool.true_and, Bool.and_true, Bool.false_and, Bool.and_false, Bool.not_true, Bool.not_false, cond_true, cond_false])) rfl rfl rfl rfl) ?_
        refine .v rfl (met rfl rfl rfl g22) (O.fld fld46_0 rfl rfl rfl) ?_
        refine .v rfl (met rfl rfl rfl g22) (O.ldEN ty29 (c17 (by first | (simp only [g22, g23, g24, g25, Bool.true_or, Bool.or_true, Bool.false_or, Bool.or_false, Bool.true_and, Bool.and_true, Bool.false_and, Bool.and_false, Bool.not_true, Bool.not_false, cond_true, cond_false]; done) | (repeat (first | rw [g22] | rw [g23] | rw [g24] | rw [g25])) <;> simp only [Bool.true_or, Bool.or_true, Bool.false_or, Bool.or_false, Bool.true_and, Bool.and_true, Bool.false_and, Bool.and_false, Bool.not_true, Bool.not_false, cond_true, cond_false])) rfl rfl rfl rfl rfl) ?_
        refine .v rfl (met rfl rfl rfl g22) (O.eqS (r := ((t6.1.ISIN == (((nth t1.2.1 t4).A).ISIN)) && ((t6.1.Issuer == (((nth t1.2.1 t4).A).Issuer)) && ((t6.1.Rating == (((nth t1.2.1 t4).A).Rating)) && ((t6.1.Maturity == (((nth t1.2.1 t4).A).Maturity)) && (t6.1.Currency == (((nth t1.2.1 t4).A).Currency))))))) fl29 rfl rfl rfl rfl rfl rfl) ?_
        refine .v rfl rfl (O.pickT g22 rfl rfl rfl) ?_
        refine .m rfl rfl rfl rfl ?_
        refine .m rfl (met rfl rfl rfl g23) rfl rfl ?_
        refine .m rfl (met rfl rfl rfl g23) rfl rfl ?_
        refine .m rfl (met rfl rfl rfl g23) rfl rfl ?_
        refine .v rfl (met rfl rfl rfl g23) (O.idxO sl31 (c18 (by first | (simp only [g22, g23, g24, g25, Bool.true_or, Bool.or_true, Bool.false_or, Bool.or_false, Bool.true_and, Bool.and_true, Bool.false_and, Bool.and_false, Bool.not_true, Bool.not_false, cond_true, cond_false]; done) | (repeat (first | rw [g22] | rw [g23] | rw [g24] | rw [g25])) <;> simp only [Bool.true_or, Bool.or_true, Bool.false_or, Bool.or_false, Bool.true_and, Bool.and_true, Bool.false_and, Bool.and_false, Bool.not_true, Bool.not_false, cond_true, cond_false])) rfl rfl rfl rfl) ?_
        refine .v rfl (met rfl rfl rfl g23) (O.fld fld46_1 rfl rfl rfl) ?_
        refine .v rfl (met rfl rfl rfl g23) (O.ldE (c := (.val (.int .i64 ((nth t1.2.1 t4).Price)))) ty3 (c18 (by first | (simp only [g22, g23, g24, g25, Bool.true_or, Bool.or_true, Bool.false_or, Bool.or_false, Bool.true_and, Bool.and_true, Bool.false_and, Bool.and_false, Bool.not_true, Bool.not_false, cond_true, cond_false]; done) | (repeat (first | rw [g22] | rw [g23] | rw [g24] | rw [g25])) <;> simp only [Bool.true_or, Bool.or_true, Bool.false_or, Bool.or_false, Bool.true_and, Bool.and_true, Bool.false_and, Bool.and_false, Bool.not_true, Bool.not_false, cond_true, cond_false])) rfl rfl rfl rfl rfl) ?_
        refine .v rfl (met rfl rfl rfl g23) (OpL.binI rfl rfl rfl rfl) ?_
        refine .v rfl rfl (O.pickT g23 rfl rfl rfl) ?_
        refine .m rfl rfl rfl rfl ?_
        refine .m rfl (met rfl rfl rfl g24) rfl rfl ?_
        refine .m rfl (met rfl rfl rfl g24) rfl rfl ?_
        refine .m rfl (met rfl rfl rfl g24) rfl rfl ?_
        refine .v rfl (met rfl rfl rfl g24) (O.idxO sl31 (c19 (by first | (simp only [g22, g23, g24, g25, Bool.true_or, Bool.or_true, Bool.false_or, Bool.or_false, Bool.true_and, Bool.and_true, Bool.false_and, Bool.and_false, Bool.not_true, Bool.not_false, cond_true, cond_false]; done) | (repeat (first | rw [g22] | rw [g23] | rw [g24] | rw [g25])) <;> simp only [Bool.true_or, Bool.or_true, Bool.false_or, Bool.or_false, Bool.true_and, Bool.and_true, Bool.false_and, Bool.and_false, Bool.not_true, Bool.not_false, cond_true, cond_false])) rfl rfl rfl rfl) ?_
        refine .v rfl (met rfl rfl rfl g24) (O.fld fld46_1 rfl rfl rfl) ?_
        refine .v rfl (met rfl rfl rfl g24) (O.ldE (c := (.val (.int .i64 ((nth t1.2.1 t4).Price)))) ty3 (c19 (by first | (simp only [g22, g23, g24, g25, Bool.true_or, Bool.or_true, Bool.false_or, Bool.or_false, Bool.true_and, Bool.and_true, Bool.false_and, Bool.and_false, Bool.not_true, Bool.not_false, cond_true, cond_false]; done) | (repeat (first | rw [g22] | rw [g23] | rw [g24] | rw [g25])) <;> simp only [Bool.true_or, Bool.or_true, Bool.false_or, Bool.or_false, Bool.true_and, Bool.and_true, Bool.false_and, Bool.and_false, Bool.not_true, Bool.not_false, cond_true, cond_false])) rfl rfl rfl rfl rfl) ?_
        refine .v rfl (met rfl rfl rfl g24) (OpL.binI rfl rfl rfl rfl) ?_
        refine .v rfl (met rfl rfl rfl g24) (OpL.eqB rfl u4 rfl rfl) ?_
        refine .v rfl rfl (O.pickT g24 rfl rfl rfl) ?_
        refine .m rfl rfl rfl rfl ?_
        refine .x rfl (unmet rfl rfl rfl g25) ?_
        refine .v rfl rfl (O.pickF g25 rfl rfl rfl) ?_
        refine .a rfl rfl rfl rfl ?_
        refine .nil ?_
        refine ⟨by kernel_rfl, by kernel_rfl, ?_⟩
        exact toN (Gives.mkR [] (.c rfl (sbb (by first | (simp only [g22, g23, g24, g25, Bool.true_or, Bool.or_true, Bool.false_or, Bool.or_false, Bool.true_and, Bool.and_true, Bool.false_and, Bool.and_false, Bool.not_true, Bool.not_false, cond_true, cond_false]; done) | (repeat (first | rw [g22] | rw [g23] | rw [g24] | rw [g25])) <;> simp only [Bool.true_or, Bool.or_true, Bool.false_or, Bool.or_false, Bool.true_and, Bool.and_true, Bool.false_and, Bool.and_false, Bool.not_true, Bool.not_false, cond_true, cond_false])) rfl .n) .n rfl rfl rfl)
      ·refine W.dk (unm 33 [0, 1, 3, 3, 3, 27, 59, 123, 255, 511, 1023, 2047, 2047, 2047, 14335, 30719, 63487, 131071, 262143, 524287, 1048575, 1048575, 1048575, 7340031, 15728639, 32505855, 66060287, 134217727, 268435455, 536870911, 1073741823, 2147483647, 4294967295]) rfl (by kernel_rfl) ?_
       refine .m rfl rfl rfl rfl ?_
       refine .m rfl rfl rfl rfl ?_
       refine .v rfl (met rfl rfl rfl g22) (O.ldN ty29 rfl rfl rfl) ?_
       refine .m rfl (met rfl rfl rfl g22) rfl rfl ?_
       refine .m rfl (met rfl rfl rfl g22) rfl rfl ?_
       refine .v rfl (met rfl rfl rfl g22) (O.idxO sl31 (c17 (by first | (simp only [g22, g23, g24, Bool.true_or, Bool.or_true, Bool.false_or, Bool.or_false, Bool.true_and, Bool.and_true, Bool.false_and, Bool.and_false, Bool.not_true, Bool.not_false, cond_true, cond_false]; done) | (repeat (first | rw [g22] | rw [g23] | rw [g24])) <;> simp only [Bool.true_or, Bool.or_true, Bool.false_or, Bool.or_false, Bool.true_and, Bool.and_true, Bool.false_and, Bool.and_false, Bool.not_true, Bool.not_false, cond_true, cond_false])) rfl rfl rfl rfl) ?_
       refine .v rfl (met rfl rfl rfl g22) (O.fld fld46_0 rfl rfl rfl) ?_
       refine .v rfl (met rfl rfl rfl g22) (O.ldEN ty29 (c17 (by first | (simp only [g22, g23, g24, Bool.true_or, Bool.or_true, Bool.false_or, Bool.or_false, Bool.true_and, Bool.and_true, Bool.false_and, Bool.and_false, Bool.not_true, Bool.not_false, cond_true, cond_false]; done) | (repeat (first | rw [g22] | rw [g23] | rw [g24])) <;> simp only [Bool.true_or, Bool.or_true, Bool.false_or, Bool.or_false, Bool.true_and, Bool.and_true, Bool.false_and, Bool.and_false, Bool.not_true, Bool.not_false, cond_true, cond_false])) rfl rfl rfl rfl rfl) ?_
       refine .v rfl (met rfl rfl rfl g22) (O.eqS (r := ((t6.1.ISIN == (((nth t1.2.1 t4).A).ISIN)) && ((t6.1.Issuer == (((nth t1.2.1 t4).A).Issuer)) && ((t6.1.Rating == (((nth t1.2.1 t4).A).Rating)) && ((t6.1.Maturity == (((nth t1.2.1 t4).A).Maturity)) && (t6.1.Currency == (((nth t1.2.1 t4).A).Currency))))))) fl29 rfl rfl rfl rfl rfl rfl) ?_
       refine .v rfl rfl (O.pickT g22 rfl rfl rfl) ?_
       refine .m rfl rfl rfl rfl ?_
       refine .m rfl (met rfl rfl rfl g23) rfl rfl ?_
       refine .m rfl (met rfl rfl rfl g23) rfl rfl ?_
       refine .m rfl (met rfl rfl rfl g23) rfl rfl ?_
       refine .v rfl (met rfl rfl rfl g23) (O.idxO sl31 (c18 (by first | (simp only [g22, g23, g24, Bool.true_or, Bool.or_true, Bool.false_or, Bool.or_false, Bool.true_and, Bool.and_true, Bool.false_and, Bool.and_false, Bool.not_true, Bool.not_false, cond_true, cond_false]; done) | (repeat (first | rw [g22] | rw [g23] | rw [g24])) <;> simp only [Bool.true_or, Bool.or_true, Bool.false_or, Bool.or_false, Bool.true_and, Bool.and_true, Bool.false_and, Bool.and_false, Bool.not_true, Bool.not_false, cond_true, cond_false])) rfl rfl rfl rfl) ?_
       refine .v rfl (met rfl rfl rfl g23) (O.fld fld46_1 rfl rfl rfl) ?_
       refine .v rfl (met rfl rfl rfl g23) (O.ldE (c := (.val (.int .i64 ((nth t1.2.1 t4).Price)))) ty3 (c18 (by first | (simp only [g22, g23, g24, Bool.true_or, Bool.or_true, Bool.false_or, Bool.or_false, Bool.true_and, Bool.and_true, Bool.false_and, Bool.and_false, Bool.not_true, Bool.not_false, cond_true, cond_false]; done) | (repeat (first | rw [g22] | rw [g23] | rw [g24])) <;> simp only [Bool.true_or, Bool.or_true, Bool.false_or, Bool.or_false, Bool.true_and, Bool.and_true, Bool.false_and, Bool.and_false, Bool.not_true, Bool.not_false, cond_true, cond_false])) rfl rfl rfl rfl rfl) ?_
       refine .v rfl (met rfl rfl rfl g23) (OpL.binI rfl rfl rfl rfl) ?_
       refine .v rfl rfl (O.pickT g23 rfl rfl rfl) ?_
       refine .m rfl rfl rfl rfl ?_
       refine .x rfl (unmet rfl rfl rfl g24) ?_
       refine .x rfl (unmet rfl rfl rfl g24) ?_
       refine .x rfl (unmet rfl rfl rfl g24) ?_
       refine .x rfl (unmet rfl rfl rfl g24) ?_
       refine .x rfl (unmet rfl rfl rfl g24) ?_
       refine .x rfl (unmet rfl rfl rfl g24) ?_
       refine .x rfl (unmet rfl rfl rfl g24) ?_
       refine .x rfl (unmet rfl rfl rfl g24) ?_
       refine .v rfl rfl (O.pickF g24 rfl rfl rfl) ?_
       refine .m rfl rfl rfl rfl ?_
       refine .x rfl (unmet rfl rfl rfl rfl) ?_
       refine .v rfl rfl (O.pickF rfl rfl rfl rfl) ?_
       refine .a rfl rfl rfl rfl ?_
       refine .nil ?_
       refine ⟨by kernel_rfl, by kernel_rfl, ?_⟩
       exact toN (Gives.mkR [] (.c rfl (sbb (by first | (simp only [g22, g23, g24, Bool.true_or, Bool.or_true, Bool.false_or, Bool.or_false, Bool.true_and, Bool.and_true, Bool.false_and, Bool.and_false, Bool.not_true, Bool.not_false, cond_true, cond_false]; done) | (repeat (first | rw [g22] | rw [g23] | rw [g24])) <;> simp only [Bool.true_or, Bool.or_true, Bool.false_or, Bool.or_false, Bool.true_and, Bool.and_true, Bool.false_and, Bool.and_false, Bool.not_true, Bool.not_false, cond_true, cond_false])) rfl .n) .n rfl rfl rfl)
     ·refine W.dk (unm 33 [0, 1, 3, 3, 3, 27, 59, 123, 255, 511, 1023, 2047, 2047, 2047, 14335, 30719, 63487, 131071, 262143, 524287, 1048575, 1048575, 1048575, 7340031, 15728639, 32505855, 66060287, 134217727, 268435455, 536870911, 1073741823, 2147483647, 4294967295]) rfl (by kernel_rfl) ?_
      refine .m rfl rfl rfl rfl ?_
      refine .m rfl rfl rfl rfl ?_
      refine .v rfl (met rfl rfl rfl g22) (O.ldN ty29 rfl rfl rfl) ?_
      refine .m rfl (met rfl rfl rfl g22) rfl rfl ?_
      refine .m rfl (met rfl rfl rfl g22) rfl rfl ?_
      refine .v rfl (met rfl rfl rfl g22) (O.idxO sl31 (c17 (by first | (simp only [g22, g23, Bool.true_or, Bool.or_true, Bool.false_or, Bool.or_false, Bool.true_and, Bool.and_true, Bool.false_and, Bool.and_false, Bool.not_true, Bool.not_false, cond_true, cond_false]; done) | (repeat (first | rw [g22] | rw [g23])) <;> simp only [Bool.true_or, Bool.or_true, Bool.false_or, Bool.or_false, Bool.true_and, Bool.and_true, Bool.false_and, Bool.and_false, Bool.not_true, Bool.not_false, cond_true, cond_false])) rfl rfl rfl rfl) ?_
      refine .v rfl (met rfl rfl rfl g22) (O.fld fld46_0 rfl rfl rfl) ?_
      refine .v rfl (met rfl rfl rfl g22) (O.ldEN ty29 (c17 (by first | (simp only [g22, g23, Bool.true_or, Bool.or_true, Bool.false_or, Bool.or_false, Bool.true_and, Bool.and_true, Bool.false_and, Bool.and_false, Bool.not_true, Bool.not_false, cond_true, cond_false]; done) | (repeat (first | rw [g22] | rw [g23])) <;> simp only [Bool.true_or, Bool.or_true, Bool.false_or, Bool.or_false, Bool.true_and, Bool.and_true, Bool.false_and, Bool.and_false, Bool.not_true, Bool.not_false, cond_true, cond_false])) rfl rfl rfl rfl rfl) ?_
      refine .v rfl (met rfl rfl rfl g22) (O.eqS (r := ((t6.1.ISIN == (((nth t1.2.1 t4).A).ISIN)) && ((t6.1.Issuer == (((nth t1.2.1 t4).A).Issuer)) && ((t6.1.Rating == (((nth t1.2.1 t4).A).Rating)) && ((t6.1.Maturity == (((nth t1.2.1 t4).A).Maturity)) && (t6.1.Currency == (((nth t1.2.1 t4).A).Currency))))))) fl29 rfl rfl rfl rfl rfl rfl) ?_
      refine .v rfl rfl (O.pickT g22 rfl rfl rfl) ?_
      refine .m rfl rfl rfl rfl ?_
      refine .x rfl (unmet rfl rfl rfl g23) ?_
      refine .x rfl (unmet rfl rfl rfl g23) ?_
      refine .x rfl (unmet rfl rfl rfl g23) ?_
      refine .x rfl (unmet rfl rfl rfl g23) ?_
      refine .x rfl (unmet rfl rfl rfl g23) ?_
      refine .x rfl (unmet rfl rfl rfl g23) ?_
      refine .x rfl (unmet rfl rfl rfl g23) ?_
      refine .v rfl rfl (O.pickF g23 rfl rfl rfl) ?_
      refine .m rfl rfl rfl rfl ?_
      refine .x rfl (unmet rfl rfl rfl rfl) ?_
      refine .x rfl (unmet rfl rfl rfl rfl) ?_
      refine .x rfl (unmet rfl rfl rfl rfl) ?_
      refine .x rfl (unmet rfl rfl rfl rfl) ?_
      refine .x rfl (unmet rfl rfl rfl rfl) ?_
      refine .x rfl (unmet rfl rfl rfl rfl) ?_
      refine .x rfl (unmet rfl rfl rfl rfl) ?_
      refine .x rfl (unmet rfl rfl rfl rfl) ?_
      refine .v rfl rfl (O.pickF rfl rfl rfl rfl) ?_
      refine .m rfl rfl rfl rfl ?_
      refine .x rfl (unmet rfl rfl rfl rfl) ?_
      refine .v rfl rfl (O.pickF rfl rfl rfl rfl) ?_
      refine .a rfl rfl rfl rfl ?_
      refine .nil ?_
      refine ⟨by kernel_rfl, by kernel_rfl, ?_⟩
      exact toN (Gives.mkR [] (.c rfl (sbb (by first | (simp only [g22, g23, Bool.true_or, Bool.or_true, Bool.false_or, Bool.or_false, Bool.true_and, Bool.and_true, Bool.false_and, Bool.and_false, Bool.not_true, Bool.not_false, cond_true, cond_false]; done) | (repeat (first | rw [g22] | rw [g23])) <;> simp only [Bool.true_or, Bool.or_true, Bool.false_or, Bool.or_false, Bool.true_and, Bool.and_true, Bool.false_and, Bool.and_false, Bool.not_true, Bool.not_false, cond_true, cond_false])) rfl .n) .n rfl rfl rfl)
    ·refine W.dk (unm 33 [0, 1, 3, 3, 3, 27, 59, 123, 255, 511, 1023, 2047, 2047, 2047, 14335, 30719, 63487, 131071, 262143, 524287, 1048575, 1048575, 1048575, 7340031, 15728639, 32505855, 66060287, 134217727, 268435455, 536870911, 1073741823, 2147483647, 4294967295]) rfl (by kernel_rfl) ?_
     refine .m rfl rfl rfl rfl ?_
     refine .m rfl rfl rfl rfl ?_
     refine .x rfl (unmet rfl rfl rfl g22) ?_
     refine .x rfl (unmet rfl rfl rfl g22) ?_
     refine .x rfl (unmet rfl rfl rfl g22) ?_
     refine .x rfl (unmet rfl rfl rfl g22) ?_
     refine .x rfl (unmet rfl rfl rfl g22) ?_
     refine .x rfl (unmet rfl rfl rfl g22) ?_
     refine .x rfl (unmet rfl rfl rfl g22) ?_
     refine .v rfl rfl (O.pickF g22 rfl rfl rfl) ?_
     refine .m rfl rfl rfl rfl ?_
     refine .x rfl (unmet rfl rfl rfl rfl) ?_
     refine .x rfl (unmet rfl rfl rfl rfl) ?_
     refine .x rfl (unmet rfl rfl rfl rfl) ?_
     refine .x rfl (unmet rfl rfl rfl rfl) ?_
     refine .x rfl (unmet rfl rfl rfl rfl) ?_
     refine .x rfl (unmet rfl rfl rfl rfl) ?_
     refine .x rfl (unmet rfl rfl rfl rfl) ?_
     refine .v rfl rfl (O.pickF rfl rfl rfl rfl) ?_
     refine .m rfl rfl rfl rfl ?_
     refine .x rfl (unmet rfl rfl rfl rfl) ?_
     refine .x rfl (unmet rfl rfl rfl rfl) ?_
     refine .x rfl (unmet rfl rfl rfl rfl) ?_
     refine .x rfl (unmet rfl rfl rfl rfl) ?_
     refine .x rfl (unmet rfl rfl rfl rfl) ?_
     refine .x rfl (unmet rfl rfl rfl rfl) ?_
     refine .x rfl (unmet rfl rfl rfl rfl) ?_
     refine .x rfl (unmet rfl rfl rfl rfl) ?_
     refine .v rfl rfl (O.pickF rfl rfl rfl rfl) ?_
     refine .m rfl rfl rfl rfl ?_
     refine .x rfl (unmet rfl rfl rfl rfl) ?_
     refine .v rfl rfl (O.pickF rfl rfl rfl rfl) ?_
     refine .a rfl rfl rfl rfl ?_
     refine .nil ?_
     refine ⟨by kernel_rfl, by kernel_rfl, ?_⟩
     exact toN (Gives.mkR [] (.c rfl (sbb (by simp only [g22, Bool.true_or, Bool.or_true, Bool.false_or, Bool.or_false, Bool.true_and, Bool.and_true, Bool.false_and, Bool.and_false, Bool.not_true, Bool.not_false, cond_true, cond_false])) rfl .n) .n rfl rfl rfl)

noncomputable def slices_Clone_api_Asset.f (x0 : List api_Asset) : Option (List api_Asset) :=
  if (List.length x0) * 56 ≤ 140737488355328 then some x0 else none
set_option maxRecDepth 100000 in
theorem slices_Clone_api_Asset.ok {x0 r : List api_Asset} (h : slices_Clone_api_Asset.f x0 = some r) : Pm.Spec prog 40 [.xown 29 5 (List.map api_Asset.enc x0)] (.xown 29 5 (List.map api_Asset.enc r)) [some (.xown 29 5 (List.map api_Asset.enc x0))] := by
 obtain ⟨h1, rfl⟩ : (List.length x0) * 56 ≤ 140737488355328 ∧ x0 = r := by
   unfold slices_Clone_api_Asset.f at h
   split at h
   · rename_i h1; cases h; exact ⟨h1, rfl⟩
   · cases h
 refine Pm.Spec.of_body Try.func40 rfl (by kernel_rfl) (Nat.le_of_ble_eq_true rfl) (Nat.le_of_ble_eq_true rfl) ?_
 refine W.ghost (σ' := (mkSt [(0, some (.own 0))] [(0, some (.rows 29 5 (List.map api_Asset.enc x0) false))] 1000)) (Gives.entry (.c rfl .n) (.c rfl .n)) ?_
 cases x0 with
 | cons x1 l1 =>
  refine W.seq ?_
  refine W.pk ?_
  refine .v rfl rfl (OpL.move (.inr rfl) rfl) ?_
  refine .nil ?_
  refine W.seq ?_
  refine W.seq ?_
  refine W.pk ?_
  refine .v rfl rfl (OpL.move (.inl rfl) rfl) ?_
  refine .v rfl rfl (O.eqOwn sl68 rfl rfl rfl rfl) ?_
  refine .nil ?_
  refine W.cond rfl (fun q => by cases q) (fun _ => ?_)
  refine W.skip ?_
  refine W.seq ?_
  refine W.pk ?_
  refine .t rfl rfl (O.lit (enc := api_Asset.enc) (l := []) sl68 rfl rfl rfl rfl rfl rfl rfl rfl rfl) ?_
  refine .v rfl rfl (OpL.move (.inl rfl) rfl) ?_
  have h2 : (List.length ([] : List api_Asset) + List.length (x1 :: l1 : List api_Asset)) * 56 ≤ 140737488355328 := by simpa using h1
  refine .t rfl rfl (O.appO (l := []) sl68 api_Asset.ok h2 rfl rfl rfl rfl rfl) ?_
  refine .v rfl rfl (OpL.move (.inr rfl) rfl) ?_
  refine .nil ?_
  refine W.ret ?_
  exact leaves (.inr rfl) rfl (.own _ _ _ _ rfl) (cS (.own _ _ _ _ rfl) .nil) rfl rfl
 | nil =>
  refine W.emptyO 0 rfl rfl fun A c => ?_
  cases A with
  | none =>
   refine W.seq ?_
   refine W.pk ?_
   refine .v rfl rfl (OpL.move (.inr rfl) rfl) ?_
   refine .nil ?_
   refine W.seq ?_
   refine W.seq ?_
   refine W.pk ?_
   refine .v rfl rfl (OpL.move (.inl rfl) rfl) ?_
   refine .v rfl rfl (O.eqSl sl68 rfl rfl rfl) ?_
   refine .nil ?_
   refine W.cond rfl (fun _ => ?_) (fun q => by cases q)
   refine W.seq ?_
   refine W.pk ?_
   refine .v rfl rfl (OpL.move (.inr rfl) rfl) ?_
   refine .nil ?_
   refine W.ret ?_
   exact leaves (.inr rfl) rfl (.nilown _ _) (cS (.own _ _ _ _ rfl) .nil) rfl rfl
  | some p =>
   refine W.seq ?_
   refine W.pk ?_
   refine .v rfl rfl (OpL.move (.inr rfl) rfl) ?_
   refine .nil ?_
   refine W.seq ?_
   refine W.seq ?_
   refine W.pk ?_
   refine .v rfl rfl (OpL.move (.inl rfl) rfl) ?_
   refine .v rfl rfl (O.eqSl sl68 rfl rfl rfl) ?_
   refine .nil ?_
   refine W.cond rfl (fun q => by cases q) (fun _ => ?_)
   refine W.skip ?_
   refine W.ghost (Gives.emptyS 0 5 rfl) ?_
   refine W.seq ?_
   refine W.pk ?_
   refine .t rfl rfl (O.lit (enc := api_Asset.enc) (l := []) sl68 rfl rfl rfl rfl rfl rfl rfl rfl rfl) ?_
   refine .v rfl rfl (OpL.move (.inl rfl) rfl) ?_
   have h2 : (List.length ([] : List api_Asset) + List.length ([] : List api_Asset)) * 56 ≤ 140737488355328 := by simp
   refine .t rfl rfl (O.app (l := []) sl68 api_Asset.ok h2 rfl rfl rfl rfl) ?_
   refine .v rfl rfl (OpL.move (.inr rfl) rfl) ?_
   refine .nil ?_
   refine W.ret ?_
   exact leaves (.inr rfl) rfl (.own _ _ _ _ rfl) (cS (.own _ _ _ _ rfl) .nil) rfl rfl

noncomputable def asset_Book_All.f (x0 : asset_Book) : Option (List api_Asset) :=
  (slices_Clone_api_Asset.f x0.l).bind fun t1 =>
  some t1
set_option maxRecDepth 100000 in
set_option maxHeartbeats 4000000 in
theorem asset_Book_All.ok {x0 : asset_Book} {r : List api_Asset} (h : asset_Book_All.f x0 = some r) : Pm.Spec prog 31 [.xbox [.xown 29 5 (List.map api_Asset.enc x0.l), .xown 3 1 (List.map (encI .i64) x0.prices), .imm (.val (.bool x0.made))]] (.xown 29 5 (List.map api_Asset.enc r)) [some (.xbox [.xown 29 5 (List.map api_Asset.enc x0.l), .xown 3 1 (List.map (encI .i64) x0.prices), .imm (.val (.bool x0.made))])] := by
 unfold asset_Book_All.f at h
 refine Pm.Spec.of_body Try.func31 rfl (by kernel_rfl) (Nat.le_of_ble_eq_true rfl) (Nat.le_of_ble_eq_true rfl) ?_
 refine W.ghost (σ' := (mkSt [(0, some (.ptr 0 0))] [(0, some (.box [.own 1, .own 2, .b x0.made])), (1, some (.rows 29 5 (List.map api_Asset.enc x0.l) false)), (2, some (.rows 3 1 (List.map (encI .i64) x0.prices) false))] 1000)) (Gives.entry (.c rfl .n) (.c rfl (.c rfl (.c rfl .n)))) ?_
 refine W.ghost (σ' := (mkSt [(0, some (.ptr 0 0))] [(0, some (.box [.own 1000, .own 1001, .b x0.made])), (1000, some (.rows 29 5 (List.map api_Asset.enc x0.l) false)), (1001, some (.rows 3 1 (List.map (encI .i64) x0.prices) false))] 1002)) (Gives.mkR [(1000, 1), (1001, 2)] (.r rfl rfl .n) (.r rfl rfl rfl (.r rfl rfl rfl (.r rfl rfl rfl .n))) rfl rfl rfl) ?_
 refine W.seq ?_
 refine W.pk ?_
 refine .a rfl rfl rfl rfl ?_
 refine .nil ?_
 refine W.seq ?_
 refine W.seq ?_
 refine W.pk ?_
 refine .m rfl rfl rfl rfl ?_
 refine .v rfl rfl (OpL.eqP rfl u30 rfl rfl rfl) ?_
 refine .nil ?_
 refine W.cond rfl (fun q => by cases q) (fun _ => ?_)
 refine W.skip ?_
 refine W.seq ?_
 obtain ⟨t1, b2, h⟩ := bnd1 h
 refine W.pk ?_
 refine .m rfl rfl rfl rfl ?_
 refine .v rfl rfl (OpL.nilP rfl rfl rfl) ?_
 refine .v rfl rfl (O.fld fld71_0 rfl rfl rfl) ?_
 refine .v rfl rfl (O.ld (y := .own 1000) ty68 rfl rfl rfl) ?_
 refine .call (.own 1002) [(1002, some (.rows 29 5 (List.map api_Asset.enc t1) false)), (1000, some (.rows 29 5 (List.map api_Asset.enc x0.l) false)), (1000, none)] 1 (slices_Clone_api_Asset.ok b2) rfl rfl rfl ca40 rfl rfl (cC (.own _ _ _ _ rfl) .nil) rfl rfl rfl rfl rfl ?_
 refine .a rfl rfl rfl rfl ?_
 refine .nil ?_
 refine W.ret ?_
 cases h
 exact leaves (.inr rfl) rfl (.own _ _ _ _ rfl) (cS (.ptr _ _ _ _ _ rfl (cC (.own _ _ _ _ rfl) (cC (.own _ _ _ _ rfl) (cC (.imm _) .nil)))) .nil) rfl rfl

noncomputable def asset_Book_Prices.b0 (x0 : asset_Book) (v14 : Int) (v15 : List api_Price) : Option ((Int × (List api_Price)) ⊕ (List api_Price)) :=
  if (decide (v14 < (List.length x0.l : Int))) = true then
    if (0 : Int) ≤ v14 ∧ v14 < (List.length x0.l : Int) then
    if (0 : Int) ≤ v14 ∧ v14 < (List.length x0.prices : Int) then
    if (decide ((nth x0.prices v14) > 0)) = true then
      if (0 : Int) ≤ v14 ∧ v14 < (List.length x0.prices : Int) then
      if (List.length v15 + List.length [(⟨(nth x0.l v14).ISIN, (nth x0.prices v14)⟩ : api_Price)]) * 24 ≤ 140737488355328 then
      some (.inl ((IntKind.wrap .i64 (v14 + 1)), (v15 ++ [(⟨(nth x0.l v14).ISIN, (nth x0.prices v14)⟩ : api_Price)])))
      else none
      else none
    else
      some (.inl ((IntKind.wrap .i64 (v14 + 1)), v15))
    else none
    else none
  else
    some (.inr v15)
noncomputable def asset_Book_Prices.r0 (x0 : asset_Book) (s : Int × (List api_Price)) : Option ((Int × (List api_Price)) ⊕ (List api_Price)) := asset_Book_Prices.b0 x0 s.1 s.2
noncomputable def asset_Book_Prices.f (x0 : asset_Book) : Option (List api_Price) :=
  (loop (asset_Book_Prices.r0 x0) (0, [])).bind fun o29 =>
  some o29
set_option maxRecDepth 100000 in
set_option maxHeartbeats 4000000 in
theorem asset_Book_Prices.ok {x0 : asset_Book} {r : List api_Price} (h : asset_Book_Prices.f x0 = some r) : Pm.Spec prog 32 [.xbox [.xown 29 5 (List.map api_Asset.enc x0.l), .xown 3 1 (List.map (encI .i64) x0.prices), .imm (.val (.bool x0.made))]] (.xown 82 2 (List.map api_Price.enc r)) [some (.xbox [.xown 29 5 (List.map api_Asset.enc x0.l), .xown 3 1 (List.map (encI .i64) x0.prices), .imm (.val (.bool x0.made))])] := by
 unfold asset_Book_Prices.f at h
 refine Pm.Spec.of_body Try.func32 rfl (by kernel_rfl) (Nat.le_of_ble_eq_true rfl) (Nat.le_of_ble_eq_true rfl) ?_
 refine W.ghost (σ' := (mkSt [(0, some (.ptr 0 0))] [(0, some (.box [.own 1, .own 2, .b x0.made])), (1, some (.rows 29 5 (List.map api_Asset.enc x0.l) false)), (2, some (.rows 3 1 (List.map (encI .i64) x0.prices) false))] 1000)) (Gives.entry (.c rfl .n) (.c rfl (.c rfl (.c rfl .n)))) ?_
 refine W.ghost (σ' := (mkSt [(0, some (.ptr 0 0))] [(0, some (.box [.own 1000, .own 1001, .b x0.made])), (1000, some (.rows 29 5 (List.map api_Asset.enc x0.l) false)), (1001, some (.rows 3 1 (List.map (encI .i64) x0.prices) false))] 1002)) (Gives.mkR [(1000, 1), (1001, 2)] (.r rfl rfl .n) (.r rfl rfl rfl (.r rfl rfl rfl (.r rfl rfl rfl .n))) rfl rfl rfl) ?_
 refine W.seq ?_
 refine W.pk ?_
 refine .a rfl rfl rfl rfl ?_
 refine .nil ?_
 refine W.seq ?_
 refine W.seq ?_
 refine W.pk ?_
 refine .m rfl rfl rfl rfl ?_
 refine .v rfl rfl (OpL.eqP rfl u30 rfl rfl rfl) ?_
 refine .nil ?_
 refine W.cond rfl (fun q => by cases q) (fun _ => ?_)
 refine W.skip ?_
 refine W.seq ?_
 refine W.pk ?_
 refine .a rfl rfl rfl rfl ?_
 refine .nil ?_
 refine W.seq ?_
 refine W.seq ?_
 refine W.pk ?_
 refine .m rfl rfl rfl rfl ?_
 refine .v rfl rfl (OpL.nilP rfl rfl rfl) ?_
 refine .v rfl rfl (O.fld fld71_0 rfl rfl rfl) ?_
 refine .v rfl rfl (O.ld (y := .own 1000) ty68 rfl rfl rfl) ?_
 refine .v rfl rfl (O.lenO sl68 rfl rfl rfl) ?_
 refine .m rfl rfl rfl rfl ?_
 refine .nil ?_
 refine W.ghost (Gives.mintS 3 82 2 rfl) ?_
 obtain ⟨o29, b30, h⟩ := bnd1 h
 refine W.fork (mkSt [(3, some (.own 1002))] [(0, some (.box [.own 1000, .own 1001, .b x0.made])), (1000, some (.rows 29 5 (List.map api_Asset.enc x0.l) false)), (1001, some (.rows 3 1 (List.map (encI .i64) x0.prices) false)), (1002, some (.rows 82 2 (List.map api_Price.enc o29) false))] 1003) ?_ ?_
 ·refine W.seq ?_
  refine W.pk ?_
  refine .m rfl rfl rfl rfl ?_
  refine .a rfl rfl rfl rfl ?_
  refine .nil ?_
  refine W.ret ?_
  cases h
  exact leaves (.inr rfl) rfl (.own _ _ _ _ rfl) (cS (.ptr _ _ _ _ _ rfl (cC (.own _ _ _ _ rfl) (cC (.own _ _ _ _ rfl) (cC (.imm _) .nil)))) .nil) rfl rfl
 ·clear h
  refine W.block ?_
  refine W.loopF (fun (s_ : Int × (List api_Price)) => mkSt [(0, some (.ptr 0 0)), (3, some (.own 1002)), (11, some (.own 1000)), (12, some (.i (List.length x0.l : Int))), (13, some (.i s_.1))] [(0, some (.box [.own 1000, .own 1001, .b x0.made])), (1000, some (.rows 29 5 (List.map api_Asset.enc x0.l) false)), (1001, some (.rows 3 1 (List.map (encI .i64) x0.prices) false)), (1002, some (.rows 82 2 (List.map api_Price.enc s_.2) false))] 1003) b30 (Gives.mkR [] (.r rfl rfl (.r rfl rfl (.r rfl rfl (.r rfl rfl (.r rfl rfl .n))))) (.r rfl rfl rfl (.r rfl rfl rfl (.r rfl rfl rfl (.r rfl rfl rfl .n)))) rfl rfl rfl) ?_
  rintro ⟨v14, v15⟩ s_ hr
  have h : asset_Book_Prices.b0 x0 v14 v15 = some s_ := hr
  unfold asset_Book_Prices.b0 at h
  refine W.seq ?_
  refine W.pk ?_
  refine .v rfl rfl (OpL.binI rfl rfl rfl rfl) ?_
  refine .nil ?_
  refine W.seq ?_
  refine W.cond rfl (fun q32 => ?_) (fun q32 => ?_)
  ·have h := ifT q32 h
   refine W.skip ?_
   refine W.seq ?_
   refine W.block ?_
   refine W.seq ?_
   obtain ⟨c33, h⟩ := chk h
   refine W.pk ?_
   refine .m rfl rfl rfl rfl ?_
   refine .v rfl rfl (O.idxO sl68 c33 rfl rfl rfl rfl) ?_
   refine .v rfl rfl (O.ldEN ty29 c33 rfl rfl rfl rfl rfl) ?_
   refine .t rfl rfl (O.alloc z29 rfl) ?_
   refine .a rfl rfl rfl rfl ?_
   refine .s rfl rfl (O.st ty29 rfl rfl rfl rfl rfl rfl rfl rfl rfl rfl (all' := [.s ((nth x0.l v14).ISIN), .i ((nth x0.l v14).Issuer), .i ((nth x0.l v14).Rating), .i ((nth x0.l v14).Maturity), .s ((nth x0.l v14).Currency)]) rfl) ?_
   refine .nil ?_
   refine W.seq ?_
   obtain ⟨c34, h⟩ := chk h
   refine W.pk ?_
   refine .m rfl rfl rfl rfl ?_
   refine .v rfl rfl (OpL.nilP rfl rfl rfl) ?_
   refine .v rfl rfl (O.fld fld71_1 rfl rfl rfl) ?_
   refine .v rfl rfl (O.ld (y := .own 1001) ty69 rfl rfl rfl) ?_
   refine .m rfl rfl rfl rfl ?_
   refine .v rfl rfl (O.idxO sl69 c34 rfl rfl rfl rfl) ?_
   refine .v rfl rfl (O.ldE (c := (.val (.int .i64 (nth x0.prices v14)))) ty3 c34 rfl rfl rfl rfl rfl) ?_
   refine .v rfl rfl (OpL.binI rfl rfl rfl rfl) ?_
   refine .nil ?_
   refine W.cond rfl (fun q35 => ?_) (fun q35 => ?_)
   ·have h := ifT q35 h
    obtain ⟨c36, h⟩ := chk h
    obtain ⟨c37, h⟩ := chk h
    refine W.dk (unm 14 [0, 0, 2, 0, 8, 24, 56, 0, 248, 504, 1022, 2046, 4095, 8191]) rfl (by kernel_rfl) ?_
    refine .m rfl rfl rfl rfl ?_
    refine .v rfl rfl (O.fld fld29_0 rfl rfl rfl) ?_
    refine .v rfl rfl (O.ld (y := .s ((nth x0.l v14).ISIN)) ty9 rfl rfl rfl) ?_
    refine .m rfl rfl rfl rfl ?_
    refine .v rfl rfl (OpL.nilP rfl rfl rfl) ?_
    refine .v rfl rfl (O.fld fld71_1 rfl rfl rfl) ?_
    refine .v rfl rfl (O.ld (y := .own 1001) ty69 rfl rfl rfl) ?_
    refine .m rfl rfl rfl rfl ?_
    refine .v rfl rfl (O.idxO sl69 c36 rfl rfl rfl rfl) ?_
    refine .v rfl rfl (O.ldE (c := (.val (.int .i64 (nth x0.prices v14)))) ty3 c36 rfl rfl rfl rfl rfl) ?_
    refine .v rfl rfl (O.build (out := [.s ((nth x0.l v14).ISIN), .i (nth x0.prices v14)]) bl82 rfl rfl rfl rfl (by kernel_rfl)) ?_
    refine .t rfl rfl (O.lit (enc := api_Price.enc) (l := [(⟨(nth x0.l v14).ISIN, (nth x0.prices v14)⟩ : api_Price)]) sl49 rfl rfl rfl rfl rfl rfl rfl rfl rfl) ?_
    refine .t rfl rfl (O.appO sl49 api_Price.ok c37 rfl rfl rfl rfl rfl) ?_
    refine .a rfl rfl rfl rfl ?_
    refine .nil ?_
    refine ⟨by kernel_rfl, by kernel_rfl, ?_⟩
    refine W.pk ?_
    refine .v rfl rfl (OpL.binI rfl rfl rfl rfl) ?_
    refine .m rfl rfl rfl rfl ?_
    refine .nil ?_
    cases h
    exact rdN (Gives.mkR [(1002, 1005)] (.r rfl rfl (.r rfl rfl (.r rfl rfl (.r rfl rfl (.r rfl rfl .n))))) (.r rfl rfl rfl (.r rfl rfl rfl (.r rfl rfl rfl (.r rfl rfl rfl .n)))) rfl rfl rfl)
   ·have h := ifF q35 h
    refine W.skip ?_
    refine W.pk ?_
    refine .v rfl rfl (OpL.binI rfl rfl rfl rfl) ?_
    refine .m rfl rfl rfl rfl ?_
    refine .nil ?_
    cases h
    exact rdN (Gives.mkR [] (.r rfl rfl (.r rfl rfl (.r rfl rfl (.r rfl rfl (.r rfl rfl .n))))) (.r rfl rfl rfl (.r rfl rfl rfl (.r rfl rfl rfl (.r rfl rfl rfl .n)))) rfl rfl rfl)
  ·have h := ifF q32 h
   refine W.exit ?_
   cases h
   refine rdX fun e_ => ?_
   subst e_
   repeat with_reducible refine thru ?_
   refine hit ?_
   exact toN (Gives.mkR [] (.r rfl rfl .n) (.r rfl rfl rfl (.r rfl rfl rfl (.r rfl rfl rfl (.r rfl rfl rfl .n)))) rfl rfl rfl)
end Go.Proofs.Ytkcjlpiaaklnkaa
