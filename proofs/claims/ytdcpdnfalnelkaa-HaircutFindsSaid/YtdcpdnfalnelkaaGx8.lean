/- Shows what functions of the program come to, each as a plain function: written by a program of the author's for this claim. -/
import Derived.Test.YtdcpdnfalnelkaaGx7
namespace Go.Proofs.Ytdcpdnfalnelkaa
open Go Go.Pm
set_option linter.unusedVariables false
set_option linter.unusedSimpArgs false
noncomputable def lombardref15_Of.b0 (x0 : api_Basket) (x1 : api_Asset) (t1 : Int) (v10 : Int) : Option (Int ⊕ ((Int × Bool) ⊕ Unit)) :=
  if ((decide (v10 < (List.length x0.Cuts : Int))) && (decide (t1 ≥ 0))) = true then
    if (0 : Int) ≤ v10 ∧ v10 < (List.length x0.Cuts : Int) then
    if ((decide (((nth x0.Cuts v10).Days) ≥ t1)) = true → (0 : Int) ≤ v10 ∧ v10 < (List.length x0.Cuts : Int)) then
    if ((decide (((nth x0.Cuts v10).Days) ≥ t1)) && (decide (((nth x0.Cuts v10).Rating) ≥ x1.Rating))) = true then
      if (0 : Int) ≤ v10 ∧ v10 < (List.length x0.Cuts : Int) then
      some (.inr (.inl ((nth x0.Cuts v10).Cut, true)))
      else none
    else
      some (.inl (IntKind.wrap .i64 (v10 + 1)))
    else none
    else none
  else
    some (.inr (.inr ()))
noncomputable def lombardref15_Of.r0 (x0 : api_Basket) (x1 : api_Asset) (t1 : Int) (s : Int) : Option (Int ⊕ ((Int × Bool) ⊕ Unit)) := lombardref15_Of.b0 x0 x1 t1 s
noncomputable def lombardref15_Of.f (x0 : api_Basket) (x1 : api_Asset) (x2 : Int) : Option (Int × Bool) :=
  (lombardref13_Left.f x1 x2).bind fun t1 =>
  (loop (lombardref15_Of.r0 x0 x1 t1) 0).bind fun o26 =>
  match o26 with
  | .inl r36 => some r36
  | .inr w25 =>
    some (0, false)
set_option maxRecDepth 100000 in
set_option maxHeartbeats 4000000 in
theorem lombardref15_Of.ok {x0 : api_Basket} {x1 : api_Asset} {x2 : Int} {r : Int × Bool} (h : lombardref15_Of.f x0 x1 x2 = some r) : Pm.Spec prog 18 [.agg [.imm (.val (.int .i64 x0.ID)), .imm (.val (.int .i64 x0.Version)), .imm (.val (.string (tx x0.Currency))), .imm (.val (.int .i64 x0.Rating)), .imm (.val (.int .i64 x0.Least)), .imm (.val (.int .i64 x0.Most)), .imm (.row 3 (List.map api_Cut.enc x0.Cuts)), .imm (.val (.int .i64 x0.Issuer)), .imm (.val (.int .i64 x0.Asset)), .imm (.row 1 (List.map (encI .i64) x0.Barred))], .agg [.imm (.val (.string (tx x1.ISIN))), .imm (.val (.int .i64 x1.Issuer)), .imm (.val (.int .i64 x1.Rating)), .imm (.val (.int .i64 x1.Maturity)), .imm (.val (.string (tx x1.Currency)))], .imm (.val (.int .i64 x2))] (.tup [.imm (.val (.int .i64 r.1)), .imm (.val (.bool r.2))]) [none, none, none] := by
 unfold lombardref15_Of.f at h
 refine Pm.Spec.of_body Try.func18 rfl (by kernel_rfl) (Nat.le_of_ble_eq_true rfl) (Nat.le_of_ble_eq_true rfl) ?_
 refine W.ghost (σ' := (mkSt [(0, some (.agg (api_Basket.av x0))), (1, some (.agg (api_Asset.av x1))), (2, some (.i x2))] [] 1000)) (Gives.entry (.c rfl (.c rfl (.c rfl .n))) .n) ?_
 refine W.seq ?_
 refine W.pk ?_
 refine .t rfl rfl (O.box rfl rfl rfl rfl rfl) ?_
 refine .t rfl rfl (O.box rfl rfl rfl rfl rfl) ?_
 refine .a rfl rfl rfl rfl ?_
 refine .a rfl rfl rfl rfl ?_
 refine .nil ?_
 refine W.seq ?_
 obtain ⟨t1, b2, h⟩ := bnd1 h
 refine W.pk ?_
 refine .v rfl rfl (O.ldN ty38 rfl rfl rfl) ?_
 refine .m rfl rfl rfl rfl ?_
 refine .call (.i t1) [] 0 (lombardref13_Left.ok b2) rfl rfl rfl ca43 rfl rfl (cC (.agg _ _ _ _ (cC (.imm _) (cC (.imm _) (cC (.imm _) (cC (.imm _) (cC (.imm _) .nil)))))) (cC (.imm _) .nil)) rfl rfl rfl rfl rfl ?_
 refine .a rfl rfl rfl rfl ?_
 refine .nil ?_
 refine W.seq ?_
 refine W.seq ?_
 refine W.pk ?_
 refine .a rfl rfl rfl rfl ?_
 refine .nil ?_
 obtain ⟨o26, b27, z28⟩ := bnd1 h
 refine W.fork2 (out := o26) (fun (w25 : Unit) => mkSt [] [] 1002) ?_ ?_
 ·clear h
  refine W.block ?_
  refine W.loopF (fun (s_ : Int) => mkSt [(3, some (.ptr 1000 0)), (4, some (.ptr 1001 0)), (8, some (.i t1)), (9, some (.i s_))] [(1000, some (.box [.i x0.ID, .i x0.Version, .s x0.Currency, .i x0.Rating, .i x0.Least, .i x0.Most, .imm (.row 3 (List.map api_Cut.enc x0.Cuts)), .i x0.Issuer, .i x0.Asset, .imm (.row 1 (List.map (encI .i64) x0.Barred))])), (1001, some (.box [.s x1.ISIN, .i x1.Issuer, .i x1.Rating, .i x1.Maturity, .s x1.Currency]))] 1002) b27 (Gives.mkR [] (.r rfl rfl (.r rfl rfl (.r rfl rfl (.r rfl rfl .n)))) (.r rfl rfl rfl (.r rfl rfl rfl .n)) rfl rfl rfl) ?_
  rintro v10 s_ hr
  have h : lombardref15_Of.b0 x0 x1 t1 v10 = some s_ := hr
  unfold lombardref15_Of.b0 at h
  refine W.seq ?_
  refine W.seq ?_
  refine W.fork (mkSt [(3, some (.ptr 1000 0)), (4, some (.ptr 1001 0)), (8, some (.i t1)), (9, some (.i v10)), (21, some (.b ((decide (v10 < (List.length x0.Cuts : Int))) && (decide (t1 ≥ 0)))))] [(1000, some (.box [.i x0.ID, .i x0.Version, .s x0.Currency, .i x0.Rating, .i x0.Least, .i x0.Most, .imm (.row 3 (List.map api_Cut.enc x0.Cuts)), .i x0.Issuer, .i x0.Asset, .imm (.row 1 (List.map (encI .i64) x0.Barred))])), (1001, some (.box [.s x1.ISIN, .i x1.Issuer, .i x1.Rating, .i x1.Maturity, .s x1.Currency]))] 1002) ?_ ?_
  ·refine W.cond rfl (fun q30 => ?_) (fun q30 => ?_)
   ·have h := ifT q30 h
    refine W.skip ?_
    refine W.seq ?_
    refine W.block ?_
    refine W.seq ?_
    obtain ⟨c31, h⟩ := chk h
    obtain ⟨c32, h⟩ := chk h
    refine W.fork (mkSt [(3, some (.ptr 1000 0)), (4, some (.ptr 1001 0)), (8, some (.i t1)), (9, some (.i v10)), (42, some (.b ((decide (((nth x0.Cuts v10).Days) ≥ t1)) && (decide (((nth x0.Cuts v10).Rating) ≥ x1.Rating)))))] [(1000, some (.box [.i x0.ID, .i x0.Version, .s x0.Currency, .i x0.Rating, .i x0.Least, .i x0.Most, .imm (.row 3 (List.map api_Cut.enc x0.Cuts)), .i x0.Issuer, .i x0.Asset, .imm (.row 1 (List.map (encI .i64) x0.Barred))])), (1001, some (.box [.s x1.ISIN, .i x1.Issuer, .i x1.Rating, .i x1.Maturity, .s x1.Currency]))] 1002) ?_ ?_
    ·refine W.cond rfl (fun q34 => ?_) (fun q34 => ?_)
     ·have h := ifT q34 h
      refine W.seq ?_
      obtain ⟨c35, h⟩ := chk h
      refine W.pk ?_
      refine .v rfl rfl (O.fld fld36_6 rfl rfl rfl) ?_
      refine .v rfl rfl (O.ld (y := .imm (.row 3 (List.map api_Cut.enc x0.Cuts))) ty33 rfl rfl rfl) ?_
      refine .m rfl rfl rfl rfl ?_
      refine .v rfl rfl (O.idx sl33 c35 rfl rfl rfl) ?_
      refine .v rfl rfl (O.fld fld80_2 rfl rfl rfl) ?_
      refine .v rfl rfl (O.ld (y := .i ((nth x0.Cuts v10).Cut)) ty3 rfl rfl rfl) ?_
      refine .a rfl rfl rfl rfl ?_
      refine .a rfl rfl rfl rfl ?_
      refine .nil ?_
      refine W.ret ?_
      cases h
      refine rdR fun e_ => ?_
      subst e_
      have h := z28
      dsimp only at h
      refine fkR ?_
      cases h
      exact leaves (.inr rfl) rfl (.tup _ _ _ _ (cC (.imm _) (cC (.imm _) .nil))) (cN (cN (cN .nil))) rfl rfl
     ·have h := ifF q34 h
      refine W.skip ?_
      refine W.pk ?_
      refine .m rfl rfl rfl rfl ?_
      refine .v rfl rfl (OpL.binI rfl rfl rfl rfl) ?_
      refine .a rfl rfl rfl rfl ?_
      refine .nil ?_
      cases h
      exact rdN (Gives.mkR [] (.r rfl rfl (.r rfl rfl (.r rfl rfl (.r rfl rfl .n)))) (.r rfl rfl rfl (.r rfl rfl rfl .n)) rfl rfl rfl)
    ·clear h
     rcases tf (decide (((nth x0.Cuts v10).Days) ≥ t1)) with g33 | g33
     ·refine W.dk (unm 19 [0, 1, 0, 7, 15, 31, 0, 127, 255, 511, 1023, 511, 4095, 8191, 16383, 511, 33279, 131071, 262143]) rfl (by kernel_rfl) ?_
      refine .v rfl rfl (O.fld fld36_6 rfl rfl rfl) ?_
      refine .v rfl rfl (O.ld (y := .imm (.row 3 (List.map api_Cut.enc x0.Cuts))) ty33 rfl rfl rfl) ?_
      refine .m rfl rfl rfl rfl ?_
      refine .v rfl rfl (O.idx sl33 c31 rfl rfl rfl) ?_
      refine .v rfl rfl (O.fld fld80_0 rfl rfl rfl) ?_
      refine .v rfl rfl (O.ld (y := .i ((nth x0.Cuts v10).Days)) ty3 rfl rfl rfl) ?_
      refine .m rfl rfl rfl rfl ?_
      refine .v rfl rfl (OpL.binI rfl rfl rfl rfl) ?_
      refine .m rfl rfl rfl rfl ?_
      refine .v rfl (met rfl rfl rfl g33) (O.fld fld36_6 rfl rfl rfl) ?_
      refine .v rfl (met rfl rfl rfl g33) (O.ld (y := .imm (.row 3 (List.map api_Cut.enc x0.Cuts))) ty33 rfl rfl rfl) ?_
      refine .m rfl (met rfl rfl rfl g33) rfl rfl ?_
      refine .v rfl (met rfl rfl rfl g33) (O.idx sl33 (c32 (by simp only [g33, Bool.true_or, Bool.or_true, Bool.false_or, Bool.or_false, Bool.true_and, Bool.and_true, Bool.false_and, Bool.and_false, Bool.not_true, Bool.not_false, cond_true, cond_false])) rfl rfl rfl) ?_
      refine .v rfl (met rfl rfl rfl g33) (O.fld fld80_1 rfl rfl rfl) ?_
      refine .v rfl (met rfl rfl rfl g33) (O.ld (y := .i ((nth x0.Cuts v10).Rating)) ty3 rfl rfl rfl) ?_
      refine .v rfl (met rfl rfl rfl g33) (O.fld fld38_2 rfl rfl rfl) ?_
      refine .v rfl (met rfl rfl rfl g33) (O.ld (y := .i x1.Rating) ty3 rfl rfl rfl) ?_
      refine .v rfl (met rfl rfl rfl g33) (OpL.binI rfl rfl rfl rfl) ?_
      refine .v rfl rfl (O.pickT g33 rfl rfl rfl) ?_
      refine .nil ?_
      refine ⟨by kernel_rfl, by kernel_rfl, ?_⟩
      exact toN (Gives.mkR [] (.r rfl rfl (.r rfl rfl (.r rfl rfl (.r rfl rfl (.c rfl (sbb (by simp only [g33, Bool.true_or, Bool.or_true, Bool.false_or, Bool.or_false, Bool.true_and, Bool.and_true, Bool.false_and, Bool.and_false, Bool.not_true, Bool.not_false, cond_true, cond_false])) rfl .n))))) (.r rfl rfl rfl (.r rfl rfl rfl .n)) rfl rfl rfl)
     ·refine W.dk (unm 19 [0, 1, 0, 7, 15, 31, 0, 127, 255, 511, 1023, 511, 4095, 8191, 16383, 511, 33279, 131071, 262143]) rfl (by kernel_rfl) ?_
      refine .v rfl rfl (O.fld fld36_6 rfl rfl rfl) ?_
      refine .v rfl rfl (O.ld (y := .imm (.row 3 (List.map api_Cut.enc x0.Cuts))) ty33 rfl rfl rfl) ?_
      refine .m rfl rfl rfl rfl ?_
      refine .v rfl rfl (O.idx sl33 c31 rfl rfl rfl) ?_
      refine .v rfl rfl (O.fld fld80_0 rfl rfl rfl) ?_
      refine .v rfl rfl (O.ld (y := .i ((nth x0.Cuts v10).Days)) ty3 rfl rfl rfl) ?_
      refine .m rfl rfl rfl rfl ?_
      refine .v rfl rfl (OpL.binI rfl rfl rfl rfl) ?_
      refine .m rfl rfl rfl rfl ?_
      refine .x rfl (unmet rfl rfl rfl g33) ?_
      refine .x rfl (unmet rfl rfl rfl g33) ?_
      refine .x rfl (unmet rfl rfl rfl g33) ?_
      refine .x rfl (unmet rfl rfl rfl g33) ?_
      refine .x rfl (unmet rfl rfl rfl g33) ?_
      refine .x rfl (unmet rfl rfl rfl g33) ?_
      refine .x rfl (unmet rfl rfl rfl g33) ?_
      refine .x rfl (unmet rfl rfl rfl g33) ?_
      refine .x rfl (unmet rfl rfl rfl g33) ?_
      refine .v rfl rfl (O.pickF g33 rfl rfl rfl) ?_
      refine .nil ?_
      refine ⟨by kernel_rfl, by kernel_rfl, ?_⟩
      exact toN (Gives.mkR [] (.r rfl rfl (.r rfl rfl (.r rfl rfl (.r rfl rfl (.c rfl (sbb (by simp only [g33, Bool.true_or, Bool.or_true, Bool.false_or, Bool.or_false, Bool.true_and, Bool.and_true, Bool.false_and, Bool.and_false, Bool.not_true, Bool.not_false, cond_true, cond_false])) rfl .n))))) (.r rfl rfl rfl (.r rfl rfl rfl .n)) rfl rfl rfl)
   ·have h := ifF q30 h
    refine W.exit ?_
    cases h
    refine rdX fun e_ => ?_
    subst e_
    repeat with_reducible refine thru ?_
    refine hit ?_
    exact fkN (Gives.mkR [] .n .n rfl rfl rfl)
  ·clear h
   rcases tf (decide (v10 < (List.length x0.Cuts : Int))) with g29 | g29
   ·refine W.pk ?_
    refine .m rfl rfl rfl rfl ?_
    refine .v rfl rfl (O.fld fld36_6 rfl rfl rfl) ?_
    refine .v rfl rfl (O.ld (y := .imm (.row 3 (List.map api_Cut.enc x0.Cuts))) ty33 rfl rfl rfl) ?_
    refine .v rfl rfl (O.lenR sl33 rfl rfl) ?_
    refine .v rfl rfl (OpL.binI rfl rfl rfl rfl) ?_
    refine .m rfl rfl rfl rfl ?_
    refine .m rfl (met rfl rfl rfl g29) rfl rfl ?_
    refine .v rfl (met rfl rfl rfl g29) (OpL.binI rfl rfl rfl rfl) ?_
    refine .v rfl rfl (O.pickT g29 rfl rfl rfl) ?_
    refine .nil ?_
    exact toN (Gives.mkR [] (.r rfl rfl (.r rfl rfl (.r rfl rfl (.r rfl rfl (.c rfl (sbb (by simp only [g29, Bool.true_or, Bool.or_true, Bool.false_or, Bool.or_false, Bool.true_and, Bool.and_true, Bool.false_and, Bool.and_false, Bool.not_true, Bool.not_false, cond_true, cond_false])) rfl .n))))) (.r rfl rfl rfl (.r rfl rfl rfl .n)) rfl rfl rfl)
   ·refine W.pk ?_
    refine .m rfl rfl rfl rfl ?_
    refine .v rfl rfl (O.fld fld36_6 rfl rfl rfl) ?_
    refine .v rfl rfl (O.ld (y := .imm (.row 3 (List.map api_Cut.enc x0.Cuts))) ty33 rfl rfl rfl) ?_
    refine .v rfl rfl (O.lenR sl33 rfl rfl) ?_
    refine .v rfl rfl (OpL.binI rfl rfl rfl rfl) ?_
    refine .m rfl rfl rfl rfl ?_
    refine .x rfl (unmet rfl rfl rfl g29) ?_
    refine .x rfl (unmet rfl rfl rfl g29) ?_
    refine .v rfl rfl (O.pickF g29 rfl rfl rfl) ?_
    refine .nil ?_
    exact toN (Gives.mkR [] (.r rfl rfl (.r rfl rfl (.r rfl rfl (.r rfl rfl (.c rfl (sbb (by simp only [g29, Bool.true_or, Bool.or_true, Bool.false_or, Bool.or_false, Bool.true_and, Bool.and_true, Bool.false_and, Bool.and_false, Bool.not_true, Bool.not_false, cond_true, cond_false])) rfl .n))))) (.r rfl rfl rfl (.r rfl rfl rfl .n)) rfl rfl rfl)
 ·intro w25 e_
  subst e_
  clear h
  have h := z28
  dsimp only at h
  refine W.seq ?_
  refine W.pk ?_
  refine .a rfl rfl rfl rfl ?_
  refine .a rfl rfl rfl rfl ?_
  refine .nil ?_
  refine W.ret ?_
  cases h
  exact leaves (.inr rfl) rfl (.tup _ _ _ _ (cC (.imm _) (cC (.imm _) .nil))) (cN (cN (cN .nil))) rfl rfl

noncomputable def lombardref15_Find.f (x0 : List lombardref13_Known) (x1 : api_Basket) (x2 : api_Lot) (x3 : Int) : Option (lombardref15_Item × Int) :=
  (lombardref13_Find.f x0 x2.ISIN).bind fun t1 =>
  if (decide (t1 < 0)) = true then
    some ((⟨(⟨[], 0⟩ : api_Lot), (⟨[], 0, 0, 0, []⟩ : api_Asset), 0, 0⟩ : lombardref15_Item), 21)
  else
    if (0 : Int) ≤ t1 ∧ t1 < (List.length x0 : Int) then
    if (((nth x0 t1).Price) == 0) = true then
      some ((⟨(⟨[], 0⟩ : api_Lot), (⟨[], 0, 0, 0, []⟩ : api_Asset), 0, 0⟩ : lombardref15_Item), 31)
    else
      if (0 : Int) ≤ t1 ∧ t1 < (List.length x0 : Int) then
      (lombardref15_Of.f x1 ((nth x0 t1).A) x3).bind fun t7 =>
      if (!t7.2) = true then
        some ((⟨(⟨[], 0⟩ : api_Lot), (⟨[], 0, 0, 0, []⟩ : api_Asset), 0, 0⟩ : lombardref15_Item), 23)
      else
        if ((decide (x2.Qty < 0)) || (decide (x2.Qty > 1125899906842624))) = true then
          some ((⟨(⟨[], 0⟩ : api_Lot), (⟨[], 0, 0, 0, []⟩ : api_Asset), 0, 0⟩ : lombardref15_Item), 1)
        else
          if (0 : Int) ≤ t1 ∧ t1 < (List.length x0 : Int) then
          if (0 : Int) ≤ t1 ∧ t1 < (List.length x0 : Int) then
          some ((⟨x2, ((nth x0 t1).A), (nth x0 t1).Price, t7.1⟩ : lombardref15_Item), 0)
          else none
          else none
      else none
    else none
set_option maxRecDepth 100000 in
set_option maxHeartbeats 4000000 in
theorem lombardref15_Find.ok {x0 : List lombardref13_Known} {x1 : api_Basket} {x2 : api_Lot} {x3 : Int} {r : lombardref15_Item × Int} (h : lombardref15_Find.f x0 x1 x2 x3 = some r) : Pm.Spec prog 32 [.imm (.row 6 (List.map lombardref13_Known.enc x0)), .agg [.imm (.val (.int .i64 x1.ID)), .imm (.val (.int .i64 x1.Version)), .imm (.val (.string (tx x1.Currency))), .imm (.val (.int .i64 x1.Rating)), .imm (.val (.int .i64 x1.Least)), .imm (.val (.int .i64 x1.Most)), .imm (.row 3 (List.map api_Cut.enc x1.Cuts)), .imm (.val (.int .i64 x1.Issuer)), .imm (.val (.int .i64 x1.Asset)), .imm (.row 1 (List.map (encI .i64) x1.Barred))], .agg [.imm (.val (.string (tx x2.ISIN))), .imm (.val (.int .i64 x2.Qty))], .imm (.val (.int .i64 x3))] (.tup [.agg [.imm (.val (.string (tx r.1.Lot.ISIN))), .imm (.val (.int .i64 r.1.Lot.Qty)), .imm (.val (.string (tx r.1.Asset.ISIN))), .imm (.val (.int .i64 r.1.Asset.Issuer)), .imm (.val (.int .i64 r.1.Asset.Rating)), .imm (.val (.int .i64 r.1.Asset.Maturity)), .imm (.val (.string (tx r.1.Asset.Currency))), .imm (.val (.int .i64 r.1.Price)), .imm (.val (.int .i64 r.1.Cut))], .imm (.val (.int .i64 r.2))]) [none, none, none, none] := by
 unfold lombardref15_Find.f at h
 refine Pm.Spec.of_body Try.func32 rfl (by kernel_rfl) (Nat.le_of_ble_eq_true rfl) (Nat.le_of_ble_eq_true rfl) ?_
 refine W.ghost (σ' := (mkSt [(0, some (.imm (.row 6 (List.map lombardref13_Known.enc x0)))), (1, some (.agg (api_Basket.av x1))), (2, some (.agg [.s x2.ISIN, .i x2.Qty])), (3, some (.i x3))] [] 1000)) (Gives.entry (.c rfl (.c rfl (.c rfl (.c rfl .n)))) .n) ?_
 refine W.seq ?_
 refine W.pk ?_
 refine .t rfl rfl (O.box rfl rfl rfl rfl rfl) ?_
 refine .t rfl rfl (O.box rfl rfl rfl rfl rfl) ?_
 refine .t rfl rfl (O.alloc z50 rfl) ?_
 refine .a rfl rfl rfl rfl ?_
 refine .nil ?_
 refine W.seq ?_
 obtain ⟨t1, b2, h⟩ := bnd1 h
 refine W.pk ?_
 refine .m rfl rfl rfl rfl ?_
 refine .v rfl rfl (O.fld fld46_0 rfl rfl rfl) ?_
 refine .v rfl rfl (O.ld (y := .s x2.ISIN) ty9 rfl rfl rfl) ?_
 refine .call (.i t1) [] 0 (lombardref13_Find.ok b2) rfl rfl rfl ca52 rfl rfl (cC (.imm _) (cC (.imm _) .nil)) rfl rfl rfl rfl rfl ?_
 refine .a rfl rfl rfl rfl ?_
 refine .nil ?_
 refine W.seq ?_
 refine W.seq ?_
 refine W.pk ?_
 refine .m rfl rfl rfl rfl ?_
 refine .v rfl rfl (OpL.binI rfl rfl rfl rfl) ?_
 refine .nil ?_
 refine W.cond rfl (fun q3 => ?_) (fun q3 => ?_)
 ·have h := ifT q3 h
  refine W.seq ?_
  refine W.pk ?_
  refine .v rfl rfl (O.build (out := [.s [], .i 0, .s [], .i 0, .i 0, .i 0, .s [], .i 0, .i 0]) bl50 rfl rfl rfl rfl (by kernel_rfl)) ?_
  refine .s rfl rfl (O.st ty50 rfl rfl rfl rfl rfl rfl rfl rfl rfl rfl (all' := [.s [], .i 0, .s [], .i 0, .i 0, .i 0, .s [], .i 0, .i 0]) rfl) ?_
  refine .a rfl rfl rfl rfl ?_
  refine .nil ?_
  refine W.ret ?_
  cases h
  exact leaves (.inr rfl) rfl (.tup _ _ _ _ (cC (.agg _ _ _ _ (cC (.imm _) (cC (.imm _) (cC (.imm _) (cC (.imm _) (cC (.imm _) (cC (.imm _) (cC (.imm _) (cC (.imm _) (cC (.imm _) .nil)))))))))) (cC (.imm _) .nil))) (cN (cN (cN (cN .nil)))) rfl rfl
 ·have h := ifF q3 h
  refine W.skip ?_
  refine W.seq ?_
  refine W.seq ?_
  obtain ⟨c4, h⟩ := chk h
  refine W.pk ?_
  refine .m rfl rfl rfl rfl ?_
  refine .m rfl rfl rfl rfl ?_
  refine .v rfl rfl (O.idx sl60 c4 rfl rfl rfl) ?_
  refine .v rfl rfl (O.fld fld90_1 rfl rfl rfl) ?_
  refine .v rfl rfl (O.ld (y := .i ((nth x0 t1).Price)) ty3 rfl rfl rfl) ?_
  refine .v rfl rfl (OpL.binI rfl rfl rfl rfl) ?_
  refine .nil ?_
  refine W.cond rfl (fun q5 => ?_) (fun q5 => ?_)
  ·have h := ifT q5 h
   refine W.seq ?_
   refine W.pk ?_
   refine .v rfl rfl (O.build (out := [.s [], .i 0, .s [], .i 0, .i 0, .i 0, .s [], .i 0, .i 0]) bl50 rfl rfl rfl rfl (by kernel_rfl)) ?_
   refine .s rfl rfl (O.st ty50 rfl rfl rfl rfl rfl rfl rfl rfl rfl rfl (all' := [.s [], .i 0, .s [], .i 0, .i 0, .i 0, .s [], .i 0, .i 0]) rfl) ?_
   refine .a rfl rfl rfl rfl ?_
   refine .nil ?_
   refine W.ret ?_
   cases h
   exact leaves (.inr rfl) rfl (.tup _ _ _ _ (cC (.agg _ _ _ _ (cC (.imm _) (cC (.imm _) (cC (.imm _) (cC (.imm _) (cC (.imm _) (cC (.imm _) (cC (.imm _) (cC (.imm _) (cC (.imm _) .nil)))))))))) (cC (.imm _) .nil))) (cN (cN (cN (cN .nil)))) rfl rfl
  ·have h := ifF q5 h
   refine W.skip ?_
   refine W.seq ?_
   obtain ⟨c6, h⟩ := chk h
   obtain ⟨t7, b8, h⟩ := bnd1 h
   refine W.dk (unm 13 [0, 0, 0, 6, 14, 30, 0, 127, 255, 511, 511, 1023, 4095]) rfl (by kernel_rfl) ?_
   refine .v rfl rfl (O.ldN ty36 rfl rfl rfl) ?_
   refine .m rfl rfl rfl rfl ?_
   refine .m rfl rfl rfl rfl ?_
   refine .v rfl rfl (O.idx sl60 c6 rfl rfl rfl) ?_
   refine .v rfl rfl (O.fld fld90_0 rfl rfl rfl) ?_
   refine .v rfl rfl (O.ldN ty38 rfl rfl rfl) ?_
   refine .m rfl rfl rfl rfl ?_
   refine .call (.tup [.i t7.1, .b t7.2]) [] 0 (lombardref15_Of.ok b8) rfl rfl rfl ca18 rfl rfl (cC (.agg _ _ _ _ (cC (.imm _) (cC (.imm _) (cC (.imm _) (cC (.imm _) (cC (.imm _) (cC (.imm _) (cC (.imm _) (cC (.imm _) (cC (.imm _) (cC (.imm _) .nil))))))))))) (cC (.agg _ _ _ _ (cC (.imm _) (cC (.imm _) (cC (.imm _) (cC (.imm _) (cC (.imm _) .nil)))))) (cC (.imm _) .nil))) rfl rfl rfl rfl rfl ?_
   refine .m rfl rfl rfl rfl ?_
   refine .v rfl rfl (OpL.extract rfl rfl rfl) ?_
   refine .v rfl rfl (OpL.extract rfl rfl rfl) ?_
   refine .a rfl rfl rfl rfl ?_
   refine .a rfl rfl rfl rfl ?_
   refine .nil ?_
   refine ⟨by kernel_rfl, by kernel_rfl, ?_⟩
   refine W.seq ?_
   refine W.seq ?_
   refine W.pk ?_
   refine .m rfl rfl rfl rfl ?_
   refine .v rfl rfl (OpL.unV rfl rfl rfl) ?_
   refine .nil ?_
   refine W.cond rfl (fun q9 => ?_) (fun q9 => ?_)
   ·have h := ifT q9 h
    refine W.seq ?_
    refine W.pk ?_
    refine .v rfl rfl (O.build (out := [.s [], .i 0, .s [], .i 0, .i 0, .i 0, .s [], .i 0, .i 0]) bl50 rfl rfl rfl rfl (by kernel_rfl)) ?_
    refine .s rfl rfl (O.st ty50 rfl rfl rfl rfl rfl rfl rfl rfl rfl rfl (all' := [.s [], .i 0, .s [], .i 0, .i 0, .i 0, .s [], .i 0, .i 0]) rfl) ?_
    refine .a rfl rfl rfl rfl ?_
    refine .nil ?_
    refine W.ret ?_
    cases h
    exact leaves (.inr rfl) rfl (.tup _ _ _ _ (cC (.agg _ _ _ _ (cC (.imm _) (cC (.imm _) (cC (.imm _) (cC (.imm _) (cC (.imm _) (cC (.imm _) (cC (.imm _) (cC (.imm _) (cC (.imm _) .nil)))))))))) (cC (.imm _) .nil))) (cN (cN (cN (cN .nil)))) rfl rfl
   ·have h := ifF q9 h
    refine W.skip ?_
    refine W.seq ?_
    refine W.seq ?_
    refine W.fork (mkSt [(0, some (.imm (.row 6 (List.map lombardref13_Known.enc x0)))), (6, some (.ptr 1001 0)), (8, some (.ptr 1002 0)), (10, some (.i t1)), (11, some (.i t7.1)), (48, some (.b ((decide (x2.Qty < 0)) || (decide (x2.Qty > 1125899906842624)))))] [(1001, some (.box [.s x2.ISIN, .i x2.Qty])), (1002, some (.box [.s [], .i 0, .s [], .i 0, .i 0, .i 0, .s [], .i 0, .i 0]))] 1003) ?_ ?_
    ·refine W.cond rfl (fun q11 => ?_) (fun q11 => ?_)
     ·have h := ifT q11 h
      refine W.seq ?_
      refine W.pk ?_
      refine .v rfl rfl (O.build (out := [.s [], .i 0, .s [], .i 0, .i 0, .i 0, .s [], .i 0, .i 0]) bl50 rfl rfl rfl rfl (by kernel_rfl)) ?_
      refine .s rfl rfl (O.st ty50 rfl rfl rfl rfl rfl rfl rfl rfl rfl rfl (all' := [.s [], .i 0, .s [], .i 0, .i 0, .i 0, .s [], .i 0, .i 0]) rfl) ?_
      refine .a rfl rfl rfl rfl ?_
      refine .nil ?_
      refine W.ret ?_
      cases h
      exact leaves (.inr rfl) rfl (.tup _ _ _ _ (cC (.agg _ _ _ _ (cC (.imm _) (cC (.imm _) (cC (.imm _) (cC (.imm _) (cC (.imm _) (cC (.imm _) (cC (.imm _) (cC (.imm _) (cC (.imm _) .nil)))))))))) (cC (.imm _) .nil))) (cN (cN (cN (cN .nil)))) rfl rfl
     ·have h := ifF q11 h
      refine W.skip ?_
      refine W.seq ?_
      obtain ⟨c12, h⟩ := chk h
      obtain ⟨c13, h⟩ := chk h
      refine W.dk (unm 15 [0, 0, 0, 6, 14, 30, 0, 0, 192, 448, 960, 0, 4095, 8191, 16383]) rfl (by kernel_rfl) ?_
      refine .v rfl rfl (O.ldN ty46 rfl rfl rfl) ?_
      refine .m rfl rfl rfl rfl ?_
      refine .m rfl rfl rfl rfl ?_
      refine .v rfl rfl (O.idx sl60 c12 rfl rfl rfl) ?_
      refine .v rfl rfl (O.fld fld90_0 rfl rfl rfl) ?_
      refine .v rfl rfl (O.ldN ty38 rfl rfl rfl) ?_
      refine .m rfl rfl rfl rfl ?_
      refine .m rfl rfl rfl rfl ?_
      refine .v rfl rfl (O.idx sl60 c13 rfl rfl rfl) ?_
      refine .v rfl rfl (O.fld fld90_1 rfl rfl rfl) ?_
      refine .v rfl rfl (O.ld (y := .i ((nth x0 t1).Price)) ty3 rfl rfl rfl) ?_
      refine .m rfl rfl rfl rfl ?_
      refine .v rfl rfl (O.build (out := [.s x2.ISIN, .i x2.Qty, .s (((nth x0 t1).A).ISIN), .i (((nth x0 t1).A).Issuer), .i (((nth x0 t1).A).Rating), .i (((nth x0 t1).A).Maturity), .s (((nth x0 t1).A).Currency), .i ((nth x0 t1).Price), .i t7.1]) bl50 rfl rfl rfl rfl (by kernel_rfl)) ?_
      refine .s rfl rfl (O.st ty50 rfl rfl rfl rfl rfl rfl rfl rfl rfl rfl (all' := [.s x2.ISIN, .i x2.Qty, .s (((nth x0 t1).A).ISIN), .i (((nth x0 t1).A).Issuer), .i (((nth x0 t1).A).Rating), .i (((nth x0 t1).A).Maturity), .s (((nth x0 t1).A).Currency), .i ((nth x0 t1).Price), .i t7.1]) rfl) ?_
      refine .a rfl rfl rfl rfl ?_
      refine .nil ?_
      refine ⟨by kernel_rfl, by kernel_rfl, ?_⟩
      refine W.ret ?_
      cases h
      exact leaves (.inr rfl) rfl (.tup _ _ _ _ (cC (.agg _ _ _ _ (cC (.imm _) (cC (.imm _) (cC (.imm _) (cC (.imm _) (cC (.imm _) (cC (.imm _) (cC (.imm _) (cC (.imm _) (cC (.imm _) .nil)))))))))) (cC (.imm _) .nil))) (cN (cN (cN (cN .nil)))) rfl rfl
    ·clear h
     rcases tf (decide (x2.Qty < 0)) with g10 | g10
     ·refine W.pk ?_
      refine .v rfl rfl (O.fld fld46_1 rfl rfl rfl) ?_
      refine .v rfl rfl (O.ld (y := .i x2.Qty) ty3 rfl rfl rfl) ?_
      refine .v rfl rfl (OpL.binI rfl rfl rfl rfl) ?_
      refine .m rfl rfl rfl rfl ?_
      refine .x rfl (unmet rfl rfl rfl g10) ?_
      refine .x rfl (unmet rfl rfl rfl g10) ?_
      refine .x rfl (unmet rfl rfl rfl g10) ?_
      refine .v rfl rfl (O.pickT g10 rfl rfl rfl) ?_
      refine .nil ?_
      exact toN (Gives.mkR [] (.r rfl rfl (.r rfl rfl (.r rfl rfl (.r rfl rfl (.r rfl rfl (.c rfl (sbb (by simp only [g10, Bool.true_or, Bool.or_true, Bool.false_or, Bool.or_false, Bool.true_and, Bool.and_true, Bool.false_and, Bool.and_false, Bool.not_true, Bool.not_false, cond_true, cond_false])) rfl .n)))))) (.r rfl rfl rfl (.r rfl rfl rfl .n)) rfl rfl rfl)
     ·refine W.pk ?_
      refine .v rfl rfl (O.fld fld46_1 rfl rfl rfl) ?_
      refine .v rfl rfl (O.ld (y := .i x2.Qty) ty3 rfl rfl rfl) ?_
      refine .v rfl rfl (OpL.binI rfl rfl rfl rfl) ?_
      refine .m rfl rfl rfl rfl ?_
      refine .v rfl (met rfl rfl rfl g10) (O.fld fld46_1 rfl rfl rfl) ?_
      refine .v rfl (met rfl rfl rfl g10) (O.ld (y := .i x2.Qty) ty3 rfl rfl rfl) ?_
      refine .v rfl (met rfl rfl rfl g10) (OpL.binI rfl rfl rfl rfl) ?_
      refine .v rfl rfl (O.pickF g10 rfl rfl rfl) ?_
      refine .nil ?_
      exact toN (Gives.mkR [] (.r rfl rfl (.r rfl rfl (.r rfl rfl (.r rfl rfl (.r rfl rfl (.c rfl (sbb (by simp only [g10, Bool.true_or, Bool.or_true, Bool.false_or, Bool.or_false, Bool.true_and, Bool.and_true, Bool.false_and, Bool.and_false, Bool.not_true, Bool.not_false, cond_true, cond_false])) rfl .n)))))) (.r rfl rfl rfl (.r rfl rfl rfl .n)) rfl rfl rfl)

noncomputable def asset_Book_Get_v2.f (x1 : Bs) : Option (api_Asset × Bool) :=
  some ((⟨[], 0, 0, 0, []⟩ : api_Asset), false)
set_option maxRecDepth 100000 in
set_option maxHeartbeats 4000000 in
theorem asset_Book_Get_v2.ok {x1 : Bs} {r : api_Asset × Bool} (h : asset_Book_Get_v2.f x1 = some r) : Pm.Spec prog 53 [.imm (.val (.pointer none)), .imm (.val (.string (tx x1)))] (.tup [.agg [.imm (.val (.string (tx r.1.ISIN))), .imm (.val (.int .i64 r.1.Issuer)), .imm (.val (.int .i64 r.1.Rating)), .imm (.val (.int .i64 r.1.Maturity)), .imm (.val (.string (tx r.1.Currency)))], .imm (.val (.bool r.2))]) [none, none] := by
 unfold asset_Book_Get_v2.f at h
 refine Pm.Spec.of_body Try.func53 rfl (by kernel_rfl) (Nat.le_of_ble_eq_true rfl) (Nat.le_of_ble_eq_true rfl) ?_
 refine W.ghost (σ' := (mkSt [(0, some (.imm (.val (.pointer none)))), (1, some (.s x1))] [] 1000)) (Gives.entry (.c rfl (.c rfl .n)) .n) ?_
 refine W.seq ?_
 refine W.pk ?_
 refine .t rfl rfl (O.alloc z38 rfl) ?_
 refine .a rfl rfl rfl rfl ?_
 refine .nil ?_
 refine W.seq ?_
 refine W.seq ?_
 refine W.pk ?_
 refine .m rfl rfl rfl rfl ?_
 refine .v rfl rfl (O.eqPnn rfl u58 rfl rfl) ?_
 refine .nil ?_
 refine W.cond rfl (fun _ => ?_) (fun q => by cases q)
 refine W.seq ?_
 refine W.pk ?_
 refine .v rfl rfl (O.build (out := [.s [], .i 0, .i 0, .i 0, .s []]) bl38 rfl rfl rfl rfl (by kernel_rfl)) ?_
 refine .s rfl rfl (O.st ty38 rfl rfl rfl rfl rfl rfl rfl rfl rfl rfl (all' := [.s [], .i 0, .i 0, .i 0, .s []]) rfl) ?_
 refine .a rfl rfl rfl rfl ?_
 refine .nil ?_
 refine W.ret ?_
 cases h
 exact leaves (.inr rfl) rfl (.tup _ _ _ _ (cC (.agg _ _ _ _ (cC (.imm _) (cC (.imm _) (cC (.imm _) (cC (.imm _) (cC (.imm _) .nil)))))) (cC (.imm _) .nil))) (cN (cN .nil)) rfl rfl

noncomputable def asset_Book_Price_v2.f (x1 : Bs) : Option (Int × Bool) :=
  some (0, false)
set_option maxRecDepth 100000 in
set_option maxHeartbeats 4000000 in
theorem asset_Book_Price_v2.ok {x1 : Bs} {r : Int × Bool} (h : asset_Book_Price_v2.f x1 = some r) : Pm.Spec prog 54 [.imm (.val (.pointer none)), .imm (.val (.string (tx x1)))] (.tup [.imm (.val (.int .i64 r.1)), .imm (.val (.bool r.2))]) [none, none] := by
 unfold asset_Book_Price_v2.f at h
 refine Pm.Spec.of_body Try.func54 rfl (by kernel_rfl) (Nat.le_of_ble_eq_true rfl) (Nat.le_of_ble_eq_true rfl) ?_
 refine W.ghost (σ' := (mkSt [(0, some (.imm (.val (.pointer none)))), (1, some (.s x1))] [] 1000)) (Gives.entry (.c rfl (.c rfl .n)) .n) ?_
 refine W.seq ?_
 refine W.pk ?_
 refine .a rfl rfl rfl rfl ?_
 refine .a rfl rfl rfl rfl ?_
 refine .nil ?_
 refine W.seq ?_
 refine W.seq ?_
 refine W.pk ?_
 refine .m rfl rfl rfl rfl ?_
 refine .v rfl rfl (O.eqPnn rfl u58 rfl rfl) ?_
 refine .nil ?_
 refine W.cond rfl (fun _ => ?_) (fun q => by cases q)
 refine W.seq ?_
 refine W.pk ?_
 refine .a rfl rfl rfl rfl ?_
 refine .a rfl rfl rfl rfl ?_
 refine .nil ?_
 refine W.ret ?_
 cases h
 exact leaves (.inr rfl) rfl (.tup _ _ _ _ (cC (.imm _) (cC (.imm _) .nil))) (cN (cN .nil)) rfl rfl

noncomputable def haircut_Find_v2.f (x1 : api_Basket) (x2 : api_Lot) (x3 : Int) : Option (haircut_Item × Int) :=
  (asset_Book_Get_v2.f x2.ISIN).bind fun t1 =>
  if (!t1.2) = true then
    some ((⟨(⟨[], 0⟩ : api_Lot), (⟨[], 0, 0, 0, []⟩ : api_Asset), 0, 0⟩ : haircut_Item), 21)
  else
    (asset_Book_Price_v2.f x2.ISIN).bind fun t4 =>
    if (!t4.2) = true then
      some ((⟨(⟨[], 0⟩ : api_Lot), (⟨[], 0, 0, 0, []⟩ : api_Asset), 0, 0⟩ : haircut_Item), 31)
    else
      (haircut_Of.f x1 t1.1 x3).bind fun t7 =>
      if (!t7.2) = true then
        some ((⟨(⟨[], 0⟩ : api_Lot), (⟨[], 0, 0, 0, []⟩ : api_Asset), 0, 0⟩ : haircut_Item), 23)
      else
        if ((decide (x2.Qty < 0)) || (decide (x2.Qty > 1125899906842624))) = true then
          some ((⟨(⟨[], 0⟩ : api_Lot), (⟨[], 0, 0, 0, []⟩ : api_Asset), 0, 0⟩ : haircut_Item), 1)
        else
          some ((⟨x2, t1.1, t4.1, t7.1⟩ : haircut_Item), 0)
set_option maxRecDepth 100000 in
set_option maxHeartbeats 4000000 in
theorem haircut_Find_v2.ok {x1 : api_Basket} {x2 : api_Lot} {x3 : Int} {r : haircut_Item × Int} (h : haircut_Find_v2.f x1 x2 x3 = some r) : Pm.Spec prog 31 [.imm (.val (.pointer none)), .agg [.imm (.val (.int .i64 x1.ID)), .imm (.val (.int .i64 x1.Version)), .imm (.val (.string (tx x1.Currency))), .imm (.val (.int .i64 x1.Rating)), .imm (.val (.int .i64 x1.Least)), .imm (.val (.int .i64 x1.Most)), .imm (.row 3 (List.map api_Cut.enc x1.Cuts)), .imm (.val (.int .i64 x1.Issuer)), .imm (.val (.int .i64 x1.Asset)), .imm (.row 1 (List.map (encI .i64) x1.Barred))], .agg [.imm (.val (.string (tx x2.ISIN))), .imm (.val (.int .i64 x2.Qty))], .imm (.val (.int .i64 x3))] (.tup [.agg [.imm (.val (.string (tx r.1.Lot.ISIN))), .imm (.val (.int .i64 r.1.Lot.Qty)), .imm (.val (.string (tx r.1.Asset.ISIN))), .imm (.val (.int .i64 r.1.Asset.Issuer)), .imm (.val (.int .i64 r.1.Asset.Rating)), .imm (.val (.int .i64 r.1.Asset.Maturity)), .imm (.val (.string (tx r.1.Asset.Currency))), .imm (.val (.int .i64 r.1.Price)), .imm (.val (.int .i64 r.1.Cut))], .imm (.val (.int .i64 r.2))]) [none, none, none, none] := by
 unfold haircut_Find_v2.f at h
 refine Pm.Spec.of_body Try.func31 rfl (by kernel_rfl) (Nat.le_of_ble_eq_true rfl) (Nat.le_of_ble_eq_true rfl) ?_
 refine W.ghost (σ' := (mkSt [(0, some (.imm (.val (.pointer none)))), (1, some (.agg (api_Basket.av x1))), (2, some (.agg [.s x2.ISIN, .i x2.Qty])), (3, some (.i x3))] [] 1000)) (Gives.entry (.c rfl (.c rfl (.c rfl (.c rfl .n)))) .n) ?_
 refine W.seq ?_
 refine W.pk ?_
 refine .t rfl rfl (O.box rfl rfl rfl rfl rfl) ?_
 refine .t rfl rfl (O.box rfl rfl rfl rfl rfl) ?_
 refine .t rfl rfl (O.alloc z48 rfl) ?_
 refine .a rfl rfl rfl rfl ?_
 refine .nil ?_
 refine W.seq ?_
 obtain ⟨t1, b2, h⟩ := bnd1 h
 refine W.pk ?_
 refine .m rfl rfl rfl rfl ?_
 refine .v rfl rfl (O.fld fld46_0 rfl rfl rfl) ?_
 refine .v rfl rfl (O.ld (y := .s x2.ISIN) ty9 rfl rfl rfl) ?_
 refine .call (.tup [.agg (api_Asset.av t1.1), .b t1.2]) [] 0 (asset_Book_Get_v2.ok b2) rfl rfl rfl ca53 rfl rfl (cC (.imm _) (cC (.imm _) .nil)) rfl rfl rfl rfl rfl ?_
 refine .m rfl rfl rfl rfl ?_
 refine .v rfl rfl (OpL.extract rfl rfl rfl) ?_
 refine .v rfl rfl (OpL.extract rfl rfl rfl) ?_
 refine .t rfl rfl (O.alloc z38 rfl) ?_
 refine .s rfl rfl (O.st ty38 rfl rfl rfl rfl rfl rfl rfl rfl rfl rfl (all' := [.s t1.1.ISIN, .i t1.1.Issuer, .i t1.1.Rating, .i t1.1.Maturity, .s t1.1.Currency]) rfl) ?_
 refine .a rfl rfl rfl rfl ?_
 refine .nil ?_
 refine W.seq ?_
 refine W.seq ?_
 refine W.pk ?_
 refine .m rfl rfl rfl rfl ?_
 refine .v rfl rfl (OpL.unV rfl rfl rfl) ?_
 refine .nil ?_
 refine W.cond rfl (fun q3 => ?_) (fun q3 => ?_)
 ·have h := ifT q3 h
  refine W.seq ?_
  refine W.pk ?_
  refine .v rfl rfl (O.build (out := [.s [], .i 0, .s [], .i 0, .i 0, .i 0, .s [], .i 0, .i 0]) bl48 rfl rfl rfl rfl (by kernel_rfl)) ?_
  refine .s rfl rfl (O.st ty48 rfl rfl rfl rfl rfl rfl rfl rfl rfl rfl (all' := [.s [], .i 0, .s [], .i 0, .i 0, .i 0, .s [], .i 0, .i 0]) rfl) ?_
  refine .a rfl rfl rfl rfl ?_
  refine .nil ?_
  refine W.ret ?_
  cases h
  exact leaves (.inr rfl) rfl (.tup _ _ _ _ (cC (.agg _ _ _ _ (cC (.imm _) (cC (.imm _) (cC (.imm _) (cC (.imm _) (cC (.imm _) (cC (.imm _) (cC (.imm _) (cC (.imm _) (cC (.imm _) .nil)))))))))) (cC (.imm _) .nil))) (cN (cN (cN (cN .nil)))) rfl rfl
 ·have h := ifF q3 h
  refine W.skip ?_
  refine W.seq ?_
  obtain ⟨t4, b5, h⟩ := bnd1 h
  refine W.pk ?_
  refine .m rfl rfl rfl rfl ?_
  refine .v rfl rfl (O.fld fld46_0 rfl rfl rfl) ?_
  refine .v rfl rfl (O.ld (y := .s x2.ISIN) ty9 rfl rfl rfl) ?_
  refine .call (.tup [.i t4.1, .b t4.2]) [] 0 (asset_Book_Price_v2.ok b5) rfl rfl rfl ca54 rfl rfl (cC (.imm _) (cC (.imm _) .nil)) rfl rfl rfl rfl rfl ?_
  refine .m rfl rfl rfl rfl ?_
  refine .v rfl rfl (OpL.extract rfl rfl rfl) ?_
  refine .v rfl rfl (OpL.extract rfl rfl rfl) ?_
  refine .a rfl rfl rfl rfl ?_
  refine .a rfl rfl rfl rfl ?_
  refine .nil ?_
  refine W.seq ?_
  refine W.seq ?_
  refine W.pk ?_
  refine .m rfl rfl rfl rfl ?_
  refine .v rfl rfl (OpL.unV rfl rfl rfl) ?_
  refine .nil ?_
  refine W.cond rfl (fun q6 => ?_) (fun q6 => ?_)
  ·have h := ifT q6 h
   refine W.seq ?_
   refine W.pk ?_
   refine .v rfl rfl (O.build (out := [.s [], .i 0, .s [], .i 0, .i 0, .i 0, .s [], .i 0, .i 0]) bl48 rfl rfl rfl rfl (by kernel_rfl)) ?_
   refine .s rfl rfl (O.st ty48 rfl rfl rfl rfl rfl rfl rfl rfl rfl rfl (all' := [.s [], .i 0, .s [], .i 0, .i 0, .i 0, .s [], .i 0, .i 0]) rfl) ?_
   refine .a rfl rfl rfl rfl ?_
   refine .nil ?_
   refine W.ret ?_
   cases h
   exact leaves (.inr rfl) rfl (.tup _ _ _ _ (cC (.agg _ _ _ _ (cC (.imm _) (cC (.imm _) (cC (.imm _) (cC (.imm _) (cC (.imm _) (cC (.imm _) (cC (.imm _) (cC (.imm _) (cC (.imm _) .nil)))))))))) (cC (.imm _) .nil))) (cN (cN (cN (cN .nil)))) rfl rfl
  ·have h := ifF q6 h
   refine W.skip ?_
   refine W.seq ?_
   obtain ⟨t7, b8, h⟩ := bnd1 h
   refine W.pk ?_
   refine .v rfl rfl (O.ldN ty36 rfl rfl rfl) ?_
   refine .v rfl rfl (O.ldN ty38 rfl rfl rfl) ?_
   refine .m rfl rfl rfl rfl ?_
   refine .call (.tup [.i t7.1, .b t7.2]) [] 0 (haircut_Of.ok b8) rfl rfl rfl ca17 rfl rfl (cC (.agg _ _ _ _ (cC (.imm _) (cC (.imm _) (cC (.imm _) (cC (.imm _) (cC (.imm _) (cC (.imm _) (cC (.imm _) (cC (.imm _) (cC (.imm _) (cC (.imm _) .nil))))))))))) (cC (.agg _ _ _ _ (cC (.imm _) (cC (.imm _) (cC (.imm _) (cC (.imm _) (cC (.imm _) .nil)))))) (cC (.imm _) .nil))) rfl rfl rfl rfl rfl ?_
   refine .m rfl rfl rfl rfl ?_
   refine .v rfl rfl (OpL.extract rfl rfl rfl) ?_
   refine .v rfl rfl (OpL.extract rfl rfl rfl) ?_
   refine .a rfl rfl rfl rfl ?_
   refine .a rfl rfl rfl rfl ?_
   refine .nil ?_
   refine W.seq ?_
   refine W.seq ?_
   refine W.pk ?_
   refine .m rfl rfl rfl rfl ?_
   refine .v rfl rfl (OpL.unV rfl rfl rfl) ?_
   refine .nil ?_
   refine W.cond rfl (fun q9 => ?_) (fun q9 => ?_)
   ·have h := ifT q9 h
    refine W.seq ?_
    refine W.pk ?_
    refine .v rfl rfl (O.build (out := [.s [], .i 0, .s [], .i 0, .i 0, .i 0, .s [], .i 0, .i 0]) bl48 rfl rfl rfl rfl (by kernel_rfl)) ?_
    refine .s rfl rfl (O.st ty48 rfl rfl rfl rfl rfl rfl rfl rfl rfl rfl (all' := [.s [], .i 0, .s [], .i 0, .i 0, .i 0, .s [], .i 0, .i 0]) rfl) ?_
    refine .a rfl rfl rfl rfl ?_
    refine .nil ?_
    refine W.ret ?_
    cases h
    exact leaves (.inr rfl) rfl (.tup _ _ _ _ (cC (.agg _ _ _ _ (cC (.imm _) (cC (.imm _) (cC (.imm _) (cC (.imm _) (cC (.imm _) (cC (.imm _) (cC (.imm _) (cC (.imm _) (cC (.imm _) .nil)))))))))) (cC (.imm _) .nil))) (cN (cN (cN (cN .nil)))) rfl rfl
   ·have h := ifF q9 h
    refine W.skip ?_
    refine W.seq ?_
    refine W.seq ?_
    refine W.fork (mkSt [(6, some (.ptr 1001 0)), (8, some (.ptr 1002 0)), (10, some (.ptr 1003 0)), (12, some (.i t4.1)), (13, some (.i t7.1)), (51, some (.b ((decide (x2.Qty < 0)) || (decide (x2.Qty > 1125899906842624)))))] [(1001, some (.box [.s x2.ISIN, .i x2.Qty])), (1002, some (.box [.s [], .i 0, .s [], .i 0, .i 0, .i 0, .s [], .i 0, .i 0])), (1003, some (.box [.s t1.1.ISIN, .i t1.1.Issuer, .i t1.1.Rating, .i t1.1.Maturity, .s t1.1.Currency]))] 1004) ?_ ?_
    ·refine W.cond rfl (fun q11 => ?_) (fun q11 => ?_)
     ·have h := ifT q11 h
      refine W.seq ?_
      refine W.pk ?_
      refine .v rfl rfl (O.build (out := [.s [], .i 0, .s [], .i 0, .i 0, .i 0, .s [], .i 0, .i 0]) bl48 rfl rfl rfl rfl (by kernel_rfl)) ?_
      refine .s rfl rfl (O.st ty48 rfl rfl rfl rfl rfl rfl rfl rfl rfl rfl (all' := [.s [], .i 0, .s [], .i 0, .i 0, .i 0, .s [], .i 0, .i 0]) rfl) ?_
      refine .a rfl rfl rfl rfl ?_
      refine .nil ?_
      refine W.ret ?_
      cases h
      exact leaves (.inr rfl) rfl (.tup _ _ _ _ (cC (.agg _ _ _ _ (cC (.imm _) (cC (.imm _) (cC (.imm _) (cC (.imm _) (cC (.imm _) (cC (.imm _) (cC (.imm _) (cC (.imm _) (cC (.imm _) .nil)))))))))) (cC (.imm _) .nil))) (cN (cN (cN (cN .nil)))) rfl rfl
     ·have h := ifF q11 h
      refine W.skip ?_
      refine W.seq ?_
      refine W.pk ?_
      refine .v rfl rfl (O.ldN ty46 rfl rfl rfl) ?_
      refine .v rfl rfl (O.ldN ty38 rfl rfl rfl) ?_
      refine .m rfl rfl rfl rfl ?_
      refine .m rfl rfl rfl rfl ?_
      refine .v rfl rfl (O.build (out := [.s x2.ISIN, .i x2.Qty, .s t1.1.ISIN, .i t1.1.Issuer, .i t1.1.Rating, .i t1.1.Maturity, .s t1.1.Currency, .i t4.1, .i t7.1]) bl48 rfl rfl rfl rfl (by kernel_rfl)) ?_
      refine .s rfl rfl (O.st ty48 rfl rfl rfl rfl rfl rfl rfl rfl rfl rfl (all' := [.s x2.ISIN, .i x2.Qty, .s t1.1.ISIN, .i t1.1.Issuer, .i t1.1.Rating, .i t1.1.Maturity, .s t1.1.Currency, .i t4.1, .i t7.1]) rfl) ?_
      refine .a rfl rfl rfl rfl ?_
      refine .nil ?_
      refine W.ret ?_
      cases h
      exact leaves (.inr rfl) rfl (.tup _ _ _ _ (cC (.agg _ _ _ _ (cC (.imm _) (cC (.imm _) (cC (.imm _) (cC (.imm _) (cC (.imm _) (cC (.imm _) (cC (.imm _) (cC (.imm _) (cC (.imm _) .nil)))))))))) (cC (.imm _) .nil))) (cN (cN (cN (cN .nil)))) rfl rfl
    ·clear h
     rcases tf (decide (x2.Qty < 0)) with g10 | g10
     ·refine W.pk ?_
      refine .v rfl rfl (O.fld fld46_1 rfl rfl rfl) ?_
      refine .v rfl rfl (O.ld (y := .i x2.Qty) ty3 rfl rfl rfl) ?_
      refine .v rfl rfl (OpL.binI rfl rfl rfl rfl) ?_
      refine .m rfl rfl rfl rfl ?_
      refine .x rfl (unmet rfl rfl rfl g10) ?_
      refine .x rfl (unmet rfl rfl rfl g10) ?_
      refine .x rfl (unmet rfl rfl rfl g10) ?_
      refine .v rfl rfl (O.pickT g10 rfl rfl rfl) ?_
      refine .nil ?_
      exact toN (Gives.mkR [] (.r rfl rfl (.r rfl rfl (.r rfl rfl (.r rfl rfl (.r rfl rfl (.c rfl (sbb (by simp only [g10, Bool.true_or, Bool.or_true, Bool.false_or, Bool.or_false, Bool.true_and, Bool.and_true, Bool.false_and, Bool.and_false, Bool.not_true, Bool.not_false, cond_true, cond_false])) rfl .n)))))) (.r rfl rfl rfl (.r rfl rfl rfl (.r rfl rfl rfl .n))) rfl rfl rfl)
     ·refine W.pk ?_
      refine .v rfl rfl (O.fld fld46_1 rfl rfl rfl) ?_
      refine .v rfl rfl (O.ld (y := .i x2.Qty) ty3 rfl rfl rfl) ?_
      refine .v rfl rfl (OpL.binI rfl rfl rfl rfl) ?_
      refine .m rfl rfl rfl rfl ?_
      refine .v rfl (met rfl rfl rfl g10) (O.fld fld46_1 rfl rfl rfl) ?_
      refine .v rfl (met rfl rfl rfl g10) (O.ld (y := .i x2.Qty) ty3 rfl rfl rfl) ?_
      refine .v rfl (met rfl rfl rfl g10) (OpL.binI rfl rfl rfl rfl) ?_
      refine .v rfl rfl (O.pickF g10 rfl rfl rfl) ?_
      refine .nil ?_
      exact toN (Gives.mkR [] (.r rfl rfl (.r rfl rfl (.r rfl rfl (.r rfl rfl (.r rfl rfl (.c rfl (sbb (by simp only [g10, Bool.true_or, Bool.or_true, Bool.false_or, Bool.or_false, Bool.true_and, Bool.and_true, Bool.false_and, Bool.and_false, Bool.not_true, Bool.not_false, cond_true, cond_false])) rfl .n)))))) (.r rfl rfl rfl (.r rfl rfl rfl (.r rfl rfl rfl .n))) rfl rfl rfl)
end Go.Proofs.Ytdcpdnfalnelkaa
