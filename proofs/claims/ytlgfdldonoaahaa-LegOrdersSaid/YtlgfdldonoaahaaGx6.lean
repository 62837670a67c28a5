/- Shows what functions of the program come to, each as a plain function: written by a program of the author's for this claim. -/
import Derived.Test.YtlgfdldonoaahaaGx5
namespace Go.Proofs.Ytlgfdldonoaahaa
open Go Go.Pm
set_option linter.unusedVariables false
set_option linter.unusedSimpArgs false
noncomputable def lombardlaw25_LegOrders.b0 (x1 : api_Leg) (v13 : Int) : Option (Int ⊕ (Bool ⊕ Unit)) :=
  if (decide (v13 < (List.length x1.Lots : Int))) = true then
    if (0 : Int) ≤ v13 ∧ v13 < (List.length x1.Lots : Int) then
    if (decide (((nth x1.Lots v13).Qty) < (-4611686018427387904))) = true then
      (lombardlaw25_awake.f).bind fun t31 =>
      some (.inr (.inl t31))
    else
      some (.inl (IntKind.wrap .i64 (v13 + 1)))
    else none
  else
    some (.inr (.inr ()))
noncomputable def lombardlaw25_LegOrders.r0 (x1 : api_Leg) (s : Int) : Option (Int ⊕ (Bool ⊕ Unit)) := lombardlaw25_LegOrders.b0 x1 s
noncomputable def lombardlaw25_LegOrders.b1 (x2 : api_Leg) (v39 : Int) : Option (Int ⊕ (Bool ⊕ Unit)) :=
  if (decide (v39 < (List.length x2.Lots : Int))) = true then
    if (0 : Int) ≤ v39 ∧ v39 < (List.length x2.Lots : Int) then
    if (decide (((nth x2.Lots v39).Qty) < (-4611686018427387904))) = true then
      (lombardlaw25_awake.f).bind fun t57 =>
      some (.inr (.inl t57))
    else
      some (.inl (IntKind.wrap .i64 (v39 + 1)))
    else none
  else
    some (.inr (.inr ()))
noncomputable def lombardlaw25_LegOrders.r1 (x2 : api_Leg) (s : Int) : Option (Int ⊕ (Bool ⊕ Unit)) := lombardlaw25_LegOrders.b1 x2 s
noncomputable def lombardlaw25_LegOrders.f (x0 : List api_Leg) (x1 : api_Leg) (x2 : api_Leg) : Option (Bool) :=
  if (((((decide ((List.length x0 : Int) > 100)) || (decide ((List.length x1.Lots : Int) > 100))) || (decide ((List.length x2.Lots : Int) > 100))) || (decide (x1.Cash < (-4611686018427387904)))) || (decide (x2.Cash < (-4611686018427387904)))) = true then
    (lombardlaw25_awake.f).bind fun t6 =>
    some t6
  else
    (loop (lombardlaw25_LegOrders.r0 x1) 0).bind fun o25 =>
    match o25 with
    | .inl r33 => some r33
    | .inr w24 =>
      (loop (lombardlaw25_LegOrders.r1 x2) 0).bind fun o51 =>
      match o51 with
      | .inl r59 => some r59
      | .inr w50 =>
        (leg_Order.f x0).bind fun t60 =>
        (lombardref25_Order.f x0).bind fun t62 =>
        (lombardref25_All.f t60 t62).bind fun t64 =>
        (if t64 = true then leg_Against.f x1 x2 else some default).bind fun t66 =>
        (if t64 = true then lombardref25_Against.f x1 x2 else some default).bind fun t68 =>
        (if (t64 && (t66 == t68)) = true then lombardlaw25_awake.f else some default).bind fun t70 =>
        some ((t64 && (t66 == t68)) && t70)
set_option maxRecDepth 100000 in
set_option maxHeartbeats 4000000 in
theorem lombardlaw25_LegOrders.ok {x0 : List api_Leg} {x1 : api_Leg} {x2 : api_Leg} {r : Bool} (h : lombardlaw25_LegOrders.f x0 x1 x2 = some r) : Pm.Spec prog 6 [.imm (.row 5 (List.map api_Leg.enc x0)), .agg [.imm (.val (.int .i64 x1.Day)), .imm (.val (.int .i64 x1.Member)), .imm (.val (.int .i64 x1.Trade)), .imm (.val (.int .i64 x1.Cash)), .imm (.row 2 (List.map api_Lot.enc x1.Lots))], .agg [.imm (.val (.int .i64 x2.Day)), .imm (.val (.int .i64 x2.Member)), .imm (.val (.int .i64 x2.Trade)), .imm (.val (.int .i64 x2.Cash)), .imm (.row 2 (List.map api_Lot.enc x2.Lots))]] (.imm (.val (.bool r))) [none, none, none] := by
 unfold lombardlaw25_LegOrders.f at h; refine Pm.Spec.of_body Try.func6 rfl (by kernel_rfl) (Nat.le_of_ble_eq_true rfl) (Nat.le_of_ble_eq_true rfl) ?_; refine W.ghost (σ' := (mkSt [(0, some (.imm (.row 5 (List.map api_Leg.enc x0)))), (1, some (.agg (api_Leg.av x1))), (2, some (.agg (api_Leg.av x2)))] [] 1000)) (Gives.entry (.c rfl (.c rfl (.c rfl .n))) .n) ?_; refine W.seq ?_; refine W.pk ?_; (iterate 2 refine .t rfl rfl (O.box rfl rfl rfl rfl rfl) ?_); refine .a rfl rfl rfl rfl ?_; refine .nil ?_; (iterate 2 refine W.seq ?_); refine W.fork (mkSt [(0, some (.imm (.row 5 (List.map api_Leg.enc x0)))), (4, some (.ptr 1000 0)), (5, some (.ptr 1001 0)), (33, some (.b (((((decide ((List.length x0 : Int) > 100)) || (decide ((List.length x1.Lots : Int) > 100))) || (decide ((List.length x2.Lots : Int) > 100))) || (decide (x1.Cash < (-4611686018427387904)))) || (decide (x2.Cash < (-4611686018427387904))))))] [(1000, some (.box [.i x1.Day, .i x1.Member, .i x1.Trade, .i x1.Cash, .imm (.row 2 (List.map api_Lot.enc x1.Lots))])), (1001, some (.box [.i x2.Day, .i x2.Member, .i x2.Trade, .i x2.Cash, .imm (.row 2 (List.map api_Lot.enc x2.Lots))]))] 1002) ?_ ?_
 ·refine W.cond rfl (fun q5 => ?_) (fun q5 => ?_)
  ·have h := ifT q5 h; refine W.seq ?_; obtain ⟨t6, b7, h⟩ := bnd1 h; refine W.pk ?_; refine .call (.b t6) [] 0 (lombardlaw25_awake.ok b7) rfl rfl rfl ca9 rfl rfl .nil rfl rfl rfl rfl rfl ?_; refine .a rfl rfl rfl rfl ?_; refine .nil ?_; refine W.ret ?_; cases h; exact leaves (.inr rfl) rfl (.imm _) (cN (cN (cN .nil))) rfl rfl
  ·have h := ifF q5 h; refine W.skip ?_; (iterate 2 refine W.seq ?_); refine W.pk ?_; refine .a rfl rfl rfl rfl ?_; refine .nil ?_; obtain ⟨o25, b26, z27⟩ := bnd1 h; refine W.fork2 (out := o25) (fun (w24 : Unit) => mkSt [(0, some (.imm (.row 5 (List.map api_Leg.enc x0)))), (4, some (.ptr 1000 0)), (5, some (.ptr 1001 0))] [(1000, some (.box [.i x1.Day, .i x1.Member, .i x1.Trade, .i x1.Cash, .imm (.row 2 (List.map api_Lot.enc x1.Lots))])), (1001, some (.box [.i x2.Day, .i x2.Member, .i x2.Trade, .i x2.Cash, .imm (.row 2 (List.map api_Lot.enc x2.Lots))]))] 1002) ?_ ?_
   ·clear h; refine W.block ?_; refine W.loopF (fun (s_ : Int) => mkSt [(0, some (.imm (.row 5 (List.map api_Leg.enc x0)))), (4, some (.ptr 1000 0)), (5, some (.ptr 1001 0)), (7, some (.i s_))] [(1000, some (.box [.i x1.Day, .i x1.Member, .i x1.Trade, .i x1.Cash, .imm (.row 2 (List.map api_Lot.enc x1.Lots))])), (1001, some (.box [.i x2.Day, .i x2.Member, .i x2.Trade, .i x2.Cash, .imm (.row 2 (List.map api_Lot.enc x2.Lots))]))] 1002) b26 (Gives.mkR [] (.e rfl rfl) (.e rfl rfl) rfl rfl rfl) ?_; rintro v13 s_ hr; have h : lombardlaw25_LegOrders.b0 x1 v13 = some s_ := hr; unfold lombardlaw25_LegOrders.b0 at h; (iterate 2 refine W.seq ?_); refine W.pk ?_; refine .m rfl rfl rfl rfl ?_; refine .v rfl rfl (O.fld fld31_4 rfl rfl rfl) ?_; refine .v rfl rfl (O.ld (y := .imm (.row 2 (List.map api_Lot.enc x1.Lots))) ty25 rfl rfl rfl) ?_; refine .v rfl rfl (O.lenR sl25 rfl rfl) ?_; refine .v rfl rfl (OpL.binI rfl rfl rfl rfl) ?_; refine .nil ?_; refine W.cond rfl (fun q28 => ?_) (fun q28 => ?_)
    ·have h := ifT q28 h; refine W.skip ?_; refine W.seq ?_; refine W.block ?_; refine W.seq ?_; obtain ⟨c29, h⟩ := chk h; refine W.pk ?_; refine .v rfl rfl (O.fld fld31_4 rfl rfl rfl) ?_; refine .v rfl rfl (O.ld (y := .imm (.row 2 (List.map api_Lot.enc x1.Lots))) ty25 rfl rfl rfl) ?_; refine .m rfl rfl rfl rfl ?_; refine .v rfl rfl (O.idx sl25 c29 rfl rfl rfl) ?_; refine .v rfl rfl (O.fld fld44_1 rfl rfl rfl) ?_; refine .v rfl rfl (O.ld (y := .i ((nth x1.Lots v13).Qty)) ty3 rfl rfl rfl) ?_; refine .v rfl rfl (OpL.binI rfl rfl rfl rfl) ?_; refine .nil ?_; refine W.cond rfl (fun q30 => ?_) (fun q30 => ?_)
     ·have h := ifT q30 h; refine W.seq ?_; obtain ⟨t31, b32, h⟩ := bnd1 h; refine W.pk ?_; refine .call (.b t31) [] 0 (lombardlaw25_awake.ok b32) rfl rfl rfl ca9 rfl rfl .nil rfl rfl rfl rfl rfl ?_; refine .a rfl rfl rfl rfl ?_; refine .nil ?_; refine W.ret ?_; cases h; refine rdR fun e_ => ?_; subst e_; have h := z27; dsimp only at h; refine fkR ?_; cases h; exact leaves (.inr rfl) rfl (.imm _) (cN (cN (cN .nil))) rfl rfl
     ·have h := ifF q30 h; refine W.skip ?_; refine W.pk ?_; refine .m rfl rfl rfl rfl ?_; refine .v rfl rfl (OpL.binI rfl rfl rfl rfl) ?_; refine .a rfl rfl rfl rfl ?_; refine .nil ?_; cases h; exact rdN (Gives.mkR [] (.e rfl rfl) (.e rfl rfl) rfl rfl rfl)
    ·have h := ifF q28 h; refine W.exit ?_; cases h; refine rdX fun e_ => ?_; subst e_; (repeat with_reducible refine thru ?_); refine hit ?_; exact fkN (Gives.mkR [] (.e rfl rfl) (.e rfl rfl) rfl rfl rfl)
   ·intro w24 e_; subst e_; clear h; have h := z27; dsimp only at h; (iterate 2 refine W.seq ?_); refine W.pk ?_; refine .a rfl rfl rfl rfl ?_; refine .nil ?_; obtain ⟨o51, b52, z53⟩ := bnd1 h; refine W.fork2 (out := o51) (fun (w50 : Unit) => mkSt [(0, some (.imm (.row 5 (List.map api_Leg.enc x0)))), (4, some (.ptr 1000 0)), (5, some (.ptr 1001 0))] [(1000, some (.box [.i x1.Day, .i x1.Member, .i x1.Trade, .i x1.Cash, .imm (.row 2 (List.map api_Lot.enc x1.Lots))])), (1001, some (.box [.i x2.Day, .i x2.Member, .i x2.Trade, .i x2.Cash, .imm (.row 2 (List.map api_Lot.enc x2.Lots))]))] 1002) ?_ ?_
    ·clear h; refine W.block ?_; refine W.loopF (fun (s_ : Int) => mkSt [(0, some (.imm (.row 5 (List.map api_Leg.enc x0)))), (4, some (.ptr 1000 0)), (5, some (.ptr 1001 0)), (8, some (.i s_))] [(1000, some (.box [.i x1.Day, .i x1.Member, .i x1.Trade, .i x1.Cash, .imm (.row 2 (List.map api_Lot.enc x1.Lots))])), (1001, some (.box [.i x2.Day, .i x2.Member, .i x2.Trade, .i x2.Cash, .imm (.row 2 (List.map api_Lot.enc x2.Lots))]))] 1002) b52 (Gives.mkR [] (.e rfl rfl) (.e rfl rfl) rfl rfl rfl) ?_; rintro v39 s_ hr; have h : lombardlaw25_LegOrders.b1 x2 v39 = some s_ := hr; unfold lombardlaw25_LegOrders.b1 at h; (iterate 2 refine W.seq ?_); refine W.pk ?_; refine .m rfl rfl rfl rfl ?_; refine .v rfl rfl (O.fld fld31_4 rfl rfl rfl) ?_; refine .v rfl rfl (O.ld (y := .imm (.row 2 (List.map api_Lot.enc x2.Lots))) ty25 rfl rfl rfl) ?_; refine .v rfl rfl (O.lenR sl25 rfl rfl) ?_; refine .v rfl rfl (OpL.binI rfl rfl rfl rfl) ?_; refine .nil ?_; refine W.cond rfl (fun q54 => ?_) (fun q54 => ?_)
     ·have h := ifT q54 h; refine W.skip ?_; refine W.seq ?_; refine W.block ?_; refine W.seq ?_; obtain ⟨c55, h⟩ := chk h; refine W.pk ?_; refine .v rfl rfl (O.fld fld31_4 rfl rfl rfl) ?_; refine .v rfl rfl (O.ld (y := .imm (.row 2 (List.map api_Lot.enc x2.Lots))) ty25 rfl rfl rfl) ?_; refine .m rfl rfl rfl rfl ?_; refine .v rfl rfl (O.idx sl25 c55 rfl rfl rfl) ?_; refine .v rfl rfl (O.fld fld44_1 rfl rfl rfl) ?_; refine .v rfl rfl (O.ld (y := .i ((nth x2.Lots v39).Qty)) ty3 rfl rfl rfl) ?_; refine .v rfl rfl (OpL.binI rfl rfl rfl rfl) ?_; refine .nil ?_; refine W.cond rfl (fun q56 => ?_) (fun q56 => ?_)
      ·have h := ifT q56 h; refine W.seq ?_; obtain ⟨t57, b58, h⟩ := bnd1 h; refine W.pk ?_; refine .call (.b t57) [] 0 (lombardlaw25_awake.ok b58) rfl rfl rfl ca9 rfl rfl .nil rfl rfl rfl rfl rfl ?_; refine .a rfl rfl rfl rfl ?_; refine .nil ?_; refine W.ret ?_; cases h; refine rdR fun e_ => ?_; subst e_; have h := z53; dsimp only at h; refine fkR ?_; cases h; exact leaves (.inr rfl) rfl (.imm _) (cN (cN (cN .nil))) rfl rfl
      ·have h := ifF q56 h; refine W.skip ?_; refine W.pk ?_; refine .m rfl rfl rfl rfl ?_; refine .v rfl rfl (OpL.binI rfl rfl rfl rfl) ?_; refine .a rfl rfl rfl rfl ?_; refine .nil ?_; cases h; exact rdN (Gives.mkR [] (.e rfl rfl) (.e rfl rfl) rfl rfl rfl)
     ·have h := ifF q54 h; refine W.exit ?_; cases h; refine rdX fun e_ => ?_; subst e_; (repeat with_reducible refine thru ?_); refine hit ?_; exact fkN (Gives.mkR [] (.e rfl rfl) (.e rfl rfl) rfl rfl rfl)
    ·intro w50 e_; subst e_; clear h; have h := z53; dsimp only at h; refine W.seq ?_; obtain ⟨t60, b61, h⟩ := bnd1 h; obtain ⟨t62, b63, h⟩ := bnd1 h; obtain ⟨t64, b65, h⟩ := bnd1 h; obtain ⟨t66, b67, h⟩ := bnd1 h; obtain ⟨t68, b69, h⟩ := bnd1 h; obtain ⟨t70, b71, h⟩ := bnd1 h; refine W.fork (mkSt [(6, some (.b ((t64 && (t66 == t68)) && t70)))] [] 1004) ?_ ?_
     ·refine W.ret ?_; cases h; exact leaves (.inr rfl) rfl (.imm _) (cN (cN (cN .nil))) rfl rfl
     ·clear h; refine W.dk (unm 18 [0, 1, 0, 7, 15, 31, 63, 63, 255, 63, 63, 2047, 4095, 8191, 16383, 32767, 65535, 131071]) rfl (by kernel_rfl) ?_; refine .m rfl rfl rfl rfl ?_; refine .call (.own 1002) [(1002, some (.rows 31 5 (List.map api_Leg.enc t60) false))] 1 (leg_Order.ok b61) rfl rfl rfl ca19 rfl rfl (cC (.imm _) .nil) rfl rfl rfl rfl rfl ?_; refine .m rfl rfl rfl rfl ?_; refine .call (.own 1003) [(1003, some (.rows 31 5 (List.map api_Leg.enc t62) false))] 1 (lombardref25_Order.ok b63) rfl rfl rfl ca20 rfl rfl (cC (.imm _) .nil) rfl rfl rfl rfl rfl ?_; refine .call (.b t64) [(1002, some (.rows 31 5 (List.map api_Leg.enc t60) false)), (1003, some (.rows 31 5 (List.map api_Leg.enc t62) false)), (1002, none), (1003, none)] 0 (lombardref25_All.ok b65) rfl rfl rfl ca18 rfl rfl (cC (.own _ _ _ _ rfl) (cC (.own _ _ _ _ rfl) .nil)) rfl rfl rfl rfl rfl ?_; refine .m rfl rfl rfl rfl ?_; rcases tf t64 with g72 | g72
      ·(iterate 2 refine .v rfl (met rfl rfl rfl g72) (O.ldN ty31 rfl rfl rfl) ?_); refine .call (.b t66) [] 0 (leg_Against.ok ((if_pos (by simp only [g72, BL])).symm.trans b67)) rfl (met rfl rfl rfl g72) rfl ca21 rfl rfl (cC (.agg _ _ _ _ (cC (.imm _) (cC (.imm _) (cC (.imm _) (cC (.imm _) (cC (.imm _) .nil)))))) (cC (.agg _ _ _ _ (cC (.imm _) (cC (.imm _) (cC (.imm _) (cC (.imm _) (cC (.imm _) .nil)))))) .nil)) rfl rfl rfl rfl rfl ?_; (iterate 2 refine .v rfl (met rfl rfl rfl g72) (O.ldN ty31 rfl rfl rfl) ?_); refine .call (.b t68) [] 0 (lombardref25_Against.ok ((if_pos (by simp only [g72, BL])).symm.trans b69)) rfl (met rfl rfl rfl g72) rfl ca16 rfl rfl (cC (.agg _ _ _ _ (cC (.imm _) (cC (.imm _) (cC (.imm _) (cC (.imm _) (cC (.imm _) .nil)))))) (cC (.agg _ _ _ _ (cC (.imm _) (cC (.imm _) (cC (.imm _) (cC (.imm _) (cC (.imm _) .nil)))))) .nil)) rfl rfl rfl rfl rfl ?_; refine .v rfl (met rfl rfl rfl g72) (OpL.eqB rfl u4 rfl rfl) ?_; refine .v rfl rfl (O.pickT g72 rfl rfl rfl) ?_; refine .m rfl rfl rfl rfl ?_; rcases tf (t66 == t68) with g73 | g73
       ·refine .call (.b t70) [] 0 (lombardlaw25_awake.ok ((if_pos (by first | (simp only [g72, g73, BL]; done) | (repeat (first | rw [g72] | rw [g73])) <;> simp only [BL])).symm.trans b71)) rfl (met rfl rfl rfl g73) rfl ca9 rfl rfl .nil rfl rfl rfl rfl rfl ?_; refine .v rfl rfl (O.pickT g73 rfl rfl rfl) ?_; refine .a rfl rfl rfl rfl ?_; refine .nil ?_; refine ⟨by kernel_rfl, by kernel_rfl, ?_⟩; exact toN (Gives.mkR [] (.c rfl (sbb (by first | (simp only [g72, g73, BL]; done) | (repeat (first | rw [g72] | rw [g73])) <;> simp only [BL])) rfl .n) .n rfl rfl rfl)
       ·refine .x rfl (unmet rfl rfl rfl g73) ?_; refine .v rfl rfl (O.pickF g73 rfl rfl rfl) ?_; refine .a rfl rfl rfl rfl ?_; refine .nil ?_; refine ⟨by kernel_rfl, by kernel_rfl, ?_⟩; exact toN (Gives.mkR [] (.c rfl (sbb (by first | (simp only [g72, g73, BL]; done) | (repeat (first | rw [g72] | rw [g73])) <;> simp only [BL])) rfl .n) .n rfl rfl rfl)
      ·(iterate 7 refine .x rfl (unmet rfl rfl rfl g72) ?_); refine .v rfl rfl (O.pickF g72 rfl rfl rfl) ?_; refine .m rfl rfl rfl rfl ?_; refine .x rfl (unmet rfl rfl rfl rfl) ?_; refine .v rfl rfl (O.pickF rfl rfl rfl rfl) ?_; refine .a rfl rfl rfl rfl ?_; refine .nil ?_; refine ⟨by kernel_rfl, by kernel_rfl, ?_⟩; exact toN (Gives.mkR [] (.c rfl (sbb (by simp only [g72, BL])) rfl .n) .n rfl rfl rfl)
 ·clear h; refine W.pk ?_; refine .m rfl rfl rfl rfl ?_; refine .v rfl rfl (O.lenR sl45 rfl rfl) ?_; refine .v rfl rfl (OpL.binI rfl rfl rfl rfl) ?_; refine .m rfl rfl rfl rfl ?_; rcases tf (decide ((List.length x0 : Int) > 100)) with g1 | g1
  ·(iterate 4 refine .x rfl (unmet rfl rfl rfl g1) ?_); refine .v rfl rfl (O.pickT g1 rfl rfl rfl) ?_; refine .m rfl rfl rfl rfl ?_; (iterate 4 refine .x rfl (unmet rfl rfl rfl rfl) ?_); refine .v rfl rfl (O.pickT rfl rfl rfl rfl) ?_; refine .m rfl rfl rfl rfl ?_; (iterate 3 refine .x rfl (unmet rfl rfl rfl rfl) ?_); refine .v rfl rfl (O.pickT rfl rfl rfl rfl) ?_; refine .m rfl rfl rfl rfl ?_; (iterate 3 refine .x rfl (unmet rfl rfl rfl rfl) ?_); refine .v rfl rfl (O.pickT rfl rfl rfl rfl) ?_; refine .nil ?_; exact toN (Gives.mkR [] (.r rfl rfl (.r rfl rfl (.r rfl rfl (.c rfl (sbb (by simp only [g1, BL])) rfl .n)))) (.e rfl rfl) rfl rfl rfl)
  ·refine .v rfl (met rfl rfl rfl g1) (O.fld fld31_4 rfl rfl rfl) ?_; refine .v rfl (met rfl rfl rfl g1) (O.ld (y := .imm (.row 2 (List.map api_Lot.enc x1.Lots))) ty25 rfl rfl rfl) ?_; refine .v rfl (met rfl rfl rfl g1) (O.lenR sl25 rfl rfl) ?_; refine .v rfl (met rfl rfl rfl g1) (OpL.binI rfl rfl rfl rfl) ?_; refine .v rfl rfl (O.pickF g1 rfl rfl rfl) ?_; refine .m rfl rfl rfl rfl ?_; rcases tf (decide ((List.length x1.Lots : Int) > 100)) with g2 | g2
   ·(iterate 4 refine .x rfl (unmet rfl rfl rfl g2) ?_); refine .v rfl rfl (O.pickT g2 rfl rfl rfl) ?_; refine .m rfl rfl rfl rfl ?_; (iterate 3 refine .x rfl (unmet rfl rfl rfl rfl) ?_); refine .v rfl rfl (O.pickT rfl rfl rfl rfl) ?_; refine .m rfl rfl rfl rfl ?_; (iterate 3 refine .x rfl (unmet rfl rfl rfl rfl) ?_); refine .v rfl rfl (O.pickT rfl rfl rfl rfl) ?_; refine .nil ?_; exact toN (Gives.mkR [] (.r rfl rfl (.r rfl rfl (.r rfl rfl (.c rfl (sbb (by first | (simp only [g1, g2, BL]; done) | (repeat (first | rw [g1] | rw [g2])) <;> simp only [BL])) rfl .n)))) (.e rfl rfl) rfl rfl rfl)
   ·refine .v rfl (met rfl rfl rfl g2) (O.fld fld31_4 rfl rfl rfl) ?_; refine .v rfl (met rfl rfl rfl g2) (O.ld (y := .imm (.row 2 (List.map api_Lot.enc x2.Lots))) ty25 rfl rfl rfl) ?_; refine .v rfl (met rfl rfl rfl g2) (O.lenR sl25 rfl rfl) ?_; refine .v rfl (met rfl rfl rfl g2) (OpL.binI rfl rfl rfl rfl) ?_; refine .v rfl rfl (O.pickF g2 rfl rfl rfl) ?_; refine .m rfl rfl rfl rfl ?_; rcases tf (decide ((List.length x2.Lots : Int) > 100)) with g3 | g3
    ·(iterate 3 refine .x rfl (unmet rfl rfl rfl g3) ?_); refine .v rfl rfl (O.pickT g3 rfl rfl rfl) ?_; refine .m rfl rfl rfl rfl ?_; (iterate 3 refine .x rfl (unmet rfl rfl rfl rfl) ?_); refine .v rfl rfl (O.pickT rfl rfl rfl rfl) ?_; refine .nil ?_; exact toN (Gives.mkR [] (.r rfl rfl (.r rfl rfl (.r rfl rfl (.c rfl (sbb (by first | (simp only [g1, g2, g3, BL]; done) | (repeat (first | rw [g1] | rw [g2] | rw [g3])) <;> simp only [BL])) rfl .n)))) (.e rfl rfl) rfl rfl rfl)
    ·refine .v rfl (met rfl rfl rfl g3) (O.fld fld31_3 rfl rfl rfl) ?_; refine .v rfl (met rfl rfl rfl g3) (O.ld (y := .i x1.Cash) ty3 rfl rfl rfl) ?_; refine .v rfl (met rfl rfl rfl g3) (OpL.binI rfl rfl rfl rfl) ?_; refine .v rfl rfl (O.pickF g3 rfl rfl rfl) ?_; refine .m rfl rfl rfl rfl ?_; rcases tf (decide (x1.Cash < (-4611686018427387904))) with g4 | g4
     ·(iterate 3 refine .x rfl (unmet rfl rfl rfl g4) ?_); refine .v rfl rfl (O.pickT g4 rfl rfl rfl) ?_; refine .nil ?_; exact toN (Gives.mkR [] (.r rfl rfl (.r rfl rfl (.r rfl rfl (.c rfl (sbb (by first | (simp only [g1, g2, g3, g4, BL]; done) | (repeat (first | rw [g1] | rw [g2] | rw [g3] | rw [g4])) <;> simp only [BL])) rfl .n)))) (.e rfl rfl) rfl rfl rfl)
     ·refine .v rfl (met rfl rfl rfl g4) (O.fld fld31_3 rfl rfl rfl) ?_; refine .v rfl (met rfl rfl rfl g4) (O.ld (y := .i x2.Cash) ty3 rfl rfl rfl) ?_; refine .v rfl (met rfl rfl rfl g4) (OpL.binI rfl rfl rfl rfl) ?_; refine .v rfl rfl (O.pickF g4 rfl rfl rfl) ?_; refine .nil ?_; exact toN (Gives.mkR [] (.r rfl rfl (.r rfl rfl (.r rfl rfl (.c rfl (sbb (by first | (simp only [g1, g2, g3, g4, BL]; done) | (repeat (first | rw [g1] | rw [g2] | rw [g3] | rw [g4])) <;> simp only [BL])) rfl .n)))) (.e rfl rfl) rfl rfl rfl)

noncomputable def lombardlaw25_short.f (x0 : lombardref25_Covered) : Option (Bool) :=
  some ((decide ((List.length x0.Lots : Int) ≤ 80)) && (decide ((List.length x0.Trade.Resets : Int) ≤ 80)))
set_option maxRecDepth 100000 in
set_option maxHeartbeats 4000000 in
theorem lombardlaw25_short.ok {x0 : lombardref25_Covered} {r : Bool} (h : lombardlaw25_short.f x0 = some r) : Pm.Spec prog 8 [.agg [.imm (.val (.int .i64 x0.Trade.ID)), .imm (.val (.int .i64 x0.Trade.Twin)), .imm (.val (.int .i64 x0.Trade.Member)), .imm (.val (.int .i64 x0.Trade.Side)), .imm (.val (.int .i64 x0.Trade.Basket)), .imm (.val (.int .i64 x0.Trade.Amount)), .imm (.val (.int .i64 x0.Trade.Start)), .imm (.val (.int .i64 x0.Trade.End)), .imm (.row 2 (List.map api_Reset.enc x0.Trade.Resets)), .imm (.val (.int .i64 x0.Trade.Stage)), .imm (.val (.bool x0.Trade.Short)), .imm (.row 2 (List.map api_Lot.enc x0.Lots))]] (.imm (.val (.bool r))) [none] := by
 unfold lombardlaw25_short.f at h; refine Pm.Spec.of_body Try.func8 rfl (by kernel_rfl) (Nat.le_of_ble_eq_true rfl) (Nat.le_of_ble_eq_true rfl) ?_; refine W.ghost (σ' := (mkSt [(0, some (.agg (lombardref25_Covered.av x0)))] [] 1000)) (Gives.entry (.c rfl .n) .n) ?_; refine W.seq ?_; refine W.pk ?_; refine .t rfl rfl (O.box rfl rfl rfl rfl rfl) ?_; refine .a rfl rfl rfl rfl ?_; refine .nil ?_; refine W.seq ?_; refine W.fork (mkSt [(2, some (.b ((decide ((List.length x0.Lots : Int) ≤ 80)) && (decide ((List.length x0.Trade.Resets : Int) ≤ 80)))))] [] 1001) ?_ ?_
 ·refine W.ret ?_; cases h; exact leaves (.inr rfl) rfl (.imm _) (cN .nil) rfl rfl
 ·clear h; refine W.pk ?_; refine .v rfl rfl (O.fld fld27_1 rfl rfl rfl) ?_; refine .v rfl rfl (O.ld (y := .imm (.row 2 (List.map api_Lot.enc x0.Lots))) ty25 rfl rfl rfl) ?_; refine .v rfl rfl (O.lenR sl25 rfl rfl) ?_; refine .v rfl rfl (OpL.binI rfl rfl rfl rfl) ?_; refine .m rfl rfl rfl rfl ?_; rcases tf (decide ((List.length x0.Lots : Int) ≤ 80)) with g1 | g1
  ·refine .v rfl (met rfl rfl rfl g1) (O.fld fld27_0 rfl rfl rfl) ?_; refine .v rfl (met rfl rfl rfl g1) (O.fld fld24_8 rfl rfl rfl) ?_; refine .v rfl (met rfl rfl rfl g1) (O.ld (y := .imm (.row 2 (List.map api_Reset.enc x0.Trade.Resets))) ty22 rfl rfl rfl) ?_; refine .v rfl (met rfl rfl rfl g1) (O.lenR sl22 rfl rfl) ?_; refine .v rfl (met rfl rfl rfl g1) (OpL.binI rfl rfl rfl rfl) ?_; refine .v rfl rfl (O.pickT g1 rfl rfl rfl) ?_; refine .a rfl rfl rfl rfl ?_; refine .nil ?_; exact toN (Gives.mkR [] (.c rfl (sbb (by simp only [g1, BL])) rfl .n) .n rfl rfl rfl)
  ·(iterate 5 refine .x rfl (unmet rfl rfl rfl g1) ?_); refine .v rfl rfl (O.pickF g1 rfl rfl rfl) ?_; refine .a rfl rfl rfl rfl ?_; refine .nil ?_; exact toN (Gives.mkR [] (.c rfl (sbb (by simp only [g1, BL])) rfl .n) .n rfl rfl rfl)

noncomputable def leg_begins.f (x0 : api_Trade) (x1 : Int) : Option (Bool) :=
  some ((x0.Stage == 1) && (x0.Start == x1))
set_option maxRecDepth 100000 in
set_option maxHeartbeats 4000000 in
theorem leg_begins.ok {x0 : api_Trade} {x1 : Int} {r : Bool} (h : leg_begins.f x0 x1 = some r) : Pm.Spec prog 45 [.agg [.imm (.val (.int .i64 x0.ID)), .imm (.val (.int .i64 x0.Twin)), .imm (.val (.int .i64 x0.Member)), .imm (.val (.int .i64 x0.Side)), .imm (.val (.int .i64 x0.Basket)), .imm (.val (.int .i64 x0.Amount)), .imm (.val (.int .i64 x0.Start)), .imm (.val (.int .i64 x0.End)), .imm (.row 2 (List.map api_Reset.enc x0.Resets)), .imm (.val (.int .i64 x0.Stage)), .imm (.val (.bool x0.Short))], .imm (.val (.int .i64 x1))] (.imm (.val (.bool r))) [none, none] := by
 unfold leg_begins.f at h; refine Pm.Spec.of_body Try.func45 rfl (by kernel_rfl) (Nat.le_of_ble_eq_true rfl) (Nat.le_of_ble_eq_true rfl) ?_; refine W.ghost (σ' := (mkSt [(0, some (.agg (api_Trade.av x0))), (1, some (.i x1))] [] 1000)) (Gives.entry (.c rfl (.c rfl .n)) .n) ?_; refine W.seq ?_; refine W.pk ?_; refine .t rfl rfl (O.box rfl rfl rfl rfl rfl) ?_; refine .a rfl rfl rfl rfl ?_; refine .nil ?_; refine W.seq ?_; refine W.fork (mkSt [(4, some (.b ((x0.Stage == 1) && (x0.Start == x1))))] [] 1001) ?_ ?_
 ·refine W.ret ?_; cases h; exact leaves (.inr rfl) rfl (.imm _) (cN (cN .nil)) rfl rfl
 ·clear h; refine W.pk ?_; refine .v rfl rfl (O.fld fld24_9 rfl rfl rfl) ?_; refine .v rfl rfl (O.ld (y := .i x0.Stage) ty3 rfl rfl rfl) ?_; refine .v rfl rfl (OpL.binI rfl rfl rfl rfl) ?_; refine .m rfl rfl rfl rfl ?_; rcases tf (x0.Stage == 1) with g1 | g1
  ·refine .v rfl (met rfl rfl rfl g1) (O.fld fld24_6 rfl rfl rfl) ?_; refine .v rfl (met rfl rfl rfl g1) (O.ld (y := .i x0.Start) ty3 rfl rfl rfl) ?_; refine .m rfl (met rfl rfl rfl g1) rfl rfl ?_; refine .v rfl (met rfl rfl rfl g1) (OpL.binI rfl rfl rfl rfl) ?_; refine .v rfl rfl (O.pickT g1 rfl rfl rfl) ?_; refine .a rfl rfl rfl rfl ?_; refine .nil ?_; exact toN (Gives.mkR [] (.c rfl (sbb (by simp only [g1, BL])) rfl .n) .n rfl rfl rfl)
  ·(iterate 4 refine .x rfl (unmet rfl rfl rfl g1) ?_); refine .v rfl rfl (O.pickF g1 rfl rfl rfl) ?_; refine .a rfl rfl rfl rfl ?_; refine .nil ?_; exact toN (Gives.mkR [] (.c rfl (sbb (by simp only [g1, BL])) rfl .n) .n rfl rfl rfl)

noncomputable def life_Live.f (x0 : api_Trade) : Option (Bool) :=
  some ((x0.Stage == 2) || (x0.Stage == 3))
set_option maxRecDepth 100000 in
set_option maxHeartbeats 4000000 in
theorem life_Live.ok {x0 : api_Trade} {r : Bool} (h : life_Live.f x0 = some r) : Pm.Spec prog 61 [.agg [.imm (.val (.int .i64 x0.ID)), .imm (.val (.int .i64 x0.Twin)), .imm (.val (.int .i64 x0.Member)), .imm (.val (.int .i64 x0.Side)), .imm (.val (.int .i64 x0.Basket)), .imm (.val (.int .i64 x0.Amount)), .imm (.val (.int .i64 x0.Start)), .imm (.val (.int .i64 x0.End)), .imm (.row 2 (List.map api_Reset.enc x0.Resets)), .imm (.val (.int .i64 x0.Stage)), .imm (.val (.bool x0.Short))]] (.imm (.val (.bool r))) [none] := by
 unfold life_Live.f at h; refine Pm.Spec.of_body Try.func61 rfl (by kernel_rfl) (Nat.le_of_ble_eq_true rfl) (Nat.le_of_ble_eq_true rfl) ?_; refine W.ghost (σ' := (mkSt [(0, some (.agg (api_Trade.av x0)))] [] 1000)) (Gives.entry (.c rfl .n) .n) ?_; refine W.seq ?_; refine W.pk ?_; refine .t rfl rfl (O.box rfl rfl rfl rfl rfl) ?_; refine .a rfl rfl rfl rfl ?_; refine .nil ?_; refine W.seq ?_; refine W.fork (mkSt [(2, some (.b ((x0.Stage == 2) || (x0.Stage == 3))))] [] 1001) ?_ ?_
 ·refine W.ret ?_; cases h; exact leaves (.inr rfl) rfl (.imm _) (cN .nil) rfl rfl
 ·clear h; refine W.pk ?_; refine .v rfl rfl (O.fld fld24_9 rfl rfl rfl) ?_; refine .v rfl rfl (O.ld (y := .i x0.Stage) ty3 rfl rfl rfl) ?_; refine .v rfl rfl (OpL.binI rfl rfl rfl rfl) ?_; refine .m rfl rfl rfl rfl ?_; rcases tf (x0.Stage == 2) with g1 | g1
  ·(iterate 3 refine .x rfl (unmet rfl rfl rfl g1) ?_); refine .v rfl rfl (O.pickT g1 rfl rfl rfl) ?_; refine .a rfl rfl rfl rfl ?_; refine .nil ?_; exact toN (Gives.mkR [] (.c rfl (sbb (by simp only [g1, BL])) rfl .n) .n rfl rfl rfl)
  ·refine .v rfl (met rfl rfl rfl g1) (O.fld fld24_9 rfl rfl rfl) ?_; refine .v rfl (met rfl rfl rfl g1) (O.ld (y := .i x0.Stage) ty3 rfl rfl rfl) ?_; refine .v rfl (met rfl rfl rfl g1) (OpL.binI rfl rfl rfl rfl) ?_; refine .v rfl rfl (O.pickF g1 rfl rfl rfl) ?_; refine .a rfl rfl rfl rfl ?_; refine .nil ?_; exact toN (Gives.mkR [] (.c rfl (sbb (by simp only [g1, BL])) rfl .n) .n rfl rfl rfl)

noncomputable def leg_ends.f (x0 : api_Trade) (x1 : Int) : Option (Bool) :=
  (life_Live.f x0).bind fun t1 =>
  some ((t1 && (x0.End == x1)) && (decide (x1 > 0)))
set_option maxRecDepth 100000 in
set_option maxHeartbeats 4000000 in
theorem leg_ends.ok {x0 : api_Trade} {x1 : Int} {r : Bool} (h : leg_ends.f x0 x1 = some r) : Pm.Spec prog 46 [.agg [.imm (.val (.int .i64 x0.ID)), .imm (.val (.int .i64 x0.Twin)), .imm (.val (.int .i64 x0.Member)), .imm (.val (.int .i64 x0.Side)), .imm (.val (.int .i64 x0.Basket)), .imm (.val (.int .i64 x0.Amount)), .imm (.val (.int .i64 x0.Start)), .imm (.val (.int .i64 x0.End)), .imm (.row 2 (List.map api_Reset.enc x0.Resets)), .imm (.val (.int .i64 x0.Stage)), .imm (.val (.bool x0.Short))], .imm (.val (.int .i64 x1))] (.imm (.val (.bool r))) [none, none] := by
 unfold leg_ends.f at h; refine Pm.Spec.of_body Try.func46 rfl (by kernel_rfl) (Nat.le_of_ble_eq_true rfl) (Nat.le_of_ble_eq_true rfl) ?_; refine W.ghost (σ' := (mkSt [(0, some (.agg (api_Trade.av x0))), (1, some (.i x1))] [] 1000)) (Gives.entry (.c rfl (.c rfl .n)) .n) ?_; refine W.seq ?_; refine W.pk ?_; refine .t rfl rfl (O.box rfl rfl rfl rfl rfl) ?_; refine .a rfl rfl rfl rfl ?_; refine .nil ?_; refine W.seq ?_; obtain ⟨t1, b2, h⟩ := bnd1 h; refine W.fork (mkSt [(4, some (.b ((t1 && (x0.End == x1)) && (decide (x1 > 0)))))] [] 1001) ?_ ?_
 ·refine W.ret ?_; cases h; exact leaves (.inr rfl) rfl (.imm _) (cN (cN .nil)) rfl rfl
 ·clear h; refine W.pk ?_; refine .v rfl rfl (O.ldN ty24 rfl rfl rfl) ?_; refine .call (.b t1) [] 0 (life_Live.ok b2) rfl rfl rfl ca61 rfl rfl (cC (.agg _ _ _ _ (cC (.imm _) (cC (.imm _) (cC (.imm _) (cC (.imm _) (cC (.imm _) (cC (.imm _) (cC (.imm _) (cC (.imm _) (cC (.imm _) (cC (.imm _) (cC (.imm _) .nil)))))))))))) .nil) rfl rfl rfl rfl rfl ?_; refine .m rfl rfl rfl rfl ?_; rcases tf t1 with g3 | g3
  ·refine .v rfl (met rfl rfl rfl g3) (O.fld fld24_7 rfl rfl rfl) ?_; refine .v rfl (met rfl rfl rfl g3) (O.ld (y := .i x0.End) ty3 rfl rfl rfl) ?_; refine .m rfl (met rfl rfl rfl g3) rfl rfl ?_; refine .v rfl (met rfl rfl rfl g3) (OpL.binI rfl rfl rfl rfl) ?_; refine .v rfl rfl (O.pickT g3 rfl rfl rfl) ?_; refine .m rfl rfl rfl rfl ?_; rcases tf (x0.End == x1) with g4 | g4
   ·refine .m rfl (met rfl rfl rfl g4) rfl rfl ?_; refine .v rfl (met rfl rfl rfl g4) (OpL.binI rfl rfl rfl rfl) ?_; refine .v rfl rfl (O.pickT g4 rfl rfl rfl) ?_; refine .a rfl rfl rfl rfl ?_; refine .nil ?_; exact toN (Gives.mkR [] (.c rfl (sbb (by first | (simp only [g3, g4, BL]; done) | (repeat (first | rw [g3] | rw [g4])) <;> simp only [BL])) rfl .n) .n rfl rfl rfl)
   ·(iterate 2 refine .x rfl (unmet rfl rfl rfl g4) ?_); refine .v rfl rfl (O.pickF g4 rfl rfl rfl) ?_; refine .a rfl rfl rfl rfl ?_; refine .nil ?_; exact toN (Gives.mkR [] (.c rfl (sbb (by first | (simp only [g3, g4, BL]; done) | (repeat (first | rw [g3] | rw [g4])) <;> simp only [BL])) rfl .n) .n rfl rfl rfl)
  ·(iterate 4 refine .x rfl (unmet rfl rfl rfl g3) ?_); refine .v rfl rfl (O.pickF g3 rfl rfl rfl) ?_; refine .m rfl rfl rfl rfl ?_; (iterate 2 refine .x rfl (unmet rfl rfl rfl rfl) ?_); refine .v rfl rfl (O.pickF rfl rfl rfl rfl) ?_; refine .a rfl rfl rfl rfl ?_; refine .nil ?_; exact toN (Gives.mkR [] (.c rfl (sbb (by simp only [g3, BL])) rfl .n) .n rfl rfl rfl)

noncomputable def leg_On.b0 (x0 : List leg_Covered) (x1 : Int) (v37 : Int) (v38 : List api_Leg) : Option ((Int × (List api_Leg)) ⊕ (((List api_Leg) × Int) ⊕ (List api_Leg))) :=
  if (decide (v37 < (List.length x0 : Int))) = true then
    if (0 : Int) ≤ v37 ∧ v37 < (List.length x0 : Int) then
    (leg_begins.f ((nth x0 v37).Trade) x1).bind fun t77 =>
    if t77 = true then
      (leg_Covered_Begin.f (⟨((nth x0 v37).Trade), (nth x0 v37).Lots⟩ : leg_Covered)).bind fun t80 =>
      if (t80.2 != 0) = true then
        some (.inr (.inl ([], t80.2)))
      else
        if (List.length v38 + List.length [t80.1]) * 56 ≤ 140737488355328 then
        some (.inl ((IntKind.wrap .i64 (v37 + 1)), (v38 ++ [t80.1])))
        else none
    else
      (leg_ends.f ((nth x0 v37).Trade) x1).bind fun t84 =>
      if t84 = true then
        (leg_Covered_End.f (⟨((nth x0 v37).Trade), (nth x0 v37).Lots⟩ : leg_Covered)).bind fun t87 =>
        if (t87.2 != 0) = true then
          some (.inr (.inl ([], t87.2)))
        else
          if (List.length v38 + List.length [t87.1]) * 56 ≤ 140737488355328 then
          some (.inl ((IntKind.wrap .i64 (v37 + 1)), (v38 ++ [t87.1])))
          else none
      else
        some (.inl ((IntKind.wrap .i64 (v37 + 1)), v38))
    else none
  else
    some (.inr (.inr v38))
noncomputable def leg_On.r0 (x0 : List leg_Covered) (x1 : Int) (s : Int × (List api_Leg)) : Option ((Int × (List api_Leg)) ⊕ (((List api_Leg) × Int) ⊕ (List api_Leg))) := leg_On.b0 x0 x1 s.1 s.2
noncomputable def leg_On.f (x0 : List leg_Covered) (x1 : Int) : Option ((List api_Leg) × Int) :=
  (calendar_Good.f x1).bind fun t1 =>
  if (!t1) = true then
    some ([], 10)
  else
    (loop (leg_On.r0 x0 x1) (0, [])).bind fun o72 =>
    match o72 with
    | .inl r91 => some r91
    | .inr w71 =>
      some (w71, 0)
set_option maxRecDepth 100000 in
set_option maxHeartbeats 4000000 in
theorem leg_On.ok {x0 : List leg_Covered} {x1 : Int} {r : (List api_Leg) × Int} (h : leg_On.f x0 x1 = some r) : Pm.Spec prog 22 [.xown 34 12 (List.map leg_Covered.enc x0), .imm (.val (.int .i64 x1))] (.tup [.xown 31 5 (List.map api_Leg.enc r.1), .imm (.val (.int .i64 r.2))]) [some (.xown 34 12 (List.map leg_Covered.enc x0)), none] := by
 unfold leg_On.f at h; refine Pm.Spec.of_body Try.func22 rfl (by kernel_rfl) (Nat.le_of_ble_eq_true rfl) (Nat.le_of_ble_eq_true rfl) ?_; refine W.ghost (σ' := (mkSt [(0, some (.own 0)), (1, some (.i x1))] [(0, some (.rows 34 12 (List.map leg_Covered.enc x0) false))] 1000)) (Gives.entry (.c rfl (.c rfl .n)) (.c rfl .n)) ?_; refine W.seq ?_; refine W.pk ?_; (iterate 2 refine .a rfl rfl rfl rfl ?_); refine .nil ?_; (iterate 2 refine W.seq ?_); obtain ⟨t1, b2, h⟩ := bnd1 h; refine W.pk ?_; refine .m rfl rfl rfl rfl ?_; refine .call (.b t1) [] 0 (calendar_Good.ok b2) rfl rfl rfl ca44 rfl rfl (cC (.imm _) .nil) rfl rfl rfl rfl rfl ?_; refine .v rfl rfl (OpL.unV rfl rfl rfl) ?_; refine .nil ?_; refine W.cond rfl (fun q3 => ?_) (fun q3 => ?_)
 ·have h := ifT q3 h; refine W.seq ?_; refine W.pk ?_; (iterate 2 refine .a rfl rfl rfl rfl ?_); refine .nil ?_; refine W.ret ?_; cases h; exact leaves (.inr rfl) rfl (.tup _ _ _ _ (cC (.nilown _ _) (cC (.imm _) .nil))) (cS (.own _ _ _ _ rfl) (cN .nil)) rfl rfl
 ·have h := ifF q3 h; refine W.skip ?_; refine W.seq ?_; refine W.pk ?_; refine .a rfl rfl rfl rfl ?_; refine .nil ?_; (iterate 2 refine W.seq ?_); refine W.pk ?_; refine .m rfl rfl rfl rfl ?_; refine .v rfl rfl (O.lenO sl50 rfl rfl rfl) ?_; refine .m rfl rfl rfl rfl ?_; refine .nil ?_; refine W.ghost (Gives.mintS 6 31 5 rfl) ?_; obtain ⟨o72, b73, z74⟩ := bnd1 h; refine W.fork2 (out := o72) (fun (w71 : List api_Leg) => mkSt [(6, some (.own 1000))] [(0, some (.rows 34 12 (List.map leg_Covered.enc x0) false)), (1000, some (.rows 31 5 (List.map api_Leg.enc w71) false))] 1001) ?_ ?_
  ·clear h; refine W.block ?_; refine W.loopF (fun (s_ : Int × (List api_Leg)) => mkSt [(1, some (.i x1)), (6, some (.own 1000)), (14, some (.own 0)), (15, some (.i (List.length x0 : Int))), (16, some (.i s_.1))] [(0, some (.rows 34 12 (List.map leg_Covered.enc x0) false)), (1000, some (.rows 31 5 (List.map api_Leg.enc s_.2) false))] 1001) b73 (Gives.mkR [] (.e rfl rfl) (.e rfl rfl) rfl rfl rfl) ?_; rintro ⟨v37, v38⟩ s_ hr; have h : leg_On.b0 x0 x1 v37 v38 = some s_ := hr; unfold leg_On.b0 at h; refine W.seq ?_; refine W.pk ?_; refine .v rfl rfl (OpL.binI rfl rfl rfl rfl) ?_; refine .nil ?_; refine W.seq ?_; refine W.cond rfl (fun q75 => ?_) (fun q75 => ?_)
   ·have h := ifT q75 h; refine W.skip ?_; refine W.seq ?_; refine W.block ?_; refine W.seq ?_; obtain ⟨c76, h⟩ := chk h; refine W.pk ?_; refine .v rfl rfl (O.idxO sl50 c76 rfl rfl rfl rfl) ?_; refine .v rfl rfl (O.ldEN ty34 c76 rfl rfl rfl rfl rfl) ?_; refine .t rfl rfl (O.alloc z34 rfl) ?_; refine .s rfl rfl (O.st ty34 rfl rfl rfl rfl rfl rfl rfl rfl rfl rfl (all' := [.i (((nth x0 v37).Trade).ID), .i (((nth x0 v37).Trade).Twin), .i (((nth x0 v37).Trade).Member), .i (((nth x0 v37).Trade).Side), .i (((nth x0 v37).Trade).Basket), .i (((nth x0 v37).Trade).Amount), .i (((nth x0 v37).Trade).Start), .i (((nth x0 v37).Trade).End), .imm (.row 2 (List.map api_Reset.enc (((nth x0 v37).Trade).Resets))), .i (((nth x0 v37).Trade).Stage), .b (((nth x0 v37).Trade).Short), .imm (.row 2 (List.map api_Lot.enc ((nth x0 v37).Lots)))]) rfl) ?_; refine .nil ?_; refine W.seq ?_; refine W.pk ?_; refine .t rfl rfl (O.alloc z31 rfl) ?_; refine .nil ?_; refine W.seq ?_; refine W.pk ?_; refine .a rfl rfl rfl rfl ?_; refine .nil ?_; refine W.seq ?_; refine W.block ?_; refine W.seq ?_; obtain ⟨t77, b78, h⟩ := bnd1 h; refine W.pk ?_; refine .v rfl rfl (O.fld fld34_0 rfl rfl rfl) ?_; refine .v rfl rfl (O.ldN ty24 rfl rfl rfl) ?_; refine .m rfl rfl rfl rfl ?_; refine .call (.b t77) [] 0 (leg_begins.ok b78) rfl rfl rfl ca45 rfl rfl (cC (.agg _ _ _ _ (cC (.imm _) (cC (.imm _) (cC (.imm _) (cC (.imm _) (cC (.imm _) (cC (.imm _) (cC (.imm _) (cC (.imm _) (cC (.imm _) (cC (.imm _) (cC (.imm _) .nil)))))))))))) (cC (.imm _) .nil)) rfl rfl rfl rfl rfl ?_; refine .a rfl rfl rfl rfl ?_; refine .nil ?_; refine W.cond rfl (fun q79 => ?_) (fun q79 => ?_)
    ·have h := ifT q79 h; obtain ⟨t80, b81, h⟩ := bnd1 h; refine W.pk ?_; refine .v rfl rfl (O.ldN ty34 rfl rfl rfl) ?_; refine .call (.tup [.agg (api_Leg.av t80.1), .i t80.2]) [] 0 (leg_Covered_Begin.ok b81) rfl rfl rfl ca11 rfl rfl (cC (.agg _ _ _ _ (cC (.imm _) (cC (.imm _) (cC (.imm _) (cC (.imm _) (cC (.imm _) (cC (.imm _) (cC (.imm _) (cC (.imm _) (cC (.imm _) (cC (.imm _) (cC (.imm _) (cC (.imm _) .nil))))))))))))) .nil) rfl rfl rfl rfl rfl ?_; refine .m rfl rfl rfl rfl ?_; (iterate 2 refine .v rfl rfl (OpL.extract rfl rfl rfl) ?_); refine .s rfl rfl (O.st ty31 rfl rfl rfl rfl rfl rfl rfl rfl rfl rfl (all' := [.i t80.1.Day, .i t80.1.Member, .i t80.1.Trade, .i t80.1.Cash, .imm (.row 2 (List.map api_Lot.enc t80.1.Lots))]) rfl) ?_; refine .a rfl rfl rfl rfl ?_; refine .nil ?_; (iterate 2 refine W.seq ?_); refine W.pk ?_; refine .m rfl rfl rfl rfl ?_; refine .v rfl rfl (OpL.binI rfl rfl rfl rfl) ?_; refine .nil ?_; refine W.cond rfl (fun q82 => ?_) (fun q82 => ?_)
     ·have h := ifT q82 h; refine W.seq ?_; refine W.pk ?_; refine .m rfl rfl rfl rfl ?_; (iterate 2 refine .a rfl rfl rfl rfl ?_); refine .nil ?_; refine W.ret ?_; cases h; refine rdR fun e_ => ?_; subst e_; have h := z74; dsimp only at h; refine fkR ?_; cases h; exact leaves (.inr rfl) rfl (.tup _ _ _ _ (cC (.nilown _ _) (cC (.imm _) .nil))) (cS (.own _ _ _ _ rfl) (cN .nil)) rfl rfl
     ·have h := ifF q82 h; refine W.skip ?_; obtain ⟨c83, h⟩ := chk h; refine W.pk ?_; refine .m rfl rfl rfl rfl ?_; refine .v rfl rfl (O.ldN ty31 rfl rfl rfl) ?_; refine .t rfl rfl (O.lit (enc := api_Leg.enc) (l := [t80.1]) sl45 rfl rfl rfl rfl rfl rfl rfl rfl rfl) ?_; refine .t rfl rfl (O.appO sl45 api_Leg.ok c83 rfl rfl rfl rfl rfl) ?_; refine .a rfl rfl rfl rfl ?_; refine .nil ?_; refine W.pk ?_; refine .v rfl rfl (OpL.binI rfl rfl rfl rfl) ?_; refine .m rfl rfl rfl rfl ?_; refine .nil ?_; cases h; exact rdN (Gives.mkR [(1000, 1004)] (.e rfl rfl) (.e rfl rfl) rfl rfl rfl)
    ·have h := ifF q79 h; refine W.seq ?_; obtain ⟨t84, b85, h⟩ := bnd1 h; refine W.pk ?_; refine .v rfl rfl (O.fld fld34_0 rfl rfl rfl) ?_; refine .v rfl rfl (O.ldN ty24 rfl rfl rfl) ?_; refine .m rfl rfl rfl rfl ?_; refine .call (.b t84) [] 0 (leg_ends.ok b85) rfl rfl rfl ca46 rfl rfl (cC (.agg _ _ _ _ (cC (.imm _) (cC (.imm _) (cC (.imm _) (cC (.imm _) (cC (.imm _) (cC (.imm _) (cC (.imm _) (cC (.imm _) (cC (.imm _) (cC (.imm _) (cC (.imm _) .nil)))))))))))) (cC (.imm _) .nil)) rfl rfl rfl rfl rfl ?_; refine .a rfl rfl rfl rfl ?_; refine .nil ?_; refine W.cond rfl (fun q86 => ?_) (fun q86 => ?_)
     ·have h := ifT q86 h; obtain ⟨t87, b88, h⟩ := bnd1 h; refine W.pk ?_; refine .v rfl rfl (O.ldN ty34 rfl rfl rfl) ?_; refine .call (.tup [.agg (api_Leg.av t87.1), .i t87.2]) [] 0 (leg_Covered_End.ok b88) rfl rfl rfl ca13 rfl rfl (cC (.agg _ _ _ _ (cC (.imm _) (cC (.imm _) (cC (.imm _) (cC (.imm _) (cC (.imm _) (cC (.imm _) (cC (.imm _) (cC (.imm _) (cC (.imm _) (cC (.imm _) (cC (.imm _) (cC (.imm _) .nil))))))))))))) .nil) rfl rfl rfl rfl rfl ?_; refine .m rfl rfl rfl rfl ?_; (iterate 2 refine .v rfl rfl (OpL.extract rfl rfl rfl) ?_); refine .s rfl rfl (O.st ty31 rfl rfl rfl rfl rfl rfl rfl rfl rfl rfl (all' := [.i t87.1.Day, .i t87.1.Member, .i t87.1.Trade, .i t87.1.Cash, .imm (.row 2 (List.map api_Lot.enc t87.1.Lots))]) rfl) ?_; refine .a rfl rfl rfl rfl ?_; refine .nil ?_; (iterate 2 refine W.seq ?_); refine W.pk ?_; refine .m rfl rfl rfl rfl ?_; refine .v rfl rfl (OpL.binI rfl rfl rfl rfl) ?_; refine .nil ?_; refine W.cond rfl (fun q89 => ?_) (fun q89 => ?_)
      ·have h := ifT q89 h; refine W.seq ?_; refine W.pk ?_; refine .m rfl rfl rfl rfl ?_; (iterate 2 refine .a rfl rfl rfl rfl ?_); refine .nil ?_; refine W.ret ?_; cases h; refine rdR fun e_ => ?_; subst e_; have h := z74; dsimp only at h; refine fkR ?_; cases h; exact leaves (.inr rfl) rfl (.tup _ _ _ _ (cC (.nilown _ _) (cC (.imm _) .nil))) (cS (.own _ _ _ _ rfl) (cN .nil)) rfl rfl
      ·have h := ifF q89 h; refine W.skip ?_; obtain ⟨c90, h⟩ := chk h; refine W.pk ?_; refine .m rfl rfl rfl rfl ?_; refine .v rfl rfl (O.ldN ty31 rfl rfl rfl) ?_; refine .t rfl rfl (O.lit (enc := api_Leg.enc) (l := [t87.1]) sl45 rfl rfl rfl rfl rfl rfl rfl rfl rfl) ?_; refine .t rfl rfl (O.appO sl45 api_Leg.ok c90 rfl rfl rfl rfl rfl) ?_; refine .a rfl rfl rfl rfl ?_; refine .nil ?_; refine W.pk ?_; refine .v rfl rfl (OpL.binI rfl rfl rfl rfl) ?_; refine .m rfl rfl rfl rfl ?_; refine .nil ?_; cases h; exact rdN (Gives.mkR [(1000, 1004)] (.e rfl rfl) (.e rfl rfl) rfl rfl rfl)
     ·have h := ifF q86 h; refine W.exit ?_; (repeat with_reducible refine thru ?_); refine miss rfl ?_; (repeat with_reducible refine thru ?_); refine hit ?_; refine W.pk ?_; refine .v rfl rfl (OpL.binI rfl rfl rfl rfl) ?_; refine .m rfl rfl rfl rfl ?_; refine .nil ?_; cases h; exact rdN (Gives.mkR [] (.e rfl rfl) (.e rfl rfl) rfl rfl rfl)
   ·have h := ifF q75 h; refine W.exit ?_; cases h; refine rdX fun e_ => ?_; subst e_; (repeat with_reducible refine thru ?_); refine hit ?_; exact fkN (Gives.mkR [] (.r rfl rfl .n) (.e rfl rfl) rfl rfl rfl)
  ·intro w71 e_; subst e_; clear h; have h := z74; dsimp only at h; refine W.seq ?_; refine W.pk ?_; refine .m rfl rfl rfl rfl ?_; (iterate 2 refine .a rfl rfl rfl rfl ?_); refine .nil ?_; refine W.ret ?_; cases h; exact leaves (.inr rfl) rfl (.tup _ _ _ _ (cC (.own _ _ _ _ rfl) (cC (.imm _) .nil))) (cS (.own _ _ _ _ rfl) (cN .nil)) rfl rfl

noncomputable def lombardref02_Good.f (x0 : Int) : Option (Bool) :=
  some ((decide (x0 ≥ 0)) && (decide (x0 ≤ 200000)))
set_option maxRecDepth 100000 in
set_option maxHeartbeats 4000000 in
theorem lombardref02_Good.ok {x0 : Int} {r : Bool} (h : lombardref02_Good.f x0 = some r) : Pm.Spec prog 36 [.imm (.val (.int .i64 x0))] (.imm (.val (.bool r))) [none] := by
 unfold lombardref02_Good.f at h; refine Pm.Spec.of_body Try.func36 rfl (by kernel_rfl) (Nat.le_of_ble_eq_true rfl) (Nat.le_of_ble_eq_true rfl) ?_; refine W.ghost (σ' := (mkSt [(0, some (.i x0))] [] 1000)) (Gives.entry (.c rfl .n) .n) ?_; refine W.seq ?_; refine W.pk ?_; refine .a rfl rfl rfl rfl ?_; refine .nil ?_; refine W.seq ?_; refine W.fork (mkSt [(2, some (.b ((decide (x0 ≥ 0)) && (decide (x0 ≤ 200000)))))] [] 1000) ?_ ?_
 ·refine W.ret ?_; cases h; exact leaves (.inr rfl) rfl (.imm _) (cN .nil) rfl rfl
 ·clear h; refine W.pk ?_; refine .m rfl rfl rfl rfl ?_; refine .v rfl rfl (OpL.binI rfl rfl rfl rfl) ?_; refine .m rfl rfl rfl rfl ?_; rcases tf (decide (x0 ≥ 0)) with g1 | g1
  ·refine .m rfl (met rfl rfl rfl g1) rfl rfl ?_; refine .v rfl (met rfl rfl rfl g1) (OpL.binI rfl rfl rfl rfl) ?_; refine .v rfl rfl (O.pickT g1 rfl rfl rfl) ?_; refine .a rfl rfl rfl rfl ?_; refine .nil ?_; exact toN (Gives.mkR [] (.c rfl (sbb (by simp only [g1, BL])) rfl .n) .n rfl rfl rfl)
  ·(iterate 2 refine .x rfl (unmet rfl rfl rfl g1) ?_); refine .v rfl rfl (O.pickF g1 rfl rfl rfl) ?_; refine .a rfl rfl rfl rfl ?_; refine .nil ?_; exact toN (Gives.mkR [] (.c rfl (sbb (by simp only [g1, BL])) rfl .n) .n rfl rfl rfl)

noncomputable def lombardref23_in.f (x0 : Int) (x1 : Int) (x2 : Int) : Option (Bool) :=
  some ((decide (x0 ≥ x1)) && (decide (x0 ≤ x2)))
set_option maxRecDepth 100000 in
set_option maxHeartbeats 4000000 in
theorem lombardref23_in.ok {x0 : Int} {x1 : Int} {x2 : Int} {r : Bool} (h : lombardref23_in.f x0 x1 x2 = some r) : Pm.Spec prog 64 [.imm (.val (.int .i64 x0)), .imm (.val (.int .i64 x1)), .imm (.val (.int .i64 x2))] (.imm (.val (.bool r))) [none, none, none] := by
 unfold lombardref23_in.f at h; refine Pm.Spec.of_body Try.func64 rfl (by kernel_rfl) (Nat.le_of_ble_eq_true rfl) (Nat.le_of_ble_eq_true rfl) ?_; refine W.ghost (σ' := (mkSt [(0, some (.i x0)), (1, some (.i x1)), (2, some (.i x2))] [] 1000)) (Gives.entry (.c rfl (.c rfl (.c rfl .n))) .n) ?_; refine W.seq ?_; refine W.pk ?_; refine .a rfl rfl rfl rfl ?_; refine .nil ?_; refine W.seq ?_; refine W.fork (mkSt [(6, some (.b ((decide (x0 ≥ x1)) && (decide (x0 ≤ x2)))))] [] 1000) ?_ ?_
 ·refine W.ret ?_; cases h; exact leaves (.inr rfl) rfl (.imm _) (cN (cN (cN .nil))) rfl rfl
 ·clear h; refine W.pk ?_; (iterate 2 refine .m rfl rfl rfl rfl ?_); refine .v rfl rfl (OpL.binI rfl rfl rfl rfl) ?_; refine .m rfl rfl rfl rfl ?_; rcases tf (decide (x0 ≥ x1)) with g1 | g1
  ·(iterate 2 refine .m rfl (met rfl rfl rfl g1) rfl rfl ?_); refine .v rfl (met rfl rfl rfl g1) (OpL.binI rfl rfl rfl rfl) ?_; refine .v rfl rfl (O.pickT g1 rfl rfl rfl) ?_; refine .a rfl rfl rfl rfl ?_; refine .nil ?_; exact toN (Gives.mkR [] (.c rfl (sbb (by simp only [g1, BL])) rfl .n) .n rfl rfl rfl)
  ·(iterate 3 refine .x rfl (unmet rfl rfl rfl g1) ?_); refine .v rfl rfl (O.pickF g1 rfl rfl rfl) ?_; refine .a rfl rfl rfl rfl ?_; refine .nil ?_; exact toN (Gives.mkR [] (.c rfl (sbb (by simp only [g1, BL])) rfl .n) .n rfl rfl rfl)

noncomputable def lombardref03_rated.f (x0 : Int) : Option (Bool) :=
  some ((decide (x0 ≥ (-1000000))) && (decide (x0 ≤ 1000000)))
set_option maxRecDepth 100000 in
set_option maxHeartbeats 4000000 in
theorem lombardref03_rated.ok {x0 : Int} {r : Bool} (h : lombardref03_rated.f x0 = some r) : Pm.Spec prog 69 [.imm (.val (.int .i64 x0))] (.imm (.val (.bool r))) [none] := by
 unfold lombardref03_rated.f at h; refine Pm.Spec.of_body Try.func69 rfl (by kernel_rfl) (Nat.le_of_ble_eq_true rfl) (Nat.le_of_ble_eq_true rfl) ?_; refine W.ghost (σ' := (mkSt [(0, some (.i x0))] [] 1000)) (Gives.entry (.c rfl .n) .n) ?_; refine W.seq ?_; refine W.pk ?_; refine .a rfl rfl rfl rfl ?_; refine .nil ?_; refine W.seq ?_; refine W.fork (mkSt [(2, some (.b ((decide (x0 ≥ (-1000000))) && (decide (x0 ≤ 1000000)))))] [] 1000) ?_ ?_
 ·refine W.ret ?_; cases h; exact leaves (.inr rfl) rfl (.imm _) (cN .nil) rfl rfl
 ·clear h; refine W.pk ?_; refine .m rfl rfl rfl rfl ?_; refine .v rfl rfl (OpL.binI rfl rfl rfl rfl) ?_; refine .m rfl rfl rfl rfl ?_; rcases tf (decide (x0 ≥ (-1000000))) with g1 | g1
  ·refine .m rfl (met rfl rfl rfl g1) rfl rfl ?_; refine .v rfl (met rfl rfl rfl g1) (OpL.binI rfl rfl rfl rfl) ?_; refine .v rfl rfl (O.pickT g1 rfl rfl rfl) ?_; refine .a rfl rfl rfl rfl ?_; refine .nil ?_; exact toN (Gives.mkR [] (.c rfl (sbb (by simp only [g1, BL])) rfl .n) .n rfl rfl rfl)
  ·(iterate 2 refine .x rfl (unmet rfl rfl rfl g1) ?_); refine .v rfl rfl (O.pickF g1 rfl rfl rfl) ?_; refine .a rfl rfl rfl rfl ?_; refine .nil ?_; exact toN (Gives.mkR [] (.c rfl (sbb (by simp only [g1, BL])) rfl .n) .n rfl rfl rfl)

noncomputable def lombardref03_Check.b0 (x0 : List api_Reset) (v16 : Int) : Option (Int ⊕ (Int ⊕ Unit)) :=
  if (decide (v16 < (List.length x0 : Int))) = true then
    if (0 : Int) ≤ v16 ∧ v16 < (List.length x0 : Int) then
    (lombardref02_Good.f ((nth x0 v16).Day)).bind fun t49 =>
    if ((!t49) = false ∧ (decide (v16 > 0)) = true → (0 : Int) ≤ v16 ∧ v16 < (List.length x0 : Int)) then
    if ((!t49) = false ∧ (decide (v16 > 0)) = true → (0 : Int) ≤ (IntKind.wrap .i64 (v16 - 1)) ∧ (IntKind.wrap .i64 (v16 - 1)) < (List.length x0 : Int)) then
    if ((!t49) || ((decide (v16 > 0)) && (decide (((nth x0 v16).Day) ≤ ((nth x0 (IntKind.wrap .i64 (v16 - 1))).Day))))) = true then
      some (.inr (.inl 10))
    else
      if (0 : Int) ≤ v16 ∧ v16 < (List.length x0 : Int) then
      (lombardref03_rated.f ((nth x0 v16).Rate)).bind fun t57 =>
      if (!t57) = true then
        some (.inr (.inl 1))
      else
        some (.inl (IntKind.wrap .i64 (v16 + 1)))
      else none
    else none
    else none
    else none
  else
    some (.inr (.inr ()))
noncomputable def lombardref03_Check.r0 (x0 : List api_Reset) (s : Int) : Option (Int ⊕ (Int ⊕ Unit)) := lombardref03_Check.b0 x0 s
noncomputable def lombardref03_Check.f (x0 : List api_Reset) : Option (Int) :=
  if ((List.length x0 : Int) == 0) = true then
    some 6
  else
    if (decide ((List.length x0 : Int) > 64)) = true then
      some 2
    else
      (loop (lombardref03_Check.r0 x0) 0).bind fun o44 =>
      match o44 with
      | .inl r60 => some r60
      | .inr w43 =>
        some 0
set_option maxRecDepth 100000 in
set_option maxHeartbeats 4000000 in
theorem lombardref03_Check.ok {x0 : List api_Reset} {r : Int} (h : lombardref03_Check.f x0 = some r) : Pm.Spec prog 56 [.imm (.row 2 (List.map api_Reset.enc x0))] (.imm (.val (.int .i64 r))) [none] := by
 unfold lombardref03_Check.f at h; refine Pm.Spec.of_body Try.func56 rfl (by kernel_rfl) (Nat.le_of_ble_eq_true rfl) (Nat.le_of_ble_eq_true rfl) ?_; refine W.ghost (σ' := (mkSt [(0, some (.imm (.row 2 (List.map api_Reset.enc x0))))] [] 1000)) (Gives.entry (.c rfl .n) .n) ?_; refine W.seq ?_; refine W.pk ?_; refine .a rfl rfl rfl rfl ?_; refine .nil ?_; (iterate 2 refine W.seq ?_); refine W.pk ?_; refine .m rfl rfl rfl rfl ?_; refine .v rfl rfl (O.lenR sl22 rfl rfl) ?_; refine .v rfl rfl (OpL.binI rfl rfl rfl rfl) ?_; refine .nil ?_; refine W.cond rfl (fun q1 => ?_) (fun q1 => ?_)
 ·have h := ifT q1 h; refine W.seq ?_; refine W.pk ?_; refine .a rfl rfl rfl rfl ?_; refine .nil ?_; refine W.ret ?_; cases h; exact leaves (.inr rfl) rfl (.imm _) (cN .nil) rfl rfl
 ·have h := ifF q1 h; refine W.skip ?_; (iterate 2 refine W.seq ?_); refine W.pk ?_; refine .m rfl rfl rfl rfl ?_; refine .v rfl rfl (O.lenR sl22 rfl rfl) ?_; refine .v rfl rfl (OpL.binI rfl rfl rfl rfl) ?_; refine .nil ?_; refine W.cond rfl (fun q2 => ?_) (fun q2 => ?_)
  ·have h := ifT q2 h; refine W.seq ?_; refine W.pk ?_; refine .a rfl rfl rfl rfl ?_; refine .nil ?_; refine W.ret ?_; cases h; exact leaves (.inr rfl) rfl (.imm _) (cN .nil) rfl rfl
  ·have h := ifF q2 h; refine W.skip ?_; (iterate 2 refine W.seq ?_); refine W.pk ?_; refine .a rfl rfl rfl rfl ?_; refine .nil ?_; obtain ⟨o44, b45, z46⟩ := bnd1 h; refine W.fork2 (out := o44) (fun (w43 : Unit) => mkSt [] [] 1000) ?_ ?_
   ·clear h; refine W.block ?_; refine W.loopF (fun (s_ : Int) => mkSt [(0, some (.imm (.row 2 (List.map api_Reset.enc x0)))), (3, some (.i s_))] [] 1000) b45 (Gives.mkR [] (.e rfl rfl) .n rfl rfl rfl) ?_; rintro v16 s_ hr; have h : lombardref03_Check.b0 x0 v16 = some s_ := hr; unfold lombardref03_Check.b0 at h; (iterate 2 refine W.seq ?_); refine W.pk ?_; (iterate 2 refine .m rfl rfl rfl rfl ?_); refine .v rfl rfl (O.lenR sl22 rfl rfl) ?_; refine .v rfl rfl (OpL.binI rfl rfl rfl rfl) ?_; refine .nil ?_; refine W.cond rfl (fun q47 => ?_) (fun q47 => ?_)
    ·have h := ifT q47 h; refine W.skip ?_; refine W.seq ?_; refine W.block ?_; (iterate 2 refine W.seq ?_); obtain ⟨c48, h⟩ := chk h; obtain ⟨t49, b50, h⟩ := bnd1 h; obtain ⟨c51, h⟩ := chk h; obtain ⟨c52, h⟩ := chk h; refine W.fork (mkSt [(0, some (.imm (.row 2 (List.map api_Reset.enc x0)))), (3, some (.i v16)), (40, some (.b ((!t49) || ((decide (v16 > 0)) && (decide (((nth x0 v16).Day) ≤ ((nth x0 (IntKind.wrap .i64 (v16 - 1))).Day)))))))] [] 1000) ?_ ?_
     ·refine W.cond rfl (fun q55 => ?_) (fun q55 => ?_)
      ·have h := ifT q55 h; refine W.seq ?_; refine W.pk ?_; refine .a rfl rfl rfl rfl ?_; refine .nil ?_; refine W.ret ?_; cases h; refine rdR fun e_ => ?_; subst e_; have h := z46; dsimp only at h; refine fkR ?_; cases h; exact leaves (.inr rfl) rfl (.imm _) (cN .nil) rfl rfl
      ·have h := ifF q55 h; refine W.skip ?_; refine W.seq ?_; obtain ⟨c56, h⟩ := chk h; obtain ⟨t57, b58, h⟩ := bnd1 h; refine W.pk ?_; (iterate 2 refine .m rfl rfl rfl rfl ?_); refine .v rfl rfl (O.idx sl22 c56 rfl rfl rfl) ?_; refine .v rfl rfl (O.fld fld75_1 rfl rfl rfl) ?_; refine .v rfl rfl (O.ld (y := .i ((nth x0 v16).Rate)) ty3 rfl rfl rfl) ?_; refine .call (.b t57) [] 0 (lombardref03_rated.ok b58) rfl rfl rfl ca69 rfl rfl (cC (.imm _) .nil) rfl rfl rfl rfl rfl ?_; refine .v rfl rfl (OpL.unV rfl rfl rfl) ?_; refine .nil ?_; refine W.cond rfl (fun q59 => ?_) (fun q59 => ?_)
       ·have h := ifT q59 h; refine W.seq ?_; refine W.pk ?_; refine .a rfl rfl rfl rfl ?_; refine .nil ?_; refine W.ret ?_; cases h; refine rdR fun e_ => ?_; subst e_; have h := z46; dsimp only at h; refine fkR ?_; cases h; exact leaves (.inr rfl) rfl (.imm _) (cN .nil) rfl rfl
       ·have h := ifF q59 h; refine W.skip ?_; refine W.pk ?_; refine .m rfl rfl rfl rfl ?_; refine .v rfl rfl (OpL.binI rfl rfl rfl rfl) ?_; refine .a rfl rfl rfl rfl ?_; refine .nil ?_; cases h; exact rdN (Gives.mkR [] (.e rfl rfl) .n rfl rfl rfl)
     ·clear h; refine W.dk (unm 25 [0, 0, 3, 7, 15, 31, 63, 127, 255, 511, 1023, 2047, 2047, 8191, 16383, 32767, 2047, 2047, 133119, 460799, 985087, 2033663, 4194303, 8388607, 16777215]) rfl (by kernel_rfl) ?_; (iterate 2 refine .m rfl rfl rfl rfl ?_); refine .v rfl rfl (O.idx sl22 c48 rfl rfl rfl) ?_; refine .v rfl rfl (O.fld fld75_0 rfl rfl rfl) ?_; refine .v rfl rfl (O.ld (y := .i ((nth x0 v16).Day)) ty3 rfl rfl rfl) ?_; refine .call (.b t49) [] 0 (lombardref02_Good.ok b50) rfl rfl rfl ca36 rfl rfl (cC (.imm _) .nil) rfl rfl rfl rfl rfl ?_; refine .v rfl rfl (OpL.unV rfl rfl rfl) ?_; refine .m rfl rfl rfl rfl ?_; rcases tf t49 with g53 | g53
      ·refine .m rfl (met rfl rfl rfl (notT g53)) rfl rfl ?_; refine .v rfl (met rfl rfl rfl (notT g53)) (OpL.binI rfl rfl rfl rfl) ?_; refine .m rfl (met rfl rfl rfl (notT g53)) rfl rfl ?_; rcases tf (decide (v16 > 0)) with g54 | g54
       ·(iterate 2 refine .m rfl (met rfl rfl rfl g54) rfl rfl ?_); refine .v rfl (met rfl rfl rfl g54) (O.idx sl22 (c51 ⟨(by first | (simp only [g53, g54, BL]; done) | (repeat (first | rw [g53] | rw [g54])) <;> simp only [BL]), (by first | (simp only [g53, g54, BL]; done) | (repeat (first | rw [g53] | rw [g54])) <;> simp only [BL])⟩) rfl rfl rfl) ?_; refine .v rfl (met rfl rfl rfl g54) (O.fld fld75_0 rfl rfl rfl) ?_; refine .v rfl (met rfl rfl rfl g54) (O.ld (y := .i ((nth x0 v16).Day)) ty3 rfl rfl rfl) ?_; (iterate 2 refine .m rfl (met rfl rfl rfl g54) rfl rfl ?_); refine .v rfl (met rfl rfl rfl g54) (OpL.binI rfl rfl rfl rfl) ?_; refine .v rfl (met rfl rfl rfl g54) (O.idx sl22 (c52 ⟨(by first | (simp only [g53, g54, BL]; done) | (repeat (first | rw [g53] | rw [g54])) <;> simp only [BL]), (by first | (simp only [g53, g54, BL]; done) | (repeat (first | rw [g53] | rw [g54])) <;> simp only [BL])⟩) rfl rfl rfl) ?_; refine .v rfl (met rfl rfl rfl g54) (O.fld fld75_0 rfl rfl rfl) ?_; refine .v rfl (met rfl rfl rfl g54) (O.ld (y := .i ((nth x0 (IntKind.wrap .i64 (v16 - 1))).Day)) ty3 rfl rfl rfl) ?_; refine .v rfl (met rfl rfl rfl g54) (OpL.binI rfl rfl rfl rfl) ?_; refine .v rfl (met rfl rfl rfl (notT g53)) (O.pickT g54 rfl rfl rfl) ?_; refine .v rfl rfl (O.pickF (notT g53) rfl rfl rfl) ?_; refine .nil ?_; refine ⟨by kernel_rfl, by kernel_rfl, ?_⟩; exact toN (Gives.mkR [] (.r rfl rfl (.r rfl rfl (.c rfl (sbb (by first | (simp only [g53, g54, BL]; done) | (repeat (first | rw [g53] | rw [g54])) <;> simp only [BL])) rfl .n))) .n rfl rfl rfl)
       ·(iterate 12 refine .x rfl (unmet rfl rfl rfl g54) ?_); refine .v rfl (met rfl rfl rfl (notT g53)) (O.pickF g54 rfl rfl rfl) ?_; refine .v rfl rfl (O.pickF (notT g53) rfl rfl rfl) ?_; refine .nil ?_; refine ⟨by kernel_rfl, by kernel_rfl, ?_⟩; exact toN (Gives.mkR [] (.r rfl rfl (.r rfl rfl (.c rfl (sbb (by first | (simp only [g53, g54, BL]; done) | (repeat (first | rw [g53] | rw [g54])) <;> simp only [BL])) rfl .n))) .n rfl rfl rfl)
      ·(iterate 3 refine .x rfl (unmet rfl rfl rfl (notF g53)) ?_); (iterate 12 refine .x rfl (unmetU rfl rfl rfl) ?_); refine .x rfl (unmet rfl rfl rfl (notF g53)) ?_; refine .v rfl rfl (O.pickT (notF g53) rfl rfl rfl) ?_; refine .nil ?_; refine ⟨by kernel_rfl, by kernel_rfl, ?_⟩; exact toN (Gives.mkR [] (.r rfl rfl (.r rfl rfl (.c rfl (sbb (by simp only [g53, BL])) rfl .n))) .n rfl rfl rfl)
    ·have h := ifF q47 h; refine W.exit ?_; cases h; refine rdX fun e_ => ?_; subst e_; (repeat with_reducible refine thru ?_); refine hit ?_; exact fkN (Gives.mkR [] .n .n rfl rfl rfl)
   ·intro w43 e_; subst e_; clear h; have h := z46; dsimp only at h; refine W.seq ?_; refine W.pk ?_; refine .a rfl rfl rfl rfl ?_; refine .nil ?_; refine W.ret ?_; cases h; exact leaves (.inr rfl) rfl (.imm _) (cN .nil) rfl rfl
end Go.Proofs.Ytlgfdldonoaahaa
