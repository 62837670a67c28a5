/- Shows what functions of the program come to, each as a plain function: written by a program of the author's for this claim. -/
import Derived.Test.YtbmokbkgielmmaaGreatTy
namespace Go.Proofs.YtbmokbkgielmmaaGreat
open Go Go.Pm
set_option linter.unusedVariables false
set_option linter.unusedSimpArgs false
noncomputable def lombardref10_Small.f (x0 : lombardref10_Msg) : Option (Bool) :=
  some ((((((decide ((List.length x0.Name : Int) ≤ 1000)) && (decide ((List.length x0.Text : Int) ≤ 1000))) && (decide ((List.length x0.Prices : Int) ≤ 100))) && (decide ((List.length x0.In : Int) ≤ 100))) && (decide ((List.length x0.Basket.Cuts : Int) ≤ 100))) && (decide ((List.length x0.Basket.Barred : Int) ≤ 100)))
set_option maxRecDepth 100000 in
set_option maxHeartbeats 4000000 in
theorem lombardref10_Small.ok {x0 : lombardref10_Msg} {r : Bool} (h : lombardref10_Small.f x0 = some r) : Pm.Spec prog 6 [.agg [.imm (.val (.int .i64 x0.Kind)), .imm (.val (.int .i64 x0.Member)), .imm (.val (.string (tx x0.Name))), .imm (.val (.string (tx x0.Asset.ISIN))), .imm (.val (.int .i64 x0.Asset.Issuer)), .imm (.val (.int .i64 x0.Asset.Rating)), .imm (.val (.int .i64 x0.Asset.Maturity)), .imm (.val (.string (tx x0.Asset.Currency))), .imm (.val (.int .i64 x0.Basket.ID)), .imm (.val (.int .i64 x0.Basket.Version)), .imm (.val (.string (tx x0.Basket.Currency))), .imm (.val (.int .i64 x0.Basket.Rating)), .imm (.val (.int .i64 x0.Basket.Least)), .imm (.val (.int .i64 x0.Basket.Most)), .imm (.row 3 (List.map api_Cut.enc x0.Basket.Cuts)), .imm (.val (.int .i64 x0.Basket.Issuer)), .imm (.val (.int .i64 x0.Basket.Asset)), .imm (.row 1 (List.map (encI .i64) x0.Basket.Barred)), .imm (.row 2 (List.map api_Price.enc x0.Prices)), .imm (.val (.int .i64 x0.Day)), .imm (.val (.string (tx x0.Text))), .imm (.val (.int .i64 x0.N)), .imm (.val (.int .i64 x0.Quote.ID)), .imm (.val (.int .i64 x0.Quote.Member)), .imm (.val (.int .i64 x0.Quote.Side)), .imm (.val (.int .i64 x0.Quote.Basket)), .imm (.val (.int .i64 x0.Quote.Amount)), .imm (.val (.int .i64 x0.Quote.Rate)), .imm (.val (.int .i64 x0.Quote.Start)), .imm (.val (.int .i64 x0.Quote.End)), .imm (.val (.string (tx x0.Out.ISIN))), .imm (.val (.int .i64 x0.Out.Qty)), .imm (.row 2 (List.map api_Lot.enc x0.In)), .imm (.val (.int .i64 x0.Trade)), .imm (.val (.bool x0.Done)), .imm (.val (.int .i64 x0.Rate))]] (.imm (.val (.bool r))) [none] := by
 unfold lombardref10_Small.f at h; refine Pm.Spec.of_body Tryz.func6 rfl (by kernel_rfl) (Nat.le_of_ble_eq_true rfl) (Nat.le_of_ble_eq_true rfl) ?_; refine W.ghost (σ' := (mkSt [(0, some (.agg (lombardref10_Msg.av x0)))] [] 1000)) (Gives.entry (.c rfl .n) .n) ?_; refine W.seq ?_; refine W.pk ?_; refine .t rfl rfl (O.box rfl rfl rfl rfl rfl) ?_; refine .a rfl rfl rfl rfl ?_; refine .nil ?_; refine W.seq ?_; refine W.fork (mkSt [(2, some (.b ((((((decide ((List.length x0.Name : Int) ≤ 1000)) && (decide ((List.length x0.Text : Int) ≤ 1000))) && (decide ((List.length x0.Prices : Int) ≤ 100))) && (decide ((List.length x0.In : Int) ≤ 100))) && (decide ((List.length x0.Basket.Cuts : Int) ≤ 100))) && (decide ((List.length x0.Basket.Barred : Int) ≤ 100)))))] [] 1001) ?_ ?_
 ·refine W.ret ?_; cases h; exact leaves (.inr rfl) rfl (.imm _) (cN .nil) rfl rfl
 ·clear h; refine W.pk ?_; refine .v rfl rfl (O.fld fld35_2 rfl rfl rfl) ?_; refine .v rfl rfl (O.ld (y := .s x0.Name) ty9 rfl rfl rfl) ?_; refine .v rfl rfl (O.lenS u9 rfl rfl) ?_; refine .v rfl rfl (OpL.binI rfl rfl rfl rfl) ?_; refine .m rfl rfl rfl rfl ?_; rcases tf (decide ((List.length x0.Name : Int) ≤ 1000)) with g1 | g1
  ·refine .v rfl (met rfl rfl rfl g1) (O.fld fld35_7 rfl rfl rfl) ?_; refine .v rfl (met rfl rfl rfl g1) (O.ld (y := .s x0.Text) ty9 rfl rfl rfl) ?_; refine .v rfl (met rfl rfl rfl g1) (O.lenS u9 rfl rfl) ?_; refine .v rfl (met rfl rfl rfl g1) (OpL.binI rfl rfl rfl rfl) ?_; refine .v rfl rfl (O.pickT g1 rfl rfl rfl) ?_; refine .m rfl rfl rfl rfl ?_; rcases tf (decide ((List.length x0.Text : Int) ≤ 1000)) with g2 | g2
   ·refine .v rfl (met rfl rfl rfl g2) (O.fld fld35_5 rfl rfl rfl) ?_; refine .v rfl (met rfl rfl rfl g2) (O.ld (y := .imm (.row 2 (List.map api_Price.enc x0.Prices))) ty28 rfl rfl rfl) ?_; refine .v rfl (met rfl rfl rfl g2) (O.lenR sl28 rfl rfl) ?_; refine .v rfl (met rfl rfl rfl g2) (OpL.binI rfl rfl rfl rfl) ?_; refine .v rfl rfl (O.pickT g2 rfl rfl rfl) ?_; refine .m rfl rfl rfl rfl ?_; rcases tf (decide ((List.length x0.Prices : Int) ≤ 100)) with g3 | g3
    ·refine .v rfl (met rfl rfl rfl g3) (O.fld fld35_11 rfl rfl rfl) ?_; refine .v rfl (met rfl rfl rfl g3) (O.ld (y := .imm (.row 2 (List.map api_Lot.enc x0.In))) ty33 rfl rfl rfl) ?_; refine .v rfl (met rfl rfl rfl g3) (O.lenR sl33 rfl rfl) ?_; refine .v rfl (met rfl rfl rfl g3) (OpL.binI rfl rfl rfl rfl) ?_; refine .v rfl rfl (O.pickT g3 rfl rfl rfl) ?_; refine .m rfl rfl rfl rfl ?_; rcases tf (decide ((List.length x0.In : Int) ≤ 100)) with g4 | g4
     ·refine .v rfl (met rfl rfl rfl g4) (O.fld fld35_4 rfl rfl rfl) ?_; refine .v rfl (met rfl rfl rfl g4) (O.fld fld27_6 rfl rfl rfl) ?_; refine .v rfl (met rfl rfl rfl g4) (O.ld (y := .imm (.row 3 (List.map api_Cut.enc x0.Basket.Cuts))) ty24 rfl rfl rfl) ?_; refine .v rfl (met rfl rfl rfl g4) (O.lenR sl24 rfl rfl) ?_; refine .v rfl (met rfl rfl rfl g4) (OpL.binI rfl rfl rfl rfl) ?_; refine .v rfl rfl (O.pickT g4 rfl rfl rfl) ?_; refine .m rfl rfl rfl rfl ?_; rcases tf (decide ((List.length x0.Basket.Cuts : Int) ≤ 100)) with g5 | g5
      ·refine .v rfl (met rfl rfl rfl g5) (O.fld fld35_4 rfl rfl rfl) ?_; refine .v rfl (met rfl rfl rfl g5) (O.fld fld27_9 rfl rfl rfl) ?_; refine .v rfl (met rfl rfl rfl g5) (O.ld (y := .imm (.row 1 (List.map (encI .i64) x0.Basket.Barred))) ty25 rfl rfl rfl) ?_; refine .v rfl (met rfl rfl rfl g5) (O.lenR sl25 rfl rfl) ?_; refine .v rfl (met rfl rfl rfl g5) (OpL.binI rfl rfl rfl rfl) ?_; refine .v rfl rfl (O.pickT g5 rfl rfl rfl) ?_; refine .a rfl rfl rfl rfl ?_; refine .nil ?_; exact toN (Gives.mkR [] (.c rfl (sbb (by first | (simp only [g1, g2, g3, g4, g5, BL]; done) | (repeat (first | rw [g1] | rw [g2] | rw [g3] | rw [g4] | rw [g5])) <;> simp only [BL])) rfl .n) .n rfl rfl rfl)
      ·(iterate 5 refine .x rfl (unmet rfl rfl rfl g5) ?_); refine .v rfl rfl (O.pickF g5 rfl rfl rfl) ?_; refine .a rfl rfl rfl rfl ?_; refine .nil ?_; exact toN (Gives.mkR [] (.c rfl (sbb (by first | (simp only [g1, g2, g3, g4, g5, BL]; done) | (repeat (first | rw [g1] | rw [g2] | rw [g3] | rw [g4] | rw [g5])) <;> simp only [BL])) rfl .n) .n rfl rfl rfl)
     ·(iterate 5 refine .x rfl (unmet rfl rfl rfl g4) ?_); refine .v rfl rfl (O.pickF g4 rfl rfl rfl) ?_; refine .m rfl rfl rfl rfl ?_; (iterate 5 refine .x rfl (unmet rfl rfl rfl rfl) ?_); refine .v rfl rfl (O.pickF rfl rfl rfl rfl) ?_; refine .a rfl rfl rfl rfl ?_; refine .nil ?_; exact toN (Gives.mkR [] (.c rfl (sbb (by first | (simp only [g1, g2, g3, g4, BL]; done) | (repeat (first | rw [g1] | rw [g2] | rw [g3] | rw [g4])) <;> simp only [BL])) rfl .n) .n rfl rfl rfl)
    ·(iterate 4 refine .x rfl (unmet rfl rfl rfl g3) ?_); refine .v rfl rfl (O.pickF g3 rfl rfl rfl) ?_; refine .m rfl rfl rfl rfl ?_; (iterate 5 refine .x rfl (unmet rfl rfl rfl rfl) ?_); refine .v rfl rfl (O.pickF rfl rfl rfl rfl) ?_; refine .m rfl rfl rfl rfl ?_; (iterate 5 refine .x rfl (unmet rfl rfl rfl rfl) ?_); refine .v rfl rfl (O.pickF rfl rfl rfl rfl) ?_; refine .a rfl rfl rfl rfl ?_; refine .nil ?_; exact toN (Gives.mkR [] (.c rfl (sbb (by first | (simp only [g1, g2, g3, BL]; done) | (repeat (first | rw [g1] | rw [g2] | rw [g3])) <;> simp only [BL])) rfl .n) .n rfl rfl rfl)
   ·(iterate 4 refine .x rfl (unmet rfl rfl rfl g2) ?_); refine .v rfl rfl (O.pickF g2 rfl rfl rfl) ?_; refine .m rfl rfl rfl rfl ?_; (iterate 4 refine .x rfl (unmet rfl rfl rfl rfl) ?_); refine .v rfl rfl (O.pickF rfl rfl rfl rfl) ?_; refine .m rfl rfl rfl rfl ?_; (iterate 5 refine .x rfl (unmet rfl rfl rfl rfl) ?_); refine .v rfl rfl (O.pickF rfl rfl rfl rfl) ?_; refine .m rfl rfl rfl rfl ?_; (iterate 5 refine .x rfl (unmet rfl rfl rfl rfl) ?_); refine .v rfl rfl (O.pickF rfl rfl rfl rfl) ?_; refine .a rfl rfl rfl rfl ?_; refine .nil ?_; exact toN (Gives.mkR [] (.c rfl (sbb (by first | (simp only [g1, g2, BL]; done) | (repeat (first | rw [g1] | rw [g2])) <;> simp only [BL])) rfl .n) .n rfl rfl rfl)
  ·(iterate 4 refine .x rfl (unmet rfl rfl rfl g1) ?_); refine .v rfl rfl (O.pickF g1 rfl rfl rfl) ?_; refine .m rfl rfl rfl rfl ?_; (iterate 4 refine .x rfl (unmet rfl rfl rfl rfl) ?_); refine .v rfl rfl (O.pickF rfl rfl rfl rfl) ?_; refine .m rfl rfl rfl rfl ?_; (iterate 4 refine .x rfl (unmet rfl rfl rfl rfl) ?_); refine .v rfl rfl (O.pickF rfl rfl rfl rfl) ?_; refine .m rfl rfl rfl rfl ?_; (iterate 5 refine .x rfl (unmet rfl rfl rfl rfl) ?_); refine .v rfl rfl (O.pickF rfl rfl rfl rfl) ?_; refine .m rfl rfl rfl rfl ?_; (iterate 5 refine .x rfl (unmet rfl rfl rfl rfl) ?_); refine .v rfl rfl (O.pickF rfl rfl rfl rfl) ?_; refine .a rfl rfl rfl rfl ?_; refine .nil ?_; exact toN (Gives.mkR [] (.c rfl (sbb (by simp only [g1, BL])) rfl .n) .n rfl rfl rfl)

noncomputable def name_letter.f (x0 : Int) : Option (Bool) :=
  ((
    if ((decide (x0 ≥ 97)) && (decide (x0 ≤ 122))) = true then
      some ((decide (x0 ≥ 97)) && (decide (x0 ≤ 122)))
    else
      some ((decide (x0 ≥ 65)) && (decide (x0 ≤ 90))) : Option (Bool))).bind fun o5 =>
  if o5 = true then
    some true
  else
    if ((x0 == 215) || (x0 == 247)) = true then
      some false
    else
      some ((decide (x0 ≥ 192)) && (decide (x0 ≤ 383)))
set_option maxRecDepth 100000 in
set_option maxHeartbeats 4000000 in
theorem name_letter.ok {x0 : Int} {r : Bool} (h : name_letter.f x0 = some r) : Pm.Spec prog 89 [.imm (.val (.int .i32 x0))] (.imm (.val (.bool r))) [none] := by
 unfold name_letter.f at h; refine Pm.Spec.of_body Tryz.func89 rfl (by kernel_rfl) (Nat.le_of_ble_eq_true rfl) (Nat.le_of_ble_eq_true rfl) ?_; refine W.ghost (σ' := (mkSt [(0, some (.imm (.val (.int .i32 x0))))] [] 1000)) (Gives.entry (.c rfl .n) .n) ?_; refine W.seq ?_; refine W.pk ?_; refine .a rfl rfl rfl rfl ?_; refine .nil ?_; refine W.seq ?_; refine W.block ?_; (iterate 2 refine W.seq ?_); refine W.fork (mkSt [(0, some (.imm (.val (.int .i32 x0)))), (3, some (.b ((decide (x0 ≥ 97)) && (decide (x0 ≤ 122)))))] [] 1000) ?_ ?_
 ·obtain ⟨o5, b6, h⟩ := bnd1 h; refine W.fork (mkSt [(0, some (.imm (.val (.int .i32 x0)))), (3, some (.b o5))] [] 1000) ?_ ?_
  ·refine W.cond rfl (fun q9 => ?_) (fun q9 => ?_)
   ·have h := ifT q9 h; refine W.seq ?_; refine W.pk ?_; refine .a rfl rfl rfl rfl ?_; refine .nil ?_; refine W.ret ?_; cases h; exact leaves (.inr rfl) rfl (.imm _) (cN .nil) rfl rfl
   ·have h := ifF q9 h; refine W.seq ?_; refine W.fork (mkSt [(0, some (.imm (.val (.int .i32 x0)))), (16, some (.b ((x0 == 215) || (x0 == 247))))] [] 1000) ?_ ?_
    ·refine W.cond rfl (fun q11 => ?_) (fun q11 => ?_)
     ·have h := ifT q11 h; refine W.seq ?_; refine W.pk ?_; refine .a rfl rfl rfl rfl ?_; refine .nil ?_; refine W.ret ?_; cases h; exact leaves (.inr rfl) rfl (.imm _) (cN .nil) rfl rfl
     ·have h := ifF q11 h; refine W.skip ?_; refine W.seq ?_; refine W.fork (mkSt [(2, some (.b ((decide (x0 ≥ 192)) && (decide (x0 ≤ 383)))))] [] 1000) ?_ ?_
      ·refine W.ret ?_; cases h; exact leaves (.inr rfl) rfl (.imm _) (cN .nil) rfl rfl
      ·clear h; refine W.pk ?_; refine .m rfl rfl rfl rfl ?_; refine .v rfl rfl (OpL.binI rfl rfl rfl rfl) ?_; refine .m rfl rfl rfl rfl ?_; rcases tf (decide (x0 ≥ 192)) with g12 | g12
       ·refine .m rfl (met rfl rfl rfl g12) rfl rfl ?_; refine .v rfl (met rfl rfl rfl g12) (OpL.binI rfl rfl rfl rfl) ?_; refine .v rfl rfl (O.pickT g12 rfl rfl rfl) ?_; refine .a rfl rfl rfl rfl ?_; refine .nil ?_; exact toN (Gives.mkR [] (.c rfl (sbb (by simp only [g12, BL])) rfl .n) .n rfl rfl rfl)
       ·(iterate 2 refine .x rfl (unmet rfl rfl rfl g12) ?_); refine .v rfl rfl (O.pickF g12 rfl rfl rfl) ?_; refine .a rfl rfl rfl rfl ?_; refine .nil ?_; exact toN (Gives.mkR [] (.c rfl (sbb (by simp only [g12, BL])) rfl .n) .n rfl rfl rfl)
    ·clear h; refine W.pk ?_; refine .m rfl rfl rfl rfl ?_; refine .v rfl rfl (OpL.binI rfl rfl rfl rfl) ?_; refine .m rfl rfl rfl rfl ?_; rcases tf (x0 == 215) with g10 | g10
     ·(iterate 2 refine .x rfl (unmet rfl rfl rfl g10) ?_); refine .v rfl rfl (O.pickT g10 rfl rfl rfl) ?_; refine .a rfl rfl rfl rfl ?_; refine .nil ?_; exact toN (Gives.mkR [] (.r rfl rfl (.c rfl (sbb (by simp only [g10, BL])) rfl .n)) .n rfl rfl rfl)
     ·refine .m rfl (met rfl rfl rfl g10) rfl rfl ?_; refine .v rfl (met rfl rfl rfl g10) (OpL.binI rfl rfl rfl rfl) ?_; refine .v rfl rfl (O.pickF g10 rfl rfl rfl) ?_; refine .a rfl rfl rfl rfl ?_; refine .nil ?_; exact toN (Gives.mkR [] (.r rfl rfl (.c rfl (sbb (by simp only [g10, BL])) rfl .n)) .n rfl rfl rfl)
  ·clear h; have h := b6; refine W.cond rfl (fun q7 => ?_) (fun q7 => ?_)
   ·have h := ifT q7 h; refine W.skip ?_; cases h; exact toN (Gives.mkR [] (.e rfl rfl) .n rfl rfl rfl)
   ·have h := ifF q7 h; refine W.fork (mkSt [(0, some (.imm (.val (.int .i32 x0)))), (3, some (.b ((decide (x0 ≥ 65)) && (decide (x0 ≤ 90)))))] [] 1000) ?_ ?_
    ·cases h; exact toN (Gives.mkR [] (.e rfl rfl) .n rfl rfl rfl)
    ·clear h; refine W.pk ?_; refine .m rfl rfl rfl rfl ?_; refine .v rfl rfl (OpL.binI rfl rfl rfl rfl) ?_; refine .m rfl rfl rfl rfl ?_; rcases tf (decide (x0 ≥ 65)) with g8 | g8
     ·refine .m rfl (met rfl rfl rfl g8) rfl rfl ?_; refine .v rfl (met rfl rfl rfl g8) (OpL.binI rfl rfl rfl rfl) ?_; refine .v rfl rfl (O.pickT g8 rfl rfl rfl) ?_; refine .a rfl rfl rfl rfl ?_; refine .nil ?_; exact toN (Gives.mkR [] (.r rfl rfl (.c rfl (sbb (by simp only [g8, BL])) rfl .n)) .n rfl rfl rfl)
     ·(iterate 2 refine .x rfl (unmet rfl rfl rfl g8) ?_); refine .v rfl rfl (O.pickF g8 rfl rfl rfl) ?_; refine .a rfl rfl rfl rfl ?_; refine .nil ?_; exact toN (Gives.mkR [] (.r rfl rfl (.c rfl (sbb (by simp only [g8, BL])) rfl .n)) .n rfl rfl rfl)
 ·clear h; refine W.pk ?_; refine .m rfl rfl rfl rfl ?_; refine .v rfl rfl (OpL.binI rfl rfl rfl rfl) ?_; refine .m rfl rfl rfl rfl ?_; rcases tf (decide (x0 ≥ 97)) with g1 | g1
  ·refine .m rfl (met rfl rfl rfl g1) rfl rfl ?_; refine .v rfl (met rfl rfl rfl g1) (OpL.binI rfl rfl rfl rfl) ?_; refine .v rfl rfl (O.pickT g1 rfl rfl rfl) ?_; refine .a rfl rfl rfl rfl ?_; refine .nil ?_; exact toN (Gives.mkR [] (.r rfl rfl (.c rfl (sbb (by simp only [g1, BL])) rfl .n)) .n rfl rfl rfl)
  ·(iterate 2 refine .x rfl (unmet rfl rfl rfl g1) ?_); refine .v rfl rfl (O.pickF g1 rfl rfl rfl) ?_; refine .a rfl rfl rfl rfl ?_; refine .nil ?_; exact toN (Gives.mkR [] (.r rfl rfl (.c rfl (sbb (by simp only [g1, BL])) rfl .n)) .n rfl rfl rfl)

noncomputable def name_digit.f (x0 : Int) : Option (Bool) :=
  some ((decide (x0 ≥ 48)) && (decide (x0 ≤ 57)))
set_option maxRecDepth 100000 in
set_option maxHeartbeats 4000000 in
theorem name_digit.ok {x0 : Int} {r : Bool} (h : name_digit.f x0 = some r) : Pm.Spec prog 90 [.imm (.val (.int .i32 x0))] (.imm (.val (.bool r))) [none] := by
 unfold name_digit.f at h; refine Pm.Spec.of_body Tryz.func90 rfl (by kernel_rfl) (Nat.le_of_ble_eq_true rfl) (Nat.le_of_ble_eq_true rfl) ?_; refine W.ghost (σ' := (mkSt [(0, some (.imm (.val (.int .i32 x0))))] [] 1000)) (Gives.entry (.c rfl .n) .n) ?_; refine W.seq ?_; refine W.pk ?_; refine .a rfl rfl rfl rfl ?_; refine .nil ?_; refine W.seq ?_; refine W.fork (mkSt [(2, some (.b ((decide (x0 ≥ 48)) && (decide (x0 ≤ 57)))))] [] 1000) ?_ ?_
 ·refine W.ret ?_; cases h; exact leaves (.inr rfl) rfl (.imm _) (cN .nil) rfl rfl
 ·clear h; refine W.pk ?_; refine .m rfl rfl rfl rfl ?_; refine .v rfl rfl (OpL.binI rfl rfl rfl rfl) ?_; refine .m rfl rfl rfl rfl ?_; rcases tf (decide (x0 ≥ 48)) with g1 | g1
  ·refine .m rfl (met rfl rfl rfl g1) rfl rfl ?_; refine .v rfl (met rfl rfl rfl g1) (OpL.binI rfl rfl rfl rfl) ?_; refine .v rfl rfl (O.pickT g1 rfl rfl rfl) ?_; refine .a rfl rfl rfl rfl ?_; refine .nil ?_; exact toN (Gives.mkR [] (.c rfl (sbb (by simp only [g1, BL])) rfl .n) .n rfl rfl rfl)
  ·(iterate 2 refine .x rfl (unmet rfl rfl rfl g1) ?_); refine .v rfl rfl (O.pickF g1 rfl rfl rfl) ?_; refine .a rfl rfl rfl rfl ?_; refine .nil ?_; exact toN (Gives.mkR [] (.c rfl (sbb (by simp only [g1, BL])) rfl .n) .n rfl rfl rfl)

noncomputable def name_joint.f (x0 : Int) : Option (Bool) :=
  if (x0 == 32) = true then
    if (x0 == 32) = true then
      some true
    else
      some false
  else
    if (x0 == 45) = true then
      if (x0 == 45) = true then
        some true
      else
        some false
    else
      if (x0 == 46) = true then
        if (x0 == 46) = true then
          some true
        else
          some false
      else
        if (x0 == 38) = true then
          if (x0 == 38) = true then
            some true
          else
            some false
        else
          if (x0 == 39) = true then
            some true
          else
            some false
set_option maxRecDepth 100000 in
set_option maxHeartbeats 4000000 in
theorem name_joint.ok {x0 : Int} {r : Bool} (h : name_joint.f x0 = some r) : Pm.Spec prog 91 [.imm (.val (.int .i32 x0))] (.imm (.val (.bool r))) [none] := by
 unfold name_joint.f at h; refine Pm.Spec.of_body Tryz.func91 rfl (by kernel_rfl) (Nat.le_of_ble_eq_true rfl) (Nat.le_of_ble_eq_true rfl) ?_; refine W.ghost (σ' := (mkSt [(0, some (.imm (.val (.int .i32 x0))))] [] 1000)) (Gives.entry (.c rfl .n) .n) ?_; refine W.seq ?_; refine W.pk ?_; refine .a rfl rfl rfl rfl ?_; refine .nil ?_; (iterate 2 refine W.seq ?_); refine W.pk ?_; refine .m rfl rfl rfl rfl ?_; refine .nil ?_; refine W.block ?_; (iterate 2 refine W.seq ?_); refine W.pk ?_; refine .v rfl rfl (OpL.binI rfl rfl rfl rfl) ?_; refine .a rfl rfl rfl rfl ?_; refine .nil ?_; refine W.cond rfl (fun q1 => ?_) (fun q1 => ?_)
 ·have h := ifT q1 h; refine W.skip ?_; refine W.cond rfl (fun q2 => ?_) (fun q2 => ?_)
  ·have h := ifT q2 h; refine W.seq ?_; refine W.pk ?_; refine .a rfl rfl rfl rfl ?_; refine .nil ?_; refine W.ret ?_; cases h; exact leaves (.inr rfl) rfl (.imm _) (cN .nil) rfl rfl
  ·have h := ifF q2 h; refine W.skip ?_; refine W.seq ?_; refine W.pk ?_; refine .a rfl rfl rfl rfl ?_; refine .nil ?_; refine W.ret ?_; cases h; exact leaves (.inr rfl) rfl (.imm _) (cN .nil) rfl rfl
 ·have h := ifF q1 h; refine W.seq ?_; refine W.pk ?_; refine .v rfl rfl (OpL.binI rfl rfl rfl rfl) ?_; refine .a rfl rfl rfl rfl ?_; refine .nil ?_; refine W.cond rfl (fun q3 => ?_) (fun q3 => ?_)
  ·have h := ifT q3 h; refine W.skip ?_; refine W.cond rfl (fun q4 => ?_) (fun q4 => ?_)
   ·have h := ifT q4 h; refine W.seq ?_; refine W.pk ?_; refine .a rfl rfl rfl rfl ?_; refine .nil ?_; refine W.ret ?_; cases h; exact leaves (.inr rfl) rfl (.imm _) (cN .nil) rfl rfl
   ·have h := ifF q4 h; refine W.skip ?_; refine W.seq ?_; refine W.pk ?_; refine .a rfl rfl rfl rfl ?_; refine .nil ?_; refine W.ret ?_; cases h; exact leaves (.inr rfl) rfl (.imm _) (cN .nil) rfl rfl
  ·have h := ifF q3 h; refine W.seq ?_; refine W.pk ?_; refine .v rfl rfl (OpL.binI rfl rfl rfl rfl) ?_; refine .a rfl rfl rfl rfl ?_; refine .nil ?_; refine W.cond rfl (fun q5 => ?_) (fun q5 => ?_)
   ·have h := ifT q5 h; refine W.skip ?_; refine W.cond rfl (fun q6 => ?_) (fun q6 => ?_)
    ·have h := ifT q6 h; refine W.seq ?_; refine W.pk ?_; refine .a rfl rfl rfl rfl ?_; refine .nil ?_; refine W.ret ?_; cases h; exact leaves (.inr rfl) rfl (.imm _) (cN .nil) rfl rfl
    ·have h := ifF q6 h; refine W.skip ?_; refine W.seq ?_; refine W.pk ?_; refine .a rfl rfl rfl rfl ?_; refine .nil ?_; refine W.ret ?_; cases h; exact leaves (.inr rfl) rfl (.imm _) (cN .nil) rfl rfl
   ·have h := ifF q5 h; refine W.seq ?_; refine W.pk ?_; refine .v rfl rfl (OpL.binI rfl rfl rfl rfl) ?_; refine .a rfl rfl rfl rfl ?_; refine .nil ?_; refine W.cond rfl (fun q7 => ?_) (fun q7 => ?_)
    ·have h := ifT q7 h; refine W.skip ?_; refine W.cond rfl (fun q8 => ?_) (fun q8 => ?_)
     ·have h := ifT q8 h; refine W.seq ?_; refine W.pk ?_; refine .a rfl rfl rfl rfl ?_; refine .nil ?_; refine W.ret ?_; cases h; exact leaves (.inr rfl) rfl (.imm _) (cN .nil) rfl rfl
     ·have h := ifF q8 h; refine W.skip ?_; refine W.seq ?_; refine W.pk ?_; refine .a rfl rfl rfl rfl ?_; refine .nil ?_; refine W.ret ?_; cases h; exact leaves (.inr rfl) rfl (.imm _) (cN .nil) rfl rfl
    ·have h := ifF q7 h; refine W.pk ?_; refine .v rfl rfl (OpL.binI rfl rfl rfl rfl) ?_; refine .a rfl rfl rfl rfl ?_; refine .nil ?_; refine W.cond rfl (fun q9 => ?_) (fun q9 => ?_)
     ·have h := ifT q9 h; refine W.seq ?_; refine W.pk ?_; refine .a rfl rfl rfl rfl ?_; refine .nil ?_; refine W.ret ?_; cases h; exact leaves (.inr rfl) rfl (.imm _) (cN .nil) rfl rfl
     ·have h := ifF q9 h; refine W.skip ?_; refine W.seq ?_; refine W.pk ?_; refine .a rfl rfl rfl rfl ?_; refine .nil ?_; refine W.ret ?_; cases h; exact leaves (.inr rfl) rfl (.imm _) (cN .nil) rfl rfl

noncomputable def name_Check.b0 (x0 : Bs) (v34 : Int) (v35 : Int) (v36 : Nat) : Option ((Int × Int × Nat) ⊕ ((Int × Int) ⊕ (Int × Int))) :=
  if (nextOk x0 v36) = true then
    if nextOk x0 v36 = true then
    if nextOk x0 v36 = true then
    if (v34 == 40) = true then
      some (.inr (.inl (((v36 : Nat) : Int), 2)))
    else
      (name_letter.f (nextC x0 v36)).bind fun t109 =>
      (if (!t109) = true then name_digit.f (nextC x0 v36) else some default).bind fun t111 =>
      (if ((!t109) && (!t111)) = true then name_joint.f (nextC x0 v36) else some default).bind fun t113 =>
      if (((!t109) && (!t111)) && (!t113)) = true then
        some (.inr (.inl (((v36 : Nat) : Int), 11)))
      else
        (if (v34 == 0) = true then name_letter.f (nextC x0 v36) else some default).bind fun t118 =>
        ((
          if ((v34 == 0) && (!t118)) = true then
            some ((v34 == 0) && (!t118))
          else
            (if ((nextC x0 v36) == 32) = true then name_joint.f v35 else some default).bind fun t131 =>
            some (((((nextC x0 v36) == 32) && t131) && (v35 != 46)) && (v35 != 38)) : Option (Bool))).bind fun o128 =>
        if o128 = true then
          some (.inr (.inl (((v36 : Nat) : Int), 11)))
        else
          some (.inl ((IntKind.wrap .i64 (v34 + 1)), (nextC x0 v36), (nextP x0 v36)))
    else none
    else none
  else
    some (.inr (.inr (v34, v35)))
noncomputable def name_Check.r0 (x0 : Bs) (s : Int × Int × Nat) : Option ((Int × Int × Nat) ⊕ ((Int × Int) ⊕ (Int × Int))) := name_Check.b0 x0 s.1 s.2.1 s.2.2
noncomputable def name_Check.f (x0 : Bs) : Option (Int × Int) :=
  if (decide ((List.length x0 : Int) > 160)) = true then
    some (0, 2)
  else
    (loop (name_Check.r0 x0) (0, 32, 0)).bind fun o102 =>
    match o102 with
    | .inl r137 => some r137
    | .inr w101 =>
      if ((w101.1 == 0) || (w101.2 == 32)) = true then
        some ((List.length x0 : Int), 11)
      else
        some ((List.length x0 : Int), 0)
set_option maxRecDepth 100000 in
set_option maxHeartbeats 4000000 in
theorem name_Check.ok {x0 : Bs} {r : Int × Int} (h : name_Check.f x0 = some r) : Pm.Spec prog 40 [.imm (.val (.string (tx x0)))] (.tup [.imm (.val (.int .i64 r.1)), .imm (.val (.int .i64 r.2))]) [none] := by
 unfold name_Check.f at h; refine Pm.Spec.of_body Tryz.func40 rfl (by kernel_rfl) (Nat.le_of_ble_eq_true rfl) (Nat.le_of_ble_eq_true rfl) ?_; refine W.ghost (σ' := (mkSt [(0, some (.s x0))] [] 1000)) (Gives.entry (.c rfl .n) .n) ?_; refine W.seq ?_; refine W.pk ?_; (iterate 2 refine .a rfl rfl rfl rfl ?_); refine .nil ?_; (iterate 2 refine W.seq ?_); refine W.pk ?_; refine .m rfl rfl rfl rfl ?_; refine .v rfl rfl (O.lenS u9 rfl rfl) ?_; refine .v rfl rfl (OpL.binI rfl rfl rfl rfl) ?_; refine .nil ?_; refine W.cond rfl (fun q1 => ?_) (fun q1 => ?_)
 ·have h := ifT q1 h; refine W.seq ?_; refine W.pk ?_; (iterate 2 refine .a rfl rfl rfl rfl ?_); refine .nil ?_; refine W.ret ?_; cases h; exact leaves (.inr rfl) rfl (.tup _ _ _ _ (cC (.imm _) (cC (.imm _) .nil))) (cN .nil) rfl rfl
 ·have h := ifF q1 h; refine W.skip ?_; refine W.seq ?_; refine W.pk ?_; refine .a rfl rfl rfl rfl ?_; refine .nil ?_; refine W.seq ?_; refine W.pk ?_; refine .a rfl rfl rfl rfl ?_; refine .nil ?_; (iterate 2 refine W.seq ?_); refine W.pk ?_; refine .m rfl rfl rfl rfl ?_; refine .t rfl rfl (O.range u9 rfl rfl) ?_; refine .nil ?_; obtain ⟨o102, b103, z104⟩ := bnd1 h; refine W.fork2 (out := o102) (fun (w101 : Int × Int) => mkSt [(0, some (.s x0)), (4, some (.i w101.1)), (5, some (.imm (.val (.int .i32 w101.2))))] [] 1001) ?_ ?_
  ·clear h; refine W.block ?_; refine W.loopF (fun (s_ : Int × Int × Nat) => mkSt [(0, some (.s x0)), (4, some (.i s_.1)), (5, some (.imm (.val (.int .i32 s_.2.1)))), (12, some (.ptr 1000 0))] [(1000, some (.iter (tx x0) s_.2.2))] 1001) b103 (Gives.mkR [] (.e rfl rfl) (.r rfl rfl rfl .n) rfl rfl rfl) ?_; rintro ⟨v34, v35, v36⟩ s_ hr; have h : name_Check.b0 x0 v34 v35 v36 = some s_ := hr; unfold name_Check.b0 at h; refine W.seq ?_; refine W.pk ?_; refine .k rfl rfl (O.next rfl rfl rfl) ?_; refine .v rfl rfl (O.nx0 rfl rfl) ?_; refine .nil ?_; refine W.seq ?_; refine W.cond rfl (fun q105 => ?_) (fun q105 => ?_)
   ·have h := ifT q105 h; refine W.skip ?_; refine W.block ?_; refine W.seq ?_; obtain ⟨c106, h⟩ := chk h; obtain ⟨c107, h⟩ := chk h; refine W.pk ?_; refine .v rfl rfl (O.nx1 c106 rfl rfl) ?_; refine .v rfl rfl (O.nx2 c107 rfl rfl) ?_; (iterate 2 refine .a rfl rfl rfl rfl ?_); refine .nil ?_; refine W.seq ?_; refine W.block ?_; refine W.seq ?_; refine W.pk ?_; refine .m rfl rfl rfl rfl ?_; refine .v rfl rfl (OpL.binI rfl rfl rfl rfl) ?_; refine .a rfl rfl rfl rfl ?_; refine .nil ?_; refine W.cond rfl (fun q108 => ?_) (fun q108 => ?_)
    ·have h := ifT q108 h; refine W.seq ?_; refine W.pk ?_; refine .m rfl rfl rfl rfl ?_; (iterate 2 refine .a rfl rfl rfl rfl ?_); refine .nil ?_; refine W.ret ?_; cases h; refine rdR fun e_ => ?_; subst e_; have h := z104; dsimp only at h; refine fkR ?_; cases h; exact leaves (.inr rfl) rfl (.tup _ _ _ _ (cC (.imm _) (cC (.imm _) .nil))) (cN .nil) rfl rfl
    ·have h := ifF q108 h; refine W.seq ?_; obtain ⟨t109, b110, h⟩ := bnd1 h; obtain ⟨t111, b112, h⟩ := bnd1 h; obtain ⟨t113, b114, h⟩ := bnd1 h; refine W.fork (mkSt [(0, some (.s x0)), (4, some (.i v34)), (5, some (.imm (.val (.int .i32 v35)))), (6, some (.i ((v36 : Nat) : Int))), (7, some (.imm (.val (.int .i32 (nextC x0 v36))))), (12, some (.ptr 1000 0)), (21, some (.b (((!t109) && (!t111)) && (!t113))))] [(1000, some (.iter (tx x0) (nextP x0 v36)))] 1001) ?_ ?_
     ·refine W.cond rfl (fun q117 => ?_) (fun q117 => ?_)
      ·have h := ifT q117 h; refine W.seq ?_; refine W.pk ?_; refine .m rfl rfl rfl rfl ?_; (iterate 2 refine .a rfl rfl rfl rfl ?_); refine .nil ?_; refine W.ret ?_; cases h; refine rdR fun e_ => ?_; subst e_; have h := z104; dsimp only at h; refine fkR ?_; cases h; exact leaves (.inr rfl) rfl (.tup _ _ _ _ (cC (.imm _) (cC (.imm _) .nil))) (cN .nil) rfl rfl
      ·have h := ifF q117 h; (iterate 2 refine W.seq ?_); obtain ⟨t118, b119, h⟩ := bnd1 h; refine W.fork (mkSt [(0, some (.s x0)), (4, some (.i v34)), (5, some (.imm (.val (.int .i32 v35)))), (6, some (.i ((v36 : Nat) : Int))), (7, some (.imm (.val (.int .i32 (nextC x0 v36))))), (12, some (.ptr 1000 0)), (36, some (.b ((v34 == 0) && (!t118))))] [(1000, some (.iter (tx x0) (nextP x0 v36)))] 1001) ?_ ?_
       ·obtain ⟨o128, b129, h⟩ := bnd1 h; refine W.fork (mkSt [(0, some (.s x0)), (4, some (.i v34)), (6, some (.i ((v36 : Nat) : Int))), (7, some (.imm (.val (.int .i32 (nextC x0 v36))))), (12, some (.ptr 1000 0)), (36, some (.b o128))] [(1000, some (.iter (tx x0) (nextP x0 v36)))] 1001) ?_ ?_
        ·refine W.cond rfl (fun q136 => ?_) (fun q136 => ?_)
         ·have h := ifT q136 h; refine W.seq ?_; refine W.pk ?_; refine .m rfl rfl rfl rfl ?_; (iterate 2 refine .a rfl rfl rfl rfl ?_); refine .nil ?_; refine W.ret ?_; cases h; refine rdR fun e_ => ?_; subst e_; have h := z104; dsimp only at h; refine fkR ?_; cases h; exact leaves (.inr rfl) rfl (.tup _ _ _ _ (cC (.imm _) (cC (.imm _) .nil))) (cN .nil) rfl rfl
         ·have h := ifF q136 h; refine W.skip ?_; refine W.seq ?_; refine W.pk ?_; refine .m rfl rfl rfl rfl ?_; refine .a rfl rfl rfl rfl ?_; refine .nil ?_; refine W.pk ?_; refine .m rfl rfl rfl rfl ?_; refine .v rfl rfl (OpL.binI rfl rfl rfl rfl) ?_; refine .a rfl rfl rfl rfl ?_; refine .nil ?_; cases h; exact rdN (Gives.mkR [] (.e rfl rfl) (.r rfl rfl rfl .n) rfl rfl rfl)
        ·clear h; have h := b129; refine W.cond rfl (fun q130 => ?_) (fun q130 => ?_)
         ·have h := ifT q130 h; refine W.skip ?_; cases h; exact toN (Gives.mkR [] (.e rfl rfl) (.r rfl rfl rfl .n) rfl rfl rfl)
         ·have h := ifF q130 h; obtain ⟨t131, b132, h⟩ := bnd1 h; refine W.fork (mkSt [(0, some (.s x0)), (4, some (.i v34)), (6, some (.i ((v36 : Nat) : Int))), (7, some (.imm (.val (.int .i32 (nextC x0 v36))))), (12, some (.ptr 1000 0)), (36, some (.b (((((nextC x0 v36) == 32) && t131) && (v35 != 46)) && (v35 != 38))))] [(1000, some (.iter (tx x0) (nextP x0 v36)))] 1001) ?_ ?_
          ·cases h; exact toN (Gives.mkR [] (.e rfl rfl) (.r rfl rfl rfl .n) rfl rfl rfl)
          ·clear h; refine W.pk ?_; refine .m rfl rfl rfl rfl ?_; refine .v rfl rfl (OpL.binI rfl rfl rfl rfl) ?_; refine .m rfl rfl rfl rfl ?_; rcases tf ((nextC x0 v36) == 32) with g133 | g133
           ·refine .m rfl (met rfl rfl rfl g133) rfl rfl ?_; refine .call (.b t131) [] 0 (name_joint.ok ((if_pos (by simp only [g133, BL])).symm.trans b132)) rfl (met rfl rfl rfl g133) rfl ca91 rfl rfl (cC (.imm _) .nil) rfl rfl rfl rfl rfl ?_; refine .v rfl rfl (O.pickT g133 rfl rfl rfl) ?_; refine .m rfl rfl rfl rfl ?_; rcases tf t131 with g134 | g134
            ·refine .m rfl (met rfl rfl rfl g134) rfl rfl ?_; refine .v rfl (met rfl rfl rfl g134) (OpL.binI rfl rfl rfl rfl) ?_; refine .v rfl rfl (O.pickT g134 rfl rfl rfl) ?_; refine .m rfl rfl rfl rfl ?_; rcases tf (v35 != 46) with g135 | g135
             ·refine .m rfl (met rfl rfl rfl g135) rfl rfl ?_; refine .v rfl (met rfl rfl rfl g135) (OpL.binI rfl rfl rfl rfl) ?_; refine .v rfl rfl (O.pickT g135 rfl rfl rfl) ?_; refine .a rfl rfl rfl rfl ?_; refine .nil ?_; exact toN (Gives.mkR [] (.r rfl rfl (.r rfl rfl (.r rfl rfl (.r rfl rfl (.r rfl rfl (.c rfl (sbb (by first | (simp only [g133, g134, g135, BL]; done) | (repeat (first | rw [g133] | rw [g134] | rw [g135])) <;> simp only [BL])) rfl .n)))))) (.r rfl rfl rfl .n) rfl rfl rfl)
             ·(iterate 2 refine .x rfl (unmet rfl rfl rfl g135) ?_); refine .v rfl rfl (O.pickF g135 rfl rfl rfl) ?_; refine .a rfl rfl rfl rfl ?_; refine .nil ?_; exact toN (Gives.mkR [] (.r rfl rfl (.r rfl rfl (.r rfl rfl (.r rfl rfl (.r rfl rfl (.c rfl (sbb (by first | (simp only [g133, g134, g135, BL]; done) | (repeat (first | rw [g133] | rw [g134] | rw [g135])) <;> simp only [BL])) rfl .n)))))) (.r rfl rfl rfl .n) rfl rfl rfl)
            ·(iterate 2 refine .x rfl (unmet rfl rfl rfl g134) ?_); refine .v rfl rfl (O.pickF g134 rfl rfl rfl) ?_; refine .m rfl rfl rfl rfl ?_; (iterate 2 refine .x rfl (unmet rfl rfl rfl rfl) ?_); refine .v rfl rfl (O.pickF rfl rfl rfl rfl) ?_; refine .a rfl rfl rfl rfl ?_; refine .nil ?_; exact toN (Gives.mkR [] (.r rfl rfl (.r rfl rfl (.r rfl rfl (.r rfl rfl (.r rfl rfl (.c rfl (sbb (by first | (simp only [g133, g134, BL]; done) | (repeat (first | rw [g133] | rw [g134])) <;> simp only [BL])) rfl .n)))))) (.r rfl rfl rfl .n) rfl rfl rfl)
           ·(iterate 2 refine .x rfl (unmet rfl rfl rfl g133) ?_); refine .v rfl rfl (O.pickF g133 rfl rfl rfl) ?_; refine .m rfl rfl rfl rfl ?_; (iterate 2 refine .x rfl (unmet rfl rfl rfl rfl) ?_); refine .v rfl rfl (O.pickF rfl rfl rfl rfl) ?_; refine .m rfl rfl rfl rfl ?_; (iterate 2 refine .x rfl (unmet rfl rfl rfl rfl) ?_); refine .v rfl rfl (O.pickF rfl rfl rfl rfl) ?_; refine .a rfl rfl rfl rfl ?_; refine .nil ?_; exact toN (Gives.mkR [] (.r rfl rfl (.r rfl rfl (.r rfl rfl (.r rfl rfl (.r rfl rfl (.c rfl (sbb (by simp only [g133, BL])) rfl .n)))))) (.r rfl rfl rfl .n) rfl rfl rfl)
       ·clear h; refine W.pk ?_; refine .m rfl rfl rfl rfl ?_; refine .v rfl rfl (OpL.binI rfl rfl rfl rfl) ?_; refine .m rfl rfl rfl rfl ?_; rcases tf (v34 == 0) with g120 | g120
        ·refine .m rfl (met rfl rfl rfl g120) rfl rfl ?_; refine .call (.b t118) [] 0 (name_letter.ok ((if_pos (by simp only [g120, BL])).symm.trans b119)) rfl (met rfl rfl rfl g120) rfl ca89 rfl rfl (cC (.imm _) .nil) rfl rfl rfl rfl rfl ?_; refine .v rfl (met rfl rfl rfl g120) (OpL.unV rfl rfl rfl) ?_; refine .v rfl rfl (O.pickT g120 rfl rfl rfl) ?_; refine .a rfl rfl rfl rfl ?_; refine .nil ?_; exact toN (Gives.mkR [] (.r rfl rfl (.r rfl rfl (.r rfl rfl (.r rfl rfl (.r rfl rfl (.r rfl rfl (.c rfl (sbb (by simp only [g120, BL])) rfl .n))))))) (.r rfl rfl rfl .n) rfl rfl rfl)
        ·(iterate 3 refine .x rfl (unmet rfl rfl rfl g120) ?_); refine .v rfl rfl (O.pickF g120 rfl rfl rfl) ?_; refine .a rfl rfl rfl rfl ?_; refine .nil ?_; exact toN (Gives.mkR [] (.r rfl rfl (.r rfl rfl (.r rfl rfl (.r rfl rfl (.r rfl rfl (.r rfl rfl (.c rfl (sbb (by simp only [g120, BL])) rfl .n))))))) (.r rfl rfl rfl .n) rfl rfl rfl)
     ·clear h; refine W.pk ?_; refine .m rfl rfl rfl rfl ?_; refine .call (.b t109) [] 0 (name_letter.ok b110) rfl rfl rfl ca89 rfl rfl (cC (.imm _) .nil) rfl rfl rfl rfl rfl ?_; refine .v rfl rfl (OpL.unV rfl rfl rfl) ?_; refine .m rfl rfl rfl rfl ?_; rcases tf t109 with g115 | g115
      ·(iterate 3 refine .x rfl (unmet rfl rfl rfl (notT g115)) ?_); refine .v rfl rfl (O.pickF (notT g115) rfl rfl rfl) ?_; refine .m rfl rfl rfl rfl ?_; (iterate 3 refine .x rfl (unmet rfl rfl rfl rfl) ?_); refine .v rfl rfl (O.pickF rfl rfl rfl rfl) ?_; refine .a rfl rfl rfl rfl ?_; refine .nil ?_; exact toN (Gives.mkR [] (.r rfl rfl (.r rfl rfl (.r rfl rfl (.r rfl rfl (.r rfl rfl (.r rfl rfl (.c rfl (sbb (by simp only [g115, BL])) rfl .n))))))) (.r rfl rfl rfl .n) rfl rfl rfl)
      ·refine .m rfl (met rfl rfl rfl (notF g115)) rfl rfl ?_; refine .call (.b t111) [] 0 (name_digit.ok ((if_pos (by simp only [g115, BL])).symm.trans b112)) rfl (met rfl rfl rfl (notF g115)) rfl ca90 rfl rfl (cC (.imm _) .nil) rfl rfl rfl rfl rfl ?_; refine .v rfl (met rfl rfl rfl (notF g115)) (OpL.unV rfl rfl rfl) ?_; refine .v rfl rfl (O.pickT (notF g115) rfl rfl rfl) ?_; refine .m rfl rfl rfl rfl ?_; rcases tf t111 with g116 | g116
       ·(iterate 3 refine .x rfl (unmet rfl rfl rfl (notT g116)) ?_); refine .v rfl rfl (O.pickF (notT g116) rfl rfl rfl) ?_; refine .a rfl rfl rfl rfl ?_; refine .nil ?_; exact toN (Gives.mkR [] (.r rfl rfl (.r rfl rfl (.r rfl rfl (.r rfl rfl (.r rfl rfl (.r rfl rfl (.c rfl (sbb (by first | (simp only [g115, g116, BL]; done) | (repeat (first | rw [g115] | rw [g116])) <;> simp only [BL])) rfl .n))))))) (.r rfl rfl rfl .n) rfl rfl rfl)
       ·refine .m rfl (met rfl rfl rfl (notF g116)) rfl rfl ?_; refine .call (.b t113) [] 0 (name_joint.ok ((if_pos (by first | (simp only [g115, g116, BL]; done) | (repeat (first | rw [g115] | rw [g116])) <;> simp only [BL])).symm.trans b114)) rfl (met rfl rfl rfl (notF g116)) rfl ca91 rfl rfl (cC (.imm _) .nil) rfl rfl rfl rfl rfl ?_; refine .v rfl (met rfl rfl rfl (notF g116)) (OpL.unV rfl rfl rfl) ?_; refine .v rfl rfl (O.pickT (notF g116) rfl rfl rfl) ?_; refine .a rfl rfl rfl rfl ?_; refine .nil ?_; exact toN (Gives.mkR [] (.r rfl rfl (.r rfl rfl (.r rfl rfl (.r rfl rfl (.r rfl rfl (.r rfl rfl (.c rfl (sbb (by first | (simp only [g115, g116, BL]; done) | (repeat (first | rw [g115] | rw [g116])) <;> simp only [BL])) rfl .n))))))) (.r rfl rfl rfl .n) rfl rfl rfl)
   ·have h := ifF q105 h; refine W.exit ?_; cases h; refine rdX fun e_ => ?_; subst e_; (repeat with_reducible refine thru ?_); refine hit ?_; exact fkN (Gives.mkR [] (.e rfl rfl) .n rfl rfl rfl)
  ·intro w101 e_; subst e_; clear h; have h := z104; dsimp only at h; (iterate 2 refine W.seq ?_); refine W.fork (mkSt [(0, some (.s x0)), (67, some (.b ((w101.1 == 0) || (w101.2 == 32))))] [] 1001) ?_ ?_
   ·refine W.cond rfl (fun q139 => ?_) (fun q139 => ?_)
    ·have h := ifT q139 h; refine W.seq ?_; refine W.pk ?_; refine .m rfl rfl rfl rfl ?_; refine .v rfl rfl (O.lenS u9 rfl rfl) ?_; (iterate 2 refine .a rfl rfl rfl rfl ?_); refine .nil ?_; refine W.ret ?_; cases h; exact leaves (.inr rfl) rfl (.tup _ _ _ _ (cC (.imm _) (cC (.imm _) .nil))) (cN .nil) rfl rfl
    ·have h := ifF q139 h; refine W.skip ?_; refine W.seq ?_; refine W.pk ?_; refine .m rfl rfl rfl rfl ?_; refine .v rfl rfl (O.lenS u9 rfl rfl) ?_; (iterate 2 refine .a rfl rfl rfl rfl ?_); refine .nil ?_; refine W.ret ?_; cases h; exact leaves (.inr rfl) rfl (.tup _ _ _ _ (cC (.imm _) (cC (.imm _) .nil))) (cN .nil) rfl rfl
   ·clear h; refine W.pk ?_; refine .m rfl rfl rfl rfl ?_; refine .v rfl rfl (OpL.binI rfl rfl rfl rfl) ?_; refine .m rfl rfl rfl rfl ?_; rcases tf (w101.1 == 0) with g138 | g138
    ·(iterate 2 refine .x rfl (unmet rfl rfl rfl g138) ?_); refine .v rfl rfl (O.pickT g138 rfl rfl rfl) ?_; refine .nil ?_; exact toN (Gives.mkR [] (.r rfl rfl (.c rfl (sbb (by simp only [g138, BL])) rfl .n)) .n rfl rfl rfl)
    ·refine .m rfl (met rfl rfl rfl g138) rfl rfl ?_; refine .v rfl (met rfl rfl rfl g138) (OpL.binI rfl rfl rfl rfl) ?_; refine .v rfl rfl (O.pickF g138 rfl rfl rfl) ?_; refine .nil ?_; exact toN (Gives.mkR [] (.r rfl rfl (.c rfl (sbb (by simp only [g138, BL])) rfl .n)) .n rfl rfl rfl)

noncomputable def msg_member.f (x0 : Int) : Option (Bool) :=
  some ((decide (x0 ≥ 1)) && (decide (x0 ≤ 32)))
set_option maxRecDepth 100000 in
set_option maxHeartbeats 4000000 in
theorem msg_member.ok {x0 : Int} {r : Bool} (h : msg_member.f x0 = some r) : Pm.Spec prog 41 [.imm (.val (.int .i64 x0))] (.imm (.val (.bool r))) [none] := by
 unfold msg_member.f at h; refine Pm.Spec.of_body Tryz.func41 rfl (by kernel_rfl) (Nat.le_of_ble_eq_true rfl) (Nat.le_of_ble_eq_true rfl) ?_; refine W.ghost (σ' := (mkSt [(0, some (.i x0))] [] 1000)) (Gives.entry (.c rfl .n) .n) ?_; refine W.seq ?_; refine W.pk ?_; refine .a rfl rfl rfl rfl ?_; refine .nil ?_; refine W.seq ?_; refine W.fork (mkSt [(2, some (.b ((decide (x0 ≥ 1)) && (decide (x0 ≤ 32)))))] [] 1000) ?_ ?_
 ·refine W.ret ?_; cases h; exact leaves (.inr rfl) rfl (.imm _) (cN .nil) rfl rfl
 ·clear h; refine W.pk ?_; refine .m rfl rfl rfl rfl ?_; refine .v rfl rfl (OpL.binI rfl rfl rfl rfl) ?_; refine .m rfl rfl rfl rfl ?_; rcases tf (decide (x0 ≥ 1)) with g1 | g1
  ·refine .m rfl (met rfl rfl rfl g1) rfl rfl ?_; refine .v rfl (met rfl rfl rfl g1) (OpL.binI rfl rfl rfl rfl) ?_; refine .v rfl rfl (O.pickT g1 rfl rfl rfl) ?_; refine .a rfl rfl rfl rfl ?_; refine .nil ?_; exact toN (Gives.mkR [] (.c rfl (sbb (by simp only [g1, BL])) rfl .n) .n rfl rfl rfl)
  ·(iterate 2 refine .x rfl (unmet rfl rfl rfl g1) ?_); refine .v rfl rfl (O.pickF g1 rfl rfl rfl) ?_; refine .a rfl rfl rfl rfl ?_; refine .nil ?_; exact toN (Gives.mkR [] (.c rfl (sbb (by simp only [g1, BL])) rfl .n) .n rfl rfl rfl)

noncomputable def isin_digit.f (x0 : Int) : Option (Bool) :=
  some ((decide (x0 ≥ 48)) && (decide (x0 ≤ 57)))
set_option maxRecDepth 100000 in
set_option maxHeartbeats 4000000 in
theorem isin_digit.ok {x0 : Int} {r : Bool} (h : isin_digit.f x0 = some r) : Pm.Spec prog 93 [.imm (.val (.int .u8 x0))] (.imm (.val (.bool r))) [none] := by
 unfold isin_digit.f at h; refine Pm.Spec.of_body Tryz.func93 rfl (by kernel_rfl) (Nat.le_of_ble_eq_true rfl) (Nat.le_of_ble_eq_true rfl) ?_; refine W.ghost (σ' := (mkSt [(0, some (.imm (.val (.int .u8 x0))))] [] 1000)) (Gives.entry (.c rfl .n) .n) ?_; refine W.seq ?_; refine W.pk ?_; refine .a rfl rfl rfl rfl ?_; refine .nil ?_; refine W.seq ?_; refine W.fork (mkSt [(2, some (.b ((decide (x0 ≥ 48)) && (decide (x0 ≤ 57)))))] [] 1000) ?_ ?_
 ·refine W.ret ?_; cases h; exact leaves (.inr rfl) rfl (.imm _) (cN .nil) rfl rfl
 ·clear h; refine W.pk ?_; refine .m rfl rfl rfl rfl ?_; refine .v rfl rfl (OpL.binI rfl rfl rfl rfl) ?_; refine .m rfl rfl rfl rfl ?_; rcases tf (decide (x0 ≥ 48)) with g1 | g1
  ·refine .m rfl (met rfl rfl rfl g1) rfl rfl ?_; refine .v rfl (met rfl rfl rfl g1) (OpL.binI rfl rfl rfl rfl) ?_; refine .v rfl rfl (O.pickT g1 rfl rfl rfl) ?_; refine .a rfl rfl rfl rfl ?_; refine .nil ?_; exact toN (Gives.mkR [] (.c rfl (sbb (by simp only [g1, BL])) rfl .n) .n rfl rfl rfl)
  ·(iterate 2 refine .x rfl (unmet rfl rfl rfl g1) ?_); refine .v rfl rfl (O.pickF g1 rfl rfl rfl) ?_; refine .a rfl rfl rfl rfl ?_; refine .nil ?_; exact toN (Gives.mkR [] (.c rfl (sbb (by simp only [g1, BL])) rfl .n) .n rfl rfl rfl)

noncomputable def isin_upper.f (x0 : Int) : Option (Bool) :=
  some ((decide (x0 ≥ 65)) && (decide (x0 ≤ 90)))
set_option maxRecDepth 100000 in
set_option maxHeartbeats 4000000 in
theorem isin_upper.ok {x0 : Int} {r : Bool} (h : isin_upper.f x0 = some r) : Pm.Spec prog 119 [.imm (.val (.int .u8 x0))] (.imm (.val (.bool r))) [none] := by
 unfold isin_upper.f at h; refine Pm.Spec.of_body Tryz.func119 rfl (by kernel_rfl) (Nat.le_of_ble_eq_true rfl) (Nat.le_of_ble_eq_true rfl) ?_; refine W.ghost (σ' := (mkSt [(0, some (.imm (.val (.int .u8 x0))))] [] 1000)) (Gives.entry (.c rfl .n) .n) ?_; refine W.seq ?_; refine W.pk ?_; refine .a rfl rfl rfl rfl ?_; refine .nil ?_; refine W.seq ?_; refine W.fork (mkSt [(2, some (.b ((decide (x0 ≥ 65)) && (decide (x0 ≤ 90)))))] [] 1000) ?_ ?_
 ·refine W.ret ?_; cases h; exact leaves (.inr rfl) rfl (.imm _) (cN .nil) rfl rfl
 ·clear h; refine W.pk ?_; refine .m rfl rfl rfl rfl ?_; refine .v rfl rfl (OpL.binI rfl rfl rfl rfl) ?_; refine .m rfl rfl rfl rfl ?_; rcases tf (decide (x0 ≥ 65)) with g1 | g1
  ·refine .m rfl (met rfl rfl rfl g1) rfl rfl ?_; refine .v rfl (met rfl rfl rfl g1) (OpL.binI rfl rfl rfl rfl) ?_; refine .v rfl rfl (O.pickT g1 rfl rfl rfl) ?_; refine .a rfl rfl rfl rfl ?_; refine .nil ?_; exact toN (Gives.mkR [] (.c rfl (sbb (by simp only [g1, BL])) rfl .n) .n rfl rfl rfl)
  ·(iterate 2 refine .x rfl (unmet rfl rfl rfl g1) ?_); refine .v rfl rfl (O.pickF g1 rfl rfl rfl) ?_; refine .a rfl rfl rfl rfl ?_; refine .nil ?_; exact toN (Gives.mkR [] (.c rfl (sbb (by simp only [g1, BL])) rfl .n) .n rfl rfl rfl)

noncomputable def isin_shape.b0 (x0 : Bs) (v11 : Int) : Option (Int ⊕ (Bool ⊕ Unit)) :=
  if (decide (v11 < (List.length x0 : Int))) = true then
    if (0 : Int) ≤ v11 ∧ v11 < (List.length x0 : Int) then
    (isin_upper.f (byte x0 v11)).bind fun t38 =>
    if ((!t38) = true ∧ (decide (v11 < 2)) = false → (0 : Int) ≤ v11 ∧ v11 < (List.length x0 : Int)) then
    (if (!t38) = true ∧ (decide (v11 < 2)) = false then isin_digit.f (byte x0 v11) else some default).bind fun t41 =>
    if ((!t38) && ((decide (v11 < 2)) || (!t41))) = true then
      some (.inr (.inl false))
    else
      some (.inl (IntKind.wrap .i64 (v11 + 1)))
    else none
    else none
  else
    some (.inr (.inr ()))
noncomputable def isin_shape.r0 (x0 : Bs) (s : Int) : Option (Int ⊕ (Bool ⊕ Unit)) := isin_shape.b0 x0 s
noncomputable def isin_shape.f (x0 : Bs) : Option (Bool) :=
  (loop (isin_shape.r0 x0) 0).bind fun o33 =>
  match o33 with
  | .inl r46 => some r46
  | .inr w32 =>
    some ((List.length x0 : Int) == 11)
set_option maxRecDepth 100000 in
set_option maxHeartbeats 4000000 in
theorem isin_shape.ok {x0 : Bs} {r : Bool} (h : isin_shape.f x0 = some r) : Pm.Spec prog 110 [.imm (.val (.string (tx x0)))] (.imm (.val (.bool r))) [none] := by
 unfold isin_shape.f at h; refine Pm.Spec.of_body Tryz.func110 rfl (by kernel_rfl) (Nat.le_of_ble_eq_true rfl) (Nat.le_of_ble_eq_true rfl) ?_; refine W.ghost (σ' := (mkSt [(0, some (.s x0))] [] 1000)) (Gives.entry (.c rfl .n) .n) ?_; refine W.seq ?_; refine W.pk ?_; refine .a rfl rfl rfl rfl ?_; refine .nil ?_; (iterate 2 refine W.seq ?_); refine W.pk ?_; refine .m rfl rfl rfl rfl ?_; refine .v rfl rfl (O.lenS u9 rfl rfl) ?_; refine .m rfl rfl rfl rfl ?_; refine .nil ?_; obtain ⟨o33, b34, z35⟩ := bnd1 h; refine W.fork2 (out := o33) (fun (w32 : Unit) => mkSt [(0, some (.s x0))] [] 1000) ?_ ?_
 ·clear h; refine W.block ?_; refine W.loopF (fun (s_ : Int) => mkSt [(0, some (.s x0)), (5, some (.i (List.length x0 : Int))), (6, some (.i s_))] [] 1000) b34 (Gives.mkR [] (.e rfl rfl) .n rfl rfl rfl) ?_; rintro v11 s_ hr; have h : isin_shape.b0 x0 v11 = some s_ := hr; unfold isin_shape.b0 at h; refine W.seq ?_; refine W.pk ?_; refine .v rfl rfl (OpL.binI rfl rfl rfl rfl) ?_; refine .nil ?_; refine W.seq ?_; refine W.cond rfl (fun q36 => ?_) (fun q36 => ?_)
  ·have h := ifT q36 h; refine W.skip ?_; refine W.seq ?_; refine W.block ?_; refine W.seq ?_; refine W.pk ?_; refine .m rfl rfl rfl rfl ?_; refine .a rfl rfl rfl rfl ?_; refine .nil ?_; refine W.seq ?_; obtain ⟨c37, h⟩ := chk h; obtain ⟨t38, b39, h⟩ := bnd1 h; obtain ⟨c40, h⟩ := chk h; obtain ⟨t41, b42, h⟩ := bnd1 h; refine W.fork (mkSt [(0, some (.s x0)), (5, some (.i (List.length x0 : Int))), (6, some (.i v11)), (24, some (.b ((!t38) && ((decide (v11 < 2)) || (!t41)))))] [] 1000) ?_ ?_
   ·refine W.cond rfl (fun q45 => ?_) (fun q45 => ?_)
    ·have h := ifT q45 h; refine W.seq ?_; refine W.pk ?_; refine .a rfl rfl rfl rfl ?_; refine .nil ?_; refine W.ret ?_; cases h; refine rdR fun e_ => ?_; subst e_; have h := z35; dsimp only at h; refine fkR ?_; cases h; exact leaves (.inr rfl) rfl (.imm _) (cN .nil) rfl rfl
    ·have h := ifF q45 h; refine W.skip ?_; refine W.pk ?_; refine .v rfl rfl (OpL.binI rfl rfl rfl rfl) ?_; refine .m rfl rfl rfl rfl ?_; refine .nil ?_; cases h; exact rdN (Gives.mkR [] (.e rfl rfl) .n rfl rfl rfl)
   ·clear h; refine W.pk ?_; (iterate 2 refine .m rfl rfl rfl rfl ?_); refine .v rfl rfl (O.idxS u9 c37 rfl rfl rfl) ?_; refine .call (.b t38) [] 0 (isin_upper.ok b39) rfl rfl rfl ca119 rfl rfl (cC (.imm _) .nil) rfl rfl rfl rfl rfl ?_; refine .v rfl rfl (OpL.unV rfl rfl rfl) ?_; refine .m rfl rfl rfl rfl ?_; rcases tf t38 with g43 | g43
    ·(iterate 3 refine .x rfl (unmet rfl rfl rfl (notT g43)) ?_); (iterate 5 refine .x rfl (unmetU rfl rfl rfl) ?_); refine .x rfl (unmet rfl rfl rfl (notT g43)) ?_; refine .v rfl rfl (O.pickF (notT g43) rfl rfl rfl) ?_; refine .nil ?_; exact toN (Gives.mkR [] (.r rfl rfl (.r rfl rfl (.r rfl rfl (.c rfl (sbb (by simp only [g43, BL])) rfl .n)))) .n rfl rfl rfl)
    ·refine .m rfl (met rfl rfl rfl (notF g43)) rfl rfl ?_; refine .v rfl (met rfl rfl rfl (notF g43)) (OpL.binI rfl rfl rfl rfl) ?_; refine .m rfl (met rfl rfl rfl (notF g43)) rfl rfl ?_; rcases tf (decide (v11 < 2)) with g44 | g44
     ·(iterate 5 refine .x rfl (unmet rfl rfl rfl g44) ?_); refine .v rfl (met rfl rfl rfl (notF g43)) (O.pickT g44 rfl rfl rfl) ?_; refine .v rfl rfl (O.pickT (notF g43) rfl rfl rfl) ?_; refine .nil ?_; exact toN (Gives.mkR [] (.r rfl rfl (.r rfl rfl (.r rfl rfl (.c rfl (sbb (by first | (simp only [g43, g44, BL]; done) | (repeat (first | rw [g43] | rw [g44])) <;> simp only [BL])) rfl .n)))) .n rfl rfl rfl)
     ·(iterate 2 refine .m rfl (met rfl rfl rfl g44) rfl rfl ?_); refine .v rfl (met rfl rfl rfl g44) (O.idxS u9 (c40 ⟨(by first | (simp only [g43, g44, BL]; done) | (repeat (first | rw [g43] | rw [g44])) <;> simp only [BL]), (by first | (simp only [g43, g44, BL]; done) | (repeat (first | rw [g43] | rw [g44])) <;> simp only [BL])⟩) rfl rfl rfl) ?_; refine .call (.b t41) [] 0 (isin_digit.ok ((if_pos ⟨(by first | (simp only [g43, g44, BL]; done) | (repeat (first | rw [g43] | rw [g44])) <;> simp only [BL]), (by first | (simp only [g43, g44, BL]; done) | (repeat (first | rw [g43] | rw [g44])) <;> simp only [BL])⟩).symm.trans b42)) rfl (met rfl rfl rfl g44) rfl ca93 rfl rfl (cC (.imm _) .nil) rfl rfl rfl rfl rfl ?_; refine .v rfl (met rfl rfl rfl g44) (OpL.unV rfl rfl rfl) ?_; refine .v rfl (met rfl rfl rfl (notF g43)) (O.pickF g44 rfl rfl rfl) ?_; refine .v rfl rfl (O.pickT (notF g43) rfl rfl rfl) ?_; refine .nil ?_; exact toN (Gives.mkR [] (.r rfl rfl (.r rfl rfl (.r rfl rfl (.c rfl (sbb (by first | (simp only [g43, g44, BL]; done) | (repeat (first | rw [g43] | rw [g44])) <;> simp only [BL])) rfl .n)))) .n rfl rfl rfl)
  ·have h := ifF q36 h; refine W.exit ?_; cases h; refine rdX fun e_ => ?_; subst e_; (repeat with_reducible refine thru ?_); refine hit ?_; exact fkN (Gives.mkR [] (.r rfl rfl .n) .n rfl rfl rfl)
 ·intro w32 e_; subst e_; clear h; have h := z35; dsimp only at h; refine W.seq ?_; refine W.pk ?_; refine .m rfl rfl rfl rfl ?_; refine .v rfl rfl (O.lenS u9 rfl rfl) ?_; refine .v rfl rfl (OpL.binI rfl rfl rfl rfl) ?_; refine .a rfl rfl rfl rfl ?_; refine .nil ?_; refine W.ret ?_; cases h; exact leaves (.inr rfl) rfl (.imm _) (cN .nil) rfl rfl

noncomputable def isin_total_1.f (x0 : Int) (x1 : Bool) (x2 : Int) : Option (Bool × Int) :=
  if x1 = true then
    some ((!x1), (IntKind.wrap .i64 (x2 + (IntKind.wrap .i64 ((IntKind.wrap .i64 (Int.tdiv (IntKind.wrap .i64 (x0 * 2)) 10)) + (Int.tmod (IntKind.wrap .i64 (x0 * 2)) 10))))))
  else
    some ((!x1), (IntKind.wrap .i64 (x2 + x0)))
set_option maxRecDepth 100000 in
set_option maxHeartbeats 4000000 in
theorem isin_total_1.ok {x0 : Int} {x1 : Bool} {x2 : Int} {r : Bool × Int} (h : isin_total_1.f x0 x1 x2 = some r) : Pm.Spec prog 120 [.imm (.val (.int .i64 x0)), .xbox [.imm (.val (.bool x1))], .xbox [.imm (.val (.int .i64 x2))]] (.tup []) [none, some (.xbox [.imm (.val (.bool r.1))]), some (.xbox [.imm (.val (.int .i64 r.2))])] := by
 unfold isin_total_1.f at h; refine Pm.Spec.of_body Tryz.func120 rfl (by kernel_rfl) (Nat.le_of_ble_eq_true rfl) (Nat.le_of_ble_eq_true rfl) ?_; refine W.ghost (σ' := (mkSt [(0, some (.i x0)), (1, some (.ptr 0 0)), (2, some (.ptr 1 0))] [(0, some (.box [.b x1])), (1, some (.box [.i x2]))] 1000)) (Gives.entry (.c rfl (.c rfl (.c rfl .n))) (.c rfl (.c rfl .n))) ?_; (iterate 2 refine W.seq ?_); refine W.pk ?_; refine .v rfl rfl (O.ld (y := .b x1) ty4 rfl rfl rfl) ?_; refine .nil ?_; refine W.cond rfl (fun q1 => ?_) (fun q1 => ?_)
 ·have h := ifT q1 h; refine W.seq ?_; refine W.pk ?_; refine .m rfl rfl rfl rfl ?_; refine .v rfl rfl (OpL.binI rfl rfl rfl rfl) ?_; refine .a rfl rfl rfl rfl ?_; refine .nil ?_; refine W.pk ?_; refine .m rfl rfl rfl rfl ?_; refine .v rfl rfl (O.quo rfl rfl rfl (by decide)) ?_; refine .m rfl rfl rfl rfl ?_; refine .v rfl rfl (O.rem rfl rfl rfl (by decide)) ?_; refine .v rfl rfl (OpL.binI rfl rfl rfl rfl) ?_; refine .a rfl rfl rfl rfl ?_; refine .nil ?_; refine W.seq ?_; refine W.pk ?_; refine .v rfl rfl (O.ld (y := .i x2) ty3 rfl rfl rfl) ?_; refine .m rfl rfl rfl rfl ?_; refine .v rfl rfl (OpL.binI rfl rfl rfl rfl) ?_; refine .s rfl rfl (O.st ty3 rfl rfl rfl rfl rfl rfl rfl rfl rfl rfl (all' := [.i (IntKind.wrap .i64 (x2 + (IntKind.wrap .i64 ((IntKind.wrap .i64 (Int.tdiv (IntKind.wrap .i64 (x0 * 2)) 10)) + (Int.tmod (IntKind.wrap .i64 (x0 * 2)) 10)))))]) rfl) ?_; refine .nil ?_; refine W.pk ?_; refine .v rfl rfl (O.ld (y := .b x1) ty4 rfl rfl rfl) ?_; refine .v rfl rfl (OpL.unV rfl rfl rfl) ?_; refine .s rfl rfl (O.st ty4 rfl rfl rfl rfl rfl rfl rfl rfl rfl rfl (all' := [.b (!x1)]) rfl) ?_; refine .nil ?_; cases h; exact leaves (.inl rfl) rfl (.tup _ _ _ _ .nil) (cN (cS (.ptr _ _ _ _ _ rfl (cC (.imm _) .nil)) (cS (.ptr _ _ _ _ _ rfl (cC (.imm _) .nil)) .nil))) rfl rfl
 ·have h := ifF q1 h; refine W.skip ?_; refine W.seq ?_; refine W.pk ?_; refine .v rfl rfl (O.ld (y := .i x2) ty3 rfl rfl rfl) ?_; refine .m rfl rfl rfl rfl ?_; refine .v rfl rfl (OpL.binI rfl rfl rfl rfl) ?_; refine .s rfl rfl (O.st ty3 rfl rfl rfl rfl rfl rfl rfl rfl rfl rfl (all' := [.i (IntKind.wrap .i64 (x2 + x0))]) rfl) ?_; refine .nil ?_; refine W.pk ?_; refine .v rfl rfl (O.ld (y := .b x1) ty4 rfl rfl rfl) ?_; refine .v rfl rfl (OpL.unV rfl rfl rfl) ?_; refine .s rfl rfl (O.st ty4 rfl rfl rfl rfl rfl rfl rfl rfl rfl rfl (all' := [.b (!x1)]) rfl) ?_; refine .nil ?_; cases h; exact leaves (.inl rfl) rfl (.tup _ _ _ _ .nil) (cN (cS (.ptr _ _ _ _ _ rfl (cC (.imm _) .nil)) (cS (.ptr _ _ _ _ _ rfl (cC (.imm _) .nil)) .nil))) rfl rfl

noncomputable def isin_total.b0 (x0 : Bs) (v14 : Int) (v15 : Bool) (v16 : Int) : Option ((Int × Bool × Int) ⊕ Int) :=
  if (decide (v14 ≥ 0)) = true then
    if (0 : Int) ≤ v14 ∧ v14 < (List.length x0 : Int) then
    (isin_digit.f (byte x0 v14)).bind fun t49 =>
    if t49 = true then
      if (0 : Int) ≤ v14 ∧ v14 < (List.length x0 : Int) then
      (isin_total_1.f (IntKind.wrap .i64 (IntKind.wrap .u8 ((byte x0 v14) - 48))) v15 v16).bind fun t53 =>
      some (.inl ((IntKind.wrap .i64 (v14 - 1)), t53.1, t53.2))
      else none
    else
      if (0 : Int) ≤ v14 ∧ v14 < (List.length x0 : Int) then
      (isin_total_1.f (Int.tmod (IntKind.wrap .i64 ((IntKind.wrap .i64 (IntKind.wrap .u8 ((byte x0 v14) - 65))) + 10)) 10) v15 v16).bind fun t56 =>
      (isin_total_1.f (IntKind.wrap .i64 (Int.tdiv (IntKind.wrap .i64 ((IntKind.wrap .i64 (IntKind.wrap .u8 ((byte x0 v14) - 65))) + 10)) 10)) t56.1 t56.2).bind fun t58 =>
      some (.inl ((IntKind.wrap .i64 (v14 - 1)), t58.1, t58.2))
      else none
    else none
  else
    some (.inr v16)
noncomputable def isin_total.r0 (x0 : Bs) (s : Int × Bool × Int) : Option ((Int × Bool × Int) ⊕ Int) := isin_total.b0 x0 s.1 s.2.1 s.2.2
noncomputable def isin_total.f (x0 : Bs) (x1 : Bool) : Option (Int) :=
  (loop (isin_total.r0 x0) ((IntKind.wrap .i64 ((List.length x0 : Int) - 1)), x1, 0)).bind fun o44 =>
  some o44
set_option maxRecDepth 100000 in
set_option maxHeartbeats 4000000 in
theorem isin_total.ok {x0 : Bs} {x1 : Bool} {r : Int} (h : isin_total.f x0 x1 = some r) : Pm.Spec prog 111 [.imm (.val (.string (tx x0))), .imm (.val (.bool x1))] (.imm (.val (.int .i64 r))) [none, none] := by
 unfold isin_total.f at h; refine Pm.Spec.of_body Tryz.func111 rfl (by kernel_rfl) (Nat.le_of_ble_eq_true rfl) (Nat.le_of_ble_eq_true rfl) ?_; refine W.ghost (σ' := (mkSt [(0, some (.s x0)), (1, some (.b x1))] [] 1000)) (Gives.entry (.c rfl (.c rfl .n)) .n) ?_; refine W.seq ?_; refine W.pk ?_; refine .t rfl rfl (O.box rfl rfl rfl rfl rfl) ?_; refine .a rfl rfl rfl rfl ?_; refine .nil ?_; refine W.seq ?_; refine W.pk ?_; refine .t rfl rfl (O.alloc z3 rfl) ?_; refine .s rfl rfl (O.st ty3 rfl rfl rfl rfl rfl rfl rfl rfl rfl rfl (all' := [.i 0]) rfl) ?_; refine .nil ?_; refine W.seq ?_; refine W.pk ?_; refine .v rfl rfl (OpL.mkfn rfl rfl) ?_; refine .a rfl rfl rfl rfl ?_; refine .nil ?_; (iterate 2 refine W.seq ?_); refine W.pk ?_; refine .m rfl rfl rfl rfl ?_; refine .v rfl rfl (O.lenS u9 rfl rfl) ?_; refine .v rfl rfl (OpL.binI rfl rfl rfl rfl) ?_; refine .a rfl rfl rfl rfl ?_; refine .nil ?_; obtain ⟨o44, b45, h⟩ := bnd1 h; refine W.fork (mkSt [(5, some (.ptr 1001 0))] [(1001, some (.box [.i o44]))] 1002) ?_ ?_
 ·refine W.seq ?_; refine W.pk ?_; refine .v rfl rfl (O.ld (y := .i o44) ty3 rfl rfl rfl) ?_; refine .a rfl rfl rfl rfl ?_; refine .nil ?_; refine W.ret ?_; cases h; exact leaves (.inr rfl) rfl (.imm _) (cN (cN .nil)) rfl rfl
 ·clear h; refine W.block ?_; refine W.loopF (fun (s_ : Int × Bool × Int) => mkSt [(0, some (.s x0)), (5, some (.ptr 1001 0)), (6, some (.fn 120 [.ptr 1000 0, .ptr 1001 0])), (7, some (.i s_.1))] [(1000, some (.box [.b s_.2.1])), (1001, some (.box [.i s_.2.2]))] 1002) b45 (Gives.mkR [] (.e rfl rfl) (.e rfl rfl) rfl rfl rfl) ?_; rintro ⟨v14, v15, v16⟩ s_ hr; have h : isin_total.b0 x0 v14 v15 v16 = some s_ := hr; unfold isin_total.b0 at h; (iterate 2 refine W.seq ?_); refine W.pk ?_; refine .m rfl rfl rfl rfl ?_; refine .v rfl rfl (OpL.binI rfl rfl rfl rfl) ?_; refine .nil ?_; refine W.cond rfl (fun q47 => ?_) (fun q47 => ?_)
  ·have h := ifT q47 h; refine W.skip ?_; refine W.seq ?_; refine W.block ?_; (iterate 2 refine W.seq ?_); obtain ⟨c48, h⟩ := chk h; obtain ⟨t49, b50, h⟩ := bnd1 h; refine W.pk ?_; (iterate 2 refine .m rfl rfl rfl rfl ?_); refine .v rfl rfl (O.idxS u9 c48 rfl rfl rfl) ?_; refine .call (.b t49) [] 0 (isin_digit.ok b50) rfl rfl rfl ca93 rfl rfl (cC (.imm _) .nil) rfl rfl rfl rfl rfl ?_; refine .nil ?_; refine W.cond rfl (fun q51 => ?_) (fun q51 => ?_)
   ·have h := ifT q51 h; refine W.seq ?_; obtain ⟨c52, h⟩ := chk h; obtain ⟨t53, b54, h⟩ := bnd1 h; refine W.pk ?_; (iterate 3 refine .m rfl rfl rfl rfl ?_); refine .v rfl rfl (O.idxS u9 c52 rfl rfl rfl) ?_; refine .v rfl rfl (OpL.binI rfl rfl rfl rfl) ?_; refine .v rfl rfl (O.conv h5 u3 rfl rfl) ?_; refine .call (.tup []) [(1000, some (.box [.b t53.1])), (1001, some (.box [.i t53.2])), (1000, none), (1001, none)] 0 (isin_total_1.ok b54) rfl rfl rfl ca120 rfl rfl (cC (.imm _) (cC (.ptr _ _ _ _ _ rfl (cC (.imm _) .nil)) (cC (.ptr _ _ _ _ _ rfl (cC (.imm _) .nil)) .nil))) rfl rfl rfl rfl rfl ?_; refine .nil ?_; refine W.exit ?_; (repeat with_reducible refine thru ?_); refine hit ?_; refine W.pk ?_; refine .m rfl rfl rfl rfl ?_; refine .v rfl rfl (OpL.binI rfl rfl rfl rfl) ?_; refine .a rfl rfl rfl rfl ?_; refine .nil ?_; cases h; exact rdN (Gives.mkR [] (.e rfl rfl) (.e rfl rfl) rfl rfl rfl)
   ·have h := ifF q51 h; refine W.skip ?_; refine W.seq ?_; obtain ⟨c55, h⟩ := chk h; refine W.pk ?_; (iterate 2 refine .m rfl rfl rfl rfl ?_); refine .v rfl rfl (O.idxS u9 c55 rfl rfl rfl) ?_; refine .v rfl rfl (OpL.binI rfl rfl rfl rfl) ?_; refine .v rfl rfl (O.conv h5 u3 rfl rfl) ?_; refine .v rfl rfl (OpL.binI rfl rfl rfl rfl) ?_; refine .a rfl rfl rfl rfl ?_; refine .nil ?_; refine W.seq ?_; obtain ⟨t56, b57, h⟩ := bnd1 h; refine W.pk ?_; (iterate 2 refine .m rfl rfl rfl rfl ?_); refine .v rfl rfl (O.rem rfl rfl rfl (by decide)) ?_; refine .call (.tup []) [(1000, some (.box [.b t56.1])), (1001, some (.box [.i t56.2])), (1000, none), (1001, none)] 0 (isin_total_1.ok b57) rfl rfl rfl ca120 rfl rfl (cC (.imm _) (cC (.ptr _ _ _ _ _ rfl (cC (.imm _) .nil)) (cC (.ptr _ _ _ _ _ rfl (cC (.imm _) .nil)) .nil))) rfl rfl rfl rfl rfl ?_; refine .nil ?_; obtain ⟨t58, b59, h⟩ := bnd1 h; refine W.pk ?_; (iterate 2 refine .m rfl rfl rfl rfl ?_); refine .v rfl rfl (O.quo rfl rfl rfl (by decide)) ?_; refine .call (.tup []) [(1000, some (.box [.b t58.1])), (1001, some (.box [.i t58.2])), (1000, none), (1001, none)] 0 (isin_total_1.ok b59) rfl rfl rfl ca120 rfl rfl (cC (.imm _) (cC (.ptr _ _ _ _ _ rfl (cC (.imm _) .nil)) (cC (.ptr _ _ _ _ _ rfl (cC (.imm _) .nil)) .nil))) rfl rfl rfl rfl rfl ?_; refine .nil ?_; refine W.pk ?_; refine .m rfl rfl rfl rfl ?_; refine .v rfl rfl (OpL.binI rfl rfl rfl rfl) ?_; refine .a rfl rfl rfl rfl ?_; refine .nil ?_; cases h; exact rdN (Gives.mkR [] (.e rfl rfl) (.e rfl rfl) rfl rfl rfl)
  ·have h := ifF q47 h; refine W.exit ?_; cases h; refine rdX fun e_ => ?_; subst e_; (repeat with_reducible refine thru ?_); refine hit ?_; exact toN (Gives.mkR [] (.r rfl rfl .n) (.r rfl rfl rfl .n) rfl rfl rfl)

noncomputable def isin_Digit.f (x0 : Bs) : Option (Int × Int) :=
  (isin_shape.f x0).bind fun t1 =>
  if (!t1) = true then
    some (0, 11)
  else
    (isin_total.f x0 true).bind fun t4 =>
    some ((IntKind.wrap .u8 (IntKind.wrap .i64 (48 + (Int.tmod (IntKind.wrap .i64 (10 - (Int.tmod t4 10))) 10)))), 0)
set_option maxRecDepth 100000 in
set_option maxHeartbeats 4000000 in
theorem isin_Digit.ok {x0 : Bs} {r : Int × Int} (h : isin_Digit.f x0 = some r) : Pm.Spec prog 94 [.imm (.val (.string (tx x0)))] (.tup [.imm (.val (.int .u8 r.1)), .imm (.val (.int .i64 r.2))]) [none] := by
 unfold isin_Digit.f at h; refine Pm.Spec.of_body Tryz.func94 rfl (by kernel_rfl) (Nat.le_of_ble_eq_true rfl) (Nat.le_of_ble_eq_true rfl) ?_; refine W.ghost (σ' := (mkSt [(0, some (.s x0))] [] 1000)) (Gives.entry (.c rfl .n) .n) ?_; refine W.seq ?_; refine W.pk ?_; (iterate 2 refine .a rfl rfl rfl rfl ?_); refine .nil ?_; (iterate 2 refine W.seq ?_); obtain ⟨t1, b2, h⟩ := bnd1 h; refine W.pk ?_; refine .m rfl rfl rfl rfl ?_; refine .call (.b t1) [] 0 (isin_shape.ok b2) rfl rfl rfl ca110 rfl rfl (cC (.imm _) .nil) rfl rfl rfl rfl rfl ?_; refine .v rfl rfl (OpL.unV rfl rfl rfl) ?_; refine .nil ?_; refine W.cond rfl (fun q3 => ?_) (fun q3 => ?_)
 ·have h := ifT q3 h; refine W.seq ?_; refine W.pk ?_; (iterate 2 refine .a rfl rfl rfl rfl ?_); refine .nil ?_; refine W.ret ?_; cases h; exact leaves (.inr rfl) rfl (.tup _ _ _ _ (cC (.imm _) (cC (.imm _) .nil))) (cN .nil) rfl rfl
 ·have h := ifF q3 h; refine W.skip ?_; refine W.seq ?_; obtain ⟨t4, b5, h⟩ := bnd1 h; refine W.pk ?_; refine .m rfl rfl rfl rfl ?_; refine .call (.i t4) [] 0 (isin_total.ok b5) rfl rfl rfl ca111 rfl rfl (cC (.imm _) (cC (.imm _) .nil)) rfl rfl rfl rfl rfl ?_; refine .v rfl rfl (O.rem rfl rfl rfl (by decide)) ?_; refine .v rfl rfl (OpL.binI rfl rfl rfl rfl) ?_; refine .v rfl rfl (O.rem rfl rfl rfl (by decide)) ?_; refine .v rfl rfl (OpL.binI rfl rfl rfl rfl) ?_; refine .v rfl rfl (O.conv h3 u5 rfl rfl) ?_; (iterate 2 refine .a rfl rfl rfl rfl ?_); refine .nil ?_; refine W.ret ?_; cases h; exact leaves (.inr rfl) rfl (.tup _ _ _ _ (cC (.imm _) (cC (.imm _) .nil))) (cN .nil) rfl rfl

noncomputable def isin_Check.f (x0 : Bs) : Option (Int) :=
  if (((List.length x0 : Int) != 12) = false → (0 : Int) ≤ 11 ∧ 11 < (List.length x0 : Int)) then
  (if ((List.length x0 : Int) != 12) = false then isin_digit.f (byte x0 11) else some default).bind fun t2 =>
  if (((List.length x0 : Int) != 12) || (!t2)) = true then
    some 11
  else
    if (0 : Int) ≤ 0 ∧ (0 : Int) ≤ 11 ∧ 11 ≤ (List.length x0 : Int) then
    (isin_Digit.f (List.take (Int.toNat 11 - Int.toNat 0) (List.drop (Int.toNat 0) x0))).bind fun t7 =>
    if ((t7.2 == 0) = true → (0 : Int) ≤ 11 ∧ 11 < (List.length x0 : Int)) then
    if ((t7.2 == 0) && (t7.1 != (byte x0 11))) = true then
      some 12
    else
      some t7.2
    else none
    else none
  else none
set_option maxRecDepth 100000 in
set_option maxHeartbeats 4000000 in
theorem isin_Check.ok {x0 : Bs} {r : Int} (h : isin_Check.f x0 = some r) : Pm.Spec prog 49 [.imm (.val (.string (tx x0)))] (.imm (.val (.int .i64 r))) [none] := by
 unfold isin_Check.f at h; refine Pm.Spec.of_body Tryz.func49 rfl (by kernel_rfl) (Nat.le_of_ble_eq_true rfl) (Nat.le_of_ble_eq_true rfl) ?_; refine W.ghost (σ' := (mkSt [(0, some (.s x0))] [] 1000)) (Gives.entry (.c rfl .n) .n) ?_; refine W.seq ?_; refine W.pk ?_; refine .a rfl rfl rfl rfl ?_; refine .nil ?_; (iterate 2 refine W.seq ?_); obtain ⟨c1, h⟩ := chk h; obtain ⟨t2, b3, h⟩ := bnd1 h; refine W.fork (mkSt [(0, some (.s x0)), (13, some (.b (((List.length x0 : Int) != 12) || (!t2))))] [] 1000) ?_ ?_
 ·refine W.cond rfl (fun q5 => ?_) (fun q5 => ?_)
  ·have h := ifT q5 h; refine W.seq ?_; refine W.pk ?_; refine .a rfl rfl rfl rfl ?_; refine .nil ?_; refine W.ret ?_; cases h; exact leaves (.inr rfl) rfl (.imm _) (cN .nil) rfl rfl
  ·have h := ifF q5 h; refine W.skip ?_; refine W.seq ?_; obtain ⟨c6, h⟩ := chk h; obtain ⟨t7, b8, h⟩ := bnd1 h; refine W.pk ?_; refine .m rfl rfl rfl rfl ?_; refine .v rfl rfl (O.partS u9 c6 rfl rfl rfl rfl) ?_; refine .call (.tup [.imm (.val (.int .u8 t7.1)), .i t7.2]) [] 0 (isin_Digit.ok b8) rfl rfl rfl ca94 rfl rfl (cC (.imm _) .nil) rfl rfl rfl rfl rfl ?_; refine .m rfl rfl rfl rfl ?_; (iterate 2 refine .v rfl rfl (OpL.extract rfl rfl rfl) ?_); (iterate 2 refine .a rfl rfl rfl rfl ?_); refine .nil ?_; (iterate 2 refine W.seq ?_); obtain ⟨c9, h⟩ := chk h; refine W.fork (mkSt [(4, some (.i t7.2)), (27, some (.b ((t7.2 == 0) && (t7.1 != (byte x0 11)))))] [] 1000) ?_ ?_
   ·refine W.cond rfl (fun q11 => ?_) (fun q11 => ?_)
    ·have h := ifT q11 h; refine W.pk ?_; refine .a rfl rfl rfl rfl ?_; refine .nil ?_; refine W.seq ?_; refine W.pk ?_; refine .m rfl rfl rfl rfl ?_; refine .a rfl rfl rfl rfl ?_; refine .nil ?_; refine W.ret ?_; cases h; exact leaves (.inr rfl) rfl (.imm _) (cN .nil) rfl rfl
    ·have h := ifF q11 h; refine W.skip ?_; refine W.seq ?_; refine W.pk ?_; refine .m rfl rfl rfl rfl ?_; refine .a rfl rfl rfl rfl ?_; refine .nil ?_; refine W.ret ?_; cases h; exact leaves (.inr rfl) rfl (.imm _) (cN .nil) rfl rfl
   ·clear h; refine W.pk ?_; refine .m rfl rfl rfl rfl ?_; refine .v rfl rfl (OpL.binI rfl rfl rfl rfl) ?_; refine .m rfl rfl rfl rfl ?_; rcases tf (t7.2 == 0) with g10 | g10
    ·(iterate 2 refine .m rfl (met rfl rfl rfl g10) rfl rfl ?_); refine .v rfl (met rfl rfl rfl g10) (O.idxS u9 (c9 (by simp only [g10, BL])) rfl rfl rfl) ?_; refine .v rfl (met rfl rfl rfl g10) (OpL.binI rfl rfl rfl rfl) ?_; refine .v rfl rfl (O.pickT g10 rfl rfl rfl) ?_; refine .nil ?_; exact toN (Gives.mkR [] (.r rfl rfl (.c rfl (sbb (by simp only [g10, BL])) rfl .n)) .n rfl rfl rfl)
    ·(iterate 4 refine .x rfl (unmet rfl rfl rfl g10) ?_); refine .v rfl rfl (O.pickF g10 rfl rfl rfl) ?_; refine .nil ?_; exact toN (Gives.mkR [] (.r rfl rfl (.c rfl (sbb (by simp only [g10, BL])) rfl .n)) .n rfl rfl rfl)
 ·clear h; refine W.pk ?_; refine .m rfl rfl rfl rfl ?_; refine .v rfl rfl (O.lenS u9 rfl rfl) ?_; refine .v rfl rfl (OpL.binI rfl rfl rfl rfl) ?_; refine .m rfl rfl rfl rfl ?_; rcases tf ((List.length x0 : Int) != 12) with g4 | g4
  ·(iterate 4 refine .x rfl (unmet rfl rfl rfl g4) ?_); refine .v rfl rfl (O.pickT g4 rfl rfl rfl) ?_; refine .nil ?_; exact toN (Gives.mkR [] (.r rfl rfl (.c rfl (sbb (by simp only [g4, BL])) rfl .n)) .n rfl rfl rfl)
  ·refine .m rfl (met rfl rfl rfl g4) rfl rfl ?_; refine .v rfl (met rfl rfl rfl g4) (O.idxS u9 (c1 (by simp only [g4, BL])) rfl rfl rfl) ?_; refine .call (.b t2) [] 0 (isin_digit.ok ((if_pos (by simp only [g4, BL])).symm.trans b3)) rfl (met rfl rfl rfl g4) rfl ca93 rfl rfl (cC (.imm _) .nil) rfl rfl rfl rfl rfl ?_; refine .v rfl (met rfl rfl rfl g4) (OpL.unV rfl rfl rfl) ?_; refine .v rfl rfl (O.pickF g4 rfl rfl rfl) ?_; refine .nil ?_; exact toN (Gives.mkR [] (.r rfl rfl (.c rfl (sbb (by simp only [g4, BL])) rfl .n)) .n rfl rfl rfl)

noncomputable def isin_Currency.f (x0 : Bs) : Option (Bool) :=
  if (x0 == [69, 85, 82]) = true then
    if (x0 == [69, 85, 82]) = true then
      some true
    else
      some false
  else
    if (x0 == [85, 83, 68]) = true then
      if (x0 == [85, 83, 68]) = true then
        some true
      else
        some false
    else
      if (x0 == [71, 66, 80]) = true then
        if (x0 == [71, 66, 80]) = true then
          some true
        else
          some false
      else
        if (x0 == [67, 72, 70]) = true then
          if (x0 == [67, 72, 70]) = true then
            some true
          else
            some false
        else
          if (x0 == [74, 80, 89]) = true then
            if (x0 == [74, 80, 89]) = true then
              some true
            else
              some false
          else
            if (x0 == [83, 69, 75]) = true then
              if (x0 == [83, 69, 75]) = true then
                some true
              else
                some false
            else
              if (x0 == [78, 79, 75]) = true then
                if (x0 == [78, 79, 75]) = true then
                  some true
                else
                  some false
              else
                if (x0 == [68, 75, 75]) = true then
                  some true
                else
                  some false
set_option maxRecDepth 100000 in
set_option maxHeartbeats 4000000 in
theorem isin_Currency.ok {x0 : Bs} {r : Bool} (h : isin_Currency.f x0 = some r) : Pm.Spec prog 47 [.imm (.val (.string (tx x0)))] (.imm (.val (.bool r))) [none] := by
 unfold isin_Currency.f at h; refine Pm.Spec.of_body Tryz.func47 rfl (by kernel_rfl) (Nat.le_of_ble_eq_true rfl) (Nat.le_of_ble_eq_true rfl) ?_; refine W.ghost (σ' := (mkSt [(0, some (.s x0))] [] 1000)) (Gives.entry (.c rfl .n) .n) ?_; refine W.seq ?_; refine W.pk ?_; refine .a rfl rfl rfl rfl ?_; refine .nil ?_; (iterate 2 refine W.seq ?_); refine W.pk ?_; refine .m rfl rfl rfl rfl ?_; refine .nil ?_; refine W.block ?_; (iterate 2 refine W.seq ?_); refine W.pk ?_; refine .v rfl rfl (O.cmpS rfl rfl rfl rfl) ?_; refine .a rfl rfl rfl rfl ?_; refine .nil ?_; refine W.cond rfl (fun q1 => ?_) (fun q1 => ?_)
 ·have h := ifT q1 h; refine W.skip ?_; refine W.cond rfl (fun q2 => ?_) (fun q2 => ?_)
  ·have h := ifT q2 h; refine W.seq ?_; refine W.pk ?_; refine .a rfl rfl rfl rfl ?_; refine .nil ?_; refine W.ret ?_; cases h; exact leaves (.inr rfl) rfl (.imm _) (cN .nil) rfl rfl
  ·have h := ifF q2 h; refine W.skip ?_; refine W.seq ?_; refine W.pk ?_; refine .a rfl rfl rfl rfl ?_; refine .nil ?_; refine W.ret ?_; cases h; exact leaves (.inr rfl) rfl (.imm _) (cN .nil) rfl rfl
 ·have h := ifF q1 h; refine W.seq ?_; refine W.pk ?_; refine .v rfl rfl (O.cmpS rfl rfl rfl rfl) ?_; refine .a rfl rfl rfl rfl ?_; refine .nil ?_; refine W.cond rfl (fun q3 => ?_) (fun q3 => ?_)
  ·have h := ifT q3 h; refine W.skip ?_; refine W.cond rfl (fun q4 => ?_) (fun q4 => ?_)
   ·have h := ifT q4 h; refine W.seq ?_; refine W.pk ?_; refine .a rfl rfl rfl rfl ?_; refine .nil ?_; refine W.ret ?_; cases h; exact leaves (.inr rfl) rfl (.imm _) (cN .nil) rfl rfl
   ·have h := ifF q4 h; refine W.skip ?_; refine W.seq ?_; refine W.pk ?_; refine .a rfl rfl rfl rfl ?_; refine .nil ?_; refine W.ret ?_; cases h; exact leaves (.inr rfl) rfl (.imm _) (cN .nil) rfl rfl
  ·have h := ifF q3 h; refine W.seq ?_; refine W.pk ?_; refine .v rfl rfl (O.cmpS rfl rfl rfl rfl) ?_; refine .a rfl rfl rfl rfl ?_; refine .nil ?_; refine W.cond rfl (fun q5 => ?_) (fun q5 => ?_)
   ·have h := ifT q5 h; refine W.skip ?_; refine W.cond rfl (fun q6 => ?_) (fun q6 => ?_)
    ·have h := ifT q6 h; refine W.seq ?_; refine W.pk ?_; refine .a rfl rfl rfl rfl ?_; refine .nil ?_; refine W.ret ?_; cases h; exact leaves (.inr rfl) rfl (.imm _) (cN .nil) rfl rfl
    ·have h := ifF q6 h; refine W.skip ?_; refine W.seq ?_; refine W.pk ?_; refine .a rfl rfl rfl rfl ?_; refine .nil ?_; refine W.ret ?_; cases h; exact leaves (.inr rfl) rfl (.imm _) (cN .nil) rfl rfl
   ·have h := ifF q5 h; refine W.seq ?_; refine W.pk ?_; refine .v rfl rfl (O.cmpS rfl rfl rfl rfl) ?_; refine .a rfl rfl rfl rfl ?_; refine .nil ?_; refine W.cond rfl (fun q7 => ?_) (fun q7 => ?_)
    ·have h := ifT q7 h; refine W.skip ?_; refine W.cond rfl (fun q8 => ?_) (fun q8 => ?_)
     ·have h := ifT q8 h; refine W.seq ?_; refine W.pk ?_; refine .a rfl rfl rfl rfl ?_; refine .nil ?_; refine W.ret ?_; cases h; exact leaves (.inr rfl) rfl (.imm _) (cN .nil) rfl rfl
     ·have h := ifF q8 h; refine W.skip ?_; refine W.seq ?_; refine W.pk ?_; refine .a rfl rfl rfl rfl ?_; refine .nil ?_; refine W.ret ?_; cases h; exact leaves (.inr rfl) rfl (.imm _) (cN .nil) rfl rfl
    ·have h := ifF q7 h; refine W.seq ?_; refine W.pk ?_; refine .v rfl rfl (O.cmpS rfl rfl rfl rfl) ?_; refine .a rfl rfl rfl rfl ?_; refine .nil ?_; refine W.cond rfl (fun q9 => ?_) (fun q9 => ?_)
     ·have h := ifT q9 h; refine W.skip ?_; refine W.cond rfl (fun q10 => ?_) (fun q10 => ?_)
      ·have h := ifT q10 h; refine W.seq ?_; refine W.pk ?_; refine .a rfl rfl rfl rfl ?_; refine .nil ?_; refine W.ret ?_; cases h; exact leaves (.inr rfl) rfl (.imm _) (cN .nil) rfl rfl
      ·have h := ifF q10 h; refine W.skip ?_; refine W.seq ?_; refine W.pk ?_; refine .a rfl rfl rfl rfl ?_; refine .nil ?_; refine W.ret ?_; cases h; exact leaves (.inr rfl) rfl (.imm _) (cN .nil) rfl rfl
     ·have h := ifF q9 h; refine W.seq ?_; refine W.pk ?_; refine .v rfl rfl (O.cmpS rfl rfl rfl rfl) ?_; refine .a rfl rfl rfl rfl ?_; refine .nil ?_; refine W.cond rfl (fun q11 => ?_) (fun q11 => ?_)
      ·have h := ifT q11 h; refine W.skip ?_; refine W.cond rfl (fun q12 => ?_) (fun q12 => ?_)
       ·have h := ifT q12 h; refine W.seq ?_; refine W.pk ?_; refine .a rfl rfl rfl rfl ?_; refine .nil ?_; refine W.ret ?_; cases h; exact leaves (.inr rfl) rfl (.imm _) (cN .nil) rfl rfl
       ·have h := ifF q12 h; refine W.skip ?_; refine W.seq ?_; refine W.pk ?_; refine .a rfl rfl rfl rfl ?_; refine .nil ?_; refine W.ret ?_; cases h; exact leaves (.inr rfl) rfl (.imm _) (cN .nil) rfl rfl
      ·have h := ifF q11 h; refine W.seq ?_; refine W.pk ?_; refine .v rfl rfl (O.cmpS rfl rfl rfl rfl) ?_; refine .a rfl rfl rfl rfl ?_; refine .nil ?_; refine W.cond rfl (fun q13 => ?_) (fun q13 => ?_)
       ·have h := ifT q13 h; refine W.skip ?_; refine W.cond rfl (fun q14 => ?_) (fun q14 => ?_)
        ·have h := ifT q14 h; refine W.seq ?_; refine W.pk ?_; refine .a rfl rfl rfl rfl ?_; refine .nil ?_; refine W.ret ?_; cases h; exact leaves (.inr rfl) rfl (.imm _) (cN .nil) rfl rfl
        ·have h := ifF q14 h; refine W.skip ?_; refine W.seq ?_; refine W.pk ?_; refine .a rfl rfl rfl rfl ?_; refine .nil ?_; refine W.ret ?_; cases h; exact leaves (.inr rfl) rfl (.imm _) (cN .nil) rfl rfl
       ·have h := ifF q13 h; refine W.pk ?_; refine .v rfl rfl (O.cmpS rfl rfl rfl rfl) ?_; refine .a rfl rfl rfl rfl ?_; refine .nil ?_; refine W.cond rfl (fun q15 => ?_) (fun q15 => ?_)
        ·have h := ifT q15 h; refine W.seq ?_; refine W.pk ?_; refine .a rfl rfl rfl rfl ?_; refine .nil ?_; refine W.ret ?_; cases h; exact leaves (.inr rfl) rfl (.imm _) (cN .nil) rfl rfl
        ·have h := ifF q15 h; refine W.skip ?_; refine W.seq ?_; refine W.pk ?_; refine .a rfl rfl rfl rfl ?_; refine .nil ?_; refine W.ret ?_; cases h; exact leaves (.inr rfl) rfl (.imm _) (cN .nil) rfl rfl

noncomputable def isin_Asset.f (x0 : api_Asset) : Option (Int) :=
  (isin_Check.f x0.ISIN).bind fun t1 =>
  if (t1 != 0) = true then
    some t1
  else
    (isin_Currency.f x0.Currency).bind fun t4 =>
    if (!t4) = true then
      some 11
    else
      if ((((decide (x0.Issuer < 0)) || (decide (x0.Issuer > 9999))) || (decide (x0.Rating < 0))) || (decide (x0.Rating > 20))) = true then
        some 1
      else
        if ((decide (x0.Maturity < 0)) || (decide (x0.Maturity > 200000))) = true then
          some 10
        else
          some 0
set_option maxRecDepth 100000 in
set_option maxHeartbeats 4000000 in
theorem isin_Asset.ok {x0 : api_Asset} {r : Int} (h : isin_Asset.f x0 = some r) : Pm.Spec prog 42 [.agg [.imm (.val (.string (tx x0.ISIN))), .imm (.val (.int .i64 x0.Issuer)), .imm (.val (.int .i64 x0.Rating)), .imm (.val (.int .i64 x0.Maturity)), .imm (.val (.string (tx x0.Currency)))]] (.imm (.val (.int .i64 r))) [none] := by
 unfold isin_Asset.f at h; refine Pm.Spec.of_body Tryz.func42 rfl (by kernel_rfl) (Nat.le_of_ble_eq_true rfl) (Nat.le_of_ble_eq_true rfl) ?_; refine W.ghost (σ' := (mkSt [(0, some (.agg (api_Asset.av x0)))] [] 1000)) (Gives.entry (.c rfl .n) .n) ?_; refine W.seq ?_; refine W.pk ?_; refine .t rfl rfl (O.box rfl rfl rfl rfl rfl) ?_; refine .a rfl rfl rfl rfl ?_; refine .nil ?_; (iterate 2 refine W.seq ?_); obtain ⟨t1, b2, h⟩ := bnd1 h; refine W.pk ?_; refine .v rfl rfl (O.fld fld23_0 rfl rfl rfl) ?_; refine .v rfl rfl (O.ld (y := .s x0.ISIN) ty9 rfl rfl rfl) ?_; refine .call (.i t1) [] 0 (isin_Check.ok b2) rfl rfl rfl ca49 rfl rfl (cC (.imm _) .nil) rfl rfl rfl rfl rfl ?_; refine .a rfl rfl rfl rfl ?_; refine .nil ?_; refine W.seq ?_; refine W.pk ?_; refine .m rfl rfl rfl rfl ?_; refine .v rfl rfl (OpL.binI rfl rfl rfl rfl) ?_; refine .nil ?_; refine W.cond rfl (fun q3 => ?_) (fun q3 => ?_)
 ·have h := ifT q3 h; refine W.seq ?_; refine W.pk ?_; refine .m rfl rfl rfl rfl ?_; refine .a rfl rfl rfl rfl ?_; refine .nil ?_; refine W.ret ?_; cases h; exact leaves (.inr rfl) rfl (.imm _) (cN .nil) rfl rfl
 ·have h := ifF q3 h; refine W.skip ?_; refine W.seq ?_; refine W.block ?_; refine W.seq ?_; obtain ⟨t4, b5, h⟩ := bnd1 h; refine W.pk ?_; refine .v rfl rfl (O.fld fld23_4 rfl rfl rfl) ?_; refine .v rfl rfl (O.ld (y := .s x0.Currency) ty9 rfl rfl rfl) ?_; refine .call (.b t4) [] 0 (isin_Currency.ok b5) rfl rfl rfl ca47 rfl rfl (cC (.imm _) .nil) rfl rfl rfl rfl rfl ?_; refine .v rfl rfl (OpL.unV rfl rfl rfl) ?_; refine .a rfl rfl rfl rfl ?_; refine .nil ?_; refine W.cond rfl (fun q6 => ?_) (fun q6 => ?_)
  ·have h := ifT q6 h; refine W.seq ?_; refine W.pk ?_; refine .a rfl rfl rfl rfl ?_; refine .nil ?_; refine W.ret ?_; cases h; exact leaves (.inr rfl) rfl (.imm _) (cN .nil) rfl rfl
  ·have h := ifF q6 h; refine W.seq ?_; refine W.fork (mkSt [(1, some (.ptr 1000 0)), (15, some (.b ((((decide (x0.Issuer < 0)) || (decide (x0.Issuer > 9999))) || (decide (x0.Rating < 0))) || (decide (x0.Rating > 20)))))] [(1000, some (.box [.s x0.ISIN, .i x0.Issuer, .i x0.Rating, .i x0.Maturity, .s x0.Currency]))] 1001) ?_ ?_
   ·refine W.cond rfl (fun q10 => ?_) (fun q10 => ?_)
    ·have h := ifT q10 h; refine W.seq ?_; refine W.pk ?_; refine .a rfl rfl rfl rfl ?_; refine .nil ?_; refine W.ret ?_; cases h; exact leaves (.inr rfl) rfl (.imm _) (cN .nil) rfl rfl
    ·have h := ifF q10 h; refine W.seq ?_; refine W.fork (mkSt [(34, some (.b ((decide (x0.Maturity < 0)) || (decide (x0.Maturity > 200000)))))] [] 1001) ?_ ?_
     ·refine W.cond rfl (fun q12 => ?_) (fun q12 => ?_)
      ·have h := ifT q12 h; refine W.seq ?_; refine W.pk ?_; refine .a rfl rfl rfl rfl ?_; refine .nil ?_; refine W.ret ?_; cases h; exact leaves (.inr rfl) rfl (.imm _) (cN .nil) rfl rfl
      ·have h := ifF q12 h; refine W.skip ?_; refine W.seq ?_; refine W.pk ?_; refine .a rfl rfl rfl rfl ?_; refine .nil ?_; refine W.ret ?_; cases h; exact leaves (.inr rfl) rfl (.imm _) (cN .nil) rfl rfl
     ·clear h; refine W.pk ?_; refine .v rfl rfl (O.fld fld23_3 rfl rfl rfl) ?_; refine .v rfl rfl (O.ld (y := .i x0.Maturity) ty3 rfl rfl rfl) ?_; refine .v rfl rfl (OpL.binI rfl rfl rfl rfl) ?_; refine .m rfl rfl rfl rfl ?_; rcases tf (decide (x0.Maturity < 0)) with g11 | g11
      ·(iterate 3 refine .x rfl (unmet rfl rfl rfl g11) ?_); refine .v rfl rfl (O.pickT g11 rfl rfl rfl) ?_; refine .a rfl rfl rfl rfl ?_; refine .nil ?_; exact toN (Gives.mkR [] (.c rfl (sbb (by simp only [g11, BL])) rfl .n) .n rfl rfl rfl)
      ·refine .v rfl (met rfl rfl rfl g11) (O.fld fld23_3 rfl rfl rfl) ?_; refine .v rfl (met rfl rfl rfl g11) (O.ld (y := .i x0.Maturity) ty3 rfl rfl rfl) ?_; refine .v rfl (met rfl rfl rfl g11) (OpL.binI rfl rfl rfl rfl) ?_; refine .v rfl rfl (O.pickF g11 rfl rfl rfl) ?_; refine .a rfl rfl rfl rfl ?_; refine .nil ?_; exact toN (Gives.mkR [] (.c rfl (sbb (by simp only [g11, BL])) rfl .n) .n rfl rfl rfl)
   ·clear h; refine W.pk ?_; refine .v rfl rfl (O.fld fld23_1 rfl rfl rfl) ?_; refine .v rfl rfl (O.ld (y := .i x0.Issuer) ty3 rfl rfl rfl) ?_; refine .v rfl rfl (OpL.binI rfl rfl rfl rfl) ?_; refine .m rfl rfl rfl rfl ?_; rcases tf (decide (x0.Issuer < 0)) with g7 | g7
    ·(iterate 3 refine .x rfl (unmet rfl rfl rfl g7) ?_); refine .v rfl rfl (O.pickT g7 rfl rfl rfl) ?_; refine .m rfl rfl rfl rfl ?_; (iterate 3 refine .x rfl (unmet rfl rfl rfl rfl) ?_); refine .v rfl rfl (O.pickT rfl rfl rfl rfl) ?_; refine .m rfl rfl rfl rfl ?_; (iterate 3 refine .x rfl (unmet rfl rfl rfl rfl) ?_); refine .v rfl rfl (O.pickT rfl rfl rfl rfl) ?_; refine .a rfl rfl rfl rfl ?_; refine .nil ?_; exact toN (Gives.mkR [] (.r rfl rfl (.c rfl (sbb (by simp only [g7, BL])) rfl .n)) (.r rfl rfl rfl .n) rfl rfl rfl)
    ·refine .v rfl (met rfl rfl rfl g7) (O.fld fld23_1 rfl rfl rfl) ?_; refine .v rfl (met rfl rfl rfl g7) (O.ld (y := .i x0.Issuer) ty3 rfl rfl rfl) ?_; refine .v rfl (met rfl rfl rfl g7) (OpL.binI rfl rfl rfl rfl) ?_; refine .v rfl rfl (O.pickF g7 rfl rfl rfl) ?_; refine .m rfl rfl rfl rfl ?_; rcases tf (decide (x0.Issuer > 9999)) with g8 | g8
     ·(iterate 3 refine .x rfl (unmet rfl rfl rfl g8) ?_); refine .v rfl rfl (O.pickT g8 rfl rfl rfl) ?_; refine .m rfl rfl rfl rfl ?_; (iterate 3 refine .x rfl (unmet rfl rfl rfl rfl) ?_); refine .v rfl rfl (O.pickT rfl rfl rfl rfl) ?_; refine .a rfl rfl rfl rfl ?_; refine .nil ?_; exact toN (Gives.mkR [] (.r rfl rfl (.c rfl (sbb (by first | (simp only [g7, g8, BL]; done) | (repeat (first | rw [g7] | rw [g8])) <;> simp only [BL])) rfl .n)) (.r rfl rfl rfl .n) rfl rfl rfl)
     ·refine .v rfl (met rfl rfl rfl g8) (O.fld fld23_2 rfl rfl rfl) ?_; refine .v rfl (met rfl rfl rfl g8) (O.ld (y := .i x0.Rating) ty3 rfl rfl rfl) ?_; refine .v rfl (met rfl rfl rfl g8) (OpL.binI rfl rfl rfl rfl) ?_; refine .v rfl rfl (O.pickF g8 rfl rfl rfl) ?_; refine .m rfl rfl rfl rfl ?_; rcases tf (decide (x0.Rating < 0)) with g9 | g9
      ·(iterate 3 refine .x rfl (unmet rfl rfl rfl g9) ?_); refine .v rfl rfl (O.pickT g9 rfl rfl rfl) ?_; refine .a rfl rfl rfl rfl ?_; refine .nil ?_; exact toN (Gives.mkR [] (.r rfl rfl (.c rfl (sbb (by first | (simp only [g7, g8, g9, BL]; done) | (repeat (first | rw [g7] | rw [g8] | rw [g9])) <;> simp only [BL])) rfl .n)) (.r rfl rfl rfl .n) rfl rfl rfl)
      ·refine .v rfl (met rfl rfl rfl g9) (O.fld fld23_2 rfl rfl rfl) ?_; refine .v rfl (met rfl rfl rfl g9) (O.ld (y := .i x0.Rating) ty3 rfl rfl rfl) ?_; refine .v rfl (met rfl rfl rfl g9) (OpL.binI rfl rfl rfl rfl) ?_; refine .v rfl rfl (O.pickF g9 rfl rfl rfl) ?_; refine .a rfl rfl rfl rfl ?_; refine .nil ?_; exact toN (Gives.mkR [] (.r rfl rfl (.c rfl (sbb (by first | (simp only [g7, g8, g9, BL]; done) | (repeat (first | rw [g7] | rw [g8] | rw [g9])) <;> simp only [BL])) rfl .n)) (.r rfl rfl rfl .n) rfl rfl rfl)

noncomputable def msg_Basket_1.f (x0 : Int) : Option (Bool) :=
  some ((decide (x0 ≥ 0)) && (decide (x0 ≤ 1000000)))
set_option maxRecDepth 100000 in
set_option maxHeartbeats 4000000 in
theorem msg_Basket_1.ok {x0 : Int} {r : Bool} (h : msg_Basket_1.f x0 = some r) : Pm.Spec prog 92 [.imm (.val (.int .i64 x0))] (.imm (.val (.bool r))) [none] := by
 unfold msg_Basket_1.f at h; refine Pm.Spec.of_body Tryz.func92 rfl (by kernel_rfl) (Nat.le_of_ble_eq_true rfl) (Nat.le_of_ble_eq_true rfl) ?_; refine W.ghost (σ' := (mkSt [(0, some (.i x0))] [] 1000)) (Gives.entry (.c rfl .n) .n) ?_; refine W.seq ?_; refine W.pk ?_; refine .a rfl rfl rfl rfl ?_; refine .nil ?_; refine W.seq ?_; refine W.fork (mkSt [(2, some (.b ((decide (x0 ≥ 0)) && (decide (x0 ≤ 1000000)))))] [] 1000) ?_ ?_
 ·refine W.ret ?_; cases h; exact leaves (.inr rfl) rfl (.imm _) (cN .nil) rfl rfl
 ·clear h; refine W.pk ?_; refine .m rfl rfl rfl rfl ?_; refine .v rfl rfl (OpL.binI rfl rfl rfl rfl) ?_; refine .m rfl rfl rfl rfl ?_; rcases tf (decide (x0 ≥ 0)) with g1 | g1
  ·refine .m rfl (met rfl rfl rfl g1) rfl rfl ?_; refine .v rfl (met rfl rfl rfl g1) (OpL.binI rfl rfl rfl rfl) ?_; refine .v rfl rfl (O.pickT g1 rfl rfl rfl) ?_; refine .a rfl rfl rfl rfl ?_; refine .nil ?_; exact toN (Gives.mkR [] (.c rfl (sbb (by simp only [g1, BL])) rfl .n) .n rfl rfl rfl)
  ·(iterate 2 refine .x rfl (unmet rfl rfl rfl g1) ?_); refine .v rfl rfl (O.pickF g1 rfl rfl rfl) ?_; refine .a rfl rfl rfl rfl ?_; refine .nil ?_; exact toN (Gives.mkR [] (.c rfl (sbb (by simp only [g1, BL])) rfl .n) .n rfl rfl rfl)

noncomputable def msg_Basket.b0 (x0 : api_Basket) (v30 : Int) : Option (Int ⊕ (Int ⊕ Unit)) :=
  if (decide (v30 < (List.length x0.Cuts : Int))) = true then
    if (0 : Int) ≤ v30 ∧ v30 < (List.length x0.Cuts : Int) then
    if ((((((decide (((nth x0.Cuts v30).Days) < 0)) || (decide (((nth x0.Cuts v30).Days) > 200000))) || (decide (((nth x0.Cuts v30).Rating) < 0))) || (decide (((nth x0.Cuts v30).Rating) > 20))) || (decide (((nth x0.Cuts v30).Cut) < 0))) || (decide (((nth x0.Cuts v30).Cut) ≥ 1000000))) = true then
      some (.inr (.inl 1))
    else
      some (.inl (IntKind.wrap .i64 (v30 + 1)))
    else none
  else
    some (.inr (.inr ()))
noncomputable def msg_Basket.r0 (x0 : api_Basket) (s : Int) : Option (Int ⊕ (Int ⊕ Unit)) := msg_Basket.b0 x0 s
noncomputable def msg_Basket.b1 (x0 : api_Basket) (v67 : Int) : Option (Int ⊕ (Int ⊕ Unit)) :=
  if (decide (v67 < (List.length x0.Barred : Int))) = true then
    if (0 : Int) ≤ v67 ∧ v67 < (List.length x0.Barred : Int) then
    if (((decide ((nth x0.Barred v67) < 0)) || (decide ((nth x0.Barred v67) > 9999))) = false ∧ (decide (v67 > 0)) = true → (0 : Int) ≤ (IntKind.wrap .i64 (v67 - 1)) ∧ (IntKind.wrap .i64 (v67 - 1)) < (List.length x0.Barred : Int)) then
    if (((decide ((nth x0.Barred v67) < 0)) || (decide ((nth x0.Barred v67) > 9999))) || ((decide (v67 > 0)) && (decide ((nth x0.Barred v67) ≤ (nth x0.Barred (IntKind.wrap .i64 (v67 - 1))))))) = true then
      some (.inr (.inl 1))
    else
      some (.inl (IntKind.wrap .i64 (v67 + 1)))
    else none
    else none
  else
    some (.inr (.inr ()))
noncomputable def msg_Basket.r1 (x0 : api_Basket) (s : Int) : Option (Int ⊕ (Int ⊕ Unit)) := msg_Basket.b1 x0 s
noncomputable def msg_Basket.f (x0 : api_Basket) : Option (Int) :=
  if ((((((decide (x0.ID < 1)) || (decide (x0.ID > 64))) || (decide (x0.Version < 1))) || (decide (x0.Version > 1125899906842624))) || (decide (x0.Rating < 0))) || (decide (x0.Rating > 20))) = true then
    some 1
  else
    (msg_Basket_1.f x0.Issuer).bind fun t7 =>
    (if (!t7) = false then msg_Basket_1.f x0.Asset else some default).bind fun t9 =>
    if (((((!t7) || (!t9)) || ((List.length x0.Cuts : Int) == 0)) || (decide ((List.length x0.Cuts : Int) > 64))) || (decide ((List.length x0.Barred : Int) > 64))) = true then
      some 1
    else
      if (((decide (x0.Least < 0)) || (decide (x0.Most < x0.Least))) || (decide (x0.Most > 200000))) = true then
        some 10
      else
        (isin_Currency.f x0.Currency).bind fun t19 =>
        if (!t19) = true then
          some 11
        else
          (loop (msg_Basket.r0 x0) 0).bind fun o48 =>
          match o48 with
          | .inl r59 => some r59
          | .inr w47 =>
            (loop (msg_Basket.r1 x0) 0).bind fun o83 =>
            match o83 with
            | .inl r93 => some r93
            | .inr w82 =>
              some 0
set_option maxRecDepth 100000 in
set_option maxHeartbeats 4000000 in
theorem msg_Basket.ok {x0 : api_Basket} {r : Int} (h : msg_Basket.f x0 = some r) : Pm.Spec prog 43 [.agg [.imm (.val (.int .i64 x0.ID)), .imm (.val (.int .i64 x0.Version)), .imm (.val (.string (tx x0.Currency))), .imm (.val (.int .i64 x0.Rating)), .imm (.val (.int .i64 x0.Least)), .imm (.val (.int .i64 x0.Most)), .imm (.row 3 (List.map api_Cut.enc x0.Cuts)), .imm (.val (.int .i64 x0.Issuer)), .imm (.val (.int .i64 x0.Asset)), .imm (.row 1 (List.map (encI .i64) x0.Barred))]] (.imm (.val (.int .i64 r))) [none] := by
 unfold msg_Basket.f at h; refine Pm.Spec.of_body Tryz.func43 rfl (by kernel_rfl) (Nat.le_of_ble_eq_true rfl) (Nat.le_of_ble_eq_true rfl) ?_; refine W.ghost (σ' := (mkSt [(0, some (.agg (api_Basket.av x0)))] [] 1000)) (Gives.entry (.c rfl .n) .n) ?_; refine W.seq ?_; refine W.pk ?_; refine .t rfl rfl (O.box rfl rfl rfl rfl rfl) ?_; refine .a rfl rfl rfl rfl ?_; refine .nil ?_; refine W.seq ?_; refine W.pk ?_; refine .a rfl rfl rfl rfl ?_; refine .nil ?_; refine W.seq ?_; refine W.block ?_; refine W.seq ?_; refine W.fork (mkSt [(1, some (.ptr 1000 0)), (3, some (.fn 92 [])), (8, some (.b ((((((decide (x0.ID < 1)) || (decide (x0.ID > 64))) || (decide (x0.Version < 1))) || (decide (x0.Version > 1125899906842624))) || (decide (x0.Rating < 0))) || (decide (x0.Rating > 20)))))] [(1000, some (.box [.i x0.ID, .i x0.Version, .s x0.Currency, .i x0.Rating, .i x0.Least, .i x0.Most, .imm (.row 3 (List.map api_Cut.enc x0.Cuts)), .i x0.Issuer, .i x0.Asset, .imm (.row 1 (List.map (encI .i64) x0.Barred))]))] 1001) ?_ ?_
 ·refine W.cond rfl (fun q6 => ?_) (fun q6 => ?_)
  ·have h := ifT q6 h; refine W.seq ?_; refine W.pk ?_; refine .a rfl rfl rfl rfl ?_; refine .nil ?_; refine W.ret ?_; cases h; exact leaves (.inr rfl) rfl (.imm _) (cN .nil) rfl rfl
  ·have h := ifF q6 h; refine W.seq ?_; obtain ⟨t7, b8, h⟩ := bnd1 h; obtain ⟨t9, b10, h⟩ := bnd1 h; refine W.fork (mkSt [(1, some (.ptr 1000 0)), (37, some (.b (((((!t7) || (!t9)) || ((List.length x0.Cuts : Int) == 0)) || (decide ((List.length x0.Cuts : Int) > 64))) || (decide ((List.length x0.Barred : Int) > 64)))))] [(1000, some (.box [.i x0.ID, .i x0.Version, .s x0.Currency, .i x0.Rating, .i x0.Least, .i x0.Most, .imm (.row 3 (List.map api_Cut.enc x0.Cuts)), .i x0.Issuer, .i x0.Asset, .imm (.row 1 (List.map (encI .i64) x0.Barred))]))] 1001) ?_ ?_
   ·refine W.cond rfl (fun q15 => ?_) (fun q15 => ?_)
    ·have h := ifT q15 h; refine W.seq ?_; refine W.pk ?_; refine .a rfl rfl rfl rfl ?_; refine .nil ?_; refine W.ret ?_; cases h; exact leaves (.inr rfl) rfl (.imm _) (cN .nil) rfl rfl
    ·have h := ifF q15 h; refine W.seq ?_; refine W.fork (mkSt [(1, some (.ptr 1000 0)), (68, some (.b (((decide (x0.Least < 0)) || (decide (x0.Most < x0.Least))) || (decide (x0.Most > 200000)))))] [(1000, some (.box [.i x0.ID, .i x0.Version, .s x0.Currency, .i x0.Rating, .i x0.Least, .i x0.Most, .imm (.row 3 (List.map api_Cut.enc x0.Cuts)), .i x0.Issuer, .i x0.Asset, .imm (.row 1 (List.map (encI .i64) x0.Barred))]))] 1001) ?_ ?_
     ·refine W.cond rfl (fun q18 => ?_) (fun q18 => ?_)
      ·have h := ifT q18 h; refine W.seq ?_; refine W.pk ?_; refine .a rfl rfl rfl rfl ?_; refine .nil ?_; refine W.ret ?_; cases h; exact leaves (.inr rfl) rfl (.imm _) (cN .nil) rfl rfl
      ·have h := ifF q18 h; refine W.seq ?_; obtain ⟨t19, b20, h⟩ := bnd1 h; refine W.pk ?_; refine .v rfl rfl (O.fld fld27_2 rfl rfl rfl) ?_; refine .v rfl rfl (O.ld (y := .s x0.Currency) ty9 rfl rfl rfl) ?_; refine .call (.b t19) [] 0 (isin_Currency.ok b20) rfl rfl rfl ca47 rfl rfl (cC (.imm _) .nil) rfl rfl rfl rfl rfl ?_; refine .v rfl rfl (OpL.unV rfl rfl rfl) ?_; refine .a rfl rfl rfl rfl ?_; refine .nil ?_; refine W.cond rfl (fun q21 => ?_) (fun q21 => ?_)
       ·have h := ifT q21 h; refine W.seq ?_; refine W.pk ?_; refine .a rfl rfl rfl rfl ?_; refine .nil ?_; refine W.ret ?_; cases h; exact leaves (.inr rfl) rfl (.imm _) (cN .nil) rfl rfl
       ·have h := ifF q21 h; refine W.skip ?_; (iterate 2 refine W.seq ?_); refine W.pk ?_; refine .v rfl rfl (O.fld fld27_6 rfl rfl rfl) ?_; refine .v rfl rfl (O.ld (y := .imm (.row 3 (List.map api_Cut.enc x0.Cuts))) ty24 rfl rfl rfl) ?_; refine .v rfl rfl (O.lenR sl24 rfl rfl) ?_; refine .m rfl rfl rfl rfl ?_; refine .nil ?_; obtain ⟨o48, b49, z50⟩ := bnd1 h; refine W.fork2 (out := o48) (fun (w47 : Unit) => mkSt [(1, some (.ptr 1000 0))] [(1000, some (.box [.i x0.ID, .i x0.Version, .s x0.Currency, .i x0.Rating, .i x0.Least, .i x0.Most, .imm (.row 3 (List.map api_Cut.enc x0.Cuts)), .i x0.Issuer, .i x0.Asset, .imm (.row 1 (List.map (encI .i64) x0.Barred))]))] 1001) ?_ ?_
        ·clear h; refine W.block ?_; refine W.loopF (fun (s_ : Int) => mkSt [(1, some (.ptr 1000 0)), (90, some (.imm (.row 3 (List.map api_Cut.enc x0.Cuts)))), (91, some (.i (List.length x0.Cuts : Int))), (92, some (.i s_))] [(1000, some (.box [.i x0.ID, .i x0.Version, .s x0.Currency, .i x0.Rating, .i x0.Least, .i x0.Most, .imm (.row 3 (List.map api_Cut.enc x0.Cuts)), .i x0.Issuer, .i x0.Asset, .imm (.row 1 (List.map (encI .i64) x0.Barred))]))] 1001) b49 (Gives.mkR [] (.e rfl rfl) (.r rfl rfl rfl .n) rfl rfl rfl) ?_; rintro v30 s_ hr; have h : msg_Basket.b0 x0 v30 = some s_ := hr; unfold msg_Basket.b0 at h; refine W.seq ?_; refine W.pk ?_; refine .v rfl rfl (OpL.binI rfl rfl rfl rfl) ?_; refine .nil ?_; refine W.seq ?_; refine W.cond rfl (fun q51 => ?_) (fun q51 => ?_)
         ·have h := ifT q51 h; refine W.skip ?_; refine W.seq ?_; refine W.block ?_; refine W.seq ?_; obtain ⟨c52, h⟩ := chk h; refine W.pk ?_; refine .v rfl rfl (O.idx sl24 c52 rfl rfl rfl) ?_; refine .v rfl rfl (O.ldN ty103 rfl rfl rfl) ?_; refine .t rfl rfl (O.alloc z103 rfl) ?_; refine .s rfl rfl (O.st ty103 rfl rfl rfl rfl rfl rfl rfl rfl rfl rfl (all' := [.i ((nth x0.Cuts v30).Days), .i ((nth x0.Cuts v30).Rating), .i ((nth x0.Cuts v30).Cut)]) rfl) ?_; refine .nil ?_; refine W.seq ?_; refine W.fork (mkSt [(1, some (.ptr 1000 0)), (90, some (.imm (.row 3 (List.map api_Cut.enc x0.Cuts)))), (91, some (.i (List.length x0.Cuts : Int))), (92, some (.i v30)), (123, some (.b ((((((decide (((nth x0.Cuts v30).Days) < 0)) || (decide (((nth x0.Cuts v30).Days) > 200000))) || (decide (((nth x0.Cuts v30).Rating) < 0))) || (decide (((nth x0.Cuts v30).Rating) > 20))) || (decide (((nth x0.Cuts v30).Cut) < 0))) || (decide (((nth x0.Cuts v30).Cut) ≥ 1000000)))))] [(1000, some (.box [.i x0.ID, .i x0.Version, .s x0.Currency, .i x0.Rating, .i x0.Least, .i x0.Most, .imm (.row 3 (List.map api_Cut.enc x0.Cuts)), .i x0.Issuer, .i x0.Asset, .imm (.row 1 (List.map (encI .i64) x0.Barred))]))] 1002) ?_ ?_
          ·refine W.cond rfl (fun q58 => ?_) (fun q58 => ?_)
           ·have h := ifT q58 h; refine W.seq ?_; refine W.pk ?_; refine .a rfl rfl rfl rfl ?_; refine .nil ?_; refine W.ret ?_; cases h; refine rdR fun e_ => ?_; subst e_; have h := z50; dsimp only at h; refine fkR ?_; cases h; exact leaves (.inr rfl) rfl (.imm _) (cN .nil) rfl rfl
           ·have h := ifF q58 h; refine W.skip ?_; refine W.pk ?_; refine .v rfl rfl (OpL.binI rfl rfl rfl rfl) ?_; refine .m rfl rfl rfl rfl ?_; refine .nil ?_; cases h; exact rdN (Gives.mkR [] (.e rfl rfl) (.r rfl rfl rfl .n) rfl rfl rfl)
          ·clear h; refine W.pk ?_; refine .v rfl rfl (O.fld fld103_0 rfl rfl rfl) ?_; refine .v rfl rfl (O.ld (y := .i ((nth x0.Cuts v30).Days)) ty3 rfl rfl rfl) ?_; refine .v rfl rfl (OpL.binI rfl rfl rfl rfl) ?_; refine .m rfl rfl rfl rfl ?_; rcases tf (decide (((nth x0.Cuts v30).Days) < 0)) with g53 | g53
           ·(iterate 3 refine .x rfl (unmet rfl rfl rfl g53) ?_); refine .v rfl rfl (O.pickT g53 rfl rfl rfl) ?_; refine .m rfl rfl rfl rfl ?_; (iterate 3 refine .x rfl (unmet rfl rfl rfl rfl) ?_); refine .v rfl rfl (O.pickT rfl rfl rfl rfl) ?_; refine .m rfl rfl rfl rfl ?_; (iterate 3 refine .x rfl (unmet rfl rfl rfl rfl) ?_); refine .v rfl rfl (O.pickT rfl rfl rfl rfl) ?_; refine .m rfl rfl rfl rfl ?_; (iterate 3 refine .x rfl (unmet rfl rfl rfl rfl) ?_); refine .v rfl rfl (O.pickT rfl rfl rfl rfl) ?_; refine .m rfl rfl rfl rfl ?_; (iterate 3 refine .x rfl (unmet rfl rfl rfl rfl) ?_); refine .v rfl rfl (O.pickT rfl rfl rfl rfl) ?_; refine .nil ?_; exact toN (Gives.mkR [] (.r rfl rfl (.r rfl rfl (.r rfl rfl (.r rfl rfl (.c rfl (sbb (by simp only [g53, BL])) rfl .n))))) (.r rfl rfl rfl .n) rfl rfl rfl)
           ·refine .v rfl (met rfl rfl rfl g53) (O.fld fld103_0 rfl rfl rfl) ?_; refine .v rfl (met rfl rfl rfl g53) (O.ld (y := .i ((nth x0.Cuts v30).Days)) ty3 rfl rfl rfl) ?_; refine .v rfl (met rfl rfl rfl g53) (OpL.binI rfl rfl rfl rfl) ?_; refine .v rfl rfl (O.pickF g53 rfl rfl rfl) ?_; refine .m rfl rfl rfl rfl ?_; rcases tf (decide (((nth x0.Cuts v30).Days) > 200000)) with g54 | g54
            ·(iterate 3 refine .x rfl (unmet rfl rfl rfl g54) ?_); refine .v rfl rfl (O.pickT g54 rfl rfl rfl) ?_; refine .m rfl rfl rfl rfl ?_; (iterate 3 refine .x rfl (unmet rfl rfl rfl rfl) ?_); refine .v rfl rfl (O.pickT rfl rfl rfl rfl) ?_; refine .m rfl rfl rfl rfl ?_; (iterate 3 refine .x rfl (unmet rfl rfl rfl rfl) ?_); refine .v rfl rfl (O.pickT rfl rfl rfl rfl) ?_; refine .m rfl rfl rfl rfl ?_; (iterate 3 refine .x rfl (unmet rfl rfl rfl rfl) ?_); refine .v rfl rfl (O.pickT rfl rfl rfl rfl) ?_; refine .nil ?_; exact toN (Gives.mkR [] (.r rfl rfl (.r rfl rfl (.r rfl rfl (.r rfl rfl (.c rfl (sbb (by first | (simp only [g53, g54, BL]; done) | (repeat (first | rw [g53] | rw [g54])) <;> simp only [BL])) rfl .n))))) (.r rfl rfl rfl .n) rfl rfl rfl)
            ·refine .v rfl (met rfl rfl rfl g54) (O.fld fld103_1 rfl rfl rfl) ?_; refine .v rfl (met rfl rfl rfl g54) (O.ld (y := .i ((nth x0.Cuts v30).Rating)) ty3 rfl rfl rfl) ?_; refine .v rfl (met rfl rfl rfl g54) (OpL.binI rfl rfl rfl rfl) ?_; refine .v rfl rfl (O.pickF g54 rfl rfl rfl) ?_; refine .m rfl rfl rfl rfl ?_; rcases tf (decide (((nth x0.Cuts v30).Rating) < 0)) with g55 | g55
             ·(iterate 3 refine .x rfl (unmet rfl rfl rfl g55) ?_); refine .v rfl rfl (O.pickT g55 rfl rfl rfl) ?_; refine .m rfl rfl rfl rfl ?_; (iterate 3 refine .x rfl (unmet rfl rfl rfl rfl) ?_); refine .v rfl rfl (O.pickT rfl rfl rfl rfl) ?_; refine .m rfl rfl rfl rfl ?_; (iterate 3 refine .x rfl (unmet rfl rfl rfl rfl) ?_); refine .v rfl rfl (O.pickT rfl rfl rfl rfl) ?_; refine .nil ?_; exact toN (Gives.mkR [] (.r rfl rfl (.r rfl rfl (.r rfl rfl (.r rfl rfl (.c rfl (sbb (by first | (simp only [g53, g54, g55, BL]; done) | (repeat (first | rw [g53] | rw [g54] | rw [g55])) <;> simp only [BL])) rfl .n))))) (.r rfl rfl rfl .n) rfl rfl rfl)
             ·refine .v rfl (met rfl rfl rfl g55) (O.fld fld103_1 rfl rfl rfl) ?_; refine .v rfl (met rfl rfl rfl g55) (O.ld (y := .i ((nth x0.Cuts v30).Rating)) ty3 rfl rfl rfl) ?_; refine .v rfl (met rfl rfl rfl g55) (OpL.binI rfl rfl rfl rfl) ?_; refine .v rfl rfl (O.pickF g55 rfl rfl rfl) ?_; refine .m rfl rfl rfl rfl ?_; rcases tf (decide (((nth x0.Cuts v30).Rating) > 20)) with g56 | g56
              ·(iterate 3 refine .x rfl (unmet rfl rfl rfl g56) ?_); refine .v rfl rfl (O.pickT g56 rfl rfl rfl) ?_; refine .m rfl rfl rfl rfl ?_; (iterate 3 refine .x rfl (unmet rfl rfl rfl rfl) ?_); refine .v rfl rfl (O.pickT rfl rfl rfl rfl) ?_; refine .nil ?_; exact toN (Gives.mkR [] (.r rfl rfl (.r rfl rfl (.r rfl rfl (.r rfl rfl (.c rfl (sbb (by first | (simp only [g53, g54, g55, g56, BL]; done) | (repeat (first | rw [g53] | rw [g54] | rw [g55] | rw [g56])) <;> simp only [BL])) rfl .n))))) (.r rfl rfl rfl .n) rfl rfl rfl)
              ·refine .v rfl (met rfl rfl rfl g56) (O.fld fld103_2 rfl rfl rfl) ?_; refine .v rfl (met rfl rfl rfl g56) (O.ld (y := .i ((nth x0.Cuts v30).Cut)) ty3 rfl rfl rfl) ?_; refine .v rfl (met rfl rfl rfl g56) (OpL.binI rfl rfl rfl rfl) ?_; refine .v rfl rfl (O.pickF g56 rfl rfl rfl) ?_; refine .m rfl rfl rfl rfl ?_; rcases tf (decide (((nth x0.Cuts v30).Cut) < 0)) with g57 | g57
               ·(iterate 3 refine .x rfl (unmet rfl rfl rfl g57) ?_); refine .v rfl rfl (O.pickT g57 rfl rfl rfl) ?_; refine .nil ?_; exact toN (Gives.mkR [] (.r rfl rfl (.r rfl rfl (.r rfl rfl (.r rfl rfl (.c rfl (sbb (by first | (simp only [g53, g54, g55, g56, g57, BL]; done) | (repeat (first | rw [g53] | rw [g54] | rw [g55] | rw [g56] | rw [g57])) <;> simp only [BL])) rfl .n))))) (.r rfl rfl rfl .n) rfl rfl rfl)
               ·refine .v rfl (met rfl rfl rfl g57) (O.fld fld103_2 rfl rfl rfl) ?_; refine .v rfl (met rfl rfl rfl g57) (O.ld (y := .i ((nth x0.Cuts v30).Cut)) ty3 rfl rfl rfl) ?_; refine .v rfl (met rfl rfl rfl g57) (OpL.binI rfl rfl rfl rfl) ?_; refine .v rfl rfl (O.pickF g57 rfl rfl rfl) ?_; refine .nil ?_; exact toN (Gives.mkR [] (.r rfl rfl (.r rfl rfl (.r rfl rfl (.r rfl rfl (.c rfl (sbb (by first | (simp only [g53, g54, g55, g56, g57, BL]; done) | (repeat (first | rw [g53] | rw [g54] | rw [g55] | rw [g56] | rw [g57])) <;> simp only [BL])) rfl .n))))) (.r rfl rfl rfl .n) rfl rfl rfl)
         ·have h := ifF q51 h; refine W.exit ?_; cases h; refine rdX fun e_ => ?_; subst e_; (repeat with_reducible refine thru ?_); refine hit ?_; exact fkN (Gives.mkR [] (.r rfl rfl .n) (.r rfl rfl rfl .n) rfl rfl rfl)
        ·intro w47 e_; subst e_; clear h; have h := z50; dsimp only at h; (iterate 2 refine W.seq ?_); refine W.pk ?_; refine .v rfl rfl (O.fld fld27_9 rfl rfl rfl) ?_; refine .v rfl rfl (O.ld (y := .imm (.row 1 (List.map (encI .i64) x0.Barred))) ty25 rfl rfl rfl) ?_; refine .v rfl rfl (O.lenR sl25 rfl rfl) ?_; refine .m rfl rfl rfl rfl ?_; refine .nil ?_; obtain ⟨o83, b84, z85⟩ := bnd1 h; refine W.fork2 (out := o83) (fun (w82 : Unit) => mkSt [] [] 1001) ?_ ?_
         ·clear h; refine W.block ?_; refine W.loopF (fun (s_ : Int) => mkSt [(1, some (.ptr 1000 0)), (126, some (.imm (.row 1 (List.map (encI .i64) x0.Barred)))), (127, some (.i (List.length x0.Barred : Int))), (128, some (.i s_))] [(1000, some (.box [.i x0.ID, .i x0.Version, .s x0.Currency, .i x0.Rating, .i x0.Least, .i x0.Most, .imm (.row 3 (List.map api_Cut.enc x0.Cuts)), .i x0.Issuer, .i x0.Asset, .imm (.row 1 (List.map (encI .i64) x0.Barred))]))] 1001) b84 (Gives.mkR [] (.e rfl rfl) (.r rfl rfl rfl .n) rfl rfl rfl) ?_; rintro v67 s_ hr; have h : msg_Basket.b1 x0 v67 = some s_ := hr; unfold msg_Basket.b1 at h; refine W.seq ?_; refine W.pk ?_; refine .v rfl rfl (OpL.binI rfl rfl rfl rfl) ?_; refine .nil ?_; refine W.seq ?_; refine W.cond rfl (fun q86 => ?_) (fun q86 => ?_)
          ·have h := ifT q86 h; refine W.skip ?_; refine W.seq ?_; refine W.block ?_; refine W.seq ?_; obtain ⟨c87, h⟩ := chk h; refine W.pk ?_; refine .m rfl rfl rfl rfl ?_; refine .v rfl rfl (O.idx sl25 c87 rfl rfl rfl) ?_; refine .v rfl rfl (O.ld (y := .i (nth x0.Barred v67)) ty3 rfl rfl rfl) ?_; (iterate 2 refine .a rfl rfl rfl rfl ?_); refine .nil ?_; refine W.seq ?_; obtain ⟨c88, h⟩ := chk h; refine W.fork (mkSt [(1, some (.ptr 1000 0)), (126, some (.imm (.row 1 (List.map (encI .i64) x0.Barred)))), (127, some (.i (List.length x0.Barred : Int))), (128, some (.i v67)), (152, some (.b (((decide ((nth x0.Barred v67) < 0)) || (decide ((nth x0.Barred v67) > 9999))) || ((decide (v67 > 0)) && (decide ((nth x0.Barred v67) ≤ (nth x0.Barred (IntKind.wrap .i64 (v67 - 1)))))))))] [(1000, some (.box [.i x0.ID, .i x0.Version, .s x0.Currency, .i x0.Rating, .i x0.Least, .i x0.Most, .imm (.row 3 (List.map api_Cut.enc x0.Cuts)), .i x0.Issuer, .i x0.Asset, .imm (.row 1 (List.map (encI .i64) x0.Barred))]))] 1001) ?_ ?_
           ·refine W.cond rfl (fun q92 => ?_) (fun q92 => ?_)
            ·have h := ifT q92 h; refine W.seq ?_; refine W.pk ?_; refine .a rfl rfl rfl rfl ?_; refine .nil ?_; refine W.ret ?_; cases h; refine rdR fun e_ => ?_; subst e_; have h := z85; dsimp only at h; refine fkR ?_; cases h; exact leaves (.inr rfl) rfl (.imm _) (cN .nil) rfl rfl
            ·have h := ifF q92 h; refine W.skip ?_; refine W.pk ?_; refine .v rfl rfl (OpL.binI rfl rfl rfl rfl) ?_; refine .m rfl rfl rfl rfl ?_; refine .nil ?_; cases h; exact rdN (Gives.mkR [] (.e rfl rfl) (.r rfl rfl rfl .n) rfl rfl rfl)
           ·clear h; refine W.pk ?_; refine .m rfl rfl rfl rfl ?_; refine .v rfl rfl (OpL.binI rfl rfl rfl rfl) ?_; refine .m rfl rfl rfl rfl ?_; rcases tf (decide ((nth x0.Barred v67) < 0)) with g89 | g89
            ·(iterate 2 refine .x rfl (unmet rfl rfl rfl g89) ?_); refine .v rfl rfl (O.pickT g89 rfl rfl rfl) ?_; refine .m rfl rfl rfl rfl ?_; (iterate 3 refine .x rfl (unmet rfl rfl rfl rfl) ?_); (iterate 8 refine .x rfl (unmetU rfl rfl rfl) ?_); refine .x rfl (unmet rfl rfl rfl rfl) ?_; refine .v rfl rfl (O.pickT rfl rfl rfl rfl) ?_; refine .nil ?_; exact toN (Gives.mkR [] (.r rfl rfl (.r rfl rfl (.r rfl rfl (.r rfl rfl (.c rfl (sbb (by simp only [g89, BL])) rfl .n))))) (.r rfl rfl rfl .n) rfl rfl rfl)
            ·refine .m rfl (met rfl rfl rfl g89) rfl rfl ?_; refine .v rfl (met rfl rfl rfl g89) (OpL.binI rfl rfl rfl rfl) ?_; refine .v rfl rfl (O.pickF g89 rfl rfl rfl) ?_; refine .m rfl rfl rfl rfl ?_; rcases tf (decide ((nth x0.Barred v67) > 9999)) with g90 | g90
             ·(iterate 3 refine .x rfl (unmet rfl rfl rfl g90) ?_); (iterate 8 refine .x rfl (unmetU rfl rfl rfl) ?_); refine .x rfl (unmet rfl rfl rfl g90) ?_; refine .v rfl rfl (O.pickT g90 rfl rfl rfl) ?_; refine .nil ?_; exact toN (Gives.mkR [] (.r rfl rfl (.r rfl rfl (.r rfl rfl (.r rfl rfl (.c rfl (sbb (by first | (simp only [g89, g90, BL]; done) | (repeat (first | rw [g89] | rw [g90])) <;> simp only [BL])) rfl .n))))) (.r rfl rfl rfl .n) rfl rfl rfl)
             ·refine .m rfl (met rfl rfl rfl g90) rfl rfl ?_; refine .v rfl (met rfl rfl rfl g90) (OpL.binI rfl rfl rfl rfl) ?_; refine .m rfl (met rfl rfl rfl g90) rfl rfl ?_; rcases tf (decide (v67 > 0)) with g91 | g91
              ·refine .m rfl (met rfl rfl rfl g91) rfl rfl ?_; refine .v rfl (met rfl rfl rfl g91) (O.fld fld27_9 rfl rfl rfl) ?_; refine .v rfl (met rfl rfl rfl g91) (O.ld (y := .imm (.row 1 (List.map (encI .i64) x0.Barred))) ty25 rfl rfl rfl) ?_; refine .m rfl (met rfl rfl rfl g91) rfl rfl ?_; refine .v rfl (met rfl rfl rfl g91) (OpL.binI rfl rfl rfl rfl) ?_; refine .v rfl (met rfl rfl rfl g91) (O.idx sl25 (c88 ⟨(by first | (simp only [g89, g90, g91, BL]; done) | (repeat (first | rw [g89] | rw [g90] | rw [g91])) <;> simp only [BL]), (by first | (simp only [g89, g90, g91, BL]; done) | (repeat (first | rw [g89] | rw [g90] | rw [g91])) <;> simp only [BL])⟩) rfl rfl rfl) ?_; refine .v rfl (met rfl rfl rfl g91) (O.ld (y := .i (nth x0.Barred (IntKind.wrap .i64 (v67 - 1)))) ty3 rfl rfl rfl) ?_; refine .v rfl (met rfl rfl rfl g91) (OpL.binI rfl rfl rfl rfl) ?_; refine .v rfl (met rfl rfl rfl g90) (O.pickT g91 rfl rfl rfl) ?_; refine .v rfl rfl (O.pickF g90 rfl rfl rfl) ?_; refine .nil ?_; exact toN (Gives.mkR [] (.r rfl rfl (.r rfl rfl (.r rfl rfl (.r rfl rfl (.c rfl (sbb (by first | (simp only [g89, g90, g91, BL]; done) | (repeat (first | rw [g89] | rw [g90] | rw [g91])) <;> simp only [BL])) rfl .n))))) (.r rfl rfl rfl .n) rfl rfl rfl)
              ·(iterate 8 refine .x rfl (unmet rfl rfl rfl g91) ?_); refine .v rfl (met rfl rfl rfl g90) (O.pickF g91 rfl rfl rfl) ?_; refine .v rfl rfl (O.pickF g90 rfl rfl rfl) ?_; refine .nil ?_; exact toN (Gives.mkR [] (.r rfl rfl (.r rfl rfl (.r rfl rfl (.r rfl rfl (.c rfl (sbb (by first | (simp only [g89, g90, g91, BL]; done) | (repeat (first | rw [g89] | rw [g90] | rw [g91])) <;> simp only [BL])) rfl .n))))) (.r rfl rfl rfl .n) rfl rfl rfl)
          ·have h := ifF q86 h; refine W.exit ?_; cases h; refine rdX fun e_ => ?_; subst e_; (repeat with_reducible refine thru ?_); refine hit ?_; exact fkN (Gives.mkR [] .n .n rfl rfl rfl)
         ·intro w82 e_; subst e_; clear h; have h := z85; dsimp only at h; refine W.seq ?_; refine W.pk ?_; refine .a rfl rfl rfl rfl ?_; refine .nil ?_; refine W.ret ?_; cases h; exact leaves (.inr rfl) rfl (.imm _) (cN .nil) rfl rfl
     ·clear h; refine W.pk ?_; refine .v rfl rfl (O.fld fld27_4 rfl rfl rfl) ?_; refine .v rfl rfl (O.ld (y := .i x0.Least) ty3 rfl rfl rfl) ?_; refine .v rfl rfl (OpL.binI rfl rfl rfl rfl) ?_; refine .m rfl rfl rfl rfl ?_; rcases tf (decide (x0.Least < 0)) with g16 | g16
      ·(iterate 5 refine .x rfl (unmet rfl rfl rfl g16) ?_); refine .v rfl rfl (O.pickT g16 rfl rfl rfl) ?_; refine .m rfl rfl rfl rfl ?_; (iterate 3 refine .x rfl (unmet rfl rfl rfl rfl) ?_); refine .v rfl rfl (O.pickT rfl rfl rfl rfl) ?_; refine .a rfl rfl rfl rfl ?_; refine .nil ?_; exact toN (Gives.mkR [] (.r rfl rfl (.c rfl (sbb (by simp only [g16, BL])) rfl .n)) (.r rfl rfl rfl .n) rfl rfl rfl)
      ·refine .v rfl (met rfl rfl rfl g16) (O.fld fld27_5 rfl rfl rfl) ?_; refine .v rfl (met rfl rfl rfl g16) (O.ld (y := .i x0.Most) ty3 rfl rfl rfl) ?_; refine .v rfl (met rfl rfl rfl g16) (O.fld fld27_4 rfl rfl rfl) ?_; refine .v rfl (met rfl rfl rfl g16) (O.ld (y := .i x0.Least) ty3 rfl rfl rfl) ?_; refine .v rfl (met rfl rfl rfl g16) (OpL.binI rfl rfl rfl rfl) ?_; refine .v rfl rfl (O.pickF g16 rfl rfl rfl) ?_; refine .m rfl rfl rfl rfl ?_; rcases tf (decide (x0.Most < x0.Least)) with g17 | g17
       ·(iterate 3 refine .x rfl (unmet rfl rfl rfl g17) ?_); refine .v rfl rfl (O.pickT g17 rfl rfl rfl) ?_; refine .a rfl rfl rfl rfl ?_; refine .nil ?_; exact toN (Gives.mkR [] (.r rfl rfl (.c rfl (sbb (by first | (simp only [g16, g17, BL]; done) | (repeat (first | rw [g16] | rw [g17])) <;> simp only [BL])) rfl .n)) (.r rfl rfl rfl .n) rfl rfl rfl)
       ·refine .v rfl (met rfl rfl rfl g17) (O.fld fld27_5 rfl rfl rfl) ?_; refine .v rfl (met rfl rfl rfl g17) (O.ld (y := .i x0.Most) ty3 rfl rfl rfl) ?_; refine .v rfl (met rfl rfl rfl g17) (OpL.binI rfl rfl rfl rfl) ?_; refine .v rfl rfl (O.pickF g17 rfl rfl rfl) ?_; refine .a rfl rfl rfl rfl ?_; refine .nil ?_; exact toN (Gives.mkR [] (.r rfl rfl (.c rfl (sbb (by first | (simp only [g16, g17, BL]; done) | (repeat (first | rw [g16] | rw [g17])) <;> simp only [BL])) rfl .n)) (.r rfl rfl rfl .n) rfl rfl rfl)
   ·clear h; refine W.pk ?_; refine .m rfl rfl rfl rfl ?_; refine .v rfl rfl (O.fld fld27_7 rfl rfl rfl) ?_; refine .v rfl rfl (O.ld (y := .i x0.Issuer) ty3 rfl rfl rfl) ?_; refine .call (.b t7) [] 0 (msg_Basket_1.ok b8) rfl rfl rfl ca92 rfl rfl (cC (.imm _) .nil) rfl rfl rfl rfl rfl ?_; refine .v rfl rfl (OpL.unV rfl rfl rfl) ?_; refine .m rfl rfl rfl rfl ?_; rcases tf t7 with g11 | g11
    ·refine .m rfl (met rfl rfl rfl (notT g11)) rfl rfl ?_; refine .v rfl (met rfl rfl rfl (notT g11)) (O.fld fld27_8 rfl rfl rfl) ?_; refine .v rfl (met rfl rfl rfl (notT g11)) (O.ld (y := .i x0.Asset) ty3 rfl rfl rfl) ?_; refine .call (.b t9) [] 0 (msg_Basket_1.ok ((if_pos (by simp only [g11, BL])).symm.trans b10)) rfl (met rfl rfl rfl (notT g11)) rfl ca92 rfl rfl (cC (.imm _) .nil) rfl rfl rfl rfl rfl ?_; refine .v rfl (met rfl rfl rfl (notT g11)) (OpL.unV rfl rfl rfl) ?_; refine .v rfl rfl (O.pickF (notT g11) rfl rfl rfl) ?_; refine .m rfl rfl rfl rfl ?_; rcases tf t9 with g12 | g12
     ·refine .v rfl (met rfl rfl rfl (notT g12)) (O.fld fld27_6 rfl rfl rfl) ?_; refine .v rfl (met rfl rfl rfl (notT g12)) (O.ld (y := .imm (.row 3 (List.map api_Cut.enc x0.Cuts))) ty24 rfl rfl rfl) ?_; refine .v rfl (met rfl rfl rfl (notT g12)) (O.lenR sl24 rfl rfl) ?_; refine .v rfl (met rfl rfl rfl (notT g12)) (OpL.binI rfl rfl rfl rfl) ?_; refine .v rfl rfl (O.pickF (notT g12) rfl rfl rfl) ?_; refine .m rfl rfl rfl rfl ?_; rcases tf ((List.length x0.Cuts : Int) == 0) with g13 | g13
      ·(iterate 4 refine .x rfl (unmet rfl rfl rfl g13) ?_); refine .v rfl rfl (O.pickT g13 rfl rfl rfl) ?_; refine .m rfl rfl rfl rfl ?_; (iterate 4 refine .x rfl (unmet rfl rfl rfl rfl) ?_); refine .v rfl rfl (O.pickT rfl rfl rfl rfl) ?_; refine .a rfl rfl rfl rfl ?_; refine .nil ?_; exact toN (Gives.mkR [] (.r rfl rfl (.c rfl (sbb (by first | (simp only [g11, g12, g13, BL]; done) | (repeat (first | rw [g11] | rw [g12] | rw [g13])) <;> simp only [BL])) rfl .n)) (.r rfl rfl rfl .n) rfl rfl rfl)
      ·refine .v rfl (met rfl rfl rfl g13) (O.fld fld27_6 rfl rfl rfl) ?_; refine .v rfl (met rfl rfl rfl g13) (O.ld (y := .imm (.row 3 (List.map api_Cut.enc x0.Cuts))) ty24 rfl rfl rfl) ?_; refine .v rfl (met rfl rfl rfl g13) (O.lenR sl24 rfl rfl) ?_; refine .v rfl (met rfl rfl rfl g13) (OpL.binI rfl rfl rfl rfl) ?_; refine .v rfl rfl (O.pickF g13 rfl rfl rfl) ?_; refine .m rfl rfl rfl rfl ?_; rcases tf (decide ((List.length x0.Cuts : Int) > 64)) with g14 | g14
       ·(iterate 4 refine .x rfl (unmet rfl rfl rfl g14) ?_); refine .v rfl rfl (O.pickT g14 rfl rfl rfl) ?_; refine .a rfl rfl rfl rfl ?_; refine .nil ?_; exact toN (Gives.mkR [] (.r rfl rfl (.c rfl (sbb (by first | (simp only [g11, g12, g13, g14, BL]; done) | (repeat (first | rw [g11] | rw [g12] | rw [g13] | rw [g14])) <;> simp only [BL])) rfl .n)) (.r rfl rfl rfl .n) rfl rfl rfl)
       ·refine .v rfl (met rfl rfl rfl g14) (O.fld fld27_9 rfl rfl rfl) ?_; refine .v rfl (met rfl rfl rfl g14) (O.ld (y := .imm (.row 1 (List.map (encI .i64) x0.Barred))) ty25 rfl rfl rfl) ?_; refine .v rfl (met rfl rfl rfl g14) (O.lenR sl25 rfl rfl) ?_; refine .v rfl (met rfl rfl rfl g14) (OpL.binI rfl rfl rfl rfl) ?_; refine .v rfl rfl (O.pickF g14 rfl rfl rfl) ?_; refine .a rfl rfl rfl rfl ?_; refine .nil ?_; exact toN (Gives.mkR [] (.r rfl rfl (.c rfl (sbb (by first | (simp only [g11, g12, g13, g14, BL]; done) | (repeat (first | rw [g11] | rw [g12] | rw [g13] | rw [g14])) <;> simp only [BL])) rfl .n)) (.r rfl rfl rfl .n) rfl rfl rfl)
     ·(iterate 4 refine .x rfl (unmet rfl rfl rfl (notF g12)) ?_); refine .v rfl rfl (O.pickT (notF g12) rfl rfl rfl) ?_; refine .m rfl rfl rfl rfl ?_; (iterate 4 refine .x rfl (unmet rfl rfl rfl rfl) ?_); refine .v rfl rfl (O.pickT rfl rfl rfl rfl) ?_; refine .m rfl rfl rfl rfl ?_; (iterate 4 refine .x rfl (unmet rfl rfl rfl rfl) ?_); refine .v rfl rfl (O.pickT rfl rfl rfl rfl) ?_; refine .a rfl rfl rfl rfl ?_; refine .nil ?_; exact toN (Gives.mkR [] (.r rfl rfl (.c rfl (sbb (by first | (simp only [g11, g12, BL]; done) | (repeat (first | rw [g11] | rw [g12])) <;> simp only [BL])) rfl .n)) (.r rfl rfl rfl .n) rfl rfl rfl)
    ·(iterate 5 refine .x rfl (unmet rfl rfl rfl (notF g11)) ?_); refine .v rfl rfl (O.pickT (notF g11) rfl rfl rfl) ?_; refine .m rfl rfl rfl rfl ?_; (iterate 4 refine .x rfl (unmet rfl rfl rfl rfl) ?_); refine .v rfl rfl (O.pickT rfl rfl rfl rfl) ?_; refine .m rfl rfl rfl rfl ?_; (iterate 4 refine .x rfl (unmet rfl rfl rfl rfl) ?_); refine .v rfl rfl (O.pickT rfl rfl rfl rfl) ?_; refine .m rfl rfl rfl rfl ?_; (iterate 4 refine .x rfl (unmet rfl rfl rfl rfl) ?_); refine .v rfl rfl (O.pickT rfl rfl rfl rfl) ?_; refine .a rfl rfl rfl rfl ?_; refine .nil ?_; exact toN (Gives.mkR [] (.r rfl rfl (.c rfl (sbb (by simp only [g11, BL])) rfl .n)) (.r rfl rfl rfl .n) rfl rfl rfl)
 ·clear h; refine W.pk ?_; refine .v rfl rfl (O.fld fld27_0 rfl rfl rfl) ?_; refine .v rfl rfl (O.ld (y := .i x0.ID) ty3 rfl rfl rfl) ?_; refine .v rfl rfl (OpL.binI rfl rfl rfl rfl) ?_; refine .m rfl rfl rfl rfl ?_; rcases tf (decide (x0.ID < 1)) with g1 | g1
  ·(iterate 3 refine .x rfl (unmet rfl rfl rfl g1) ?_); refine .v rfl rfl (O.pickT g1 rfl rfl rfl) ?_; refine .m rfl rfl rfl rfl ?_; (iterate 3 refine .x rfl (unmet rfl rfl rfl rfl) ?_); refine .v rfl rfl (O.pickT rfl rfl rfl rfl) ?_; refine .m rfl rfl rfl rfl ?_; (iterate 3 refine .x rfl (unmet rfl rfl rfl rfl) ?_); refine .v rfl rfl (O.pickT rfl rfl rfl rfl) ?_; refine .m rfl rfl rfl rfl ?_; (iterate 3 refine .x rfl (unmet rfl rfl rfl rfl) ?_); refine .v rfl rfl (O.pickT rfl rfl rfl rfl) ?_; refine .m rfl rfl rfl rfl ?_; (iterate 3 refine .x rfl (unmet rfl rfl rfl rfl) ?_); refine .v rfl rfl (O.pickT rfl rfl rfl rfl) ?_; refine .a rfl rfl rfl rfl ?_; refine .nil ?_; exact toN (Gives.mkR [] (.r rfl rfl (.r rfl rfl (.c rfl (sbb (by simp only [g1, BL])) rfl .n))) (.r rfl rfl rfl .n) rfl rfl rfl)
  ·refine .v rfl (met rfl rfl rfl g1) (O.fld fld27_0 rfl rfl rfl) ?_; refine .v rfl (met rfl rfl rfl g1) (O.ld (y := .i x0.ID) ty3 rfl rfl rfl) ?_; refine .v rfl (met rfl rfl rfl g1) (OpL.binI rfl rfl rfl rfl) ?_; refine .v rfl rfl (O.pickF g1 rfl rfl rfl) ?_; refine .m rfl rfl rfl rfl ?_; rcases tf (decide (x0.ID > 64)) with g2 | g2
   ·(iterate 3 refine .x rfl (unmet rfl rfl rfl g2) ?_); refine .v rfl rfl (O.pickT g2 rfl rfl rfl) ?_; refine .m rfl rfl rfl rfl ?_; (iterate 3 refine .x rfl (unmet rfl rfl rfl rfl) ?_); refine .v rfl rfl (O.pickT rfl rfl rfl rfl) ?_; refine .m rfl rfl rfl rfl ?_; (iterate 3 refine .x rfl (unmet rfl rfl rfl rfl) ?_); refine .v rfl rfl (O.pickT rfl rfl rfl rfl) ?_; refine .m rfl rfl rfl rfl ?_; (iterate 3 refine .x rfl (unmet rfl rfl rfl rfl) ?_); refine .v rfl rfl (O.pickT rfl rfl rfl rfl) ?_; refine .a rfl rfl rfl rfl ?_; refine .nil ?_; exact toN (Gives.mkR [] (.r rfl rfl (.r rfl rfl (.c rfl (sbb (by first | (simp only [g1, g2, BL]; done) | (repeat (first | rw [g1] | rw [g2])) <;> simp only [BL])) rfl .n))) (.r rfl rfl rfl .n) rfl rfl rfl)
   ·refine .v rfl (met rfl rfl rfl g2) (O.fld fld27_1 rfl rfl rfl) ?_; refine .v rfl (met rfl rfl rfl g2) (O.ld (y := .i x0.Version) ty3 rfl rfl rfl) ?_; refine .v rfl (met rfl rfl rfl g2) (OpL.binI rfl rfl rfl rfl) ?_; refine .v rfl rfl (O.pickF g2 rfl rfl rfl) ?_; refine .m rfl rfl rfl rfl ?_; rcases tf (decide (x0.Version < 1)) with g3 | g3
    ·(iterate 3 refine .x rfl (unmet rfl rfl rfl g3) ?_); refine .v rfl rfl (O.pickT g3 rfl rfl rfl) ?_; refine .m rfl rfl rfl rfl ?_; (iterate 3 refine .x rfl (unmet rfl rfl rfl rfl) ?_); refine .v rfl rfl (O.pickT rfl rfl rfl rfl) ?_; refine .m rfl rfl rfl rfl ?_; (iterate 3 refine .x rfl (unmet rfl rfl rfl rfl) ?_); refine .v rfl rfl (O.pickT rfl rfl rfl rfl) ?_; refine .a rfl rfl rfl rfl ?_; refine .nil ?_; exact toN (Gives.mkR [] (.r rfl rfl (.r rfl rfl (.c rfl (sbb (by first | (simp only [g1, g2, g3, BL]; done) | (repeat (first | rw [g1] | rw [g2] | rw [g3])) <;> simp only [BL])) rfl .n))) (.r rfl rfl rfl .n) rfl rfl rfl)
    ·refine .v rfl (met rfl rfl rfl g3) (O.fld fld27_1 rfl rfl rfl) ?_; refine .v rfl (met rfl rfl rfl g3) (O.ld (y := .i x0.Version) ty3 rfl rfl rfl) ?_; refine .v rfl (met rfl rfl rfl g3) (OpL.binI rfl rfl rfl rfl) ?_; refine .v rfl rfl (O.pickF g3 rfl rfl rfl) ?_; refine .m rfl rfl rfl rfl ?_; rcases tf (decide (x0.Version > 1125899906842624)) with g4 | g4
     ·(iterate 3 refine .x rfl (unmet rfl rfl rfl g4) ?_); refine .v rfl rfl (O.pickT g4 rfl rfl rfl) ?_; refine .m rfl rfl rfl rfl ?_; (iterate 3 refine .x rfl (unmet rfl rfl rfl rfl) ?_); refine .v rfl rfl (O.pickT rfl rfl rfl rfl) ?_; refine .a rfl rfl rfl rfl ?_; refine .nil ?_; exact toN (Gives.mkR [] (.r rfl rfl (.r rfl rfl (.c rfl (sbb (by first | (simp only [g1, g2, g3, g4, BL]; done) | (repeat (first | rw [g1] | rw [g2] | rw [g3] | rw [g4])) <;> simp only [BL])) rfl .n))) (.r rfl rfl rfl .n) rfl rfl rfl)
     ·refine .v rfl (met rfl rfl rfl g4) (O.fld fld27_3 rfl rfl rfl) ?_; refine .v rfl (met rfl rfl rfl g4) (O.ld (y := .i x0.Rating) ty3 rfl rfl rfl) ?_; refine .v rfl (met rfl rfl rfl g4) (OpL.binI rfl rfl rfl rfl) ?_; refine .v rfl rfl (O.pickF g4 rfl rfl rfl) ?_; refine .m rfl rfl rfl rfl ?_; rcases tf (decide (x0.Rating < 0)) with g5 | g5
      ·(iterate 3 refine .x rfl (unmet rfl rfl rfl g5) ?_); refine .v rfl rfl (O.pickT g5 rfl rfl rfl) ?_; refine .a rfl rfl rfl rfl ?_; refine .nil ?_; exact toN (Gives.mkR [] (.r rfl rfl (.r rfl rfl (.c rfl (sbb (by first | (simp only [g1, g2, g3, g4, g5, BL]; done) | (repeat (first | rw [g1] | rw [g2] | rw [g3] | rw [g4] | rw [g5])) <;> simp only [BL])) rfl .n))) (.r rfl rfl rfl .n) rfl rfl rfl)
      ·refine .v rfl (met rfl rfl rfl g5) (O.fld fld27_3 rfl rfl rfl) ?_; refine .v rfl (met rfl rfl rfl g5) (O.ld (y := .i x0.Rating) ty3 rfl rfl rfl) ?_; refine .v rfl (met rfl rfl rfl g5) (OpL.binI rfl rfl rfl rfl) ?_; refine .v rfl rfl (O.pickF g5 rfl rfl rfl) ?_; refine .a rfl rfl rfl rfl ?_; refine .nil ?_; exact toN (Gives.mkR [] (.r rfl rfl (.r rfl rfl (.c rfl (sbb (by first | (simp only [g1, g2, g3, g4, g5, BL]; done) | (repeat (first | rw [g1] | rw [g2] | rw [g3] | rw [g4] | rw [g5])) <;> simp only [BL])) rfl .n))) (.r rfl rfl rfl .n) rfl rfl rfl)

noncomputable def msg_prices.b0 (x0 : List api_Price) (v13 : Int) : Option (Int ⊕ (Int ⊕ Unit)) :=
  if (decide (v13 < (List.length x0 : Int))) = true then
    if (0 : Int) ≤ v13 ∧ v13 < (List.length x0 : Int) then
    (isin_Check.f ((nth x0 v13).ISIN)).bind fun t40 =>
    if (t40 != 0) = true then
      some (.inr (.inl t40))
    else
      if (((decide (((nth x0 v13).Price) < 1)) || (decide (((nth x0 v13).Price) > 4294967296))) = false ∧ (decide (v13 > 0)) = true → (0 : Int) ≤ (IntKind.wrap .i64 (v13 - 1)) ∧ (IntKind.wrap .i64 (v13 - 1)) < (List.length x0 : Int)) then
      if (((decide (((nth x0 v13).Price) < 1)) || (decide (((nth x0 v13).Price) > 4294967296))) || ((decide (v13 > 0)) && (Go.Op.bytesLess ((nth x0 v13).ISIN) ((nth x0 (IntKind.wrap .i64 (v13 - 1))).ISIN) || ((nth x0 v13).ISIN) == ((nth x0 (IntKind.wrap .i64 (v13 - 1))).ISIN)))) = true then
        some (.inr (.inl 31))
      else
        some (.inl (IntKind.wrap .i64 (v13 + 1)))
      else none
    else none
  else
    some (.inr (.inr ()))
noncomputable def msg_prices.r0 (x0 : List api_Price) (s : Int) : Option (Int ⊕ (Int ⊕ Unit)) := msg_prices.b0 x0 s
noncomputable def msg_prices.f (x0 : List api_Price) : Option (Int) :=
  if (((List.length x0 : Int) == 0) || (decide ((List.length x0 : Int) > 64))) = true then
    some 2
  else
    (loop (msg_prices.r0 x0) 0).bind fun o35 =>
    match o35 with
    | .inl r48 => some r48
    | .inr w34 =>
      some 0
set_option maxRecDepth 100000 in
set_option maxHeartbeats 4000000 in
theorem msg_prices.ok {x0 : List api_Price} {r : Int} (h : msg_prices.f x0 = some r) : Pm.Spec prog 44 [.imm (.row 2 (List.map api_Price.enc x0))] (.imm (.val (.int .i64 r))) [none] := by
 unfold msg_prices.f at h; refine Pm.Spec.of_body Tryz.func44 rfl (by kernel_rfl) (Nat.le_of_ble_eq_true rfl) (Nat.le_of_ble_eq_true rfl) ?_; refine W.ghost (σ' := (mkSt [(0, some (.imm (.row 2 (List.map api_Price.enc x0))))] [] 1000)) (Gives.entry (.c rfl .n) .n) ?_; refine W.seq ?_; refine W.pk ?_; refine .a rfl rfl rfl rfl ?_; refine .nil ?_; (iterate 2 refine W.seq ?_); refine W.fork (mkSt [(0, some (.imm (.row 2 (List.map api_Price.enc x0)))), (13, some (.b (((List.length x0 : Int) == 0) || (decide ((List.length x0 : Int) > 64)))))] [] 1000) ?_ ?_
 ·refine W.cond rfl (fun q2 => ?_) (fun q2 => ?_)
  ·have h := ifT q2 h; refine W.seq ?_; refine W.pk ?_; refine .a rfl rfl rfl rfl ?_; refine .nil ?_; refine W.ret ?_; cases h; exact leaves (.inr rfl) rfl (.imm _) (cN .nil) rfl rfl
  ·have h := ifF q2 h; refine W.skip ?_; (iterate 2 refine W.seq ?_); refine W.pk ?_; refine .m rfl rfl rfl rfl ?_; refine .v rfl rfl (O.lenR sl28 rfl rfl) ?_; refine .m rfl rfl rfl rfl ?_; refine .nil ?_; obtain ⟨o35, b36, z37⟩ := bnd1 h; refine W.fork2 (out := o35) (fun (w34 : Unit) => mkSt [] [] 1000) ?_ ?_
   ·clear h; refine W.block ?_; refine W.loopF (fun (s_ : Int) => mkSt [(0, some (.imm (.row 2 (List.map api_Price.enc x0)))), (14, some (.imm (.row 2 (List.map api_Price.enc x0)))), (15, some (.i (List.length x0 : Int))), (16, some (.i s_))] [] 1000) b36 (Gives.mkR [] (.e rfl rfl) .n rfl rfl rfl) ?_; rintro v13 s_ hr; have h : msg_prices.b0 x0 v13 = some s_ := hr; unfold msg_prices.b0 at h; refine W.seq ?_; refine W.pk ?_; refine .v rfl rfl (OpL.binI rfl rfl rfl rfl) ?_; refine .nil ?_; refine W.seq ?_; refine W.cond rfl (fun q38 => ?_) (fun q38 => ?_)
    ·have h := ifT q38 h; refine W.skip ?_; refine W.seq ?_; refine W.block ?_; refine W.seq ?_; obtain ⟨c39, h⟩ := chk h; refine W.pk ?_; refine .m rfl rfl rfl rfl ?_; refine .v rfl rfl (O.idx sl28 c39 rfl rfl rfl) ?_; refine .v rfl rfl (O.ldN ty105 rfl rfl rfl) ?_; refine .t rfl rfl (O.alloc z105 rfl) ?_; refine .a rfl rfl rfl rfl ?_; refine .s rfl rfl (O.st ty105 rfl rfl rfl rfl rfl rfl rfl rfl rfl rfl (all' := [.s ((nth x0 v13).ISIN), .i ((nth x0 v13).Price)]) rfl) ?_; refine .nil ?_; (iterate 2 refine W.seq ?_); obtain ⟨t40, b41, h⟩ := bnd1 h; refine W.pk ?_; refine .v rfl rfl (O.fld fld105_0 rfl rfl rfl) ?_; refine .v rfl rfl (O.ld (y := .s ((nth x0 v13).ISIN)) ty9 rfl rfl rfl) ?_; refine .call (.i t40) [] 0 (isin_Check.ok b41) rfl rfl rfl ca49 rfl rfl (cC (.imm _) .nil) rfl rfl rfl rfl rfl ?_; refine .a rfl rfl rfl rfl ?_; refine .nil ?_; refine W.seq ?_; refine W.pk ?_; refine .m rfl rfl rfl rfl ?_; refine .v rfl rfl (OpL.binI rfl rfl rfl rfl) ?_; refine .nil ?_; refine W.cond rfl (fun q42 => ?_) (fun q42 => ?_)
     ·have h := ifT q42 h; refine W.seq ?_; refine W.pk ?_; refine .m rfl rfl rfl rfl ?_; refine .a rfl rfl rfl rfl ?_; refine .nil ?_; refine W.ret ?_; cases h; refine rdR fun e_ => ?_; subst e_; have h := z37; dsimp only at h; refine fkR ?_; cases h; exact leaves (.inr rfl) rfl (.imm _) (cN .nil) rfl rfl
     ·have h := ifF q42 h; refine W.skip ?_; refine W.seq ?_; obtain ⟨c43, h⟩ := chk h; refine W.fork (mkSt [(0, some (.imm (.row 2 (List.map api_Price.enc x0)))), (14, some (.imm (.row 2 (List.map api_Price.enc x0)))), (15, some (.i (List.length x0 : Int))), (16, some (.i v13)), (49, some (.b (((decide (((nth x0 v13).Price) < 1)) || (decide (((nth x0 v13).Price) > 4294967296))) || ((decide (v13 > 0)) && (Go.Op.bytesLess ((nth x0 v13).ISIN) ((nth x0 (IntKind.wrap .i64 (v13 - 1))).ISIN) || ((nth x0 v13).ISIN) == ((nth x0 (IntKind.wrap .i64 (v13 - 1))).ISIN))))))] [] 1001) ?_ ?_
      ·refine W.cond rfl (fun q47 => ?_) (fun q47 => ?_)
       ·have h := ifT q47 h; refine W.seq ?_; refine W.pk ?_; refine .a rfl rfl rfl rfl ?_; refine .nil ?_; refine W.ret ?_; cases h; refine rdR fun e_ => ?_; subst e_; have h := z37; dsimp only at h; refine fkR ?_; cases h; exact leaves (.inr rfl) rfl (.imm _) (cN .nil) rfl rfl
       ·have h := ifF q47 h; refine W.skip ?_; refine W.pk ?_; refine .v rfl rfl (OpL.binI rfl rfl rfl rfl) ?_; refine .m rfl rfl rfl rfl ?_; refine .nil ?_; cases h; exact rdN (Gives.mkR [] (.e rfl rfl) .n rfl rfl rfl)
      ·clear h; refine W.dk (unm 23 [0, 1, 3, 7, 15, 31, 63, 127, 255, 511, 1023, 2047, 4095, 8191, 4095, 4095, 36863, 118783, 249855, 511999, 1048575, 2097151, 4194303]) rfl (by kernel_rfl) ?_; refine .v rfl rfl (O.fld fld105_1 rfl rfl rfl) ?_; refine .v rfl rfl (O.ld (y := .i ((nth x0 v13).Price)) ty3 rfl rfl rfl) ?_; refine .v rfl rfl (OpL.binI rfl rfl rfl rfl) ?_; refine .m rfl rfl rfl rfl ?_; rcases tf (decide (((nth x0 v13).Price) < 1)) with g44 | g44
       ·(iterate 3 refine .x rfl (unmet rfl rfl rfl g44) ?_); refine .v rfl rfl (O.pickT g44 rfl rfl rfl) ?_; refine .m rfl rfl rfl rfl ?_; (iterate 3 refine .x rfl (unmet rfl rfl rfl rfl) ?_); (iterate 9 refine .x rfl (unmetU rfl rfl rfl) ?_); refine .x rfl (unmet rfl rfl rfl rfl) ?_; refine .v rfl rfl (O.pickT rfl rfl rfl rfl) ?_; refine .nil ?_; refine ⟨by kernel_rfl, by kernel_rfl, ?_⟩; exact toN (Gives.mkR [] (.r rfl rfl (.r rfl rfl (.r rfl rfl (.r rfl rfl (.c rfl (sbb (by simp only [g44, BL])) rfl .n))))) .n rfl rfl rfl)
       ·refine .v rfl (met rfl rfl rfl g44) (O.fld fld105_1 rfl rfl rfl) ?_; refine .v rfl (met rfl rfl rfl g44) (O.ld (y := .i ((nth x0 v13).Price)) ty3 rfl rfl rfl) ?_; refine .v rfl (met rfl rfl rfl g44) (OpL.binI rfl rfl rfl rfl) ?_; refine .v rfl rfl (O.pickF g44 rfl rfl rfl) ?_; refine .m rfl rfl rfl rfl ?_; rcases tf (decide (((nth x0 v13).Price) > 4294967296)) with g45 | g45
        ·(iterate 3 refine .x rfl (unmet rfl rfl rfl g45) ?_); (iterate 9 refine .x rfl (unmetU rfl rfl rfl) ?_); refine .x rfl (unmet rfl rfl rfl g45) ?_; refine .v rfl rfl (O.pickT g45 rfl rfl rfl) ?_; refine .nil ?_; refine ⟨by kernel_rfl, by kernel_rfl, ?_⟩; exact toN (Gives.mkR [] (.r rfl rfl (.r rfl rfl (.r rfl rfl (.r rfl rfl (.c rfl (sbb (by first | (simp only [g44, g45, BL]; done) | (repeat (first | rw [g44] | rw [g45])) <;> simp only [BL])) rfl .n))))) .n rfl rfl rfl)
        ·refine .m rfl (met rfl rfl rfl g45) rfl rfl ?_; refine .v rfl (met rfl rfl rfl g45) (OpL.binI rfl rfl rfl rfl) ?_; refine .m rfl (met rfl rfl rfl g45) rfl rfl ?_; rcases tf (decide (v13 > 0)) with g46 | g46
         ·refine .v rfl (met rfl rfl rfl g46) (O.fld fld105_0 rfl rfl rfl) ?_; refine .v rfl (met rfl rfl rfl g46) (O.ld (y := .s ((nth x0 v13).ISIN)) ty9 rfl rfl rfl) ?_; (iterate 2 refine .m rfl (met rfl rfl rfl g46) rfl rfl ?_); refine .v rfl (met rfl rfl rfl g46) (OpL.binI rfl rfl rfl rfl) ?_; refine .v rfl (met rfl rfl rfl g46) (O.idx sl28 (c43 ⟨(by first | (simp only [g44, g45, g46, BL]; done) | (repeat (first | rw [g44] | rw [g45] | rw [g46])) <;> simp only [BL]), (by first | (simp only [g44, g45, g46, BL]; done) | (repeat (first | rw [g44] | rw [g45] | rw [g46])) <;> simp only [BL])⟩) rfl rfl rfl) ?_; refine .v rfl (met rfl rfl rfl g46) (O.fld fld105_0 rfl rfl rfl) ?_; refine .v rfl (met rfl rfl rfl g46) (O.ld (y := .s ((nth x0 (IntKind.wrap .i64 (v13 - 1))).ISIN)) ty9 rfl rfl rfl) ?_; refine .v rfl (met rfl rfl rfl g46) (O.cmpS rfl rfl rfl rfl) ?_; refine .v rfl (met rfl rfl rfl g45) (O.pickT g46 rfl rfl rfl) ?_; refine .v rfl rfl (O.pickF g45 rfl rfl rfl) ?_; refine .nil ?_; refine ⟨by kernel_rfl, by kernel_rfl, ?_⟩; exact toN (Gives.mkR [] (.r rfl rfl (.r rfl rfl (.r rfl rfl (.r rfl rfl (.c rfl (sbb (by first | (simp only [g44, g45, g46, BL]; done) | (repeat (first | rw [g44] | rw [g45] | rw [g46])) <;> simp only [BL])) rfl .n))))) .n rfl rfl rfl)
         ·(iterate 9 refine .x rfl (unmet rfl rfl rfl g46) ?_); refine .v rfl (met rfl rfl rfl g45) (O.pickF g46 rfl rfl rfl) ?_; refine .v rfl rfl (O.pickF g45 rfl rfl rfl) ?_; refine .nil ?_; refine ⟨by kernel_rfl, by kernel_rfl, ?_⟩; exact toN (Gives.mkR [] (.r rfl rfl (.r rfl rfl (.r rfl rfl (.r rfl rfl (.c rfl (sbb (by first | (simp only [g44, g45, g46, BL]; done) | (repeat (first | rw [g44] | rw [g45] | rw [g46])) <;> simp only [BL])) rfl .n))))) .n rfl rfl rfl)
    ·have h := ifF q38 h; refine W.exit ?_; cases h; refine rdX fun e_ => ?_; subst e_; (repeat with_reducible refine thru ?_); refine hit ?_; exact fkN (Gives.mkR [] .n .n rfl rfl rfl)
   ·intro w34 e_; subst e_; clear h; have h := z37; dsimp only at h; refine W.seq ?_; refine W.pk ?_; refine .a rfl rfl rfl rfl ?_; refine .nil ?_; refine W.ret ?_; cases h; exact leaves (.inr rfl) rfl (.imm _) (cN .nil) rfl rfl
 ·clear h; refine W.pk ?_; refine .m rfl rfl rfl rfl ?_; refine .v rfl rfl (O.lenR sl28 rfl rfl) ?_; refine .v rfl rfl (OpL.binI rfl rfl rfl rfl) ?_; refine .m rfl rfl rfl rfl ?_; rcases tf ((List.length x0 : Int) == 0) with g1 | g1
  ·(iterate 3 refine .x rfl (unmet rfl rfl rfl g1) ?_); refine .v rfl rfl (O.pickT g1 rfl rfl rfl) ?_; refine .nil ?_; exact toN (Gives.mkR [] (.r rfl rfl (.c rfl (sbb (by simp only [g1, BL])) rfl .n)) .n rfl rfl rfl)
  ·refine .m rfl (met rfl rfl rfl g1) rfl rfl ?_; refine .v rfl (met rfl rfl rfl g1) (O.lenR sl28 rfl rfl) ?_; refine .v rfl (met rfl rfl rfl g1) (OpL.binI rfl rfl rfl rfl) ?_; refine .v rfl rfl (O.pickF g1 rfl rfl rfl) ?_; refine .nil ?_; exact toN (Gives.mkR [] (.r rfl rfl (.c rfl (sbb (by simp only [g1, BL])) rfl .n)) .n rfl rfl rfl)

noncomputable def calendar_Good.f (x0 : Int) : Option (Bool) :=
  some ((decide (x0 ≥ 0)) && (decide (x0 ≤ 200000)))
set_option maxRecDepth 100000 in
set_option maxHeartbeats 4000000 in
theorem calendar_Good.ok {x0 : Int} {r : Bool} (h : calendar_Good.f x0 = some r) : Pm.Spec prog 46 [.imm (.val (.int .i64 x0))] (.imm (.val (.bool r))) [none] := by
 unfold calendar_Good.f at h; refine Pm.Spec.of_body Tryz.func46 rfl (by kernel_rfl) (Nat.le_of_ble_eq_true rfl) (Nat.le_of_ble_eq_true rfl) ?_; refine W.ghost (σ' := (mkSt [(0, some (.i x0))] [] 1000)) (Gives.entry (.c rfl .n) .n) ?_; refine W.seq ?_; refine W.pk ?_; refine .a rfl rfl rfl rfl ?_; refine .nil ?_; refine W.seq ?_; refine W.fork (mkSt [(2, some (.b ((decide (x0 ≥ 0)) && (decide (x0 ≤ 200000)))))] [] 1000) ?_ ?_
 ·refine W.ret ?_; cases h; exact leaves (.inr rfl) rfl (.imm _) (cN .nil) rfl rfl
 ·clear h; refine W.pk ?_; refine .m rfl rfl rfl rfl ?_; refine .v rfl rfl (OpL.binI rfl rfl rfl rfl) ?_; refine .m rfl rfl rfl rfl ?_; rcases tf (decide (x0 ≥ 0)) with g1 | g1
  ·refine .m rfl (met rfl rfl rfl g1) rfl rfl ?_; refine .v rfl (met rfl rfl rfl g1) (OpL.binI rfl rfl rfl rfl) ?_; refine .v rfl rfl (O.pickT g1 rfl rfl rfl) ?_; refine .a rfl rfl rfl rfl ?_; refine .nil ?_; exact toN (Gives.mkR [] (.c rfl (sbb (by simp only [g1, BL])) rfl .n) .n rfl rfl rfl)
  ·(iterate 2 refine .x rfl (unmet rfl rfl rfl g1) ?_); refine .v rfl rfl (O.pickF g1 rfl rfl rfl) ?_; refine .a rfl rfl rfl rfl ?_; refine .nil ?_; exact toN (Gives.mkR [] (.c rfl (sbb (by simp only [g1, BL])) rfl .n) .n rfl rfl rfl)

noncomputable def msg_arg.f (x0 : Bool) (x1 : Int) : Option (Int) :=
  if x0 = true then
    some 0
  else
    some x1
set_option maxRecDepth 100000 in
set_option maxHeartbeats 4000000 in
theorem msg_arg.ok {x0 : Bool} {x1 : Int} {r : Int} (h : msg_arg.f x0 x1 = some r) : Pm.Spec prog 45 [.imm (.val (.bool x0)), .imm (.val (.int .i64 x1))] (.imm (.val (.int .i64 r))) [none, none] := by
 unfold msg_arg.f at h; refine Pm.Spec.of_body Tryz.func45 rfl (by kernel_rfl) (Nat.le_of_ble_eq_true rfl) (Nat.le_of_ble_eq_true rfl) ?_; refine W.ghost (σ' := (mkSt [(0, some (.b x0)), (1, some (.i x1))] [] 1000)) (Gives.entry (.c rfl (.c rfl .n)) .n) ?_; refine W.seq ?_; refine W.pk ?_; refine .a rfl rfl rfl rfl ?_; refine .nil ?_; (iterate 2 refine W.seq ?_); refine W.pk ?_; refine .m rfl rfl rfl rfl ?_; refine .nil ?_; refine W.cond rfl (fun q1 => ?_) (fun q1 => ?_)
 ·have h := ifT q1 h; refine W.seq ?_; refine W.pk ?_; refine .a rfl rfl rfl rfl ?_; refine .nil ?_; refine W.ret ?_; cases h; exact leaves (.inr rfl) rfl (.imm _) (cN (cN .nil)) rfl rfl
 ·have h := ifF q1 h; refine W.skip ?_; refine W.seq ?_; refine W.pk ?_; refine .m rfl rfl rfl rfl ?_; refine .a rfl rfl rfl rfl ?_; refine .nil ?_; refine W.ret ?_; cases h; exact leaves (.inr rfl) rfl (.imm _) (cN (cN .nil)) rfl rfl

noncomputable def msg_amount.f (x0 : Int) : Option (Bool) :=
  some (((x0 != 0) && (decide (x0 ≥ (-1125899906842624)))) && (decide (x0 ≤ 1125899906842624)))
set_option maxRecDepth 100000 in
set_option maxHeartbeats 4000000 in
theorem msg_amount.ok {x0 : Int} {r : Bool} (h : msg_amount.f x0 = some r) : Pm.Spec prog 48 [.imm (.val (.int .i64 x0))] (.imm (.val (.bool r))) [none] := by
 unfold msg_amount.f at h; refine Pm.Spec.of_body Tryz.func48 rfl (by kernel_rfl) (Nat.le_of_ble_eq_true rfl) (Nat.le_of_ble_eq_true rfl) ?_; refine W.ghost (σ' := (mkSt [(0, some (.i x0))] [] 1000)) (Gives.entry (.c rfl .n) .n) ?_; refine W.seq ?_; refine W.pk ?_; refine .a rfl rfl rfl rfl ?_; refine .nil ?_; refine W.seq ?_; refine W.fork (mkSt [(2, some (.b (((x0 != 0) && (decide (x0 ≥ (-1125899906842624)))) && (decide (x0 ≤ 1125899906842624)))))] [] 1000) ?_ ?_
 ·refine W.ret ?_; cases h; exact leaves (.inr rfl) rfl (.imm _) (cN .nil) rfl rfl
 ·clear h; refine W.pk ?_; refine .m rfl rfl rfl rfl ?_; refine .v rfl rfl (OpL.binI rfl rfl rfl rfl) ?_; refine .m rfl rfl rfl rfl ?_; rcases tf (x0 != 0) with g1 | g1
  ·refine .m rfl (met rfl rfl rfl g1) rfl rfl ?_; refine .v rfl (met rfl rfl rfl g1) (OpL.binI rfl rfl rfl rfl) ?_; refine .v rfl rfl (O.pickT g1 rfl rfl rfl) ?_; refine .m rfl rfl rfl rfl ?_; rcases tf (decide (x0 ≥ (-1125899906842624))) with g2 | g2
   ·refine .m rfl (met rfl rfl rfl g2) rfl rfl ?_; refine .v rfl (met rfl rfl rfl g2) (OpL.binI rfl rfl rfl rfl) ?_; refine .v rfl rfl (O.pickT g2 rfl rfl rfl) ?_; refine .a rfl rfl rfl rfl ?_; refine .nil ?_; exact toN (Gives.mkR [] (.c rfl (sbb (by first | (simp only [g1, g2, BL]; done) | (repeat (first | rw [g1] | rw [g2])) <;> simp only [BL])) rfl .n) .n rfl rfl rfl)
   ·(iterate 2 refine .x rfl (unmet rfl rfl rfl g2) ?_); refine .v rfl rfl (O.pickF g2 rfl rfl rfl) ?_; refine .a rfl rfl rfl rfl ?_; refine .nil ?_; exact toN (Gives.mkR [] (.c rfl (sbb (by first | (simp only [g1, g2, BL]; done) | (repeat (first | rw [g1] | rw [g2])) <;> simp only [BL])) rfl .n) .n rfl rfl rfl)
  ·(iterate 2 refine .x rfl (unmet rfl rfl rfl g1) ?_); refine .v rfl rfl (O.pickF g1 rfl rfl rfl) ?_; refine .m rfl rfl rfl rfl ?_; (iterate 2 refine .x rfl (unmet rfl rfl rfl rfl) ?_); refine .v rfl rfl (O.pickF rfl rfl rfl rfl) ?_; refine .a rfl rfl rfl rfl ?_; refine .nil ?_; exact toN (Gives.mkR [] (.c rfl (sbb (by simp only [g1, BL])) rfl .n) .n rfl rfl rfl)

noncomputable def msg_quote.f (x0 : api_Quote) : Option (Int) :=
  if (((((decide (x0.ID < 1)) || (decide (x0.ID > 1125899906842624))) || ((x0.Side != 1) && (x0.Side != 2))) || (decide (x0.Basket < 1))) || (decide (x0.Basket > 64))) = true then
    some 1
  else
    if ((((decide (x0.Amount < 1)) || (decide (x0.Amount > 1125899906842624))) || (decide (x0.Rate < (-1000000)))) || (decide (x0.Rate > 1000000))) = true then
      some 1
    else
      (calendar_Good.f x0.Start).bind fun t12 =>
      (if (!t12) = false ∧ (x0.End != 0) = true then calendar_Good.f x0.End else some default).bind fun t14 =>
      if ((!t12) || ((x0.End != 0) && (((!t14) || (decide (x0.End ≤ x0.Start))) || (decide ((IntKind.wrap .i64 (x0.End - x0.Start)) > 3660))))) = true then
        some 10
      else
        some 0
set_option maxRecDepth 100000 in
set_option maxHeartbeats 4000000 in
theorem msg_quote.ok {x0 : api_Quote} {r : Int} (h : msg_quote.f x0 = some r) : Pm.Spec prog 50 [.agg [.imm (.val (.int .i64 x0.ID)), .imm (.val (.int .i64 x0.Member)), .imm (.val (.int .i64 x0.Side)), .imm (.val (.int .i64 x0.Basket)), .imm (.val (.int .i64 x0.Amount)), .imm (.val (.int .i64 x0.Rate)), .imm (.val (.int .i64 x0.Start)), .imm (.val (.int .i64 x0.End))]] (.imm (.val (.int .i64 r))) [none] := by
 unfold msg_quote.f at h; refine Pm.Spec.of_body Tryz.func50 rfl (by kernel_rfl) (Nat.le_of_ble_eq_true rfl) (Nat.le_of_ble_eq_true rfl) ?_; refine W.ghost (σ' := (mkSt [(0, some (.agg (api_Quote.av x0)))] [] 1000)) (Gives.entry (.c rfl .n) .n) ?_; refine W.seq ?_; refine W.pk ?_; refine .t rfl rfl (O.box rfl rfl rfl rfl rfl) ?_; refine .a rfl rfl rfl rfl ?_; refine .nil ?_; refine W.seq ?_; refine W.block ?_; refine W.seq ?_; refine W.fork (mkSt [(1, some (.ptr 1000 0)), (3, some (.b (((((decide (x0.ID < 1)) || (decide (x0.ID > 1125899906842624))) || ((x0.Side != 1) && (x0.Side != 2))) || (decide (x0.Basket < 1))) || (decide (x0.Basket > 64)))))] [(1000, some (.box [.i x0.ID, .i x0.Member, .i x0.Side, .i x0.Basket, .i x0.Amount, .i x0.Rate, .i x0.Start, .i x0.End]))] 1001) ?_ ?_
 ·refine W.cond rfl (fun q7 => ?_) (fun q7 => ?_)
  ·have h := ifT q7 h; refine W.seq ?_; refine W.pk ?_; refine .a rfl rfl rfl rfl ?_; refine .nil ?_; refine W.ret ?_; cases h; exact leaves (.inr rfl) rfl (.imm _) (cN .nil) rfl rfl
  ·have h := ifF q7 h; refine W.seq ?_; refine W.fork (mkSt [(1, some (.ptr 1000 0)), (32, some (.b ((((decide (x0.Amount < 1)) || (decide (x0.Amount > 1125899906842624))) || (decide (x0.Rate < (-1000000)))) || (decide (x0.Rate > 1000000)))))] [(1000, some (.box [.i x0.ID, .i x0.Member, .i x0.Side, .i x0.Basket, .i x0.Amount, .i x0.Rate, .i x0.Start, .i x0.End]))] 1001) ?_ ?_
   ·refine W.cond rfl (fun q11 => ?_) (fun q11 => ?_)
    ·have h := ifT q11 h; refine W.seq ?_; refine W.pk ?_; refine .a rfl rfl rfl rfl ?_; refine .nil ?_; refine W.ret ?_; cases h; exact leaves (.inr rfl) rfl (.imm _) (cN .nil) rfl rfl
    ·have h := ifF q11 h; refine W.seq ?_; obtain ⟨t12, b13, h⟩ := bnd1 h; obtain ⟨t14, b15, h⟩ := bnd1 h; refine W.fork (mkSt [(51, some (.b ((!t12) || ((x0.End != 0) && (((!t14) || (decide (x0.End ≤ x0.Start))) || (decide ((IntKind.wrap .i64 (x0.End - x0.Start)) > 3660)))))))] [] 1001) ?_ ?_
     ·refine W.cond rfl (fun q20 => ?_) (fun q20 => ?_)
      ·have h := ifT q20 h; refine W.seq ?_; refine W.pk ?_; refine .a rfl rfl rfl rfl ?_; refine .nil ?_; refine W.ret ?_; cases h; exact leaves (.inr rfl) rfl (.imm _) (cN .nil) rfl rfl
      ·have h := ifF q20 h; refine W.skip ?_; refine W.seq ?_; refine W.pk ?_; refine .a rfl rfl rfl rfl ?_; refine .nil ?_; refine W.ret ?_; cases h; exact leaves (.inr rfl) rfl (.imm _) (cN .nil) rfl rfl
     ·clear h; refine W.pk ?_; refine .v rfl rfl (O.fld fld30_6 rfl rfl rfl) ?_; refine .v rfl rfl (O.ld (y := .i x0.Start) ty3 rfl rfl rfl) ?_; refine .call (.b t12) [] 0 (calendar_Good.ok b13) rfl rfl rfl ca46 rfl rfl (cC (.imm _) .nil) rfl rfl rfl rfl rfl ?_; refine .v rfl rfl (OpL.unV rfl rfl rfl) ?_; refine .m rfl rfl rfl rfl ?_; rcases tf t12 with g16 | g16
      ·refine .v rfl (met rfl rfl rfl (notT g16)) (O.fld fld30_7 rfl rfl rfl) ?_; refine .v rfl (met rfl rfl rfl (notT g16)) (O.ld (y := .i x0.End) ty3 rfl rfl rfl) ?_; refine .v rfl (met rfl rfl rfl (notT g16)) (OpL.binI rfl rfl rfl rfl) ?_; refine .m rfl (met rfl rfl rfl (notT g16)) rfl rfl ?_; rcases tf (x0.End != 0) with g17 | g17
       ·refine .v rfl (met rfl rfl rfl g17) (O.fld fld30_7 rfl rfl rfl) ?_; refine .v rfl (met rfl rfl rfl g17) (O.ld (y := .i x0.End) ty3 rfl rfl rfl) ?_; refine .call (.b t14) [] 0 (calendar_Good.ok ((if_pos ⟨(by first | (simp only [g16, g17, BL]; done) | (repeat (first | rw [g16] | rw [g17])) <;> simp only [BL]), (by first | (simp only [g16, g17, BL]; done) | (repeat (first | rw [g16] | rw [g17])) <;> simp only [BL])⟩).symm.trans b15)) rfl (met rfl rfl rfl g17) rfl ca46 rfl rfl (cC (.imm _) .nil) rfl rfl rfl rfl rfl ?_; refine .v rfl (met rfl rfl rfl g17) (OpL.unV rfl rfl rfl) ?_; refine .m rfl (met rfl rfl rfl g17) rfl rfl ?_; rcases tf t14 with g18 | g18
        ·refine .v rfl (met rfl rfl rfl (notT g18)) (O.fld fld30_7 rfl rfl rfl) ?_; refine .v rfl (met rfl rfl rfl (notT g18)) (O.ld (y := .i x0.End) ty3 rfl rfl rfl) ?_; refine .v rfl (met rfl rfl rfl (notT g18)) (O.fld fld30_6 rfl rfl rfl) ?_; refine .v rfl (met rfl rfl rfl (notT g18)) (O.ld (y := .i x0.Start) ty3 rfl rfl rfl) ?_; refine .v rfl (met rfl rfl rfl (notT g18)) (OpL.binI rfl rfl rfl rfl) ?_; refine .v rfl (met rfl rfl rfl g17) (O.pickF (notT g18) rfl rfl rfl) ?_; refine .m rfl (met rfl rfl rfl g17) rfl rfl ?_; rcases tf (decide (x0.End ≤ x0.Start)) with g19 | g19
         ·(iterate 6 refine .x rfl (unmet rfl rfl rfl g19) ?_); refine .v rfl (met rfl rfl rfl g17) (O.pickT g19 rfl rfl rfl) ?_; refine .v rfl (met rfl rfl rfl (notT g16)) (O.pickT g17 rfl rfl rfl) ?_; refine .v rfl rfl (O.pickF (notT g16) rfl rfl rfl) ?_; refine .a rfl rfl rfl rfl ?_; refine .nil ?_; exact toN (Gives.mkR [] (.c rfl (sbb (by first | (simp only [g16, g17, g18, g19, BL]; done) | (repeat (first | rw [g16] | rw [g17] | rw [g18] | rw [g19])) <;> simp only [BL])) rfl .n) .n rfl rfl rfl)
         ·refine .v rfl (met rfl rfl rfl g19) (O.fld fld30_7 rfl rfl rfl) ?_; refine .v rfl (met rfl rfl rfl g19) (O.ld (y := .i x0.End) ty3 rfl rfl rfl) ?_; refine .v rfl (met rfl rfl rfl g19) (O.fld fld30_6 rfl rfl rfl) ?_; refine .v rfl (met rfl rfl rfl g19) (O.ld (y := .i x0.Start) ty3 rfl rfl rfl) ?_; (iterate 2 refine .v rfl (met rfl rfl rfl g19) (OpL.binI rfl rfl rfl rfl) ?_); refine .v rfl (met rfl rfl rfl g17) (O.pickF g19 rfl rfl rfl) ?_; refine .v rfl (met rfl rfl rfl (notT g16)) (O.pickT g17 rfl rfl rfl) ?_; refine .v rfl rfl (O.pickF (notT g16) rfl rfl rfl) ?_; refine .a rfl rfl rfl rfl ?_; refine .nil ?_; exact toN (Gives.mkR [] (.c rfl (sbb (by first | (simp only [g16, g17, g18, g19, BL]; done) | (repeat (first | rw [g16] | rw [g17] | rw [g18] | rw [g19])) <;> simp only [BL])) rfl .n) .n rfl rfl rfl)
        ·(iterate 5 refine .x rfl (unmet rfl rfl rfl (notF g18)) ?_); refine .v rfl (met rfl rfl rfl g17) (O.pickT (notF g18) rfl rfl rfl) ?_; refine .m rfl (met rfl rfl rfl g17) rfl rfl ?_; (iterate 6 refine .x rfl (unmet rfl rfl rfl rfl) ?_); refine .v rfl (met rfl rfl rfl g17) (O.pickT rfl rfl rfl rfl) ?_; refine .v rfl (met rfl rfl rfl (notT g16)) (O.pickT g17 rfl rfl rfl) ?_; refine .v rfl rfl (O.pickF (notT g16) rfl rfl rfl) ?_; refine .a rfl rfl rfl rfl ?_; refine .nil ?_; exact toN (Gives.mkR [] (.c rfl (sbb (by first | (simp only [g16, g17, g18, BL]; done) | (repeat (first | rw [g16] | rw [g17] | rw [g18])) <;> simp only [BL])) rfl .n) .n rfl rfl rfl)
       ·(iterate 5 refine .x rfl (unmet rfl rfl rfl g17) ?_); (iterate 5 refine .x rfl (unmetU rfl rfl rfl) ?_); (iterate 2 refine .x rfl (unmet rfl rfl rfl g17) ?_); (iterate 6 refine .x rfl (unmetU rfl rfl rfl) ?_); refine .x rfl (unmet rfl rfl rfl g17) ?_; refine .v rfl (met rfl rfl rfl (notT g16)) (O.pickF g17 rfl rfl rfl) ?_; refine .v rfl rfl (O.pickF (notT g16) rfl rfl rfl) ?_; refine .a rfl rfl rfl rfl ?_; refine .nil ?_; exact toN (Gives.mkR [] (.c rfl (sbb (by first | (simp only [g16, g17, BL]; done) | (repeat (first | rw [g16] | rw [g17])) <;> simp only [BL])) rfl .n) .n rfl rfl rfl)
      ·(iterate 4 refine .x rfl (unmet rfl rfl rfl (notF g16)) ?_); (iterate 19 refine .x rfl (unmetU rfl rfl rfl) ?_); refine .x rfl (unmet rfl rfl rfl (notF g16)) ?_; refine .v rfl rfl (O.pickT (notF g16) rfl rfl rfl) ?_; refine .a rfl rfl rfl rfl ?_; refine .nil ?_; exact toN (Gives.mkR [] (.c rfl (sbb (by simp only [g16, BL])) rfl .n) .n rfl rfl rfl)
   ·clear h; refine W.pk ?_; refine .v rfl rfl (O.fld fld30_4 rfl rfl rfl) ?_; refine .v rfl rfl (O.ld (y := .i x0.Amount) ty3 rfl rfl rfl) ?_; refine .v rfl rfl (OpL.binI rfl rfl rfl rfl) ?_; refine .m rfl rfl rfl rfl ?_; rcases tf (decide (x0.Amount < 1)) with g8 | g8
    ·(iterate 3 refine .x rfl (unmet rfl rfl rfl g8) ?_); refine .v rfl rfl (O.pickT g8 rfl rfl rfl) ?_; refine .m rfl rfl rfl rfl ?_; (iterate 3 refine .x rfl (unmet rfl rfl rfl rfl) ?_); refine .v rfl rfl (O.pickT rfl rfl rfl rfl) ?_; refine .m rfl rfl rfl rfl ?_; (iterate 3 refine .x rfl (unmet rfl rfl rfl rfl) ?_); refine .v rfl rfl (O.pickT rfl rfl rfl rfl) ?_; refine .a rfl rfl rfl rfl ?_; refine .nil ?_; exact toN (Gives.mkR [] (.r rfl rfl (.c rfl (sbb (by simp only [g8, BL])) rfl .n)) (.r rfl rfl rfl .n) rfl rfl rfl)
    ·refine .v rfl (met rfl rfl rfl g8) (O.fld fld30_4 rfl rfl rfl) ?_; refine .v rfl (met rfl rfl rfl g8) (O.ld (y := .i x0.Amount) ty3 rfl rfl rfl) ?_; refine .v rfl (met rfl rfl rfl g8) (OpL.binI rfl rfl rfl rfl) ?_; refine .v rfl rfl (O.pickF g8 rfl rfl rfl) ?_; refine .m rfl rfl rfl rfl ?_; rcases tf (decide (x0.Amount > 1125899906842624)) with g9 | g9
     ·(iterate 3 refine .x rfl (unmet rfl rfl rfl g9) ?_); refine .v rfl rfl (O.pickT g9 rfl rfl rfl) ?_; refine .m rfl rfl rfl rfl ?_; (iterate 3 refine .x rfl (unmet rfl rfl rfl rfl) ?_); refine .v rfl rfl (O.pickT rfl rfl rfl rfl) ?_; refine .a rfl rfl rfl rfl ?_; refine .nil ?_; exact toN (Gives.mkR [] (.r rfl rfl (.c rfl (sbb (by first | (simp only [g8, g9, BL]; done) | (repeat (first | rw [g8] | rw [g9])) <;> simp only [BL])) rfl .n)) (.r rfl rfl rfl .n) rfl rfl rfl)
     ·refine .v rfl (met rfl rfl rfl g9) (O.fld fld30_5 rfl rfl rfl) ?_; refine .v rfl (met rfl rfl rfl g9) (O.ld (y := .i x0.Rate) ty3 rfl rfl rfl) ?_; refine .v rfl (met rfl rfl rfl g9) (OpL.binI rfl rfl rfl rfl) ?_; refine .v rfl rfl (O.pickF g9 rfl rfl rfl) ?_; refine .m rfl rfl rfl rfl ?_; rcases tf (decide (x0.Rate < (-1000000))) with g10 | g10
      ·(iterate 3 refine .x rfl (unmet rfl rfl rfl g10) ?_); refine .v rfl rfl (O.pickT g10 rfl rfl rfl) ?_; refine .a rfl rfl rfl rfl ?_; refine .nil ?_; exact toN (Gives.mkR [] (.r rfl rfl (.c rfl (sbb (by first | (simp only [g8, g9, g10, BL]; done) | (repeat (first | rw [g8] | rw [g9] | rw [g10])) <;> simp only [BL])) rfl .n)) (.r rfl rfl rfl .n) rfl rfl rfl)
      ·refine .v rfl (met rfl rfl rfl g10) (O.fld fld30_5 rfl rfl rfl) ?_; refine .v rfl (met rfl rfl rfl g10) (O.ld (y := .i x0.Rate) ty3 rfl rfl rfl) ?_; refine .v rfl (met rfl rfl rfl g10) (OpL.binI rfl rfl rfl rfl) ?_; refine .v rfl rfl (O.pickF g10 rfl rfl rfl) ?_; refine .a rfl rfl rfl rfl ?_; refine .nil ?_; exact toN (Gives.mkR [] (.r rfl rfl (.c rfl (sbb (by first | (simp only [g8, g9, g10, BL]; done) | (repeat (first | rw [g8] | rw [g9] | rw [g10])) <;> simp only [BL])) rfl .n)) (.r rfl rfl rfl .n) rfl rfl rfl)
 ·clear h; refine W.pk ?_; refine .v rfl rfl (O.fld fld30_0 rfl rfl rfl) ?_; refine .v rfl rfl (O.ld (y := .i x0.ID) ty3 rfl rfl rfl) ?_; refine .v rfl rfl (OpL.binI rfl rfl rfl rfl) ?_; refine .m rfl rfl rfl rfl ?_; rcases tf (decide (x0.ID < 1)) with g1 | g1
  ·(iterate 3 refine .x rfl (unmet rfl rfl rfl g1) ?_); refine .v rfl rfl (O.pickT g1 rfl rfl rfl) ?_; refine .m rfl rfl rfl rfl ?_; (iterate 4 refine .x rfl (unmet rfl rfl rfl rfl) ?_); (iterate 3 refine .x rfl (unmetU rfl rfl rfl) ?_); refine .x rfl (unmet rfl rfl rfl rfl) ?_; refine .v rfl rfl (O.pickT rfl rfl rfl rfl) ?_; refine .m rfl rfl rfl rfl ?_; (iterate 3 refine .x rfl (unmet rfl rfl rfl rfl) ?_); refine .v rfl rfl (O.pickT rfl rfl rfl rfl) ?_; refine .m rfl rfl rfl rfl ?_; (iterate 3 refine .x rfl (unmet rfl rfl rfl rfl) ?_); refine .v rfl rfl (O.pickT rfl rfl rfl rfl) ?_; refine .a rfl rfl rfl rfl ?_; refine .nil ?_; exact toN (Gives.mkR [] (.r rfl rfl (.c rfl (sbb (by simp only [g1, BL])) rfl .n)) (.r rfl rfl rfl .n) rfl rfl rfl)
  ·refine .v rfl (met rfl rfl rfl g1) (O.fld fld30_0 rfl rfl rfl) ?_; refine .v rfl (met rfl rfl rfl g1) (O.ld (y := .i x0.ID) ty3 rfl rfl rfl) ?_; refine .v rfl (met rfl rfl rfl g1) (OpL.binI rfl rfl rfl rfl) ?_; refine .v rfl rfl (O.pickF g1 rfl rfl rfl) ?_; refine .m rfl rfl rfl rfl ?_; rcases tf (decide (x0.ID > 1125899906842624)) with g2 | g2
   ·(iterate 4 refine .x rfl (unmet rfl rfl rfl g2) ?_); (iterate 3 refine .x rfl (unmetU rfl rfl rfl) ?_); refine .x rfl (unmet rfl rfl rfl g2) ?_; refine .v rfl rfl (O.pickT g2 rfl rfl rfl) ?_; refine .m rfl rfl rfl rfl ?_; (iterate 3 refine .x rfl (unmet rfl rfl rfl rfl) ?_); refine .v rfl rfl (O.pickT rfl rfl rfl rfl) ?_; refine .m rfl rfl rfl rfl ?_; (iterate 3 refine .x rfl (unmet rfl rfl rfl rfl) ?_); refine .v rfl rfl (O.pickT rfl rfl rfl rfl) ?_; refine .a rfl rfl rfl rfl ?_; refine .nil ?_; exact toN (Gives.mkR [] (.r rfl rfl (.c rfl (sbb (by first | (simp only [g1, g2, BL]; done) | (repeat (first | rw [g1] | rw [g2])) <;> simp only [BL])) rfl .n)) (.r rfl rfl rfl .n) rfl rfl rfl)
   ·refine .v rfl (met rfl rfl rfl g2) (O.fld fld30_2 rfl rfl rfl) ?_; refine .v rfl (met rfl rfl rfl g2) (O.ld (y := .i x0.Side) ty3 rfl rfl rfl) ?_; refine .v rfl (met rfl rfl rfl g2) (OpL.binI rfl rfl rfl rfl) ?_; refine .m rfl (met rfl rfl rfl g2) rfl rfl ?_; rcases tf (x0.Side != 1) with g3 | g3
    ·refine .v rfl (met rfl rfl rfl g3) (O.fld fld30_2 rfl rfl rfl) ?_; refine .v rfl (met rfl rfl rfl g3) (O.ld (y := .i x0.Side) ty3 rfl rfl rfl) ?_; refine .v rfl (met rfl rfl rfl g3) (OpL.binI rfl rfl rfl rfl) ?_; refine .v rfl (met rfl rfl rfl g2) (O.pickT g3 rfl rfl rfl) ?_; refine .v rfl rfl (O.pickF g2 rfl rfl rfl) ?_; refine .m rfl rfl rfl rfl ?_; rcases tf (x0.Side != 2) with g4 | g4
     ·(iterate 3 refine .x rfl (unmet rfl rfl rfl g4) ?_); refine .v rfl rfl (O.pickT g4 rfl rfl rfl) ?_; refine .m rfl rfl rfl rfl ?_; (iterate 3 refine .x rfl (unmet rfl rfl rfl rfl) ?_); refine .v rfl rfl (O.pickT rfl rfl rfl rfl) ?_; refine .a rfl rfl rfl rfl ?_; refine .nil ?_; exact toN (Gives.mkR [] (.r rfl rfl (.c rfl (sbb (by first | (simp only [g1, g2, g3, g4, BL]; done) | (repeat (first | rw [g1] | rw [g2] | rw [g3] | rw [g4])) <;> simp only [BL])) rfl .n)) (.r rfl rfl rfl .n) rfl rfl rfl)
     ·refine .v rfl (met rfl rfl rfl g4) (O.fld fld30_3 rfl rfl rfl) ?_; refine .v rfl (met rfl rfl rfl g4) (O.ld (y := .i x0.Basket) ty3 rfl rfl rfl) ?_; refine .v rfl (met rfl rfl rfl g4) (OpL.binI rfl rfl rfl rfl) ?_; refine .v rfl rfl (O.pickF g4 rfl rfl rfl) ?_; refine .m rfl rfl rfl rfl ?_; rcases tf (decide (x0.Basket < 1)) with g5 | g5
      ·(iterate 3 refine .x rfl (unmet rfl rfl rfl g5) ?_); refine .v rfl rfl (O.pickT g5 rfl rfl rfl) ?_; refine .a rfl rfl rfl rfl ?_; refine .nil ?_; exact toN (Gives.mkR [] (.r rfl rfl (.c rfl (sbb (by first | (simp only [g1, g2, g3, g4, g5, BL]; done) | (repeat (first | rw [g1] | rw [g2] | rw [g3] | rw [g4] | rw [g5])) <;> simp only [BL])) rfl .n)) (.r rfl rfl rfl .n) rfl rfl rfl)
      ·refine .v rfl (met rfl rfl rfl g5) (O.fld fld30_3 rfl rfl rfl) ?_; refine .v rfl (met rfl rfl rfl g5) (O.ld (y := .i x0.Basket) ty3 rfl rfl rfl) ?_; refine .v rfl (met rfl rfl rfl g5) (OpL.binI rfl rfl rfl rfl) ?_; refine .v rfl rfl (O.pickF g5 rfl rfl rfl) ?_; refine .a rfl rfl rfl rfl ?_; refine .nil ?_; exact toN (Gives.mkR [] (.r rfl rfl (.c rfl (sbb (by first | (simp only [g1, g2, g3, g4, g5, BL]; done) | (repeat (first | rw [g1] | rw [g2] | rw [g3] | rw [g4] | rw [g5])) <;> simp only [BL])) rfl .n)) (.r rfl rfl rfl .n) rfl rfl rfl)
    ·(iterate 3 refine .x rfl (unmet rfl rfl rfl g3) ?_); refine .v rfl (met rfl rfl rfl g2) (O.pickF g3 rfl rfl rfl) ?_; refine .v rfl rfl (O.pickF g2 rfl rfl rfl) ?_; refine .m rfl rfl rfl rfl ?_; refine .v rfl (met rfl rfl rfl rfl) (O.fld fld30_3 rfl rfl rfl) ?_; refine .v rfl (met rfl rfl rfl rfl) (O.ld (y := .i x0.Basket) ty3 rfl rfl rfl) ?_; refine .v rfl (met rfl rfl rfl rfl) (OpL.binI rfl rfl rfl rfl) ?_; refine .v rfl rfl (O.pickF rfl rfl rfl rfl) ?_; refine .m rfl rfl rfl rfl ?_; rcases tf (decide (x0.Basket < 1)) with g6 | g6
     ·(iterate 3 refine .x rfl (unmet rfl rfl rfl g6) ?_); refine .v rfl rfl (O.pickT g6 rfl rfl rfl) ?_; refine .a rfl rfl rfl rfl ?_; refine .nil ?_; exact toN (Gives.mkR [] (.r rfl rfl (.c rfl (sbb (by first | (simp only [g1, g2, g3, g6, BL]; done) | (repeat (first | rw [g1] | rw [g2] | rw [g3] | rw [g6])) <;> simp only [BL])) rfl .n)) (.r rfl rfl rfl .n) rfl rfl rfl)
     ·refine .v rfl (met rfl rfl rfl g6) (O.fld fld30_3 rfl rfl rfl) ?_; refine .v rfl (met rfl rfl rfl g6) (O.ld (y := .i x0.Basket) ty3 rfl rfl rfl) ?_; refine .v rfl (met rfl rfl rfl g6) (OpL.binI rfl rfl rfl rfl) ?_; refine .v rfl rfl (O.pickF g6 rfl rfl rfl) ?_; refine .a rfl rfl rfl rfl ?_; refine .nil ?_; exact toN (Gives.mkR [] (.r rfl rfl (.c rfl (sbb (by first | (simp only [g1, g2, g3, g6, BL]; done) | (repeat (first | rw [g1] | rw [g2] | rw [g3] | rw [g6])) <;> simp only [BL])) rfl .n)) (.r rfl rfl rfl .n) rfl rfl rfl)

noncomputable def msg_lot.f (x0 : api_Lot) : Option (Int) :=
  if ((decide (x0.Qty < 1)) || (decide (x0.Qty > 1125899906842624))) = true then
    some 1
  else
    (isin_Check.f x0.ISIN).bind fun t3 =>
    some t3
set_option maxRecDepth 100000 in
set_option maxHeartbeats 4000000 in
theorem msg_lot.ok {x0 : api_Lot} {r : Int} (h : msg_lot.f x0 = some r) : Pm.Spec prog 112 [.agg [.imm (.val (.string (tx x0.ISIN))), .imm (.val (.int .i64 x0.Qty))]] (.imm (.val (.int .i64 r))) [none] := by
 unfold msg_lot.f at h; refine Pm.Spec.of_body Tryz.func112 rfl (by kernel_rfl) (Nat.le_of_ble_eq_true rfl) (Nat.le_of_ble_eq_true rfl) ?_; refine W.ghost (σ' := (mkSt [(0, some (.agg [.s x0.ISIN, .i x0.Qty]))] [] 1000)) (Gives.entry (.c rfl .n) .n) ?_; refine W.seq ?_; refine W.pk ?_; refine .t rfl rfl (O.box rfl rfl rfl rfl rfl) ?_; refine .a rfl rfl rfl rfl ?_; refine .nil ?_; (iterate 2 refine W.seq ?_); refine W.fork (mkSt [(1, some (.ptr 1000 0)), (10, some (.b ((decide (x0.Qty < 1)) || (decide (x0.Qty > 1125899906842624)))))] [(1000, some (.box [.s x0.ISIN, .i x0.Qty]))] 1001) ?_ ?_
 ·refine W.cond rfl (fun q2 => ?_) (fun q2 => ?_)
  ·have h := ifT q2 h; refine W.seq ?_; refine W.pk ?_; refine .a rfl rfl rfl rfl ?_; refine .nil ?_; refine W.ret ?_; cases h; exact leaves (.inr rfl) rfl (.imm _) (cN .nil) rfl rfl
  ·have h := ifF q2 h; refine W.skip ?_; refine W.seq ?_; obtain ⟨t3, b4, h⟩ := bnd1 h; refine W.pk ?_; refine .v rfl rfl (O.fld fld32_0 rfl rfl rfl) ?_; refine .v rfl rfl (O.ld (y := .s x0.ISIN) ty9 rfl rfl rfl) ?_; refine .call (.i t3) [] 0 (isin_Check.ok b4) rfl rfl rfl ca49 rfl rfl (cC (.imm _) .nil) rfl rfl rfl rfl rfl ?_; refine .a rfl rfl rfl rfl ?_; refine .nil ?_; refine W.ret ?_; cases h; exact leaves (.inr rfl) rfl (.imm _) (cN .nil) rfl rfl
 ·clear h; refine W.pk ?_; refine .v rfl rfl (O.fld fld32_1 rfl rfl rfl) ?_; refine .v rfl rfl (O.ld (y := .i x0.Qty) ty3 rfl rfl rfl) ?_; refine .v rfl rfl (OpL.binI rfl rfl rfl rfl) ?_; refine .m rfl rfl rfl rfl ?_; rcases tf (decide (x0.Qty < 1)) with g1 | g1
  ·(iterate 3 refine .x rfl (unmet rfl rfl rfl g1) ?_); refine .v rfl rfl (O.pickT g1 rfl rfl rfl) ?_; refine .nil ?_; exact toN (Gives.mkR [] (.r rfl rfl (.c rfl (sbb (by simp only [g1, BL])) rfl .n)) (.r rfl rfl rfl .n) rfl rfl rfl)
  ·refine .v rfl (met rfl rfl rfl g1) (O.fld fld32_1 rfl rfl rfl) ?_; refine .v rfl (met rfl rfl rfl g1) (O.ld (y := .i x0.Qty) ty3 rfl rfl rfl) ?_; refine .v rfl (met rfl rfl rfl g1) (OpL.binI rfl rfl rfl rfl) ?_; refine .v rfl rfl (O.pickF g1 rfl rfl rfl) ?_; refine .nil ?_; exact toN (Gives.mkR [] (.r rfl rfl (.c rfl (sbb (by simp only [g1, BL])) rfl .n)) (.r rfl rfl rfl .n) rfl rfl rfl)

noncomputable def msg_swap.b0 (x0 : msg_Swap) (v15 : Int) : Option (Int ⊕ (Int ⊕ Unit)) :=
  if (decide (v15 < (List.length x0.In : Int))) = true then
    if (0 : Int) ≤ v15 ∧ v15 < (List.length x0.In : Int) then
    (msg_lot.f (nth x0.In v15)).bind fun t32 =>
    if (t32 != 0) = true then
      some (.inr (.inl t32))
    else
      some (.inl (IntKind.wrap .i64 (v15 + 1)))
    else none
  else
    some (.inr (.inr ()))
noncomputable def msg_swap.r0 (x0 : msg_Swap) (s : Int) : Option (Int ⊕ (Int ⊕ Unit)) := msg_swap.b0 x0 s
noncomputable def msg_swap.f (x0 : msg_Swap) : Option (Int) :=
  (msg_member.f x0.Member).bind fun t1 =>
  if ((((!t1) || (decide (x0.Trade < 1))) || (decide (x0.Trade > 1125899906842624))) || (decide ((List.length x0.In : Int) > 64))) = true then
    some 1
  else
    (msg_lot.f x0.Out).bind fun t7 =>
    if (t7 != 0) = true then
      some t7
    else
      (loop (msg_swap.r0 x0) 0).bind fun o27 =>
      match o27 with
      | .inl r35 => some r35
      | .inr w26 =>
        some 0
set_option maxRecDepth 100000 in
set_option maxHeartbeats 4000000 in
theorem msg_swap.ok {x0 : msg_Swap} {r : Int} (h : msg_swap.f x0 = some r) : Pm.Spec prog 95 [.agg [.imm (.val (.int .i64 x0.Member)), .imm (.val (.int .i64 x0.Trade)), .imm (.val (.string (tx x0.Out.ISIN))), .imm (.val (.int .i64 x0.Out.Qty)), .imm (.row 2 (List.map api_Lot.enc x0.In))]] (.imm (.val (.int .i64 r))) [none] := by
 unfold msg_swap.f at h; refine Pm.Spec.of_body Tryz.func95 rfl (by kernel_rfl) (Nat.le_of_ble_eq_true rfl) (Nat.le_of_ble_eq_true rfl) ?_; refine W.ghost (σ' := (mkSt [(0, some (.agg (msg_Swap.av x0)))] [] 1000)) (Gives.entry (.c rfl .n) .n) ?_; refine W.seq ?_; refine W.pk ?_; refine .t rfl rfl (O.box rfl rfl rfl rfl rfl) ?_; refine .a rfl rfl rfl rfl ?_; refine .nil ?_; (iterate 2 refine W.seq ?_); obtain ⟨t1, b2, h⟩ := bnd1 h; refine W.fork (mkSt [(1, some (.ptr 1000 0)), (26, some (.b ((((!t1) || (decide (x0.Trade < 1))) || (decide (x0.Trade > 1125899906842624))) || (decide ((List.length x0.In : Int) > 64)))))] [(1000, some (.box [.i x0.Member, .i x0.Trade, .s x0.Out.ISIN, .i x0.Out.Qty, .imm (.row 2 (List.map api_Lot.enc x0.In))]))] 1001) ?_ ?_
 ·refine W.cond rfl (fun q6 => ?_) (fun q6 => ?_)
  ·have h := ifT q6 h; refine W.seq ?_; refine W.pk ?_; refine .a rfl rfl rfl rfl ?_; refine .nil ?_; refine W.ret ?_; cases h; exact leaves (.inr rfl) rfl (.imm _) (cN .nil) rfl rfl
  ·have h := ifF q6 h; refine W.skip ?_; (iterate 2 refine W.seq ?_); obtain ⟨t7, b8, h⟩ := bnd1 h; refine W.pk ?_; refine .v rfl rfl (O.fld fld88_2 rfl rfl rfl) ?_; refine .v rfl rfl (O.ldN ty32 rfl rfl rfl) ?_; refine .call (.i t7) [] 0 (msg_lot.ok b8) rfl rfl rfl ca112 rfl rfl (cC (.agg _ _ _ _ (cC (.imm _) (cC (.imm _) .nil))) .nil) rfl rfl rfl rfl rfl ?_; refine .a rfl rfl rfl rfl ?_; refine .nil ?_; refine W.seq ?_; refine W.pk ?_; refine .m rfl rfl rfl rfl ?_; refine .v rfl rfl (OpL.binI rfl rfl rfl rfl) ?_; refine .nil ?_; refine W.cond rfl (fun q9 => ?_) (fun q9 => ?_)
   ·have h := ifT q9 h; refine W.seq ?_; refine W.pk ?_; refine .m rfl rfl rfl rfl ?_; refine .a rfl rfl rfl rfl ?_; refine .nil ?_; refine W.ret ?_; cases h; exact leaves (.inr rfl) rfl (.imm _) (cN .nil) rfl rfl
   ·have h := ifF q9 h; refine W.skip ?_; (iterate 2 refine W.seq ?_); refine W.pk ?_; refine .v rfl rfl (O.fld fld88_3 rfl rfl rfl) ?_; refine .v rfl rfl (O.ld (y := .imm (.row 2 (List.map api_Lot.enc x0.In))) ty33 rfl rfl rfl) ?_; refine .v rfl rfl (O.lenR sl33 rfl rfl) ?_; refine .m rfl rfl rfl rfl ?_; refine .nil ?_; obtain ⟨o27, b28, z29⟩ := bnd1 h; refine W.fork2 (out := o27) (fun (w26 : Unit) => mkSt [] [] 1001) ?_ ?_
    ·clear h; refine W.block ?_; refine W.loopF (fun (s_ : Int) => mkSt [(34, some (.imm (.row 2 (List.map api_Lot.enc x0.In)))), (35, some (.i (List.length x0.In : Int))), (36, some (.i s_))] [] 1001) b28 (Gives.mkR [] (.e rfl rfl) .n rfl rfl rfl) ?_; rintro v15 s_ hr; have h : msg_swap.b0 x0 v15 = some s_ := hr; unfold msg_swap.b0 at h; refine W.seq ?_; refine W.pk ?_; refine .v rfl rfl (OpL.binI rfl rfl rfl rfl) ?_; refine .nil ?_; refine W.seq ?_; refine W.cond rfl (fun q30 => ?_) (fun q30 => ?_)
     ·have h := ifT q30 h; refine W.skip ?_; refine W.seq ?_; refine W.block ?_; refine W.seq ?_; obtain ⟨c31, h⟩ := chk h; refine W.pk ?_; refine .v rfl rfl (O.idx sl33 c31 rfl rfl rfl) ?_; refine .v rfl rfl (O.ldN ty32 rfl rfl rfl) ?_; refine .t rfl rfl (O.alloc z32 rfl) ?_; refine .s rfl rfl (O.st ty32 rfl rfl rfl rfl rfl rfl rfl rfl rfl rfl (all' := [.s ((nth x0.In v15).ISIN), .i ((nth x0.In v15).Qty)]) rfl) ?_; refine .nil ?_; refine W.seq ?_; obtain ⟨t32, b33, h⟩ := bnd1 h; refine W.pk ?_; refine .v rfl rfl (O.ldN ty32 rfl rfl rfl) ?_; refine .call (.i t32) [] 0 (msg_lot.ok b33) rfl rfl rfl ca112 rfl rfl (cC (.agg _ _ _ _ (cC (.imm _) (cC (.imm _) .nil))) .nil) rfl rfl rfl rfl rfl ?_; refine .a rfl rfl rfl rfl ?_; refine .nil ?_; refine W.seq ?_; refine W.pk ?_; refine .m rfl rfl rfl rfl ?_; refine .v rfl rfl (OpL.binI rfl rfl rfl rfl) ?_; refine .nil ?_; refine W.cond rfl (fun q34 => ?_) (fun q34 => ?_)
      ·have h := ifT q34 h; refine W.seq ?_; refine W.pk ?_; refine .m rfl rfl rfl rfl ?_; refine .a rfl rfl rfl rfl ?_; refine .nil ?_; refine W.ret ?_; cases h; refine rdR fun e_ => ?_; subst e_; have h := z29; dsimp only at h; refine fkR ?_; cases h; exact leaves (.inr rfl) rfl (.imm _) (cN .nil) rfl rfl
      ·have h := ifF q34 h; refine W.skip ?_; refine W.pk ?_; refine .v rfl rfl (OpL.binI rfl rfl rfl rfl) ?_; refine .m rfl rfl rfl rfl ?_; refine .nil ?_; cases h; exact rdN (Gives.mkR [] (.e rfl rfl) .n rfl rfl rfl)
     ·have h := ifF q30 h; refine W.exit ?_; cases h; refine rdX fun e_ => ?_; subst e_; (repeat with_reducible refine thru ?_); refine hit ?_; exact fkN (Gives.mkR [] .n .n rfl rfl rfl)
    ·intro w26 e_; subst e_; clear h; have h := z29; dsimp only at h; refine W.seq ?_; refine W.pk ?_; refine .a rfl rfl rfl rfl ?_; refine .nil ?_; refine W.ret ?_; cases h; exact leaves (.inr rfl) rfl (.imm _) (cN .nil) rfl rfl
 ·clear h; refine W.pk ?_; refine .v rfl rfl (O.fld fld88_0 rfl rfl rfl) ?_; refine .v rfl rfl (O.ld (y := .i x0.Member) ty3 rfl rfl rfl) ?_; refine .call (.b t1) [] 0 (msg_member.ok b2) rfl rfl rfl ca41 rfl rfl (cC (.imm _) .nil) rfl rfl rfl rfl rfl ?_; refine .v rfl rfl (OpL.unV rfl rfl rfl) ?_; refine .m rfl rfl rfl rfl ?_; rcases tf t1 with g3 | g3
  ·refine .v rfl (met rfl rfl rfl (notT g3)) (O.fld fld88_1 rfl rfl rfl) ?_; refine .v rfl (met rfl rfl rfl (notT g3)) (O.ld (y := .i x0.Trade) ty3 rfl rfl rfl) ?_; refine .v rfl (met rfl rfl rfl (notT g3)) (OpL.binI rfl rfl rfl rfl) ?_; refine .v rfl rfl (O.pickF (notT g3) rfl rfl rfl) ?_; refine .m rfl rfl rfl rfl ?_; rcases tf (decide (x0.Trade < 1)) with g4 | g4
   ·(iterate 3 refine .x rfl (unmet rfl rfl rfl g4) ?_); refine .v rfl rfl (O.pickT g4 rfl rfl rfl) ?_; refine .m rfl rfl rfl rfl ?_; (iterate 4 refine .x rfl (unmet rfl rfl rfl rfl) ?_); refine .v rfl rfl (O.pickT rfl rfl rfl rfl) ?_; refine .nil ?_; exact toN (Gives.mkR [] (.r rfl rfl (.c rfl (sbb (by first | (simp only [g3, g4, BL]; done) | (repeat (first | rw [g3] | rw [g4])) <;> simp only [BL])) rfl .n)) (.r rfl rfl rfl .n) rfl rfl rfl)
   ·refine .v rfl (met rfl rfl rfl g4) (O.fld fld88_1 rfl rfl rfl) ?_; refine .v rfl (met rfl rfl rfl g4) (O.ld (y := .i x0.Trade) ty3 rfl rfl rfl) ?_; refine .v rfl (met rfl rfl rfl g4) (OpL.binI rfl rfl rfl rfl) ?_; refine .v rfl rfl (O.pickF g4 rfl rfl rfl) ?_; refine .m rfl rfl rfl rfl ?_; rcases tf (decide (x0.Trade > 1125899906842624)) with g5 | g5
    ·(iterate 4 refine .x rfl (unmet rfl rfl rfl g5) ?_); refine .v rfl rfl (O.pickT g5 rfl rfl rfl) ?_; refine .nil ?_; exact toN (Gives.mkR [] (.r rfl rfl (.c rfl (sbb (by first | (simp only [g3, g4, g5, BL]; done) | (repeat (first | rw [g3] | rw [g4] | rw [g5])) <;> simp only [BL])) rfl .n)) (.r rfl rfl rfl .n) rfl rfl rfl)
    ·refine .v rfl (met rfl rfl rfl g5) (O.fld fld88_3 rfl rfl rfl) ?_; refine .v rfl (met rfl rfl rfl g5) (O.ld (y := .imm (.row 2 (List.map api_Lot.enc x0.In))) ty33 rfl rfl rfl) ?_; refine .v rfl (met rfl rfl rfl g5) (O.lenR sl33 rfl rfl) ?_; refine .v rfl (met rfl rfl rfl g5) (OpL.binI rfl rfl rfl rfl) ?_; refine .v rfl rfl (O.pickF g5 rfl rfl rfl) ?_; refine .nil ?_; exact toN (Gives.mkR [] (.r rfl rfl (.c rfl (sbb (by first | (simp only [g3, g4, g5, BL]; done) | (repeat (first | rw [g3] | rw [g4] | rw [g5])) <;> simp only [BL])) rfl .n)) (.r rfl rfl rfl .n) rfl rfl rfl)
  ·(iterate 3 refine .x rfl (unmet rfl rfl rfl (notF g3)) ?_); refine .v rfl rfl (O.pickT (notF g3) rfl rfl rfl) ?_; refine .m rfl rfl rfl rfl ?_; (iterate 3 refine .x rfl (unmet rfl rfl rfl rfl) ?_); refine .v rfl rfl (O.pickT rfl rfl rfl rfl) ?_; refine .m rfl rfl rfl rfl ?_; (iterate 4 refine .x rfl (unmet rfl rfl rfl rfl) ?_); refine .v rfl rfl (O.pickT rfl rfl rfl rfl) ?_; refine .nil ?_; exact toN (Gives.mkR [] (.r rfl rfl (.c rfl (sbb (by simp only [g3, BL])) rfl .n)) (.r rfl rfl rfl .n) rfl rfl rfl)
end Go.Proofs.YtbmokbkgielmmaaGreat
