/- Shows what functions of the program come to, each as a plain function: written by a program of the author's for this claim. -/
import Derived.Test.YtjdkibnhlmgppaaGx0
namespace Go.Proofs.Ytjdkibnhlmgppaa
open Go Go.Pm
set_option linter.unusedVariables false
set_option linter.unusedSimpArgs false
noncomputable def msg_prices.b0 (x0 : List api_Price) (v13 : Int) : Option (Int ⊕ (Int ⊕ Unit)) :=
  if (decide (v13 < (List.length x0 : Int))) = true then
    if (0 : Int) ≤ v13 ∧ v13 < (List.length x0 : Int) then
    (isin_Check.f ((nth x0 v13).ISIN)).bind fun t40 =>
    if (t40 != 0) = true then
      some (.inr (.inl t40))
    else
      if (((decide (((nth x0 v13).Price) < 1)) || (decide (((nth x0 v13).Price) > 4294967296))) = false ∧ (decide (v13 > 0)) = true → (0 : Int) ≤ (IntKind.wrap .i64 (v13 - 1)) ∧ (IntKind.wrap .i64 (v13 - 1)) < (List.length x0 : Int)) then
      if (((decide (((nth x0 v13).Price) < 1)) || (decide (((nth x0 v13).Price) > 4294967296))) || ((decide (v13 > 0)) && (Go.Op.bytesLess ((nth x0 v13).ISIN) ((nth x0 (IntKind.wrap .i64 (v13 - 1))).ISIN) || ((nth x0 v13).ISIN) == ((nth x0 (IntKind.wrap .i64 (v13 - 1))).ISIN)))) = true then
        some (.inr (.inl 31))
      else
        some (.inl (IntKind.wrap .i64 (v13 + 1)))
      else none
    else none
  else
    some (.inr (.inr ()))
noncomputable def msg_prices.r0 (x0 : List api_Price) (s : Int) : Option (Int ⊕ (Int ⊕ Unit)) := msg_prices.b0 x0 s
noncomputable def msg_prices.f (x0 : List api_Price) : Option (Int) :=
  if (((List.length x0 : Int) == 0) || (decide ((List.length x0 : Int) > 64))) = true then
    some 2
  else
    (loop (msg_prices.r0 x0) 0).bind fun o35 =>
    match o35 with
    | .inl r48 => some r48
    | .inr w34 =>
      some 0
set_option maxRecDepth 100000 in
set_option maxHeartbeats 4000000 in
theorem msg_prices.ok {x0 : List api_Price} {r : Int} (h : msg_prices.f x0 = some r) : Pm.Spec prog 40 [.imm (.row 2 (List.map api_Price.enc x0))] (.imm (.val (.int .i64 r))) [none] := by
 unfold msg_prices.f at h; refine Pm.Spec.of_body Try.func40 rfl (by kernel_rfl) (Nat.le_of_ble_eq_true rfl) (Nat.le_of_ble_eq_true rfl) ?_; refine W.ghost (σ' := (mkSt [(0, some (.imm (.row 2 (List.map api_Price.enc x0))))] [] 1000)) (Gives.entry (.c rfl .n) .n) ?_; refine W.seq ?_; refine W.pk ?_; refine .a rfl rfl rfl rfl ?_; refine .nil ?_; (iterate 2 refine W.seq ?_); refine W.fork (mkSt [(0, some (.imm (.row 2 (List.map api_Price.enc x0)))), (13, some (.b (((List.length x0 : Int) == 0) || (decide ((List.length x0 : Int) > 64)))))] [] 1000) ?_ ?_
 ·refine W.cond rfl (fun q2 => ?_) (fun q2 => ?_)
  ·have h := ifT q2 h; refine W.seq ?_; refine W.pk ?_; refine .a rfl rfl rfl rfl ?_; refine .nil ?_; refine W.ret ?_; cases h; exact leaves (.inr rfl) rfl (.imm _) (cN .nil) rfl rfl
  ·have h := ifF q2 h; refine W.skip ?_; (iterate 2 refine W.seq ?_); refine W.pk ?_; refine .m rfl rfl rfl rfl ?_; refine .v rfl rfl (O.lenR sl82 rfl rfl) ?_; refine .m rfl rfl rfl rfl ?_; refine .nil ?_; obtain ⟨o35, b36, z37⟩ := bnd1 h; refine W.fork2 (out := o35) (fun (w34 : Unit) => mkSt [] [] 1000) ?_ ?_
   ·clear h; refine W.block ?_; refine W.loopF (fun (s_ : Int) => mkSt [(0, some (.imm (.row 2 (List.map api_Price.enc x0)))), (14, some (.imm (.row 2 (List.map api_Price.enc x0)))), (15, some (.i (List.length x0 : Int))), (16, some (.i s_))] [] 1000) b36 (Gives.mkR [] (.e rfl rfl) .n rfl rfl rfl) ?_; rintro v13 s_ hr; have h : msg_prices.b0 x0 v13 = some s_ := hr; unfold msg_prices.b0 at h; refine W.seq ?_; refine W.pk ?_; refine .v rfl rfl (OpL.binI rfl rfl rfl rfl) ?_; refine .nil ?_; refine W.seq ?_; refine W.cond rfl (fun q38 => ?_) (fun q38 => ?_)
    ·have h := ifT q38 h; refine W.skip ?_; refine W.seq ?_; refine W.block ?_; refine W.seq ?_; obtain ⟨c39, h⟩ := chk h; refine W.pk ?_; refine .m rfl rfl rfl rfl ?_; refine .v rfl rfl (O.idx sl82 c39 rfl rfl rfl) ?_; refine .v rfl rfl (O.ldN ty121 rfl rfl rfl) ?_; refine .t rfl rfl (O.alloc z121 rfl) ?_; refine .a rfl rfl rfl rfl ?_; refine .s rfl rfl (O.st ty121 rfl rfl rfl rfl rfl rfl rfl rfl rfl rfl (all' := [.s ((nth x0 v13).ISIN), .i ((nth x0 v13).Price)]) rfl) ?_; refine .nil ?_; (iterate 2 refine W.seq ?_); obtain ⟨t40, b41, h⟩ := bnd1 h; refine W.pk ?_; refine .v rfl rfl (O.fld fld121_0 rfl rfl rfl) ?_; refine .v rfl rfl (O.ld (y := .s ((nth x0 v13).ISIN)) ty9 rfl rfl rfl) ?_; refine .call (.i t40) [] 0 (isin_Check.ok b41) rfl rfl rfl ca45 rfl rfl (cC (.imm _) .nil) rfl rfl rfl rfl rfl ?_; refine .a rfl rfl rfl rfl ?_; refine .nil ?_; refine W.seq ?_; refine W.pk ?_; refine .m rfl rfl rfl rfl ?_; refine .v rfl rfl (OpL.binI rfl rfl rfl rfl) ?_; refine .nil ?_; refine W.cond rfl (fun q42 => ?_) (fun q42 => ?_)
     ·have h := ifT q42 h; refine W.seq ?_; refine W.pk ?_; refine .m rfl rfl rfl rfl ?_; refine .a rfl rfl rfl rfl ?_; refine .nil ?_; refine W.ret ?_; cases h; refine rdR fun e_ => ?_; subst e_; have h := z37; dsimp only at h; refine fkR ?_; cases h; exact leaves (.inr rfl) rfl (.imm _) (cN .nil) rfl rfl
     ·have h := ifF q42 h; refine W.skip ?_; refine W.seq ?_; obtain ⟨c43, h⟩ := chk h; refine W.fork (mkSt [(0, some (.imm (.row 2 (List.map api_Price.enc x0)))), (14, some (.imm (.row 2 (List.map api_Price.enc x0)))), (15, some (.i (List.length x0 : Int))), (16, some (.i v13)), (49, some (.b (((decide (((nth x0 v13).Price) < 1)) || (decide (((nth x0 v13).Price) > 4294967296))) || ((decide (v13 > 0)) && (Go.Op.bytesLess ((nth x0 v13).ISIN) ((nth x0 (IntKind.wrap .i64 (v13 - 1))).ISIN) || ((nth x0 v13).ISIN) == ((nth x0 (IntKind.wrap .i64 (v13 - 1))).ISIN))))))] [] 1001) ?_ ?_
      ·refine W.cond rfl (fun q47 => ?_) (fun q47 => ?_)
       ·have h := ifT q47 h; refine W.seq ?_; refine W.pk ?_; refine .a rfl rfl rfl rfl ?_; refine .nil ?_; refine W.ret ?_; cases h; refine rdR fun e_ => ?_; subst e_; have h := z37; dsimp only at h; refine fkR ?_; cases h; exact leaves (.inr rfl) rfl (.imm _) (cN .nil) rfl rfl
       ·have h := ifF q47 h; refine W.skip ?_; refine W.pk ?_; refine .v rfl rfl (OpL.binI rfl rfl rfl rfl) ?_; refine .m rfl rfl rfl rfl ?_; refine .nil ?_; cases h; exact rdN (Gives.mkR [] (.e rfl rfl) .n rfl rfl rfl)
      ·clear h; refine W.dk (unm 23 [0, 1, 3, 7, 15, 31, 63, 127, 255, 511, 1023, 2047, 4095, 8191, 4095, 4095, 36863, 118783, 249855, 511999, 1048575, 2097151, 4194303]) rfl (by kernel_rfl) ?_; refine .v rfl rfl (O.fld fld121_1 rfl rfl rfl) ?_; refine .v rfl rfl (O.ld (y := .i ((nth x0 v13).Price)) ty3 rfl rfl rfl) ?_; refine .v rfl rfl (OpL.binI rfl rfl rfl rfl) ?_; refine .m rfl rfl rfl rfl ?_; rcases tf (decide (((nth x0 v13).Price) < 1)) with g44 | g44
       ·(iterate 3 refine .x rfl (unmet rfl rfl rfl g44) ?_); refine .v rfl rfl (O.pickT g44 rfl rfl rfl) ?_; refine .m rfl rfl rfl rfl ?_; (iterate 3 refine .x rfl (unmet rfl rfl rfl rfl) ?_); (iterate 9 refine .x rfl (unmetU rfl rfl rfl) ?_); refine .x rfl (unmet rfl rfl rfl rfl) ?_; refine .v rfl rfl (O.pickT rfl rfl rfl rfl) ?_; refine .nil ?_; refine ⟨by kernel_rfl, by kernel_rfl, ?_⟩; exact toN (Gives.mkR [] (.r rfl rfl (.r rfl rfl (.r rfl rfl (.r rfl rfl (.c rfl (sbb (by simp only [g44, BL])) rfl .n))))) .n rfl rfl rfl)
       ·refine .v rfl (met rfl rfl rfl g44) (O.fld fld121_1 rfl rfl rfl) ?_; refine .v rfl (met rfl rfl rfl g44) (O.ld (y := .i ((nth x0 v13).Price)) ty3 rfl rfl rfl) ?_; refine .v rfl (met rfl rfl rfl g44) (OpL.binI rfl rfl rfl rfl) ?_; refine .v rfl rfl (O.pickF g44 rfl rfl rfl) ?_; refine .m rfl rfl rfl rfl ?_; rcases tf (decide (((nth x0 v13).Price) > 4294967296)) with g45 | g45
        ·(iterate 3 refine .x rfl (unmet rfl rfl rfl g45) ?_); (iterate 9 refine .x rfl (unmetU rfl rfl rfl) ?_); refine .x rfl (unmet rfl rfl rfl g45) ?_; refine .v rfl rfl (O.pickT g45 rfl rfl rfl) ?_; refine .nil ?_; refine ⟨by kernel_rfl, by kernel_rfl, ?_⟩; exact toN (Gives.mkR [] (.r rfl rfl (.r rfl rfl (.r rfl rfl (.r rfl rfl (.c rfl (sbb (by first | (simp only [g44, g45, BL]; done) | (repeat (first | rw [g44] | rw [g45])) <;> simp only [BL])) rfl .n))))) .n rfl rfl rfl)
        ·refine .m rfl (met rfl rfl rfl g45) rfl rfl ?_; refine .v rfl (met rfl rfl rfl g45) (OpL.binI rfl rfl rfl rfl) ?_; refine .m rfl (met rfl rfl rfl g45) rfl rfl ?_; rcases tf (decide (v13 > 0)) with g46 | g46
         ·refine .v rfl (met rfl rfl rfl g46) (O.fld fld121_0 rfl rfl rfl) ?_; refine .v rfl (met rfl rfl rfl g46) (O.ld (y := .s ((nth x0 v13).ISIN)) ty9 rfl rfl rfl) ?_; (iterate 2 refine .m rfl (met rfl rfl rfl g46) rfl rfl ?_); refine .v rfl (met rfl rfl rfl g46) (OpL.binI rfl rfl rfl rfl) ?_; refine .v rfl (met rfl rfl rfl g46) (O.idx sl82 (c43 ⟨(by first | (simp only [g44, g45, g46, BL]; done) | (repeat (first | rw [g44] | rw [g45] | rw [g46])) <;> simp only [BL]), (by first | (simp only [g44, g45, g46, BL]; done) | (repeat (first | rw [g44] | rw [g45] | rw [g46])) <;> simp only [BL])⟩) rfl rfl rfl) ?_; refine .v rfl (met rfl rfl rfl g46) (O.fld fld121_0 rfl rfl rfl) ?_; refine .v rfl (met rfl rfl rfl g46) (O.ld (y := .s ((nth x0 (IntKind.wrap .i64 (v13 - 1))).ISIN)) ty9 rfl rfl rfl) ?_; refine .v rfl (met rfl rfl rfl g46) (O.cmpS rfl rfl rfl rfl) ?_; refine .v rfl (met rfl rfl rfl g45) (O.pickT g46 rfl rfl rfl) ?_; refine .v rfl rfl (O.pickF g45 rfl rfl rfl) ?_; refine .nil ?_; refine ⟨by kernel_rfl, by kernel_rfl, ?_⟩; exact toN (Gives.mkR [] (.r rfl rfl (.r rfl rfl (.r rfl rfl (.r rfl rfl (.c rfl (sbb (by first | (simp only [g44, g45, g46, BL]; done) | (repeat (first | rw [g44] | rw [g45] | rw [g46])) <;> simp only [BL])) rfl .n))))) .n rfl rfl rfl)
         ·(iterate 9 refine .x rfl (unmet rfl rfl rfl g46) ?_); refine .v rfl (met rfl rfl rfl g45) (O.pickF g46 rfl rfl rfl) ?_; refine .v rfl rfl (O.pickF g45 rfl rfl rfl) ?_; refine .nil ?_; refine ⟨by kernel_rfl, by kernel_rfl, ?_⟩; exact toN (Gives.mkR [] (.r rfl rfl (.r rfl rfl (.r rfl rfl (.r rfl rfl (.c rfl (sbb (by first | (simp only [g44, g45, g46, BL]; done) | (repeat (first | rw [g44] | rw [g45] | rw [g46])) <;> simp only [BL])) rfl .n))))) .n rfl rfl rfl)
    ·have h := ifF q38 h; refine W.exit ?_; cases h; refine rdX fun e_ => ?_; subst e_; (repeat with_reducible refine thru ?_); refine hit ?_; exact fkN (Gives.mkR [] .n .n rfl rfl rfl)
   ·intro w34 e_; subst e_; clear h; have h := z37; dsimp only at h; refine W.seq ?_; refine W.pk ?_; refine .a rfl rfl rfl rfl ?_; refine .nil ?_; refine W.ret ?_; cases h; exact leaves (.inr rfl) rfl (.imm _) (cN .nil) rfl rfl
 ·clear h; refine W.pk ?_; refine .m rfl rfl rfl rfl ?_; refine .v rfl rfl (O.lenR sl82 rfl rfl) ?_; refine .v rfl rfl (OpL.binI rfl rfl rfl rfl) ?_; refine .m rfl rfl rfl rfl ?_; rcases tf ((List.length x0 : Int) == 0) with g1 | g1
  ·(iterate 3 refine .x rfl (unmet rfl rfl rfl g1) ?_); refine .v rfl rfl (O.pickT g1 rfl rfl rfl) ?_; refine .nil ?_; exact toN (Gives.mkR [] (.r rfl rfl (.c rfl (sbb (by simp only [g1, BL])) rfl .n)) .n rfl rfl rfl)
  ·refine .m rfl (met rfl rfl rfl g1) rfl rfl ?_; refine .v rfl (met rfl rfl rfl g1) (O.lenR sl82 rfl rfl) ?_; refine .v rfl (met rfl rfl rfl g1) (OpL.binI rfl rfl rfl rfl) ?_; refine .v rfl rfl (O.pickF g1 rfl rfl rfl) ?_; refine .nil ?_; exact toN (Gives.mkR [] (.r rfl rfl (.c rfl (sbb (by simp only [g1, BL])) rfl .n)) .n rfl rfl rfl)

noncomputable def calendar_Good.f (x0 : Int) : Option (Bool) :=
  some ((decide (x0 ≥ 0)) && (decide (x0 ≤ 200000)))
set_option maxRecDepth 100000 in
set_option maxHeartbeats 4000000 in
theorem calendar_Good.ok {x0 : Int} {r : Bool} (h : calendar_Good.f x0 = some r) : Pm.Spec prog 42 [.imm (.val (.int .i64 x0))] (.imm (.val (.bool r))) [none] := by
 unfold calendar_Good.f at h; refine Pm.Spec.of_body Try.func42 rfl (by kernel_rfl) (Nat.le_of_ble_eq_true rfl) (Nat.le_of_ble_eq_true rfl) ?_; refine W.ghost (σ' := (mkSt [(0, some (.i x0))] [] 1000)) (Gives.entry (.c rfl .n) .n) ?_; refine W.seq ?_; refine W.pk ?_; refine .a rfl rfl rfl rfl ?_; refine .nil ?_; refine W.seq ?_; refine W.fork (mkSt [(2, some (.b ((decide (x0 ≥ 0)) && (decide (x0 ≤ 200000)))))] [] 1000) ?_ ?_
 ·refine W.ret ?_; cases h; exact leaves (.inr rfl) rfl (.imm _) (cN .nil) rfl rfl
 ·clear h; refine W.pk ?_; refine .m rfl rfl rfl rfl ?_; refine .v rfl rfl (OpL.binI rfl rfl rfl rfl) ?_; refine .m rfl rfl rfl rfl ?_; rcases tf (decide (x0 ≥ 0)) with g1 | g1
  ·refine .m rfl (met rfl rfl rfl g1) rfl rfl ?_; refine .v rfl (met rfl rfl rfl g1) (OpL.binI rfl rfl rfl rfl) ?_; refine .v rfl rfl (O.pickT g1 rfl rfl rfl) ?_; refine .a rfl rfl rfl rfl ?_; refine .nil ?_; exact toN (Gives.mkR [] (.c rfl (sbb (by simp only [g1, BL])) rfl .n) .n rfl rfl rfl)
  ·(iterate 2 refine .x rfl (unmet rfl rfl rfl g1) ?_); refine .v rfl rfl (O.pickF g1 rfl rfl rfl) ?_; refine .a rfl rfl rfl rfl ?_; refine .nil ?_; exact toN (Gives.mkR [] (.c rfl (sbb (by simp only [g1, BL])) rfl .n) .n rfl rfl rfl)

noncomputable def msg_arg.f (x0 : Bool) (x1 : Int) : Option (Int) :=
  if x0 = true then
    some 0
  else
    some x1
set_option maxRecDepth 100000 in
set_option maxHeartbeats 4000000 in
theorem msg_arg.ok {x0 : Bool} {x1 : Int} {r : Int} (h : msg_arg.f x0 x1 = some r) : Pm.Spec prog 41 [.imm (.val (.bool x0)), .imm (.val (.int .i64 x1))] (.imm (.val (.int .i64 r))) [none, none] := by
 unfold msg_arg.f at h; refine Pm.Spec.of_body Try.func41 rfl (by kernel_rfl) (Nat.le_of_ble_eq_true rfl) (Nat.le_of_ble_eq_true rfl) ?_; refine W.ghost (σ' := (mkSt [(0, some (.b x0)), (1, some (.i x1))] [] 1000)) (Gives.entry (.c rfl (.c rfl .n)) .n) ?_; refine W.seq ?_; refine W.pk ?_; refine .a rfl rfl rfl rfl ?_; refine .nil ?_; (iterate 2 refine W.seq ?_); refine W.pk ?_; refine .m rfl rfl rfl rfl ?_; refine .nil ?_; refine W.cond rfl (fun q1 => ?_) (fun q1 => ?_)
 ·have h := ifT q1 h; refine W.seq ?_; refine W.pk ?_; refine .a rfl rfl rfl rfl ?_; refine .nil ?_; refine W.ret ?_; cases h; exact leaves (.inr rfl) rfl (.imm _) (cN (cN .nil)) rfl rfl
 ·have h := ifF q1 h; refine W.skip ?_; refine W.seq ?_; refine W.pk ?_; refine .m rfl rfl rfl rfl ?_; refine .a rfl rfl rfl rfl ?_; refine .nil ?_; refine W.ret ?_; cases h; exact leaves (.inr rfl) rfl (.imm _) (cN (cN .nil)) rfl rfl

noncomputable def msg_amount.f (x0 : Int) : Option (Bool) :=
  some (((x0 != 0) && (decide (x0 ≥ (-1125899906842624)))) && (decide (x0 ≤ 1125899906842624)))
set_option maxRecDepth 100000 in
set_option maxHeartbeats 4000000 in
theorem msg_amount.ok {x0 : Int} {r : Bool} (h : msg_amount.f x0 = some r) : Pm.Spec prog 44 [.imm (.val (.int .i64 x0))] (.imm (.val (.bool r))) [none] := by
 unfold msg_amount.f at h; refine Pm.Spec.of_body Try.func44 rfl (by kernel_rfl) (Nat.le_of_ble_eq_true rfl) (Nat.le_of_ble_eq_true rfl) ?_; refine W.ghost (σ' := (mkSt [(0, some (.i x0))] [] 1000)) (Gives.entry (.c rfl .n) .n) ?_; refine W.seq ?_; refine W.pk ?_; refine .a rfl rfl rfl rfl ?_; refine .nil ?_; refine W.seq ?_; refine W.fork (mkSt [(2, some (.b (((x0 != 0) && (decide (x0 ≥ (-1125899906842624)))) && (decide (x0 ≤ 1125899906842624)))))] [] 1000) ?_ ?_
 ·refine W.ret ?_; cases h; exact leaves (.inr rfl) rfl (.imm _) (cN .nil) rfl rfl
 ·clear h; refine W.pk ?_; refine .m rfl rfl rfl rfl ?_; refine .v rfl rfl (OpL.binI rfl rfl rfl rfl) ?_; refine .m rfl rfl rfl rfl ?_; rcases tf (x0 != 0) with g1 | g1
  ·refine .m rfl (met rfl rfl rfl g1) rfl rfl ?_; refine .v rfl (met rfl rfl rfl g1) (OpL.binI rfl rfl rfl rfl) ?_; refine .v rfl rfl (O.pickT g1 rfl rfl rfl) ?_; refine .m rfl rfl rfl rfl ?_; rcases tf (decide (x0 ≥ (-1125899906842624))) with g2 | g2
   ·refine .m rfl (met rfl rfl rfl g2) rfl rfl ?_; refine .v rfl (met rfl rfl rfl g2) (OpL.binI rfl rfl rfl rfl) ?_; refine .v rfl rfl (O.pickT g2 rfl rfl rfl) ?_; refine .a rfl rfl rfl rfl ?_; refine .nil ?_; exact toN (Gives.mkR [] (.c rfl (sbb (by first | (simp only [g1, g2, BL]; done) | (repeat (first | rw [g1] | rw [g2])) <;> simp only [BL])) rfl .n) .n rfl rfl rfl)
   ·(iterate 2 refine .x rfl (unmet rfl rfl rfl g2) ?_); refine .v rfl rfl (O.pickF g2 rfl rfl rfl) ?_; refine .a rfl rfl rfl rfl ?_; refine .nil ?_; exact toN (Gives.mkR [] (.c rfl (sbb (by first | (simp only [g1, g2, BL]; done) | (repeat (first | rw [g1] | rw [g2])) <;> simp only [BL])) rfl .n) .n rfl rfl rfl)
  ·(iterate 2 refine .x rfl (unmet rfl rfl rfl g1) ?_); refine .v rfl rfl (O.pickF g1 rfl rfl rfl) ?_; refine .m rfl rfl rfl rfl ?_; (iterate 2 refine .x rfl (unmet rfl rfl rfl rfl) ?_); refine .v rfl rfl (O.pickF rfl rfl rfl rfl) ?_; refine .a rfl rfl rfl rfl ?_; refine .nil ?_; exact toN (Gives.mkR [] (.c rfl (sbb (by simp only [g1, BL])) rfl .n) .n rfl rfl rfl)

noncomputable def msg_quote.f (x0 : api_Quote) : Option (Int) :=
  if (((((decide (x0.ID < 1)) || (decide (x0.ID > 1125899906842624))) || ((x0.Side != 1) && (x0.Side != 2))) || (decide (x0.Basket < 1))) || (decide (x0.Basket > 64))) = true then
    some 1
  else
    if ((((decide (x0.Amount < 1)) || (decide (x0.Amount > 1125899906842624))) || (decide (x0.Rate < (-1000000)))) || (decide (x0.Rate > 1000000))) = true then
      some 1
    else
      (calendar_Good.f x0.Start).bind fun t12 =>
      (if (!t12) = false ∧ (x0.End != 0) = true then calendar_Good.f x0.End else some default).bind fun t14 =>
      if ((!t12) || ((x0.End != 0) && (((!t14) || (decide (x0.End ≤ x0.Start))) || (decide ((IntKind.wrap .i64 (x0.End - x0.Start)) > 3660))))) = true then
        some 10
      else
        some 0
set_option maxRecDepth 100000 in
set_option maxHeartbeats 4000000 in
theorem msg_quote.ok {x0 : api_Quote} {r : Int} (h : msg_quote.f x0 = some r) : Pm.Spec prog 46 [.agg [.imm (.val (.int .i64 x0.ID)), .imm (.val (.int .i64 x0.Member)), .imm (.val (.int .i64 x0.Side)), .imm (.val (.int .i64 x0.Basket)), .imm (.val (.int .i64 x0.Amount)), .imm (.val (.int .i64 x0.Rate)), .imm (.val (.int .i64 x0.Start)), .imm (.val (.int .i64 x0.End))]] (.imm (.val (.int .i64 r))) [none] := by
 unfold msg_quote.f at h; refine Pm.Spec.of_body Try.func46 rfl (by kernel_rfl) (Nat.le_of_ble_eq_true rfl) (Nat.le_of_ble_eq_true rfl) ?_; refine W.ghost (σ' := (mkSt [(0, some (.agg (api_Quote.av x0)))] [] 1000)) (Gives.entry (.c rfl .n) .n) ?_; refine W.seq ?_; refine W.pk ?_; refine .t rfl rfl (O.box rfl rfl rfl rfl rfl) ?_; refine .a rfl rfl rfl rfl ?_; refine .nil ?_; refine W.seq ?_; refine W.block ?_; refine W.seq ?_; refine W.fork (mkSt [(1, some (.ptr 1000 0)), (3, some (.b (((((decide (x0.ID < 1)) || (decide (x0.ID > 1125899906842624))) || ((x0.Side != 1) && (x0.Side != 2))) || (decide (x0.Basket < 1))) || (decide (x0.Basket > 64)))))] [(1000, some (.box [.i x0.ID, .i x0.Member, .i x0.Side, .i x0.Basket, .i x0.Amount, .i x0.Rate, .i x0.Start, .i x0.End]))] 1001) ?_ ?_
 ·refine W.cond rfl (fun q7 => ?_) (fun q7 => ?_)
  ·have h := ifT q7 h; refine W.seq ?_; refine W.pk ?_; refine .a rfl rfl rfl rfl ?_; refine .nil ?_; refine W.ret ?_; cases h; exact leaves (.inr rfl) rfl (.imm _) (cN .nil) rfl rfl
  ·have h := ifF q7 h; refine W.seq ?_; refine W.fork (mkSt [(1, some (.ptr 1000 0)), (32, some (.b ((((decide (x0.Amount < 1)) || (decide (x0.Amount > 1125899906842624))) || (decide (x0.Rate < (-1000000)))) || (decide (x0.Rate > 1000000)))))] [(1000, some (.box [.i x0.ID, .i x0.Member, .i x0.Side, .i x0.Basket, .i x0.Amount, .i x0.Rate, .i x0.Start, .i x0.End]))] 1001) ?_ ?_
   ·refine W.cond rfl (fun q11 => ?_) (fun q11 => ?_)
    ·have h := ifT q11 h; refine W.seq ?_; refine W.pk ?_; refine .a rfl rfl rfl rfl ?_; refine .nil ?_; refine W.ret ?_; cases h; exact leaves (.inr rfl) rfl (.imm _) (cN .nil) rfl rfl
    ·have h := ifF q11 h; refine W.seq ?_; obtain ⟨t12, b13, h⟩ := bnd1 h; obtain ⟨t14, b15, h⟩ := bnd1 h; refine W.fork (mkSt [(51, some (.b ((!t12) || ((x0.End != 0) && (((!t14) || (decide (x0.End ≤ x0.Start))) || (decide ((IntKind.wrap .i64 (x0.End - x0.Start)) > 3660)))))))] [] 1001) ?_ ?_
     ·refine W.cond rfl (fun q20 => ?_) (fun q20 => ?_)
      ·have h := ifT q20 h; refine W.seq ?_; refine W.pk ?_; refine .a rfl rfl rfl rfl ?_; refine .nil ?_; refine W.ret ?_; cases h; exact leaves (.inr rfl) rfl (.imm _) (cN .nil) rfl rfl
      ·have h := ifF q20 h; refine W.skip ?_; refine W.seq ?_; refine W.pk ?_; refine .a rfl rfl rfl rfl ?_; refine .nil ?_; refine W.ret ?_; cases h; exact leaves (.inr rfl) rfl (.imm _) (cN .nil) rfl rfl
     ·clear h; refine W.pk ?_; refine .v rfl rfl (O.fld fld61_6 rfl rfl rfl) ?_; refine .v rfl rfl (O.ld (y := .i x0.Start) ty3 rfl rfl rfl) ?_; refine .call (.b t12) [] 0 (calendar_Good.ok b13) rfl rfl rfl ca42 rfl rfl (cC (.imm _) .nil) rfl rfl rfl rfl rfl ?_; refine .v rfl rfl (OpL.unV rfl rfl rfl) ?_; refine .m rfl rfl rfl rfl ?_; rcases tf t12 with g16 | g16
      ·refine .v rfl (met rfl rfl rfl (notT g16)) (O.fld fld61_7 rfl rfl rfl) ?_; refine .v rfl (met rfl rfl rfl (notT g16)) (O.ld (y := .i x0.End) ty3 rfl rfl rfl) ?_; refine .v rfl (met rfl rfl rfl (notT g16)) (OpL.binI rfl rfl rfl rfl) ?_; refine .m rfl (met rfl rfl rfl (notT g16)) rfl rfl ?_; rcases tf (x0.End != 0) with g17 | g17
       ·refine .v rfl (met rfl rfl rfl g17) (O.fld fld61_7 rfl rfl rfl) ?_; refine .v rfl (met rfl rfl rfl g17) (O.ld (y := .i x0.End) ty3 rfl rfl rfl) ?_; refine .call (.b t14) [] 0 (calendar_Good.ok ((if_pos ⟨(by first | (simp only [g16, g17, BL]; done) | (repeat (first | rw [g16] | rw [g17])) <;> simp only [BL]), (by first | (simp only [g16, g17, BL]; done) | (repeat (first | rw [g16] | rw [g17])) <;> simp only [BL])⟩).symm.trans b15)) rfl (met rfl rfl rfl g17) rfl ca42 rfl rfl (cC (.imm _) .nil) rfl rfl rfl rfl rfl ?_; refine .v rfl (met rfl rfl rfl g17) (OpL.unV rfl rfl rfl) ?_; refine .m rfl (met rfl rfl rfl g17) rfl rfl ?_; rcases tf t14 with g18 | g18
        ·refine .v rfl (met rfl rfl rfl (notT g18)) (O.fld fld61_7 rfl rfl rfl) ?_; refine .v rfl (met rfl rfl rfl (notT g18)) (O.ld (y := .i x0.End) ty3 rfl rfl rfl) ?_; refine .v rfl (met rfl rfl rfl (notT g18)) (O.fld fld61_6 rfl rfl rfl) ?_; refine .v rfl (met rfl rfl rfl (notT g18)) (O.ld (y := .i x0.Start) ty3 rfl rfl rfl) ?_; refine .v rfl (met rfl rfl rfl (notT g18)) (OpL.binI rfl rfl rfl rfl) ?_; refine .v rfl (met rfl rfl rfl g17) (O.pickF (notT g18) rfl rfl rfl) ?_; refine .m rfl (met rfl rfl rfl g17) rfl rfl ?_; rcases tf (decide (x0.End ≤ x0.Start)) with g19 | g19
         ·(iterate 6 refine .x rfl (unmet rfl rfl rfl g19) ?_); refine .v rfl (met rfl rfl rfl g17) (O.pickT g19 rfl rfl rfl) ?_; refine .v rfl (met rfl rfl rfl (notT g16)) (O.pickT g17 rfl rfl rfl) ?_; refine .v rfl rfl (O.pickF (notT g16) rfl rfl rfl) ?_; refine .a rfl rfl rfl rfl ?_; refine .nil ?_; exact toN (Gives.mkR [] (.c rfl (sbb (by first | (simp only [g16, g17, g18, g19, BL]; done) | (repeat (first | rw [g16] | rw [g17] | rw [g18] | rw [g19])) <;> simp only [BL])) rfl .n) .n rfl rfl rfl)
         ·refine .v rfl (met rfl rfl rfl g19) (O.fld fld61_7 rfl rfl rfl) ?_; refine .v rfl (met rfl rfl rfl g19) (O.ld (y := .i x0.End) ty3 rfl rfl rfl) ?_; refine .v rfl (met rfl rfl rfl g19) (O.fld fld61_6 rfl rfl rfl) ?_; refine .v rfl (met rfl rfl rfl g19) (O.ld (y := .i x0.Start) ty3 rfl rfl rfl) ?_; (iterate 2 refine .v rfl (met rfl rfl rfl g19) (OpL.binI rfl rfl rfl rfl) ?_); refine .v rfl (met rfl rfl rfl g17) (O.pickF g19 rfl rfl rfl) ?_; refine .v rfl (met rfl rfl rfl (notT g16)) (O.pickT g17 rfl rfl rfl) ?_; refine .v rfl rfl (O.pickF (notT g16) rfl rfl rfl) ?_; refine .a rfl rfl rfl rfl ?_; refine .nil ?_; exact toN (Gives.mkR [] (.c rfl (sbb (by first | (simp only [g16, g17, g18, g19, BL]; done) | (repeat (first | rw [g16] | rw [g17] | rw [g18] | rw [g19])) <;> simp only [BL])) rfl .n) .n rfl rfl rfl)
        ·(iterate 5 refine .x rfl (unmet rfl rfl rfl (notF g18)) ?_); refine .v rfl (met rfl rfl rfl g17) (O.pickT (notF g18) rfl rfl rfl) ?_; refine .m rfl (met rfl rfl rfl g17) rfl rfl ?_; (iterate 6 refine .x rfl (unmet rfl rfl rfl rfl) ?_); refine .v rfl (met rfl rfl rfl g17) (O.pickT rfl rfl rfl rfl) ?_; refine .v rfl (met rfl rfl rfl (notT g16)) (O.pickT g17 rfl rfl rfl) ?_; refine .v rfl rfl (O.pickF (notT g16) rfl rfl rfl) ?_; refine .a rfl rfl rfl rfl ?_; refine .nil ?_; exact toN (Gives.mkR [] (.c rfl (sbb (by first | (simp only [g16, g17, g18, BL]; done) | (repeat (first | rw [g16] | rw [g17] | rw [g18])) <;> simp only [BL])) rfl .n) .n rfl rfl rfl)
       ·(iterate 5 refine .x rfl (unmet rfl rfl rfl g17) ?_); (iterate 5 refine .x rfl (unmetU rfl rfl rfl) ?_); (iterate 2 refine .x rfl (unmet rfl rfl rfl g17) ?_); (iterate 6 refine .x rfl (unmetU rfl rfl rfl) ?_); refine .x rfl (unmet rfl rfl rfl g17) ?_; refine .v rfl (met rfl rfl rfl (notT g16)) (O.pickF g17 rfl rfl rfl) ?_; refine .v rfl rfl (O.pickF (notT g16) rfl rfl rfl) ?_; refine .a rfl rfl rfl rfl ?_; refine .nil ?_; exact toN (Gives.mkR [] (.c rfl (sbb (by first | (simp only [g16, g17, BL]; done) | (repeat (first | rw [g16] | rw [g17])) <;> simp only [BL])) rfl .n) .n rfl rfl rfl)
      ·(iterate 4 refine .x rfl (unmet rfl rfl rfl (notF g16)) ?_); (iterate 19 refine .x rfl (unmetU rfl rfl rfl) ?_); refine .x rfl (unmet rfl rfl rfl (notF g16)) ?_; refine .v rfl rfl (O.pickT (notF g16) rfl rfl rfl) ?_; refine .a rfl rfl rfl rfl ?_; refine .nil ?_; exact toN (Gives.mkR [] (.c rfl (sbb (by simp only [g16, BL])) rfl .n) .n rfl rfl rfl)
   ·clear h; refine W.pk ?_; refine .v rfl rfl (O.fld fld61_4 rfl rfl rfl) ?_; refine .v rfl rfl (O.ld (y := .i x0.Amount) ty3 rfl rfl rfl) ?_; refine .v rfl rfl (OpL.binI rfl rfl rfl rfl) ?_; refine .m rfl rfl rfl rfl ?_; rcases tf (decide (x0.Amount < 1)) with g8 | g8
    ·(iterate 3 refine .x rfl (unmet rfl rfl rfl g8) ?_); refine .v rfl rfl (O.pickT g8 rfl rfl rfl) ?_; refine .m rfl rfl rfl rfl ?_; (iterate 3 refine .x rfl (unmet rfl rfl rfl rfl) ?_); refine .v rfl rfl (O.pickT rfl rfl rfl rfl) ?_; refine .m rfl rfl rfl rfl ?_; (iterate 3 refine .x rfl (unmet rfl rfl rfl rfl) ?_); refine .v rfl rfl (O.pickT rfl rfl rfl rfl) ?_; refine .a rfl rfl rfl rfl ?_; refine .nil ?_; exact toN (Gives.mkR [] (.r rfl rfl (.c rfl (sbb (by simp only [g8, BL])) rfl .n)) (.r rfl rfl rfl .n) rfl rfl rfl)
    ·refine .v rfl (met rfl rfl rfl g8) (O.fld fld61_4 rfl rfl rfl) ?_; refine .v rfl (met rfl rfl rfl g8) (O.ld (y := .i x0.Amount) ty3 rfl rfl rfl) ?_; refine .v rfl (met rfl rfl rfl g8) (OpL.binI rfl rfl rfl rfl) ?_; refine .v rfl rfl (O.pickF g8 rfl rfl rfl) ?_; refine .m rfl rfl rfl rfl ?_; rcases tf (decide (x0.Amount > 1125899906842624)) with g9 | g9
     ·(iterate 3 refine .x rfl (unmet rfl rfl rfl g9) ?_); refine .v rfl rfl (O.pickT g9 rfl rfl rfl) ?_; refine .m rfl rfl rfl rfl ?_; (iterate 3 refine .x rfl (unmet rfl rfl rfl rfl) ?_); refine .v rfl rfl (O.pickT rfl rfl rfl rfl) ?_; refine .a rfl rfl rfl rfl ?_; refine .nil ?_; exact toN (Gives.mkR [] (.r rfl rfl (.c rfl (sbb (by first | (simp only [g8, g9, BL]; done) | (repeat (first | rw [g8] | rw [g9])) <;> simp only [BL])) rfl .n)) (.r rfl rfl rfl .n) rfl rfl rfl)
     ·refine .v rfl (met rfl rfl rfl g9) (O.fld fld61_5 rfl rfl rfl) ?_; refine .v rfl (met rfl rfl rfl g9) (O.ld (y := .i x0.Rate) ty3 rfl rfl rfl) ?_; refine .v rfl (met rfl rfl rfl g9) (OpL.binI rfl rfl rfl rfl) ?_; refine .v rfl rfl (O.pickF g9 rfl rfl rfl) ?_; refine .m rfl rfl rfl rfl ?_; rcases tf (decide (x0.Rate < (-1000000))) with g10 | g10
      ·(iterate 3 refine .x rfl (unmet rfl rfl rfl g10) ?_); refine .v rfl rfl (O.pickT g10 rfl rfl rfl) ?_; refine .a rfl rfl rfl rfl ?_; refine .nil ?_; exact toN (Gives.mkR [] (.r rfl rfl (.c rfl (sbb (by first | (simp only [g8, g9, g10, BL]; done) | (repeat (first | rw [g8] | rw [g9] | rw [g10])) <;> simp only [BL])) rfl .n)) (.r rfl rfl rfl .n) rfl rfl rfl)
      ·refine .v rfl (met rfl rfl rfl g10) (O.fld fld61_5 rfl rfl rfl) ?_; refine .v rfl (met rfl rfl rfl g10) (O.ld (y := .i x0.Rate) ty3 rfl rfl rfl) ?_; refine .v rfl (met rfl rfl rfl g10) (OpL.binI rfl rfl rfl rfl) ?_; refine .v rfl rfl (O.pickF g10 rfl rfl rfl) ?_; refine .a rfl rfl rfl rfl ?_; refine .nil ?_; exact toN (Gives.mkR [] (.r rfl rfl (.c rfl (sbb (by first | (simp only [g8, g9, g10, BL]; done) | (repeat (first | rw [g8] | rw [g9] | rw [g10])) <;> simp only [BL])) rfl .n)) (.r rfl rfl rfl .n) rfl rfl rfl)
 ·clear h; refine W.pk ?_; refine .v rfl rfl (O.fld fld61_0 rfl rfl rfl) ?_; refine .v rfl rfl (O.ld (y := .i x0.ID) ty3 rfl rfl rfl) ?_; refine .v rfl rfl (OpL.binI rfl rfl rfl rfl) ?_; refine .m rfl rfl rfl rfl ?_; rcases tf (decide (x0.ID < 1)) with g1 | g1
  ·(iterate 3 refine .x rfl (unmet rfl rfl rfl g1) ?_); refine .v rfl rfl (O.pickT g1 rfl rfl rfl) ?_; refine .m rfl rfl rfl rfl ?_; (iterate 4 refine .x rfl (unmet rfl rfl rfl rfl) ?_); (iterate 3 refine .x rfl (unmetU rfl rfl rfl) ?_); refine .x rfl (unmet rfl rfl rfl rfl) ?_; refine .v rfl rfl (O.pickT rfl rfl rfl rfl) ?_; refine .m rfl rfl rfl rfl ?_; (iterate 3 refine .x rfl (unmet rfl rfl rfl rfl) ?_); refine .v rfl rfl (O.pickT rfl rfl rfl rfl) ?_; refine .m rfl rfl rfl rfl ?_; (iterate 3 refine .x rfl (unmet rfl rfl rfl rfl) ?_); refine .v rfl rfl (O.pickT rfl rfl rfl rfl) ?_; refine .a rfl rfl rfl rfl ?_; refine .nil ?_; exact toN (Gives.mkR [] (.r rfl rfl (.c rfl (sbb (by simp only [g1, BL])) rfl .n)) (.r rfl rfl rfl .n) rfl rfl rfl)
  ·refine .v rfl (met rfl rfl rfl g1) (O.fld fld61_0 rfl rfl rfl) ?_; refine .v rfl (met rfl rfl rfl g1) (O.ld (y := .i x0.ID) ty3 rfl rfl rfl) ?_; refine .v rfl (met rfl rfl rfl g1) (OpL.binI rfl rfl rfl rfl) ?_; refine .v rfl rfl (O.pickF g1 rfl rfl rfl) ?_; refine .m rfl rfl rfl rfl ?_; rcases tf (decide (x0.ID > 1125899906842624)) with g2 | g2
   ·(iterate 4 refine .x rfl (unmet rfl rfl rfl g2) ?_); (iterate 3 refine .x rfl (unmetU rfl rfl rfl) ?_); refine .x rfl (unmet rfl rfl rfl g2) ?_; refine .v rfl rfl (O.pickT g2 rfl rfl rfl) ?_; refine .m rfl rfl rfl rfl ?_; (iterate 3 refine .x rfl (unmet rfl rfl rfl rfl) ?_); refine .v rfl rfl (O.pickT rfl rfl rfl rfl) ?_; refine .m rfl rfl rfl rfl ?_; (iterate 3 refine .x rfl (unmet rfl rfl rfl rfl) ?_); refine .v rfl rfl (O.pickT rfl rfl rfl rfl) ?_; refine .a rfl rfl rfl rfl ?_; refine .nil ?_; exact toN (Gives.mkR [] (.r rfl rfl (.c rfl (sbb (by first | (simp only [g1, g2, BL]; done) | (repeat (first | rw [g1] | rw [g2])) <;> simp only [BL])) rfl .n)) (.r rfl rfl rfl .n) rfl rfl rfl)
   ·refine .v rfl (met rfl rfl rfl g2) (O.fld fld61_2 rfl rfl rfl) ?_; refine .v rfl (met rfl rfl rfl g2) (O.ld (y := .i x0.Side) ty3 rfl rfl rfl) ?_; refine .v rfl (met rfl rfl rfl g2) (OpL.binI rfl rfl rfl rfl) ?_; refine .m rfl (met rfl rfl rfl g2) rfl rfl ?_; rcases tf (x0.Side != 1) with g3 | g3
    ·refine .v rfl (met rfl rfl rfl g3) (O.fld fld61_2 rfl rfl rfl) ?_; refine .v rfl (met rfl rfl rfl g3) (O.ld (y := .i x0.Side) ty3 rfl rfl rfl) ?_; refine .v rfl (met rfl rfl rfl g3) (OpL.binI rfl rfl rfl rfl) ?_; refine .v rfl (met rfl rfl rfl g2) (O.pickT g3 rfl rfl rfl) ?_; refine .v rfl rfl (O.pickF g2 rfl rfl rfl) ?_; refine .m rfl rfl rfl rfl ?_; rcases tf (x0.Side != 2) with g4 | g4
     ·(iterate 3 refine .x rfl (unmet rfl rfl rfl g4) ?_); refine .v rfl rfl (O.pickT g4 rfl rfl rfl) ?_; refine .m rfl rfl rfl rfl ?_; (iterate 3 refine .x rfl (unmet rfl rfl rfl rfl) ?_); refine .v rfl rfl (O.pickT rfl rfl rfl rfl) ?_; refine .a rfl rfl rfl rfl ?_; refine .nil ?_; exact toN (Gives.mkR [] (.r rfl rfl (.c rfl (sbb (by first | (simp only [g1, g2, g3, g4, BL]; done) | (repeat (first | rw [g1] | rw [g2] | rw [g3] | rw [g4])) <;> simp only [BL])) rfl .n)) (.r rfl rfl rfl .n) rfl rfl rfl)
     ·refine .v rfl (met rfl rfl rfl g4) (O.fld fld61_3 rfl rfl rfl) ?_; refine .v rfl (met rfl rfl rfl g4) (O.ld (y := .i x0.Basket) ty3 rfl rfl rfl) ?_; refine .v rfl (met rfl rfl rfl g4) (OpL.binI rfl rfl rfl rfl) ?_; refine .v rfl rfl (O.pickF g4 rfl rfl rfl) ?_; refine .m rfl rfl rfl rfl ?_; rcases tf (decide (x0.Basket < 1)) with g5 | g5
      ·(iterate 3 refine .x rfl (unmet rfl rfl rfl g5) ?_); refine .v rfl rfl (O.pickT g5 rfl rfl rfl) ?_; refine .a rfl rfl rfl rfl ?_; refine .nil ?_; exact toN (Gives.mkR [] (.r rfl rfl (.c rfl (sbb (by first | (simp only [g1, g2, g3, g4, g5, BL]; done) | (repeat (first | rw [g1] | rw [g2] | rw [g3] | rw [g4] | rw [g5])) <;> simp only [BL])) rfl .n)) (.r rfl rfl rfl .n) rfl rfl rfl)
      ·refine .v rfl (met rfl rfl rfl g5) (O.fld fld61_3 rfl rfl rfl) ?_; refine .v rfl (met rfl rfl rfl g5) (O.ld (y := .i x0.Basket) ty3 rfl rfl rfl) ?_; refine .v rfl (met rfl rfl rfl g5) (OpL.binI rfl rfl rfl rfl) ?_; refine .v rfl rfl (O.pickF g5 rfl rfl rfl) ?_; refine .a rfl rfl rfl rfl ?_; refine .nil ?_; exact toN (Gives.mkR [] (.r rfl rfl (.c rfl (sbb (by first | (simp only [g1, g2, g3, g4, g5, BL]; done) | (repeat (first | rw [g1] | rw [g2] | rw [g3] | rw [g4] | rw [g5])) <;> simp only [BL])) rfl .n)) (.r rfl rfl rfl .n) rfl rfl rfl)
    ·(iterate 3 refine .x rfl (unmet rfl rfl rfl g3) ?_); refine .v rfl (met rfl rfl rfl g2) (O.pickF g3 rfl rfl rfl) ?_; refine .v rfl rfl (O.pickF g2 rfl rfl rfl) ?_; refine .m rfl rfl rfl rfl ?_; refine .v rfl (met rfl rfl rfl rfl) (O.fld fld61_3 rfl rfl rfl) ?_; refine .v rfl (met rfl rfl rfl rfl) (O.ld (y := .i x0.Basket) ty3 rfl rfl rfl) ?_; refine .v rfl (met rfl rfl rfl rfl) (OpL.binI rfl rfl rfl rfl) ?_; refine .v rfl rfl (O.pickF rfl rfl rfl rfl) ?_; refine .m rfl rfl rfl rfl ?_; rcases tf (decide (x0.Basket < 1)) with g6 | g6
     ·(iterate 3 refine .x rfl (unmet rfl rfl rfl g6) ?_); refine .v rfl rfl (O.pickT g6 rfl rfl rfl) ?_; refine .a rfl rfl rfl rfl ?_; refine .nil ?_; exact toN (Gives.mkR [] (.r rfl rfl (.c rfl (sbb (by first | (simp only [g1, g2, g3, g6, BL]; done) | (repeat (first | rw [g1] | rw [g2] | rw [g3] | rw [g6])) <;> simp only [BL])) rfl .n)) (.r rfl rfl rfl .n) rfl rfl rfl)
     ·refine .v rfl (met rfl rfl rfl g6) (O.fld fld61_3 rfl rfl rfl) ?_; refine .v rfl (met rfl rfl rfl g6) (O.ld (y := .i x0.Basket) ty3 rfl rfl rfl) ?_; refine .v rfl (met rfl rfl rfl g6) (OpL.binI rfl rfl rfl rfl) ?_; refine .v rfl rfl (O.pickF g6 rfl rfl rfl) ?_; refine .a rfl rfl rfl rfl ?_; refine .nil ?_; exact toN (Gives.mkR [] (.r rfl rfl (.c rfl (sbb (by first | (simp only [g1, g2, g3, g6, BL]; done) | (repeat (first | rw [g1] | rw [g2] | rw [g3] | rw [g6])) <;> simp only [BL])) rfl .n)) (.r rfl rfl rfl .n) rfl rfl rfl)

noncomputable def msg_lot.f (x0 : api_Lot) : Option (Int) :=
  if ((decide (x0.Qty < 1)) || (decide (x0.Qty > 1125899906842624))) = true then
    some 1
  else
    (isin_Check.f x0.ISIN).bind fun t3 =>
    some t3
set_option maxRecDepth 100000 in
set_option maxHeartbeats 4000000 in
theorem msg_lot.ok {x0 : api_Lot} {r : Int} (h : msg_lot.f x0 = some r) : Pm.Spec prog 68 [.agg [.imm (.val (.string (tx x0.ISIN))), .imm (.val (.int .i64 x0.Qty))]] (.imm (.val (.int .i64 r))) [none] := by
 unfold msg_lot.f at h; refine Pm.Spec.of_body Try.func68 rfl (by kernel_rfl) (Nat.le_of_ble_eq_true rfl) (Nat.le_of_ble_eq_true rfl) ?_; refine W.ghost (σ' := (mkSt [(0, some (.agg [.s x0.ISIN, .i x0.Qty]))] [] 1000)) (Gives.entry (.c rfl .n) .n) ?_; refine W.seq ?_; refine W.pk ?_; refine .t rfl rfl (O.box rfl rfl rfl rfl rfl) ?_; refine .a rfl rfl rfl rfl ?_; refine .nil ?_; (iterate 2 refine W.seq ?_); refine W.fork (mkSt [(1, some (.ptr 1000 0)), (10, some (.b ((decide (x0.Qty < 1)) || (decide (x0.Qty > 1125899906842624)))))] [(1000, some (.box [.s x0.ISIN, .i x0.Qty]))] 1001) ?_ ?_
 ·refine W.cond rfl (fun q2 => ?_) (fun q2 => ?_)
  ·have h := ifT q2 h; refine W.seq ?_; refine W.pk ?_; refine .a rfl rfl rfl rfl ?_; refine .nil ?_; refine W.ret ?_; cases h; exact leaves (.inr rfl) rfl (.imm _) (cN .nil) rfl rfl
  ·have h := ifF q2 h; refine W.skip ?_; refine W.seq ?_; obtain ⟨t3, b4, h⟩ := bnd1 h; refine W.pk ?_; refine .v rfl rfl (O.fld fld130_0 rfl rfl rfl) ?_; refine .v rfl rfl (O.ld (y := .s x0.ISIN) ty9 rfl rfl rfl) ?_; refine .call (.i t3) [] 0 (isin_Check.ok b4) rfl rfl rfl ca45 rfl rfl (cC (.imm _) .nil) rfl rfl rfl rfl rfl ?_; refine .a rfl rfl rfl rfl ?_; refine .nil ?_; refine W.ret ?_; cases h; exact leaves (.inr rfl) rfl (.imm _) (cN .nil) rfl rfl
 ·clear h; refine W.pk ?_; refine .v rfl rfl (O.fld fld130_1 rfl rfl rfl) ?_; refine .v rfl rfl (O.ld (y := .i x0.Qty) ty3 rfl rfl rfl) ?_; refine .v rfl rfl (OpL.binI rfl rfl rfl rfl) ?_; refine .m rfl rfl rfl rfl ?_; rcases tf (decide (x0.Qty < 1)) with g1 | g1
  ·(iterate 3 refine .x rfl (unmet rfl rfl rfl g1) ?_); refine .v rfl rfl (O.pickT g1 rfl rfl rfl) ?_; refine .nil ?_; exact toN (Gives.mkR [] (.r rfl rfl (.c rfl (sbb (by simp only [g1, BL])) rfl .n)) (.r rfl rfl rfl .n) rfl rfl rfl)
  ·refine .v rfl (met rfl rfl rfl g1) (O.fld fld130_1 rfl rfl rfl) ?_; refine .v rfl (met rfl rfl rfl g1) (O.ld (y := .i x0.Qty) ty3 rfl rfl rfl) ?_; refine .v rfl (met rfl rfl rfl g1) (OpL.binI rfl rfl rfl rfl) ?_; refine .v rfl rfl (O.pickF g1 rfl rfl rfl) ?_; refine .nil ?_; exact toN (Gives.mkR [] (.r rfl rfl (.c rfl (sbb (by simp only [g1, BL])) rfl .n)) (.r rfl rfl rfl .n) rfl rfl rfl)

noncomputable def msg_swap.b0 (x0 : msg_Swap) (v15 : Int) : Option (Int ⊕ (Int ⊕ Unit)) :=
  if (decide (v15 < (List.length x0.In : Int))) = true then
    if (0 : Int) ≤ v15 ∧ v15 < (List.length x0.In : Int) then
    (msg_lot.f (nth x0.In v15)).bind fun t32 =>
    if (t32 != 0) = true then
      some (.inr (.inl t32))
    else
      some (.inl (IntKind.wrap .i64 (v15 + 1)))
    else none
  else
    some (.inr (.inr ()))
noncomputable def msg_swap.r0 (x0 : msg_Swap) (s : Int) : Option (Int ⊕ (Int ⊕ Unit)) := msg_swap.b0 x0 s
noncomputable def msg_swap.f (x0 : msg_Swap) : Option (Int) :=
  (msg_member.f x0.Member).bind fun t1 =>
  if ((((!t1) || (decide (x0.Trade < 1))) || (decide (x0.Trade > 1125899906842624))) || (decide ((List.length x0.In : Int) > 64))) = true then
    some 1
  else
    (msg_lot.f x0.Out).bind fun t7 =>
    if (t7 != 0) = true then
      some t7
    else
      (loop (msg_swap.r0 x0) 0).bind fun o27 =>
      match o27 with
      | .inl r35 => some r35
      | .inr w26 =>
        some 0
set_option maxRecDepth 100000 in
set_option maxHeartbeats 4000000 in
theorem msg_swap.ok {x0 : msg_Swap} {r : Int} (h : msg_swap.f x0 = some r) : Pm.Spec prog 62 [.agg [.imm (.val (.int .i64 x0.Member)), .imm (.val (.int .i64 x0.Trade)), .imm (.val (.string (tx x0.Out.ISIN))), .imm (.val (.int .i64 x0.Out.Qty)), .imm (.row 2 (List.map api_Lot.enc x0.In))]] (.imm (.val (.int .i64 r))) [none] := by
 unfold msg_swap.f at h; refine Pm.Spec.of_body Try.func62 rfl (by kernel_rfl) (Nat.le_of_ble_eq_true rfl) (Nat.le_of_ble_eq_true rfl) ?_; refine W.ghost (σ' := (mkSt [(0, some (.agg (msg_Swap.av x0)))] [] 1000)) (Gives.entry (.c rfl .n) .n) ?_; refine W.seq ?_; refine W.pk ?_; refine .t rfl rfl (O.box rfl rfl rfl rfl rfl) ?_; refine .a rfl rfl rfl rfl ?_; refine .nil ?_; (iterate 2 refine W.seq ?_); obtain ⟨t1, b2, h⟩ := bnd1 h; refine W.fork (mkSt [(1, some (.ptr 1000 0)), (26, some (.b ((((!t1) || (decide (x0.Trade < 1))) || (decide (x0.Trade > 1125899906842624))) || (decide ((List.length x0.In : Int) > 64)))))] [(1000, some (.box [.i x0.Member, .i x0.Trade, .s x0.Out.ISIN, .i x0.Out.Qty, .imm (.row 2 (List.map api_Lot.enc x0.In))]))] 1001) ?_ ?_
 ·refine W.cond rfl (fun q6 => ?_) (fun q6 => ?_)
  ·have h := ifT q6 h; refine W.seq ?_; refine W.pk ?_; refine .a rfl rfl rfl rfl ?_; refine .nil ?_; refine W.ret ?_; cases h; exact leaves (.inr rfl) rfl (.imm _) (cN .nil) rfl rfl
  ·have h := ifF q6 h; refine W.skip ?_; (iterate 2 refine W.seq ?_); obtain ⟨t7, b8, h⟩ := bnd1 h; refine W.pk ?_; refine .v rfl rfl (O.fld fld133_2 rfl rfl rfl) ?_; refine .v rfl rfl (O.ldN ty130 rfl rfl rfl) ?_; refine .call (.i t7) [] 0 (msg_lot.ok b8) rfl rfl rfl ca68 rfl rfl (cC (.agg _ _ _ _ (cC (.imm _) (cC (.imm _) .nil))) .nil) rfl rfl rfl rfl rfl ?_; refine .a rfl rfl rfl rfl ?_; refine .nil ?_; refine W.seq ?_; refine W.pk ?_; refine .m rfl rfl rfl rfl ?_; refine .v rfl rfl (OpL.binI rfl rfl rfl rfl) ?_; refine .nil ?_; refine W.cond rfl (fun q9 => ?_) (fun q9 => ?_)
   ·have h := ifT q9 h; refine W.seq ?_; refine W.pk ?_; refine .m rfl rfl rfl rfl ?_; refine .a rfl rfl rfl rfl ?_; refine .nil ?_; refine W.ret ?_; cases h; exact leaves (.inr rfl) rfl (.imm _) (cN .nil) rfl rfl
   ·have h := ifF q9 h; refine W.skip ?_; (iterate 2 refine W.seq ?_); refine W.pk ?_; refine .v rfl rfl (O.fld fld133_3 rfl rfl rfl) ?_; refine .v rfl rfl (O.ld (y := .imm (.row 2 (List.map api_Lot.enc x0.In))) ty131 rfl rfl rfl) ?_; refine .v rfl rfl (O.lenR sl131 rfl rfl) ?_; refine .m rfl rfl rfl rfl ?_; refine .nil ?_; obtain ⟨o27, b28, z29⟩ := bnd1 h; refine W.fork2 (out := o27) (fun (w26 : Unit) => mkSt [] [] 1001) ?_ ?_
    ·clear h; refine W.block ?_; refine W.loopF (fun (s_ : Int) => mkSt [(34, some (.imm (.row 2 (List.map api_Lot.enc x0.In)))), (35, some (.i (List.length x0.In : Int))), (36, some (.i s_))] [] 1001) b28 (Gives.mkR [] (.e rfl rfl) .n rfl rfl rfl) ?_; rintro v15 s_ hr; have h : msg_swap.b0 x0 v15 = some s_ := hr; unfold msg_swap.b0 at h; refine W.seq ?_; refine W.pk ?_; refine .v rfl rfl (OpL.binI rfl rfl rfl rfl) ?_; refine .nil ?_; refine W.seq ?_; refine W.cond rfl (fun q30 => ?_) (fun q30 => ?_)
     ·have h := ifT q30 h; refine W.skip ?_; refine W.seq ?_; refine W.block ?_; refine W.seq ?_; obtain ⟨c31, h⟩ := chk h; refine W.pk ?_; refine .v rfl rfl (O.idx sl131 c31 rfl rfl rfl) ?_; refine .v rfl rfl (O.ldN ty130 rfl rfl rfl) ?_; refine .t rfl rfl (O.alloc z130 rfl) ?_; refine .s rfl rfl (O.st ty130 rfl rfl rfl rfl rfl rfl rfl rfl rfl rfl (all' := [.s ((nth x0.In v15).ISIN), .i ((nth x0.In v15).Qty)]) rfl) ?_; refine .nil ?_; refine W.seq ?_; obtain ⟨t32, b33, h⟩ := bnd1 h; refine W.pk ?_; refine .v rfl rfl (O.ldN ty130 rfl rfl rfl) ?_; refine .call (.i t32) [] 0 (msg_lot.ok b33) rfl rfl rfl ca68 rfl rfl (cC (.agg _ _ _ _ (cC (.imm _) (cC (.imm _) .nil))) .nil) rfl rfl rfl rfl rfl ?_; refine .a rfl rfl rfl rfl ?_; refine .nil ?_; refine W.seq ?_; refine W.pk ?_; refine .m rfl rfl rfl rfl ?_; refine .v rfl rfl (OpL.binI rfl rfl rfl rfl) ?_; refine .nil ?_; refine W.cond rfl (fun q34 => ?_) (fun q34 => ?_)
      ·have h := ifT q34 h; refine W.seq ?_; refine W.pk ?_; refine .m rfl rfl rfl rfl ?_; refine .a rfl rfl rfl rfl ?_; refine .nil ?_; refine W.ret ?_; cases h; refine rdR fun e_ => ?_; subst e_; have h := z29; dsimp only at h; refine fkR ?_; cases h; exact leaves (.inr rfl) rfl (.imm _) (cN .nil) rfl rfl
      ·have h := ifF q34 h; refine W.skip ?_; refine W.pk ?_; refine .v rfl rfl (OpL.binI rfl rfl rfl rfl) ?_; refine .m rfl rfl rfl rfl ?_; refine .nil ?_; cases h; exact rdN (Gives.mkR [] (.e rfl rfl) .n rfl rfl rfl)
     ·have h := ifF q30 h; refine W.exit ?_; cases h; refine rdX fun e_ => ?_; subst e_; (repeat with_reducible refine thru ?_); refine hit ?_; exact fkN (Gives.mkR [] .n .n rfl rfl rfl)
    ·intro w26 e_; subst e_; clear h; have h := z29; dsimp only at h; refine W.seq ?_; refine W.pk ?_; refine .a rfl rfl rfl rfl ?_; refine .nil ?_; refine W.ret ?_; cases h; exact leaves (.inr rfl) rfl (.imm _) (cN .nil) rfl rfl
 ·clear h; refine W.pk ?_; refine .v rfl rfl (O.fld fld133_0 rfl rfl rfl) ?_; refine .v rfl rfl (O.ld (y := .i x0.Member) ty3 rfl rfl rfl) ?_; refine .call (.b t1) [] 0 (msg_member.ok b2) rfl rfl rfl ca37 rfl rfl (cC (.imm _) .nil) rfl rfl rfl rfl rfl ?_; refine .v rfl rfl (OpL.unV rfl rfl rfl) ?_; refine .m rfl rfl rfl rfl ?_; rcases tf t1 with g3 | g3
  ·refine .v rfl (met rfl rfl rfl (notT g3)) (O.fld fld133_1 rfl rfl rfl) ?_; refine .v rfl (met rfl rfl rfl (notT g3)) (O.ld (y := .i x0.Trade) ty3 rfl rfl rfl) ?_; refine .v rfl (met rfl rfl rfl (notT g3)) (OpL.binI rfl rfl rfl rfl) ?_; refine .v rfl rfl (O.pickF (notT g3) rfl rfl rfl) ?_; refine .m rfl rfl rfl rfl ?_; rcases tf (decide (x0.Trade < 1)) with g4 | g4
   ·(iterate 3 refine .x rfl (unmet rfl rfl rfl g4) ?_); refine .v rfl rfl (O.pickT g4 rfl rfl rfl) ?_; refine .m rfl rfl rfl rfl ?_; (iterate 4 refine .x rfl (unmet rfl rfl rfl rfl) ?_); refine .v rfl rfl (O.pickT rfl rfl rfl rfl) ?_; refine .nil ?_; exact toN (Gives.mkR [] (.r rfl rfl (.c rfl (sbb (by first | (simp only [g3, g4, BL]; done) | (repeat (first | rw [g3] | rw [g4])) <;> simp only [BL])) rfl .n)) (.r rfl rfl rfl .n) rfl rfl rfl)
   ·refine .v rfl (met rfl rfl rfl g4) (O.fld fld133_1 rfl rfl rfl) ?_; refine .v rfl (met rfl rfl rfl g4) (O.ld (y := .i x0.Trade) ty3 rfl rfl rfl) ?_; refine .v rfl (met rfl rfl rfl g4) (OpL.binI rfl rfl rfl rfl) ?_; refine .v rfl rfl (O.pickF g4 rfl rfl rfl) ?_; refine .m rfl rfl rfl rfl ?_; rcases tf (decide (x0.Trade > 1125899906842624)) with g5 | g5
    ·(iterate 4 refine .x rfl (unmet rfl rfl rfl g5) ?_); refine .v rfl rfl (O.pickT g5 rfl rfl rfl) ?_; refine .nil ?_; exact toN (Gives.mkR [] (.r rfl rfl (.c rfl (sbb (by first | (simp only [g3, g4, g5, BL]; done) | (repeat (first | rw [g3] | rw [g4] | rw [g5])) <;> simp only [BL])) rfl .n)) (.r rfl rfl rfl .n) rfl rfl rfl)
    ·refine .v rfl (met rfl rfl rfl g5) (O.fld fld133_3 rfl rfl rfl) ?_; refine .v rfl (met rfl rfl rfl g5) (O.ld (y := .imm (.row 2 (List.map api_Lot.enc x0.In))) ty131 rfl rfl rfl) ?_; refine .v rfl (met rfl rfl rfl g5) (O.lenR sl131 rfl rfl) ?_; refine .v rfl (met rfl rfl rfl g5) (OpL.binI rfl rfl rfl rfl) ?_; refine .v rfl rfl (O.pickF g5 rfl rfl rfl) ?_; refine .nil ?_; exact toN (Gives.mkR [] (.r rfl rfl (.c rfl (sbb (by first | (simp only [g3, g4, g5, BL]; done) | (repeat (first | rw [g3] | rw [g4] | rw [g5])) <;> simp only [BL])) rfl .n)) (.r rfl rfl rfl .n) rfl rfl rfl)
  ·(iterate 3 refine .x rfl (unmet rfl rfl rfl (notF g3)) ?_); refine .v rfl rfl (O.pickT (notF g3) rfl rfl rfl) ?_; refine .m rfl rfl rfl rfl ?_; (iterate 3 refine .x rfl (unmet rfl rfl rfl rfl) ?_); refine .v rfl rfl (O.pickT rfl rfl rfl rfl) ?_; refine .m rfl rfl rfl rfl ?_; (iterate 4 refine .x rfl (unmet rfl rfl rfl rfl) ?_); refine .v rfl rfl (O.pickT rfl rfl rfl rfl) ?_; refine .nil ?_; exact toN (Gives.mkR [] (.r rfl rfl (.c rfl (sbb (by simp only [g3, BL])) rfl .n)) (.r rfl rfl rfl .n) rfl rfl rfl)

noncomputable def msg_check.f (x0 : msg_Message) : Option (Int) :=
  if (x0.ismsg_Cancel) = true then
    (msg_member.f ((x0.asmsg_Cancel).Member)).bind fun t2 =>
    (msg_arg.f ((t2 && (decide (((x0.asmsg_Cancel).Quote) ≥ 1))) && (decide (((x0.asmsg_Cancel).Quote) ≤ 1125899906842624))) 1).bind fun t4 =>
    some t4
  else
    if (x0.ismsg_Notice) = true then
      (msg_member.f ((x0.asmsg_Notice).Member)).bind fun t9 =>
      if (((!t9) || (decide (((x0.asmsg_Notice).Trade) < 1))) || (decide (((x0.asmsg_Notice).Trade) > 1125899906842624))) = true then
        some 1
      else
        (calendar_Good.f ((x0.asmsg_Notice).Day)).bind fun t14 =>
        (msg_arg.f t14 10).bind fun t16 =>
        some t16
    else
      if (x0.ismsg_Swap) = true then
        (msg_swap.f (⟨(x0.asmsg_Swap).Member, (x0.asmsg_Swap).Trade, ((x0.asmsg_Swap).Out), (x0.asmsg_Swap).In⟩ : msg_Swap)).bind fun t19 =>
        some t19
      else
        if (x0.ismsg_Settle) = true then
          (msg_member.f ((x0.asmsg_Settle).Member)).bind fun t22 =>
          if (!t22) = true then
            some 1
          else
            (calendar_Good.f ((x0.asmsg_Settle).Day)).bind fun t25 =>
            (msg_arg.f t25 10).bind fun t27 =>
            some t27
        else
          if (x0.ismsg_Default) = true then
            (msg_member.f ((x0.asmsg_Default).Member)).bind fun t30 =>
            (msg_arg.f t30 1).bind fun t32 =>
            some t32
          else
            if (x0.ismsg_Bound) = true then
              (msg_member.f ((x0.asmsg_Bound).Member)).bind fun t35 =>
              (msg_arg.f ((t35 && (decide (((x0.asmsg_Bound).Amount) ≥ 0))) && (decide (((x0.asmsg_Bound).Amount) ≤ 1125899906842624))) 1).bind fun t37 =>
              some t37
            else
              if (x0.ismsg_Reset) = true then
                if ((((decide (((x0.asmsg_Reset).Trade) < 1)) || (decide (((x0.asmsg_Reset).Trade) > 1125899906842624))) || (decide (((x0.asmsg_Reset).Rate) < (-1000000)))) || (decide (((x0.asmsg_Reset).Rate) > 1000000))) = true then
                  some 1
                else
                  (calendar_Good.f ((x0.asmsg_Reset).Day)).bind fun t46 =>
                  (msg_arg.f t46 10).bind fun t48 =>
                  some t48
              else
                some 17
set_option maxRecDepth 100000 in
set_option maxHeartbeats 4000000 in
theorem msg_check.ok {x0 : msg_Message} {r : Int} (h : msg_check.f x0 = some r) : Pm.Spec prog 47 [.imm (msg_Message.enc x0)] (.imm (.val (.int .i64 r))) [none] := by
 unfold msg_check.f at h; refine Pm.Spec.of_body Try.func47 rfl (by kernel_rfl) (Nat.le_of_ble_eq_true rfl) (Nat.le_of_ble_eq_true rfl) ?_; refine W.ghost (σ' := (mkSt [(0, some (.imm (msg_Message.enc x0)))] [] 1000)) (Gives.entry (.c rfl .n) .n) ?_; refine W.seq ?_; refine W.pk ?_; refine .a rfl rfl rfl rfl ?_; refine .nil ?_; (iterate 2 refine W.seq ?_); refine W.pk ?_; refine .m rfl rfl rfl rfl ?_; refine .nil ?_; refine W.block ?_; refine W.seq ?_; refine W.pk ?_; refine .v rfl rfl (O.asOk (cs := [.i ((x0.asmsg_Cancel).Member), .i ((x0.asmsg_Cancel).Quote)]) pl126 (msg_Message.atmsg_Cancel x0) rfl rfl rfl) ?_; (iterate 2 refine .v rfl rfl (OpL.extract rfl rfl rfl) ?_); refine .nil ?_; refine W.cond rfl (fun q1 => ?_) (fun q1 => ?_)
 ·have h := ifT q1 h; refine W.seq ?_; refine W.pk ?_; refine .t rfl rfl (O.alloc z126 rfl) ?_; refine .s rfl rfl (O.st ty126 rfl rfl rfl rfl rfl rfl rfl rfl rfl rfl (all' := [.i ((x0.asmsg_Cancel).Member), .i ((x0.asmsg_Cancel).Quote)]) rfl) ?_; refine .nil ?_; refine W.seq ?_; obtain ⟨t2, b3, h⟩ := bnd1 h; obtain ⟨t4, b5, h⟩ := bnd1 h; refine W.fork (mkSt [(2, some (.i t4))] [] 1001) ?_ ?_
  ·refine W.ret ?_; cases h; exact leaves (.inr rfl) rfl (.imm _) (cN .nil) rfl rfl
  ·clear h; refine W.pk ?_; refine .v rfl rfl (O.fld fld126_0 rfl rfl rfl) ?_; refine .v rfl rfl (O.ld (y := .i ((x0.asmsg_Cancel).Member)) ty3 rfl rfl rfl) ?_; refine .call (.b t2) [] 0 (msg_member.ok b3) rfl rfl rfl ca37 rfl rfl (cC (.imm _) .nil) rfl rfl rfl rfl rfl ?_; refine .m rfl rfl rfl rfl ?_; rcases tf t2 with g6 | g6
   ·refine .v rfl (met rfl rfl rfl g6) (O.fld fld126_1 rfl rfl rfl) ?_; refine .v rfl (met rfl rfl rfl g6) (O.ld (y := .i ((x0.asmsg_Cancel).Quote)) ty3 rfl rfl rfl) ?_; refine .v rfl (met rfl rfl rfl g6) (OpL.binI rfl rfl rfl rfl) ?_; refine .v rfl rfl (O.pickT g6 rfl rfl rfl) ?_; refine .m rfl rfl rfl rfl ?_; rcases tf (decide (((x0.asmsg_Cancel).Quote) ≥ 1)) with g7 | g7
    ·refine .v rfl (met rfl rfl rfl g7) (O.fld fld126_1 rfl rfl rfl) ?_; refine .v rfl (met rfl rfl rfl g7) (O.ld (y := .i ((x0.asmsg_Cancel).Quote)) ty3 rfl rfl rfl) ?_; refine .v rfl (met rfl rfl rfl g7) (OpL.binI rfl rfl rfl rfl) ?_; refine .v rfl rfl (O.pickT g7 rfl rfl rfl) ?_; refine .call (.i t4) [] 0 (msg_arg.ok ((show msg_arg.f (decide (((x0.asmsg_Cancel).Quote) ≤ 1125899906842624)) 1 = msg_arg.f ((t2 && (decide (((x0.asmsg_Cancel).Quote) ≥ 1))) && (decide (((x0.asmsg_Cancel).Quote) ≤ 1125899906842624))) 1 from by first | (simp only [g6, g7, BL]; done) | (repeat (first | rw [g6] | rw [g7])) <;> simp only [BL]).trans b5)) rfl rfl rfl ca41 rfl rfl (cC (.imm _) (cC (.imm _) .nil)) rfl rfl rfl rfl rfl ?_; refine .a rfl rfl rfl rfl ?_; refine .nil ?_; exact toN (Gives.mkR [] (.r rfl rfl .n) .n rfl rfl rfl)
    ·(iterate 3 refine .x rfl (unmet rfl rfl rfl g7) ?_); refine .v rfl rfl (O.pickF g7 rfl rfl rfl) ?_; refine .call (.i t4) [] 0 (msg_arg.ok ((show msg_arg.f false 1 = msg_arg.f ((t2 && (decide (((x0.asmsg_Cancel).Quote) ≥ 1))) && (decide (((x0.asmsg_Cancel).Quote) ≤ 1125899906842624))) 1 from by first | (simp only [g6, g7, BL]; done) | (repeat (first | rw [g6] | rw [g7])) <;> simp only [BL]).trans b5)) rfl rfl rfl ca41 rfl rfl (cC (.imm _) (cC (.imm _) .nil)) rfl rfl rfl rfl rfl ?_; refine .a rfl rfl rfl rfl ?_; refine .nil ?_; exact toN (Gives.mkR [] (.r rfl rfl .n) .n rfl rfl rfl)
   ·(iterate 3 refine .x rfl (unmet rfl rfl rfl g6) ?_); refine .v rfl rfl (O.pickF g6 rfl rfl rfl) ?_; refine .m rfl rfl rfl rfl ?_; (iterate 3 refine .x rfl (unmet rfl rfl rfl rfl) ?_); refine .v rfl rfl (O.pickF rfl rfl rfl rfl) ?_; refine .call (.i t4) [] 0 (msg_arg.ok ((show msg_arg.f false 1 = msg_arg.f ((t2 && (decide (((x0.asmsg_Cancel).Quote) ≥ 1))) && (decide (((x0.asmsg_Cancel).Quote) ≤ 1125899906842624))) 1 from by simp only [g6, BL]).trans b5)) rfl rfl rfl ca41 rfl rfl (cC (.imm _) (cC (.imm _) .nil)) rfl rfl rfl rfl rfl ?_; refine .a rfl rfl rfl rfl ?_; refine .nil ?_; exact toN (Gives.mkR [] (.r rfl rfl .n) .n rfl rfl rfl)
 ·have h := ifF q1 h; refine W.seq ?_; refine W.pk ?_; refine .v rfl rfl (O.asOk (cs := [.i ((x0.asmsg_Notice).Member), .i ((x0.asmsg_Notice).Trade), .i ((x0.asmsg_Notice).Day)]) pl128 (msg_Message.atmsg_Notice x0) rfl rfl rfl) ?_; (iterate 2 refine .v rfl rfl (OpL.extract rfl rfl rfl) ?_); refine .nil ?_; refine W.cond rfl (fun q8 => ?_) (fun q8 => ?_)
  ·have h := ifT q8 h; refine W.seq ?_; refine W.pk ?_; refine .t rfl rfl (O.alloc z128 rfl) ?_; refine .s rfl rfl (O.st ty128 rfl rfl rfl rfl rfl rfl rfl rfl rfl rfl (all' := [.i ((x0.asmsg_Notice).Member), .i ((x0.asmsg_Notice).Trade), .i ((x0.asmsg_Notice).Day)]) rfl) ?_; refine .nil ?_; (iterate 2 refine W.seq ?_); obtain ⟨t9, b10, h⟩ := bnd1 h; refine W.fork (mkSt [(4, some (.ptr 1000 0)), (44, some (.b (((!t9) || (decide (((x0.asmsg_Notice).Trade) < 1))) || (decide (((x0.asmsg_Notice).Trade) > 1125899906842624)))))] [(1000, some (.box [.i ((x0.asmsg_Notice).Member), .i ((x0.asmsg_Notice).Trade), .i ((x0.asmsg_Notice).Day)]))] 1001) ?_ ?_
   ·refine W.cond rfl (fun q13 => ?_) (fun q13 => ?_)
    ·have h := ifT q13 h; refine W.seq ?_; refine W.pk ?_; refine .a rfl rfl rfl rfl ?_; refine .nil ?_; refine W.ret ?_; cases h; exact leaves (.inr rfl) rfl (.imm _) (cN .nil) rfl rfl
    ·have h := ifF q13 h; refine W.skip ?_; refine W.seq ?_; obtain ⟨t14, b15, h⟩ := bnd1 h; obtain ⟨t16, b17, h⟩ := bnd1 h; refine W.pk ?_; refine .v rfl rfl (O.fld fld128_2 rfl rfl rfl) ?_; refine .v rfl rfl (O.ld (y := .i ((x0.asmsg_Notice).Day)) ty3 rfl rfl rfl) ?_; refine .call (.b t14) [] 0 (calendar_Good.ok b15) rfl rfl rfl ca42 rfl rfl (cC (.imm _) .nil) rfl rfl rfl rfl rfl ?_; refine .call (.i t16) [] 0 (msg_arg.ok b17) rfl rfl rfl ca41 rfl rfl (cC (.imm _) (cC (.imm _) .nil)) rfl rfl rfl rfl rfl ?_; refine .a rfl rfl rfl rfl ?_; refine .nil ?_; refine W.ret ?_; cases h; exact leaves (.inr rfl) rfl (.imm _) (cN .nil) rfl rfl
   ·clear h; refine W.pk ?_; refine .v rfl rfl (O.fld fld128_0 rfl rfl rfl) ?_; refine .v rfl rfl (O.ld (y := .i ((x0.asmsg_Notice).Member)) ty3 rfl rfl rfl) ?_; refine .call (.b t9) [] 0 (msg_member.ok b10) rfl rfl rfl ca37 rfl rfl (cC (.imm _) .nil) rfl rfl rfl rfl rfl ?_; refine .v rfl rfl (OpL.unV rfl rfl rfl) ?_; refine .m rfl rfl rfl rfl ?_; rcases tf t9 with g11 | g11
    ·refine .v rfl (met rfl rfl rfl (notT g11)) (O.fld fld128_1 rfl rfl rfl) ?_; refine .v rfl (met rfl rfl rfl (notT g11)) (O.ld (y := .i ((x0.asmsg_Notice).Trade)) ty3 rfl rfl rfl) ?_; refine .v rfl (met rfl rfl rfl (notT g11)) (OpL.binI rfl rfl rfl rfl) ?_; refine .v rfl rfl (O.pickF (notT g11) rfl rfl rfl) ?_; refine .m rfl rfl rfl rfl ?_; rcases tf (decide (((x0.asmsg_Notice).Trade) < 1)) with g12 | g12
     ·(iterate 3 refine .x rfl (unmet rfl rfl rfl g12) ?_); refine .v rfl rfl (O.pickT g12 rfl rfl rfl) ?_; refine .nil ?_; exact toN (Gives.mkR [] (.r rfl rfl (.c rfl (sbb (by first | (simp only [g11, g12, BL]; done) | (repeat (first | rw [g11] | rw [g12])) <;> simp only [BL])) rfl .n)) (.r rfl rfl rfl .n) rfl rfl rfl)
     ·refine .v rfl (met rfl rfl rfl g12) (O.fld fld128_1 rfl rfl rfl) ?_; refine .v rfl (met rfl rfl rfl g12) (O.ld (y := .i ((x0.asmsg_Notice).Trade)) ty3 rfl rfl rfl) ?_; refine .v rfl (met rfl rfl rfl g12) (OpL.binI rfl rfl rfl rfl) ?_; refine .v rfl rfl (O.pickF g12 rfl rfl rfl) ?_; refine .nil ?_; exact toN (Gives.mkR [] (.r rfl rfl (.c rfl (sbb (by first | (simp only [g11, g12, BL]; done) | (repeat (first | rw [g11] | rw [g12])) <;> simp only [BL])) rfl .n)) (.r rfl rfl rfl .n) rfl rfl rfl)
    ·(iterate 3 refine .x rfl (unmet rfl rfl rfl (notF g11)) ?_); refine .v rfl rfl (O.pickT (notF g11) rfl rfl rfl) ?_; refine .m rfl rfl rfl rfl ?_; (iterate 3 refine .x rfl (unmet rfl rfl rfl rfl) ?_); refine .v rfl rfl (O.pickT rfl rfl rfl rfl) ?_; refine .nil ?_; exact toN (Gives.mkR [] (.r rfl rfl (.c rfl (sbb (by simp only [g11, BL])) rfl .n)) (.r rfl rfl rfl .n) rfl rfl rfl)
  ·have h := ifF q8 h; refine W.seq ?_; refine W.pk ?_; refine .v rfl rfl (O.asOk (cs := [.i ((x0.asmsg_Swap).Member), .i ((x0.asmsg_Swap).Trade), .s (((x0.asmsg_Swap).Out).ISIN), .i (((x0.asmsg_Swap).Out).Qty), .imm (.row 2 (List.map api_Lot.enc ((x0.asmsg_Swap).In)))]) pl133 (msg_Message.atmsg_Swap x0) rfl rfl rfl) ?_; (iterate 2 refine .v rfl rfl (OpL.extract rfl rfl rfl) ?_); refine .nil ?_; refine W.cond rfl (fun q18 => ?_) (fun q18 => ?_)
   ·have h := ifT q18 h; refine W.seq ?_; refine W.pk ?_; refine .t rfl rfl (O.alloc z133 rfl) ?_; refine .s rfl rfl (O.st ty133 rfl rfl rfl rfl rfl rfl rfl rfl rfl rfl (all' := [.i ((x0.asmsg_Swap).Member), .i ((x0.asmsg_Swap).Trade), .s (((x0.asmsg_Swap).Out).ISIN), .i (((x0.asmsg_Swap).Out).Qty), .imm (.row 2 (List.map api_Lot.enc ((x0.asmsg_Swap).In)))]) rfl) ?_; refine .nil ?_; refine W.seq ?_; obtain ⟨t19, b20, h⟩ := bnd1 h; refine W.pk ?_; refine .v rfl rfl (O.ldN ty133 rfl rfl rfl) ?_; refine .call (.i t19) [] 0 (msg_swap.ok b20) rfl rfl rfl ca62 rfl rfl (cC (.agg _ _ _ _ (cC (.imm _) (cC (.imm _) (cC (.imm _) (cC (.imm _) (cC (.imm _) .nil)))))) .nil) rfl rfl rfl rfl rfl ?_; refine .a rfl rfl rfl rfl ?_; refine .nil ?_; refine W.ret ?_; cases h; exact leaves (.inr rfl) rfl (.imm _) (cN .nil) rfl rfl
   ·have h := ifF q18 h; refine W.seq ?_; refine W.pk ?_; refine .v rfl rfl (O.asOk (cs := [.i ((x0.asmsg_Settle).Member), .i ((x0.asmsg_Settle).Day), .b ((x0.asmsg_Settle).Done)]) pl100 (msg_Message.atmsg_Settle x0) rfl rfl rfl) ?_; (iterate 2 refine .v rfl rfl (OpL.extract rfl rfl rfl) ?_); refine .nil ?_; refine W.cond rfl (fun q21 => ?_) (fun q21 => ?_)
    ·have h := ifT q21 h; refine W.seq ?_; refine W.pk ?_; refine .t rfl rfl (O.alloc z100 rfl) ?_; refine .s rfl rfl (O.st ty100 rfl rfl rfl rfl rfl rfl rfl rfl rfl rfl (all' := [.i ((x0.asmsg_Settle).Member), .i ((x0.asmsg_Settle).Day), .b ((x0.asmsg_Settle).Done)]) rfl) ?_; refine .nil ?_; (iterate 2 refine W.seq ?_); obtain ⟨t22, b23, h⟩ := bnd1 h; refine W.pk ?_; refine .v rfl rfl (O.fld fld100_0 rfl rfl rfl) ?_; refine .v rfl rfl (O.ld (y := .i ((x0.asmsg_Settle).Member)) ty3 rfl rfl rfl) ?_; refine .call (.b t22) [] 0 (msg_member.ok b23) rfl rfl rfl ca37 rfl rfl (cC (.imm _) .nil) rfl rfl rfl rfl rfl ?_; refine .v rfl rfl (OpL.unV rfl rfl rfl) ?_; refine .nil ?_; refine W.cond rfl (fun q24 => ?_) (fun q24 => ?_)
     ·have h := ifT q24 h; refine W.seq ?_; refine W.pk ?_; refine .a rfl rfl rfl rfl ?_; refine .nil ?_; refine W.ret ?_; cases h; exact leaves (.inr rfl) rfl (.imm _) (cN .nil) rfl rfl
     ·have h := ifF q24 h; refine W.skip ?_; refine W.seq ?_; obtain ⟨t25, b26, h⟩ := bnd1 h; obtain ⟨t27, b28, h⟩ := bnd1 h; refine W.pk ?_; refine .v rfl rfl (O.fld fld100_1 rfl rfl rfl) ?_; refine .v rfl rfl (O.ld (y := .i ((x0.asmsg_Settle).Day)) ty3 rfl rfl rfl) ?_; refine .call (.b t25) [] 0 (calendar_Good.ok b26) rfl rfl rfl ca42 rfl rfl (cC (.imm _) .nil) rfl rfl rfl rfl rfl ?_; refine .call (.i t27) [] 0 (msg_arg.ok b28) rfl rfl rfl ca41 rfl rfl (cC (.imm _) (cC (.imm _) .nil)) rfl rfl rfl rfl rfl ?_; refine .a rfl rfl rfl rfl ?_; refine .nil ?_; refine W.ret ?_; cases h; exact leaves (.inr rfl) rfl (.imm _) (cN .nil) rfl rfl
    ·have h := ifF q21 h; refine W.seq ?_; refine W.pk ?_; refine .v rfl rfl (O.asOk (cs := [.i ((x0.asmsg_Default).Member)]) pl102 (msg_Message.atmsg_Default x0) rfl rfl rfl) ?_; (iterate 2 refine .v rfl rfl (OpL.extract rfl rfl rfl) ?_); refine .nil ?_; refine W.cond rfl (fun q29 => ?_) (fun q29 => ?_)
     ·have h := ifT q29 h; refine W.seq ?_; refine W.pk ?_; refine .t rfl rfl (O.alloc z102 rfl) ?_; refine .s rfl rfl (O.st ty102 rfl rfl rfl rfl rfl rfl rfl rfl rfl rfl (all' := [.i ((x0.asmsg_Default).Member)]) rfl) ?_; refine .nil ?_; refine W.seq ?_; obtain ⟨t30, b31, h⟩ := bnd1 h; obtain ⟨t32, b33, h⟩ := bnd1 h; refine W.pk ?_; refine .v rfl rfl (O.fld fld102_0 rfl rfl rfl) ?_; refine .v rfl rfl (O.ld (y := .i ((x0.asmsg_Default).Member)) ty3 rfl rfl rfl) ?_; refine .call (.b t30) [] 0 (msg_member.ok b31) rfl rfl rfl ca37 rfl rfl (cC (.imm _) .nil) rfl rfl rfl rfl rfl ?_; refine .call (.i t32) [] 0 (msg_arg.ok b33) rfl rfl rfl ca41 rfl rfl (cC (.imm _) (cC (.imm _) .nil)) rfl rfl rfl rfl rfl ?_; refine .a rfl rfl rfl rfl ?_; refine .nil ?_; refine W.ret ?_; cases h; exact leaves (.inr rfl) rfl (.imm _) (cN .nil) rfl rfl
     ·have h := ifF q29 h; refine W.seq ?_; refine W.pk ?_; refine .v rfl rfl (O.asOk (cs := [.i ((x0.asmsg_Bound).Member), .i ((x0.asmsg_Bound).Amount)]) pl104 (msg_Message.atmsg_Bound x0) rfl rfl rfl) ?_; (iterate 2 refine .v rfl rfl (OpL.extract rfl rfl rfl) ?_); refine .nil ?_; refine W.cond rfl (fun q34 => ?_) (fun q34 => ?_)
      ·have h := ifT q34 h; refine W.seq ?_; refine W.pk ?_; refine .t rfl rfl (O.alloc z104 rfl) ?_; refine .s rfl rfl (O.st ty104 rfl rfl rfl rfl rfl rfl rfl rfl rfl rfl (all' := [.i ((x0.asmsg_Bound).Member), .i ((x0.asmsg_Bound).Amount)]) rfl) ?_; refine .nil ?_; refine W.seq ?_; obtain ⟨t35, b36, h⟩ := bnd1 h; obtain ⟨t37, b38, h⟩ := bnd1 h; refine W.fork (mkSt [(2, some (.i t37))] [] 1001) ?_ ?_
       ·refine W.ret ?_; cases h; exact leaves (.inr rfl) rfl (.imm _) (cN .nil) rfl rfl
       ·clear h; refine W.pk ?_; refine .v rfl rfl (O.fld fld104_0 rfl rfl rfl) ?_; refine .v rfl rfl (O.ld (y := .i ((x0.asmsg_Bound).Member)) ty3 rfl rfl rfl) ?_; refine .call (.b t35) [] 0 (msg_member.ok b36) rfl rfl rfl ca37 rfl rfl (cC (.imm _) .nil) rfl rfl rfl rfl rfl ?_; refine .m rfl rfl rfl rfl ?_; rcases tf t35 with g39 | g39
        ·refine .v rfl (met rfl rfl rfl g39) (O.fld fld104_1 rfl rfl rfl) ?_; refine .v rfl (met rfl rfl rfl g39) (O.ld (y := .i ((x0.asmsg_Bound).Amount)) ty3 rfl rfl rfl) ?_; refine .v rfl (met rfl rfl rfl g39) (OpL.binI rfl rfl rfl rfl) ?_; refine .v rfl rfl (O.pickT g39 rfl rfl rfl) ?_; refine .m rfl rfl rfl rfl ?_; rcases tf (decide (((x0.asmsg_Bound).Amount) ≥ 0)) with g40 | g40
         ·refine .v rfl (met rfl rfl rfl g40) (O.fld fld104_1 rfl rfl rfl) ?_; refine .v rfl (met rfl rfl rfl g40) (O.ld (y := .i ((x0.asmsg_Bound).Amount)) ty3 rfl rfl rfl) ?_; refine .v rfl (met rfl rfl rfl g40) (OpL.binI rfl rfl rfl rfl) ?_; refine .v rfl rfl (O.pickT g40 rfl rfl rfl) ?_; refine .call (.i t37) [] 0 (msg_arg.ok ((show msg_arg.f (decide (((x0.asmsg_Bound).Amount) ≤ 1125899906842624)) 1 = msg_arg.f ((t35 && (decide (((x0.asmsg_Bound).Amount) ≥ 0))) && (decide (((x0.asmsg_Bound).Amount) ≤ 1125899906842624))) 1 from by first | (simp only [g39, g40, BL]; done) | (repeat (first | rw [g39] | rw [g40])) <;> simp only [BL]).trans b38)) rfl rfl rfl ca41 rfl rfl (cC (.imm _) (cC (.imm _) .nil)) rfl rfl rfl rfl rfl ?_; refine .a rfl rfl rfl rfl ?_; refine .nil ?_; exact toN (Gives.mkR [] (.r rfl rfl .n) .n rfl rfl rfl)
         ·(iterate 3 refine .x rfl (unmet rfl rfl rfl g40) ?_); refine .v rfl rfl (O.pickF g40 rfl rfl rfl) ?_; refine .call (.i t37) [] 0 (msg_arg.ok ((show msg_arg.f false 1 = msg_arg.f ((t35 && (decide (((x0.asmsg_Bound).Amount) ≥ 0))) && (decide (((x0.asmsg_Bound).Amount) ≤ 1125899906842624))) 1 from by first | (simp only [g39, g40, BL]; done) | (repeat (first | rw [g39] | rw [g40])) <;> simp only [BL]).trans b38)) rfl rfl rfl ca41 rfl rfl (cC (.imm _) (cC (.imm _) .nil)) rfl rfl rfl rfl rfl ?_; refine .a rfl rfl rfl rfl ?_; refine .nil ?_; exact toN (Gives.mkR [] (.r rfl rfl .n) .n rfl rfl rfl)
        ·(iterate 3 refine .x rfl (unmet rfl rfl rfl g39) ?_); refine .v rfl rfl (O.pickF g39 rfl rfl rfl) ?_; refine .m rfl rfl rfl rfl ?_; (iterate 3 refine .x rfl (unmet rfl rfl rfl rfl) ?_); refine .v rfl rfl (O.pickF rfl rfl rfl rfl) ?_; refine .call (.i t37) [] 0 (msg_arg.ok ((show msg_arg.f false 1 = msg_arg.f ((t35 && (decide (((x0.asmsg_Bound).Amount) ≥ 0))) && (decide (((x0.asmsg_Bound).Amount) ≤ 1125899906842624))) 1 from by simp only [g39, BL]).trans b38)) rfl rfl rfl ca41 rfl rfl (cC (.imm _) (cC (.imm _) .nil)) rfl rfl rfl rfl rfl ?_; refine .a rfl rfl rfl rfl ?_; refine .nil ?_; exact toN (Gives.mkR [] (.r rfl rfl .n) .n rfl rfl rfl)
      ·have h := ifF q34 h; refine W.seq ?_; refine W.pk ?_; refine .v rfl rfl (O.asOk (cs := [.i ((x0.asmsg_Reset).Trade), .i ((x0.asmsg_Reset).Day), .i ((x0.asmsg_Reset).Rate)]) pl136 (msg_Message.atmsg_Reset x0) rfl rfl rfl) ?_; (iterate 2 refine .v rfl rfl (OpL.extract rfl rfl rfl) ?_); refine .nil ?_; refine W.cond rfl (fun q41 => ?_) (fun q41 => ?_)
       ·have h := ifT q41 h; refine W.seq ?_; refine W.pk ?_; refine .t rfl rfl (O.alloc z136 rfl) ?_; refine .s rfl rfl (O.st ty136 rfl rfl rfl rfl rfl rfl rfl rfl rfl rfl (all' := [.i ((x0.asmsg_Reset).Trade), .i ((x0.asmsg_Reset).Day), .i ((x0.asmsg_Reset).Rate)]) rfl) ?_; refine .nil ?_; (iterate 2 refine W.seq ?_); refine W.fork (mkSt [(9, some (.ptr 1000 0)), (109, some (.b ((((decide (((x0.asmsg_Reset).Trade) < 1)) || (decide (((x0.asmsg_Reset).Trade) > 1125899906842624))) || (decide (((x0.asmsg_Reset).Rate) < (-1000000)))) || (decide (((x0.asmsg_Reset).Rate) > 1000000)))))] [(1000, some (.box [.i ((x0.asmsg_Reset).Trade), .i ((x0.asmsg_Reset).Day), .i ((x0.asmsg_Reset).Rate)]))] 1001) ?_ ?_
        ·refine W.cond rfl (fun q45 => ?_) (fun q45 => ?_)
         ·have h := ifT q45 h; refine W.seq ?_; refine W.pk ?_; refine .a rfl rfl rfl rfl ?_; refine .nil ?_; refine W.ret ?_; cases h; exact leaves (.inr rfl) rfl (.imm _) (cN .nil) rfl rfl
         ·have h := ifF q45 h; refine W.skip ?_; refine W.seq ?_; obtain ⟨t46, b47, h⟩ := bnd1 h; obtain ⟨t48, b49, h⟩ := bnd1 h; refine W.pk ?_; refine .v rfl rfl (O.fld fld136_1 rfl rfl rfl) ?_; refine .v rfl rfl (O.ld (y := .i ((x0.asmsg_Reset).Day)) ty3 rfl rfl rfl) ?_; refine .call (.b t46) [] 0 (calendar_Good.ok b47) rfl rfl rfl ca42 rfl rfl (cC (.imm _) .nil) rfl rfl rfl rfl rfl ?_; refine .call (.i t48) [] 0 (msg_arg.ok b49) rfl rfl rfl ca41 rfl rfl (cC (.imm _) (cC (.imm _) .nil)) rfl rfl rfl rfl rfl ?_; refine .a rfl rfl rfl rfl ?_; refine .nil ?_; refine W.ret ?_; cases h; exact leaves (.inr rfl) rfl (.imm _) (cN .nil) rfl rfl
        ·clear h; refine W.pk ?_; refine .v rfl rfl (O.fld fld136_0 rfl rfl rfl) ?_; refine .v rfl rfl (O.ld (y := .i ((x0.asmsg_Reset).Trade)) ty3 rfl rfl rfl) ?_; refine .v rfl rfl (OpL.binI rfl rfl rfl rfl) ?_; refine .m rfl rfl rfl rfl ?_; rcases tf (decide (((x0.asmsg_Reset).Trade) < 1)) with g42 | g42
         ·(iterate 3 refine .x rfl (unmet rfl rfl rfl g42) ?_); refine .v rfl rfl (O.pickT g42 rfl rfl rfl) ?_; refine .m rfl rfl rfl rfl ?_; (iterate 3 refine .x rfl (unmet rfl rfl rfl rfl) ?_); refine .v rfl rfl (O.pickT rfl rfl rfl rfl) ?_; refine .m rfl rfl rfl rfl ?_; (iterate 3 refine .x rfl (unmet rfl rfl rfl rfl) ?_); refine .v rfl rfl (O.pickT rfl rfl rfl rfl) ?_; refine .nil ?_; exact toN (Gives.mkR [] (.r rfl rfl (.c rfl (sbb (by simp only [g42, BL])) rfl .n)) (.r rfl rfl rfl .n) rfl rfl rfl)
         ·refine .v rfl (met rfl rfl rfl g42) (O.fld fld136_0 rfl rfl rfl) ?_; refine .v rfl (met rfl rfl rfl g42) (O.ld (y := .i ((x0.asmsg_Reset).Trade)) ty3 rfl rfl rfl) ?_; refine .v rfl (met rfl rfl rfl g42) (OpL.binI rfl rfl rfl rfl) ?_; refine .v rfl rfl (O.pickF g42 rfl rfl rfl) ?_; refine .m rfl rfl rfl rfl ?_; rcases tf (decide (((x0.asmsg_Reset).Trade) > 1125899906842624)) with g43 | g43
          ·(iterate 3 refine .x rfl (unmet rfl rfl rfl g43) ?_); refine .v rfl rfl (O.pickT g43 rfl rfl rfl) ?_; refine .m rfl rfl rfl rfl ?_; (iterate 3 refine .x rfl (unmet rfl rfl rfl rfl) ?_); refine .v rfl rfl (O.pickT rfl rfl rfl rfl) ?_; refine .nil ?_; exact toN (Gives.mkR [] (.r rfl rfl (.c rfl (sbb (by first | (simp only [g42, g43, BL]; done) | (repeat (first | rw [g42] | rw [g43])) <;> simp only [BL])) rfl .n)) (.r rfl rfl rfl .n) rfl rfl rfl)
          ·refine .v rfl (met rfl rfl rfl g43) (O.fld fld136_2 rfl rfl rfl) ?_; refine .v rfl (met rfl rfl rfl g43) (O.ld (y := .i ((x0.asmsg_Reset).Rate)) ty3 rfl rfl rfl) ?_; refine .v rfl (met rfl rfl rfl g43) (OpL.binI rfl rfl rfl rfl) ?_; refine .v rfl rfl (O.pickF g43 rfl rfl rfl) ?_; refine .m rfl rfl rfl rfl ?_; rcases tf (decide (((x0.asmsg_Reset).Rate) < (-1000000))) with g44 | g44
           ·(iterate 3 refine .x rfl (unmet rfl rfl rfl g44) ?_); refine .v rfl rfl (O.pickT g44 rfl rfl rfl) ?_; refine .nil ?_; exact toN (Gives.mkR [] (.r rfl rfl (.c rfl (sbb (by first | (simp only [g42, g43, g44, BL]; done) | (repeat (first | rw [g42] | rw [g43] | rw [g44])) <;> simp only [BL])) rfl .n)) (.r rfl rfl rfl .n) rfl rfl rfl)
           ·refine .v rfl (met rfl rfl rfl g44) (O.fld fld136_2 rfl rfl rfl) ?_; refine .v rfl (met rfl rfl rfl g44) (O.ld (y := .i ((x0.asmsg_Reset).Rate)) ty3 rfl rfl rfl) ?_; refine .v rfl (met rfl rfl rfl g44) (OpL.binI rfl rfl rfl rfl) ?_; refine .v rfl rfl (O.pickF g44 rfl rfl rfl) ?_; refine .nil ?_; exact toN (Gives.mkR [] (.r rfl rfl (.c rfl (sbb (by first | (simp only [g42, g43, g44, BL]; done) | (repeat (first | rw [g42] | rw [g43] | rw [g44])) <;> simp only [BL])) rfl .n)) (.r rfl rfl rfl .n) rfl rfl rfl)
       ·have h := ifF q41 h; refine W.skip ?_; refine W.seq ?_; refine W.pk ?_; refine .a rfl rfl rfl rfl ?_; refine .nil ?_; refine W.ret ?_; cases h; exact leaves (.inr rfl) rfl (.imm _) (cN .nil) rfl rfl

noncomputable def msg_Check.f (x0 : msg_Message) : Option (Int) :=
  if (x0.ismsg_Join) = true then
    (name_Check.f ((x0.asmsg_Join).Name)).bind fun t2 =>
    (msg_member.f ((x0.asmsg_Join).Member)).bind fun t4 =>
    if t4 = true then
      some t2.2
    else
      some 1
  else
    if (x0.ismsg_List) = true then
      (isin_Asset.f ((x0.asmsg_List).Asset)).bind fun t8 =>
      some t8
    else
      if (x0.ismsg_Rules) = true then
        (msg_Basket.f ((x0.asmsg_Rules).Basket)).bind fun t11 =>
        some t11
      else
        if (x0.ismsg_Prices) = true then
          (msg_prices.f ((x0.asmsg_Prices).L)).bind fun t14 =>
          some t14
        else
          if (x0.ismsg_Roll) = true then
            (calendar_Good.f ((x0.asmsg_Roll).Day)).bind fun t17 =>
            (msg_arg.f t17 10).bind fun t19 =>
            some t19
          else
            if (x0.ismsg_Cash) = true then
              (isin_Currency.f ((x0.asmsg_Cash).Currency)).bind fun t22 =>
              if (!t22) = true then
                some 11
              else
                (msg_member.f ((x0.asmsg_Cash).Member)).bind fun t25 =>
                (if t25 = true then msg_amount.f ((x0.asmsg_Cash).Amount) else some default).bind fun t27 =>
                (msg_arg.f (t25 && t27) 1).bind fun t29 =>
                some t29
            else
              if (x0.ismsg_Move) = true then
                (msg_member.f ((x0.asmsg_Move).Member)).bind fun t33 =>
                (if (!t33) = false then msg_amount.f ((x0.asmsg_Move).Qty) else some default).bind fun t35 =>
                if ((!t33) || (!t35)) = true then
                  some 1
                else
                  (isin_Check.f ((x0.asmsg_Move).ISIN)).bind fun t39 =>
                  some t39
              else
                if (x0.ismsg_Offer) = true then
                  (msg_member.f (((x0.asmsg_Offer).Quote).Member)).bind fun t42 =>
                  if (!t42) = true then
                    some 1
                  else
                    (msg_quote.f ((x0.asmsg_Offer).Quote)).bind fun t45 =>
                    some t45
                else
                  (msg_check.f x0).bind fun t47 =>
                  some t47
set_option maxRecDepth 100000 in
set_option maxHeartbeats 4000000 in
theorem msg_Check.ok {x0 : msg_Message} {r : Int} (h : msg_Check.f x0 = some r) : Pm.Spec prog 20 [.imm (msg_Message.enc x0)] (.imm (.val (.int .i64 r))) [none] := by
 unfold msg_Check.f at h; refine Pm.Spec.of_body Try.func20 rfl (by kernel_rfl) (Nat.le_of_ble_eq_true rfl) (Nat.le_of_ble_eq_true rfl) ?_; refine W.ghost (σ' := (mkSt [(0, some (.imm (msg_Message.enc x0)))] [] 1000)) (Gives.entry (.c rfl .n) .n) ?_; refine W.seq ?_; refine W.pk ?_; refine .a rfl rfl rfl rfl ?_; refine .nil ?_; (iterate 2 refine W.seq ?_); refine W.pk ?_; refine .m rfl rfl rfl rfl ?_; refine .nil ?_; refine W.block ?_; refine W.seq ?_; refine W.pk ?_; refine .v rfl rfl (O.asOk (cs := [.i ((x0.asmsg_Join).Member), .s ((x0.asmsg_Join).Name)]) pl49 (msg_Message.atmsg_Join x0) rfl rfl rfl) ?_; (iterate 2 refine .v rfl rfl (OpL.extract rfl rfl rfl) ?_); refine .nil ?_; refine W.cond rfl (fun q1 => ?_) (fun q1 => ?_)
 ·have h := ifT q1 h; refine W.seq ?_; refine W.pk ?_; refine .t rfl rfl (O.alloc z49 rfl) ?_; refine .s rfl rfl (O.st ty49 rfl rfl rfl rfl rfl rfl rfl rfl rfl rfl (all' := [.i ((x0.asmsg_Join).Member), .s ((x0.asmsg_Join).Name)]) rfl) ?_; refine .nil ?_; (iterate 2 refine W.seq ?_); obtain ⟨t2, b3, h⟩ := bnd1 h; refine W.pk ?_; refine .v rfl rfl (O.fld fld49_1 rfl rfl rfl) ?_; refine .v rfl rfl (O.ld (y := .s ((x0.asmsg_Join).Name)) ty9 rfl rfl rfl) ?_; refine .call (.tup [.i t2.1, .i t2.2]) [] 0 (name_Check.ok b3) rfl rfl rfl ca36 rfl rfl (cC (.imm _) .nil) rfl rfl rfl rfl rfl ?_; refine .m rfl rfl rfl rfl ?_; (iterate 2 refine .v rfl rfl (OpL.extract rfl rfl rfl) ?_); (iterate 2 refine .a rfl rfl rfl rfl ?_); refine .nil ?_; refine W.seq ?_; obtain ⟨t4, b5, h⟩ := bnd1 h; refine W.pk ?_; refine .v rfl rfl (O.fld fld49_0 rfl rfl rfl) ?_; refine .v rfl rfl (O.ld (y := .i ((x0.asmsg_Join).Member)) ty3 rfl rfl rfl) ?_; refine .call (.b t4) [] 0 (msg_member.ok b5) rfl rfl rfl ca37 rfl rfl (cC (.imm _) .nil) rfl rfl rfl rfl rfl ?_; refine .nil ?_; refine W.cond rfl (fun q6 => ?_) (fun q6 => ?_)
  ·have h := ifT q6 h; refine W.seq ?_; refine W.pk ?_; refine .m rfl rfl rfl rfl ?_; refine .a rfl rfl rfl rfl ?_; refine .nil ?_; refine W.ret ?_; cases h; exact leaves (.inr rfl) rfl (.imm _) (cN .nil) rfl rfl
  ·have h := ifF q6 h; refine W.skip ?_; refine W.seq ?_; refine W.pk ?_; refine .a rfl rfl rfl rfl ?_; refine .nil ?_; refine W.ret ?_; cases h; exact leaves (.inr rfl) rfl (.imm _) (cN .nil) rfl rfl
 ·have h := ifF q1 h; refine W.seq ?_; refine W.pk ?_; refine .v rfl rfl (O.asOk (cs := [.s (((x0.asmsg_List).Asset).ISIN), .i (((x0.asmsg_List).Asset).Issuer), .i (((x0.asmsg_List).Asset).Rating), .i (((x0.asmsg_List).Asset).Maturity), .s (((x0.asmsg_List).Asset).Currency)]) pl74 (msg_Message.atmsg_List x0) rfl rfl rfl) ?_; (iterate 2 refine .v rfl rfl (OpL.extract rfl rfl rfl) ?_); refine .nil ?_; refine W.cond rfl (fun q7 => ?_) (fun q7 => ?_)
  ·have h := ifT q7 h; refine W.seq ?_; refine W.pk ?_; refine .t rfl rfl (O.alloc z74 rfl) ?_; refine .s rfl rfl (O.st ty74 rfl rfl rfl rfl rfl rfl rfl rfl rfl rfl (all' := [.s (((x0.asmsg_List).Asset).ISIN), .i (((x0.asmsg_List).Asset).Issuer), .i (((x0.asmsg_List).Asset).Rating), .i (((x0.asmsg_List).Asset).Maturity), .s (((x0.asmsg_List).Asset).Currency)]) rfl) ?_; refine .nil ?_; refine W.seq ?_; obtain ⟨t8, b9, h⟩ := bnd1 h; refine W.pk ?_; refine .v rfl rfl (O.fld fld74_0 rfl rfl rfl) ?_; refine .v rfl rfl (O.ldN ty72 rfl rfl rfl) ?_; refine .call (.i t8) [] 0 (isin_Asset.ok b9) rfl rfl rfl ca38 rfl rfl (cC (.agg _ _ _ _ (cC (.imm _) (cC (.imm _) (cC (.imm _) (cC (.imm _) (cC (.imm _) .nil)))))) .nil) rfl rfl rfl rfl rfl ?_; refine .a rfl rfl rfl rfl ?_; refine .nil ?_; refine W.ret ?_; cases h; exact leaves (.inr rfl) rfl (.imm _) (cN .nil) rfl rfl
  ·have h := ifF q7 h; refine W.seq ?_; refine W.pk ?_; refine .v rfl rfl (O.asOk (cs := [.i (((x0.asmsg_Rules).Basket).ID), .i (((x0.asmsg_Rules).Basket).Version), .s (((x0.asmsg_Rules).Basket).Currency), .i (((x0.asmsg_Rules).Basket).Rating), .i (((x0.asmsg_Rules).Basket).Least), .i (((x0.asmsg_Rules).Basket).Most), .imm (.row 3 (List.map api_Cut.enc (((x0.asmsg_Rules).Basket).Cuts))), .i (((x0.asmsg_Rules).Basket).Issuer), .i (((x0.asmsg_Rules).Basket).Asset), .imm (.row 1 (List.map (encI .i64) (((x0.asmsg_Rules).Basket).Barred)))]) pl80 (msg_Message.atmsg_Rules x0) rfl rfl rfl) ?_; (iterate 2 refine .v rfl rfl (OpL.extract rfl rfl rfl) ?_); refine .nil ?_; refine W.cond rfl (fun q10 => ?_) (fun q10 => ?_)
   ·have h := ifT q10 h; refine W.seq ?_; refine W.pk ?_; refine .t rfl rfl (O.alloc z80 rfl) ?_; refine .s rfl rfl (O.st ty80 rfl rfl rfl rfl rfl rfl rfl rfl rfl rfl (all' := [.i (((x0.asmsg_Rules).Basket).ID), .i (((x0.asmsg_Rules).Basket).Version), .s (((x0.asmsg_Rules).Basket).Currency), .i (((x0.asmsg_Rules).Basket).Rating), .i (((x0.asmsg_Rules).Basket).Least), .i (((x0.asmsg_Rules).Basket).Most), .imm (.row 3 (List.map api_Cut.enc (((x0.asmsg_Rules).Basket).Cuts))), .i (((x0.asmsg_Rules).Basket).Issuer), .i (((x0.asmsg_Rules).Basket).Asset), .imm (.row 1 (List.map (encI .i64) (((x0.asmsg_Rules).Basket).Barred)))]) rfl) ?_; refine .nil ?_; refine W.seq ?_; obtain ⟨t11, b12, h⟩ := bnd1 h; refine W.pk ?_; refine .v rfl rfl (O.fld fld80_0 rfl rfl rfl) ?_; refine .v rfl rfl (O.ldN ty78 rfl rfl rfl) ?_; refine .call (.i t11) [] 0 (msg_Basket.ok b12) rfl rfl rfl ca39 rfl rfl (cC (.agg _ _ _ _ (cC (.imm _) (cC (.imm _) (cC (.imm _) (cC (.imm _) (cC (.imm _) (cC (.imm _) (cC (.imm _) (cC (.imm _) (cC (.imm _) (cC (.imm _) .nil))))))))))) .nil) rfl rfl rfl rfl rfl ?_; refine .a rfl rfl rfl rfl ?_; refine .nil ?_; refine W.ret ?_; cases h; exact leaves (.inr rfl) rfl (.imm _) (cN .nil) rfl rfl
   ·have h := ifF q10 h; refine W.seq ?_; refine W.pk ?_; refine .v rfl rfl (O.asOk (cs := [.imm (.row 2 (List.map api_Price.enc ((x0.asmsg_Prices).L)))]) pl84 (msg_Message.atmsg_Prices x0) rfl rfl rfl) ?_; (iterate 2 refine .v rfl rfl (OpL.extract rfl rfl rfl) ?_); refine .nil ?_; refine W.cond rfl (fun q13 => ?_) (fun q13 => ?_)
    ·have h := ifT q13 h; refine W.seq ?_; refine W.pk ?_; refine .t rfl rfl (O.alloc z84 rfl) ?_; refine .s rfl rfl (O.st ty84 rfl rfl rfl rfl rfl rfl rfl rfl rfl rfl (all' := [.imm (.row 2 (List.map api_Price.enc ((x0.asmsg_Prices).L)))]) rfl) ?_; refine .nil ?_; refine W.seq ?_; obtain ⟨t14, b15, h⟩ := bnd1 h; refine W.pk ?_; refine .v rfl rfl (O.fld fld84_0 rfl rfl rfl) ?_; refine .v rfl rfl (O.ld (y := .imm (.row 2 (List.map api_Price.enc ((x0.asmsg_Prices).L)))) ty82 rfl rfl rfl) ?_; refine .call (.i t14) [] 0 (msg_prices.ok b15) rfl rfl rfl ca40 rfl rfl (cC (.imm _) .nil) rfl rfl rfl rfl rfl ?_; refine .a rfl rfl rfl rfl ?_; refine .nil ?_; refine W.ret ?_; cases h; exact leaves (.inr rfl) rfl (.imm _) (cN .nil) rfl rfl
    ·have h := ifF q13 h; refine W.seq ?_; refine W.pk ?_; refine .v rfl rfl (O.asOk (cs := [.i ((x0.asmsg_Roll).Day)]) pl87 (msg_Message.atmsg_Roll x0) rfl rfl rfl) ?_; (iterate 2 refine .v rfl rfl (OpL.extract rfl rfl rfl) ?_); refine .nil ?_; refine W.cond rfl (fun q16 => ?_) (fun q16 => ?_)
     ·have h := ifT q16 h; refine W.seq ?_; refine W.pk ?_; refine .t rfl rfl (O.alloc z87 rfl) ?_; refine .s rfl rfl (O.st ty87 rfl rfl rfl rfl rfl rfl rfl rfl rfl rfl (all' := [.i ((x0.asmsg_Roll).Day)]) rfl) ?_; refine .nil ?_; refine W.seq ?_; obtain ⟨t17, b18, h⟩ := bnd1 h; obtain ⟨t19, b20, h⟩ := bnd1 h; refine W.pk ?_; refine .v rfl rfl (O.fld fld87_0 rfl rfl rfl) ?_; refine .v rfl rfl (O.ld (y := .i ((x0.asmsg_Roll).Day)) ty3 rfl rfl rfl) ?_; refine .call (.b t17) [] 0 (calendar_Good.ok b18) rfl rfl rfl ca42 rfl rfl (cC (.imm _) .nil) rfl rfl rfl rfl rfl ?_; refine .call (.i t19) [] 0 (msg_arg.ok b20) rfl rfl rfl ca41 rfl rfl (cC (.imm _) (cC (.imm _) .nil)) rfl rfl rfl rfl rfl ?_; refine .a rfl rfl rfl rfl ?_; refine .nil ?_; refine W.ret ?_; cases h; exact leaves (.inr rfl) rfl (.imm _) (cN .nil) rfl rfl
     ·have h := ifF q16 h; refine W.seq ?_; refine W.pk ?_; refine .v rfl rfl (O.asOk (cs := [.i ((x0.asmsg_Cash).Member), .s ((x0.asmsg_Cash).Currency), .i ((x0.asmsg_Cash).Amount)]) pl90 (msg_Message.atmsg_Cash x0) rfl rfl rfl) ?_; (iterate 2 refine .v rfl rfl (OpL.extract rfl rfl rfl) ?_); refine .nil ?_; refine W.cond rfl (fun q21 => ?_) (fun q21 => ?_)
      ·have h := ifT q21 h; refine W.seq ?_; refine W.pk ?_; refine .t rfl rfl (O.alloc z90 rfl) ?_; refine .s rfl rfl (O.st ty90 rfl rfl rfl rfl rfl rfl rfl rfl rfl rfl (all' := [.i ((x0.asmsg_Cash).Member), .s ((x0.asmsg_Cash).Currency), .i ((x0.asmsg_Cash).Amount)]) rfl) ?_; refine .nil ?_; (iterate 2 refine W.seq ?_); obtain ⟨t22, b23, h⟩ := bnd1 h; refine W.pk ?_; refine .v rfl rfl (O.fld fld90_1 rfl rfl rfl) ?_; refine .v rfl rfl (O.ld (y := .s ((x0.asmsg_Cash).Currency)) ty9 rfl rfl rfl) ?_; refine .call (.b t22) [] 0 (isin_Currency.ok b23) rfl rfl rfl ca43 rfl rfl (cC (.imm _) .nil) rfl rfl rfl rfl rfl ?_; refine .v rfl rfl (OpL.unV rfl rfl rfl) ?_; refine .nil ?_; refine W.cond rfl (fun q24 => ?_) (fun q24 => ?_)
       ·have h := ifT q24 h; refine W.seq ?_; refine W.pk ?_; refine .a rfl rfl rfl rfl ?_; refine .nil ?_; refine W.ret ?_; cases h; exact leaves (.inr rfl) rfl (.imm _) (cN .nil) rfl rfl
       ·have h := ifF q24 h; refine W.skip ?_; refine W.seq ?_; obtain ⟨t25, b26, h⟩ := bnd1 h; obtain ⟨t27, b28, h⟩ := bnd1 h; obtain ⟨t29, b30, h⟩ := bnd1 h; refine W.fork (mkSt [(2, some (.i t29))] [] 1001) ?_ ?_
        ·refine W.ret ?_; cases h; exact leaves (.inr rfl) rfl (.imm _) (cN .nil) rfl rfl
        ·clear h; refine W.pk ?_; refine .v rfl rfl (O.fld fld90_0 rfl rfl rfl) ?_; refine .v rfl rfl (O.ld (y := .i ((x0.asmsg_Cash).Member)) ty3 rfl rfl rfl) ?_; refine .call (.b t25) [] 0 (msg_member.ok b26) rfl rfl rfl ca37 rfl rfl (cC (.imm _) .nil) rfl rfl rfl rfl rfl ?_; refine .m rfl rfl rfl rfl ?_; rcases tf t25 with g31 | g31
         ·refine .v rfl (met rfl rfl rfl g31) (O.fld fld90_2 rfl rfl rfl) ?_; refine .v rfl (met rfl rfl rfl g31) (O.ld (y := .i ((x0.asmsg_Cash).Amount)) ty3 rfl rfl rfl) ?_; refine .call (.b t27) [] 0 (msg_amount.ok ((if_pos (by simp only [g31, BL])).symm.trans b28)) rfl (met rfl rfl rfl g31) rfl ca44 rfl rfl (cC (.imm _) .nil) rfl rfl rfl rfl rfl ?_; refine .v rfl rfl (O.pickT g31 rfl rfl rfl) ?_; refine .call (.i t29) [] 0 (msg_arg.ok ((show msg_arg.f t27 1 = msg_arg.f (t25 && t27) 1 from by simp only [g31, BL]).trans b30)) rfl rfl rfl ca41 rfl rfl (cC (.imm _) (cC (.imm _) .nil)) rfl rfl rfl rfl rfl ?_; refine .a rfl rfl rfl rfl ?_; refine .nil ?_; exact toN (Gives.mkR [] (.r rfl rfl .n) .n rfl rfl rfl)
         ·(iterate 3 refine .x rfl (unmet rfl rfl rfl g31) ?_); refine .v rfl rfl (O.pickF g31 rfl rfl rfl) ?_; refine .call (.i t29) [] 0 (msg_arg.ok ((show msg_arg.f false 1 = msg_arg.f (t25 && t27) 1 from by simp only [g31, BL]).trans b30)) rfl rfl rfl ca41 rfl rfl (cC (.imm _) (cC (.imm _) .nil)) rfl rfl rfl rfl rfl ?_; refine .a rfl rfl rfl rfl ?_; refine .nil ?_; exact toN (Gives.mkR [] (.r rfl rfl .n) .n rfl rfl rfl)
      ·have h := ifF q21 h; refine W.seq ?_; refine W.pk ?_; refine .v rfl rfl (O.asOk (cs := [.i ((x0.asmsg_Move).Member), .s ((x0.asmsg_Move).ISIN), .i ((x0.asmsg_Move).Qty)]) pl93 (msg_Message.atmsg_Move x0) rfl rfl rfl) ?_; (iterate 2 refine .v rfl rfl (OpL.extract rfl rfl rfl) ?_); refine .nil ?_; refine W.cond rfl (fun q32 => ?_) (fun q32 => ?_)
       ·have h := ifT q32 h; refine W.seq ?_; refine W.pk ?_; refine .t rfl rfl (O.alloc z93 rfl) ?_; refine .s rfl rfl (O.st ty93 rfl rfl rfl rfl rfl rfl rfl rfl rfl rfl (all' := [.i ((x0.asmsg_Move).Member), .s ((x0.asmsg_Move).ISIN), .i ((x0.asmsg_Move).Qty)]) rfl) ?_; refine .nil ?_; (iterate 2 refine W.seq ?_); obtain ⟨t33, b34, h⟩ := bnd1 h; obtain ⟨t35, b36, h⟩ := bnd1 h; refine W.fork (mkSt [(11, some (.ptr 1000 0)), (80, some (.b ((!t33) || (!t35))))] [(1000, some (.box [.i ((x0.asmsg_Move).Member), .s ((x0.asmsg_Move).ISIN), .i ((x0.asmsg_Move).Qty)]))] 1001) ?_ ?_
        ·refine W.cond rfl (fun q38 => ?_) (fun q38 => ?_)
         ·have h := ifT q38 h; refine W.seq ?_; refine W.pk ?_; refine .a rfl rfl rfl rfl ?_; refine .nil ?_; refine W.ret ?_; cases h; exact leaves (.inr rfl) rfl (.imm _) (cN .nil) rfl rfl
         ·have h := ifF q38 h; refine W.skip ?_; refine W.seq ?_; obtain ⟨t39, b40, h⟩ := bnd1 h; refine W.pk ?_; refine .v rfl rfl (O.fld fld93_1 rfl rfl rfl) ?_; refine .v rfl rfl (O.ld (y := .s ((x0.asmsg_Move).ISIN)) ty9 rfl rfl rfl) ?_; refine .call (.i t39) [] 0 (isin_Check.ok b40) rfl rfl rfl ca45 rfl rfl (cC (.imm _) .nil) rfl rfl rfl rfl rfl ?_; refine .a rfl rfl rfl rfl ?_; refine .nil ?_; refine W.ret ?_; cases h; exact leaves (.inr rfl) rfl (.imm _) (cN .nil) rfl rfl
        ·clear h; refine W.pk ?_; refine .v rfl rfl (O.fld fld93_0 rfl rfl rfl) ?_; refine .v rfl rfl (O.ld (y := .i ((x0.asmsg_Move).Member)) ty3 rfl rfl rfl) ?_; refine .call (.b t33) [] 0 (msg_member.ok b34) rfl rfl rfl ca37 rfl rfl (cC (.imm _) .nil) rfl rfl rfl rfl rfl ?_; refine .v rfl rfl (OpL.unV rfl rfl rfl) ?_; refine .m rfl rfl rfl rfl ?_; rcases tf t33 with g37 | g37
         ·refine .v rfl (met rfl rfl rfl (notT g37)) (O.fld fld93_2 rfl rfl rfl) ?_; refine .v rfl (met rfl rfl rfl (notT g37)) (O.ld (y := .i ((x0.asmsg_Move).Qty)) ty3 rfl rfl rfl) ?_; refine .call (.b t35) [] 0 (msg_amount.ok ((if_pos (by simp only [g37, BL])).symm.trans b36)) rfl (met rfl rfl rfl (notT g37)) rfl ca44 rfl rfl (cC (.imm _) .nil) rfl rfl rfl rfl rfl ?_; refine .v rfl (met rfl rfl rfl (notT g37)) (OpL.unV rfl rfl rfl) ?_; refine .v rfl rfl (O.pickF (notT g37) rfl rfl rfl) ?_; refine .nil ?_; exact toN (Gives.mkR [] (.r rfl rfl (.c rfl (sbb (by simp only [g37, BL])) rfl .n)) (.r rfl rfl rfl .n) rfl rfl rfl)
         ·(iterate 4 refine .x rfl (unmet rfl rfl rfl (notF g37)) ?_); refine .v rfl rfl (O.pickT (notF g37) rfl rfl rfl) ?_; refine .nil ?_; exact toN (Gives.mkR [] (.r rfl rfl (.c rfl (sbb (by simp only [g37, BL])) rfl .n)) (.r rfl rfl rfl .n) rfl rfl rfl)
       ·have h := ifF q32 h; refine W.seq ?_; refine W.pk ?_; refine .v rfl rfl (O.asOk (cs := [.i (((x0.asmsg_Offer).Quote).ID), .i (((x0.asmsg_Offer).Quote).Member), .i (((x0.asmsg_Offer).Quote).Side), .i (((x0.asmsg_Offer).Quote).Basket), .i (((x0.asmsg_Offer).Quote).Amount), .i (((x0.asmsg_Offer).Quote).Rate), .i (((x0.asmsg_Offer).Quote).Start), .i (((x0.asmsg_Offer).Quote).End)]) pl63 (msg_Message.atmsg_Offer x0) rfl rfl rfl) ?_; (iterate 2 refine .v rfl rfl (OpL.extract rfl rfl rfl) ?_); refine .nil ?_; refine W.cond rfl (fun q41 => ?_) (fun q41 => ?_)
        ·have h := ifT q41 h; refine W.seq ?_; refine W.pk ?_; refine .t rfl rfl (O.alloc z63 rfl) ?_; refine .s rfl rfl (O.st ty63 rfl rfl rfl rfl rfl rfl rfl rfl rfl rfl (all' := [.i (((x0.asmsg_Offer).Quote).ID), .i (((x0.asmsg_Offer).Quote).Member), .i (((x0.asmsg_Offer).Quote).Side), .i (((x0.asmsg_Offer).Quote).Basket), .i (((x0.asmsg_Offer).Quote).Amount), .i (((x0.asmsg_Offer).Quote).Rate), .i (((x0.asmsg_Offer).Quote).Start), .i (((x0.asmsg_Offer).Quote).End)]) rfl) ?_; refine .nil ?_; (iterate 2 refine W.seq ?_); obtain ⟨t42, b43, h⟩ := bnd1 h; refine W.pk ?_; refine .v rfl rfl (O.fld fld63_0 rfl rfl rfl) ?_; refine .v rfl rfl (O.fld fld61_1 rfl rfl rfl) ?_; refine .v rfl rfl (O.ld (y := .i (((x0.asmsg_Offer).Quote).Member)) ty3 rfl rfl rfl) ?_; refine .call (.b t42) [] 0 (msg_member.ok b43) rfl rfl rfl ca37 rfl rfl (cC (.imm _) .nil) rfl rfl rfl rfl rfl ?_; refine .v rfl rfl (OpL.unV rfl rfl rfl) ?_; refine .nil ?_; refine W.cond rfl (fun q44 => ?_) (fun q44 => ?_)
         ·have h := ifT q44 h; refine W.seq ?_; refine W.pk ?_; refine .a rfl rfl rfl rfl ?_; refine .nil ?_; refine W.ret ?_; cases h; exact leaves (.inr rfl) rfl (.imm _) (cN .nil) rfl rfl
         ·have h := ifF q44 h; refine W.skip ?_; refine W.seq ?_; obtain ⟨t45, b46, h⟩ := bnd1 h; refine W.pk ?_; refine .v rfl rfl (O.fld fld63_0 rfl rfl rfl) ?_; refine .v rfl rfl (O.ldN ty61 rfl rfl rfl) ?_; refine .call (.i t45) [] 0 (msg_quote.ok b46) rfl rfl rfl ca46 rfl rfl (cC (.agg _ _ _ _ (cC (.imm _) (cC (.imm _) (cC (.imm _) (cC (.imm _) (cC (.imm _) (cC (.imm _) (cC (.imm _) (cC (.imm _) .nil))))))))) .nil) rfl rfl rfl rfl rfl ?_; refine .a rfl rfl rfl rfl ?_; refine .nil ?_; refine W.ret ?_; cases h; exact leaves (.inr rfl) rfl (.imm _) (cN .nil) rfl rfl
        ·have h := ifF q41 h; refine W.skip ?_; refine W.seq ?_; obtain ⟨t47, b48, h⟩ := bnd1 h; refine W.pk ?_; refine .m rfl rfl rfl rfl ?_; refine .call (.i t47) [] 0 (msg_check.ok b48) rfl rfl rfl ca47 rfl rfl (cC (.imm _) .nil) rfl rfl rfl rfl rfl ?_; refine .a rfl rfl rfl rfl ?_; refine .nil ?_; refine W.ret ?_; cases h; exact leaves (.inr rfl) rfl (.imm _) (cN .nil) rfl rfl

noncomputable def auth_List_Join_1_v2.f (x0 : auth_Member) (x1 : Bs) : Option (Bool) :=
  (name_Same.f x0.Name x1).bind fun t1 =>
  some t1
set_option maxRecDepth 100000 in
set_option maxHeartbeats 4000000 in
theorem auth_List_Join_1_v2.ok {x0 : auth_Member} {x1 : Bs} {r : Bool} (h : auth_List_Join_1_v2.f x0 x1 = some r) : Pm.Spec prog 22 [.agg [.imm (.val (.int .i64 x0.ID)), .imm (.val (.string (tx x0.Name))), .imm (.val (.int .i64 x0.State)), .imm (.val (.int .i64 x0.Bound)), .imm (.val (.bool x0.Late))], .xbox [.imm (.val (.string (tx x1)))]] (.imm (.val (.bool r))) [none, some (.xbox [.imm (.val (.string (tx x1)))])] := by
 unfold auth_List_Join_1_v2.f at h; refine Pm.Spec.of_body Try.func22 rfl (by kernel_rfl) (Nat.le_of_ble_eq_true rfl) (Nat.le_of_ble_eq_true rfl) ?_; refine W.ghost (σ' := (mkSt [(0, some (.agg (auth_Member.av x0))), (1, some (.ptr 0 0))] [(0, some (.box [.s x1]))] 1000)) (Gives.entry (.c rfl (.c rfl .n)) (.c rfl .n)) ?_; refine W.seq ?_; refine W.pk ?_; refine .t rfl rfl (O.box rfl rfl rfl rfl rfl) ?_; refine .a rfl rfl rfl rfl ?_; refine .nil ?_; refine W.seq ?_; obtain ⟨t1, b2, h⟩ := bnd1 h; refine W.pk ?_; refine .v rfl rfl (O.fld fld28_1 rfl rfl rfl) ?_; refine .v rfl rfl (O.ld (y := .s x0.Name) ty9 rfl rfl rfl) ?_; refine .v rfl rfl (O.ld (y := .s x1) ty9 rfl rfl rfl) ?_; refine .call (.b t1) [] 0 (name_Same.ok b2) rfl rfl rfl ca19 rfl rfl (cC (.imm _) (cC (.imm _) .nil)) rfl rfl rfl rfl rfl ?_; refine .a rfl rfl rfl rfl ?_; refine .nil ?_; refine W.ret ?_; cases h; exact leaves (.inr rfl) rfl (.imm _) (cN (cS (.ptr _ _ _ _ _ rfl (cC (.imm _) .nil)) .nil)) rfl rfl

noncomputable def slices_IndexFunc_auth_Member__auth_List_Join_1.b0 (x0 : List auth_Member) (x1c0 : Bs) (v6 : Int) : Option (Int ⊕ (Int ⊕ Unit)) :=
  if (decide (v6 < (List.length x0 : Int))) = true then
    if (0 : Int) ≤ v6 ∧ v6 < (List.length x0 : Int) then
    (auth_List_Join_1_v2.f (nth x0 v6) x1c0).bind fun t23 =>
    if t23 = true then
      some (.inr (.inl v6))
    else
      some (.inl (IntKind.wrap .i64 (v6 + 1)))
    else none
  else
    some (.inr (.inr ()))
noncomputable def slices_IndexFunc_auth_Member__auth_List_Join_1.r0 (x0 : List auth_Member) (x1c0 : Bs) (s : Int) : Option (Int ⊕ (Int ⊕ Unit)) := slices_IndexFunc_auth_Member__auth_List_Join_1.b0 x0 x1c0 s
noncomputable def slices_IndexFunc_auth_Member__auth_List_Join_1.f (x0 : List auth_Member) (x1c0 : Bs) : Option (Int) :=
  (loop (slices_IndexFunc_auth_Member__auth_List_Join_1.r0 x0 x1c0) 0).bind fun o18 =>
  match o18 with
  | .inl r26 => some r26
  | .inr w17 =>
    some (-1)
set_option maxRecDepth 100000 in
set_option maxHeartbeats 4000000 in
theorem slices_IndexFunc_auth_Member__auth_List_Join_1.ok {x0 : List auth_Member} {x1c0 : Bs} {r : Int} (h : slices_IndexFunc_auth_Member__auth_List_Join_1.f x0 x1c0 = some r) : Pm.Spec prog 48 [.imm (.row 5 (List.map auth_Member.enc x0)), .fn 22 [.xbox [.imm (.val (.string (tx x1c0)))]]] (.imm (.val (.int .i64 r))) [none, some (.fn 22 [.xbox [.imm (.val (.string (tx x1c0)))]])] := by
 unfold slices_IndexFunc_auth_Member__auth_List_Join_1.f at h; refine Pm.Spec.of_body Try.func48 rfl (by kernel_rfl) (Nat.le_of_ble_eq_true rfl) (Nat.le_of_ble_eq_true rfl) ?_; refine W.ghost (σ' := (mkSt [(0, some (.imm (.row 5 (List.map auth_Member.enc x0)))), (1, some (.fn 22 [.ptr 0 0]))] [(0, some (.box [.s x1c0]))] 1000)) (Gives.entry (.c rfl (.c rfl .n)) (.c rfl .n)) ?_; refine W.seq ?_; refine W.pk ?_; refine .a rfl rfl rfl rfl ?_; refine .nil ?_; (iterate 2 refine W.seq ?_); refine W.pk ?_; refine .m rfl rfl rfl rfl ?_; refine .v rfl rfl (O.lenR sl23 rfl rfl) ?_; refine .m rfl rfl rfl rfl ?_; refine .nil ?_; obtain ⟨o18, b19, z20⟩ := bnd1 h; refine W.fork2 (out := o18) (fun (w17 : Unit) => mkSt [] [(0, some (.box [.s x1c0]))] 1000) ?_ ?_
 ·clear h; refine W.block ?_; refine W.loopF (fun (s_ : Int) => mkSt [(0, some (.imm (.row 5 (List.map auth_Member.enc x0)))), (1, some (.fn 22 [.ptr 0 0])), (7, some (.i (List.length x0 : Int))), (8, some (.i s_))] [(0, some (.box [.s x1c0]))] 1000) b19 (Gives.mkR [] (.e rfl rfl) (.r rfl rfl rfl .n) rfl rfl rfl) ?_; rintro v6 s_ hr; have h : slices_IndexFunc_auth_Member__auth_List_Join_1.b0 x0 x1c0 v6 = some s_ := hr; unfold slices_IndexFunc_auth_Member__auth_List_Join_1.b0 at h; refine W.seq ?_; refine W.pk ?_; refine .v rfl rfl (OpL.binI rfl rfl rfl rfl) ?_; refine .nil ?_; refine W.seq ?_; refine W.cond rfl (fun q21 => ?_) (fun q21 => ?_)
  ·have h := ifT q21 h; refine W.skip ?_; refine W.seq ?_; refine W.block ?_; refine W.seq ?_; refine W.pk ?_; refine .m rfl rfl rfl rfl ?_; refine .a rfl rfl rfl rfl ?_; refine .nil ?_; refine W.seq ?_; obtain ⟨c22, h⟩ := chk h; obtain ⟨t23, b24, h⟩ := bnd1 h; refine W.pk ?_; (iterate 3 refine .m rfl rfl rfl rfl ?_); refine .v rfl rfl (O.idx sl23 c22 rfl rfl rfl) ?_; refine .v rfl rfl (O.ldN ty28 rfl rfl rfl) ?_; refine .call (.b t23) [(0, some (.box [.s x1c0])), (0, none)] 0 (auth_List_Join_1_v2.ok b24) rfl rfl rfl ca22 rfl rfl (cC (.agg _ _ _ _ (cC (.imm _) (cC (.imm _) (cC (.imm _) (cC (.imm _) (cC (.imm _) .nil)))))) (cC (.ptr _ _ _ _ _ rfl (cC (.imm _) .nil)) .nil)) rfl rfl rfl rfl rfl ?_; refine .nil ?_; refine W.cond rfl (fun q25 => ?_) (fun q25 => ?_)
   ·have h := ifT q25 h; refine W.seq ?_; refine W.pk ?_; refine .m rfl rfl rfl rfl ?_; refine .a rfl rfl rfl rfl ?_; refine .nil ?_; refine W.ret ?_; cases h; refine rdR fun e_ => ?_; subst e_; have h := z20; dsimp only at h; refine fkR ?_; cases h; exact leaves (.inr rfl) rfl (.imm _) (cN (cS (.fn _ _ _ _ _ (cC (.ptr _ _ _ _ _ rfl (cC (.imm _) .nil)) .nil)) .nil)) rfl rfl
   ·have h := ifF q25 h; refine W.skip ?_; refine W.pk ?_; refine .v rfl rfl (OpL.binI rfl rfl rfl rfl) ?_; refine .m rfl rfl rfl rfl ?_; refine .nil ?_; cases h; exact rdN (Gives.mkR [] (.e rfl rfl) (.r rfl rfl rfl .n) rfl rfl rfl)
  ·have h := ifF q21 h; refine W.exit ?_; cases h; refine rdX fun e_ => ?_; subst e_; (repeat with_reducible refine thru ?_); refine hit ?_; exact fkN (Gives.mkR [] .n (.r rfl rfl rfl .n) rfl rfl rfl)
 ·intro w17 e_; subst e_; clear h; have h := z20; dsimp only at h; refine W.seq ?_; refine W.pk ?_; refine .a rfl rfl rfl rfl ?_; refine .nil ?_; refine W.ret ?_; cases h; exact leaves (.inr rfl) rfl (.imm _) (cN (cS (.fn _ _ _ _ _ (cC (.ptr _ _ _ _ _ rfl (cC (.imm _) .nil)) .nil)) .nil)) rfl rfl

noncomputable def slices_ContainsFunc_auth_Member__auth_List_Join_1.f (x0 : List auth_Member) (x1c0 : Bs) : Option (Bool) :=
  (slices_IndexFunc_auth_Member__auth_List_Join_1.f x0 x1c0).bind fun t1 =>
  some (decide (t1 ≥ 0))
set_option maxRecDepth 100000 in
set_option maxHeartbeats 4000000 in
theorem slices_ContainsFunc_auth_Member__auth_List_Join_1.ok {x0 : List auth_Member} {x1c0 : Bs} {r : Bool} (h : slices_ContainsFunc_auth_Member__auth_List_Join_1.f x0 x1c0 = some r) : Pm.Spec prog 21 [.imm (.row 5 (List.map auth_Member.enc x0)), .fn 22 [.xbox [.imm (.val (.string (tx x1c0)))]]] (.imm (.val (.bool r))) [none, some (.fn 22 [.xbox [.imm (.val (.string (tx x1c0)))]])] := by
 unfold slices_ContainsFunc_auth_Member__auth_List_Join_1.f at h; refine Pm.Spec.of_body Try.func21 rfl (by kernel_rfl) (Nat.le_of_ble_eq_true rfl) (Nat.le_of_ble_eq_true rfl) ?_; refine W.ghost (σ' := (mkSt [(0, some (.imm (.row 5 (List.map auth_Member.enc x0)))), (1, some (.fn 22 [.ptr 0 0]))] [(0, some (.box [.s x1c0]))] 1000)) (Gives.entry (.c rfl (.c rfl .n)) (.c rfl .n)) ?_; refine W.seq ?_; refine W.pk ?_; refine .a rfl rfl rfl rfl ?_; refine .nil ?_; refine W.seq ?_; obtain ⟨t1, b2, h⟩ := bnd1 h; refine W.pk ?_; (iterate 2 refine .m rfl rfl rfl rfl ?_); refine .call (.i t1) [(0, some (.box [.s x1c0])), (0, none)] 0 (slices_IndexFunc_auth_Member__auth_List_Join_1.ok b2) rfl rfl rfl ca48 rfl rfl (cC (.imm _) (cC (.fn _ _ _ _ _ (cC (.ptr _ _ _ _ _ rfl (cC (.imm _) .nil)) .nil)) .nil)) rfl rfl rfl rfl rfl ?_; refine .v rfl rfl (OpL.binI rfl rfl rfl rfl) ?_; refine .a rfl rfl rfl rfl ?_; refine .nil ?_; refine W.ret ?_; cases h; exact leaves (.inr rfl) rfl (.imm _) (cN (cS (.fn _ _ _ _ _ (cC (.ptr _ _ _ _ _ rfl (cC (.imm _) .nil)) .nil)) .nil)) rfl rfl

noncomputable def auth_List_Join_v2.f (x0 : auth_List) (x1 : Int) (x2 : Bs) : Option (Int) :=
  if (!x0.made) = true then
    some 3
  else
    (msg_Check.f (msg_Message.cmsg_Join (⟨x1, x2⟩ : msg_Join))).bind fun t2 =>
    if (t2 != 0) = true then
      some t2
    else
      (auth_List_place.f x0 x1).bind fun t5 =>
      (if t5.2 = false then slices_ContainsFunc_auth_Member__auth_List_Join_1.f x0.l x2 else some default).bind fun t7 =>
      if (t5.2 || t7) = true then
        some 7
      else
        none
set_option maxRecDepth 100000 in
set_option maxHeartbeats 4000000 in
theorem auth_List_Join_v2.ok {x0 : auth_List} {x1 : Int} {x2 : Bs} {r : Int} (h : auth_List_Join_v2.f x0 x1 x2 = some r) : Pm.Spec prog 6 [.imm (.fp (auth_List.enc x0)), .imm (.val (.int .i64 x1)), .imm (.val (.string (tx x2)))] (.imm (.val (.int .i64 r))) [none, none, none] := by
 unfold auth_List_Join_v2.f at h; refine Pm.Spec.of_body Try.func6 rfl (by kernel_rfl) (Nat.le_of_ble_eq_true rfl) (Nat.le_of_ble_eq_true rfl) ?_; refine W.ghost (σ' := (mkSt [(0, some (.imm (.fp (auth_List.enc x0)))), (1, some (.i x1)), (2, some (.s x2))] [] 1000)) (Gives.entry (.c rfl (.c rfl (.c rfl .n))) .n) ?_; refine W.seq ?_; refine W.pk ?_; refine .t rfl rfl (O.box rfl rfl rfl rfl rfl) ?_; refine .a rfl rfl rfl rfl ?_; refine .nil ?_; (iterate 2 refine W.seq ?_); refine W.pk ?_; refine .m rfl rfl rfl rfl ?_; refine .v rfl rfl (OpL.eqP rfl u22 rfl rfl rfl) ?_; refine .m rfl rfl rfl rfl ?_; refine .m rfl (met rfl rfl rfl rfl) rfl rfl ?_; refine .v rfl (met rfl rfl rfl rfl) (OpL.nilP rfl rfl rfl) ?_; refine .v rfl (met rfl rfl rfl rfl) (O.fld fld25_1 rfl rfl rfl) ?_; refine .v rfl (met rfl rfl rfl rfl) (O.ld (y := .b x0.made) ty4 rfl rfl rfl) ?_; refine .v rfl (met rfl rfl rfl rfl) (OpL.unV rfl rfl rfl) ?_; refine .v rfl rfl (O.pickF rfl rfl rfl rfl) ?_; refine .nil ?_; refine W.cond rfl (fun q1 => ?_) (fun q1 => ?_)
 ·have h := ifT q1 h; refine W.seq ?_; refine W.pk ?_; refine .a rfl rfl rfl rfl ?_; refine .nil ?_; refine W.ret ?_; cases h; exact leaves (.inr rfl) rfl (.imm _) (cN (cN (cN .nil))) rfl rfl
 ·have h := ifF q1 h; refine W.skip ?_; (iterate 2 refine W.seq ?_); obtain ⟨t2, b3, h⟩ := bnd1 h; refine W.pk ?_; refine .m rfl rfl rfl rfl ?_; refine .v rfl rfl (O.ld (y := .s x2) ty9 rfl rfl rfl) ?_; refine .v rfl rfl (O.build (out := [.i x1, .s x2]) bl49 rfl rfl rfl rfl (by kernel_rfl)) ?_; refine .v rfl rfl (O.mkIfc cn49 rfl rfl rfl) ?_; refine .call (.i t2) [] 0 (msg_Check.ok b3) rfl rfl rfl ca20 rfl rfl (cC (.imm _) .nil) rfl rfl rfl rfl rfl ?_; refine .a rfl rfl rfl rfl ?_; refine .nil ?_; refine W.seq ?_; refine W.pk ?_; refine .m rfl rfl rfl rfl ?_; refine .v rfl rfl (OpL.binI rfl rfl rfl rfl) ?_; refine .nil ?_; refine W.cond rfl (fun q4 => ?_) (fun q4 => ?_)
  ·have h := ifT q4 h; refine W.seq ?_; refine W.pk ?_; refine .m rfl rfl rfl rfl ?_; refine .a rfl rfl rfl rfl ?_; refine .nil ?_; refine W.ret ?_; cases h; exact leaves (.inr rfl) rfl (.imm _) (cN (cN (cN .nil))) rfl rfl
  ·have h := ifF q4 h; refine W.skip ?_; refine W.seq ?_; obtain ⟨t5, b6, h⟩ := bnd1 h; refine W.pk ?_; (iterate 2 refine .m rfl rfl rfl rfl ?_); refine .call (.tup [.i t5.1, .b t5.2]) [] 0 (auth_List_place.ok b6) rfl rfl rfl ca16 rfl rfl (cC (.imm _) (cC (.imm _) .nil)) rfl rfl rfl rfl rfl ?_; refine .m rfl rfl rfl rfl ?_; (iterate 2 refine .v rfl rfl (OpL.extract rfl rfl rfl) ?_); (iterate 2 refine .a rfl rfl rfl rfl ?_); refine .nil ?_; (iterate 2 refine W.seq ?_); obtain ⟨t7, b8, h⟩ := bnd1 h; refine W.fork (mkSt [(0, some (.imm (.fp (auth_List.enc x0)))), (1, some (.i x1)), (5, some (.ptr 1000 0)), (8, some (.i t5.1)), (41, some (.b (t5.2 || t7)))] [(1000, some (.box [.s x2]))] 1001) ?_ ?_
   ·refine W.cond rfl (fun q10 => ?_) (fun q10 => ?_)
    ·have h := ifT q10 h; refine W.seq ?_; refine W.pk ?_; refine .a rfl rfl rfl rfl ?_; refine .nil ?_; refine W.ret ?_; cases h; exact leaves (.inr rfl) rfl (.imm _) (cN (cN (cN .nil))) rfl rfl
    ·have h := ifF q10 h; cases h
   ·clear h; refine W.pk ?_; (iterate 2 refine .m rfl rfl rfl rfl ?_); rcases tf t5.2 with g9 | g9
    ·(iterate 6 refine .x rfl (unmet rfl rfl rfl g9) ?_); refine .v rfl rfl (O.pickT g9 rfl rfl rfl) ?_; refine .nil ?_; exact toN (Gives.mkR [] (.r rfl rfl (.r rfl rfl (.r rfl rfl (.r rfl rfl (.c rfl (sbb (by simp only [g9, BL])) rfl .n))))) (.r rfl rfl rfl .n) rfl rfl rfl)
    ·refine .m rfl (met rfl rfl rfl g9) rfl rfl ?_; refine .v rfl (met rfl rfl rfl g9) (OpL.nilP rfl rfl rfl) ?_; refine .v rfl (met rfl rfl rfl g9) (O.fld fld25_0 rfl rfl rfl) ?_; refine .v rfl (met rfl rfl rfl g9) (O.ld (y := .imm (.row 5 (List.map auth_Member.enc x0.l))) ty23 rfl rfl rfl) ?_; refine .v rfl (met rfl rfl rfl g9) (OpL.mkfn rfl rfl) ?_; refine .call (.b t7) [(1000, some (.box [.s x2])), (1000, none)] 0 (slices_ContainsFunc_auth_Member__auth_List_Join_1.ok ((if_pos (by simp only [g9, BL])).symm.trans b8)) rfl (met rfl rfl rfl g9) rfl ca21 rfl rfl (cC (.imm _) (cC (.fn _ _ _ _ _ (cC (.ptr _ _ _ _ _ rfl (cC (.imm _) .nil)) .nil)) .nil)) rfl rfl rfl rfl rfl ?_; refine .v rfl rfl (O.pickF g9 rfl rfl rfl) ?_; refine .nil ?_; exact toN (Gives.mkR [] (.r rfl rfl (.r rfl rfl (.r rfl rfl (.r rfl rfl (.c rfl (sbb (by simp only [g9, BL])) rfl .n))))) (.r rfl rfl rfl .n) rfl rfl rfl)

noncomputable def slices_Clone_auth_Member.f (x0 : List auth_Member) : Option (List auth_Member) :=
  if (List.length x0) * 48 ≤ 140737488355328 then some x0 else none
set_option maxRecDepth 100000 in
theorem slices_Clone_auth_Member.ok {x0 r : List auth_Member} (h : slices_Clone_auth_Member.f x0 = some r) : Pm.Spec prog 24 [.imm (.row 5 (List.map auth_Member.enc x0))] (.xown 28 5 (List.map auth_Member.enc r)) [none] := by
 obtain ⟨h1, rfl⟩ : (List.length x0) * 48 ≤ 140737488355328 ∧ x0 = r := by
   unfold slices_Clone_auth_Member.f at h
   split at h
   · rename_i h1; cases h; exact ⟨h1, rfl⟩
   · cases h
 refine Pm.Spec.of_body Try.func24 rfl (by kernel_rfl) (Nat.le_of_ble_eq_true rfl) (Nat.le_of_ble_eq_true rfl) ?_
 refine W.ghost (σ' := (mkSt [(0, some (.imm (.row 5 (List.map auth_Member.enc x0))))] [] 1000)) (Gives.entry (.c rfl .n) .n) ?_
 cases x0 with
 | cons x1 l1 =>
  refine W.seq ?_
  refine W.pk ?_
  refine .v rfl rfl (OpL.move (.inr rfl) rfl) ?_
  refine .nil ?_
  refine W.seq ?_
  refine W.seq ?_
  refine W.pk ?_
  refine .v rfl rfl (OpL.move (.inl rfl) rfl) ?_
  refine .v rfl rfl (O.eqRow sl23 rfl rfl rfl) ?_
  refine .nil ?_
  refine W.cond rfl (fun q => by cases q) (fun _ => ?_)
  refine W.skip ?_
  refine W.seq ?_
  refine W.pk ?_
  refine .t rfl rfl (O.lit (enc := auth_Member.enc) (l := []) sl23 rfl rfl rfl rfl rfl rfl rfl rfl rfl) ?_
  refine .v rfl rfl (OpL.move (.inl rfl) rfl) ?_
  have h2 : (List.length ([] : List auth_Member) + List.length (x1 :: l1 : List auth_Member)) * 48 ≤ 140737488355328 := by simpa using h1
  refine .t rfl rfl (O.app (l := []) sl23 auth_Member.ok h2 rfl rfl rfl rfl) ?_
  refine .v rfl rfl (OpL.move (.inr rfl) rfl) ?_
  refine .nil ?_
  refine W.ret ?_
  exact leaves (.inr rfl) rfl (.own _ _ _ _ rfl) (cN .nil) rfl rfl
 | nil =>
  refine W.emptyS 0 rfl fun A c => ?_
  cases A with
  | none =>
   refine W.seq ?_
   refine W.pk ?_
   refine .v rfl rfl (OpL.move (.inr rfl) rfl) ?_
   refine .nil ?_
   refine W.seq ?_
   refine W.seq ?_
   refine W.pk ?_
   refine .v rfl rfl (OpL.move (.inl rfl) rfl) ?_
   refine .v rfl rfl (O.eqSl sl23 rfl rfl rfl) ?_
   refine .nil ?_
   refine W.cond rfl (fun _ => ?_) (fun q => by cases q)
   refine W.seq ?_
   refine W.pk ?_
   refine .v rfl rfl (OpL.move (.inr rfl) rfl) ?_
   refine .nil ?_
   refine W.ret ?_
   exact leaves (.inr rfl) rfl (.nilown _ _) (cN .nil) rfl rfl
  | some p =>
   refine W.seq ?_
   refine W.pk ?_
   refine .v rfl rfl (OpL.move (.inr rfl) rfl) ?_
   refine .nil ?_
   refine W.seq ?_
   refine W.seq ?_
   refine W.pk ?_
   refine .v rfl rfl (OpL.move (.inl rfl) rfl) ?_
   refine .v rfl rfl (O.eqSl sl23 rfl rfl rfl) ?_
   refine .nil ?_
   refine W.cond rfl (fun q => by cases q) (fun _ => ?_)
   refine W.skip ?_
   refine W.ghost (Gives.emptyS 0 5 rfl) ?_
   refine W.seq ?_
   refine W.pk ?_
   refine .t rfl rfl (O.lit (enc := auth_Member.enc) (l := []) sl23 rfl rfl rfl rfl rfl rfl rfl rfl rfl) ?_
   refine .v rfl rfl (OpL.move (.inl rfl) rfl) ?_
   have h2 : (List.length ([] : List auth_Member) + List.length ([] : List auth_Member)) * 48 ≤ 140737488355328 := by simp
   refine .t rfl rfl (O.app (l := []) sl23 auth_Member.ok h2 rfl rfl rfl rfl) ?_
   refine .v rfl rfl (OpL.move (.inr rfl) rfl) ?_
   refine .nil ?_
   refine W.ret ?_
   exact leaves (.inr rfl) rfl (.own _ _ _ _ rfl) (cN .nil) rfl rfl

noncomputable def auth_List_All_v2.f (x0 : auth_List) : Option (List auth_Member) :=
  (slices_Clone_auth_Member.f x0.l).bind fun t1 =>
  some t1
set_option maxRecDepth 100000 in
set_option maxHeartbeats 4000000 in
theorem auth_List_All_v2.ok {x0 : auth_List} {r : List auth_Member} (h : auth_List_All_v2.f x0 = some r) : Pm.Spec prog 7 [.imm (.fp (auth_List.enc x0))] (.xown 28 5 (List.map auth_Member.enc r)) [none] := by
 unfold auth_List_All_v2.f at h; refine Pm.Spec.of_body Try.func7 rfl (by kernel_rfl) (Nat.le_of_ble_eq_true rfl) (Nat.le_of_ble_eq_true rfl) ?_; refine W.ghost (σ' := (mkSt [(0, some (.imm (.fp (auth_List.enc x0))))] [] 1000)) (Gives.entry (.c rfl .n) .n) ?_; refine W.seq ?_; refine W.pk ?_; refine .a rfl rfl rfl rfl ?_; refine .nil ?_; (iterate 2 refine W.seq ?_); refine W.pk ?_; refine .m rfl rfl rfl rfl ?_; refine .v rfl rfl (OpL.eqP rfl u22 rfl rfl rfl) ?_; refine .nil ?_; refine W.cond rfl (fun q => by cases q) (fun _ => ?_)
 refine W.skip ?_; refine W.seq ?_; obtain ⟨t1, b2, h⟩ := bnd1 h; refine W.pk ?_; refine .m rfl rfl rfl rfl ?_; refine .v rfl rfl (OpL.nilP rfl rfl rfl) ?_; refine .v rfl rfl (O.fld fld25_0 rfl rfl rfl) ?_; refine .v rfl rfl (O.ld (y := .imm (.row 5 (List.map auth_Member.enc x0.l))) ty23 rfl rfl rfl) ?_; refine .call (.own 1000) [(1000, some (.rows 28 5 (List.map auth_Member.enc t1) false))] 1 (slices_Clone_auth_Member.ok b2) rfl rfl rfl ca24 rfl rfl (cC (.imm _) .nil) rfl rfl rfl rfl rfl ?_; refine .a rfl rfl rfl rfl ?_; refine .nil ?_; refine W.ret ?_; cases h; exact leaves (.inr rfl) rfl (.own _ _ _ _ rfl) (cN .nil) rfl rfl

noncomputable def auth_List_change__auth_List_Bound_1_v2.f (x0 : auth_List) (x1 : Int) (x2c0 : Int) : Option (Int) :=
  if (!x0.made) = true then
    some 3
  else
    (auth_List_place.f x0 x1).bind fun t2 =>
    if (!t2.2) = true then
      some 6
    else
      if (0 : Int) ≤ t2.1 ∧ t2.1 < (List.length x0.l : Int) then
      if (((nth x0.l t2.1).State) == 3) = true then
        some 8
      else
        none
      else none
set_option maxRecDepth 100000 in
set_option maxHeartbeats 4000000 in
theorem auth_List_change__auth_List_Bound_1_v2.ok {x0 : auth_List} {x1 : Int} {x2c0 : Int} {r : Int} (h : auth_List_change__auth_List_Bound_1_v2.f x0 x1 x2c0 = some r) : Pm.Spec prog 25 [.imm (.fp (auth_List.enc x0)), .imm (.val (.int .i64 x1)), .fn 26 [.xbox [.imm (.val (.int .i64 x2c0))]]] (.imm (.val (.int .i64 r))) [none, none, some (.fn 26 [.xbox [.imm (.val (.int .i64 x2c0))]])] := by
 unfold auth_List_change__auth_List_Bound_1_v2.f at h; refine Pm.Spec.of_body Try.func25 rfl (by kernel_rfl) (Nat.le_of_ble_eq_true rfl) (Nat.le_of_ble_eq_true rfl) ?_; refine W.ghost (σ' := (mkSt [(0, some (.imm (.fp (auth_List.enc x0)))), (1, some (.i x1)), (2, some (.fn 26 [.ptr 0 0]))] [(0, some (.box [.i x2c0]))] 1000)) (Gives.entry (.c rfl (.c rfl (.c rfl .n))) (.c rfl .n)) ?_; refine W.seq ?_; refine W.pk ?_; refine .a rfl rfl rfl rfl ?_; refine .nil ?_; (iterate 2 refine W.seq ?_); refine W.pk ?_; refine .m rfl rfl rfl rfl ?_; refine .v rfl rfl (OpL.eqP rfl u22 rfl rfl rfl) ?_; refine .m rfl rfl rfl rfl ?_; refine .m rfl (met rfl rfl rfl rfl) rfl rfl ?_; refine .v rfl (met rfl rfl rfl rfl) (OpL.nilP rfl rfl rfl) ?_; refine .v rfl (met rfl rfl rfl rfl) (O.fld fld25_1 rfl rfl rfl) ?_; refine .v rfl (met rfl rfl rfl rfl) (O.ld (y := .b x0.made) ty4 rfl rfl rfl) ?_; refine .v rfl (met rfl rfl rfl rfl) (OpL.unV rfl rfl rfl) ?_; refine .v rfl rfl (O.pickF rfl rfl rfl rfl) ?_; refine .nil ?_; refine W.cond rfl (fun q1 => ?_) (fun q1 => ?_)
 ·have h := ifT q1 h; refine W.seq ?_; refine W.pk ?_; refine .a rfl rfl rfl rfl ?_; refine .nil ?_; refine W.ret ?_; cases h; exact leaves (.inr rfl) rfl (.imm _) (cN (cN (cS (.fn _ _ _ _ _ (cC (.ptr _ _ _ _ _ rfl (cC (.imm _) .nil)) .nil)) .nil))) rfl rfl
 ·have h := ifF q1 h; refine W.skip ?_; refine W.seq ?_; obtain ⟨t2, b3, h⟩ := bnd1 h; refine W.pk ?_; (iterate 2 refine .m rfl rfl rfl rfl ?_); refine .call (.tup [.i t2.1, .b t2.2]) [] 0 (auth_List_place.ok b3) rfl rfl rfl ca16 rfl rfl (cC (.imm _) (cC (.imm _) .nil)) rfl rfl rfl rfl rfl ?_; refine .m rfl rfl rfl rfl ?_; (iterate 2 refine .v rfl rfl (OpL.extract rfl rfl rfl) ?_); (iterate 2 refine .a rfl rfl rfl rfl ?_); refine .nil ?_; refine W.seq ?_; refine W.block ?_; refine W.seq ?_; refine W.pk ?_; refine .m rfl rfl rfl rfl ?_; refine .v rfl rfl (OpL.unV rfl rfl rfl) ?_; refine .a rfl rfl rfl rfl ?_; refine .nil ?_; refine W.cond rfl (fun q4 => ?_) (fun q4 => ?_)
  ·have h := ifT q4 h; refine W.seq ?_; refine W.pk ?_; refine .a rfl rfl rfl rfl ?_; refine .nil ?_; refine W.ret ?_; cases h; exact leaves (.inr rfl) rfl (.imm _) (cN (cN (cS (.fn _ _ _ _ _ (cC (.ptr _ _ _ _ _ rfl (cC (.imm _) .nil)) .nil)) .nil))) rfl rfl
  ·have h := ifF q4 h; refine W.seq ?_; obtain ⟨c5, h⟩ := chk h; refine W.pk ?_; refine .m rfl rfl rfl rfl ?_; refine .v rfl rfl (OpL.nilP rfl rfl rfl) ?_; refine .v rfl rfl (O.fld fld25_0 rfl rfl rfl) ?_; refine .v rfl rfl (O.ld (y := .imm (.row 5 (List.map auth_Member.enc x0.l))) ty23 rfl rfl rfl) ?_; refine .m rfl rfl rfl rfl ?_; refine .v rfl rfl (O.idx sl23 c5 rfl rfl rfl) ?_; refine .v rfl rfl (O.fld fld28_2 rfl rfl rfl) ?_; refine .v rfl rfl (O.ld (y := .i ((nth x0.l t2.1).State)) ty3 rfl rfl rfl) ?_; refine .v rfl rfl (OpL.binI rfl rfl rfl rfl) ?_; refine .a rfl rfl rfl rfl ?_; refine .nil ?_; refine W.cond rfl (fun q6 => ?_) (fun q6 => ?_)
   ·have h := ifT q6 h; refine W.seq ?_; refine W.pk ?_; refine .a rfl rfl rfl rfl ?_; refine .nil ?_; refine W.ret ?_; cases h; exact leaves (.inr rfl) rfl (.imm _) (cN (cN (cS (.fn _ _ _ _ _ (cC (.ptr _ _ _ _ _ rfl (cC (.imm _) .nil)) .nil)) .nil))) rfl rfl
   ·have h := ifF q6 h; cases h

noncomputable def auth_List_Bound_v2.f (x0 : auth_List) (x1 : Int) (x2 : Int) : Option (Int) :=
  if ((decide (x2 < 0)) || (decide (x2 > 1125899906842624))) = true then
    some 1
  else
    (auth_List_change__auth_List_Bound_1_v2.f x0 x1 x2).bind fun t3 =>
    some t3
set_option maxRecDepth 100000 in
set_option maxHeartbeats 4000000 in
theorem auth_List_Bound_v2.ok {x0 : auth_List} {x1 : Int} {x2 : Int} {r : Int} (h : auth_List_Bound_v2.f x0 x1 x2 = some r) : Pm.Spec prog 8 [.imm (.fp (auth_List.enc x0)), .imm (.val (.int .i64 x1)), .imm (.val (.int .i64 x2))] (.imm (.val (.int .i64 r))) [none, none, none] := by
 unfold auth_List_Bound_v2.f at h; refine Pm.Spec.of_body Try.func8 rfl (by kernel_rfl) (Nat.le_of_ble_eq_true rfl) (Nat.le_of_ble_eq_true rfl) ?_; refine W.ghost (σ' := (mkSt [(0, some (.imm (.fp (auth_List.enc x0)))), (1, some (.i x1)), (2, some (.i x2))] [] 1000)) (Gives.entry (.c rfl (.c rfl (.c rfl .n))) .n) ?_; refine W.seq ?_; refine W.pk ?_; refine .t rfl rfl (O.box rfl rfl rfl rfl rfl) ?_; refine .a rfl rfl rfl rfl ?_; refine .nil ?_; (iterate 2 refine W.seq ?_); refine W.fork (mkSt [(0, some (.imm (.fp (auth_List.enc x0)))), (1, some (.i x1)), (5, some (.ptr 1000 0)), (12, some (.b ((decide (x2 < 0)) || (decide (x2 > 1125899906842624)))))] [(1000, some (.box [.i x2]))] 1001) ?_ ?_
 ·refine W.cond rfl (fun q2 => ?_) (fun q2 => ?_)
  ·have h := ifT q2 h; refine W.seq ?_; refine W.pk ?_; refine .a rfl rfl rfl rfl ?_; refine .nil ?_; refine W.ret ?_; cases h; exact leaves (.inr rfl) rfl (.imm _) (cN (cN (cN .nil))) rfl rfl
  ·have h := ifF q2 h; refine W.skip ?_; refine W.seq ?_; obtain ⟨t3, b4, h⟩ := bnd1 h; refine W.pk ?_; (iterate 2 refine .m rfl rfl rfl rfl ?_); refine .v rfl rfl (OpL.mkfn rfl rfl) ?_; refine .call (.i t3) [(1000, some (.box [.i x2])), (1000, none)] 0 (auth_List_change__auth_List_Bound_1_v2.ok b4) rfl rfl rfl ca25 rfl rfl (cC (.imm _) (cC (.imm _) (cC (.fn _ _ _ _ _ (cC (.ptr _ _ _ _ _ rfl (cC (.imm _) .nil)) .nil)) .nil))) rfl rfl rfl rfl rfl ?_; refine .a rfl rfl rfl rfl ?_; refine .nil ?_; refine W.ret ?_; cases h; exact leaves (.inr rfl) rfl (.imm _) (cN (cN (cN .nil))) rfl rfl
 ·clear h; refine W.pk ?_; refine .v rfl rfl (O.ld (y := .i x2) ty3 rfl rfl rfl) ?_; refine .v rfl rfl (OpL.binI rfl rfl rfl rfl) ?_; refine .m rfl rfl rfl rfl ?_; rcases tf (decide (x2 < 0)) with g1 | g1
  ·(iterate 2 refine .x rfl (unmet rfl rfl rfl g1) ?_); refine .v rfl rfl (O.pickT g1 rfl rfl rfl) ?_; refine .nil ?_; exact toN (Gives.mkR [] (.r rfl rfl (.r rfl rfl (.r rfl rfl (.c rfl (sbb (by simp only [g1, BL])) rfl .n)))) (.r rfl rfl rfl .n) rfl rfl rfl)
  ·refine .v rfl (met rfl rfl rfl g1) (O.ld (y := .i x2) ty3 rfl rfl rfl) ?_; refine .v rfl (met rfl rfl rfl g1) (OpL.binI rfl rfl rfl rfl) ?_; refine .v rfl rfl (O.pickF g1 rfl rfl rfl) ?_; refine .nil ?_; exact toN (Gives.mkR [] (.r rfl rfl (.r rfl rfl (.r rfl rfl (.c rfl (sbb (by simp only [g1, BL])) rfl .n)))) (.r rfl rfl rfl .n) rfl rfl rfl)

noncomputable def auth_List_change__auth_List_Late_1_v2.f (x0 : auth_List) (x1 : Int) (x2c0 : Bool) : Option (Int) :=
  if (!x0.made) = true then
    some 3
  else
    (auth_List_place.f x0 x1).bind fun t2 =>
    if (!t2.2) = true then
      some 6
    else
      if (0 : Int) ≤ t2.1 ∧ t2.1 < (List.length x0.l : Int) then
      if (((nth x0.l t2.1).State) == 3) = true then
        some 8
      else
        none
      else none
set_option maxRecDepth 100000 in
set_option maxHeartbeats 4000000 in
theorem auth_List_change__auth_List_Late_1_v2.ok {x0 : auth_List} {x1 : Int} {x2c0 : Bool} {r : Int} (h : auth_List_change__auth_List_Late_1_v2.f x0 x1 x2c0 = some r) : Pm.Spec prog 25 [.imm (.fp (auth_List.enc x0)), .imm (.val (.int .i64 x1)), .fn 27 [.xbox [.imm (.val (.bool x2c0))]]] (.imm (.val (.int .i64 r))) [none, none, some (.fn 27 [.xbox [.imm (.val (.bool x2c0))]])] := by
 unfold auth_List_change__auth_List_Late_1_v2.f at h; refine Pm.Spec.of_body Try.func25 rfl (by kernel_rfl) (Nat.le_of_ble_eq_true rfl) (Nat.le_of_ble_eq_true rfl) ?_; refine W.ghost (σ' := (mkSt [(0, some (.imm (.fp (auth_List.enc x0)))), (1, some (.i x1)), (2, some (.fn 27 [.ptr 0 0]))] [(0, some (.box [.b x2c0]))] 1000)) (Gives.entry (.c rfl (.c rfl (.c rfl .n))) (.c rfl .n)) ?_; refine W.seq ?_; refine W.pk ?_; refine .a rfl rfl rfl rfl ?_; refine .nil ?_; (iterate 2 refine W.seq ?_); refine W.pk ?_; refine .m rfl rfl rfl rfl ?_; refine .v rfl rfl (OpL.eqP rfl u22 rfl rfl rfl) ?_; refine .m rfl rfl rfl rfl ?_; refine .m rfl (met rfl rfl rfl rfl) rfl rfl ?_; refine .v rfl (met rfl rfl rfl rfl) (OpL.nilP rfl rfl rfl) ?_; refine .v rfl (met rfl rfl rfl rfl) (O.fld fld25_1 rfl rfl rfl) ?_; refine .v rfl (met rfl rfl rfl rfl) (O.ld (y := .b x0.made) ty4 rfl rfl rfl) ?_; refine .v rfl (met rfl rfl rfl rfl) (OpL.unV rfl rfl rfl) ?_; refine .v rfl rfl (O.pickF rfl rfl rfl rfl) ?_; refine .nil ?_; refine W.cond rfl (fun q1 => ?_) (fun q1 => ?_)
 ·have h := ifT q1 h; refine W.seq ?_; refine W.pk ?_; refine .a rfl rfl rfl rfl ?_; refine .nil ?_; refine W.ret ?_; cases h; exact leaves (.inr rfl) rfl (.imm _) (cN (cN (cS (.fn _ _ _ _ _ (cC (.ptr _ _ _ _ _ rfl (cC (.imm _) .nil)) .nil)) .nil))) rfl rfl
 ·have h := ifF q1 h; refine W.skip ?_; refine W.seq ?_; obtain ⟨t2, b3, h⟩ := bnd1 h; refine W.pk ?_; (iterate 2 refine .m rfl rfl rfl rfl ?_); refine .call (.tup [.i t2.1, .b t2.2]) [] 0 (auth_List_place.ok b3) rfl rfl rfl ca16 rfl rfl (cC (.imm _) (cC (.imm _) .nil)) rfl rfl rfl rfl rfl ?_; refine .m rfl rfl rfl rfl ?_; (iterate 2 refine .v rfl rfl (OpL.extract rfl rfl rfl) ?_); (iterate 2 refine .a rfl rfl rfl rfl ?_); refine .nil ?_; refine W.seq ?_; refine W.block ?_; refine W.seq ?_; refine W.pk ?_; refine .m rfl rfl rfl rfl ?_; refine .v rfl rfl (OpL.unV rfl rfl rfl) ?_; refine .a rfl rfl rfl rfl ?_; refine .nil ?_; refine W.cond rfl (fun q4 => ?_) (fun q4 => ?_)
  ·have h := ifT q4 h; refine W.seq ?_; refine W.pk ?_; refine .a rfl rfl rfl rfl ?_; refine .nil ?_; refine W.ret ?_; cases h; exact leaves (.inr rfl) rfl (.imm _) (cN (cN (cS (.fn _ _ _ _ _ (cC (.ptr _ _ _ _ _ rfl (cC (.imm _) .nil)) .nil)) .nil))) rfl rfl
  ·have h := ifF q4 h; refine W.seq ?_; obtain ⟨c5, h⟩ := chk h; refine W.pk ?_; refine .m rfl rfl rfl rfl ?_; refine .v rfl rfl (OpL.nilP rfl rfl rfl) ?_; refine .v rfl rfl (O.fld fld25_0 rfl rfl rfl) ?_; refine .v rfl rfl (O.ld (y := .imm (.row 5 (List.map auth_Member.enc x0.l))) ty23 rfl rfl rfl) ?_; refine .m rfl rfl rfl rfl ?_; refine .v rfl rfl (O.idx sl23 c5 rfl rfl rfl) ?_; refine .v rfl rfl (O.fld fld28_2 rfl rfl rfl) ?_; refine .v rfl rfl (O.ld (y := .i ((nth x0.l t2.1).State)) ty3 rfl rfl rfl) ?_; refine .v rfl rfl (OpL.binI rfl rfl rfl rfl) ?_; refine .a rfl rfl rfl rfl ?_; refine .nil ?_; refine W.cond rfl (fun q6 => ?_) (fun q6 => ?_)
   ·have h := ifT q6 h; refine W.seq ?_; refine W.pk ?_; refine .a rfl rfl rfl rfl ?_; refine .nil ?_; refine W.ret ?_; cases h; exact leaves (.inr rfl) rfl (.imm _) (cN (cN (cS (.fn _ _ _ _ _ (cC (.ptr _ _ _ _ _ rfl (cC (.imm _) .nil)) .nil)) .nil))) rfl rfl
   ·have h := ifF q6 h; cases h

noncomputable def auth_List_Late_v2.f (x0 : auth_List) (x1 : Int) (x2 : Bool) : Option (Int) :=
  (auth_List_change__auth_List_Late_1_v2.f x0 x1 x2).bind fun t1 =>
  some t1
set_option maxRecDepth 100000 in
set_option maxHeartbeats 4000000 in
theorem auth_List_Late_v2.ok {x0 : auth_List} {x1 : Int} {x2 : Bool} {r : Int} (h : auth_List_Late_v2.f x0 x1 x2 = some r) : Pm.Spec prog 9 [.imm (.fp (auth_List.enc x0)), .imm (.val (.int .i64 x1)), .imm (.val (.bool x2))] (.imm (.val (.int .i64 r))) [none, none, none] := by
 unfold auth_List_Late_v2.f at h; refine Pm.Spec.of_body Try.func9 rfl (by kernel_rfl) (Nat.le_of_ble_eq_true rfl) (Nat.le_of_ble_eq_true rfl) ?_; refine W.ghost (σ' := (mkSt [(0, some (.imm (.fp (auth_List.enc x0)))), (1, some (.i x1)), (2, some (.b x2))] [] 1000)) (Gives.entry (.c rfl (.c rfl (.c rfl .n))) .n) ?_; refine W.seq ?_; refine W.pk ?_; refine .t rfl rfl (O.box rfl rfl rfl rfl rfl) ?_; refine .a rfl rfl rfl rfl ?_; refine .nil ?_; refine W.seq ?_; obtain ⟨t1, b2, h⟩ := bnd1 h; refine W.pk ?_; (iterate 2 refine .m rfl rfl rfl rfl ?_); refine .v rfl rfl (OpL.mkfn rfl rfl) ?_; refine .call (.i t1) [(1000, some (.box [.b x2])), (1000, none)] 0 (auth_List_change__auth_List_Late_1_v2.ok b2) rfl rfl rfl ca25 rfl rfl (cC (.imm _) (cC (.imm _) (cC (.fn _ _ _ _ _ (cC (.ptr _ _ _ _ _ rfl (cC (.imm _) .nil)) .nil)) .nil))) rfl rfl rfl rfl rfl ?_; refine .a rfl rfl rfl rfl ?_; refine .nil ?_; refine W.ret ?_; cases h; exact leaves (.inr rfl) rfl (.imm _) (cN (cN (cN .nil))) rfl rfl

set_option maxRecDepth 100000 in
set_option maxHeartbeats 4000000 in
theorem auth_List_change__auth_List_Call_1_v2.ok {x0 : auth_List} {x1 : Int} {x2c0 : Bool} {r : Int} (h : auth_List_change__auth_List_Late_1_v2.f x0 x1 x2c0 = some r) : Pm.Spec prog 25 [.imm (.fp (auth_List.enc x0)), .imm (.val (.int .i64 x1)), .fn 28 [.xbox [.imm (.val (.bool x2c0))]]] (.imm (.val (.int .i64 r))) [none, none, some (.fn 28 [.xbox [.imm (.val (.bool x2c0))]])] := by
 unfold auth_List_change__auth_List_Late_1_v2.f at h; refine Pm.Spec.of_body Try.func25 rfl (by kernel_rfl) (Nat.le_of_ble_eq_true rfl) (Nat.le_of_ble_eq_true rfl) ?_; refine W.ghost (σ' := (mkSt [(0, some (.imm (.fp (auth_List.enc x0)))), (1, some (.i x1)), (2, some (.fn 28 [.ptr 0 0]))] [(0, some (.box [.b x2c0]))] 1000)) (Gives.entry (.c rfl (.c rfl (.c rfl .n))) (.c rfl .n)) ?_; refine W.seq ?_; refine W.pk ?_; refine .a rfl rfl rfl rfl ?_; refine .nil ?_; (iterate 2 refine W.seq ?_); refine W.pk ?_; refine .m rfl rfl rfl rfl ?_; refine .v rfl rfl (OpL.eqP rfl u22 rfl rfl rfl) ?_; refine .m rfl rfl rfl rfl ?_; refine .m rfl (met rfl rfl rfl rfl) rfl rfl ?_; refine .v rfl (met rfl rfl rfl rfl) (OpL.nilP rfl rfl rfl) ?_; refine .v rfl (met rfl rfl rfl rfl) (O.fld fld25_1 rfl rfl rfl) ?_; refine .v rfl (met rfl rfl rfl rfl) (O.ld (y := .b x0.made) ty4 rfl rfl rfl) ?_; refine .v rfl (met rfl rfl rfl rfl) (OpL.unV rfl rfl rfl) ?_; refine .v rfl rfl (O.pickF rfl rfl rfl rfl) ?_; refine .nil ?_; refine W.cond rfl (fun q1 => ?_) (fun q1 => ?_)
 ·have h := ifT q1 h; refine W.seq ?_; refine W.pk ?_; refine .a rfl rfl rfl rfl ?_; refine .nil ?_; refine W.ret ?_; cases h; exact leaves (.inr rfl) rfl (.imm _) (cN (cN (cS (.fn _ _ _ _ _ (cC (.ptr _ _ _ _ _ rfl (cC (.imm _) .nil)) .nil)) .nil))) rfl rfl
 ·have h := ifF q1 h; refine W.skip ?_; refine W.seq ?_; obtain ⟨t2, b3, h⟩ := bnd1 h; refine W.pk ?_; (iterate 2 refine .m rfl rfl rfl rfl ?_); refine .call (.tup [.i t2.1, .b t2.2]) [] 0 (auth_List_place.ok b3) rfl rfl rfl ca16 rfl rfl (cC (.imm _) (cC (.imm _) .nil)) rfl rfl rfl rfl rfl ?_; refine .m rfl rfl rfl rfl ?_; (iterate 2 refine .v rfl rfl (OpL.extract rfl rfl rfl) ?_); (iterate 2 refine .a rfl rfl rfl rfl ?_); refine .nil ?_; refine W.seq ?_; refine W.block ?_; refine W.seq ?_; refine W.pk ?_; refine .m rfl rfl rfl rfl ?_; refine .v rfl rfl (OpL.unV rfl rfl rfl) ?_; refine .a rfl rfl rfl rfl ?_; refine .nil ?_; refine W.cond rfl (fun q4 => ?_) (fun q4 => ?_)
  ·have h := ifT q4 h; refine W.seq ?_; refine W.pk ?_; refine .a rfl rfl rfl rfl ?_; refine .nil ?_; refine W.ret ?_; cases h; exact leaves (.inr rfl) rfl (.imm _) (cN (cN (cS (.fn _ _ _ _ _ (cC (.ptr _ _ _ _ _ rfl (cC (.imm _) .nil)) .nil)) .nil))) rfl rfl
  ·have h := ifF q4 h; refine W.seq ?_; obtain ⟨c5, h⟩ := chk h; refine W.pk ?_; refine .m rfl rfl rfl rfl ?_; refine .v rfl rfl (OpL.nilP rfl rfl rfl) ?_; refine .v rfl rfl (O.fld fld25_0 rfl rfl rfl) ?_; refine .v rfl rfl (O.ld (y := .imm (.row 5 (List.map auth_Member.enc x0.l))) ty23 rfl rfl rfl) ?_; refine .m rfl rfl rfl rfl ?_; refine .v rfl rfl (O.idx sl23 c5 rfl rfl rfl) ?_; refine .v rfl rfl (O.fld fld28_2 rfl rfl rfl) ?_; refine .v rfl rfl (O.ld (y := .i ((nth x0.l t2.1).State)) ty3 rfl rfl rfl) ?_; refine .v rfl rfl (OpL.binI rfl rfl rfl rfl) ?_; refine .a rfl rfl rfl rfl ?_; refine .nil ?_; refine W.cond rfl (fun q6 => ?_) (fun q6 => ?_)
   ·have h := ifT q6 h; refine W.seq ?_; refine W.pk ?_; refine .a rfl rfl rfl rfl ?_; refine .nil ?_; refine W.ret ?_; cases h; exact leaves (.inr rfl) rfl (.imm _) (cN (cN (cS (.fn _ _ _ _ _ (cC (.ptr _ _ _ _ _ rfl (cC (.imm _) .nil)) .nil)) .nil))) rfl rfl
   ·have h := ifF q6 h; cases h

noncomputable def auth_List_Call_v2.f (x0 : auth_List) (x1 : Int) (x2 : Bool) : Option (Int) :=
  (auth_List_change__auth_List_Late_1_v2.f x0 x1 x2).bind fun t1 =>
  some t1
set_option maxRecDepth 100000 in
set_option maxHeartbeats 4000000 in
theorem auth_List_Call_v2.ok {x0 : auth_List} {x1 : Int} {x2 : Bool} {r : Int} (h : auth_List_Call_v2.f x0 x1 x2 = some r) : Pm.Spec prog 10 [.imm (.fp (auth_List.enc x0)), .imm (.val (.int .i64 x1)), .imm (.val (.bool x2))] (.imm (.val (.int .i64 r))) [none, none, none] := by
 unfold auth_List_Call_v2.f at h; refine Pm.Spec.of_body Try.func10 rfl (by kernel_rfl) (Nat.le_of_ble_eq_true rfl) (Nat.le_of_ble_eq_true rfl) ?_; refine W.ghost (σ' := (mkSt [(0, some (.imm (.fp (auth_List.enc x0)))), (1, some (.i x1)), (2, some (.b x2))] [] 1000)) (Gives.entry (.c rfl (.c rfl (.c rfl .n))) .n) ?_; refine W.seq ?_; refine W.pk ?_; refine .t rfl rfl (O.box rfl rfl rfl rfl rfl) ?_; refine .a rfl rfl rfl rfl ?_; refine .nil ?_; refine W.seq ?_; obtain ⟨t1, b2, h⟩ := bnd1 h; refine W.pk ?_; (iterate 2 refine .m rfl rfl rfl rfl ?_); refine .v rfl rfl (OpL.mkfn rfl rfl) ?_; refine .call (.i t1) [(1000, some (.box [.b x2])), (1000, none)] 0 (auth_List_change__auth_List_Call_1_v2.ok b2) rfl rfl rfl ca25 rfl rfl (cC (.imm _) (cC (.imm _) (cC (.fn _ _ _ _ _ (cC (.ptr _ _ _ _ _ rfl (cC (.imm _) .nil)) .nil)) .nil))) rfl rfl rfl rfl rfl ?_; refine .a rfl rfl rfl rfl ?_; refine .nil ?_; refine W.ret ?_; cases h; exact leaves (.inr rfl) rfl (.imm _) (cN (cN (cN .nil))) rfl rfl

noncomputable def auth_List_change__auth_List_Default_1_v2.f (x0 : auth_List) (x1 : Int) : Option (Int) :=
  if (!x0.made) = true then
    some 3
  else
    (auth_List_place.f x0 x1).bind fun t2 =>
    if (!t2.2) = true then
      some 6
    else
      if (0 : Int) ≤ t2.1 ∧ t2.1 < (List.length x0.l : Int) then
      if (((nth x0.l t2.1).State) == 3) = true then
        some 8
      else
        none
      else none
set_option maxRecDepth 100000 in
set_option maxHeartbeats 4000000 in
theorem auth_List_change__auth_List_Default_1_v2.ok {x0 : auth_List} {x1 : Int} {r : Int} (h : auth_List_change__auth_List_Default_1_v2.f x0 x1 = some r) : Pm.Spec prog 25 [.imm (.fp (auth_List.enc x0)), .imm (.val (.int .i64 x1)), .fn 29 []] (.imm (.val (.int .i64 r))) [none, none, none] := by
 unfold auth_List_change__auth_List_Default_1_v2.f at h; refine Pm.Spec.of_body Try.func25 rfl (by kernel_rfl) (Nat.le_of_ble_eq_true rfl) (Nat.le_of_ble_eq_true rfl) ?_; refine W.ghost (σ' := (mkSt [(0, some (.imm (.fp (auth_List.enc x0)))), (1, some (.i x1)), (2, some (.fn 29 []))] [] 1000)) (Gives.entry (.c rfl (.c rfl (.c rfl .n))) .n) ?_; refine W.seq ?_; refine W.pk ?_; refine .a rfl rfl rfl rfl ?_; refine .nil ?_; (iterate 2 refine W.seq ?_); refine W.pk ?_; refine .m rfl rfl rfl rfl ?_; refine .v rfl rfl (OpL.eqP rfl u22 rfl rfl rfl) ?_; refine .m rfl rfl rfl rfl ?_; refine .m rfl (met rfl rfl rfl rfl) rfl rfl ?_; refine .v rfl (met rfl rfl rfl rfl) (OpL.nilP rfl rfl rfl) ?_; refine .v rfl (met rfl rfl rfl rfl) (O.fld fld25_1 rfl rfl rfl) ?_; refine .v rfl (met rfl rfl rfl rfl) (O.ld (y := .b x0.made) ty4 rfl rfl rfl) ?_; refine .v rfl (met rfl rfl rfl rfl) (OpL.unV rfl rfl rfl) ?_; refine .v rfl rfl (O.pickF rfl rfl rfl rfl) ?_; refine .nil ?_; refine W.cond rfl (fun q1 => ?_) (fun q1 => ?_)
 ·have h := ifT q1 h; refine W.seq ?_; refine W.pk ?_; refine .a rfl rfl rfl rfl ?_; refine .nil ?_; refine W.ret ?_; cases h; exact leaves (.inr rfl) rfl (.imm _) (cN (cN (cN .nil))) rfl rfl
 ·have h := ifF q1 h; refine W.skip ?_; refine W.seq ?_; obtain ⟨t2, b3, h⟩ := bnd1 h; refine W.pk ?_; (iterate 2 refine .m rfl rfl rfl rfl ?_); refine .call (.tup [.i t2.1, .b t2.2]) [] 0 (auth_List_place.ok b3) rfl rfl rfl ca16 rfl rfl (cC (.imm _) (cC (.imm _) .nil)) rfl rfl rfl rfl rfl ?_; refine .m rfl rfl rfl rfl ?_; (iterate 2 refine .v rfl rfl (OpL.extract rfl rfl rfl) ?_); (iterate 2 refine .a rfl rfl rfl rfl ?_); refine .nil ?_; refine W.seq ?_; refine W.block ?_; refine W.seq ?_; refine W.pk ?_; refine .m rfl rfl rfl rfl ?_; refine .v rfl rfl (OpL.unV rfl rfl rfl) ?_; refine .a rfl rfl rfl rfl ?_; refine .nil ?_; refine W.cond rfl (fun q4 => ?_) (fun q4 => ?_)
  ·have h := ifT q4 h; refine W.seq ?_; refine W.pk ?_; refine .a rfl rfl rfl rfl ?_; refine .nil ?_; refine W.ret ?_; cases h; exact leaves (.inr rfl) rfl (.imm _) (cN (cN (cN .nil))) rfl rfl
  ·have h := ifF q4 h; refine W.seq ?_; obtain ⟨c5, h⟩ := chk h; refine W.pk ?_; refine .m rfl rfl rfl rfl ?_; refine .v rfl rfl (OpL.nilP rfl rfl rfl) ?_; refine .v rfl rfl (O.fld fld25_0 rfl rfl rfl) ?_; refine .v rfl rfl (O.ld (y := .imm (.row 5 (List.map auth_Member.enc x0.l))) ty23 rfl rfl rfl) ?_; refine .m rfl rfl rfl rfl ?_; refine .v rfl rfl (O.idx sl23 c5 rfl rfl rfl) ?_; refine .v rfl rfl (O.fld fld28_2 rfl rfl rfl) ?_; refine .v rfl rfl (O.ld (y := .i ((nth x0.l t2.1).State)) ty3 rfl rfl rfl) ?_; refine .v rfl rfl (OpL.binI rfl rfl rfl rfl) ?_; refine .a rfl rfl rfl rfl ?_; refine .nil ?_; refine W.cond rfl (fun q6 => ?_) (fun q6 => ?_)
   ·have h := ifT q6 h; refine W.seq ?_; refine W.pk ?_; refine .a rfl rfl rfl rfl ?_; refine .nil ?_; refine W.ret ?_; cases h; exact leaves (.inr rfl) rfl (.imm _) (cN (cN (cN .nil))) rfl rfl
   ·have h := ifF q6 h; cases h

noncomputable def auth_List_Default_v2.f (x0 : auth_List) (x1 : Int) : Option (Int) :=
  (auth_List_change__auth_List_Default_1_v2.f x0 x1).bind fun t1 =>
  some t1
set_option maxRecDepth 100000 in
set_option maxHeartbeats 4000000 in
theorem auth_List_Default_v2.ok {x0 : auth_List} {x1 : Int} {r : Int} (h : auth_List_Default_v2.f x0 x1 = some r) : Pm.Spec prog 11 [.imm (.fp (auth_List.enc x0)), .imm (.val (.int .i64 x1))] (.imm (.val (.int .i64 r))) [none, none] := by
 unfold auth_List_Default_v2.f at h; refine Pm.Spec.of_body Try.func11 rfl (by kernel_rfl) (Nat.le_of_ble_eq_true rfl) (Nat.le_of_ble_eq_true rfl) ?_; refine W.ghost (σ' := (mkSt [(0, some (.imm (.fp (auth_List.enc x0)))), (1, some (.i x1))] [] 1000)) (Gives.entry (.c rfl (.c rfl .n)) .n) ?_; refine W.seq ?_; refine W.pk ?_; refine .a rfl rfl rfl rfl ?_; refine .nil ?_; refine W.seq ?_; obtain ⟨t1, b2, h⟩ := bnd1 h; refine W.pk ?_; (iterate 2 refine .m rfl rfl rfl rfl ?_); refine .call (.i t1) [] 0 (auth_List_change__auth_List_Default_1_v2.ok b2) rfl rfl rfl ca25 rfl rfl (cC (.imm _) (cC (.imm _) (cC (.fn _ _ _ _ _ .nil) .nil))) rfl rfl rfl rfl rfl ?_; refine .a rfl rfl rfl rfl ?_; refine .nil ?_; refine W.ret ?_; cases h; exact leaves (.inr rfl) rfl (.imm _) (cN (cN .nil)) rfl rfl

noncomputable def auth_List_Able_v2.f (x0 : auth_List) (x1 : Int) : Option (Bool) :=
  (auth_List_Get_v2.f x0 x1).bind fun t1 =>
  some (t1.2 && (t1.1.State != 3))
set_option maxRecDepth 100000 in
set_option maxHeartbeats 4000000 in
theorem auth_List_Able_v2.ok {x0 : auth_List} {x1 : Int} {r : Bool} (h : auth_List_Able_v2.f x0 x1 = some r) : Pm.Spec prog 12 [.imm (.fp (auth_List.enc x0)), .imm (.val (.int .i64 x1))] (.imm (.val (.bool r))) [none, none] := by
 unfold auth_List_Able_v2.f at h; refine Pm.Spec.of_body Try.func12 rfl (by kernel_rfl) (Nat.le_of_ble_eq_true rfl) (Nat.le_of_ble_eq_true rfl) ?_; refine W.ghost (σ' := (mkSt [(0, some (.imm (.fp (auth_List.enc x0)))), (1, some (.i x1))] [] 1000)) (Gives.entry (.c rfl (.c rfl .n)) .n) ?_; refine W.seq ?_; refine W.pk ?_; refine .a rfl rfl rfl rfl ?_; refine .nil ?_; refine W.seq ?_; obtain ⟨t1, b2, h⟩ := bnd1 h; refine W.pk ?_; (iterate 2 refine .m rfl rfl rfl rfl ?_); refine .call (.tup [.agg (auth_Member.av t1.1), .b t1.2]) [] 0 (auth_List_Get_v2.ok b2) rfl rfl rfl ca4 rfl rfl (cC (.imm _) (cC (.imm _) .nil)) rfl rfl rfl rfl rfl ?_; refine .m rfl rfl rfl rfl ?_; (iterate 2 refine .v rfl rfl (OpL.extract rfl rfl rfl) ?_); refine .t rfl rfl (O.alloc z28 rfl) ?_; refine .s rfl rfl (O.st ty28 rfl rfl rfl rfl rfl rfl rfl rfl rfl rfl (all' := [.i t1.1.ID, .s t1.1.Name, .i t1.1.State, .i t1.1.Bound, .b t1.1.Late]) rfl) ?_; refine .a rfl rfl rfl rfl ?_; refine .nil ?_; refine W.seq ?_; refine W.fork (mkSt [(4, some (.b (t1.2 && (t1.1.State != 3))))] [] 1001) ?_ ?_
 ·refine W.ret ?_; cases h; exact leaves (.inr rfl) rfl (.imm _) (cN (cN .nil)) rfl rfl
 ·clear h; refine W.pk ?_; (iterate 2 refine .m rfl rfl rfl rfl ?_); rcases tf t1.2 with g3 | g3
  ·refine .v rfl (met rfl rfl rfl g3) (O.fld fld28_2 rfl rfl rfl) ?_; refine .v rfl (met rfl rfl rfl g3) (O.ld (y := .i t1.1.State) ty3 rfl rfl rfl) ?_; refine .v rfl (met rfl rfl rfl g3) (OpL.binI rfl rfl rfl rfl) ?_; refine .v rfl rfl (O.pickT g3 rfl rfl rfl) ?_; refine .a rfl rfl rfl rfl ?_; refine .nil ?_; exact toN (Gives.mkR [] (.c rfl (sbb (by simp only [g3, BL])) rfl .n) .n rfl rfl rfl)
  ·(iterate 3 refine .x rfl (unmet rfl rfl rfl g3) ?_); refine .v rfl rfl (O.pickF g3 rfl rfl rfl) ?_; refine .a rfl rfl rfl rfl ?_; refine .nil ?_; exact toN (Gives.mkR [] (.c rfl (sbb (by simp only [g3, BL])) rfl .n) .n rfl rfl rfl)

noncomputable def msg_Sender.f (x0 : msg_Message) : Option (Int) :=
  if (x0.ismsg_Offer) = true then
    some (((x0.asmsg_Offer).Quote).Member)
  else
    if (x0.ismsg_Cancel) = true then
      some ((x0.asmsg_Cancel).Member)
    else
      if (x0.ismsg_Notice) = true then
        some ((x0.asmsg_Notice).Member)
      else
        if (x0.ismsg_Swap) = true then
          some ((x0.asmsg_Swap).Member)
        else
          some 0
set_option maxRecDepth 100000 in
set_option maxHeartbeats 4000000 in
theorem msg_Sender.ok {x0 : msg_Message} {r : Int} (h : msg_Sender.f x0 = some r) : Pm.Spec prog 51 [.imm (msg_Message.enc x0)] (.imm (.val (.int .i64 r))) [none] := by
 unfold msg_Sender.f at h; refine Pm.Spec.of_body Try.func51 rfl (by kernel_rfl) (Nat.le_of_ble_eq_true rfl) (Nat.le_of_ble_eq_true rfl) ?_; refine W.ghost (σ' := (mkSt [(0, some (.imm (msg_Message.enc x0)))] [] 1000)) (Gives.entry (.c rfl .n) .n) ?_; refine W.seq ?_; refine W.pk ?_; refine .a rfl rfl rfl rfl ?_; refine .nil ?_; (iterate 2 refine W.seq ?_); refine W.pk ?_; refine .m rfl rfl rfl rfl ?_; refine .nil ?_; refine W.block ?_; refine W.seq ?_; refine W.pk ?_; refine .v rfl rfl (O.asOk (cs := [.i (((x0.asmsg_Offer).Quote).ID), .i (((x0.asmsg_Offer).Quote).Member), .i (((x0.asmsg_Offer).Quote).Side), .i (((x0.asmsg_Offer).Quote).Basket), .i (((x0.asmsg_Offer).Quote).Amount), .i (((x0.asmsg_Offer).Quote).Rate), .i (((x0.asmsg_Offer).Quote).Start), .i (((x0.asmsg_Offer).Quote).End)]) pl63 (msg_Message.atmsg_Offer x0) rfl rfl rfl) ?_; (iterate 2 refine .v rfl rfl (OpL.extract rfl rfl rfl) ?_); refine .nil ?_; refine W.cond rfl (fun q1 => ?_) (fun q1 => ?_)
 ·have h := ifT q1 h; refine W.seq ?_; refine W.pk ?_; refine .t rfl rfl (O.alloc z63 rfl) ?_; refine .s rfl rfl (O.st ty63 rfl rfl rfl rfl rfl rfl rfl rfl rfl rfl (all' := [.i (((x0.asmsg_Offer).Quote).ID), .i (((x0.asmsg_Offer).Quote).Member), .i (((x0.asmsg_Offer).Quote).Side), .i (((x0.asmsg_Offer).Quote).Basket), .i (((x0.asmsg_Offer).Quote).Amount), .i (((x0.asmsg_Offer).Quote).Rate), .i (((x0.asmsg_Offer).Quote).Start), .i (((x0.asmsg_Offer).Quote).End)]) rfl) ?_; refine .nil ?_; refine W.seq ?_; refine W.pk ?_; refine .v rfl rfl (O.fld fld63_0 rfl rfl rfl) ?_; refine .v rfl rfl (O.fld fld61_1 rfl rfl rfl) ?_; refine .v rfl rfl (O.ld (y := .i (((x0.asmsg_Offer).Quote).Member)) ty3 rfl rfl rfl) ?_; refine .a rfl rfl rfl rfl ?_; refine .nil ?_; refine W.ret ?_; cases h; exact leaves (.inr rfl) rfl (.imm _) (cN .nil) rfl rfl
 ·have h := ifF q1 h; refine W.seq ?_; refine W.pk ?_; refine .v rfl rfl (O.asOk (cs := [.i ((x0.asmsg_Cancel).Member), .i ((x0.asmsg_Cancel).Quote)]) pl126 (msg_Message.atmsg_Cancel x0) rfl rfl rfl) ?_; (iterate 2 refine .v rfl rfl (OpL.extract rfl rfl rfl) ?_); refine .nil ?_; refine W.cond rfl (fun q2 => ?_) (fun q2 => ?_)
  ·have h := ifT q2 h; refine W.seq ?_; refine W.pk ?_; refine .t rfl rfl (O.alloc z126 rfl) ?_; refine .s rfl rfl (O.st ty126 rfl rfl rfl rfl rfl rfl rfl rfl rfl rfl (all' := [.i ((x0.asmsg_Cancel).Member), .i ((x0.asmsg_Cancel).Quote)]) rfl) ?_; refine .nil ?_; refine W.seq ?_; refine W.pk ?_; refine .v rfl rfl (O.fld fld126_0 rfl rfl rfl) ?_; refine .v rfl rfl (O.ld (y := .i ((x0.asmsg_Cancel).Member)) ty3 rfl rfl rfl) ?_; refine .a rfl rfl rfl rfl ?_; refine .nil ?_; refine W.ret ?_; cases h; exact leaves (.inr rfl) rfl (.imm _) (cN .nil) rfl rfl
  ·have h := ifF q2 h; refine W.seq ?_; refine W.pk ?_; refine .v rfl rfl (O.asOk (cs := [.i ((x0.asmsg_Notice).Member), .i ((x0.asmsg_Notice).Trade), .i ((x0.asmsg_Notice).Day)]) pl128 (msg_Message.atmsg_Notice x0) rfl rfl rfl) ?_; (iterate 2 refine .v rfl rfl (OpL.extract rfl rfl rfl) ?_); refine .nil ?_; refine W.cond rfl (fun q3 => ?_) (fun q3 => ?_)
   ·have h := ifT q3 h; refine W.seq ?_; refine W.pk ?_; refine .t rfl rfl (O.alloc z128 rfl) ?_; refine .s rfl rfl (O.st ty128 rfl rfl rfl rfl rfl rfl rfl rfl rfl rfl (all' := [.i ((x0.asmsg_Notice).Member), .i ((x0.asmsg_Notice).Trade), .i ((x0.asmsg_Notice).Day)]) rfl) ?_; refine .nil ?_; refine W.seq ?_; refine W.pk ?_; refine .v rfl rfl (O.fld fld128_0 rfl rfl rfl) ?_; refine .v rfl rfl (O.ld (y := .i ((x0.asmsg_Notice).Member)) ty3 rfl rfl rfl) ?_; refine .a rfl rfl rfl rfl ?_; refine .nil ?_; refine W.ret ?_; cases h; exact leaves (.inr rfl) rfl (.imm _) (cN .nil) rfl rfl
   ·have h := ifF q3 h; refine W.seq ?_; refine W.pk ?_; refine .v rfl rfl (O.asOk (cs := [.i ((x0.asmsg_Swap).Member), .i ((x0.asmsg_Swap).Trade), .s (((x0.asmsg_Swap).Out).ISIN), .i (((x0.asmsg_Swap).Out).Qty), .imm (.row 2 (List.map api_Lot.enc ((x0.asmsg_Swap).In)))]) pl133 (msg_Message.atmsg_Swap x0) rfl rfl rfl) ?_; (iterate 2 refine .v rfl rfl (OpL.extract rfl rfl rfl) ?_); refine .nil ?_; refine W.cond rfl (fun q4 => ?_) (fun q4 => ?_)
    ·have h := ifT q4 h; refine W.seq ?_; refine W.pk ?_; refine .t rfl rfl (O.alloc z133 rfl) ?_; refine .s rfl rfl (O.st ty133 rfl rfl rfl rfl rfl rfl rfl rfl rfl rfl (all' := [.i ((x0.asmsg_Swap).Member), .i ((x0.asmsg_Swap).Trade), .s (((x0.asmsg_Swap).Out).ISIN), .i (((x0.asmsg_Swap).Out).Qty), .imm (.row 2 (List.map api_Lot.enc ((x0.asmsg_Swap).In)))]) rfl) ?_; refine .nil ?_; refine W.seq ?_; refine W.pk ?_; refine .v rfl rfl (O.fld fld133_0 rfl rfl rfl) ?_; refine .v rfl rfl (O.ld (y := .i ((x0.asmsg_Swap).Member)) ty3 rfl rfl rfl) ?_; refine .a rfl rfl rfl rfl ?_; refine .nil ?_; refine W.ret ?_; cases h; exact leaves (.inr rfl) rfl (.imm _) (cN .nil) rfl rfl
    ·have h := ifF q4 h; refine W.skip ?_; refine W.seq ?_; refine W.pk ?_; refine .a rfl rfl rfl rfl ?_; refine .nil ?_; refine W.ret ?_; cases h; exact leaves (.inr rfl) rfl (.imm _) (cN .nil) rfl rfl

noncomputable def auth_subject.f (x0 : msg_Message) : Option (List Int) :=
  if (x0.ismsg_Cash) = true then
    some [(x0.asmsg_Cash).Member]
  else
    if (x0.ismsg_Move) = true then
      some [(x0.asmsg_Move).Member]
    else
      if (x0.ismsg_Settle) = true then
        some [(x0.asmsg_Settle).Member]
      else
        if (x0.ismsg_Default) = true then
          some [(x0.asmsg_Default).Member]
        else
          if (x0.ismsg_Bound) = true then
            some [(x0.asmsg_Bound).Member]
          else
            (msg_Sender.f x0).bind fun t6 =>
            if (decide (t6 > 0)) = true then
              some [t6]
            else
              some []
set_option maxRecDepth 100000 in
set_option maxHeartbeats 4000000 in
theorem auth_subject.ok {x0 : msg_Message} {r : List Int} (h : auth_subject.f x0 = some r) : Pm.Spec prog 30 [.imm (msg_Message.enc x0)] (.xown 3 1 (List.map (encI .i64) r)) [none] := by
 unfold auth_subject.f at h; refine Pm.Spec.of_body Try.func30 rfl (by kernel_rfl) (Nat.le_of_ble_eq_true rfl) (Nat.le_of_ble_eq_true rfl) ?_; refine W.ghost (σ' := (mkSt [(0, some (.imm (msg_Message.enc x0)))] [] 1000)) (Gives.entry (.c rfl .n) .n) ?_; refine W.seq ?_; refine W.pk ?_; refine .a rfl rfl rfl rfl ?_; refine .nil ?_; (iterate 2 refine W.seq ?_); refine W.pk ?_; refine .m rfl rfl rfl rfl ?_; refine .nil ?_; refine W.block ?_; refine W.seq ?_; refine W.pk ?_; refine .v rfl rfl (O.asOk (cs := [.i ((x0.asmsg_Cash).Member), .s ((x0.asmsg_Cash).Currency), .i ((x0.asmsg_Cash).Amount)]) pl90 (msg_Message.atmsg_Cash x0) rfl rfl rfl) ?_; (iterate 2 refine .v rfl rfl (OpL.extract rfl rfl rfl) ?_); refine .nil ?_; refine W.cond rfl (fun q1 => ?_) (fun q1 => ?_)
 ·have h := ifT q1 h; refine W.seq ?_; refine W.pk ?_; refine .t rfl rfl (O.alloc z90 rfl) ?_; refine .s rfl rfl (O.st ty90 rfl rfl rfl rfl rfl rfl rfl rfl rfl rfl (all' := [.i ((x0.asmsg_Cash).Member), .s ((x0.asmsg_Cash).Currency), .i ((x0.asmsg_Cash).Amount)]) rfl) ?_; refine .nil ?_; refine W.seq ?_; refine W.pk ?_; refine .v rfl rfl (O.fld fld90_0 rfl rfl rfl) ?_; refine .v rfl rfl (O.ld (y := .i ((x0.asmsg_Cash).Member)) ty3 rfl rfl rfl) ?_; refine .t rfl rfl (O.lit (enc := (encI .i64)) (l := [(x0.asmsg_Cash).Member]) sl58 rfl rfl rfl rfl rfl rfl rfl rfl rfl) ?_; refine .a rfl rfl rfl rfl ?_; refine .nil ?_; refine W.ret ?_; cases h; exact leaves (.inr rfl) rfl (.own _ _ _ _ rfl) (cN .nil) rfl rfl
 ·have h := ifF q1 h; refine W.seq ?_; refine W.pk ?_; refine .v rfl rfl (O.asOk (cs := [.i ((x0.asmsg_Move).Member), .s ((x0.asmsg_Move).ISIN), .i ((x0.asmsg_Move).Qty)]) pl93 (msg_Message.atmsg_Move x0) rfl rfl rfl) ?_; (iterate 2 refine .v rfl rfl (OpL.extract rfl rfl rfl) ?_); refine .nil ?_; refine W.cond rfl (fun q2 => ?_) (fun q2 => ?_)
  ·have h := ifT q2 h; refine W.seq ?_; refine W.pk ?_; refine .t rfl rfl (O.alloc z93 rfl) ?_; refine .s rfl rfl (O.st ty93 rfl rfl rfl rfl rfl rfl rfl rfl rfl rfl (all' := [.i ((x0.asmsg_Move).Member), .s ((x0.asmsg_Move).ISIN), .i ((x0.asmsg_Move).Qty)]) rfl) ?_; refine .nil ?_; refine W.seq ?_; refine W.pk ?_; refine .v rfl rfl (O.fld fld93_0 rfl rfl rfl) ?_; refine .v rfl rfl (O.ld (y := .i ((x0.asmsg_Move).Member)) ty3 rfl rfl rfl) ?_; refine .t rfl rfl (O.lit (enc := (encI .i64)) (l := [(x0.asmsg_Move).Member]) sl58 rfl rfl rfl rfl rfl rfl rfl rfl rfl) ?_; refine .a rfl rfl rfl rfl ?_; refine .nil ?_; refine W.ret ?_; cases h; exact leaves (.inr rfl) rfl (.own _ _ _ _ rfl) (cN .nil) rfl rfl
  ·have h := ifF q2 h; refine W.seq ?_; refine W.pk ?_; refine .v rfl rfl (O.asOk (cs := [.i ((x0.asmsg_Settle).Member), .i ((x0.asmsg_Settle).Day), .b ((x0.asmsg_Settle).Done)]) pl100 (msg_Message.atmsg_Settle x0) rfl rfl rfl) ?_; (iterate 2 refine .v rfl rfl (OpL.extract rfl rfl rfl) ?_); refine .nil ?_; refine W.cond rfl (fun q3 => ?_) (fun q3 => ?_)
   ·have h := ifT q3 h; refine W.seq ?_; refine W.pk ?_; refine .t rfl rfl (O.alloc z100 rfl) ?_; refine .s rfl rfl (O.st ty100 rfl rfl rfl rfl rfl rfl rfl rfl rfl rfl (all' := [.i ((x0.asmsg_Settle).Member), .i ((x0.asmsg_Settle).Day), .b ((x0.asmsg_Settle).Done)]) rfl) ?_; refine .nil ?_; refine W.seq ?_; refine W.pk ?_; refine .v rfl rfl (O.fld fld100_0 rfl rfl rfl) ?_; refine .v rfl rfl (O.ld (y := .i ((x0.asmsg_Settle).Member)) ty3 rfl rfl rfl) ?_; refine .t rfl rfl (O.lit (enc := (encI .i64)) (l := [(x0.asmsg_Settle).Member]) sl58 rfl rfl rfl rfl rfl rfl rfl rfl rfl) ?_; refine .a rfl rfl rfl rfl ?_; refine .nil ?_; refine W.ret ?_; cases h; exact leaves (.inr rfl) rfl (.own _ _ _ _ rfl) (cN .nil) rfl rfl
   ·have h := ifF q3 h; refine W.seq ?_; refine W.pk ?_; refine .v rfl rfl (O.asOk (cs := [.i ((x0.asmsg_Default).Member)]) pl102 (msg_Message.atmsg_Default x0) rfl rfl rfl) ?_; (iterate 2 refine .v rfl rfl (OpL.extract rfl rfl rfl) ?_); refine .nil ?_; refine W.cond rfl (fun q4 => ?_) (fun q4 => ?_)
    ·have h := ifT q4 h; refine W.seq ?_; refine W.pk ?_; refine .t rfl rfl (O.alloc z102 rfl) ?_; refine .s rfl rfl (O.st ty102 rfl rfl rfl rfl rfl rfl rfl rfl rfl rfl (all' := [.i ((x0.asmsg_Default).Member)]) rfl) ?_; refine .nil ?_; refine W.seq ?_; refine W.pk ?_; refine .v rfl rfl (O.fld fld102_0 rfl rfl rfl) ?_; refine .v rfl rfl (O.ld (y := .i ((x0.asmsg_Default).Member)) ty3 rfl rfl rfl) ?_; refine .t rfl rfl (O.lit (enc := (encI .i64)) (l := [(x0.asmsg_Default).Member]) sl58 rfl rfl rfl rfl rfl rfl rfl rfl rfl) ?_; refine .a rfl rfl rfl rfl ?_; refine .nil ?_; refine W.ret ?_; cases h; exact leaves (.inr rfl) rfl (.own _ _ _ _ rfl) (cN .nil) rfl rfl
    ·have h := ifF q4 h; refine W.seq ?_; refine W.pk ?_; refine .v rfl rfl (O.asOk (cs := [.i ((x0.asmsg_Bound).Member), .i ((x0.asmsg_Bound).Amount)]) pl104 (msg_Message.atmsg_Bound x0) rfl rfl rfl) ?_; (iterate 2 refine .v rfl rfl (OpL.extract rfl rfl rfl) ?_); refine .nil ?_; refine W.cond rfl (fun q5 => ?_) (fun q5 => ?_)
     ·have h := ifT q5 h; refine W.seq ?_; refine W.pk ?_; refine .t rfl rfl (O.alloc z104 rfl) ?_; refine .s rfl rfl (O.st ty104 rfl rfl rfl rfl rfl rfl rfl rfl rfl rfl (all' := [.i ((x0.asmsg_Bound).Member), .i ((x0.asmsg_Bound).Amount)]) rfl) ?_; refine .nil ?_; refine W.seq ?_; refine W.pk ?_; refine .v rfl rfl (O.fld fld104_0 rfl rfl rfl) ?_; refine .v rfl rfl (O.ld (y := .i ((x0.asmsg_Bound).Member)) ty3 rfl rfl rfl) ?_; refine .t rfl rfl (O.lit (enc := (encI .i64)) (l := [(x0.asmsg_Bound).Member]) sl58 rfl rfl rfl rfl rfl rfl rfl rfl rfl) ?_; refine .a rfl rfl rfl rfl ?_; refine .nil ?_; refine W.ret ?_; cases h; exact leaves (.inr rfl) rfl (.own _ _ _ _ rfl) (cN .nil) rfl rfl
     ·have h := ifF q5 h; refine W.skip ?_; (iterate 2 refine W.seq ?_); obtain ⟨t6, b7, h⟩ := bnd1 h; refine W.pk ?_; refine .m rfl rfl rfl rfl ?_; refine .call (.i t6) [] 0 (msg_Sender.ok b7) rfl rfl rfl ca51 rfl rfl (cC (.imm _) .nil) rfl rfl rfl rfl rfl ?_; refine .a rfl rfl rfl rfl ?_; refine .nil ?_; refine W.seq ?_; refine W.pk ?_; refine .m rfl rfl rfl rfl ?_; refine .v rfl rfl (OpL.binI rfl rfl rfl rfl) ?_; refine .nil ?_; refine W.cond rfl (fun q8 => ?_) (fun q8 => ?_)
      ·have h := ifT q8 h; refine W.seq ?_; refine W.pk ?_; refine .m rfl rfl rfl rfl ?_; refine .t rfl rfl (O.lit (enc := (encI .i64)) (l := [t6]) sl58 rfl rfl rfl rfl rfl rfl rfl rfl rfl) ?_; refine .a rfl rfl rfl rfl ?_; refine .nil ?_; refine W.ret ?_; cases h; exact leaves (.inr rfl) rfl (.own _ _ _ _ rfl) (cN .nil) rfl rfl
      ·have h := ifF q8 h; refine W.skip ?_; refine W.seq ?_; refine W.pk ?_; refine .a rfl rfl rfl rfl ?_; refine .nil ?_; refine W.ret ?_; cases h; exact leaves (.inr rfl) rfl (.nilown _ _) (cN .nil) rfl rfl

noncomputable def auth_List_May_v2.b0 (x0 : auth_List) (t5 : List Int) (v15 : Int) : Option (Int ⊕ (Int ⊕ Unit)) :=
  if (decide (v15 < (List.length t5 : Int))) = true then
    if (0 : Int) ≤ v15 ∧ v15 < (List.length t5 : Int) then
    (auth_List_Get_v2.f x0 (nth t5 v15)).bind fun t38 =>
    if (!t38.2) = true then
      some (.inr (.inl 6))
    else
      (auth_List_Able_v2.f x0 (nth t5 v15)).bind fun t41 =>
      if (!t41) = true then
        some (.inr (.inl 30))
      else
        some (.inl (IntKind.wrap .i64 (v15 + 1)))
    else none
  else
    some (.inr (.inr ()))
noncomputable def auth_List_May_v2.r0 (x0 : auth_List) (t5 : List Int) (s : Int) : Option (Int ⊕ (Int ⊕ Unit)) := auth_List_May_v2.b0 x0 t5 s
noncomputable def auth_List_May_v2.f (x0 : auth_List) (x1 : msg_Message) : Option (Int) :=
  if (!x0.made) = true then
    some 3
  else
    (msg_Check.f x1).bind fun t2 =>
    if (t2 != 0) = true then
      some t2
    else
      (auth_subject.f x1).bind fun t5 =>
      (loop (auth_List_May_v2.r0 x0 t5) 0).bind fun o33 =>
      match o33 with
      | .inl r44 => some r44
      | .inr w32 =>
        if (x1.ismsg_Offer) = true then
          (auth_List_Get_v2.f x0 (((x1.asmsg_Offer).Quote).Member)).bind fun t46 =>
          if (t46.1.State == 2) = true then
            some 30
          else
            some 0
        else
          some 0
set_option maxRecDepth 100000 in
set_option maxHeartbeats 4000000 in
theorem auth_List_May_v2.ok {x0 : auth_List} {x1 : msg_Message} {r : Int} (h : auth_List_May_v2.f x0 x1 = some r) : Pm.Spec prog 13 [.imm (.fp (auth_List.enc x0)), .imm (msg_Message.enc x1)] (.imm (.val (.int .i64 r))) [none, none] := by
 unfold auth_List_May_v2.f at h; refine Pm.Spec.of_body Try.func13 rfl (by kernel_rfl) (Nat.le_of_ble_eq_true rfl) (Nat.le_of_ble_eq_true rfl) ?_; refine W.ghost (σ' := (mkSt [(0, some (.imm (.fp (auth_List.enc x0)))), (1, some (.imm (msg_Message.enc x1)))] [] 1000)) (Gives.entry (.c rfl (.c rfl .n)) .n) ?_; refine W.seq ?_; refine W.pk ?_; refine .a rfl rfl rfl rfl ?_; refine .nil ?_; (iterate 2 refine W.seq ?_); refine W.pk ?_; refine .m rfl rfl rfl rfl ?_; refine .v rfl rfl (OpL.eqP rfl u22 rfl rfl rfl) ?_; refine .m rfl rfl rfl rfl ?_; refine .m rfl (met rfl rfl rfl rfl) rfl rfl ?_; refine .v rfl (met rfl rfl rfl rfl) (OpL.nilP rfl rfl rfl) ?_; refine .v rfl (met rfl rfl rfl rfl) (O.fld fld25_1 rfl rfl rfl) ?_; refine .v rfl (met rfl rfl rfl rfl) (O.ld (y := .b x0.made) ty4 rfl rfl rfl) ?_; refine .v rfl (met rfl rfl rfl rfl) (OpL.unV rfl rfl rfl) ?_; refine .v rfl rfl (O.pickF rfl rfl rfl rfl) ?_; refine .nil ?_; refine W.cond rfl (fun q1 => ?_) (fun q1 => ?_)
 ·have h := ifT q1 h; refine W.seq ?_; refine W.pk ?_; refine .a rfl rfl rfl rfl ?_; refine .nil ?_; refine W.ret ?_; cases h; exact leaves (.inr rfl) rfl (.imm _) (cN (cN .nil)) rfl rfl
 ·have h := ifF q1 h; refine W.skip ?_; (iterate 2 refine W.seq ?_); obtain ⟨t2, b3, h⟩ := bnd1 h; refine W.pk ?_; refine .m rfl rfl rfl rfl ?_; refine .call (.i t2) [] 0 (msg_Check.ok b3) rfl rfl rfl ca20 rfl rfl (cC (.imm _) .nil) rfl rfl rfl rfl rfl ?_; refine .a rfl rfl rfl rfl ?_; refine .nil ?_; refine W.seq ?_; refine W.pk ?_; refine .m rfl rfl rfl rfl ?_; refine .v rfl rfl (OpL.binI rfl rfl rfl rfl) ?_; refine .nil ?_; refine W.cond rfl (fun q4 => ?_) (fun q4 => ?_)
  ·have h := ifT q4 h; refine W.seq ?_; refine W.pk ?_; refine .m rfl rfl rfl rfl ?_; refine .a rfl rfl rfl rfl ?_; refine .nil ?_; refine W.ret ?_; cases h; exact leaves (.inr rfl) rfl (.imm _) (cN (cN .nil)) rfl rfl
  ·have h := ifF q4 h; refine W.skip ?_; (iterate 2 refine W.seq ?_); obtain ⟨t5, b6, h⟩ := bnd1 h; refine W.pk ?_; refine .m rfl rfl rfl rfl ?_; refine .call (.own 1000) [(1000, some (.rows 3 1 (List.map (encI .i64) t5) false))] 1 (auth_subject.ok b6) rfl rfl rfl ca30 rfl rfl (cC (.imm _) .nil) rfl rfl rfl rfl rfl ?_; refine .v rfl rfl (O.lenO sl58 rfl rfl rfl) ?_; refine .m rfl rfl rfl rfl ?_; refine .nil ?_; obtain ⟨o33, b34, z35⟩ := bnd1 h; refine W.fork2 (out := o33) (fun (w32 : Unit) => mkSt [(0, some (.imm (.fp (auth_List.enc x0)))), (1, some (.imm (msg_Message.enc x1)))] [] 1001) ?_ ?_
   ·clear h; refine W.block ?_; refine W.loopF (fun (s_ : Int) => mkSt [(0, some (.imm (.fp (auth_List.enc x0)))), (1, some (.imm (msg_Message.enc x1))), (29, some (.own 1000)), (30, some (.i (List.length t5 : Int))), (31, some (.i s_))] [(1000, some (.rows 3 1 (List.map (encI .i64) t5) false))] 1001) b34 (Gives.mkR [] (.e rfl rfl) (.r rfl rfl rfl .n) rfl rfl rfl) ?_; rintro v15 s_ hr; have h : auth_List_May_v2.b0 x0 t5 v15 = some s_ := hr; unfold auth_List_May_v2.b0 at h; refine W.seq ?_; refine W.pk ?_; refine .v rfl rfl (OpL.binI rfl rfl rfl rfl) ?_; refine .nil ?_; refine W.seq ?_; refine W.cond rfl (fun q36 => ?_) (fun q36 => ?_)
    ·have h := ifT q36 h; refine W.skip ?_; refine W.seq ?_; refine W.block ?_; refine W.seq ?_; obtain ⟨c37, h⟩ := chk h; refine W.pk ?_; refine .v rfl rfl (O.idxO sl58 c37 rfl rfl rfl rfl) ?_; refine .v rfl rfl (O.ldE (c := (.val (.int .i64 (nth t5 v15)))) ty3 c37 rfl rfl rfl rfl rfl) ?_; refine .a rfl rfl rfl rfl ?_; refine .nil ?_; (iterate 2 refine W.seq ?_); obtain ⟨t38, b39, h⟩ := bnd1 h; refine W.pk ?_; (iterate 2 refine .m rfl rfl rfl rfl ?_); refine .call (.tup [.agg (auth_Member.av t38.1), .b t38.2]) [] 0 (auth_List_Get_v2.ok b39) rfl rfl rfl ca4 rfl rfl (cC (.imm _) (cC (.imm _) .nil)) rfl rfl rfl rfl rfl ?_; refine .m rfl rfl rfl rfl ?_; (iterate 2 refine .v rfl rfl (OpL.extract rfl rfl rfl) ?_); refine .t rfl rfl (O.alloc z28 rfl) ?_; refine .s rfl rfl (O.st ty28 rfl rfl rfl rfl rfl rfl rfl rfl rfl rfl (all' := [.i t38.1.ID, .s t38.1.Name, .i t38.1.State, .i t38.1.Bound, .b t38.1.Late]) rfl) ?_; refine .a rfl rfl rfl rfl ?_; refine .nil ?_; refine W.seq ?_; refine W.pk ?_; refine .m rfl rfl rfl rfl ?_; refine .v rfl rfl (OpL.unV rfl rfl rfl) ?_; refine .nil ?_; refine W.cond rfl (fun q40 => ?_) (fun q40 => ?_)
     ·have h := ifT q40 h; refine W.seq ?_; refine W.pk ?_; refine .a rfl rfl rfl rfl ?_; refine .nil ?_; refine W.ret ?_; cases h; refine rdR fun e_ => ?_; subst e_; have h := z35; dsimp only at h; refine fkR ?_; cases h; exact leaves (.inr rfl) rfl (.imm _) (cN (cN .nil)) rfl rfl
     ·have h := ifF q40 h; refine W.skip ?_; refine W.seq ?_; obtain ⟨t41, b42, h⟩ := bnd1 h; refine W.pk ?_; (iterate 2 refine .m rfl rfl rfl rfl ?_); refine .call (.b t41) [] 0 (auth_List_Able_v2.ok b42) rfl rfl rfl ca12 rfl rfl (cC (.imm _) (cC (.imm _) .nil)) rfl rfl rfl rfl rfl ?_; refine .v rfl rfl (OpL.unV rfl rfl rfl) ?_; refine .nil ?_; refine W.cond rfl (fun q43 => ?_) (fun q43 => ?_)
      ·have h := ifT q43 h; refine W.seq ?_; refine W.pk ?_; refine .a rfl rfl rfl rfl ?_; refine .nil ?_; refine W.ret ?_; cases h; refine rdR fun e_ => ?_; subst e_; have h := z35; dsimp only at h; refine fkR ?_; cases h; exact leaves (.inr rfl) rfl (.imm _) (cN (cN .nil)) rfl rfl
      ·have h := ifF q43 h; refine W.skip ?_; refine W.pk ?_; refine .v rfl rfl (OpL.binI rfl rfl rfl rfl) ?_; refine .m rfl rfl rfl rfl ?_; refine .nil ?_; cases h; exact rdN (Gives.mkR [] (.e rfl rfl) (.r rfl rfl rfl .n) rfl rfl rfl)
    ·have h := ifF q36 h; refine W.exit ?_; cases h; refine rdX fun e_ => ?_; subst e_; (repeat with_reducible refine thru ?_); refine hit ?_; exact fkN (Gives.mkR [] (.e rfl rfl) .n rfl rfl rfl)
   ·intro w32 e_; subst e_; clear h; have h := z35; dsimp only at h; (iterate 2 refine W.seq ?_); refine W.pk ?_; refine .m rfl rfl rfl rfl ?_; refine .v rfl rfl (O.asOk (cs := [.i (((x1.asmsg_Offer).Quote).ID), .i (((x1.asmsg_Offer).Quote).Member), .i (((x1.asmsg_Offer).Quote).Side), .i (((x1.asmsg_Offer).Quote).Basket), .i (((x1.asmsg_Offer).Quote).Amount), .i (((x1.asmsg_Offer).Quote).Rate), .i (((x1.asmsg_Offer).Quote).Start), .i (((x1.asmsg_Offer).Quote).End)]) pl63 (msg_Message.atmsg_Offer x1) rfl rfl rfl) ?_; refine .m rfl rfl rfl rfl ?_; (iterate 2 refine .v rfl rfl (OpL.extract rfl rfl rfl) ?_); refine .t rfl rfl (O.alloc z63 rfl) ?_; refine .s rfl rfl (O.st ty63 rfl rfl rfl rfl rfl rfl rfl rfl rfl rfl (all' := [.i (((x1.asmsg_Offer).Quote).ID), .i (((x1.asmsg_Offer).Quote).Member), .i (((x1.asmsg_Offer).Quote).Side), .i (((x1.asmsg_Offer).Quote).Basket), .i (((x1.asmsg_Offer).Quote).Amount), .i (((x1.asmsg_Offer).Quote).Rate), .i (((x1.asmsg_Offer).Quote).Start), .i (((x1.asmsg_Offer).Quote).End)]) rfl) ?_; refine .a rfl rfl rfl rfl ?_; refine .nil ?_; refine W.seq ?_; refine W.pk ?_; refine .m rfl rfl rfl rfl ?_; refine .nil ?_; refine W.cond rfl (fun q45 => ?_) (fun q45 => ?_)
    ·have h := ifT q45 h; refine W.seq ?_; obtain ⟨t46, b47, h⟩ := bnd1 h; refine W.pk ?_; refine .m rfl rfl rfl rfl ?_; refine .v rfl rfl (O.fld fld63_0 rfl rfl rfl) ?_; refine .v rfl rfl (O.fld fld61_1 rfl rfl rfl) ?_; refine .v rfl rfl (O.ld (y := .i (((x1.asmsg_Offer).Quote).Member)) ty3 rfl rfl rfl) ?_; refine .call (.tup [.agg (auth_Member.av t46.1), .b t46.2]) [] 0 (auth_List_Get_v2.ok b47) rfl rfl rfl ca4 rfl rfl (cC (.imm _) (cC (.imm _) .nil)) rfl rfl rfl rfl rfl ?_; refine .m rfl rfl rfl rfl ?_; (iterate 2 refine .v rfl rfl (OpL.extract rfl rfl rfl) ?_); refine .t rfl rfl (O.alloc z28 rfl) ?_; refine .s rfl rfl (O.st ty28 rfl rfl rfl rfl rfl rfl rfl rfl rfl rfl (all' := [.i t46.1.ID, .s t46.1.Name, .i t46.1.State, .i t46.1.Bound, .b t46.1.Late]) rfl) ?_; refine .a rfl rfl rfl rfl ?_; refine .nil ?_; refine W.seq ?_; refine W.pk ?_; refine .v rfl rfl (O.fld fld28_2 rfl rfl rfl) ?_; refine .v rfl rfl (O.ld (y := .i t46.1.State) ty3 rfl rfl rfl) ?_; refine .v rfl rfl (OpL.binI rfl rfl rfl rfl) ?_; refine .nil ?_; refine W.cond rfl (fun q48 => ?_) (fun q48 => ?_)
     ·have h := ifT q48 h; refine W.seq ?_; refine W.pk ?_; refine .a rfl rfl rfl rfl ?_; refine .nil ?_; refine W.ret ?_; cases h; exact leaves (.inr rfl) rfl (.imm _) (cN (cN .nil)) rfl rfl
     ·have h := ifF q48 h; refine W.skip ?_; refine W.seq ?_; refine W.pk ?_; refine .a rfl rfl rfl rfl ?_; refine .nil ?_; refine W.ret ?_; cases h; exact leaves (.inr rfl) rfl (.imm _) (cN (cN .nil)) rfl rfl
    ·have h := ifF q45 h; refine W.skip ?_; refine W.seq ?_; refine W.pk ?_; refine .a rfl rfl rfl rfl ?_; refine .nil ?_; refine W.ret ?_; cases h; exact leaves (.inr rfl) rfl (.imm _) (cN (cN .nil)) rfl rfl

noncomputable def auth_List_Clone_v2.f (x0 : auth_List) : Option (Unit) :=
  if (!x0.made) = true then
    some ()
  else
    none
set_option maxRecDepth 100000 in
set_option maxHeartbeats 4000000 in
theorem auth_List_Clone_v2.ok {x0 : auth_List} {r : Unit} (h : auth_List_Clone_v2.f x0 = some r) : Pm.Spec prog 14 [.imm (.fp (auth_List.enc x0))] (.imm (.val (.pointer none))) [none] := by
 unfold auth_List_Clone_v2.f at h; refine Pm.Spec.of_body Try.func14 rfl (by kernel_rfl) (Nat.le_of_ble_eq_true rfl) (Nat.le_of_ble_eq_true rfl) ?_; refine W.ghost (σ' := (mkSt [(0, some (.imm (.fp (auth_List.enc x0))))] [] 1000)) (Gives.entry (.c rfl .n) .n) ?_; refine W.seq ?_; refine W.pk ?_; refine .a rfl rfl rfl rfl ?_; refine .nil ?_; (iterate 2 refine W.seq ?_); refine W.pk ?_; refine .m rfl rfl rfl rfl ?_; refine .v rfl rfl (OpL.eqP rfl u22 rfl rfl rfl) ?_; refine .m rfl rfl rfl rfl ?_; refine .m rfl (met rfl rfl rfl rfl) rfl rfl ?_; refine .v rfl (met rfl rfl rfl rfl) (OpL.nilP rfl rfl rfl) ?_; refine .v rfl (met rfl rfl rfl rfl) (O.fld fld25_1 rfl rfl rfl) ?_; refine .v rfl (met rfl rfl rfl rfl) (O.ld (y := .b x0.made) ty4 rfl rfl rfl) ?_; refine .v rfl (met rfl rfl rfl rfl) (OpL.unV rfl rfl rfl) ?_; refine .v rfl rfl (O.pickF rfl rfl rfl rfl) ?_; refine .nil ?_; refine W.cond rfl (fun q1 => ?_) (fun q1 => ?_)
 ·have h := ifT q1 h; refine W.seq ?_; refine W.pk ?_; refine .a rfl rfl rfl rfl ?_; refine .nil ?_; refine W.ret ?_; cases h; exact leaves (.inr rfl) rfl (.imm _) (cN .nil) rfl rfl
 ·have h := ifF q1 h; cases h

noncomputable def auth_New.f  : Option (auth_List) :=
  some (⟨[], true⟩ : auth_List)
set_option maxRecDepth 100000 in
set_option maxHeartbeats 4000000 in
theorem auth_New.ok  {r : auth_List} (h : auth_New.f  = some r) : Pm.Spec prog 31 [] (.xbox [.xown 28 5 (List.map auth_Member.enc r.l), .imm (.val (.bool r.made))]) [] := by
 unfold auth_New.f at h; refine Pm.Spec.of_body Try.func31 rfl (by kernel_rfl) (Nat.le_of_ble_eq_true rfl) (Nat.le_of_ble_eq_true rfl) ?_; refine W.ghost (σ' := (mkSt [] [] 1000)) (Gives.entry .n .n) ?_; refine W.seq ?_; refine W.pk ?_; refine .a rfl rfl rfl rfl ?_; refine .nil ?_; refine W.seq ?_; refine W.pk ?_; refine .v rfl rfl (O.build (out := [.imm (.val (.slice none 0 0)), .b true]) bl25 rfl rfl rfl rfl (by kernel_rfl)) ?_; refine .t rfl rfl (O.box rfl rfl rfl rfl rfl) ?_; refine .a rfl rfl rfl rfl ?_; refine .nil ?_; refine W.ret ?_; cases h; exact leaves (.inr rfl) rfl (.ptr _ _ _ _ _ rfl (cC (.nilown _ _) (cC (.imm _) .nil))) .nil rfl rfl

set_option maxRecDepth 100000 in
set_option maxHeartbeats 4000000 in
theorem slices_BinarySearchFunc_int__auth_List_place_1_v2.ok {x0 : List auth_Member} {x1 : Int} {r : Int × Bool} (h : slices_BinarySearchFunc_int__auth_List_place_1.f x0 x1 = some r) : Pm.Spec prog 32 [.xown 28 5 (List.map auth_Member.enc x0), .imm (.val (.int .i64 x1)), .fn 33 []] (.tup [.imm (.val (.int .i64 r.1)), .imm (.val (.bool r.2))]) [some (.xown 28 5 (List.map auth_Member.enc x0)), none, none] := by
 unfold slices_BinarySearchFunc_int__auth_List_place_1.f at h; refine Pm.Spec.of_body Try.func32 rfl (by kernel_rfl) (Nat.le_of_ble_eq_true rfl) (Nat.le_of_ble_eq_true rfl) ?_; refine W.ghost (σ' := (mkSt [(0, some (.own 0)), (1, some (.i x1)), (2, some (.fn 33 []))] [(0, some (.rows 28 5 (List.map auth_Member.enc x0) false))] 1000)) (Gives.entry (.c rfl (.c rfl (.c rfl .n))) (.c rfl .n)) ?_; refine W.seq ?_; refine W.pk ?_; (iterate 2 refine .a rfl rfl rfl rfl ?_); refine .nil ?_; refine W.seq ?_; refine W.pk ?_; refine .m rfl rfl rfl rfl ?_; refine .v rfl rfl (O.lenO sl23 rfl rfl rfl) ?_; refine .a rfl rfl rfl rfl ?_; refine .nil ?_; refine W.seq ?_; refine W.pk ?_; refine .m rfl rfl rfl rfl ?_; (iterate 2 refine .a rfl rfl rfl rfl ?_); refine .nil ?_; refine W.seq ?_; obtain ⟨o19, b20, h⟩ := bnd1 h; refine W.fork (mkSt [(0, some (.own 0)), (1, some (.i x1)), (2, some (.fn 33 [])), (8, some (.i (List.length x0 : Int))), (9, some (.i o19))] [(0, some (.rows 28 5 (List.map auth_Member.enc x0) false))] 1000) ?_ ?_
 ·refine W.seq ?_; obtain ⟨c27, h⟩ := chk h; obtain ⟨t28, b29, h⟩ := bnd1 h; refine W.fork (mkSt [(6, some (.i o19)), (7, some (.b ((decide (o19 < (List.length x0 : Int))) && (t28 == 0))))] [(0, some (.rows 28 5 (List.map auth_Member.enc x0) false))] 1000) ?_ ?_
  ·refine W.ret ?_; cases h; exact leaves (.inr rfl) rfl (.tup _ _ _ _ (cC (.imm _) (cC (.imm _) .nil))) (cS (.own _ _ _ _ rfl) (cN (cN .nil))) rfl rfl
  ·clear h; refine W.pk ?_; (iterate 3 refine .m rfl rfl rfl rfl ?_); refine .v rfl rfl (OpL.binI rfl rfl rfl rfl) ?_; refine .m rfl rfl rfl rfl ?_; rcases tf (decide (o19 < (List.length x0 : Int))) with g30 | g30
   ·(iterate 3 refine .m rfl (met rfl rfl rfl g30) rfl rfl ?_); refine .v rfl (met rfl rfl rfl g30) (O.idxO sl23 (c27 (by simp only [g30, BL])) rfl rfl rfl rfl) ?_; refine .v rfl (met rfl rfl rfl g30) (O.ldEN ty28 (c27 (by simp only [g30, BL])) rfl rfl rfl rfl rfl) ?_; refine .m rfl (met rfl rfl rfl g30) rfl rfl ?_; refine .call (.i t28) [] 0 (auth_List_place_1_v2.ok ((if_pos (by simp only [g30, BL])).symm.trans b29)) rfl (met rfl rfl rfl g30) rfl ca33 rfl rfl (cC (.agg _ _ _ _ (cC (.imm _) (cC (.imm _) (cC (.imm _) (cC (.imm _) (cC (.imm _) .nil)))))) (cC (.imm _) .nil)) rfl rfl rfl rfl rfl ?_; refine .v rfl (met rfl rfl rfl g30) (OpL.binI rfl rfl rfl rfl) ?_; refine .v rfl rfl (O.pickT g30 rfl rfl rfl) ?_; (iterate 2 refine .a rfl rfl rfl rfl ?_); refine .nil ?_; exact toN (Gives.mkR [] (.r rfl rfl (.c rfl (sbb (by simp only [g30, BL])) rfl .n)) (.r rfl rfl rfl .n) rfl rfl rfl)
   ·(iterate 8 refine .x rfl (unmet rfl rfl rfl g30) ?_); refine .v rfl rfl (O.pickF g30 rfl rfl rfl) ?_; (iterate 2 refine .a rfl rfl rfl rfl ?_); refine .nil ?_; exact toN (Gives.mkR [] (.r rfl rfl (.c rfl (sbb (by simp only [g30, BL])) rfl .n)) (.r rfl rfl rfl .n) rfl rfl rfl)
 ·clear h; refine W.block ?_; refine W.loopF (fun (s_ : Int × Int) => mkSt [(0, some (.own 0)), (1, some (.i x1)), (2, some (.fn 33 [])), (8, some (.i (List.length x0 : Int))), (9, some (.i s_.1)), (10, some (.i s_.2))] [(0, some (.rows 28 5 (List.map auth_Member.enc x0) false))] 1000) b20 (Gives.mkR [] (.e rfl rfl) (.r rfl rfl rfl .n) rfl rfl rfl) ?_; rintro ⟨v6, v7⟩ s_ hr; have h : slices_BinarySearchFunc_int__auth_List_place_1.b0 x0 x1 v6 v7 = some s_ := hr; unfold slices_BinarySearchFunc_int__auth_List_place_1.b0 at h; (iterate 2 refine W.seq ?_); refine W.pk ?_; (iterate 2 refine .m rfl rfl rfl rfl ?_); refine .v rfl rfl (OpL.binI rfl rfl rfl rfl) ?_; refine .nil ?_; refine W.cond rfl (fun q22 => ?_) (fun q22 => ?_)
  ·have h := ifT q22 h; refine W.skip ?_; refine W.block ?_; refine W.seq ?_; refine W.pk ?_; (iterate 2 refine .m rfl rfl rfl rfl ?_); refine .v rfl rfl (OpL.binI rfl rfl rfl rfl) ?_; refine .v rfl rfl (O.conv h3 u106 rfl rfl) ?_; refine .v rfl rfl (O.shr (by decide) rfl rfl rfl) ?_; refine .v rfl rfl (O.conv h106 u3 rfl rfl) ?_; refine .a rfl rfl rfl rfl ?_; refine .nil ?_; refine W.seq ?_; obtain ⟨c23, h⟩ := chk h; obtain ⟨t24, b25, h⟩ := bnd1 h; refine W.pk ?_; (iterate 3 refine .m rfl rfl rfl rfl ?_); refine .v rfl rfl (O.idxO sl23 c23 rfl rfl rfl rfl) ?_; refine .v rfl rfl (O.ldEN ty28 c23 rfl rfl rfl rfl rfl) ?_; refine .m rfl rfl rfl rfl ?_; refine .call (.i t24) [] 0 (auth_List_place_1_v2.ok b25) rfl rfl rfl ca33 rfl rfl (cC (.agg _ _ _ _ (cC (.imm _) (cC (.imm _) (cC (.imm _) (cC (.imm _) (cC (.imm _) .nil)))))) (cC (.imm _) .nil)) rfl rfl rfl rfl rfl ?_; refine .v rfl rfl (OpL.binI rfl rfl rfl rfl) ?_; refine .nil ?_; refine W.cond rfl (fun q26 => ?_) (fun q26 => ?_)
   ·have h := ifT q26 h; refine W.pk ?_; refine .m rfl rfl rfl rfl ?_; refine .v rfl rfl (OpL.binI rfl rfl rfl rfl) ?_; refine .a rfl rfl rfl rfl ?_; refine .nil ?_; cases h; exact rdN (Gives.mkR [] (.e rfl rfl) (.r rfl rfl rfl .n) rfl rfl rfl)
   ·have h := ifF q26 h; refine W.pk ?_; refine .m rfl rfl rfl rfl ?_; refine .a rfl rfl rfl rfl ?_; refine .nil ?_; cases h; exact rdN (Gives.mkR [] (.e rfl rfl) (.r rfl rfl rfl .n) rfl rfl rfl)
  ·have h := ifF q22 h; refine W.exit ?_; cases h; refine rdX fun e_ => ?_; subst e_; (repeat with_reducible refine thru ?_); refine hit ?_; exact toN (Gives.mkR [] (.e rfl rfl) (.r rfl rfl rfl .n) rfl rfl rfl)

set_option maxRecDepth 100000 in
set_option maxHeartbeats 4000000 in
theorem auth_List_place_v2.ok {x0 : auth_List} {x1 : Int} {r : Int × Bool} (h : auth_List_place.f x0 x1 = some r) : Pm.Spec prog 16 [.xbox [.xown 28 5 (List.map auth_Member.enc x0.l), .imm (.val (.bool x0.made))], .imm (.val (.int .i64 x1))] (.tup [.imm (.val (.int .i64 r.1)), .imm (.val (.bool r.2))]) [some (.xbox [.xown 28 5 (List.map auth_Member.enc x0.l), .imm (.val (.bool x0.made))]), none] := by
 unfold auth_List_place.f at h; refine Pm.Spec.of_body Try.func16 rfl (by kernel_rfl) (Nat.le_of_ble_eq_true rfl) (Nat.le_of_ble_eq_true rfl) ?_; refine W.ghost (σ' := (mkSt [(0, some (.ptr 0 0)), (1, some (.i x1))] [(0, some (.box [.own 1, .b x0.made])), (1, some (.rows 28 5 (List.map auth_Member.enc x0.l) false))] 1000)) (Gives.entry (.c rfl (.c rfl .n)) (.c rfl (.c rfl .n))) ?_; refine W.ghost (σ' := (mkSt [(0, some (.ptr 0 0)), (1, some (.i x1))] [(0, some (.box [.own 1000, .b x0.made])), (1000, some (.rows 28 5 (List.map auth_Member.enc x0.l) false))] 1001)) (Gives.mkR [(1000, 1)] (.e rfl rfl) (.e rfl rfl) rfl rfl rfl) ?_; refine W.seq ?_; refine W.pk ?_; (iterate 2 refine .a rfl rfl rfl rfl ?_); refine .nil ?_; refine W.seq ?_; obtain ⟨t1, b2, h⟩ := bnd1 h; refine W.pk ?_; refine .m rfl rfl rfl rfl ?_; refine .v rfl rfl (OpL.nilP rfl rfl rfl) ?_; refine .v rfl rfl (O.fld fld25_0 rfl rfl rfl) ?_; refine .v rfl rfl (O.ld (y := .own 1000) ty23 rfl rfl rfl) ?_; refine .m rfl rfl rfl rfl ?_; refine .call (.tup [.i t1.1, .b t1.2]) [(1000, some (.rows 28 5 (List.map auth_Member.enc x0.l) false)), (1000, none)] 0 (slices_BinarySearchFunc_int__auth_List_place_1_v2.ok b2) rfl rfl rfl ca32 rfl rfl (cC (.own _ _ _ _ rfl) (cC (.imm _) (cC (.fn _ _ _ _ _ .nil) .nil))) rfl rfl rfl rfl rfl ?_; (iterate 2 refine .v rfl rfl (OpL.extract rfl rfl rfl) ?_); (iterate 2 refine .a rfl rfl rfl rfl ?_); refine .nil ?_; refine W.ret ?_; cases h; exact leaves (.inr rfl) rfl (.tup _ _ _ _ (cC (.imm _) (cC (.imm _) .nil))) (cS (.ptr _ _ _ _ _ rfl (cC (.own _ _ _ _ rfl) (cC (.imm _) .nil))) (cN .nil)) rfl rfl

set_option maxRecDepth 100000 in
set_option maxHeartbeats 4000000 in
theorem slices_IndexFunc_auth_Member__auth_List_Join_1_v2.ok {x0 : List auth_Member} {x1c0 : Bs} {r : Int} (h : slices_IndexFunc_auth_Member__auth_List_Join_1.f x0 x1c0 = some r) : Pm.Spec prog 48 [.xown 28 5 (List.map auth_Member.enc x0), .fn 22 [.xbox [.imm (.val (.string (tx x1c0)))]]] (.imm (.val (.int .i64 r))) [some (.xown 28 5 (List.map auth_Member.enc x0)), some (.fn 22 [.xbox [.imm (.val (.string (tx x1c0)))]])] := by
 unfold slices_IndexFunc_auth_Member__auth_List_Join_1.f at h; refine Pm.Spec.of_body Try.func48 rfl (by kernel_rfl) (Nat.le_of_ble_eq_true rfl) (Nat.le_of_ble_eq_true rfl) ?_; refine W.ghost (σ' := (mkSt [(0, some (.own 0)), (1, some (.fn 22 [.ptr 1 0]))] [(0, some (.rows 28 5 (List.map auth_Member.enc x0) false)), (1, some (.box [.s x1c0]))] 1000)) (Gives.entry (.c rfl (.c rfl .n)) (.c rfl (.c rfl .n))) ?_; refine W.seq ?_; refine W.pk ?_; refine .a rfl rfl rfl rfl ?_; refine .nil ?_; (iterate 2 refine W.seq ?_); refine W.pk ?_; refine .m rfl rfl rfl rfl ?_; refine .v rfl rfl (O.lenO sl23 rfl rfl rfl) ?_; refine .m rfl rfl rfl rfl ?_; refine .nil ?_; obtain ⟨o18, b19, z20⟩ := bnd1 h; refine W.fork2 (out := o18) (fun (w17 : Unit) => mkSt [] [(0, some (.rows 28 5 (List.map auth_Member.enc x0) false)), (1, some (.box [.s x1c0]))] 1000) ?_ ?_
 ·clear h; refine W.block ?_; refine W.loopF (fun (s_ : Int) => mkSt [(0, some (.own 0)), (1, some (.fn 22 [.ptr 1 0])), (7, some (.i (List.length x0 : Int))), (8, some (.i s_))] [(0, some (.rows 28 5 (List.map auth_Member.enc x0) false)), (1, some (.box [.s x1c0]))] 1000) b19 (Gives.mkR [] (.e rfl rfl) (.e rfl rfl) rfl rfl rfl) ?_; rintro v6 s_ hr; have h : slices_IndexFunc_auth_Member__auth_List_Join_1.b0 x0 x1c0 v6 = some s_ := hr; unfold slices_IndexFunc_auth_Member__auth_List_Join_1.b0 at h; refine W.seq ?_; refine W.pk ?_; refine .v rfl rfl (OpL.binI rfl rfl rfl rfl) ?_; refine .nil ?_; refine W.seq ?_; refine W.cond rfl (fun q21 => ?_) (fun q21 => ?_)
  ·have h := ifT q21 h; refine W.skip ?_; refine W.seq ?_; refine W.block ?_; refine W.seq ?_; refine W.pk ?_; refine .m rfl rfl rfl rfl ?_; refine .a rfl rfl rfl rfl ?_; refine .nil ?_; refine W.seq ?_; obtain ⟨c22, h⟩ := chk h; obtain ⟨t23, b24, h⟩ := bnd1 h; refine W.pk ?_; (iterate 3 refine .m rfl rfl rfl rfl ?_); refine .v rfl rfl (O.idxO sl23 c22 rfl rfl rfl rfl) ?_; refine .v rfl rfl (O.ldEN ty28 c22 rfl rfl rfl rfl rfl) ?_; refine .call (.b t23) [(1, some (.box [.s x1c0])), (1, none)] 0 (auth_List_Join_1_v2.ok b24) rfl rfl rfl ca22 rfl rfl (cC (.agg _ _ _ _ (cC (.imm _) (cC (.imm _) (cC (.imm _) (cC (.imm _) (cC (.imm _) .nil)))))) (cC (.ptr _ _ _ _ _ rfl (cC (.imm _) .nil)) .nil)) rfl rfl rfl rfl rfl ?_; refine .nil ?_; refine W.cond rfl (fun q25 => ?_) (fun q25 => ?_)
   ·have h := ifT q25 h; refine W.seq ?_; refine W.pk ?_; refine .m rfl rfl rfl rfl ?_; refine .a rfl rfl rfl rfl ?_; refine .nil ?_; refine W.ret ?_; cases h; refine rdR fun e_ => ?_; subst e_; have h := z20; dsimp only at h; refine fkR ?_; cases h; exact leaves (.inr rfl) rfl (.imm _) (cS (.own _ _ _ _ rfl) (cS (.fn _ _ _ _ _ (cC (.ptr _ _ _ _ _ rfl (cC (.imm _) .nil)) .nil)) .nil)) rfl rfl
   ·have h := ifF q25 h; refine W.skip ?_; refine W.pk ?_; refine .v rfl rfl (OpL.binI rfl rfl rfl rfl) ?_; refine .m rfl rfl rfl rfl ?_; refine .nil ?_; cases h; exact rdN (Gives.mkR [] (.e rfl rfl) (.e rfl rfl) rfl rfl rfl)
  ·have h := ifF q21 h; refine W.exit ?_; cases h; refine rdX fun e_ => ?_; subst e_; (repeat with_reducible refine thru ?_); refine hit ?_; exact fkN (Gives.mkR [] .n (.e rfl rfl) rfl rfl rfl)
 ·intro w17 e_; subst e_; clear h; have h := z20; dsimp only at h; refine W.seq ?_; refine W.pk ?_; refine .a rfl rfl rfl rfl ?_; refine .nil ?_; refine W.ret ?_; cases h; exact leaves (.inr rfl) rfl (.imm _) (cS (.own _ _ _ _ rfl) (cS (.fn _ _ _ _ _ (cC (.ptr _ _ _ _ _ rfl (cC (.imm _) .nil)) .nil)) .nil)) rfl rfl

set_option maxRecDepth 100000 in
set_option maxHeartbeats 4000000 in
theorem slices_ContainsFunc_auth_Member__auth_List_Join_1_v2.ok {x0 : List auth_Member} {x1c0 : Bs} {r : Bool} (h : slices_ContainsFunc_auth_Member__auth_List_Join_1.f x0 x1c0 = some r) : Pm.Spec prog 21 [.xown 28 5 (List.map auth_Member.enc x0), .fn 22 [.xbox [.imm (.val (.string (tx x1c0)))]]] (.imm (.val (.bool r))) [some (.xown 28 5 (List.map auth_Member.enc x0)), some (.fn 22 [.xbox [.imm (.val (.string (tx x1c0)))]])] := by
 unfold slices_ContainsFunc_auth_Member__auth_List_Join_1.f at h; refine Pm.Spec.of_body Try.func21 rfl (by kernel_rfl) (Nat.le_of_ble_eq_true rfl) (Nat.le_of_ble_eq_true rfl) ?_; refine W.ghost (σ' := (mkSt [(0, some (.own 0)), (1, some (.fn 22 [.ptr 1 0]))] [(0, some (.rows 28 5 (List.map auth_Member.enc x0) false)), (1, some (.box [.s x1c0]))] 1000)) (Gives.entry (.c rfl (.c rfl .n)) (.c rfl (.c rfl .n))) ?_; refine W.seq ?_; refine W.pk ?_; refine .a rfl rfl rfl rfl ?_; refine .nil ?_; refine W.seq ?_; obtain ⟨t1, b2, h⟩ := bnd1 h; refine W.pk ?_; (iterate 2 refine .m rfl rfl rfl rfl ?_); refine .call (.i t1) [(0, some (.rows 28 5 (List.map auth_Member.enc x0) false)), (1, some (.box [.s x1c0])), (0, none), (1, none)] 0 (slices_IndexFunc_auth_Member__auth_List_Join_1_v2.ok b2) rfl rfl rfl ca48 rfl rfl (cC (.own _ _ _ _ rfl) (cC (.fn _ _ _ _ _ (cC (.ptr _ _ _ _ _ rfl (cC (.imm _) .nil)) .nil)) .nil)) rfl rfl rfl rfl rfl ?_; refine .v rfl rfl (OpL.binI rfl rfl rfl rfl) ?_; refine .a rfl rfl rfl rfl ?_; refine .nil ?_; refine W.ret ?_; cases h; exact leaves (.inr rfl) rfl (.imm _) (cS (.own _ _ _ _ rfl) (cS (.fn _ _ _ _ _ (cC (.ptr _ _ _ _ _ rfl (cC (.imm _) .nil)) .nil)) .nil)) rfl rfl
end Go.Proofs.Ytjdkibnhlmgppaa
