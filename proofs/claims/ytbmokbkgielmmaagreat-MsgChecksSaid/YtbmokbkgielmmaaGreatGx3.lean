/- Shows what functions of the program come to, each as a plain function: written by a program of the author's for this claim. -/
import Derived.Test.YtbmokbkgielmmaaGreatGx2
namespace Go.Proofs.YtbmokbkgielmmaaGreat
open Go Go.Pm
set_option linter.unusedVariables false
set_option maxRecDepth 100000
set_option maxHeartbeats 4000000
set_option linter.unusedSimpArgs false
noncomputable def lombardref10_Baskets.b0 (x0 : api_Basket) (x1 : api_Basket) (v17 : Int) : Option (Int ⊕ (Bool ⊕ Unit)) :=
 if (decide (v17 < (List.length x0.Cuts : Int))) = true then
 if (0 : Int) ≤ v17 ∧ v17 < (List.length x0.Cuts : Int) then
 if (0 : Int) ≤ v17 ∧ v17 < (List.length x1.Cuts : Int) then
 if (!((((nth x0.Cuts v17).Days) == ((nth x1.Cuts v17).Days)) && ((((nth x0.Cuts v17).Rating) == ((nth x1.Cuts v17).Rating)) && (((nth x0.Cuts v17).Cut) == ((nth x1.Cuts v17).Cut))))) = true then
 some (.inr (.inl false))
 else some (.inl (IntKind.wrap .i64 (v17 + 1)))
 else none
 else none
 else some (.inr (.inr ()))
noncomputable def lombardref10_Baskets.r0 (x0 : api_Basket) (x1 : api_Basket) (s : Int) : Option (Int ⊕ (Bool ⊕ Unit)) := lombardref10_Baskets.b0 x0 x1 s
noncomputable def lombardref10_Baskets.f (x0 : api_Basket) (x1 : api_Basket) : Option (Bool) :=
 if ((((((((x0.ID != x1.ID) || (x0.Version != x1.Version)) || (!(x0.Currency == x1.Currency))) || (x0.Rating != x1.Rating)) || (x0.Least != x1.Least)) || (x0.Most != x1.Most)) || (x0.Issuer != x1.Issuer)) || (x0.Asset != x1.Asset)) = true then
 some false
 else (if ((List.length x0.Cuts : Int) != (List.length x1.Cuts : Int)) = false then lombardref09_Same.f x0.Barred x1.Barred else some default).bind fun t9 =>
 if (((List.length x0.Cuts : Int) != (List.length x1.Cuts : Int)) || (!t9)) = true then
 some false
 else (loop (lombardref10_Baskets.r0 x0 x1) 0).bind fun o27 =>
 match o27 with
 | .inl r34 => some r34
 | .inr w26 =>
 some true
theorem lombardref10_Baskets.ok {x0 : api_Basket} {x1 : api_Basket} {r : Bool} (h : lombardref10_Baskets.f x0 x1 = some r) : Pm.Spec prog 38 [.agg (im (api_Basket.enc x0)), .agg (im (api_Basket.enc x1))] (.imm (.val (.bool r))) [none, none] := by
 unfold lombardref10_Baskets.f at h; refine Pm.Spec.of_body Tryz.func38 Z (by kernel_rfl) (L Z) (L Z) ?_; refine W.ghost (σ' := (mkSt [(0, some (.agg (api_Basket.av x0))), (1, some (.agg (api_Basket.av x1)))] [] 1000)) (Gives.entry (.c Z (.c Z .n)) .n) (W.seq (W.pk ?_)); (iterate 2 refine .t Z Z (O.box Z Z Z Z Z) ?_); refine .A Z (.nil (W.seq (W.seq (W.fork (mkSt [(2, some (.ptr 1000 0)), (3, some (.ptr 1001 0)), (59, some (.b ((((((((x0.ID != x1.ID) || (x0.Version != x1.Version)) || (!(x0.Currency == x1.Currency))) || (x0.Rating != x1.Rating)) || (x0.Least != x1.Least)) || (x0.Most != x1.Most)) || (x0.Issuer != x1.Issuer)) || (x0.Asset != x1.Asset))))] [(1000, some (.box (api_Basket.av x0))), (1001, some (.box (api_Basket.av x1)))] 1002) ?_ ?_))))
 ·refine W.cnd Z h (fun q8 h => ?_) (fun q8 h => ?_)
  ·refine W.seq (W.pk (.A Z (.nil (W.ret ?_)))); cases h; exact leaves (.inr Z) Z (.imm _) (cN (cN .nil)) Z Z
  ·refine W.skip (W.seq (W.seq ?_)); obtain ⟨t9, b10, h⟩ := bnd1 h; refine W.fork (mkSt [(2, some (.ptr 1000 0)), (3, some (.ptr 1001 0)), (74, some (.b (((List.length x0.Cuts : Int) != (List.length x1.Cuts : Int)) || (!t9))))] [(1000, some (.box (api_Basket.av x0))), (1001, some (.box (api_Basket.av x1)))] 1002) ?_ ?_
   ·refine W.cnd Z h (fun q12 h => ?_) (fun q12 h => ?_)
    ·refine W.seq (W.pk (.A Z (.nil (W.ret ?_)))); cases h; exact leaves (.inr Z) Z (.imm _) (cN (cN .nil)) Z Z
    ·refine W.skip (W.seq (W.seq (W.pk (.A Z (.nil ?_))))); obtain ⟨o27, b28, z29⟩ := bnd1 h; refine W.fork2 (out := o27) (fun (w26 : Unit) => mkSt [] [] 1002) ?_ ?_
     ·clear h; refine W.block (W.loopF (fun (s_ : Int) => mkSt [(2, some (.ptr 1000 0)), (3, some (.ptr 1001 0)), (5, some (.i s_))] [(1000, some (.box (api_Basket.av x0))), (1001, some (.box (api_Basket.av x1)))] 1002) b28 (Gm [] (.e Z Z) (.e Z Z) Z) ?_); rintro v17 s_ hr; have h : lombardref10_Baskets.b0 x0 x1 v17 = some s_ := hr; unfold lombardref10_Baskets.b0 at h; refine W.seq (W.seq (W.pk (.M Z (.F fld27_6 Z (.V Z (O.ld (y := .imm (.row 3 (List.map api_Cut.enc x0.Cuts))) ty24 Z Z Z) (.V Z (O.lenR sl24 Z Z) (.B Z (.nil (W.cnd Z h (fun q30 h => ?_) (fun q30 h => ?_))))))))))
      ·refine W.skip (W.seq (W.block (W.seq ?_))); obtain ⟨c31, h⟩ := chk h; obtain ⟨c32, h⟩ := chk h; refine W.dk (unm 11 [0, 1, 0, 7, 15, 0, 32, 0, 224, 480, 1023]) Z (by kernel_rfl) ?_; refine .F fld27_6 Z (.V Z (O.ld (y := .imm (.row 3 (List.map api_Cut.enc x0.Cuts))) ty24 Z Z Z) (.M Z (.V Z (O.idx sl24 c31 Z Z Z) (.V Z (O.ldN ty103 Z Z Z) (.F fld27_6 Z (.V Z (O.ld (y := .imm (.row 3 (List.map api_Cut.enc x1.Cuts))) ty24 Z Z Z) (.M Z (.V Z (O.idx sl24 c32 Z Z Z) (.V Z (O.ldN ty103 Z Z Z) (.V Z (O.neS (r := ((((nth x0.Cuts v17).Days) == ((nth x1.Cuts v17).Days)) && ((((nth x0.Cuts v17).Rating) == ((nth x1.Cuts v17).Rating)) && (((nth x0.Cuts v17).Cut) == ((nth x1.Cuts v17).Cut))))) fl103 Z Z Z Z Z Z) (.nil ?_))))))))))); refine ⟨by kernel_rfl, by kernel_rfl, ?_⟩; refine W.cnd Z h (fun q33 h => ?_) (fun q33 h => ?_)
       ·refine W.seq (W.pk (.A Z (.nil (W.ret ?_)))); cases h; refine rdR fun e_ => ?_; subst e_; have h := z29; dsimp only at h; refine fkR ?_; cases h; exact leaves (.inr Z) Z (.imm _) (cN (cN .nil)) Z Z
       ·refine W.skip (W.pk (.M Z (.B Z (.A Z (.nil ?_))))); cases h; exact rdN (Gm [] (.e Z Z) (.e Z Z) Z)
      ·refine W.exit ?_; cases h; refine rdX fun e_ => ?_; subst e_; (repeat with_reducible refine thru ?_); exact hit (fkN (Gm [] .n .n Z))
     ·intro w26 e_; subst e_; clear h; have h := z29; dsimp only at h; refine W.seq (W.pk (.A Z (.nil (W.ret ?_)))); cases h; exact leaves (.inr Z) Z (.imm _) (cN (cN .nil)) Z Z
   ·clear h; refine W.pk (.F fld27_6 Z (.V Z (O.ld (y := .imm (.row 3 (List.map api_Cut.enc x0.Cuts))) ty24 Z Z Z) (.V Z (O.lenR sl24 Z Z) (.F fld27_6 Z (.V Z (O.ld (y := .imm (.row 3 (List.map api_Cut.enc x1.Cuts))) ty24 Z Z Z) (.V Z (O.lenR sl24 Z Z) (.B Z (.M Z ?_)))))))); rcases tf ((List.length x0.Cuts : Int) != (List.length x1.Cuts : Int)) with g11 | g11
    ·(iterate 6 refine .x Z (unmet Z Z Z g11) ?_); exact .V Z (O.pickT g11 Z Z Z) (.nil (toN (Gm [] (.r Z Z (.r Z Z (.c Z (sbb (by simp only [g11, BL])) Z .n))) (.e Z Z) Z)))
    ·refine .v Z (met Z Z Z g11) (O.fld fld27_9 Z Z Z) (.v Z (met Z Z Z g11) (O.ld (y := .imm (.row 1 (List.map (encI .i64) x0.Barred))) ty25 Z Z Z) (.v Z (met Z Z Z g11) (O.fld fld27_9 Z Z Z) (.v Z (met Z Z Z g11) (O.ld (y := .imm (.row 1 (List.map (encI .i64) x1.Barred))) ty25 Z Z Z) (.call (.b t9) [] 0 (lombardref09_Same.ok ((if_pos (by simp only [g11, BL])).symm.trans b10)) Z (met Z Z Z g11) Z ca88 Z Z (cI (cI .nil)) Z Z Z Z Z ?_)))); exact .v Z (met Z Z Z g11) (OpL.unV Z Z Z) (.V Z (O.pickF g11 Z Z Z) (.nil (toN (Gm [] (.r Z Z (.r Z Z (.c Z (sbb (by simp only [g11, BL])) Z .n))) (.e Z Z) Z))))
 ·clear h; refine W.pk (.F fld27_0 Z (.V Z (O.ld (y := .i x0.ID) ty3 Z Z Z) (.F fld27_0 Z (.V Z (O.ld (y := .i x1.ID) ty3 Z Z Z) (.B Z (.M Z ?_)))))); rcases tf (x0.ID != x1.ID) with g1 | g1
  ·(iterate 5 refine .x Z (unmet Z Z Z g1) ?_); refine .V Z (O.pickT g1 Z Z Z) (.M Z ?_); (iterate 5 refine .x Z (unmet Z Z Z Z) ?_); refine .V Z (O.pickT Z Z Z Z) (.M Z ?_); (iterate 5 refine .x Z (unmet Z Z Z Z) ?_); refine .V Z (O.pickT Z Z Z Z) (.M Z ?_); (iterate 5 refine .x Z (unmet Z Z Z Z) ?_); refine .V Z (O.pickT Z Z Z Z) (.M Z ?_); (iterate 5 refine .x Z (unmet Z Z Z Z) ?_); refine .V Z (O.pickT Z Z Z Z) (.M Z ?_); (iterate 5 refine .x Z (unmet Z Z Z Z) ?_); refine .V Z (O.pickT Z Z Z Z) (.M Z ?_); (iterate 5 refine .x Z (unmet Z Z Z Z) ?_); exact .V Z (O.pickT Z Z Z Z) (.nil (toN (Gm [] (.r Z Z (.r Z Z (.c Z (sbb (by simp only [g1, BL])) Z .n))) (.e Z Z) Z)))
  ·refine .v Z (met Z Z Z g1) (O.fld fld27_1 Z Z Z) (.v Z (met Z Z Z g1) (O.ld (y := .i x0.Version) ty3 Z Z Z) (.v Z (met Z Z Z g1) (O.fld fld27_1 Z Z Z) (.v Z (met Z Z Z g1) (O.ld (y := .i x1.Version) ty3 Z Z Z) (.v Z (met Z Z Z g1) (OpL.binI Z Z Z Z) (.V Z (O.pickF g1 Z Z Z) (.M Z ?_)))))); rcases tf (x0.Version != x1.Version) with g2 | g2
   ·(iterate 5 refine .x Z (unmet Z Z Z g2) ?_); refine .V Z (O.pickT g2 Z Z Z) (.M Z ?_); (iterate 5 refine .x Z (unmet Z Z Z Z) ?_); refine .V Z (O.pickT Z Z Z Z) (.M Z ?_); (iterate 5 refine .x Z (unmet Z Z Z Z) ?_); refine .V Z (O.pickT Z Z Z Z) (.M Z ?_); (iterate 5 refine .x Z (unmet Z Z Z Z) ?_); refine .V Z (O.pickT Z Z Z Z) (.M Z ?_); (iterate 5 refine .x Z (unmet Z Z Z Z) ?_); refine .V Z (O.pickT Z Z Z Z) (.M Z ?_); (iterate 5 refine .x Z (unmet Z Z Z Z) ?_); exact .V Z (O.pickT Z Z Z Z) (.nil (toN (Gm [] (.r Z Z (.r Z Z (.c Z (sbb (by first | (simp only [g1, g2, BL]; done) | (repeat (first | rw [g1] | rw [g2])) <;> simp only [BL])) Z .n))) (.e Z Z) Z)))
   ·refine .v Z (met Z Z Z g2) (O.fld fld27_2 Z Z Z) (.v Z (met Z Z Z g2) (O.ld (y := .s x0.Currency) ty9 Z Z Z) (.v Z (met Z Z Z g2) (O.fld fld27_2 Z Z Z) (.v Z (met Z Z Z g2) (O.ld (y := .s x1.Currency) ty9 Z Z Z) (.v Z (met Z Z Z g2) (O.cmpS Z Z Z Z) (.V Z (O.pickF g2 Z Z Z) (.M Z ?_)))))); rcases tf (x0.Currency == x1.Currency) with g3 | g3
    ·refine .v Z (met Z Z Z (notT g3)) (O.fld fld27_3 Z Z Z) (.v Z (met Z Z Z (notT g3)) (O.ld (y := .i x0.Rating) ty3 Z Z Z) (.v Z (met Z Z Z (notT g3)) (O.fld fld27_3 Z Z Z) (.v Z (met Z Z Z (notT g3)) (O.ld (y := .i x1.Rating) ty3 Z Z Z) (.v Z (met Z Z Z (notT g3)) (OpL.binI Z Z Z Z) (.V Z (O.pickF (notT g3) Z Z Z) (.M Z ?_)))))); rcases tf (x0.Rating != x1.Rating) with g4 | g4
     ·(iterate 5 refine .x Z (unmet Z Z Z g4) ?_); refine .V Z (O.pickT g4 Z Z Z) (.M Z ?_); (iterate 5 refine .x Z (unmet Z Z Z Z) ?_); refine .V Z (O.pickT Z Z Z Z) (.M Z ?_); (iterate 5 refine .x Z (unmet Z Z Z Z) ?_); refine .V Z (O.pickT Z Z Z Z) (.M Z ?_); (iterate 5 refine .x Z (unmet Z Z Z Z) ?_); exact .V Z (O.pickT Z Z Z Z) (.nil (toN (Gm [] (.r Z Z (.r Z Z (.c Z (sbb (by first | (simp only [g1, g2, g3, g4, BL]; done) | (repeat (first | rw [g1] | rw [g2] | rw [g3] | rw [g4])) <;> simp only [BL])) Z .n))) (.e Z Z) Z)))
     ·refine .v Z (met Z Z Z g4) (O.fld fld27_4 Z Z Z) (.v Z (met Z Z Z g4) (O.ld (y := .i x0.Least) ty3 Z Z Z) (.v Z (met Z Z Z g4) (O.fld fld27_4 Z Z Z) (.v Z (met Z Z Z g4) (O.ld (y := .i x1.Least) ty3 Z Z Z) (.v Z (met Z Z Z g4) (OpL.binI Z Z Z Z) (.V Z (O.pickF g4 Z Z Z) (.M Z ?_)))))); rcases tf (x0.Least != x1.Least) with g5 | g5
      ·(iterate 5 refine .x Z (unmet Z Z Z g5) ?_); refine .V Z (O.pickT g5 Z Z Z) (.M Z ?_); (iterate 5 refine .x Z (unmet Z Z Z Z) ?_); refine .V Z (O.pickT Z Z Z Z) (.M Z ?_); (iterate 5 refine .x Z (unmet Z Z Z Z) ?_); exact .V Z (O.pickT Z Z Z Z) (.nil (toN (Gm [] (.r Z Z (.r Z Z (.c Z (sbb (by first | (simp only [g1, g2, g3, g4, g5, BL]; done) | (repeat (first | rw [g1] | rw [g2] | rw [g3] | rw [g4] | rw [g5])) <;> simp only [BL])) Z .n))) (.e Z Z) Z)))
      ·refine .v Z (met Z Z Z g5) (O.fld fld27_5 Z Z Z) (.v Z (met Z Z Z g5) (O.ld (y := .i x0.Most) ty3 Z Z Z) (.v Z (met Z Z Z g5) (O.fld fld27_5 Z Z Z) (.v Z (met Z Z Z g5) (O.ld (y := .i x1.Most) ty3 Z Z Z) (.v Z (met Z Z Z g5) (OpL.binI Z Z Z Z) (.V Z (O.pickF g5 Z Z Z) (.M Z ?_)))))); rcases tf (x0.Most != x1.Most) with g6 | g6
       ·(iterate 5 refine .x Z (unmet Z Z Z g6) ?_); refine .V Z (O.pickT g6 Z Z Z) (.M Z ?_); (iterate 5 refine .x Z (unmet Z Z Z Z) ?_); exact .V Z (O.pickT Z Z Z Z) (.nil (toN (Gm [] (.r Z Z (.r Z Z (.c Z (sbb (by first | (simp only [g1, g2, g3, g4, g5, g6, BL]; done) | (repeat (first | rw [g1] | rw [g2] | rw [g3] | rw [g4] | rw [g5] | rw [g6])) <;> simp only [BL])) Z .n))) (.e Z Z) Z)))
       ·refine .v Z (met Z Z Z g6) (O.fld fld27_7 Z Z Z) (.v Z (met Z Z Z g6) (O.ld (y := .i x0.Issuer) ty3 Z Z Z) (.v Z (met Z Z Z g6) (O.fld fld27_7 Z Z Z) (.v Z (met Z Z Z g6) (O.ld (y := .i x1.Issuer) ty3 Z Z Z) (.v Z (met Z Z Z g6) (OpL.binI Z Z Z Z) (.V Z (O.pickF g6 Z Z Z) (.M Z ?_)))))); rcases tf (x0.Issuer != x1.Issuer) with g7 | g7
        ·(iterate 5 refine .x Z (unmet Z Z Z g7) ?_); exact .V Z (O.pickT g7 Z Z Z) (.nil (toN (Gm [] (.r Z Z (.r Z Z (.c Z (sbb (by first | (simp only [g1, g2, g3, g4, g5, g6, g7, BL]; done) | (repeat (first | rw [g1] | rw [g2] | rw [g3] | rw [g4] | rw [g5] | rw [g6] | rw [g7])) <;> simp only [BL])) Z .n))) (.e Z Z) Z)))
        ·exact .v Z (met Z Z Z g7) (O.fld fld27_8 Z Z Z) (.v Z (met Z Z Z g7) (O.ld (y := .i x0.Asset) ty3 Z Z Z) (.v Z (met Z Z Z g7) (O.fld fld27_8 Z Z Z) (.v Z (met Z Z Z g7) (O.ld (y := .i x1.Asset) ty3 Z Z Z) (.v Z (met Z Z Z g7) (OpL.binI Z Z Z Z) (.V Z (O.pickF g7 Z Z Z) (.nil (toN (Gm [] (.r Z Z (.r Z Z (.c Z (sbb (by first | (simp only [g1, g2, g3, g4, g5, g6, g7, BL]; done) | (repeat (first | rw [g1] | rw [g2] | rw [g3] | rw [g4] | rw [g5] | rw [g6] | rw [g7])) <;> simp only [BL])) Z .n))) (.e Z Z) Z))))))))
    ·(iterate 5 refine .x Z (unmet Z Z Z (notF g3)) ?_); refine .V Z (O.pickT (notF g3) Z Z Z) (.M Z ?_); (iterate 5 refine .x Z (unmet Z Z Z Z) ?_); refine .V Z (O.pickT Z Z Z Z) (.M Z ?_); (iterate 5 refine .x Z (unmet Z Z Z Z) ?_); refine .V Z (O.pickT Z Z Z Z) (.M Z ?_); (iterate 5 refine .x Z (unmet Z Z Z Z) ?_); refine .V Z (O.pickT Z Z Z Z) (.M Z ?_); (iterate 5 refine .x Z (unmet Z Z Z Z) ?_); exact .V Z (O.pickT Z Z Z Z) (.nil (toN (Gm [] (.r Z Z (.r Z Z (.c Z (sbb (by first | (simp only [g1, g2, g3, BL]; done) | (repeat (first | rw [g1] | rw [g2] | rw [g3])) <;> simp only [BL])) Z .n))) (.e Z Z) Z)))
noncomputable def lombardref10_Lots.b0 (x0 : List api_Lot) (x1 : List api_Lot) (v6 : Int) : Option (Int ⊕ (Bool ⊕ Unit)) :=
 if (decide (v6 < (List.length x0 : Int))) = true then
 if (0 : Int) ≤ v6 ∧ v6 < (List.length x0 : Int) then
 if (0 : Int) ≤ v6 ∧ v6 < (List.length x1 : Int) then
 if (!((((nth x0 v6).ISIN) == ((nth x1 v6).ISIN)) && (((nth x0 v6).Qty) == ((nth x1 v6).Qty)))) = true then
 some (.inr (.inl false))
 else some (.inl (IntKind.wrap .i64 (v6 + 1)))
 else none
 else none
 else some (.inr (.inr ()))
noncomputable def lombardref10_Lots.r0 (x0 : List api_Lot) (x1 : List api_Lot) (s : Int) : Option (Int ⊕ (Bool ⊕ Unit)) := lombardref10_Lots.b0 x0 x1 s
noncomputable def lombardref10_Lots.f (x0 : List api_Lot) (x1 : List api_Lot) : Option (Bool) :=
 if ((List.length x0 : Int) != (List.length x1 : Int)) = true then
 some false
 else (loop (lombardref10_Lots.r0 x0 x1) 0).bind fun o16 =>
 match o16 with
 | .inl r23 => some r23
 | .inr w15 =>
 some true
theorem lombardref10_Lots.ok {x0 : List api_Lot} {x1 : List api_Lot} {r : Bool} (h : lombardref10_Lots.f x0 x1 = some r) : Pm.Spec prog 39 [.imm (.row 2 (List.map api_Lot.enc x0)), .imm (.row 2 (List.map api_Lot.enc x1))] (.imm (.val (.bool r))) [none, none] := by
 unfold lombardref10_Lots.f at h; refine Pm.Spec.of_body Tryz.func39 Z (by kernel_rfl) (L Z) (L Z) ?_; refine W.ghost (σ' := (mkSt [(0, some (.imm (.row 2 (List.map api_Lot.enc x0)))), (1, some (.imm (.row 2 (List.map api_Lot.enc x1))))] [] 1000)) (Gives.entry (.c Z (.c Z .n)) .n) (W.seq (W.pk (.A Z (.nil (W.seq (W.seq (W.pk (.M Z (.V Z (O.lenR sl33 Z Z) (.M Z (.V Z (O.lenR sl33 Z Z) ?_))))))))))); refine .B Z (.nil (W.cnd Z h (fun q1 h => ?_) (fun q1 h => ?_)))
 ·refine W.seq (W.pk (.A Z (.nil (W.ret ?_)))); cases h; exact leaves (.inr Z) Z (.imm _) (cN (cN .nil)) Z Z
 ·refine W.skip (W.seq (W.seq (W.pk (.A Z (.nil ?_))))); obtain ⟨o16, b17, z18⟩ := bnd1 h; refine W.fork2 (out := o16) (fun (w15 : Unit) => mkSt [] [] 1000) ?_ ?_
  ·clear h; refine W.block (W.loopF (fun (s_ : Int) => mkSt [(0, some (.imm (.row 2 (List.map api_Lot.enc x0)))), (1, some (.imm (.row 2 (List.map api_Lot.enc x1)))), (5, some (.i s_))] [] 1000) b17 (Gm [] (.e Z Z) .n Z) ?_); rintro v6 s_ hr; have h : lombardref10_Lots.b0 x0 x1 v6 = some s_ := hr; unfold lombardref10_Lots.b0 at h; refine W.seq (W.seq (W.pk (.M Z (.M Z (.V Z (O.lenR sl33 Z Z) (.B Z (.nil (W.cnd Z h (fun q19 h => ?_) (fun q19 h => ?_)))))))))
   ·refine W.skip (W.seq (W.block (W.seq ?_))); obtain ⟨c20, h⟩ := chk h; obtain ⟨c21, h⟩ := chk h; refine W.dk (unm 9 [0, 0, 3, 7, 0, 0, 48, 112, 255]) Z (by kernel_rfl) ?_; refine .M Z (.M Z (.V Z (O.idx sl33 c20 Z Z Z) (.V Z (O.ldN ty32 Z Z Z) (.M Z (.M Z (.V Z (O.idx sl33 c21 Z Z Z) (.V Z (O.ldN ty32 Z Z Z) (.V Z (O.neS (r := ((((nth x0 v6).ISIN) == ((nth x1 v6).ISIN)) && (((nth x0 v6).Qty) == ((nth x1 v6).Qty)))) fl32 Z Z Z Z Z Z) (.nil ?_))))))))); refine ⟨by kernel_rfl, by kernel_rfl, ?_⟩; refine W.cnd Z h (fun q22 h => ?_) (fun q22 h => ?_)
    ·refine W.seq (W.pk (.A Z (.nil (W.ret ?_)))); cases h; refine rdR fun e_ => ?_; subst e_; have h := z18; dsimp only at h; refine fkR ?_; cases h; exact leaves (.inr Z) Z (.imm _) (cN (cN .nil)) Z Z
    ·refine W.skip (W.pk (.M Z (.B Z (.A Z (.nil ?_))))); cases h; exact rdN (Gm [] (.e Z Z) .n Z)
   ·refine W.exit ?_; cases h; refine rdX fun e_ => ?_; subst e_; (repeat with_reducible refine thru ?_); exact hit (fkN (Gm [] .n .n Z))
  ·intro w15 e_; subst e_; clear h; have h := z18; dsimp only at h; refine W.seq (W.pk (.A Z (.nil (W.ret ?_)))); cases h; exact leaves (.inr Z) Z (.imm _) (cN (cN .nil)) Z Z
noncomputable def lombardref10_Same.b0 (x0 : lombardref10_Msg) (x1 : lombardref10_Msg) (v13 : Int) : Option (Int ⊕ (Bool ⊕ Unit)) :=
 if (decide (v13 < (List.length x0.Prices : Int))) = true then
 if (0 : Int) ≤ v13 ∧ v13 < (List.length x0.Prices : Int) then
 if (0 : Int) ≤ v13 ∧ v13 < (List.length x1.Prices : Int) then
 if (!((((nth x0.Prices v13).ISIN) == ((nth x1.Prices v13).ISIN)) && (((nth x0.Prices v13).Price) == ((nth x1.Prices v13).Price)))) = true then
 some (.inr (.inl false))
 else some (.inl (IntKind.wrap .i64 (v13 + 1)))
 else none
 else none
 else some (.inr (.inr ()))
noncomputable def lombardref10_Same.r0 (x0 : lombardref10_Msg) (x1 : lombardref10_Msg) (s : Int) : Option (Int ⊕ (Bool ⊕ Unit)) := lombardref10_Same.b0 x0 x1 s
noncomputable def lombardref10_Same.f (x0 : lombardref10_Msg) (x1 : lombardref10_Msg) : Option (Bool) :=
 (if ((((x0.Kind != x1.Kind) || (x0.Member != x1.Member)) || (!(x0.Name == x1.Name))) || (!((x0.Asset.ISIN == x1.Asset.ISIN) && ((x0.Asset.Issuer == x1.Asset.Issuer) && ((x0.Asset.Rating == x1.Asset.Rating) && ((x0.Asset.Maturity == x1.Asset.Maturity) && (x0.Asset.Currency == x1.Asset.Currency))))))) = false then lombardref10_Baskets.f x0.Basket x1.Basket else some default).bind fun t1 =>
 if ((((((x0.Kind != x1.Kind) || (x0.Member != x1.Member)) || (!(x0.Name == x1.Name))) || (!((x0.Asset.ISIN == x1.Asset.ISIN) && ((x0.Asset.Issuer == x1.Asset.Issuer) && ((x0.Asset.Rating == x1.Asset.Rating) && ((x0.Asset.Maturity == x1.Asset.Maturity) && (x0.Asset.Currency == x1.Asset.Currency))))))) || (!t1)) || ((List.length x0.Prices : Int) != (List.length x1.Prices : Int))) = true then
 some false
 else (loop (lombardref10_Same.r0 x0 x1) 0).bind fun o23 =>
 match o23 with
 | .inl r30 => some r30
 | .inr w22 =>
 (if (((((x0.Day == x1.Day) && (x0.Text == x1.Text)) && (x0.N == x1.N)) && ((x0.Quote.ID == x1.Quote.ID) && ((x0.Quote.Member == x1.Quote.Member) && ((x0.Quote.Side == x1.Quote.Side) && ((x0.Quote.Basket == x1.Quote.Basket) && ((x0.Quote.Amount == x1.Quote.Amount) && ((x0.Quote.Rate == x1.Quote.Rate) && ((x0.Quote.Start == x1.Quote.Start) && (x0.Quote.End == x1.Quote.End))))))))) && ((x0.Out.ISIN == x1.Out.ISIN) && (x0.Out.Qty == x1.Out.Qty))) = true then lombardref10_Lots.f x0.In x1.In else some default).bind fun t31 =>
 some (((((((((x0.Day == x1.Day) && (x0.Text == x1.Text)) && (x0.N == x1.N)) && ((x0.Quote.ID == x1.Quote.ID) && ((x0.Quote.Member == x1.Quote.Member) && ((x0.Quote.Side == x1.Quote.Side) && ((x0.Quote.Basket == x1.Quote.Basket) && ((x0.Quote.Amount == x1.Quote.Amount) && ((x0.Quote.Rate == x1.Quote.Rate) && ((x0.Quote.Start == x1.Quote.Start) && (x0.Quote.End == x1.Quote.End))))))))) && ((x0.Out.ISIN == x1.Out.ISIN) && (x0.Out.Qty == x1.Out.Qty))) && t31) && (x0.Trade == x1.Trade)) && (x0.Done == x1.Done)) && (x0.Rate == x1.Rate))
theorem lombardref10_Same.ok {x0 : lombardref10_Msg} {x1 : lombardref10_Msg} {r : Bool} (h : lombardref10_Same.f x0 x1 = some r) : Pm.Spec prog 13 [.agg (im (lombardref10_Msg.enc x0)), .agg (im (lombardref10_Msg.enc x1))] (.imm (.val (.bool r))) [none, none] := by
 unfold lombardref10_Same.f at h; refine Pm.Spec.of_body Tryz.func13 Z (by kernel_rfl) (L Z) (L Z) ?_; refine W.ghost (σ' := (mkSt [(0, some (.agg (lombardref10_Msg.av x0))), (1, some (.agg (lombardref10_Msg.av x1)))] [] 1000)) (Gives.entry (.c Z (.c Z .n)) .n) (W.seq (W.pk ?_)); (iterate 2 refine .t Z Z (O.box Z Z Z Z Z) ?_); refine .A Z (.nil (W.seq (W.seq ?_))); obtain ⟨t1, b2, h⟩ := bnd1 h; refine W.fork (mkSt [(2, some (.ptr 1000 0)), (3, some (.ptr 1001 0)), (48, some (.b ((((((x0.Kind != x1.Kind) || (x0.Member != x1.Member)) || (!(x0.Name == x1.Name))) || (!((x0.Asset.ISIN == x1.Asset.ISIN) && ((x0.Asset.Issuer == x1.Asset.Issuer) && ((x0.Asset.Rating == x1.Asset.Rating) && ((x0.Asset.Maturity == x1.Asset.Maturity) && (x0.Asset.Currency == x1.Asset.Currency))))))) || (!t1)) || ((List.length x0.Prices : Int) != (List.length x1.Prices : Int)))))] [(1000, some (.box (lombardref10_Msg.av x0))), (1001, some (.box (lombardref10_Msg.av x1)))] 1002) ?_ ?_
 ·refine W.cnd Z h (fun q8 h => ?_) (fun q8 h => ?_)
  ·refine W.seq (W.pk (.A Z (.nil (W.ret ?_)))); cases h; exact leaves (.inr Z) Z (.imm _) (cN (cN .nil)) Z Z
  ·refine W.skip (W.seq (W.seq (W.pk (.A Z (.nil ?_))))); obtain ⟨o23, b24, z25⟩ := bnd1 h; refine W.fork2 (out := o23) (fun (w22 : Unit) => mkSt [(2, some (.ptr 1000 0)), (3, some (.ptr 1001 0))] [(1000, some (.box (lombardref10_Msg.av x0))), (1001, some (.box (lombardref10_Msg.av x1)))] 1002) ?_ ?_
   ·clear h; refine W.block (W.loopF (fun (s_ : Int) => mkSt [(2, some (.ptr 1000 0)), (3, some (.ptr 1001 0)), (5, some (.i s_))] [(1000, some (.box (lombardref10_Msg.av x0))), (1001, some (.box (lombardref10_Msg.av x1)))] 1002) b24 (Gm [] (.e Z Z) (.e Z Z) Z) ?_); rintro v13 s_ hr; have h : lombardref10_Same.b0 x0 x1 v13 = some s_ := hr; unfold lombardref10_Same.b0 at h; refine W.seq (W.seq (W.pk (.M Z (.F fld35_5 Z (.V Z (O.ld (y := .imm (.row 2 (List.map api_Price.enc x0.Prices))) ty28 Z Z Z) (.V Z (O.lenR sl28 Z Z) (.B Z (.nil (W.cnd Z h (fun q26 h => ?_) (fun q26 h => ?_))))))))))
    ·refine W.skip (W.seq (W.block (W.seq ?_))); obtain ⟨c27, h⟩ := chk h; obtain ⟨c28, h⟩ := chk h; refine W.dk (unm 11 [0, 1, 0, 7, 15, 0, 32, 0, 224, 480, 1023]) Z (by kernel_rfl) ?_; refine .F fld35_5 Z (.V Z (O.ld (y := .imm (.row 2 (List.map api_Price.enc x0.Prices))) ty28 Z Z Z) (.M Z (.V Z (O.idx sl28 c27 Z Z Z) (.V Z (O.ldN ty105 Z Z Z) (.F fld35_5 Z (.V Z (O.ld (y := .imm (.row 2 (List.map api_Price.enc x1.Prices))) ty28 Z Z Z) (.M Z (.V Z (O.idx sl28 c28 Z Z Z) (.V Z (O.ldN ty105 Z Z Z) (.V Z (O.neS (r := ((((nth x0.Prices v13).ISIN) == ((nth x1.Prices v13).ISIN)) && (((nth x0.Prices v13).Price) == ((nth x1.Prices v13).Price)))) fl105 Z Z Z Z Z Z) (.nil ?_))))))))))); refine ⟨by kernel_rfl, by kernel_rfl, ?_⟩; refine W.cnd Z h (fun q29 h => ?_) (fun q29 h => ?_)
     ·refine W.seq (W.pk (.A Z (.nil (W.ret ?_)))); cases h; refine rdR fun e_ => ?_; subst e_; have h := z25; dsimp only at h; refine fkR ?_; cases h; exact leaves (.inr Z) Z (.imm _) (cN (cN .nil)) Z Z
     ·refine W.skip (W.pk (.M Z (.B Z (.A Z (.nil ?_))))); cases h; exact rdN (Gm [] (.e Z Z) (.e Z Z) Z)
    ·refine W.exit ?_; cases h; refine rdX fun e_ => ?_; subst e_; (repeat with_reducible refine thru ?_); exact hit (fkN (Gm [] (.e Z Z) (.e Z Z) Z))
   ·intro w22 e_; subst e_; clear h; have h := z25; dsimp only at h; refine W.seq ?_; obtain ⟨t31, b32, h⟩ := bnd1 h; refine W.fork (mkSt [(4, some (.b (((((((((x0.Day == x1.Day) && (x0.Text == x1.Text)) && (x0.N == x1.N)) && ((x0.Quote.ID == x1.Quote.ID) && ((x0.Quote.Member == x1.Quote.Member) && ((x0.Quote.Side == x1.Quote.Side) && ((x0.Quote.Basket == x1.Quote.Basket) && ((x0.Quote.Amount == x1.Quote.Amount) && ((x0.Quote.Rate == x1.Quote.Rate) && ((x0.Quote.Start == x1.Quote.Start) && (x0.Quote.End == x1.Quote.End))))))))) && ((x0.Out.ISIN == x1.Out.ISIN) && (x0.Out.Qty == x1.Out.Qty))) && t31) && (x0.Trade == x1.Trade)) && (x0.Done == x1.Done)) && (x0.Rate == x1.Rate))))] [] 1002) ?_ ?_
    ·refine W.ret ?_; cases h; exact leaves (.inr Z) Z (.imm _) (cN (cN .nil)) Z Z
    ·clear h; refine W.pk (.F fld35_6 Z (.V Z (O.ld (y := .i x0.Day) ty3 Z Z Z) (.F fld35_6 Z (.V Z (O.ld (y := .i x1.Day) ty3 Z Z Z) (.B Z (.M Z ?_)))))); rcases tf (x0.Day == x1.Day) with g33 | g33
     ·refine .v Z (met Z Z Z g33) (O.fld fld35_7 Z Z Z) (.v Z (met Z Z Z g33) (O.ld (y := .s x0.Text) ty9 Z Z Z) (.v Z (met Z Z Z g33) (O.fld fld35_7 Z Z Z) (.v Z (met Z Z Z g33) (O.ld (y := .s x1.Text) ty9 Z Z Z) (.v Z (met Z Z Z g33) (O.cmpS Z Z Z Z) (.V Z (O.pickT g33 Z Z Z) (.M Z ?_)))))); rcases tf (x0.Text == x1.Text) with g34 | g34
      ·refine .v Z (met Z Z Z g34) (O.fld fld35_8 Z Z Z) (.v Z (met Z Z Z g34) (O.ld (y := .i x0.N) ty3 Z Z Z) (.v Z (met Z Z Z g34) (O.fld fld35_8 Z Z Z) (.v Z (met Z Z Z g34) (O.ld (y := .i x1.N) ty3 Z Z Z) (.v Z (met Z Z Z g34) (OpL.binI Z Z Z Z) (.V Z (O.pickT g34 Z Z Z) (.M Z ?_)))))); rcases tf (x0.N == x1.N) with g35 | g35
       ·refine .v Z (met Z Z Z g35) (O.fld fld35_9 Z Z Z) (.v Z (met Z Z Z g35) (O.ldN ty30 Z Z Z) (.v Z (met Z Z Z g35) (O.fld fld35_9 Z Z Z) (.v Z (met Z Z Z g35) (O.ldN ty30 Z Z Z) (.v Z (met Z Z Z g35) (O.eqS (r := ((x0.Quote.ID == x1.Quote.ID) && ((x0.Quote.Member == x1.Quote.Member) && ((x0.Quote.Side == x1.Quote.Side) && ((x0.Quote.Basket == x1.Quote.Basket) && ((x0.Quote.Amount == x1.Quote.Amount) && ((x0.Quote.Rate == x1.Quote.Rate) && ((x0.Quote.Start == x1.Quote.Start) && (x0.Quote.End == x1.Quote.End))))))))) fl30 Z Z Z Z Z Z) (.V Z (O.pickT g35 Z Z Z) (.M Z ?_)))))); rcases tf ((x0.Quote.ID == x1.Quote.ID) && ((x0.Quote.Member == x1.Quote.Member) && ((x0.Quote.Side == x1.Quote.Side) && ((x0.Quote.Basket == x1.Quote.Basket) && ((x0.Quote.Amount == x1.Quote.Amount) && ((x0.Quote.Rate == x1.Quote.Rate) && ((x0.Quote.Start == x1.Quote.Start) && (x0.Quote.End == x1.Quote.End)))))))) with g36 | g36
        ·refine .v Z (met Z Z Z g36) (O.fld fld35_10 Z Z Z) (.v Z (met Z Z Z g36) (O.ldN ty32 Z Z Z) (.v Z (met Z Z Z g36) (O.fld fld35_10 Z Z Z) (.v Z (met Z Z Z g36) (O.ldN ty32 Z Z Z) (.v Z (met Z Z Z g36) (O.eqS (r := ((x0.Out.ISIN == x1.Out.ISIN) && (x0.Out.Qty == x1.Out.Qty))) fl32 Z Z Z Z Z Z) (.V Z (O.pickT g36 Z Z Z) (.M Z ?_)))))); rcases tf ((x0.Out.ISIN == x1.Out.ISIN) && (x0.Out.Qty == x1.Out.Qty)) with g37 | g37
         ·refine .v Z (met Z Z Z g37) (O.fld fld35_11 Z Z Z) (.v Z (met Z Z Z g37) (O.ld (y := .imm (.row 2 (List.map api_Lot.enc x0.In))) ty33 Z Z Z) (.v Z (met Z Z Z g37) (O.fld fld35_11 Z Z Z) (.v Z (met Z Z Z g37) (O.ld (y := .imm (.row 2 (List.map api_Lot.enc x1.In))) ty33 Z Z Z) (.call (.b t31) [] 0 (lombardref10_Lots.ok ((if_pos (by first | (simp only [g33, g34, g35, g36, g37, BL]; done) | (repeat (first | rw [g33] | rw [g34] | rw [g35] | rw [g36] | rw [g37])) <;> simp only [BL])).symm.trans b32)) Z (met Z Z Z g37) Z ca39 Z Z (cI (cI .nil)) Z Z Z Z Z ?_)))); refine .V Z (O.pickT g37 Z Z Z) (.M Z ?_); rcases tf t31 with g38 | g38
          ·refine .v Z (met Z Z Z g38) (O.fld fld35_12 Z Z Z) (.v Z (met Z Z Z g38) (O.ld (y := .i x0.Trade) ty3 Z Z Z) (.v Z (met Z Z Z g38) (O.fld fld35_12 Z Z Z) (.v Z (met Z Z Z g38) (O.ld (y := .i x1.Trade) ty3 Z Z Z) (.v Z (met Z Z Z g38) (OpL.binI Z Z Z Z) (.V Z (O.pickT g38 Z Z Z) (.M Z ?_)))))); rcases tf (x0.Trade == x1.Trade) with g39 | g39
           ·refine .v Z (met Z Z Z g39) (O.fld fld35_13 Z Z Z) (.v Z (met Z Z Z g39) (O.ld (y := .b x0.Done) ty4 Z Z Z) (.v Z (met Z Z Z g39) (O.fld fld35_13 Z Z Z) (.v Z (met Z Z Z g39) (O.ld (y := .b x1.Done) ty4 Z Z Z) (.v Z (met Z Z Z g39) (OpL.eqB Z u4 Z Z) (.V Z (O.pickT g39 Z Z Z) (.M Z ?_)))))); rcases tf (x0.Done == x1.Done) with g40 | g40
            ·exact .v Z (met Z Z Z g40) (O.fld fld35_14 Z Z Z) (.v Z (met Z Z Z g40) (O.ld (y := .i x0.Rate) ty3 Z Z Z) (.v Z (met Z Z Z g40) (O.fld fld35_14 Z Z Z) (.v Z (met Z Z Z g40) (O.ld (y := .i x1.Rate) ty3 Z Z Z) (.v Z (met Z Z Z g40) (OpL.binI Z Z Z Z) (.V Z (O.pickT g40 Z Z Z) (.A Z (.nil (toN (Gm [] (.c Z (sbb (by first | (simp only [g33, g34, g35, g36, g37, g38, g39, g40, BL]; done) | (repeat (first | rw [g33] | rw [g34] | rw [g35] | rw [g36] | rw [g37] | rw [g38] | rw [g39] | rw [g40])) <;> simp only [BL])) Z .n) .n Z)))))))))
            ·(iterate 5 refine .x Z (unmet Z Z Z g40) ?_); exact .V Z (O.pickF g40 Z Z Z) (.A Z (.nil (toN (Gm [] (.c Z (sbb (by first | (simp only [g33, g34, g35, g36, g37, g38, g39, g40, BL]; done) | (repeat (first | rw [g33] | rw [g34] | rw [g35] | rw [g36] | rw [g37] | rw [g38] | rw [g39] | rw [g40])) <;> simp only [BL])) Z .n) .n Z))))
           ·(iterate 5 refine .x Z (unmet Z Z Z g39) ?_); refine .V Z (O.pickF g39 Z Z Z) (.M Z ?_); (iterate 5 refine .x Z (unmet Z Z Z Z) ?_); exact .V Z (O.pickF Z Z Z Z) (.A Z (.nil (toN (Gm [] (.c Z (sbb (by first | (simp only [g33, g34, g35, g36, g37, g38, g39, BL]; done) | (repeat (first | rw [g33] | rw [g34] | rw [g35] | rw [g36] | rw [g37] | rw [g38] | rw [g39])) <;> simp only [BL])) Z .n) .n Z))))
          ·(iterate 5 refine .x Z (unmet Z Z Z g38) ?_); refine .V Z (O.pickF g38 Z Z Z) (.M Z ?_); (iterate 5 refine .x Z (unmet Z Z Z Z) ?_); refine .V Z (O.pickF Z Z Z Z) (.M Z ?_); (iterate 5 refine .x Z (unmet Z Z Z Z) ?_); exact .V Z (O.pickF Z Z Z Z) (.A Z (.nil (toN (Gm [] (.c Z (sbb (by first | (simp only [g33, g34, g35, g36, g37, g38, BL]; done) | (repeat (first | rw [g33] | rw [g34] | rw [g35] | rw [g36] | rw [g37] | rw [g38])) <;> simp only [BL])) Z .n) .n Z))))
         ·(iterate 5 refine .x Z (unmet Z Z Z g37) ?_); refine .V Z (O.pickF g37 Z Z Z) (.M Z ?_); (iterate 5 refine .x Z (unmet Z Z Z Z) ?_); refine .V Z (O.pickF Z Z Z Z) (.M Z ?_); (iterate 5 refine .x Z (unmet Z Z Z Z) ?_); refine .V Z (O.pickF Z Z Z Z) (.M Z ?_); (iterate 5 refine .x Z (unmet Z Z Z Z) ?_); exact .V Z (O.pickF Z Z Z Z) (.A Z (.nil (toN (Gm [] (.c Z (sbb (by first | (simp only [g33, g34, g35, g36, g37, BL]; done) | (repeat (first | rw [g33] | rw [g34] | rw [g35] | rw [g36] | rw [g37])) <;> simp only [BL])) Z .n) .n Z))))
        ·(iterate 5 refine .x Z (unmet Z Z Z g36) ?_); refine .V Z (O.pickF g36 Z Z Z) (.M Z ?_); (iterate 5 refine .x Z (unmet Z Z Z Z) ?_); refine .V Z (O.pickF Z Z Z Z) (.M Z ?_); (iterate 5 refine .x Z (unmet Z Z Z Z) ?_); refine .V Z (O.pickF Z Z Z Z) (.M Z ?_); (iterate 5 refine .x Z (unmet Z Z Z Z) ?_); refine .V Z (O.pickF Z Z Z Z) (.M Z ?_); (iterate 5 refine .x Z (unmet Z Z Z Z) ?_); exact .V Z (O.pickF Z Z Z Z) (.A Z (.nil (toN (Gm [] (.c Z (sbb (by first | (simp only [g33, g34, g35, g36, BL]; done) | (repeat (first | rw [g33] | rw [g34] | rw [g35] | rw [g36])) <;> simp only [BL])) Z .n) .n Z))))
       ·(iterate 5 refine .x Z (unmet Z Z Z g35) ?_); refine .V Z (O.pickF g35 Z Z Z) (.M Z ?_); (iterate 5 refine .x Z (unmet Z Z Z Z) ?_); refine .V Z (O.pickF Z Z Z Z) (.M Z ?_); (iterate 5 refine .x Z (unmet Z Z Z Z) ?_); refine .V Z (O.pickF Z Z Z Z) (.M Z ?_); (iterate 5 refine .x Z (unmet Z Z Z Z) ?_); refine .V Z (O.pickF Z Z Z Z) (.M Z ?_); (iterate 5 refine .x Z (unmet Z Z Z Z) ?_); refine .V Z (O.pickF Z Z Z Z) (.M Z ?_); (iterate 5 refine .x Z (unmet Z Z Z Z) ?_); exact .V Z (O.pickF Z Z Z Z) (.A Z (.nil (toN (Gm [] (.c Z (sbb (by first | (simp only [g33, g34, g35, BL]; done) | (repeat (first | rw [g33] | rw [g34] | rw [g35])) <;> simp only [BL])) Z .n) .n Z))))
      ·(iterate 5 refine .x Z (unmet Z Z Z g34) ?_); refine .V Z (O.pickF g34 Z Z Z) (.M Z ?_); (iterate 5 refine .x Z (unmet Z Z Z Z) ?_); refine .V Z (O.pickF Z Z Z Z) (.M Z ?_); (iterate 5 refine .x Z (unmet Z Z Z Z) ?_); refine .V Z (O.pickF Z Z Z Z) (.M Z ?_); (iterate 5 refine .x Z (unmet Z Z Z Z) ?_); refine .V Z (O.pickF Z Z Z Z) (.M Z ?_); (iterate 5 refine .x Z (unmet Z Z Z Z) ?_); refine .V Z (O.pickF Z Z Z Z) (.M Z ?_); (iterate 5 refine .x Z (unmet Z Z Z Z) ?_); refine .V Z (O.pickF Z Z Z Z) (.M Z ?_); (iterate 5 refine .x Z (unmet Z Z Z Z) ?_); exact .V Z (O.pickF Z Z Z Z) (.A Z (.nil (toN (Gm [] (.c Z (sbb (by first | (simp only [g33, g34, BL]; done) | (repeat (first | rw [g33] | rw [g34])) <;> simp only [BL])) Z .n) .n Z))))
     ·(iterate 5 refine .x Z (unmet Z Z Z g33) ?_); refine .V Z (O.pickF g33 Z Z Z) (.M Z ?_); (iterate 5 refine .x Z (unmet Z Z Z Z) ?_); refine .V Z (O.pickF Z Z Z Z) (.M Z ?_); (iterate 5 refine .x Z (unmet Z Z Z Z) ?_); refine .V Z (O.pickF Z Z Z Z) (.M Z ?_); (iterate 5 refine .x Z (unmet Z Z Z Z) ?_); refine .V Z (O.pickF Z Z Z Z) (.M Z ?_); (iterate 5 refine .x Z (unmet Z Z Z Z) ?_); refine .V Z (O.pickF Z Z Z Z) (.M Z ?_); (iterate 5 refine .x Z (unmet Z Z Z Z) ?_); refine .V Z (O.pickF Z Z Z Z) (.M Z ?_); (iterate 5 refine .x Z (unmet Z Z Z Z) ?_); refine .V Z (O.pickF Z Z Z Z) (.M Z ?_); (iterate 5 refine .x Z (unmet Z Z Z Z) ?_); exact .V Z (O.pickF Z Z Z Z) (.A Z (.nil (toN (Gm [] (.c Z (sbb (by simp only [g33, BL])) Z .n) .n Z))))
 ·clear h; refine W.pk (.F fld35_0 Z (.V Z (O.ld (y := .i x0.Kind) ty3 Z Z Z) (.F fld35_0 Z (.V Z (O.ld (y := .i x1.Kind) ty3 Z Z Z) (.B Z (.M Z ?_)))))); rcases tf (x0.Kind != x1.Kind) with g3 | g3
  ·(iterate 5 refine .x Z (unmet Z Z Z g3) ?_); refine .V Z (O.pickT g3 Z Z Z) (.M Z ?_); (iterate 5 refine .x Z (unmet Z Z Z Z) ?_); refine .V Z (O.pickT Z Z Z Z) (.M Z ?_); (iterate 5 refine .x Z (unmet Z Z Z Z) ?_); refine .V Z (O.pickT Z Z Z Z) (.M Z ?_); (iterate 6 refine .x Z (unmet Z Z Z Z) ?_); refine .V Z (O.pickT Z Z Z Z) (.M Z ?_); (iterate 7 refine .x Z (unmet Z Z Z Z) ?_); exact .V Z (O.pickT Z Z Z Z) (.nil (toN (Gm [] (.r Z Z (.r Z Z (.c Z (sbb (by simp only [g3, BL])) Z .n))) (.e Z Z) Z)))
  ·refine .v Z (met Z Z Z g3) (O.fld fld35_1 Z Z Z) (.v Z (met Z Z Z g3) (O.ld (y := .i x0.Member) ty3 Z Z Z) (.v Z (met Z Z Z g3) (O.fld fld35_1 Z Z Z) (.v Z (met Z Z Z g3) (O.ld (y := .i x1.Member) ty3 Z Z Z) (.v Z (met Z Z Z g3) (OpL.binI Z Z Z Z) (.V Z (O.pickF g3 Z Z Z) (.M Z ?_)))))); rcases tf (x0.Member != x1.Member) with g4 | g4
   ·(iterate 5 refine .x Z (unmet Z Z Z g4) ?_); refine .V Z (O.pickT g4 Z Z Z) (.M Z ?_); (iterate 5 refine .x Z (unmet Z Z Z Z) ?_); refine .V Z (O.pickT Z Z Z Z) (.M Z ?_); (iterate 6 refine .x Z (unmet Z Z Z Z) ?_); refine .V Z (O.pickT Z Z Z Z) (.M Z ?_); (iterate 7 refine .x Z (unmet Z Z Z Z) ?_); exact .V Z (O.pickT Z Z Z Z) (.nil (toN (Gm [] (.r Z Z (.r Z Z (.c Z (sbb (by first | (simp only [g3, g4, BL]; done) | (repeat (first | rw [g3] | rw [g4])) <;> simp only [BL])) Z .n))) (.e Z Z) Z)))
   ·refine .v Z (met Z Z Z g4) (O.fld fld35_2 Z Z Z) (.v Z (met Z Z Z g4) (O.ld (y := .s x0.Name) ty9 Z Z Z) (.v Z (met Z Z Z g4) (O.fld fld35_2 Z Z Z) (.v Z (met Z Z Z g4) (O.ld (y := .s x1.Name) ty9 Z Z Z) (.v Z (met Z Z Z g4) (O.cmpS Z Z Z Z) (.V Z (O.pickF g4 Z Z Z) (.M Z ?_)))))); rcases tf (x0.Name == x1.Name) with g5 | g5
    ·refine .v Z (met Z Z Z (notT g5)) (O.fld fld35_3 Z Z Z) (.v Z (met Z Z Z (notT g5)) (O.ldN ty23 Z Z Z) (.v Z (met Z Z Z (notT g5)) (O.fld fld35_3 Z Z Z) (.v Z (met Z Z Z (notT g5)) (O.ldN ty23 Z Z Z) (.v Z (met Z Z Z (notT g5)) (O.neS (r := ((x0.Asset.ISIN == x1.Asset.ISIN) && ((x0.Asset.Issuer == x1.Asset.Issuer) && ((x0.Asset.Rating == x1.Asset.Rating) && ((x0.Asset.Maturity == x1.Asset.Maturity) && (x0.Asset.Currency == x1.Asset.Currency)))))) fl23 Z Z Z Z Z Z) (.V Z (O.pickF (notT g5) Z Z Z) (.M Z ?_)))))); rcases tf ((x0.Asset.ISIN == x1.Asset.ISIN) && ((x0.Asset.Issuer == x1.Asset.Issuer) && ((x0.Asset.Rating == x1.Asset.Rating) && ((x0.Asset.Maturity == x1.Asset.Maturity) && (x0.Asset.Currency == x1.Asset.Currency))))) with g6 | g6
     ·refine .v Z (met Z Z Z (notT g6)) (O.fld fld35_4 Z Z Z) (.v Z (met Z Z Z (notT g6)) (O.ldN ty27 Z Z Z) (.v Z (met Z Z Z (notT g6)) (O.fld fld35_4 Z Z Z) (.v Z (met Z Z Z (notT g6)) (O.ldN ty27 Z Z Z) (.call (.b t1) [] 0 (lombardref10_Baskets.ok ((if_pos (by first | (simp only [g3, g4, g5, g6, BL]; done) | (repeat (first | rw [g3] | rw [g4] | rw [g5] | rw [g6])) <;> simp only [BL])).symm.trans b2)) Z (met Z Z Z (notT g6)) Z ca38 Z Z (cC (.agg _ _ _ _ (cI (cI (cI (cI (cI (cI (cI (cI (cI (cI .nil))))))))))) (cC (.agg _ _ _ _ (cI (cI (cI (cI (cI (cI (cI (cI (cI (cI .nil))))))))))) .nil)) Z Z Z Z Z ?_)))); refine .v Z (met Z Z Z (notT g6)) (OpL.unV Z Z Z) (.V Z (O.pickF (notT g6) Z Z Z) (.M Z ?_)); rcases tf t1 with g7 | g7
      ·exact .v Z (met Z Z Z (notT g7)) (O.fld fld35_5 Z Z Z) (.v Z (met Z Z Z (notT g7)) (O.ld (y := .imm (.row 2 (List.map api_Price.enc x0.Prices))) ty28 Z Z Z) (.v Z (met Z Z Z (notT g7)) (O.lenR sl28 Z Z) (.v Z (met Z Z Z (notT g7)) (O.fld fld35_5 Z Z Z) (.v Z (met Z Z Z (notT g7)) (O.ld (y := .imm (.row 2 (List.map api_Price.enc x1.Prices))) ty28 Z Z Z) (.v Z (met Z Z Z (notT g7)) (O.lenR sl28 Z Z) (.v Z (met Z Z Z (notT g7)) (OpL.binI Z Z Z Z) (.V Z (O.pickF (notT g7) Z Z Z) (.nil (toN (Gm [] (.r Z Z (.r Z Z (.c Z (sbb (by first | (simp only [g3, g4, g5, g6, g7, BL]; done) | (repeat (first | rw [g3] | rw [g4] | rw [g5] | rw [g6] | rw [g7])) <;> simp only [BL])) Z .n))) (.e Z Z) Z))))))))))
      ·(iterate 7 refine .x Z (unmet Z Z Z (notF g7)) ?_); exact .V Z (O.pickT (notF g7) Z Z Z) (.nil (toN (Gm [] (.r Z Z (.r Z Z (.c Z (sbb (by first | (simp only [g3, g4, g5, g6, g7, BL]; done) | (repeat (first | rw [g3] | rw [g4] | rw [g5] | rw [g6] | rw [g7])) <;> simp only [BL])) Z .n))) (.e Z Z) Z)))
     ·(iterate 6 refine .x Z (unmet Z Z Z (notF g6)) ?_); refine .V Z (O.pickT (notF g6) Z Z Z) (.M Z ?_); (iterate 7 refine .x Z (unmet Z Z Z Z) ?_); exact .V Z (O.pickT Z Z Z Z) (.nil (toN (Gm [] (.r Z Z (.r Z Z (.c Z (sbb (by first | (simp only [g3, g4, g5, g6, BL]; done) | (repeat (first | rw [g3] | rw [g4] | rw [g5] | rw [g6])) <;> simp only [BL])) Z .n))) (.e Z Z) Z)))
    ·(iterate 5 refine .x Z (unmet Z Z Z (notF g5)) ?_); refine .V Z (O.pickT (notF g5) Z Z Z) (.M Z ?_); (iterate 6 refine .x Z (unmet Z Z Z Z) ?_); refine .V Z (O.pickT Z Z Z Z) (.M Z ?_); (iterate 7 refine .x Z (unmet Z Z Z Z) ?_); exact .V Z (O.pickT Z Z Z Z) (.nil (toN (Gm [] (.r Z Z (.r Z Z (.c Z (sbb (by first | (simp only [g3, g4, g5, BL]; done) | (repeat (first | rw [g3] | rw [g4] | rw [g5])) <;> simp only [BL])) Z .n))) (.e Z Z) Z)))
noncomputable def lombardlaw10_awake.f  : Option (Bool) :=
 (msg_Encode.f (msg_Message.cmsg_Roll (⟨7⟩ : msg_Roll))).bind fun t1 =>
 (msg_Decode.f [10, 14]).bind fun t3 =>
 (if ((((t1.2 == 0) && (t1.1 == [10, 14])) && (t3.2.2 == t1.2)) && (t3.2.1 == 2)) = true then lombardlaw10_Told.f t3.1 else some default).bind fun t5 =>
 (if ((((t1.2 == 0) && (t1.1 == [10, 14])) && (t3.2.2 == t1.2)) && (t3.2.1 == 2)) = true then lombardref10_Same.f t5 (⟨5, 0, [], (⟨[], 0, 0, 0, []⟩ : api_Asset), (⟨0, 0, [], 0, 0, 0, [], 0, 0, []⟩ : api_Basket), [], 7, [], 0, (⟨0, 0, 0, 0, 0, 0, 0, 0⟩ : api_Quote), (⟨[], 0⟩ : api_Lot), [], 0, false, 0⟩ : lombardref10_Msg) else some default).bind fun t7 =>
 some (((((t1.2 == 0) && (t1.1 == [10, 14])) && (t3.2.2 == t1.2)) && (t3.2.1 == 2)) && t7)
theorem lombardlaw10_awake.ok  {r : Bool} (h : lombardlaw10_awake.f  = some r) : Pm.Spec prog 7 [] (.imm (.val (.bool r))) [] := by
 unfold lombardlaw10_awake.f at h; refine Pm.Spec.of_body Tryz.func7 Z (by kernel_rfl) (L Z) (L Z) ?_; refine W.ghost (σ' := (mkSt [] [] 1000)) (Gives.entry .n .n) (W.seq (W.pk (.A Z (.nil (W.seq ?_))))); obtain ⟨t1, b2, h⟩ := bnd1 h; refine W.pk (.V Z (O.build (out := [.i 7]) bl59 Z Z Z Z (by kernel_rfl)) ?_); refine .V Z (O.mkIfc cn59 Z Z Z) (.C (.tup [.s t1.1, .i t1.2]) [] 0 (msg_Encode.ok b2) ca8 Z (cI .nil) Z ?_); refine .M Z ?_; (iterate 2 refine .V Z (OpL.extract Z Z Z) ?_); refine .A Z (.A Z (.nil (W.seq ?_))); obtain ⟨t3, b4, h⟩ := bnd1 h; refine W.pk (.C (.tup [.imm (msg_Message.enc t3.1), .i t3.2.1, .i t3.2.2]) [] 0 (msg_Decode.ok b4) ca11 Z (cI .nil) Z ?_); refine .M Z ?_; (iterate 3 refine .V Z (OpL.extract Z Z Z) ?_); refine .A Z (.A Z (.A Z (.nil (W.seq ?_)))); obtain ⟨t5, b6, h⟩ := bnd1 h; obtain ⟨t7, b8, h⟩ := bnd1 h; refine W.fork (mkSt [(0, some (.b (((((t1.2 == 0) && (t1.1 == [10, 14])) && (t3.2.2 == t1.2)) && (t3.2.1 == 2)) && t7)))] [] 1000) ?_ ?_
 ·refine W.ret ?_; cases h; exact leaves (.inr Z) Z (.imm _) .nil Z Z
 ·clear h; refine W.pk (.M Z (.B Z (.M Z ?_))); rcases tf (t1.2 == 0) with g9 | g9
  ·refine .m Z (met Z Z Z g9) Z Z (.v Z (met Z Z Z g9) (O.cmpS Z Z Z Z) (.V Z (O.pickT g9 Z Z Z) (.M Z ?_))); rcases tf (t1.1 == [10, 14]) with g10 | g10
   ·(iterate 2 refine .m Z (met Z Z Z g10) Z Z ?_); refine .v Z (met Z Z Z g10) (OpL.binI Z Z Z Z) (.V Z (O.pickT g10 Z Z Z) (.M Z ?_)); rcases tf (t3.2.2 == t1.2) with g11 | g11
    ·refine .m Z (met Z Z Z g11) Z Z (.v Z (met Z Z Z g11) (OpL.binI Z Z Z Z) (.V Z (O.pickT g11 Z Z Z) (.M Z ?_))); rcases tf (t3.2.1 == 2) with g12 | g12
     ·refine .m Z (met Z Z Z g12) Z Z (.call (.agg (lombardref10_Msg.av t5)) [] 0 (lombardlaw10_Told.ok ((if_pos (by first | (simp only [g9, g10, g11, g12, BL]; done) | (repeat (first | rw [g9] | rw [g10] | rw [g11] | rw [g12])) <;> simp only [BL])).symm.trans b6)) Z (met Z Z Z g12) Z ca14 Z Z (cI .nil) Z Z Z Z Z ?_); refine .v Z (met Z Z Z g12) (O.build (out := (.i 5 :: .i 0 :: .s [] :: .s [] :: .i 0 :: .i 0 :: .i 0 :: .s [] :: .i 0 :: .i 0 :: .s [] :: .i 0 :: .i 0 :: .i 0 :: .imm (.val (.slice none 0 0)) :: .i 0 :: .i 0 :: .imm (.val (.slice none 0 0)) :: .imm (.val (.slice none 0 0)) :: .i 7 :: zl16)) bl35 Z Z Z Z (by kernel_rfl)) ?_; refine .call (.b t7) [] 0 (lombardref10_Same.ok ((if_pos (by first | (simp only [g9, g10, g11, g12, BL]; done) | (repeat (first | rw [g9] | rw [g10] | rw [g11] | rw [g12])) <;> simp only [BL])).symm.trans b8)) Z (met Z Z Z g12) Z ca13 Z Z (cC (.agg _ _ _ _ (cI (cI (cI (cI (cI (cI (cI (cI (cI (cI (cI (cI (cI (cI (cI (cI (cI (cI (cI (cI (cI (cI (cI (cI (cI (cI (cI (cI (cI (cI (cI (cI (cI (cI (cI (cI .nil))))))))))))))))))))))))))))))))))))) (cC (.agg _ _ _ _ (cI (cI (cI (cI (cI (cI (cI (cI (cI (cI (cI (cI (cI (cI (cC (.nilrow _) (cI (cI (cC (.nilrow _) (cC (.nilrow _) (cI (cI (cI (cI (cI (cI (cI (cI (cI (cI (cI (cI (cI (cC (.nilrow _) (cI (cI (cI .nil))))))))))))))))))))))))))))))))))))) .nil)) Z Z Z Z Z ?_; exact .V Z (O.pickT g12 Z Z Z) (.A Z (.nil (toN (Gm [] (.c Z (sbb (by first | (simp only [g9, g10, g11, g12, BL]; done) | (repeat (first | rw [g9] | rw [g10] | rw [g11] | rw [g12])) <;> simp only [BL])) Z .n) .n Z))))
     ·(iterate 4 refine .x Z (unmet Z Z Z g12) ?_); exact .V Z (O.pickF g12 Z Z Z) (.A Z (.nil (toN (Gm [] (.c Z (sbb (by first | (simp only [g9, g10, g11, g12, BL]; done) | (repeat (first | rw [g9] | rw [g10] | rw [g11] | rw [g12])) <;> simp only [BL])) Z .n) .n Z))))
    ·(iterate 2 refine .x Z (unmet Z Z Z g11) ?_); refine .V Z (O.pickF g11 Z Z Z) (.M Z ?_); (iterate 4 refine .x Z (unmet Z Z Z Z) ?_); exact .V Z (O.pickF Z Z Z Z) (.A Z (.nil (toN (Gm [] (.c Z (sbb (by first | (simp only [g9, g10, g11, BL]; done) | (repeat (first | rw [g9] | rw [g10] | rw [g11])) <;> simp only [BL])) Z .n) .n Z))))
   ·(iterate 3 refine .x Z (unmet Z Z Z g10) ?_); refine .V Z (O.pickF g10 Z Z Z) (.M Z ?_); (iterate 2 refine .x Z (unmet Z Z Z Z) ?_); refine .V Z (O.pickF Z Z Z Z) (.M Z ?_); (iterate 4 refine .x Z (unmet Z Z Z Z) ?_); exact .V Z (O.pickF Z Z Z Z) (.A Z (.nil (toN (Gm [] (.c Z (sbb (by first | (simp only [g9, g10, BL]; done) | (repeat (first | rw [g9] | rw [g10])) <;> simp only [BL])) Z .n) .n Z))))
  ·(iterate 2 refine .x Z (unmet Z Z Z g9) ?_); refine .V Z (O.pickF g9 Z Z Z) (.M Z ?_); (iterate 3 refine .x Z (unmet Z Z Z Z) ?_); refine .V Z (O.pickF Z Z Z Z) (.M Z ?_); (iterate 2 refine .x Z (unmet Z Z Z Z) ?_); refine .V Z (O.pickF Z Z Z Z) (.M Z ?_); (iterate 4 refine .x Z (unmet Z Z Z Z) ?_); exact .V Z (O.pickF Z Z Z Z) (.A Z (.nil (toN (Gm [] (.c Z (sbb (by simp only [g9, BL])) Z .n) .n Z))))
noncomputable def lombardlaw10_Of.f (x0 : lombardref10_Msg) : Option (msg_Message) :=
 if (x0.Kind == 1) = true then
 some (msg_Message.cmsg_Join (⟨x0.Member, x0.Name⟩ : msg_Join))
 else if (x0.Kind == 2) = true then
 some (msg_Message.cmsg_List (⟨x0.Asset⟩ : msg_List))
 else if (x0.Kind == 3) = true then
 some (msg_Message.cmsg_Rules (⟨x0.Basket⟩ : msg_Rules))
 else if (x0.Kind == 4) = true then
 some (msg_Message.cmsg_Prices (⟨x0.Prices⟩ : msg_Prices))
 else if (x0.Kind == 5) = true then
 some (msg_Message.cmsg_Roll (⟨x0.Day⟩ : msg_Roll))
 else if (x0.Kind == 6) = true then
 some (msg_Message.cmsg_Cash (⟨x0.Member, x0.Text, x0.N⟩ : msg_Cash))
 else if (x0.Kind == 7) = true then
 some (msg_Message.cmsg_Move (⟨x0.Member, x0.Text, x0.N⟩ : msg_Move))
 else if (x0.Kind == 8) = true then
 some (msg_Message.cmsg_Offer (⟨x0.Quote⟩ : msg_Offer))
 else if (x0.Kind == 9) = true then
 some (msg_Message.cmsg_Cancel (⟨x0.Member, x0.N⟩ : msg_Cancel))
 else if (x0.Kind == 10) = true then
 some (msg_Message.cmsg_Notice (⟨x0.Member, x0.Trade, x0.Day⟩ : msg_Notice))
 else if (x0.Kind == 11) = true then
 some (msg_Message.cmsg_Swap (⟨x0.Member, x0.Trade, x0.Out, x0.In⟩ : msg_Swap))
 else if (x0.Kind == 12) = true then
 some (msg_Message.cmsg_Settle (⟨x0.Member, x0.Day, x0.Done⟩ : msg_Settle))
 else if (x0.Kind == 13) = true then
 some (msg_Message.cmsg_Default (⟨x0.Member⟩ : msg_Default))
 else if (x0.Kind == 14) = true then
 some (msg_Message.cmsg_Bound (⟨x0.Member, x0.N⟩ : msg_Bound))
 else if (x0.Kind == 15) = true then
 some (msg_Message.cmsg_Reset (⟨x0.Trade, x0.Day, x0.Rate⟩ : msg_Reset))
 else some .nil
theorem lombardlaw10_Of.ok {x0 : lombardref10_Msg} {r : msg_Message} (h : lombardlaw10_Of.f x0 = some r) : Pm.Spec prog 9 [.agg (im (lombardref10_Msg.enc x0))] (.imm (msg_Message.enc r)) [none] := by
 unfold lombardlaw10_Of.f at h; refine Pm.Spec.of_body Tryz.func9 Z (by kernel_rfl) (L Z) (L Z) ?_; refine W.ghost (σ' := (mkSt [(0, some (.agg (lombardref10_Msg.av x0)))] [] 1000)) (Gives.entry (.c Z .n) .n) (W.seq (W.pk (.t Z Z (O.box Z Z Z Z Z) (.A Z (.nil (W.seq (W.seq (W.pk (.F fld35_0 Z (.V Z (O.ld (y := .i x0.Kind) ty3 Z Z Z) (.nil ?_))))))))))); refine W.block (W.seq (W.pk (.B Z (.A Z (.nil (W.cnd Z h (fun q1 h => ?_) (fun q1 h => ?_)))))))
 ·refine W.seq (W.pk (.F fld35_1 Z (.V Z (O.ld (y := .i x0.Member) ty3 Z Z Z) (.F fld35_2 Z (.V Z (O.ld (y := .s x0.Name) ty9 Z Z Z) (.V Z (O.build (out := [.i x0.Member, .s x0.Name]) bl70 Z Z Z Z (by kernel_rfl)) ?_)))))); refine .V Z (O.mkIfc cn70 Z Z Z) (.A Z (.nil (W.ret ?_))); cases h; exact leaves (.inr Z) Z (.imm _) (cN .nil) Z Z
 ·refine W.seq (W.pk (.B Z (.A Z (.nil (W.cnd Z h (fun q2 h => ?_) (fun q2 h => ?_))))))
  ·refine W.seq (W.pk (.F fld35_3 Z (.V Z (O.ldN ty23 Z Z Z) (.V Z (O.build (out := (api_Asset.av x0.Asset)) bl72 Z Z Z Z (by kernel_rfl)) ?_)))); refine .V Z (O.mkIfc cn72 Z Z Z) (.A Z (.nil (W.ret ?_))); cases h; exact leaves (.inr Z) Z (.imm _) (cN .nil) Z Z
  ·refine W.seq (W.pk (.B Z (.A Z (.nil (W.cnd Z h (fun q3 h => ?_) (fun q3 h => ?_))))))
   ·refine W.seq (W.pk (.F fld35_4 Z (.V Z (O.ldN ty27 Z Z Z) (.V Z (O.build (out := (api_Basket.av x0.Basket)) bl74 Z Z Z Z (by kernel_rfl)) ?_)))); refine .V Z (O.mkIfc cn74 Z Z Z) (.A Z (.nil (W.ret ?_))); cases h; exact leaves (.inr Z) Z (.imm _) (cN .nil) Z Z
   ·refine W.seq (W.pk (.B Z (.A Z (.nil (W.cnd Z h (fun q4 h => ?_) (fun q4 h => ?_))))))
    ·refine W.seq (W.pk (.F fld35_5 Z (.V Z (O.ld (y := .imm (.row 2 (List.map api_Price.enc x0.Prices))) ty28 Z Z Z) (.V Z (O.build (out := [.imm (.row 2 (List.map api_Price.enc x0.Prices))]) bl76 Z Z Z Z (by kernel_rfl)) ?_)))); refine .V Z (O.mkIfc cn76 Z Z Z) (.A Z (.nil (W.ret ?_))); cases h; exact leaves (.inr Z) Z (.imm _) (cN .nil) Z Z
    ·refine W.seq (W.pk (.B Z (.A Z (.nil (W.cnd Z h (fun q5 h => ?_) (fun q5 h => ?_))))))
     ·refine W.seq (W.pk (.F fld35_6 Z (.V Z (O.ld (y := .i x0.Day) ty3 Z Z Z) (.V Z (O.build (out := [.i x0.Day]) bl59 Z Z Z Z (by kernel_rfl)) ?_)))); refine .V Z (O.mkIfc cn59 Z Z Z) (.A Z (.nil (W.ret ?_))); cases h; exact leaves (.inr Z) Z (.imm _) (cN .nil) Z Z
     ·refine W.seq (W.pk (.B Z (.A Z (.nil (W.cnd Z h (fun q6 h => ?_) (fun q6 h => ?_))))))
      ·refine W.seq (W.pk (.F fld35_1 Z (.V Z (O.ld (y := .i x0.Member) ty3 Z Z Z) (.F fld35_7 Z (.V Z (O.ld (y := .s x0.Text) ty9 Z Z Z) (.F fld35_8 Z (.V Z (O.ld (y := .i x0.N) ty3 Z Z Z) (.V Z (O.build (out := [.i x0.Member, .s x0.Text, .i x0.N]) bl78 Z Z Z Z (by kernel_rfl)) ?_)))))))); refine .V Z (O.mkIfc cn78 Z Z Z) (.A Z (.nil (W.ret ?_))); cases h; exact leaves (.inr Z) Z (.imm _) (cN .nil) Z Z
      ·refine W.seq (W.pk (.B Z (.A Z (.nil (W.cnd Z h (fun q7 h => ?_) (fun q7 h => ?_))))))
       ·refine W.seq (W.pk (.F fld35_1 Z (.V Z (O.ld (y := .i x0.Member) ty3 Z Z Z) (.F fld35_7 Z (.V Z (O.ld (y := .s x0.Text) ty9 Z Z Z) (.F fld35_8 Z (.V Z (O.ld (y := .i x0.N) ty3 Z Z Z) (.V Z (O.build (out := [.i x0.Member, .s x0.Text, .i x0.N]) bl80 Z Z Z Z (by kernel_rfl)) ?_)))))))); refine .V Z (O.mkIfc cn80 Z Z Z) (.A Z (.nil (W.ret ?_))); cases h; exact leaves (.inr Z) Z (.imm _) (cN .nil) Z Z
       ·refine W.seq (W.pk (.B Z (.A Z (.nil (W.cnd Z h (fun q8 h => ?_) (fun q8 h => ?_))))))
        ·refine W.seq (W.pk (.F fld35_9 Z (.V Z (O.ldN ty30 Z Z Z) (.V Z (O.build (out := (api_Quote.av x0.Quote)) bl82 Z Z Z Z (by kernel_rfl)) ?_)))); refine .V Z (O.mkIfc cn82 Z Z Z) (.A Z (.nil (W.ret ?_))); cases h; exact leaves (.inr Z) Z (.imm _) (cN .nil) Z Z
        ·refine W.seq (W.pk (.B Z (.A Z (.nil (W.cnd Z h (fun q9 h => ?_) (fun q9 h => ?_))))))
         ·refine W.seq (W.pk (.F fld35_1 Z (.V Z (O.ld (y := .i x0.Member) ty3 Z Z Z) (.F fld35_8 Z (.V Z (O.ld (y := .i x0.N) ty3 Z Z Z) (.V Z (O.build (out := [.i x0.Member, .i x0.N]) bl84 Z Z Z Z (by kernel_rfl)) ?_)))))); refine .V Z (O.mkIfc cn84 Z Z Z) (.A Z (.nil (W.ret ?_))); cases h; exact leaves (.inr Z) Z (.imm _) (cN .nil) Z Z
         ·refine W.seq (W.pk (.B Z (.A Z (.nil (W.cnd Z h (fun q10 h => ?_) (fun q10 h => ?_))))))
          ·refine W.seq (W.pk (.F fld35_1 Z (.V Z (O.ld (y := .i x0.Member) ty3 Z Z Z) (.F fld35_12 Z (.V Z (O.ld (y := .i x0.Trade) ty3 Z Z Z) (.F fld35_6 Z (.V Z (O.ld (y := .i x0.Day) ty3 Z Z Z) (.V Z (O.build (out := [.i x0.Member, .i x0.Trade, .i x0.Day]) bl86 Z Z Z Z (by kernel_rfl)) ?_)))))))); refine .V Z (O.mkIfc cn86 Z Z Z) (.A Z (.nil (W.ret ?_))); cases h; exact leaves (.inr Z) Z (.imm _) (cN .nil) Z Z
          ·refine W.seq (W.pk (.B Z (.A Z (.nil (W.cnd Z h (fun q11 h => ?_) (fun q11 h => ?_))))))
           ·refine W.seq (W.pk (.F fld35_1 Z (.V Z (O.ld (y := .i x0.Member) ty3 Z Z Z) (.F fld35_12 Z (.V Z (O.ld (y := .i x0.Trade) ty3 Z Z Z) (.F fld35_10 Z (.V Z (O.ldN ty32 Z Z Z) (.F fld35_11 Z (.V Z (O.ld (y := .imm (.row 2 (List.map api_Lot.enc x0.In))) ty33 Z Z Z) (.V Z (O.build (out := [.i x0.Member, .i x0.Trade, .s x0.Out.ISIN, .i x0.Out.Qty, .imm (.row 2 (List.map api_Lot.enc x0.In))]) bl88 Z Z Z Z (by kernel_rfl)) ?_)))))))))); refine .V Z (O.mkIfc cn88 Z Z Z) (.A Z (.nil (W.ret ?_))); cases h; exact leaves (.inr Z) Z (.imm _) (cN .nil) Z Z
           ·refine W.seq (W.pk (.B Z (.A Z (.nil (W.cnd Z h (fun q12 h => ?_) (fun q12 h => ?_))))))
            ·refine W.seq (W.pk (.F fld35_1 Z (.V Z (O.ld (y := .i x0.Member) ty3 Z Z Z) (.F fld35_6 Z (.V Z (O.ld (y := .i x0.Day) ty3 Z Z Z) (.F fld35_13 Z (.V Z (O.ld (y := .b x0.Done) ty4 Z Z Z) (.V Z (O.build (out := [.i x0.Member, .i x0.Day, .b x0.Done]) bl90 Z Z Z Z (by kernel_rfl)) ?_)))))))); refine .V Z (O.mkIfc cn90 Z Z Z) (.A Z (.nil (W.ret ?_))); cases h; exact leaves (.inr Z) Z (.imm _) (cN .nil) Z Z
            ·refine W.seq (W.pk (.B Z (.A Z (.nil (W.cnd Z h (fun q13 h => ?_) (fun q13 h => ?_))))))
             ·refine W.seq (W.pk (.F fld35_1 Z (.V Z (O.ld (y := .i x0.Member) ty3 Z Z Z) (.V Z (O.build (out := [.i x0.Member]) bl92 Z Z Z Z (by kernel_rfl)) ?_)))); refine .V Z (O.mkIfc cn92 Z Z Z) (.A Z (.nil (W.ret ?_))); cases h; exact leaves (.inr Z) Z (.imm _) (cN .nil) Z Z
             ·refine W.seq (W.pk (.B Z (.A Z (.nil (W.cnd Z h (fun q14 h => ?_) (fun q14 h => ?_))))))
              ·refine W.seq (W.pk (.F fld35_1 Z (.V Z (O.ld (y := .i x0.Member) ty3 Z Z Z) (.F fld35_8 Z (.V Z (O.ld (y := .i x0.N) ty3 Z Z Z) (.V Z (O.build (out := [.i x0.Member, .i x0.N]) bl94 Z Z Z Z (by kernel_rfl)) ?_)))))); refine .V Z (O.mkIfc cn94 Z Z Z) (.A Z (.nil (W.ret ?_))); cases h; exact leaves (.inr Z) Z (.imm _) (cN .nil) Z Z
              ·refine W.seq (W.pk (.B Z (.A Z (.nil (W.cnd Z h (fun q15 h => ?_) (fun q15 h => ?_))))))
               ·refine W.seq (W.pk (.F fld35_12 Z (.V Z (O.ld (y := .i x0.Trade) ty3 Z Z Z) (.F fld35_6 Z (.V Z (O.ld (y := .i x0.Day) ty3 Z Z Z) (.F fld35_14 Z (.V Z (O.ld (y := .i x0.Rate) ty3 Z Z Z) (.V Z (O.build (out := [.i x0.Trade, .i x0.Day, .i x0.Rate]) bl96 Z Z Z Z (by kernel_rfl)) ?_)))))))); refine .V Z (O.mkIfc cn96 Z Z Z) (.A Z (.nil (W.ret ?_))); cases h; exact leaves (.inr Z) Z (.imm _) (cN .nil) Z Z
               ·refine W.skip (W.seq (W.pk (.A Z (.nil (W.ret ?_))))); cases h; exact leaves (.inr Z) Z (.imm _) (cN .nil) Z Z
noncomputable def lombardref05_digits.b0 (x0 : Bs) (v18 : Int) (v19 : List Int) : Option ((Int × (List Int)) ⊕ (((List Int) × Bool) ⊕ (List Int))) :=
 if (decide (v18 < (List.length x0 : Int))) = true then
 if (0 : Int) ≤ v18 ∧ v18 < (List.length x0 : Int) then
 if ((decide ((IntKind.wrap .i64 (byte x0 v18)) ≥ 48)) && (decide ((IntKind.wrap .i64 (byte x0 v18)) ≤ 57))) = true then
 if (List.length v19 + List.length [(IntKind.wrap .i64 ((IntKind.wrap .i64 (byte x0 v18)) - 48))]) * 8 ≤ 140737488355328 then
 some (.inl ((IntKind.wrap .i64 (v18 + 1)), (v19 ++ [(IntKind.wrap .i64 ((IntKind.wrap .i64 (byte x0 v18)) - 48))])))
 else none
 else if ((decide ((IntKind.wrap .i64 (byte x0 v18)) ≥ 65)) && (decide ((IntKind.wrap .i64 (byte x0 v18)) ≤ 90))) = true then
 if (List.length v19 + List.length [(IntKind.wrap .i64 (Int.tdiv (IntKind.wrap .i64 ((IntKind.wrap .i64 ((IntKind.wrap .i64 (byte x0 v18)) - 65)) + 10)) 10)), (Int.tmod (IntKind.wrap .i64 ((IntKind.wrap .i64 ((IntKind.wrap .i64 (byte x0 v18)) - 65)) + 10)) 10)]) * 8 ≤ 140737488355328 then
 some (.inl ((IntKind.wrap .i64 (v18 + 1)), (v19 ++ [(IntKind.wrap .i64 (Int.tdiv (IntKind.wrap .i64 ((IntKind.wrap .i64 ((IntKind.wrap .i64 (byte x0 v18)) - 65)) + 10)) 10)), (Int.tmod (IntKind.wrap .i64 ((IntKind.wrap .i64 ((IntKind.wrap .i64 (byte x0 v18)) - 65)) + 10)) 10)])))
 else none
 else some (.inr (.inl ([], false)))
 else none
 else some (.inr (.inr v19))
noncomputable def lombardref05_digits.r0 (x0 : Bs) (s : Int × (List Int)) : Option ((Int × (List Int)) ⊕ (((List Int) × Bool) ⊕ (List Int))) := lombardref05_digits.b0 x0 s.1 s.2
noncomputable def lombardref05_digits.f (x0 : Bs) : Option ((List Int) × Bool) :=
 (loop (lombardref05_digits.r0 x0) (0, [])).bind fun o37 =>
 match o37 with
 | .inl r48 => some r48
 | .inr w36 =>
 some (w36, true)
theorem lombardref05_digits.ok {x0 : Bs} {r : (List Int) × Bool} (h : lombardref05_digits.f x0 = some r) : Pm.Spec prog 121 [.imm (.val (.string (tx x0)))] (.tup [.xown 3 1 (List.map (encI .i64) r.1), .imm (.val (.bool r.2))]) [none] := by
 unfold lombardref05_digits.f at h; refine Pm.Spec.of_body Tryz.func121 Z (by kernel_rfl) (L Z) (L Z) ?_; refine W.ghost (σ' := (mkSt [(0, some (.s x0))] [] 1000)) (Gives.entry (.c Z .n) .n) (W.seq (W.pk (.A Z (.A Z (.nil (W.seq (W.pk (.A Z (.nil (W.seq (W.seq ?_))))))))))); refine W.pk (.A Z (.nil (W.ghost (Gives.mintS 4 3 1 Z) ?_))); obtain ⟨o37, b38, z39⟩ := bnd1 h; refine W.fork2 (out := o37) (fun (w36 : List Int) => mkSt [(4, some (.own 1000))] [(1000, some (.rows 3 1 (List.map (encI .i64) w36) false))] 1001) ?_ ?_
 ·clear h; refine W.block (W.loopF (fun (s_ : Int × (List Int)) => mkSt [(0, some (.s x0)), (4, some (.own 1000)), (5, some (.i s_.1))] [(1000, some (.rows 3 1 (List.map (encI .i64) s_.2) false))] 1001) b38 (Gm [] (.e Z Z) (.r Z Z Z .n) Z) ?_); rintro ⟨v18, v19⟩ s_ hr; have h : lombardref05_digits.b0 x0 v18 v19 = some s_ := hr; unfold lombardref05_digits.b0 at h; refine W.seq (W.seq (W.pk (.M Z (.M Z (.V Z (O.lenS u9 Z Z) (.B Z (.nil (W.cnd Z h (fun q40 h => ?_) (fun q40 h => ?_)))))))))
  ·refine W.skip (W.seq (W.block (W.seq ?_))); obtain ⟨c41, h⟩ := chk h; refine W.pk (.M Z (.M Z (.V Z (O.idxS u9 c41 Z Z Z) (.V Z (O.conv h5 u3 Z Z) (.A Z (.nil (W.seq (W.fork (mkSt [(0, some (.s x0)), (4, some (.own 1000)), (5, some (.i v18)), (6, some (.i (IntKind.wrap .i64 (byte x0 v18)))), (22, some (.b ((decide ((IntKind.wrap .i64 (byte x0 v18)) ≥ 48)) && (decide ((IntKind.wrap .i64 (byte x0 v18)) ≤ 57)))))] [(1000, some (.rows 3 1 (List.map (encI .i64) v19) false))] 1001) ?_ ?_))))))))
   ·refine W.cnd Z h (fun q43 h => ?_) (fun q43 h => ?_)
    ·obtain ⟨c44, h⟩ := chk h; refine W.pk (.M Z (.M Z (.B Z (.t Z Z (O.lit (enc := (encI .i64)) (l := [(IntKind.wrap .i64 ((IntKind.wrap .i64 (byte x0 v18)) - 48))]) sl25 Z Z Z Z Z Z Z Z Z) (.t Z Z (O.appO sl25 (EncOk.int .i64) c44 Z Z Z Z Z) (.A Z (.nil (W.pk (.M Z (.B Z (.A Z ?_))))))))))); refine .nil ?_; cases h; exact rdN (Gm [(1000, 1002)] (.e Z Z) (.r Z Z Z .n) Z)
    ·refine W.seq (W.fork (mkSt [(0, some (.s x0)), (4, some (.own 1000)), (5, some (.i v18)), (6, some (.i (IntKind.wrap .i64 (byte x0 v18)))), (33, some (.b ((decide ((IntKind.wrap .i64 (byte x0 v18)) ≥ 65)) && (decide ((IntKind.wrap .i64 (byte x0 v18)) ≤ 90)))))] [(1000, some (.rows 3 1 (List.map (encI .i64) v19) false))] 1001) ?_ ?_)
     ·refine W.cnd Z h (fun q46 h => ?_) (fun q46 h => ?_)
      ·obtain ⟨c47, h⟩ := chk h; refine W.pk (.M Z (.M Z (.B Z (.B Z (.V Z (O.quo Z Z Z (by decide)) ?_))))); refine .M Z (.B Z (.B Z (.V Z (O.rem Z Z Z (by decide)) ?_))); refine .t Z Z (O.lit (enc := (encI .i64)) (l := [(IntKind.wrap .i64 (Int.tdiv (IntKind.wrap .i64 ((IntKind.wrap .i64 ((IntKind.wrap .i64 (byte x0 v18)) - 65)) + 10)) 10)), (Int.tmod (IntKind.wrap .i64 ((IntKind.wrap .i64 ((IntKind.wrap .i64 (byte x0 v18)) - 65)) + 10)) 10)]) sl25 Z Z Z Z Z Z Z Z Z) (.t Z Z (O.appO sl25 (EncOk.int .i64) c47 Z Z Z Z Z) (.A Z (.nil (W.pk (.M Z (.B Z (.A Z (.nil ?_)))))))); cases h; exact rdN (Gm [(1000, 1002)] (.e Z Z) (.r Z Z Z .n) Z)
      ·refine W.seq (W.pk (.A Z (.A Z (.nil (W.ret ?_))))); cases h; refine rdR fun e_ => ?_; subst e_; have h := z39; dsimp only at h; refine fkR ?_; cases h; exact leaves (.inr Z) Z (.tup _ _ _ _ (cC (.nilown _ _) (cI .nil))) (cN .nil) Z Z
     ·clear h; refine W.pk (.M Z (.B Z (.M Z ?_))); rcases tf (decide ((IntKind.wrap .i64 (byte x0 v18)) ≥ 65)) with g45 | g45
      ·exact .m Z (met Z Z Z g45) Z Z (.v Z (met Z Z Z g45) (OpL.binI Z Z Z Z) (.V Z (O.pickT g45 Z Z Z) (.nil (toN (Gm [] (.r Z Z (.r Z Z (.r Z Z (.r Z Z (.c Z (sbb (by simp only [g45, BL])) Z .n))))) (.r Z Z Z .n) Z)))))
      ·(iterate 2 refine .x Z (unmet Z Z Z g45) ?_); exact .V Z (O.pickF g45 Z Z Z) (.nil (toN (Gm [] (.r Z Z (.r Z Z (.r Z Z (.r Z Z (.c Z (sbb (by simp only [g45, BL])) Z .n))))) (.r Z Z Z .n) Z)))
   ·clear h; refine W.pk (.M Z (.B Z (.M Z ?_))); rcases tf (decide ((IntKind.wrap .i64 (byte x0 v18)) ≥ 48)) with g42 | g42
    ·exact .m Z (met Z Z Z g42) Z Z (.v Z (met Z Z Z g42) (OpL.binI Z Z Z Z) (.V Z (O.pickT g42 Z Z Z) (.nil (toN (Gm [] (.r Z Z (.r Z Z (.r Z Z (.r Z Z (.c Z (sbb (by simp only [g42, BL])) Z .n))))) (.r Z Z Z .n) Z)))))
    ·(iterate 2 refine .x Z (unmet Z Z Z g42) ?_); exact .V Z (O.pickF g42 Z Z Z) (.nil (toN (Gm [] (.r Z Z (.r Z Z (.r Z Z (.r Z Z (.c Z (sbb (by simp only [g42, BL])) Z .n))))) (.r Z Z Z .n) Z)))
  ·refine W.exit ?_; cases h; refine rdX fun e_ => ?_; subst e_; (repeat with_reducible refine thru ?_); exact hit (fkN (Gm [] (.r Z Z .n) (.r Z Z Z .n) Z))
 ·intro w36 e_; subst e_; clear h; have h := z39; dsimp only at h; refine W.seq (W.pk (.M Z (.A Z (.A Z (.nil (W.ret ?_)))))); cases h; exact leaves (.inr Z) Z (.tup _ _ _ _ (cC (.own _ _ _ _ Z) (cI .nil))) (cN .nil) Z Z
noncomputable def lombardref05_shaped.f (x0 : Bs) : Option (Bool) :=
 (lombardref05_digits.f x0).bind fun t1 =>
 if ((t1.2 && ((List.length x0 : Int) == 11)) = true → (0 : Int) ≤ 0 ∧ 0 < (List.length x0 : Int)) then
 if (((t1.2 && ((List.length x0 : Int) == 11)) && (decide ((byte x0 0) ≥ 65))) = true → (0 : Int) ≤ 1 ∧ 1 < (List.length x0 : Int)) then
 some (((t1.2 && ((List.length x0 : Int) == 11)) && (decide ((byte x0 0) ≥ 65))) && (decide ((byte x0 1) ≥ 65)))
 else none
 else none
theorem lombardref05_shaped.ok {x0 : Bs} {r : Bool} (h : lombardref05_shaped.f x0 = some r) : Pm.Spec prog 113 [.imm (.val (.string (tx x0)))] (.imm (.val (.bool r))) [none] := by
 unfold lombardref05_shaped.f at h; refine Pm.Spec.of_body Tryz.func113 Z (by kernel_rfl) (L Z) (L Z) ?_; refine W.ghost (σ' := (mkSt [(0, some (.s x0))] [] 1000)) (Gives.entry (.c Z .n) .n) (W.seq (W.pk (.A Z (.nil (W.seq ?_))))); obtain ⟨t1, b2, h⟩ := bnd1 h; refine W.pk (.M Z (.C (.tup [.own 1000, .b t1.2]) [(1000, some (.rows 3 1 (List.map (encI .i64) t1.1) false))] 1 (lombardref05_digits.ok b2) ca121 Z (cI .nil) Z ?_)); refine .M Z ?_; (iterate 2 refine .V Z (OpL.extract Z Z Z) ?_); refine .A Z (.A Z (.nil (W.seq ?_))); obtain ⟨c3, h⟩ := chk h; obtain ⟨c4, h⟩ := chk h; refine W.fork (mkSt [(2, some (.b (((t1.2 && ((List.length x0 : Int) == 11)) && (decide ((byte x0 0) ≥ 65))) && (decide ((byte x0 1) ≥ 65)))))] [] 1001) ?_ ?_
 ·refine W.ret ?_; cases h; exact leaves (.inr Z) Z (.imm _) (cN .nil) Z Z
 ·clear h; refine W.pk (.M Z (.M Z ?_)); rcases tf t1.2 with g5 | g5
  ·refine .m Z (met Z Z Z g5) Z Z (.v Z (met Z Z Z g5) (O.lenS u9 Z Z) (.v Z (met Z Z Z g5) (OpL.binI Z Z Z Z) (.V Z (O.pickT g5 Z Z Z) (.M Z ?_)))); rcases tf ((List.length x0 : Int) == 11) with g6 | g6
   ·refine .m Z (met Z Z Z g6) Z Z (.v Z (met Z Z Z g6) (O.idxS u9 (c3 (by first | (simp only [g5, g6, BL]; done) | (repeat (first | rw [g5] | rw [g6])) <;> simp only [BL])) Z Z Z) ?_); refine .v Z (met Z Z Z g6) (OpL.binI Z Z Z Z) (.V Z (O.pickT g6 Z Z Z) (.M Z ?_)); rcases tf (decide ((byte x0 0) ≥ 65)) with g7 | g7
    ·refine .m Z (met Z Z Z g7) Z Z (.v Z (met Z Z Z g7) (O.idxS u9 (c4 (by first | (simp only [g5, g6, g7, BL]; done) | (repeat (first | rw [g5] | rw [g6] | rw [g7])) <;> simp only [BL])) Z Z Z) ?_); exact .v Z (met Z Z Z g7) (OpL.binI Z Z Z Z) (.V Z (O.pickT g7 Z Z Z) (.A Z (.nil (toN (Gm [] (.c Z (sbb (by first | (simp only [g5, g6, g7, BL]; done) | (repeat (first | rw [g5] | rw [g6] | rw [g7])) <;> simp only [BL])) Z .n) .n Z)))))
    ·(iterate 3 refine .x Z (unmet Z Z Z g7) ?_); exact .V Z (O.pickF g7 Z Z Z) (.A Z (.nil (toN (Gm [] (.c Z (sbb (by first | (simp only [g5, g6, g7, BL]; done) | (repeat (first | rw [g5] | rw [g6] | rw [g7])) <;> simp only [BL])) Z .n) .n Z))))
   ·(iterate 3 refine .x Z (unmet Z Z Z g6) ?_); refine .V Z (O.pickF g6 Z Z Z) (.M Z ?_); (iterate 3 refine .x Z (unmet Z Z Z Z) ?_); exact .V Z (O.pickF Z Z Z Z) (.A Z (.nil (toN (Gm [] (.c Z (sbb (by first | (simp only [g5, g6, BL]; done) | (repeat (first | rw [g5] | rw [g6])) <;> simp only [BL])) Z .n) .n Z))))
  ·(iterate 3 refine .x Z (unmet Z Z Z g5) ?_); refine .V Z (O.pickF g5 Z Z Z) (.M Z ?_); (iterate 3 refine .x Z (unmet Z Z Z Z) ?_); refine .V Z (O.pickF Z Z Z Z) (.M Z ?_); (iterate 3 refine .x Z (unmet Z Z Z Z) ?_); exact .V Z (O.pickF Z Z Z Z) (.A Z (.nil (toN (Gm [] (.c Z (sbb (by simp only [g5, BL])) Z .n) .n Z))))
noncomputable def lombardref05_right.b0 (t1 : (List Int) × Bool) (v10 : Int) (v11 : Int) : Option ((Int × Int) ⊕ Int) :=
 if (decide (v11 < (List.length t1.1 : Int))) = true then
 if (0 : Int) ≤ (IntKind.wrap .i64 ((IntKind.wrap .i64 ((List.length t1.1 : Int) - 1)) - v11)) ∧ (IntKind.wrap .i64 ((IntKind.wrap .i64 ((List.length t1.1 : Int) - 1)) - v11)) < (List.length t1.1 : Int) then
 ((
 if ((Int.tmod v11 2) == 1) = true then
 some (IntKind.wrap .i64 (2 * (nth t1.1 (IntKind.wrap .i64 ((IntKind.wrap .i64 ((List.length t1.1 : Int) - 1)) - v11)))))
 else some (nth t1.1 (IntKind.wrap .i64 ((IntKind.wrap .i64 ((List.length t1.1 : Int) - 1)) - v11))) : Option (Int))).bind fun o34 =>
 some (.inl ((IntKind.wrap .i64 ((IntKind.wrap .i64 (v10 + (IntKind.wrap .i64 (Int.tdiv o34 10)))) + (Int.tmod o34 10))), (IntKind.wrap .i64 (v11 + 1))))
 else none
 else some (.inr v10)
noncomputable def lombardref05_right.r0 (t1 : (List Int) × Bool) (s : Int × Int) : Option ((Int × Int) ⊕ Int) := lombardref05_right.b0 t1 s.1 s.2
noncomputable def lombardref05_right.f (x0 : Bs) : Option (Bool) :=
 (lombardref05_digits.f x0).bind fun t1 =>
 (loop (lombardref05_right.r0 t1) (0, 0)).bind fun o27 =>
 some (t1.2 && ((Int.tmod o27 10) == 0))
theorem lombardref05_right.ok {x0 : Bs} {r : Bool} (h : lombardref05_right.f x0 = some r) : Pm.Spec prog 114 [.imm (.val (.string (tx x0)))] (.imm (.val (.bool r))) [none] := by
 unfold lombardref05_right.f at h; refine Pm.Spec.of_body Tryz.func114 Z (by kernel_rfl) (L Z) (L Z) ?_; refine W.ghost (σ' := (mkSt [(0, some (.s x0))] [] 1000)) (Gives.entry (.c Z .n) .n) (W.seq (W.pk (.A Z (.nil (W.seq ?_))))); obtain ⟨t1, b2, h⟩ := bnd1 h; refine W.pk (.M Z (.C (.tup [.own 1000, .b t1.2]) [(1000, some (.rows 3 1 (List.map (encI .i64) t1.1) false))] 1 (lombardref05_digits.ok b2) ca121 Z (cI .nil) Z ?_)); refine .M Z ?_; (iterate 2 refine .V Z (OpL.extract Z Z Z) ?_); refine .A Z (.A Z (.nil (W.seq (W.pk (.A Z (.nil (W.seq (W.seq (W.pk (.A Z (.nil ?_))))))))))); obtain ⟨o27, b28, h⟩ := bnd1 h; refine W.fork (mkSt [(4, some (.b t1.2)), (5, some (.i o27))] [] 1001) ?_ ?_
 ·refine W.seq (W.fork (mkSt [(2, some (.b (t1.2 && ((Int.tmod o27 10) == 0))))] [] 1001) ?_ ?_)
  ·refine W.ret ?_; cases h; exact leaves (.inr Z) Z (.imm _) (cN .nil) Z Z
  ·clear h; refine W.pk (.M Z (.M Z ?_)); rcases tf t1.2 with g37 | g37
   ·refine .m Z (met Z Z Z g37) Z Z (.v Z (met Z Z Z g37) (O.rem Z Z Z (by decide)) ?_); exact .v Z (met Z Z Z g37) (OpL.binI Z Z Z Z) (.V Z (O.pickT g37 Z Z Z) (.A Z (.nil (toN (Gm [] (.c Z (sbb (by simp only [g37, BL])) Z .n) .n Z)))))
   ·(iterate 3 refine .x Z (unmet Z Z Z g37) ?_); exact .V Z (O.pickF g37 Z Z Z) (.A Z (.nil (toN (Gm [] (.c Z (sbb (by simp only [g37, BL])) Z .n) .n Z))))
 ·clear h; refine W.block (W.loopF (fun (s_ : Int × Int) => mkSt [(3, some (.own 1000)), (4, some (.b t1.2)), (5, some (.i s_.1)), (6, some (.i s_.2))] [(1000, some (.rows 3 1 (List.map (encI .i64) t1.1) false))] 1001) b28 (Gm [] (.e Z Z) (.r Z Z Z .n) Z) ?_); rintro ⟨v10, v11⟩ s_ hr; have h : lombardref05_right.b0 t1 v10 v11 = some s_ := hr; unfold lombardref05_right.b0 at h; refine W.seq (W.seq (W.pk (.M Z (.M Z (.V Z (O.lenO sl25 Z Z Z) (.B Z (.nil (W.cnd Z h (fun q30 h => ?_) (fun q30 h => ?_)))))))))
  ·refine W.skip (W.seq (W.block (W.seq ?_))); obtain ⟨c31, h⟩ := chk h; refine W.pk (.M Z (.M Z (.V Z (O.lenO sl25 Z Z Z) (.B Z (.M Z (.B Z (.V Z (O.idxO sl25 c31 Z Z Z Z) (.V Z (O.ldE (c := (.val (.int .i64 (nth t1.1 (IntKind.wrap .i64 ((IntKind.wrap .i64 ((List.length t1.1 : Int) - 1)) - v11)))))) ty3 c31 Z Z Z Z Z) (.A Z (.nil (W.seq ?_))))))))))); refine W.seq (W.pk (.M Z (.V Z (O.rem Z Z Z (by decide)) ?_))); refine .B Z (.nil ?_); obtain ⟨o34, b35, h⟩ := bnd1 h; refine W.fork (mkSt [(3, some (.own 1000)), (4, some (.b t1.2)), (5, some (.i v10)), (6, some (.i v11)), (7, some (.i o34))] [(1000, some (.rows 3 1 (List.map (encI .i64) t1.1) false))] 1001) ?_ ?_
   ·refine W.pk (.M Z (.M Z (.V Z (O.quo Z Z Z (by decide)) ?_))); refine .B Z (.M Z (.V Z (O.rem Z Z Z (by decide)) ?_)); refine .B Z (.A Z (.nil (W.pk (.M Z (.B Z (.A Z (.nil ?_))))))); cases h; exact rdN (Gm [] (.e Z Z) (.r Z Z Z .n) Z)
   ·clear h; have h := b35; refine W.cnd Z h (fun q36 h => ?_) (fun q36 h => ?_)
    ·refine W.pk (.M Z (.B Z (.A Z (.nil ?_)))); cases h; exact toN (Gm [] (.e Z Z) (.r Z Z Z .n) Z)
    ·refine W.skip ?_; cases h; exact toN (Gm [] (.e Z Z) (.r Z Z Z .n) Z)
  ·refine W.exit ?_; cases h; refine rdX fun e_ => ?_; subst e_; (repeat with_reducible refine thru ?_); exact hit (toN (Gm [] (.e Z Z) .n Z))
noncomputable def lombardref05_Check.f (x0 : Bs) : Option (Int) :=
 if (((List.length x0 : Int) != 12) = false → (0 : Int) ≤ 11 ∧ 11 < (List.length x0 : Int)) then
 if ((((List.length x0 : Int) != 12) || (decide ((byte x0 11) < 48))) = false → (0 : Int) ≤ 11 ∧ 11 < (List.length x0 : Int)) then
 if (((((List.length x0 : Int) != 12) || (decide ((byte x0 11) < 48))) || (decide ((byte x0 11) > 57))) = false → (0 : Int) ≤ 0 ∧ (0 : Int) ≤ 11 ∧ 11 ≤ (List.length x0 : Int)) then
 (if ((((List.length x0 : Int) != 12) || (decide ((byte x0 11) < 48))) || (decide ((byte x0 11) > 57))) = false then lombardref05_shaped.f (List.take (Int.toNat 11 - Int.toNat 0) (List.drop (Int.toNat 0) x0)) else some default).bind fun t4 =>
 if (((((List.length x0 : Int) != 12) || (decide ((byte x0 11) < 48))) || (decide ((byte x0 11) > 57))) || (!t4)) = true then
 some 11
 else (lombardref05_right.f x0).bind fun t10 =>
 if (!t10) = true then
 some 12
 else some 0
 else none
 else none
 else none
theorem lombardref05_Check.ok {x0 : Bs} {r : Int} (h : lombardref05_Check.f x0 = some r) : Pm.Spec prog 96 [.imm (.val (.string (tx x0)))] (.imm (.val (.int .i64 r))) [none] := by
 unfold lombardref05_Check.f at h; refine Pm.Spec.of_body Tryz.func96 Z (by kernel_rfl) (L Z) (L Z) ?_; refine W.ghost (σ' := (mkSt [(0, some (.s x0))] [] 1000)) (Gives.entry (.c Z .n) .n) (W.seq (W.pk (.A Z (.nil (W.seq (W.seq ?_)))))); obtain ⟨c1, h⟩ := chk h; obtain ⟨c2, h⟩ := chk h; obtain ⟨c3, h⟩ := chk h; obtain ⟨t4, b5, h⟩ := bnd1 h; refine W.fork (mkSt [(0, some (.s x0)), (21, some (.b (((((List.length x0 : Int) != 12) || (decide ((byte x0 11) < 48))) || (decide ((byte x0 11) > 57))) || (!t4))))] [] 1000) ?_ ?_
 ·refine W.cnd Z h (fun q9 h => ?_) (fun q9 h => ?_)
  ·refine W.seq (W.pk (.A Z (.nil (W.ret ?_)))); cases h; exact leaves (.inr Z) Z (.imm _) (cN .nil) Z Z
  ·refine W.skip (W.seq (W.seq ?_)); obtain ⟨t10, b11, h⟩ := bnd1 h; refine W.pk (.M Z (.C (.b t10) [] 0 (lombardref05_right.ok b11) ca114 Z (cI .nil) Z ?_)); refine .V Z (OpL.unV Z Z Z) (.nil (W.cnd Z h (fun q12 h => ?_) (fun q12 h => ?_)))
   ·refine W.seq (W.pk (.A Z (.nil (W.ret ?_)))); cases h; exact leaves (.inr Z) Z (.imm _) (cN .nil) Z Z
   ·refine W.skip (W.seq (W.pk (.A Z (.nil (W.ret ?_))))); cases h; exact leaves (.inr Z) Z (.imm _) (cN .nil) Z Z
 ·clear h; refine W.pk (.M Z (.V Z (O.lenS u9 Z Z) (.B Z (.M Z ?_)))); rcases tf ((List.length x0 : Int) != 12) with g6 | g6
  ·(iterate 3 refine .x Z (unmet Z Z Z g6) ?_); refine .V Z (O.pickT g6 Z Z Z) (.M Z ?_); (iterate 3 refine .x Z (unmet Z Z Z Z) ?_); refine .V Z (O.pickT Z Z Z Z) (.M Z ?_); (iterate 4 refine .x Z (unmet Z Z Z Z) ?_); exact .V Z (O.pickT Z Z Z Z) (.nil (toN (Gm [] (.r Z Z (.c Z (sbb (by simp only [g6, BL])) Z .n)) .n Z)))
  ·refine .m Z (met Z Z Z g6) Z Z (.v Z (met Z Z Z g6) (O.idxS u9 (c1 (by simp only [g6, BL])) Z Z Z) ?_); refine .v Z (met Z Z Z g6) (OpL.binI Z Z Z Z) (.V Z (O.pickF g6 Z Z Z) (.M Z ?_)); rcases tf (decide ((byte x0 11) < 48)) with g7 | g7
   ·(iterate 3 refine .x Z (unmet Z Z Z g7) ?_); refine .V Z (O.pickT g7 Z Z Z) (.M Z ?_); (iterate 4 refine .x Z (unmet Z Z Z Z) ?_); exact .V Z (O.pickT Z Z Z Z) (.nil (toN (Gm [] (.r Z Z (.c Z (sbb (by first | (simp only [g6, g7, BL]; done) | (repeat (first | rw [g6] | rw [g7])) <;> simp only [BL])) Z .n)) .n Z)))
   ·refine .m Z (met Z Z Z g7) Z Z (.v Z (met Z Z Z g7) (O.idxS u9 (c2 (by first | (simp only [g6, g7, BL]; done) | (repeat (first | rw [g6] | rw [g7])) <;> simp only [BL])) Z Z Z) ?_); refine .v Z (met Z Z Z g7) (OpL.binI Z Z Z Z) (.V Z (O.pickF g7 Z Z Z) (.M Z ?_)); rcases tf (decide ((byte x0 11) > 57)) with g8 | g8
    ·(iterate 4 refine .x Z (unmet Z Z Z g8) ?_); exact .V Z (O.pickT g8 Z Z Z) (.nil (toN (Gm [] (.r Z Z (.c Z (sbb (by first | (simp only [g6, g7, g8, BL]; done) | (repeat (first | rw [g6] | rw [g7] | rw [g8])) <;> simp only [BL])) Z .n)) .n Z)))
    ·refine .m Z (met Z Z Z g8) Z Z (.v Z (met Z Z Z g8) (O.partS u9 (c3 (by first | (simp only [g6, g7, g8, BL]; done) | (repeat (first | rw [g6] | rw [g7] | rw [g8])) <;> simp only [BL])) Z Z Z Z) ?_); refine .call (.b t4) [] 0 (lombardref05_shaped.ok ((if_pos (by first | (simp only [g6, g7, g8, BL]; done) | (repeat (first | rw [g6] | rw [g7] | rw [g8])) <;> simp only [BL])).symm.trans b5)) Z (met Z Z Z g8) Z ca113 Z Z (cI .nil) Z Z Z Z Z ?_; exact .v Z (met Z Z Z g8) (OpL.unV Z Z Z) (.V Z (O.pickF g8 Z Z Z) (.nil (toN (Gm [] (.r Z Z (.c Z (sbb (by first | (simp only [g6, g7, g8, BL]; done) | (repeat (first | rw [g6] | rw [g7] | rw [g8])) <;> simp only [BL])) Z .n)) .n Z))))
noncomputable def lombardref05_Currency.b0 (x0 : Bs) (v4 : Int) : Option (Int ⊕ (Bool ⊕ Unit)) :=
 if (decide (v4 < 32)) = true then
 if (0 : Int) ≤ v4 ∧ v4 ≤ (IntKind.wrap .i64 (v4 + 3)) ∧ (IntKind.wrap .i64 (v4 + 3)) ≤ (List.length [69, 85, 82, 32, 85, 83, 68, 32, 71, 66, 80, 32, 67, 72, 70, 32, 74, 80, 89, 32, 83, 69, 75, 32, 78, 79, 75, 32, 68, 75, 75, 32] : Int) then
 if ((List.take (Int.toNat (IntKind.wrap .i64 (v4 + 3)) - Int.toNat v4) (List.drop (Int.toNat v4) [69, 85, 82, 32, 85, 83, 68, 32, 71, 66, 80, 32, 67, 72, 70, 32, 74, 80, 89, 32, 83, 69, 75, 32, 78, 79, 75, 32, 68, 75, 75, 32])) == x0) = true then
 some (.inr (.inl true))
 else some (.inl (IntKind.wrap .i64 (v4 + 4)))
 else none
 else some (.inr (.inr ()))
noncomputable def lombardref05_Currency.r0 (x0 : Bs) (s : Int) : Option (Int ⊕ (Bool ⊕ Unit)) := lombardref05_Currency.b0 x0 s
noncomputable def lombardref05_Currency.f (x0 : Bs) : Option (Bool) :=
 (loop (lombardref05_Currency.r0 x0) 0).bind fun o12 =>
 match o12 with
 | .inl r18 => some r18
 | .inr w11 =>
 some false
theorem lombardref05_Currency.ok {x0 : Bs} {r : Bool} (h : lombardref05_Currency.f x0 = some r) : Pm.Spec prog 56 [.imm (.val (.string (tx x0)))] (.imm (.val (.bool r))) [none] := by
 unfold lombardref05_Currency.f at h; refine Pm.Spec.of_body Tryz.func56 Z (by kernel_rfl) (L Z) (L Z) ?_; refine W.ghost (σ' := (mkSt [(0, some (.s x0))] [] 1000)) (Gives.entry (.c Z .n) .n) (W.seq (W.pk (.A Z (.nil (W.seq (W.seq (W.pk (.A Z (.nil ?_))))))))); obtain ⟨o12, b13, z14⟩ := bnd1 h; refine W.fork2 (out := o12) (fun (w11 : Unit) => mkSt [] [] 1000) ?_ ?_
 ·clear h; refine W.block (W.loopF (fun (s_ : Int) => mkSt [(0, some (.s x0)), (3, some (.i s_))] [] 1000) b13 (Gm [] (.e Z Z) .n Z) ?_); rintro v4 s_ hr; have h : lombardref05_Currency.b0 x0 v4 = some s_ := hr; unfold lombardref05_Currency.b0 at h; refine W.seq (W.seq (W.pk (.M Z (.B Z (.nil (W.cnd Z h (fun q15 h => ?_) (fun q15 h => ?_)))))))
  ·refine W.skip (W.seq (W.block (W.seq ?_))); obtain ⟨c16, h⟩ := chk h; refine W.pk (.M Z (.M Z (.B Z (.V Z (O.partS u9 c16 Z Z Z Z) (.M Z (.V Z (O.cmpS Z Z Z Z) (.nil (W.cnd Z h (fun q17 h => ?_) (fun q17 h => ?_)))))))))
   ·refine W.seq (W.pk (.A Z (.nil (W.ret ?_)))); cases h; refine rdR fun e_ => ?_; subst e_; have h := z14; dsimp only at h; refine fkR ?_; cases h; exact leaves (.inr Z) Z (.imm _) (cN .nil) Z Z
   ·refine W.skip (W.pk (.M Z (.B Z (.A Z (.nil ?_))))); cases h; exact rdN (Gm [] (.e Z Z) .n Z)
  ·refine W.exit ?_; cases h; refine rdX fun e_ => ?_; subst e_; (repeat with_reducible refine thru ?_); exact hit (fkN (Gm [] .n .n Z))
 ·intro w11 e_; subst e_; clear h; have h := z14; dsimp only at h; refine W.seq (W.pk (.A Z (.nil (W.ret ?_)))); cases h; exact leaves (.inr Z) Z (.imm _) (cN .nil) Z Z
noncomputable def lombardref05_Asset.f (x0 : api_Asset) : Option (Int) :=
 (lombardref05_Check.f x0.ISIN).bind fun t1 =>
 if (t1 != 0) = true then
 (lombardref05_Check.f x0.ISIN).bind fun t4 =>
 some t4
 else (lombardref05_Currency.f x0.Currency).bind fun t6 =>
 if (!t6) = true then
 some 11
 else if ((((decide (x0.Issuer < 0)) || (decide (x0.Issuer > 9999))) || (decide (x0.Rating < 0))) || (decide (x0.Rating > 20))) = true then
 some 1
 else if ((decide (x0.Maturity < 0)) || (decide (x0.Maturity > 200000))) = true then
 some 10
 else some 0
theorem lombardref05_Asset.ok {x0 : api_Asset} {r : Int} (h : lombardref05_Asset.f x0 = some r) : Pm.Spec prog 52 [.agg (im (api_Asset.enc x0))] (.imm (.val (.int .i64 r))) [none] := by
 unfold lombardref05_Asset.f at h; refine Pm.Spec.of_body Tryz.func52 Z (by kernel_rfl) (L Z) (L Z) ?_; refine W.ghost (σ' := (mkSt [(0, some (.agg (api_Asset.av x0)))] [] 1000)) (Gives.entry (.c Z .n) .n) (W.seq (W.pk (.t Z Z (O.box Z Z Z Z Z) (.A Z (.nil (W.seq (W.seq ?_))))))); obtain ⟨t1, b2, h⟩ := bnd1 h; refine W.pk (.F fld23_0 Z (.V Z (O.ld (y := .s x0.ISIN) ty9 Z Z Z) (.C (.i t1) [] 0 (lombardref05_Check.ok b2) ca96 Z (cI .nil) Z ?_))); refine .B Z (.nil (W.cnd Z h (fun q3 h => ?_) (fun q3 h => ?_)))
 ·refine W.seq ?_; obtain ⟨t4, b5, h⟩ := bnd1 h; refine W.pk (.F fld23_0 Z (.V Z (O.ld (y := .s x0.ISIN) ty9 Z Z Z) (.C (.i t4) [] 0 (lombardref05_Check.ok b5) ca96 Z (cI .nil) Z ?_))); refine .A Z (.nil (W.ret ?_)); cases h; exact leaves (.inr Z) Z (.imm _) (cN .nil) Z Z
 ·refine W.skip (W.seq (W.seq ?_)); obtain ⟨t6, b7, h⟩ := bnd1 h; refine W.pk (.F fld23_4 Z (.V Z (O.ld (y := .s x0.Currency) ty9 Z Z Z) (.C (.b t6) [] 0 (lombardref05_Currency.ok b7) ca56 Z (cI .nil) Z ?_))); refine .V Z (OpL.unV Z Z Z) (.nil (W.cnd Z h (fun q8 h => ?_) (fun q8 h => ?_)))
  ·refine W.seq (W.pk (.A Z (.nil (W.ret ?_)))); cases h; exact leaves (.inr Z) Z (.imm _) (cN .nil) Z Z
  ·refine W.skip (W.seq (W.seq (W.fork (mkSt [(1, some (.ptr 1000 0)), (31, some (.b ((((decide (x0.Issuer < 0)) || (decide (x0.Issuer > 9999))) || (decide (x0.Rating < 0))) || (decide (x0.Rating > 20)))))] [(1000, some (.box (api_Asset.av x0)))] 1001) ?_ ?_)))
   ·refine W.cnd Z h (fun q12 h => ?_) (fun q12 h => ?_)
    ·refine W.seq (W.pk (.A Z (.nil (W.ret ?_)))); cases h; exact leaves (.inr Z) Z (.imm _) (cN .nil) Z Z
    ·refine W.skip (W.seq (W.seq (W.fork (mkSt [(39, some (.b ((decide (x0.Maturity < 0)) || (decide (x0.Maturity > 200000)))))] [] 1001) ?_ ?_)))
     ·refine W.cnd Z h (fun q14 h => ?_) (fun q14 h => ?_)
      ·refine W.seq (W.pk (.A Z (.nil (W.ret ?_)))); cases h; exact leaves (.inr Z) Z (.imm _) (cN .nil) Z Z
      ·refine W.skip (W.seq (W.pk (.A Z (.nil (W.ret ?_))))); cases h; exact leaves (.inr Z) Z (.imm _) (cN .nil) Z Z
     ·clear h; refine W.pk (.F fld23_3 Z (.V Z (O.ld (y := .i x0.Maturity) ty3 Z Z Z) (.B Z (.M Z ?_)))); rcases tf (decide (x0.Maturity < 0)) with g13 | g13
      ·(iterate 3 refine .x Z (unmet Z Z Z g13) ?_); exact .V Z (O.pickT g13 Z Z Z) (.nil (toN (Gm [] (.c Z (sbb (by simp only [g13, BL])) Z .n) .n Z)))
      ·exact .v Z (met Z Z Z g13) (O.fld fld23_3 Z Z Z) (.v Z (met Z Z Z g13) (O.ld (y := .i x0.Maturity) ty3 Z Z Z) (.v Z (met Z Z Z g13) (OpL.binI Z Z Z Z) (.V Z (O.pickF g13 Z Z Z) (.nil (toN (Gm [] (.c Z (sbb (by simp only [g13, BL])) Z .n) .n Z))))))
   ·clear h; refine W.pk (.F fld23_1 Z (.V Z (O.ld (y := .i x0.Issuer) ty3 Z Z Z) (.B Z (.M Z ?_)))); rcases tf (decide (x0.Issuer < 0)) with g9 | g9
    ·(iterate 3 refine .x Z (unmet Z Z Z g9) ?_); refine .V Z (O.pickT g9 Z Z Z) (.M Z ?_); (iterate 3 refine .x Z (unmet Z Z Z Z) ?_); refine .V Z (O.pickT Z Z Z Z) (.M Z ?_); (iterate 3 refine .x Z (unmet Z Z Z Z) ?_); exact .V Z (O.pickT Z Z Z Z) (.nil (toN (Gm [] (.r Z Z (.c Z (sbb (by simp only [g9, BL])) Z .n)) (.r Z Z Z .n) Z)))
    ·refine .v Z (met Z Z Z g9) (O.fld fld23_1 Z Z Z) (.v Z (met Z Z Z g9) (O.ld (y := .i x0.Issuer) ty3 Z Z Z) (.v Z (met Z Z Z g9) (OpL.binI Z Z Z Z) (.V Z (O.pickF g9 Z Z Z) (.M Z ?_)))); rcases tf (decide (x0.Issuer > 9999)) with g10 | g10
     ·(iterate 3 refine .x Z (unmet Z Z Z g10) ?_); refine .V Z (O.pickT g10 Z Z Z) (.M Z ?_); (iterate 3 refine .x Z (unmet Z Z Z Z) ?_); exact .V Z (O.pickT Z Z Z Z) (.nil (toN (Gm [] (.r Z Z (.c Z (sbb (by first | (simp only [g9, g10, BL]; done) | (repeat (first | rw [g9] | rw [g10])) <;> simp only [BL])) Z .n)) (.r Z Z Z .n) Z)))
     ·refine .v Z (met Z Z Z g10) (O.fld fld23_2 Z Z Z) (.v Z (met Z Z Z g10) (O.ld (y := .i x0.Rating) ty3 Z Z Z) (.v Z (met Z Z Z g10) (OpL.binI Z Z Z Z) (.V Z (O.pickF g10 Z Z Z) (.M Z ?_)))); rcases tf (decide (x0.Rating < 0)) with g11 | g11
      ·(iterate 3 refine .x Z (unmet Z Z Z g11) ?_); exact .V Z (O.pickT g11 Z Z Z) (.nil (toN (Gm [] (.r Z Z (.c Z (sbb (by first | (simp only [g9, g10, g11, BL]; done) | (repeat (first | rw [g9] | rw [g10] | rw [g11])) <;> simp only [BL])) Z .n)) (.r Z Z Z .n) Z)))
      ·exact .v Z (met Z Z Z g11) (O.fld fld23_2 Z Z Z) (.v Z (met Z Z Z g11) (O.ld (y := .i x0.Rating) ty3 Z Z Z) (.v Z (met Z Z Z g11) (OpL.binI Z Z Z Z) (.V Z (O.pickF g11 Z Z Z) (.nil (toN (Gm [] (.r Z Z (.c Z (sbb (by first | (simp only [g9, g10, g11, BL]; done) | (repeat (first | rw [g9] | rw [g10] | rw [g11])) <;> simp only [BL])) Z .n)) (.r Z Z Z .n) Z))))))
noncomputable def lombardref10_in.f (x0 : Int) (x1 : Int) (x2 : Int) : Option (Bool) :=
 some ((decide (x0 ≥ x1)) && (decide (x0 ≤ x2)))
theorem lombardref10_in.ok {x0 : Int} {x1 : Int} {x2 : Int} {r : Bool} (h : lombardref10_in.f x0 x1 x2 = some r) : Pm.Spec prog 97 [.imm (.val (.int .i64 x0)), .imm (.val (.int .i64 x1)), .imm (.val (.int .i64 x2))] (.imm (.val (.bool r))) [none, none, none] := by
 unfold lombardref10_in.f at h; refine Pm.Spec.of_body Tryz.func97 Z (by kernel_rfl) (L Z) (L Z) ?_; refine W.ghost (σ' := (mkSt [(0, some (.i x0)), (1, some (.i x1)), (2, some (.i x2))] [] 1000)) (Gives.entry (.c Z (.c Z (.c Z .n))) .n) (W.seq (W.pk (.A Z (.nil (W.seq (W.fork (mkSt [(6, some (.b ((decide (x0 ≥ x1)) && (decide (x0 ≤ x2)))))] [] 1000) ?_ ?_))))))
 ·refine W.ret ?_; cases h; exact leaves (.inr Z) Z (.imm _) (cN (cN (cN .nil))) Z Z
 ·clear h; refine W.pk (.M Z (.M Z (.B Z (.M Z ?_)))); rcases tf (decide (x0 ≥ x1)) with g1 | g1
  ·(iterate 2 refine .m Z (met Z Z Z g1) Z Z ?_); exact .v Z (met Z Z Z g1) (OpL.binI Z Z Z Z) (.V Z (O.pickT g1 Z Z Z) (.A Z (.nil (toN (Gm [] (.c Z (sbb (by simp only [g1, BL])) Z .n) .n Z)))))
  ·(iterate 3 refine .x Z (unmet Z Z Z g1) ?_); exact .V Z (O.pickF g1 Z Z Z) (.A Z (.nil (toN (Gm [] (.c Z (sbb (by simp only [g1, BL])) Z .n) .n Z))))
noncomputable def lombardref10_Amount.f (x0 : Int) : Option (Bool) :=
 some ((decide (x0 ≥ 1)) && (decide (x0 ≤ 1125899906842624)))
theorem lombardref10_Amount.ok {x0 : Int} {r : Bool} (h : lombardref10_Amount.f x0 = some r) : Pm.Spec prog 98 [.imm (.val (.int .i64 x0))] (.imm (.val (.bool r))) [none] := by
 unfold lombardref10_Amount.f at h; refine Pm.Spec.of_body Tryz.func98 Z (by kernel_rfl) (L Z) (L Z) ?_; refine W.ghost (σ' := (mkSt [(0, some (.i x0))] [] 1000)) (Gives.entry (.c Z .n) .n) (W.seq (W.pk (.A Z (.nil (W.seq (W.fork (mkSt [(2, some (.b ((decide (x0 ≥ 1)) && (decide (x0 ≤ 1125899906842624)))))] [] 1000) ?_ ?_))))))
 ·refine W.ret ?_; cases h; exact leaves (.inr Z) Z (.imm _) (cN .nil) Z Z
 ·clear h; refine W.pk (.M Z (.B Z (.M Z ?_))); rcases tf (decide (x0 ≥ 1)) with g1 | g1
  ·exact .m Z (met Z Z Z g1) Z Z (.v Z (met Z Z Z g1) (OpL.binI Z Z Z Z) (.V Z (O.pickT g1 Z Z Z) (.A Z (.nil (toN (Gm [] (.c Z (sbb (by simp only [g1, BL])) Z .n) .n Z))))))
  ·(iterate 2 refine .x Z (unmet Z Z Z g1) ?_); exact .V Z (O.pickF g1 Z Z Z) (.A Z (.nil (toN (Gm [] (.c Z (sbb (by simp only [g1, BL])) Z .n) .n Z))))
noncomputable def lombardref10_Basket.b0 (x0 : api_Basket) (v40 : Int) : Option (Int ⊕ (Int ⊕ Unit)) :=
 if (decide (v40 < (List.length x0.Cuts : Int))) = true then
 if (0 : Int) ≤ v40 ∧ v40 < (List.length x0.Cuts : Int) then
 (lombardref10_in.f ((nth x0.Cuts v40).Days) 0 200000).bind fun t73 =>
 if ((!t73) = false → (0 : Int) ≤ v40 ∧ v40 < (List.length x0.Cuts : Int)) then
 (if (!t73) = false then lombardref10_in.f ((nth x0.Cuts v40).Rating) 0 20 else some default).bind fun t76 =>
 if (((!t73) || (!t76)) = false → (0 : Int) ≤ v40 ∧ v40 < (List.length x0.Cuts : Int)) then
 (if ((!t73) || (!t76)) = false then lombardref10_in.f ((nth x0.Cuts v40).Cut) 0 999999 else some default).bind fun t79 =>
 if (((!t73) || (!t76)) || (!t79)) = true then
 some (.inr (.inl 1))
 else some (.inl (IntKind.wrap .i64 (v40 + 1)))
 else none
 else none
 else none
 else some (.inr (.inr ()))
noncomputable def lombardref10_Basket.r0 (x0 : api_Basket) (s : Int) : Option (Int ⊕ (Int ⊕ Unit)) := lombardref10_Basket.b0 x0 s
noncomputable def lombardref10_Basket.b1 (x0 : api_Basket) (v94 : Int) : Option (Int ⊕ (Int ⊕ Unit)) :=
 if (decide (v94 < (List.length x0.Barred : Int))) = true then
 if (0 : Int) ≤ v94 ∧ v94 < (List.length x0.Barred : Int) then
 (lombardref10_in.f (nth x0.Barred v94) 0 9999).bind fun t119 =>
 if ((!t119) = false ∧ (decide (v94 > 0)) = true → (0 : Int) ≤ v94 ∧ v94 < (List.length x0.Barred : Int)) then
 if ((!t119) = false ∧ (decide (v94 > 0)) = true → (0 : Int) ≤ (IntKind.wrap .i64 (v94 - 1)) ∧ (IntKind.wrap .i64 (v94 - 1)) < (List.length x0.Barred : Int)) then
 if ((!t119) || ((decide (v94 > 0)) && (decide ((nth x0.Barred v94) ≤ (nth x0.Barred (IntKind.wrap .i64 (v94 - 1))))))) = true then
 some (.inr (.inl 1))
 else some (.inl (IntKind.wrap .i64 (v94 + 1)))
 else none
 else none
 else none
 else some (.inr (.inr ()))
noncomputable def lombardref10_Basket.r1 (x0 : api_Basket) (s : Int) : Option (Int ⊕ (Int ⊕ Unit)) := lombardref10_Basket.b1 x0 s
noncomputable def lombardref10_Basket.f (x0 : api_Basket) : Option (Int) :=
 (lombardref10_in.f x0.ID 1 64).bind fun t1 =>
 (if (!t1) = false then lombardref10_Amount.f x0.Version else some default).bind fun t3 =>
 (if ((!t1) || (!t3)) = false then lombardref10_in.f x0.Rating 0 20 else some default).bind fun t5 =>
 (if (((!t1) || (!t3)) || (!t5)) = false then lombardref10_in.f x0.Issuer 0 1000000 else some default).bind fun t7 =>
 (if ((((!t1) || (!t3)) || (!t5)) || (!t7)) = false then lombardref10_in.f x0.Asset 0 1000000 else some default).bind fun t9 =>
 (if (((((!t1) || (!t3)) || (!t5)) || (!t7)) || (!t9)) = false then lombardref10_in.f (List.length x0.Cuts : Int) 1 64 else some default).bind fun t11 =>
 if (((((((!t1) || (!t3)) || (!t5)) || (!t7)) || (!t9)) || (!t11)) || (decide ((List.length x0.Barred : Int) > 64))) = true then
 some 1
 else (if (decide (x0.Least < 0)) = false then lombardref10_in.f x0.Most x0.Least 200000 else some default).bind fun t20 =>
 if ((decide (x0.Least < 0)) || (!t20)) = true then
 some 10
 else (lombardref05_Currency.f x0.Currency).bind fun t24 =>
 if (!t24) = true then
 some 11
 else (loop (lombardref10_Basket.r0 x0) 0).bind fun o68 =>
 match o68 with
 | .inl r84 => some r84
 | .inr w67 =>
 (loop (lombardref10_Basket.r1 x0) 0).bind fun o114 =>
 match o114 with
 | .inl r126 => some r126
 | .inr w113 =>
 some 0
theorem lombardref10_Basket.ok {x0 : api_Basket} {r : Int} (h : lombardref10_Basket.f x0 = some r) : Pm.Spec prog 53 [.agg (im (api_Basket.enc x0))] (.imm (.val (.int .i64 r))) [none] := by
 unfold lombardref10_Basket.f at h; refine Pm.Spec.of_body Tryz.func53 Z (by kernel_rfl) (L Z) (L Z) ?_; refine W.ghost (σ' := (mkSt [(0, some (.agg (api_Basket.av x0)))] [] 1000)) (Gives.entry (.c Z .n) .n) (W.seq (W.pk (.t Z Z (O.box Z Z Z Z Z) (.A Z (.nil (W.seq (W.seq ?_))))))); obtain ⟨t1, b2, h⟩ := bnd1 h; obtain ⟨t3, b4, h⟩ := bnd1 h; obtain ⟨t5, b6, h⟩ := bnd1 h; obtain ⟨t7, b8, h⟩ := bnd1 h; obtain ⟨t9, b10, h⟩ := bnd1 h; obtain ⟨t11, b12, h⟩ := bnd1 h; refine W.fork (mkSt [(1, some (.ptr 1000 0)), (45, some (.b (((((((!t1) || (!t3)) || (!t5)) || (!t7)) || (!t9)) || (!t11)) || (decide ((List.length x0.Barred : Int) > 64)))))] [(1000, some (.box (api_Basket.av x0)))] 1001) ?_ ?_
 ·refine W.cnd Z h (fun q19 h => ?_) (fun q19 h => ?_)
  ·refine W.seq (W.pk (.A Z (.nil (W.ret ?_)))); cases h; exact leaves (.inr Z) Z (.imm _) (cN .nil) Z Z
  ·refine W.skip (W.seq (W.seq ?_)); obtain ⟨t20, b21, h⟩ := bnd1 h; refine W.fork (mkSt [(1, some (.ptr 1000 0)), (56, some (.b ((decide (x0.Least < 0)) || (!t20))))] [(1000, some (.box (api_Basket.av x0)))] 1001) ?_ ?_
   ·refine W.cnd Z h (fun q23 h => ?_) (fun q23 h => ?_)
    ·refine W.seq (W.pk (.A Z (.nil (W.ret ?_)))); cases h; exact leaves (.inr Z) Z (.imm _) (cN .nil) Z Z
    ·refine W.skip (W.seq (W.seq ?_)); obtain ⟨t24, b25, h⟩ := bnd1 h; refine W.pk (.F fld27_2 Z (.V Z (O.ld (y := .s x0.Currency) ty9 Z Z Z) (.C (.b t24) [] 0 (lombardref05_Currency.ok b25) ca56 Z (cI .nil) Z ?_))); refine .V Z (OpL.unV Z Z Z) (.nil (W.cnd Z h (fun q26 h => ?_) (fun q26 h => ?_)))
     ·refine W.seq (W.pk (.A Z (.nil (W.ret ?_)))); cases h; exact leaves (.inr Z) Z (.imm _) (cN .nil) Z Z
     ·refine W.skip (W.seq (W.seq (W.pk (.A Z (.nil ?_))))); obtain ⟨o68, b69, z70⟩ := bnd1 h; refine W.fork2 (out := o68) (fun (w67 : Unit) => mkSt [(1, some (.ptr 1000 0))] [(1000, some (.box (api_Basket.av x0)))] 1001) ?_ ?_
      ·clear h; refine W.block (W.loopF (fun (s_ : Int) => mkSt [(1, some (.ptr 1000 0)), (3, some (.i s_))] [(1000, some (.box (api_Basket.av x0)))] 1001) b69 (Gm [] (.e Z Z) (.r Z Z Z .n) Z) ?_); rintro v40 s_ hr; have h : lombardref10_Basket.b0 x0 v40 = some s_ := hr; unfold lombardref10_Basket.b0 at h; refine W.seq (W.seq (W.pk (.M Z (.F fld27_6 Z (.V Z (O.ld (y := .imm (.row 3 (List.map api_Cut.enc x0.Cuts))) ty24 Z Z Z) (.V Z (O.lenR sl24 Z Z) (.B Z (.nil (W.cnd Z h (fun q71 h => ?_) (fun q71 h => ?_))))))))))
       ·refine W.skip (W.seq (W.block (W.seq ?_))); obtain ⟨c72, h⟩ := chk h; obtain ⟨t73, b74, h⟩ := bnd1 h; obtain ⟨c75, h⟩ := chk h; obtain ⟨t76, b77, h⟩ := bnd1 h; obtain ⟨c78, h⟩ := chk h; obtain ⟨t79, b80, h⟩ := bnd1 h; refine W.fork (mkSt [(1, some (.ptr 1000 0)), (3, some (.i v40)), (95, some (.b (((!t73) || (!t76)) || (!t79))))] [(1000, some (.box (api_Basket.av x0)))] 1001) ?_ ?_
        ·refine W.cnd Z h (fun q83 h => ?_) (fun q83 h => ?_)
         ·refine W.seq (W.pk (.A Z (.nil (W.ret ?_)))); cases h; refine rdR fun e_ => ?_; subst e_; have h := z70; dsimp only at h; refine fkR ?_; cases h; exact leaves (.inr Z) Z (.imm _) (cN .nil) Z Z
         ·refine W.skip (W.pk (.M Z (.B Z (.A Z (.nil ?_))))); cases h; exact rdN (Gm [] (.e Z Z) (.r Z Z Z .n) Z)
        ·clear h; refine W.pk (.F fld27_6 Z (.V Z (O.ld (y := .imm (.row 3 (List.map api_Cut.enc x0.Cuts))) ty24 Z Z Z) (.M Z (.V Z (O.idx sl24 c72 Z Z Z) (.F fld103_0 Z (.V Z (O.ld (y := .i ((nth x0.Cuts v40).Days)) ty3 Z Z Z) (.C (.b t73) [] 0 (lombardref10_in.ok b74) ca97 Z (cI (cI (cI .nil))) Z ?_))))))); refine .V Z (OpL.unV Z Z Z) (.M Z ?_); rcases tf t73 with g81 | g81
         ·refine .v Z (met Z Z Z (notT g81)) (O.fld fld27_6 Z Z Z) (.v Z (met Z Z Z (notT g81)) (O.ld (y := .imm (.row 3 (List.map api_Cut.enc x0.Cuts))) ty24 Z Z Z) (.m Z (met Z Z Z (notT g81)) Z Z (.v Z (met Z Z Z (notT g81)) (O.idx sl24 (c75 (by simp only [g81, BL])) Z Z Z) ?_))); refine .v Z (met Z Z Z (notT g81)) (O.fld fld103_1 Z Z Z) (.v Z (met Z Z Z (notT g81)) (O.ld (y := .i ((nth x0.Cuts v40).Rating)) ty3 Z Z Z) (.call (.b t76) [] 0 (lombardref10_in.ok ((if_pos (by simp only [g81, BL])).symm.trans b77)) Z (met Z Z Z (notT g81)) Z ca97 Z Z (cI (cI (cI .nil))) Z Z Z Z Z ?_)); refine .v Z (met Z Z Z (notT g81)) (OpL.unV Z Z Z) (.V Z (O.pickF (notT g81) Z Z Z) (.M Z ?_)); rcases tf t76 with g82 | g82
          ·refine .v Z (met Z Z Z (notT g82)) (O.fld fld27_6 Z Z Z) (.v Z (met Z Z Z (notT g82)) (O.ld (y := .imm (.row 3 (List.map api_Cut.enc x0.Cuts))) ty24 Z Z Z) (.m Z (met Z Z Z (notT g82)) Z Z (.v Z (met Z Z Z (notT g82)) (O.idx sl24 (c78 (by first | (simp only [g81, g82, BL]; done) | (repeat (first | rw [g81] | rw [g82])) <;> simp only [BL])) Z Z Z) ?_))); refine .v Z (met Z Z Z (notT g82)) (O.fld fld103_2 Z Z Z) (.v Z (met Z Z Z (notT g82)) (O.ld (y := .i ((nth x0.Cuts v40).Cut)) ty3 Z Z Z) (.call (.b t79) [] 0 (lombardref10_in.ok ((if_pos (by first | (simp only [g81, g82, BL]; done) | (repeat (first | rw [g81] | rw [g82])) <;> simp only [BL])).symm.trans b80)) Z (met Z Z Z (notT g82)) Z ca97 Z Z (cI (cI (cI .nil))) Z Z Z Z Z ?_)); exact .v Z (met Z Z Z (notT g82)) (OpL.unV Z Z Z) (.V Z (O.pickF (notT g82) Z Z Z) (.nil (toN (Gm [] (.r Z Z (.r Z Z (.c Z (sbb (by first | (simp only [g81, g82, BL]; done) | (repeat (first | rw [g81] | rw [g82])) <;> simp only [BL])) Z .n))) (.r Z Z Z .n) Z))))
          ·(iterate 8 refine .x Z (unmet Z Z Z (notF g82)) ?_); exact .V Z (O.pickT (notF g82) Z Z Z) (.nil (toN (Gm [] (.r Z Z (.r Z Z (.c Z (sbb (by first | (simp only [g81, g82, BL]; done) | (repeat (first | rw [g81] | rw [g82])) <;> simp only [BL])) Z .n))) (.r Z Z Z .n) Z)))
         ·(iterate 8 refine .x Z (unmet Z Z Z (notF g81)) ?_); refine .V Z (O.pickT (notF g81) Z Z Z) (.M Z ?_); (iterate 8 refine .x Z (unmet Z Z Z Z) ?_); exact .V Z (O.pickT Z Z Z Z) (.nil (toN (Gm [] (.r Z Z (.r Z Z (.c Z (sbb (by simp only [g81, BL])) Z .n))) (.r Z Z Z .n) Z)))
       ·refine W.exit ?_; cases h; refine rdX fun e_ => ?_; subst e_; (repeat with_reducible refine thru ?_); exact hit (fkN (Gm [] (.r Z Z .n) (.r Z Z Z .n) Z))
      ·intro w67 e_; subst e_; clear h; have h := z70; dsimp only at h; refine W.seq (W.seq (W.pk (.A Z (.nil ?_)))); obtain ⟨o114, b115, z116⟩ := bnd1 h; refine W.fork2 (out := o114) (fun (w113 : Unit) => mkSt [] [] 1001) ?_ ?_
       ·clear h; refine W.block (W.loopF (fun (s_ : Int) => mkSt [(1, some (.ptr 1000 0)), (4, some (.i s_))] [(1000, some (.box (api_Basket.av x0)))] 1001) b115 (Gm [] (.e Z Z) (.r Z Z Z .n) Z) ?_); rintro v94 s_ hr; have h : lombardref10_Basket.b1 x0 v94 = some s_ := hr; unfold lombardref10_Basket.b1 at h; refine W.seq (W.seq (W.pk (.M Z (.F fld27_9 Z (.V Z (O.ld (y := .imm (.row 1 (List.map (encI .i64) x0.Barred))) ty25 Z Z Z) (.V Z (O.lenR sl25 Z Z) (.B Z (.nil (W.cnd Z h (fun q117 h => ?_) (fun q117 h => ?_))))))))))
        ·refine W.skip (W.seq (W.block (W.seq ?_))); obtain ⟨c118, h⟩ := chk h; obtain ⟨t119, b120, h⟩ := bnd1 h; obtain ⟨c121, h⟩ := chk h; obtain ⟨c122, h⟩ := chk h; refine W.fork (mkSt [(1, some (.ptr 1000 0)), (4, some (.i v94)), (127, some (.b ((!t119) || ((decide (v94 > 0)) && (decide ((nth x0.Barred v94) ≤ (nth x0.Barred (IntKind.wrap .i64 (v94 - 1)))))))))] [(1000, some (.box (api_Basket.av x0)))] 1001) ?_ ?_
         ·refine W.cnd Z h (fun q125 h => ?_) (fun q125 h => ?_)
          ·refine W.seq (W.pk (.A Z (.nil (W.ret ?_)))); cases h; refine rdR fun e_ => ?_; subst e_; have h := z116; dsimp only at h; refine fkR ?_; cases h; exact leaves (.inr Z) Z (.imm _) (cN .nil) Z Z
          ·refine W.skip (W.pk (.M Z (.B Z (.A Z (.nil ?_))))); cases h; exact rdN (Gm [] (.e Z Z) (.r Z Z Z .n) Z)
         ·clear h; refine W.dk (unm 25 [0, 1, 0, 7, 15, 31, 63, 127, 255, 511, 1023, 2047, 4095, 2047, 16383, 32767, 2047, 67583, 2047, 264191, 985087, 2033663, 4194303, 8388607, 16777215]) Z (by kernel_rfl) ?_; refine .F fld27_9 Z (.V Z (O.ld (y := .imm (.row 1 (List.map (encI .i64) x0.Barred))) ty25 Z Z Z) (.M Z (.V Z (O.idx sl25 c118 Z Z Z) (.V Z (O.ld (y := .i (nth x0.Barred v94)) ty3 Z Z Z) (.C (.b t119) [] 0 (lombardref10_in.ok b120) ca97 Z (cI (cI (cI .nil))) Z ?_))))); refine .V Z (OpL.unV Z Z Z) (.M Z ?_); rcases tf t119 with g123 | g123
          ·refine .m Z (met Z Z Z (notT g123)) Z Z (.v Z (met Z Z Z (notT g123)) (OpL.binI Z Z Z Z) (.m Z (met Z Z Z (notT g123)) Z Z ?_)); rcases tf (decide (v94 > 0)) with g124 | g124
           ·refine .v Z (met Z Z Z g124) (O.fld fld27_9 Z Z Z) (.v Z (met Z Z Z g124) (O.ld (y := .imm (.row 1 (List.map (encI .i64) x0.Barred))) ty25 Z Z Z) (.m Z (met Z Z Z g124) Z Z (.v Z (met Z Z Z g124) (O.idx sl25 (c121 ⟨(by first | (simp only [g123, g124, BL]; done) | (repeat (first | rw [g123] | rw [g124])) <;> simp only [BL]), (by first | (simp only [g123, g124, BL]; done) | (repeat (first | rw [g123] | rw [g124])) <;> simp only [BL])⟩) Z Z Z) ?_))); refine .v Z (met Z Z Z g124) (O.ld (y := .i (nth x0.Barred v94)) ty3 Z Z Z) (.v Z (met Z Z Z g124) (O.fld fld27_9 Z Z Z) (.v Z (met Z Z Z g124) (O.ld (y := .imm (.row 1 (List.map (encI .i64) x0.Barred))) ty25 Z Z Z) (.m Z (met Z Z Z g124) Z Z (.v Z (met Z Z Z g124) (OpL.binI Z Z Z Z) (.v Z (met Z Z Z g124) (O.idx sl25 (c122 ⟨(by first | (simp only [g123, g124, BL]; done) | (repeat (first | rw [g123] | rw [g124])) <;> simp only [BL]), (by first | (simp only [g123, g124, BL]; done) | (repeat (first | rw [g123] | rw [g124])) <;> simp only [BL])⟩) Z Z Z) ?_))))); refine .v Z (met Z Z Z g124) (O.ld (y := .i (nth x0.Barred (IntKind.wrap .i64 (v94 - 1)))) ty3 Z Z Z) (.v Z (met Z Z Z g124) (OpL.binI Z Z Z Z) (.v Z (met Z Z Z (notT g123)) (O.pickT g124 Z Z Z) (.V Z (O.pickF (notT g123) Z Z Z) (.nil ?_)))); refine ⟨by kernel_rfl, by kernel_rfl, ?_⟩; exact toN (Gm [] (.r Z Z (.r Z Z (.c Z (sbb (by first | (simp only [g123, g124, BL]; done) | (repeat (first | rw [g123] | rw [g124])) <;> simp only [BL])) Z .n))) (.r Z Z Z .n) Z)
           ·(iterate 12 refine .x Z (unmet Z Z Z g124) ?_); refine .v Z (met Z Z Z (notT g123)) (O.pickF g124 Z Z Z) (.V Z (O.pickF (notT g123) Z Z Z) (.nil ?_)); refine ⟨by kernel_rfl, by kernel_rfl, ?_⟩; exact toN (Gm [] (.r Z Z (.r Z Z (.c Z (sbb (by first | (simp only [g123, g124, BL]; done) | (repeat (first | rw [g123] | rw [g124])) <;> simp only [BL])) Z .n))) (.r Z Z Z .n) Z)
          ·(iterate 3 refine .x Z (unmet Z Z Z (notF g123)) ?_); (iterate 12 refine .x Z (unmetU Z Z Z) ?_); refine .x Z (unmet Z Z Z (notF g123)) (.V Z (O.pickT (notF g123) Z Z Z) (.nil ?_)); refine ⟨by kernel_rfl, by kernel_rfl, ?_⟩; exact toN (Gm [] (.r Z Z (.r Z Z (.c Z (sbb (by simp only [g123, BL])) Z .n))) (.r Z Z Z .n) Z)
        ·refine W.exit ?_; cases h; refine rdX fun e_ => ?_; subst e_; (repeat with_reducible refine thru ?_); exact hit (fkN (Gm [] .n .n Z))
       ·intro w113 e_; subst e_; clear h; have h := z116; dsimp only at h; refine W.seq (W.pk (.A Z (.nil (W.ret ?_)))); cases h; exact leaves (.inr Z) Z (.imm _) (cN .nil) Z Z
   ·clear h; refine W.pk (.F fld27_4 Z (.V Z (O.ld (y := .i x0.Least) ty3 Z Z Z) (.B Z (.M Z ?_)))); rcases tf (decide (x0.Least < 0)) with g22 | g22
    ·(iterate 6 refine .x Z (unmet Z Z Z g22) ?_); exact .V Z (O.pickT g22 Z Z Z) (.nil (toN (Gm [] (.r Z Z (.c Z (sbb (by simp only [g22, BL])) Z .n)) (.r Z Z Z .n) Z)))
    ·refine .v Z (met Z Z Z g22) (O.fld fld27_5 Z Z Z) (.v Z (met Z Z Z g22) (O.ld (y := .i x0.Most) ty3 Z Z Z) (.v Z (met Z Z Z g22) (O.fld fld27_4 Z Z Z) (.v Z (met Z Z Z g22) (O.ld (y := .i x0.Least) ty3 Z Z Z) (.call (.b t20) [] 0 (lombardref10_in.ok ((if_pos (by simp only [g22, BL])).symm.trans b21)) Z (met Z Z Z g22) Z ca97 Z Z (cI (cI (cI .nil))) Z Z Z Z Z ?_)))); exact .v Z (met Z Z Z g22) (OpL.unV Z Z Z) (.V Z (O.pickF g22 Z Z Z) (.nil (toN (Gm [] (.r Z Z (.c Z (sbb (by simp only [g22, BL])) Z .n)) (.r Z Z Z .n) Z))))
 ·clear h; refine W.pk (.F fld27_0 Z (.V Z (O.ld (y := .i x0.ID) ty3 Z Z Z) (.C (.b t1) [] 0 (lombardref10_in.ok b2) ca97 Z (cI (cI (cI .nil))) Z ?_))); refine .V Z (OpL.unV Z Z Z) (.M Z ?_); rcases tf t1 with g13 | g13
  ·refine .v Z (met Z Z Z (notT g13)) (O.fld fld27_1 Z Z Z) (.v Z (met Z Z Z (notT g13)) (O.ld (y := .i x0.Version) ty3 Z Z Z) (.call (.b t3) [] 0 (lombardref10_Amount.ok ((if_pos (by simp only [g13, BL])).symm.trans b4)) Z (met Z Z Z (notT g13)) Z ca98 Z Z (cI .nil) Z Z Z Z Z ?_)); refine .v Z (met Z Z Z (notT g13)) (OpL.unV Z Z Z) (.V Z (O.pickF (notT g13) Z Z Z) (.M Z ?_)); rcases tf t3 with g14 | g14
   ·refine .v Z (met Z Z Z (notT g14)) (O.fld fld27_3 Z Z Z) (.v Z (met Z Z Z (notT g14)) (O.ld (y := .i x0.Rating) ty3 Z Z Z) (.call (.b t5) [] 0 (lombardref10_in.ok ((if_pos (by first | (simp only [g13, g14, BL]; done) | (repeat (first | rw [g13] | rw [g14])) <;> simp only [BL])).symm.trans b6)) Z (met Z Z Z (notT g14)) Z ca97 Z Z (cI (cI (cI .nil))) Z Z Z Z Z ?_)); refine .v Z (met Z Z Z (notT g14)) (OpL.unV Z Z Z) (.V Z (O.pickF (notT g14) Z Z Z) (.M Z ?_)); rcases tf t5 with g15 | g15
    ·refine .v Z (met Z Z Z (notT g15)) (O.fld fld27_7 Z Z Z) (.v Z (met Z Z Z (notT g15)) (O.ld (y := .i x0.Issuer) ty3 Z Z Z) (.call (.b t7) [] 0 (lombardref10_in.ok ((if_pos (by first | (simp only [g13, g14, g15, BL]; done) | (repeat (first | rw [g13] | rw [g14] | rw [g15])) <;> simp only [BL])).symm.trans b8)) Z (met Z Z Z (notT g15)) Z ca97 Z Z (cI (cI (cI .nil))) Z Z Z Z Z ?_)); refine .v Z (met Z Z Z (notT g15)) (OpL.unV Z Z Z) (.V Z (O.pickF (notT g15) Z Z Z) (.M Z ?_)); rcases tf t7 with g16 | g16
     ·refine .v Z (met Z Z Z (notT g16)) (O.fld fld27_8 Z Z Z) (.v Z (met Z Z Z (notT g16)) (O.ld (y := .i x0.Asset) ty3 Z Z Z) (.call (.b t9) [] 0 (lombardref10_in.ok ((if_pos (by first | (simp only [g13, g14, g15, g16, BL]; done) | (repeat (first | rw [g13] | rw [g14] | rw [g15] | rw [g16])) <;> simp only [BL])).symm.trans b10)) Z (met Z Z Z (notT g16)) Z ca97 Z Z (cI (cI (cI .nil))) Z Z Z Z Z ?_)); refine .v Z (met Z Z Z (notT g16)) (OpL.unV Z Z Z) (.V Z (O.pickF (notT g16) Z Z Z) (.M Z ?_)); rcases tf t9 with g17 | g17
      ·refine .v Z (met Z Z Z (notT g17)) (O.fld fld27_6 Z Z Z) (.v Z (met Z Z Z (notT g17)) (O.ld (y := .imm (.row 3 (List.map api_Cut.enc x0.Cuts))) ty24 Z Z Z) (.v Z (met Z Z Z (notT g17)) (O.lenR sl24 Z Z) (.call (.b t11) [] 0 (lombardref10_in.ok ((if_pos (by first | (simp only [g13, g14, g15, g16, g17, BL]; done) | (repeat (first | rw [g13] | rw [g14] | rw [g15] | rw [g16] | rw [g17])) <;> simp only [BL])).symm.trans b12)) Z (met Z Z Z (notT g17)) Z ca97 Z Z (cI (cI (cI .nil))) Z Z Z Z Z ?_))); refine .v Z (met Z Z Z (notT g17)) (OpL.unV Z Z Z) (.V Z (O.pickF (notT g17) Z Z Z) (.M Z ?_)); rcases tf t11 with g18 | g18
       ·exact .v Z (met Z Z Z (notT g18)) (O.fld fld27_9 Z Z Z) (.v Z (met Z Z Z (notT g18)) (O.ld (y := .imm (.row 1 (List.map (encI .i64) x0.Barred))) ty25 Z Z Z) (.v Z (met Z Z Z (notT g18)) (O.lenR sl25 Z Z) (.v Z (met Z Z Z (notT g18)) (OpL.binI Z Z Z Z) (.V Z (O.pickF (notT g18) Z Z Z) (.nil (toN (Gm [] (.r Z Z (.c Z (sbb (by first | (simp only [g13, g14, g15, g16, g17, g18, BL]; done) | (repeat (first | rw [g13] | rw [g14] | rw [g15] | rw [g16] | rw [g17] | rw [g18])) <;> simp only [BL])) Z .n)) (.r Z Z Z .n) Z)))))))
       ·(iterate 4 refine .x Z (unmet Z Z Z (notF g18)) ?_); exact .V Z (O.pickT (notF g18) Z Z Z) (.nil (toN (Gm [] (.r Z Z (.c Z (sbb (by first | (simp only [g13, g14, g15, g16, g17, g18, BL]; done) | (repeat (first | rw [g13] | rw [g14] | rw [g15] | rw [g16] | rw [g17] | rw [g18])) <;> simp only [BL])) Z .n)) (.r Z Z Z .n) Z)))
      ·(iterate 5 refine .x Z (unmet Z Z Z (notF g17)) ?_); refine .V Z (O.pickT (notF g17) Z Z Z) (.M Z ?_); (iterate 4 refine .x Z (unmet Z Z Z Z) ?_); exact .V Z (O.pickT Z Z Z Z) (.nil (toN (Gm [] (.r Z Z (.c Z (sbb (by first | (simp only [g13, g14, g15, g16, g17, BL]; done) | (repeat (first | rw [g13] | rw [g14] | rw [g15] | rw [g16] | rw [g17])) <;> simp only [BL])) Z .n)) (.r Z Z Z .n) Z)))
     ·(iterate 4 refine .x Z (unmet Z Z Z (notF g16)) ?_); refine .V Z (O.pickT (notF g16) Z Z Z) (.M Z ?_); (iterate 5 refine .x Z (unmet Z Z Z Z) ?_); refine .V Z (O.pickT Z Z Z Z) (.M Z ?_); (iterate 4 refine .x Z (unmet Z Z Z Z) ?_); exact .V Z (O.pickT Z Z Z Z) (.nil (toN (Gm [] (.r Z Z (.c Z (sbb (by first | (simp only [g13, g14, g15, g16, BL]; done) | (repeat (first | rw [g13] | rw [g14] | rw [g15] | rw [g16])) <;> simp only [BL])) Z .n)) (.r Z Z Z .n) Z)))
    ·(iterate 4 refine .x Z (unmet Z Z Z (notF g15)) ?_); refine .V Z (O.pickT (notF g15) Z Z Z) (.M Z ?_); (iterate 4 refine .x Z (unmet Z Z Z Z) ?_); refine .V Z (O.pickT Z Z Z Z) (.M Z ?_); (iterate 5 refine .x Z (unmet Z Z Z Z) ?_); refine .V Z (O.pickT Z Z Z Z) (.M Z ?_); (iterate 4 refine .x Z (unmet Z Z Z Z) ?_); exact .V Z (O.pickT Z Z Z Z) (.nil (toN (Gm [] (.r Z Z (.c Z (sbb (by first | (simp only [g13, g14, g15, BL]; done) | (repeat (first | rw [g13] | rw [g14] | rw [g15])) <;> simp only [BL])) Z .n)) (.r Z Z Z .n) Z)))
   ·(iterate 4 refine .x Z (unmet Z Z Z (notF g14)) ?_); refine .V Z (O.pickT (notF g14) Z Z Z) (.M Z ?_); (iterate 4 refine .x Z (unmet Z Z Z Z) ?_); refine .V Z (O.pickT Z Z Z Z) (.M Z ?_); (iterate 4 refine .x Z (unmet Z Z Z Z) ?_); refine .V Z (O.pickT Z Z Z Z) (.M Z ?_); (iterate 5 refine .x Z (unmet Z Z Z Z) ?_); refine .V Z (O.pickT Z Z Z Z) (.M Z ?_); (iterate 4 refine .x Z (unmet Z Z Z Z) ?_); exact .V Z (O.pickT Z Z Z Z) (.nil (toN (Gm [] (.r Z Z (.c Z (sbb (by first | (simp only [g13, g14, BL]; done) | (repeat (first | rw [g13] | rw [g14])) <;> simp only [BL])) Z .n)) (.r Z Z Z .n) Z)))
  ·(iterate 4 refine .x Z (unmet Z Z Z (notF g13)) ?_); refine .V Z (O.pickT (notF g13) Z Z Z) (.M Z ?_); (iterate 4 refine .x Z (unmet Z Z Z Z) ?_); refine .V Z (O.pickT Z Z Z Z) (.M Z ?_); (iterate 4 refine .x Z (unmet Z Z Z Z) ?_); refine .V Z (O.pickT Z Z Z Z) (.M Z ?_); (iterate 4 refine .x Z (unmet Z Z Z Z) ?_); refine .V Z (O.pickT Z Z Z Z) (.M Z ?_); (iterate 5 refine .x Z (unmet Z Z Z Z) ?_); refine .V Z (O.pickT Z Z Z Z) (.M Z ?_); (iterate 4 refine .x Z (unmet Z Z Z Z) ?_); exact .V Z (O.pickT Z Z Z Z) (.nil (toN (Gm [] (.r Z Z (.c Z (sbb (by simp only [g13, BL])) Z .n)) (.r Z Z Z .n) Z)))
noncomputable def lombardref10_prices.b0 (x0 : List api_Price) (v19 : Int) : Option (Int ⊕ (Int ⊕ Unit)) :=
 if (decide (v19 < (List.length x0 : Int))) = true then
 if (0 : Int) ≤ v19 ∧ v19 < (List.length x0 : Int) then
 (lombardref05_Check.f ((nth x0 v19).ISIN)).bind fun t58 =>
 if (t58 != 0) = true then
 if (0 : Int) ≤ v19 ∧ v19 < (List.length x0 : Int) then
 (lombardref05_Check.f ((nth x0 v19).ISIN)).bind fun t62 =>
 some (.inr (.inl t62))
 else none
 else if (0 : Int) ≤ v19 ∧ v19 < (List.length x0 : Int) then
 (lombardref10_in.f ((nth x0 v19).Price) 1 4294967296).bind fun t65 =>
 if ((!t65) = false ∧ (decide (v19 > 0)) = true → (0 : Int) ≤ v19 ∧ v19 < (List.length x0 : Int)) then
 if ((!t65) = false ∧ (decide (v19 > 0)) = true → (0 : Int) ≤ (IntKind.wrap .i64 (v19 - 1)) ∧ (IntKind.wrap .i64 (v19 - 1)) < (List.length x0 : Int)) then
 if ((!t65) || ((decide (v19 > 0)) && (Go.Op.bytesLess ((nth x0 v19).ISIN) ((nth x0 (IntKind.wrap .i64 (v19 - 1))).ISIN) || ((nth x0 v19).ISIN) == ((nth x0 (IntKind.wrap .i64 (v19 - 1))).ISIN)))) = true then
 some (.inr (.inl 31))
 else some (.inl (IntKind.wrap .i64 (v19 + 1)))
 else none
 else none
 else none
 else none
 else some (.inr (.inr ()))
noncomputable def lombardref10_prices.r0 (x0 : List api_Price) (s : Int) : Option (Int ⊕ (Int ⊕ Unit)) := lombardref10_prices.b0 x0 s
noncomputable def lombardref10_prices.f (x0 : List api_Price) : Option (Int) :=
 if (((List.length x0 : Int) == 0) || (decide ((List.length x0 : Int) > 64))) = true then
 some 2
 else (loop (lombardref10_prices.r0 x0) 0).bind fun o53 =>
 match o53 with
 | .inl r72 => some r72
 | .inr w52 =>
 some 0
theorem lombardref10_prices.ok {x0 : List api_Price} {r : Int} (h : lombardref10_prices.f x0 = some r) : Pm.Spec prog 54 [.imm (.row 2 (List.map api_Price.enc x0))] (.imm (.val (.int .i64 r))) [none] := by
 unfold lombardref10_prices.f at h; refine Pm.Spec.of_body Tryz.func54 Z (by kernel_rfl) (L Z) (L Z) ?_; refine W.ghost (σ' := (mkSt [(0, some (.imm (.row 2 (List.map api_Price.enc x0))))] [] 1000)) (Gives.entry (.c Z .n) .n) (W.seq (W.pk (.A Z (.nil (W.seq (W.seq (W.fork (mkSt [(0, some (.imm (.row 2 (List.map api_Price.enc x0)))), (11, some (.b (((List.length x0 : Int) == 0) || (decide ((List.length x0 : Int) > 64)))))] [] 1000) ?_ ?_)))))))
 ·refine W.cnd Z h (fun q2 h => ?_) (fun q2 h => ?_)
  ·refine W.seq (W.pk (.A Z (.nil (W.ret ?_)))); cases h; exact leaves (.inr Z) Z (.imm _) (cN .nil) Z Z
  ·refine W.skip (W.seq (W.seq (W.pk (.A Z (.nil ?_))))); obtain ⟨o53, b54, z55⟩ := bnd1 h; refine W.fork2 (out := o53) (fun (w52 : Unit) => mkSt [] [] 1000) ?_ ?_
   ·clear h; refine W.block (W.loopF (fun (s_ : Int) => mkSt [(0, some (.imm (.row 2 (List.map api_Price.enc x0)))), (3, some (.i s_))] [] 1000) b54 (Gm [] (.e Z Z) .n Z) ?_); rintro v19 s_ hr; have h : lombardref10_prices.b0 x0 v19 = some s_ := hr; unfold lombardref10_prices.b0 at h; refine W.seq (W.seq (W.pk (.M Z (.M Z (.V Z (O.lenR sl28 Z Z) (.B Z (.nil (W.cnd Z h (fun q56 h => ?_) (fun q56 h => ?_)))))))))
    ·refine W.skip (W.seq (W.block (W.seq (W.seq ?_)))); obtain ⟨c57, h⟩ := chk h; obtain ⟨t58, b59, h⟩ := bnd1 h; refine W.pk (.M Z (.M Z (.V Z (O.idx sl28 c57 Z Z Z) (.F fld105_0 Z (.V Z (O.ld (y := .s ((nth x0 v19).ISIN)) ty9 Z Z Z) (.C (.i t58) [] 0 (lombardref05_Check.ok b59) ca96 Z (cI .nil) Z ?_)))))); refine .B Z (.nil (W.cnd Z h (fun q60 h => ?_) (fun q60 h => ?_)))
     ·refine W.seq ?_; obtain ⟨c61, h⟩ := chk h; obtain ⟨t62, b63, h⟩ := bnd1 h; refine W.pk (.M Z (.M Z (.V Z (O.idx sl28 c61 Z Z Z) (.F fld105_0 Z (.V Z (O.ld (y := .s ((nth x0 v19).ISIN)) ty9 Z Z Z) (.C (.i t62) [] 0 (lombardref05_Check.ok b63) ca96 Z (cI .nil) Z ?_)))))); refine .A Z (.nil (W.ret ?_)); cases h; refine rdR fun e_ => ?_; subst e_; have h := z55; dsimp only at h; refine fkR ?_; cases h; exact leaves (.inr Z) Z (.imm _) (cN .nil) Z Z
     ·refine W.skip (W.seq ?_); obtain ⟨c64, h⟩ := chk h; obtain ⟨t65, b66, h⟩ := bnd1 h; obtain ⟨c67, h⟩ := chk h; obtain ⟨c68, h⟩ := chk h; refine W.fork (mkSt [(0, some (.imm (.row 2 (List.map api_Price.enc x0)))), (3, some (.i v19)), (55, some (.b ((!t65) || ((decide (v19 > 0)) && (Go.Op.bytesLess ((nth x0 v19).ISIN) ((nth x0 (IntKind.wrap .i64 (v19 - 1))).ISIN) || ((nth x0 v19).ISIN) == ((nth x0 (IntKind.wrap .i64 (v19 - 1))).ISIN))))))] [] 1000) ?_ ?_
      ·refine W.cnd Z h (fun q71 h => ?_) (fun q71 h => ?_)
       ·refine W.seq (W.pk (.A Z (.nil (W.ret ?_)))); cases h; refine rdR fun e_ => ?_; subst e_; have h := z55; dsimp only at h; refine fkR ?_; cases h; exact leaves (.inr Z) Z (.imm _) (cN .nil) Z Z
       ·refine W.skip (W.pk (.M Z (.B Z (.A Z (.nil ?_))))); cases h; exact rdN (Gm [] (.e Z Z) .n Z)
      ·clear h; refine W.dk (unm 25 [0, 0, 3, 7, 15, 31, 63, 127, 255, 511, 1023, 2047, 2047, 8191, 16383, 32767, 2047, 2047, 133119, 460799, 985087, 2033663, 4194303, 8388607, 16777215]) Z (by kernel_rfl) ?_; refine .M Z (.M Z (.V Z (O.idx sl28 c64 Z Z Z) (.F fld105_1 Z (.V Z (O.ld (y := .i ((nth x0 v19).Price)) ty3 Z Z Z) (.C (.b t65) [] 0 (lombardref10_in.ok b66) ca97 Z (cI (cI (cI .nil))) Z ?_))))); refine .V Z (OpL.unV Z Z Z) (.M Z ?_); rcases tf t65 with g69 | g69
       ·refine .m Z (met Z Z Z (notT g69)) Z Z (.v Z (met Z Z Z (notT g69)) (OpL.binI Z Z Z Z) (.m Z (met Z Z Z (notT g69)) Z Z ?_)); rcases tf (decide (v19 > 0)) with g70 | g70
        ·(iterate 2 refine .m Z (met Z Z Z g70) Z Z ?_); refine .v Z (met Z Z Z g70) (O.idx sl28 (c67 ⟨(by first | (simp only [g69, g70, BL]; done) | (repeat (first | rw [g69] | rw [g70])) <;> simp only [BL]), (by first | (simp only [g69, g70, BL]; done) | (repeat (first | rw [g69] | rw [g70])) <;> simp only [BL])⟩) Z Z Z) ?_; refine .v Z (met Z Z Z g70) (O.fld fld105_0 Z Z Z) (.v Z (met Z Z Z g70) (O.ld (y := .s ((nth x0 v19).ISIN)) ty9 Z Z Z) ?_); (iterate 2 refine .m Z (met Z Z Z g70) Z Z ?_); refine .v Z (met Z Z Z g70) (OpL.binI Z Z Z Z) (.v Z (met Z Z Z g70) (O.idx sl28 (c68 ⟨(by first | (simp only [g69, g70, BL]; done) | (repeat (first | rw [g69] | rw [g70])) <;> simp only [BL]), (by first | (simp only [g69, g70, BL]; done) | (repeat (first | rw [g69] | rw [g70])) <;> simp only [BL])⟩) Z Z Z) ?_); refine .v Z (met Z Z Z g70) (O.fld fld105_0 Z Z Z) (.v Z (met Z Z Z g70) (O.ld (y := .s ((nth x0 (IntKind.wrap .i64 (v19 - 1))).ISIN)) ty9 Z Z Z) (.v Z (met Z Z Z g70) (O.cmpS Z Z Z Z) (.v Z (met Z Z Z (notT g69)) (O.pickT g70 Z Z Z) (.V Z (O.pickF (notT g69) Z Z Z) (.nil ?_))))); refine ⟨by kernel_rfl, by kernel_rfl, ?_⟩; exact toN (Gm [] (.r Z Z (.r Z Z (.c Z (sbb (by first | (simp only [g69, g70, BL]; done) | (repeat (first | rw [g69] | rw [g70])) <;> simp only [BL])) Z .n))) .n Z)
        ·(iterate 12 refine .x Z (unmet Z Z Z g70) ?_); refine .v Z (met Z Z Z (notT g69)) (O.pickF g70 Z Z Z) (.V Z (O.pickF (notT g69) Z Z Z) (.nil ?_)); refine ⟨by kernel_rfl, by kernel_rfl, ?_⟩; exact toN (Gm [] (.r Z Z (.r Z Z (.c Z (sbb (by first | (simp only [g69, g70, BL]; done) | (repeat (first | rw [g69] | rw [g70])) <;> simp only [BL])) Z .n))) .n Z)
       ·(iterate 3 refine .x Z (unmet Z Z Z (notF g69)) ?_); (iterate 12 refine .x Z (unmetU Z Z Z) ?_); refine .x Z (unmet Z Z Z (notF g69)) (.V Z (O.pickT (notF g69) Z Z Z) (.nil ?_)); refine ⟨by kernel_rfl, by kernel_rfl, ?_⟩; exact toN (Gm [] (.r Z Z (.r Z Z (.c Z (sbb (by simp only [g69, BL])) Z .n))) .n Z)
    ·refine W.exit ?_; cases h; refine rdX fun e_ => ?_; subst e_; (repeat with_reducible refine thru ?_); exact hit (fkN (Gm [] .n .n Z))
   ·intro w52 e_; subst e_; clear h; have h := z55; dsimp only at h; refine W.seq (W.pk (.A Z (.nil (W.ret ?_)))); cases h; exact leaves (.inr Z) Z (.imm _) (cN .nil) Z Z
 ·clear h; refine W.pk (.M Z (.V Z (O.lenR sl28 Z Z) (.B Z (.M Z ?_)))); rcases tf ((List.length x0 : Int) == 0) with g1 | g1
  ·(iterate 3 refine .x Z (unmet Z Z Z g1) ?_); exact .V Z (O.pickT g1 Z Z Z) (.nil (toN (Gm [] (.r Z Z (.c Z (sbb (by simp only [g1, BL])) Z .n)) .n Z)))
  ·exact .m Z (met Z Z Z g1) Z Z (.v Z (met Z Z Z g1) (O.lenR sl28 Z Z) (.v Z (met Z Z Z g1) (OpL.binI Z Z Z Z) (.V Z (O.pickF g1 Z Z Z) (.nil (toN (Gm [] (.r Z Z (.c Z (sbb (by simp only [g1, BL])) Z .n)) .n Z))))))
noncomputable def lombardref02_Good.f (x0 : Int) : Option (Bool) :=
 some ((decide (x0 ≥ 0)) && (decide (x0 ≤ 200000)))
theorem lombardref02_Good.ok {x0 : Int} {r : Bool} (h : lombardref02_Good.f x0 = some r) : Pm.Spec prog 99 [.imm (.val (.int .i64 x0))] (.imm (.val (.bool r))) [none] := by
 unfold lombardref02_Good.f at h; refine Pm.Spec.of_body Tryz.func99 Z (by kernel_rfl) (L Z) (L Z) ?_; refine W.ghost (σ' := (mkSt [(0, some (.i x0))] [] 1000)) (Gives.entry (.c Z .n) .n) (W.seq (W.pk (.A Z (.nil (W.seq (W.fork (mkSt [(2, some (.b ((decide (x0 ≥ 0)) && (decide (x0 ≤ 200000)))))] [] 1000) ?_ ?_))))))
 ·refine W.ret ?_; cases h; exact leaves (.inr Z) Z (.imm _) (cN .nil) Z Z
 ·clear h; refine W.pk (.M Z (.B Z (.M Z ?_))); rcases tf (decide (x0 ≥ 0)) with g1 | g1
  ·exact .m Z (met Z Z Z g1) Z Z (.v Z (met Z Z Z g1) (OpL.binI Z Z Z Z) (.V Z (O.pickT g1 Z Z Z) (.A Z (.nil (toN (Gm [] (.c Z (sbb (by simp only [g1, BL])) Z .n) .n Z))))))
  ·(iterate 2 refine .x Z (unmet Z Z Z g1) ?_); exact .V Z (O.pickF g1 Z Z Z) (.A Z (.nil (toN (Gm [] (.c Z (sbb (by simp only [g1, BL])) Z .n) .n Z))))
noncomputable def lombardref10_day.f (x0 : Int) : Option (Int) :=
 (lombardref02_Good.f x0).bind fun t1 =>
 if (!t1) = true then
 some 10
 else some 0
theorem lombardref10_day.ok {x0 : Int} {r : Int} (h : lombardref10_day.f x0 = some r) : Pm.Spec prog 55 [.imm (.val (.int .i64 x0))] (.imm (.val (.int .i64 r))) [none] := by
 unfold lombardref10_day.f at h; refine Pm.Spec.of_body Tryz.func55 Z (by kernel_rfl) (L Z) (L Z) ?_; refine W.ghost (σ' := (mkSt [(0, some (.i x0))] [] 1000)) (Gives.entry (.c Z .n) .n) (W.seq (W.pk (.A Z (.nil (W.seq (W.seq ?_)))))); obtain ⟨t1, b2, h⟩ := bnd1 h; refine W.pk (.M Z (.C (.b t1) [] 0 (lombardref02_Good.ok b2) ca99 Z (cI .nil) Z ?_)); refine .V Z (OpL.unV Z Z Z) (.nil (W.cnd Z h (fun q3 h => ?_) (fun q3 h => ?_)))
 ·refine W.seq (W.pk (.A Z (.nil (W.ret ?_)))); cases h; exact leaves (.inr Z) Z (.imm _) (cN .nil) Z Z
 ·refine W.skip (W.seq (W.pk (.A Z (.nil (W.ret ?_))))); cases h; exact leaves (.inr Z) Z (.imm _) (cN .nil) Z Z
noncomputable def lombardref10_Member.f (x0 : Int) : Option (Bool) :=
 some ((decide (x0 ≥ 1)) && (decide (x0 ≤ 32)))
theorem lombardref10_Member.ok {x0 : Int} {r : Bool} (h : lombardref10_Member.f x0 = some r) : Pm.Spec prog 57 [.imm (.val (.int .i64 x0))] (.imm (.val (.bool r))) [none] := by
 unfold lombardref10_Member.f at h; refine Pm.Spec.of_body Tryz.func57 Z (by kernel_rfl) (L Z) (L Z) ?_; refine W.ghost (σ' := (mkSt [(0, some (.i x0))] [] 1000)) (Gives.entry (.c Z .n) .n) (W.seq (W.pk (.A Z (.nil (W.seq (W.fork (mkSt [(2, some (.b ((decide (x0 ≥ 1)) && (decide (x0 ≤ 32)))))] [] 1000) ?_ ?_))))))
 ·refine W.ret ?_; cases h; exact leaves (.inr Z) Z (.imm _) (cN .nil) Z Z
 ·clear h; refine W.pk (.M Z (.B Z (.M Z ?_))); rcases tf (decide (x0 ≥ 1)) with g1 | g1
  ·exact .m Z (met Z Z Z g1) Z Z (.v Z (met Z Z Z g1) (OpL.binI Z Z Z Z) (.V Z (O.pickT g1 Z Z Z) (.A Z (.nil (toN (Gm [] (.c Z (sbb (by simp only [g1, BL])) Z .n) .n Z))))))
  ·(iterate 2 refine .x Z (unmet Z Z Z g1) ?_); exact .V Z (O.pickF g1 Z Z Z) (.A Z (.nil (toN (Gm [] (.c Z (sbb (by simp only [g1, BL])) Z .n) .n Z))))
end Go.Proofs.YtbmokbkgielmmaaGreat
