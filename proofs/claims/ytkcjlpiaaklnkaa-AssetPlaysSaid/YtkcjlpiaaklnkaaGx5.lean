/- Shows what functions of the program come to, each as a plain function: written by a program of the author's for this claim. -/
import Derived.Test.YtkcjlpiaaklnkaaGx4
namespace Go.Proofs.Ytkcjlpiaaklnkaa
open Go Go.Pm
set_option linter.unusedVariables false
set_option linter.unusedSimpArgs false
noncomputable def asset_Book_Set.b0 (x0 : asset_Book) (x1 : List api_Price) (v9 : Int) : Option (Int ⊕ ((Int × Int × asset_Book) ⊕ Unit)) :=
  if (decide (v9 < (List.length x1 : Int))) = true then
    if (0 : Int) ≤ v9 ∧ v9 < (List.length x1 : Int) then
    (asset_Book_place.f x0 ((nth x1 v9).ISIN)).bind fun t30 =>
    if (!t30.2) = true then
      some (.inr (.inl (v9, 21, x0)))
    else
      if ((decide (((nth x1 v9).Price) < 1)) || (decide (((nth x1 v9).Price) > 4294967296))) = true then
        some (.inr (.inl (v9, 31, x0)))
      else
        some (.inl (IntKind.wrap .i64 (v9 + 1)))
    else none
  else
    some (.inr (.inr ()))
noncomputable def asset_Book_Set.r0 (x0 : asset_Book) (x1 : List api_Price) (s : Int) : Option (Int ⊕ ((Int × Int × asset_Book) ⊕ Unit)) := asset_Book_Set.b0 x0 x1 s
noncomputable def asset_Book_Set.b1 (x1 : List api_Price) (v48 : Int) (v49 : Bool) (v50 : List api_Asset) (v51 : List Int) : Option ((Int × Bool × (List api_Asset) × (List Int)) ⊕ (Bool × (List api_Asset) × (List Int))) :=
  if (decide (v48 < (List.length x1 : Int))) = true then
    if (0 : Int) ≤ v48 ∧ v48 < (List.length x1 : Int) then
    (asset_Book_place.f (⟨v50, v51, v49⟩ : asset_Book) ((nth x1 v48).ISIN)).bind fun t68 =>
    if (0 : Int) ≤ t68.1 ∧ t68.1 < (List.length ((⟨v50, v51, v49⟩ : asset_Book).prices) : Int) then
    some (.inl ((IntKind.wrap .i64 (v48 + 1)), (⟨v50, v51, v49⟩ : asset_Book).made, (⟨v50, v51, v49⟩ : asset_Book).l, (List.set ((⟨v50, v51, v49⟩ : asset_Book).prices) (Int.toNat t68.1) ((nth x1 v48).Price))))
    else none
    else none
  else
    some (.inr (v49, v50, v51))
noncomputable def asset_Book_Set.r1 (x1 : List api_Price) (s : Int × Bool × (List api_Asset) × (List Int)) : Option ((Int × Bool × (List api_Asset) × (List Int)) ⊕ (Bool × (List api_Asset) × (List Int))) := asset_Book_Set.b1 x1 s.1 s.2.1 s.2.2.1 s.2.2.2
noncomputable def asset_Book_Set.f (x0 : asset_Book) (x1 : List api_Price) : Option (Int × Int × asset_Book) :=
  if (!x0.made) = true then
    some (0, 3, x0)
  else
    (loop (asset_Book_Set.r0 x0 x1) 0).bind fun o25 =>
    match o25 with
    | .inl r35 => some r35
    | .inr w24 =>
      (loop (asset_Book_Set.r1 x1) (0, x0.made, x0.l, x0.prices)).bind fun o63 =>
      some ((List.length x1 : Int), 0, (⟨o63.2.1, o63.2.2, o63.1⟩ : asset_Book))
set_option maxRecDepth 100000 in
set_option maxHeartbeats 4000000 in
theorem asset_Book_Set.ok {x0 : asset_Book} {x1 : List api_Price} {r : Int × Int × asset_Book} (h : asset_Book_Set.f x0 x1 = some r) : Pm.Spec prog 30 [.xbox [.xown 29 5 (List.map api_Asset.enc x0.l), .xown 3 1 (List.map (encI .i64) x0.prices), .imm (.val (.bool x0.made))], .imm (.row 2 (List.map api_Price.enc x1))] (.tup [.imm (.val (.int .i64 r.1)), .imm (.val (.int .i64 r.2.1))]) [some (.xbox [.xown 29 5 (List.map api_Asset.enc r.2.2.l), .xown 3 1 (List.map (encI .i64) r.2.2.prices), .imm (.val (.bool r.2.2.made))]), none] := by
 unfold asset_Book_Set.f at h
 refine Pm.Spec.of_body Try.func30 rfl (by kernel_rfl) (Nat.le_of_ble_eq_true rfl) (Nat.le_of_ble_eq_true rfl) ?_
 refine W.ghost (σ' := (mkSt [(0, some (.ptr 0 0)), (1, some (.imm (.row 2 (List.map api_Price.enc x1))))] [(0, some (.box [.own 1, .own 2, .b x0.made])), (1, some (.rows 29 5 (List.map api_Asset.enc x0.l) false)), (2, some (.rows 3 1 (List.map (encI .i64) x0.prices) false))] 1000)) (Gives.entry (.c rfl (.c rfl .n)) (.c rfl (.c rfl (.c rfl .n)))) ?_
 refine W.ghost (σ' := (mkSt [(0, some (.ptr 0 0)), (1, some (.imm (.row 2 (List.map api_Price.enc x1))))] [(0, some (.box [.own 1000, .own 1001, .b x0.made])), (1000, some (.rows 29 5 (List.map api_Asset.enc x0.l) false)), (1001, some (.rows 3 1 (List.map (encI .i64) x0.prices) false))] 1002)) (Gives.mkR [(1000, 1), (1001, 2)] (.r rfl rfl (.r rfl rfl .n)) (.r rfl rfl rfl (.r rfl rfl rfl (.r rfl rfl rfl .n))) rfl rfl rfl) ?_
 refine W.seq ?_
 refine W.pk ?_
 refine .a rfl rfl rfl rfl ?_
 refine .a rfl rfl rfl rfl ?_
 refine .nil ?_
 refine W.seq ?_
 refine W.seq ?_
 refine W.pk ?_
 refine .m rfl rfl rfl rfl ?_
 refine .v rfl rfl (OpL.eqP rfl u30 rfl rfl rfl) ?_
 refine .m rfl rfl rfl rfl ?_
 refine .m rfl (met rfl rfl rfl rfl) rfl rfl ?_
 refine .v rfl (met rfl rfl rfl rfl) (OpL.nilP rfl rfl rfl) ?_
 refine .v rfl (met rfl rfl rfl rfl) (O.fld fld71_2 rfl rfl rfl) ?_
 refine .v rfl (met rfl rfl rfl rfl) (O.ld (y := .b x0.made) ty4 rfl rfl rfl) ?_
 refine .v rfl (met rfl rfl rfl rfl) (OpL.unV rfl rfl rfl) ?_
 refine .v rfl rfl (O.pickF rfl rfl rfl rfl) ?_
 refine .nil ?_
 refine W.cond rfl (fun q1 => ?_) (fun q1 => ?_)
 ·have h := ifT q1 h
  refine W.seq ?_
  refine W.pk ?_
  refine .a rfl rfl rfl rfl ?_
  refine .a rfl rfl rfl rfl ?_
  refine .nil ?_
  refine W.ret ?_
  cases h
  exact leaves (.inr rfl) rfl (.tup _ _ _ _ (cC (.imm _) (cC (.imm _) .nil))) (cS (.ptr _ _ _ _ _ rfl (cC (.own _ _ _ _ rfl) (cC (.own _ _ _ _ rfl) (cC (.imm _) .nil)))) (cN .nil)) rfl rfl
 ·have h := ifF q1 h
  refine W.skip ?_
  refine W.seq ?_
  refine W.seq ?_
  refine W.pk ?_
  refine .m rfl rfl rfl rfl ?_
  refine .v rfl rfl (O.lenR sl49 rfl rfl) ?_
  refine .m rfl rfl rfl rfl ?_
  refine .nil ?_
  obtain ⟨o25, b26, z27⟩ := bnd1 h
  refine W.fork2 (out := o25) (fun (w24 : Unit) => mkSt [(0, some (.ptr 0 0)), (1, some (.imm (.row 2 (List.map api_Price.enc x1))))] [(0, some (.box [.own 1000, .own 1001, .b x0.made])), (1000, some (.rows 29 5 (List.map api_Asset.enc x0.l) false)), (1001, some (.rows 3 1 (List.map (encI .i64) x0.prices) false))] 1002) ?_ ?_
  ·clear h
   refine W.block ?_
   refine W.loopF (fun (s_ : Int) => mkSt [(0, some (.ptr 0 0)), (1, some (.imm (.row 2 (List.map api_Price.enc x1)))), (23, some (.imm (.row 2 (List.map api_Price.enc x1)))), (24, some (.i (List.length x1 : Int))), (25, some (.i s_))] [(0, some (.box [.own 1000, .own 1001, .b x0.made])), (1000, some (.rows 29 5 (List.map api_Asset.enc x0.l) false)), (1001, some (.rows 3 1 (List.map (encI .i64) x0.prices) false))] 1002) b26 (Gives.mkR [] (.r rfl rfl (.r rfl rfl (.r rfl rfl (.r rfl rfl (.r rfl rfl .n))))) (.r rfl rfl rfl (.r rfl rfl rfl (.r rfl rfl rfl .n))) rfl rfl rfl) ?_
   rintro v9 s_ hr
   have h : asset_Book_Set.b0 x0 x1 v9 = some s_ := hr
   unfold asset_Book_Set.b0 at h
   refine W.seq ?_
   refine W.pk ?_
   refine .v rfl rfl (OpL.binI rfl rfl rfl rfl) ?_
   refine .nil ?_
   refine W.seq ?_
   refine W.cond rfl (fun q28 => ?_) (fun q28 => ?_)
   ·have h := ifT q28 h
    refine W.skip ?_
    refine W.seq ?_
    refine W.block ?_
    refine W.seq ?_
    obtain ⟨c29, h⟩ := chk h
    refine W.pk ?_
    refine .m rfl rfl rfl rfl ?_
    refine .v rfl rfl (O.idx sl49 c29 rfl rfl rfl) ?_
    refine .v rfl rfl (O.ldN ty82 rfl rfl rfl) ?_
    refine .t rfl rfl (O.alloc z82 rfl) ?_
    refine .a rfl rfl rfl rfl ?_
    refine .s rfl rfl (O.st ty82 rfl rfl rfl rfl rfl rfl rfl rfl rfl rfl (all' := [.s ((nth x1 v9).ISIN), .i ((nth x1 v9).Price)]) rfl) ?_
    refine .nil ?_
    refine W.seq ?_
    refine W.seq ?_
    obtain ⟨t30, b31, h⟩ := bnd1 h
    refine W.pk ?_
    refine .m rfl rfl rfl rfl ?_
    refine .v rfl rfl (O.fld fld82_0 rfl rfl rfl) ?_
    refine .v rfl rfl (O.ld (y := .s ((nth x1 v9).ISIN)) ty9 rfl rfl rfl) ?_
    refine .call (.tup [.i t30.1, .b t30.2]) [(0, some (.box [.own 1003, .own 1004, .b x0.made])), (1003, some (.rows 29 5 (List.map api_Asset.enc x0.l) false)), (1004, some (.rows 3 1 (List.map (encI .i64) x0.prices) false)), (0, none), (1000, none), (1001, none)] 2 (asset_Book_place.ok b31) rfl rfl rfl ca34 rfl rfl (cC (.ptr _ _ _ _ _ rfl (cC (.own _ _ _ _ rfl) (cC (.own _ _ _ _ rfl) (cC (.imm _) .nil)))) (cC (.imm _) .nil)) rfl rfl rfl rfl rfl ?_
    refine .m rfl rfl rfl rfl ?_
    refine .v rfl rfl (OpL.extract rfl rfl rfl) ?_
    refine .v rfl rfl (OpL.extract rfl rfl rfl) ?_
    refine .a rfl rfl rfl rfl ?_
    refine .a rfl rfl rfl rfl ?_
    refine .nil ?_
    refine W.seq ?_
    refine W.pk ?_
    refine .m rfl rfl rfl rfl ?_
    refine .v rfl rfl (OpL.unV rfl rfl rfl) ?_
    refine .nil ?_
    refine W.cond rfl (fun q32 => ?_) (fun q32 => ?_)
    ·have h := ifT q32 h
     refine W.seq ?_
     refine W.pk ?_
     refine .m rfl rfl rfl rfl ?_
     refine .a rfl rfl rfl rfl ?_
     refine .a rfl rfl rfl rfl ?_
     refine .nil ?_
     refine W.ret ?_
     cases h
     refine rdR fun e_ => ?_
     subst e_
     have h := z27
     dsimp only at h
     refine fkR ?_
     cases h
     exact leaves (.inr rfl) rfl (.tup _ _ _ _ (cC (.imm _) (cC (.imm _) .nil))) (cS (.ptr _ _ _ _ _ rfl (cC (.own _ _ _ _ rfl) (cC (.own _ _ _ _ rfl) (cC (.imm _) .nil)))) (cN .nil)) rfl rfl
    ·have h := ifF q32 h
     refine W.skip ?_
     refine W.seq ?_
     refine W.fork (mkSt [(0, some (.ptr 0 0)), (1, some (.imm (.row 2 (List.map api_Price.enc x1)))), (6, some (.i v9)), (23, some (.imm (.row 2 (List.map api_Price.enc x1)))), (24, some (.i (List.length x1 : Int))), (25, some (.i v9)), (47, some (.b ((decide (((nth x1 v9).Price) < 1)) || (decide (((nth x1 v9).Price) > 4294967296)))))] [(0, some (.box [.own 1003, .own 1004, .b x0.made])), (1003, some (.rows 29 5 (List.map api_Asset.enc x0.l) false)), (1004, some (.rows 3 1 (List.map (encI .i64) x0.prices) false))] 1005) ?_ ?_
     ·refine W.cond rfl (fun q34 => ?_) (fun q34 => ?_)
      ·have h := ifT q34 h
       refine W.seq ?_
       refine W.pk ?_
       refine .m rfl rfl rfl rfl ?_
       refine .a rfl rfl rfl rfl ?_
       refine .a rfl rfl rfl rfl ?_
       refine .nil ?_
       refine W.ret ?_
       cases h
       refine rdR fun e_ => ?_
       subst e_
       have h := z27
       dsimp only at h
       refine fkR ?_
       cases h
       exact leaves (.inr rfl) rfl (.tup _ _ _ _ (cC (.imm _) (cC (.imm _) .nil))) (cS (.ptr _ _ _ _ _ rfl (cC (.own _ _ _ _ rfl) (cC (.own _ _ _ _ rfl) (cC (.imm _) .nil)))) (cN .nil)) rfl rfl
      ·have h := ifF q34 h
       refine W.skip ?_
       refine W.pk ?_
       refine .v rfl rfl (OpL.binI rfl rfl rfl rfl) ?_
       refine .m rfl rfl rfl rfl ?_
       refine .nil ?_
       cases h
       exact rdN (Gives.mkR [(1000, 1003), (1001, 1004)] (.r rfl rfl (.r rfl rfl (.r rfl rfl (.r rfl rfl (.r rfl rfl .n))))) (.r rfl rfl rfl (.r rfl rfl rfl (.r rfl rfl rfl .n))) rfl rfl rfl)
     ·clear h
      rcases tf (decide (((nth x1 v9).Price) < 1)) with g33 | g33
      ·refine W.pk ?_
       refine .v rfl rfl (O.fld fld82_1 rfl rfl rfl) ?_
       refine .v rfl rfl (O.ld (y := .i ((nth x1 v9).Price)) ty3 rfl rfl rfl) ?_
       refine .v rfl rfl (OpL.binI rfl rfl rfl rfl) ?_
       refine .m rfl rfl rfl rfl ?_
       refine .x rfl (unmet rfl rfl rfl g33) ?_
       refine .x rfl (unmet rfl rfl rfl g33) ?_
       refine .x rfl (unmet rfl rfl rfl g33) ?_
       refine .v rfl rfl (O.pickT g33 rfl rfl rfl) ?_
       refine .nil ?_
       exact toN (Gives.mkR [] (.r rfl rfl (.r rfl rfl (.r rfl rfl (.r rfl rfl (.r rfl rfl (.r rfl rfl (.c rfl (sbb (by simp only [g33, Bool.true_or, Bool.or_true, Bool.false_or, Bool.or_false, Bool.true_and, Bool.and_true, Bool.false_and, Bool.and_false, Bool.not_true, Bool.not_false, cond_true, cond_false])) rfl .n))))))) (.r rfl rfl rfl (.r rfl rfl rfl (.r rfl rfl rfl .n))) rfl rfl rfl)
      ·refine W.pk ?_
       refine .v rfl rfl (O.fld fld82_1 rfl rfl rfl) ?_
       refine .v rfl rfl (O.ld (y := .i ((nth x1 v9).Price)) ty3 rfl rfl rfl) ?_
       refine .v rfl rfl (OpL.binI rfl rfl rfl rfl) ?_
       refine .m rfl rfl rfl rfl ?_
       refine .v rfl (met rfl rfl rfl g33) (O.fld fld82_1 rfl rfl rfl) ?_
       refine .v rfl (met rfl rfl rfl g33) (O.ld (y := .i ((nth x1 v9).Price)) ty3 rfl rfl rfl) ?_
       refine .v rfl (met rfl rfl rfl g33) (OpL.binI rfl rfl rfl rfl) ?_
       refine .v rfl rfl (O.pickF g33 rfl rfl rfl) ?_
       refine .nil ?_
       exact toN (Gives.mkR [] (.r rfl rfl (.r rfl rfl (.r rfl rfl (.r rfl rfl (.r rfl rfl (.r rfl rfl (.c rfl (sbb (by simp only [g33, Bool.true_or, Bool.or_true, Bool.false_or, Bool.or_false, Bool.true_and, Bool.and_true, Bool.false_and, Bool.and_false, Bool.not_true, Bool.not_false, cond_true, cond_false])) rfl .n))))))) (.r rfl rfl rfl (.r rfl rfl rfl (.r rfl rfl rfl .n))) rfl rfl rfl)
   ·have h := ifF q28 h
    refine W.exit ?_
    cases h
    refine rdX fun e_ => ?_
    subst e_
    repeat with_reducible refine thru ?_
    refine hit ?_
    exact fkN (Gives.mkR [] (.r rfl rfl (.r rfl rfl .n)) (.r rfl rfl rfl (.r rfl rfl rfl (.r rfl rfl rfl .n))) rfl rfl rfl)
  ·intro w24 e_
   subst e_
   clear h
   have h := z27
   dsimp only at h
   refine W.seq ?_
   refine W.seq ?_
   refine W.pk ?_
   refine .m rfl rfl rfl rfl ?_
   refine .v rfl rfl (O.lenR sl49 rfl rfl) ?_
   refine .m rfl rfl rfl rfl ?_
   refine .nil ?_
   obtain ⟨o63, b64, h⟩ := bnd1 h
   refine W.fork (mkSt [(1, some (.imm (.row 2 (List.map api_Price.enc x1))))] [(0, some (.box [.own 1000, .own 1001, .b o63.1])), (1000, some (.rows 29 5 (List.map api_Asset.enc o63.2.1) false)), (1001, some (.rows 3 1 (List.map (encI .i64) o63.2.2) false))] 1002) ?_ ?_
   ·refine W.seq ?_
    refine W.pk ?_
    refine .m rfl rfl rfl rfl ?_
    refine .v rfl rfl (O.lenR sl49 rfl rfl) ?_
    refine .a rfl rfl rfl rfl ?_
    refine .a rfl rfl rfl rfl ?_
    refine .nil ?_
    refine W.ret ?_
    cases h
    exact leaves (.inr rfl) rfl (.tup _ _ _ _ (cC (.imm _) (cC (.imm _) .nil))) (cS (.ptr _ _ _ _ _ rfl (cC (.own _ _ _ _ rfl) (cC (.own _ _ _ _ rfl) (cC (.imm _) .nil)))) (cN .nil)) rfl rfl
   ·clear h
    refine W.block ?_
    refine W.loopF (fun (s_ : Int × Bool × (List api_Asset) × (List Int)) => mkSt [(0, some (.ptr 0 0)), (1, some (.imm (.row 2 (List.map api_Price.enc x1)))), (50, some (.imm (.row 2 (List.map api_Price.enc x1)))), (51, some (.i (List.length x1 : Int))), (52, some (.i s_.1))] [(0, some (.box [.own 1000, .own 1001, .b s_.2.1])), (1000, some (.rows 29 5 (List.map api_Asset.enc s_.2.2.1) false)), (1001, some (.rows 3 1 (List.map (encI .i64) s_.2.2.2) false))] 1002) b64 (Gives.mkR [] (.r rfl rfl (.r rfl rfl (.r rfl rfl (.r rfl rfl (.r rfl rfl .n))))) (.r rfl rfl rfl (.r rfl rfl rfl (.r rfl rfl rfl .n))) rfl rfl rfl) ?_
    rintro ⟨v48, v49, v50, v51⟩ s_ hr
    have h : asset_Book_Set.b1 x1 v48 v49 v50 v51 = some s_ := hr
    unfold asset_Book_Set.b1 at h
    refine W.seq ?_
    refine W.pk ?_
    refine .v rfl rfl (OpL.binI rfl rfl rfl rfl) ?_
    refine .nil ?_
    refine W.seq ?_
    refine W.cond rfl (fun q66 => ?_) (fun q66 => ?_)
    ·have h := ifT q66 h
     refine W.skip ?_
     refine W.seq ?_
     refine W.block ?_
     refine W.seq ?_
     obtain ⟨c67, h⟩ := chk h
     refine W.pk ?_
     refine .v rfl rfl (O.idx sl49 c67 rfl rfl rfl) ?_
     refine .v rfl rfl (O.ldN ty82 rfl rfl rfl) ?_
     refine .t rfl rfl (O.alloc z82 rfl) ?_
     refine .s rfl rfl (O.st ty82 rfl rfl rfl rfl rfl rfl rfl rfl rfl rfl (all' := [.s ((nth x1 v48).ISIN), .i ((nth x1 v48).Price)]) rfl) ?_
     refine .nil ?_
     refine W.seq ?_
     obtain ⟨t68, b69, h⟩ := bnd1 h
     refine W.pk ?_
     refine .m rfl rfl rfl rfl ?_
     refine .v rfl rfl (O.fld fld82_0 rfl rfl rfl) ?_
     refine .v rfl rfl (O.ld (y := .s ((nth x1 v48).ISIN)) ty9 rfl rfl rfl) ?_
     refine .call (.tup [.i t68.1, .b t68.2]) [(0, some (.box [.own 1003, .own 1004, .b ((⟨v50, v51, v49⟩ : asset_Book).made)])), (1003, some (.rows 29 5 (List.map api_Asset.enc ((⟨v50, v51, v49⟩ : asset_Book).l)) false)), (1004, some (.rows 3 1 (List.map (encI .i64) ((⟨v50, v51, v49⟩ : asset_Book).prices)) false)), (0, none), (1000, none), (1001, none)] 2 (asset_Book_place.ok b69) rfl rfl rfl ca34 rfl rfl (cC (.ptr _ _ _ _ _ rfl (cC (.own _ _ _ _ rfl) (cC (.own _ _ _ _ rfl) (cC (.imm _) .nil)))) (cC (.imm _) .nil)) rfl rfl rfl rfl rfl ?_
     refine .m rfl rfl rfl rfl ?_
     refine .v rfl rfl (OpL.extract rfl rfl rfl) ?_
     refine .v rfl rfl (OpL.extract rfl rfl rfl) ?_
     refine .a rfl rfl rfl rfl ?_
     refine .a rfl rfl rfl rfl ?_
     refine .nil ?_
     obtain ⟨c70, h⟩ := chk h
     refine W.dk (unm 9 [0, 1, 3, 7, 0, 0, 32, 127, 255]) rfl (by kernel_rfl) ?_
     refine .m rfl rfl rfl rfl ?_
     refine .v rfl rfl (OpL.nilP rfl rfl rfl) ?_
     refine .v rfl rfl (O.fld fld71_1 rfl rfl rfl) ?_
     refine .v rfl rfl (O.ld (y := .own 1004) ty69 rfl rfl rfl) ?_
     refine .m rfl rfl rfl rfl ?_
     refine .v rfl rfl (O.fld fld82_1 rfl rfl rfl) ?_
     refine .v rfl rfl (O.ld (y := .i ((nth x1 v48).Price)) ty3 rfl rfl rfl) ?_
     refine .v rfl rfl (O.idxO sl69 c70 rfl rfl rfl rfl) ?_
     refine .s rfl rfl (O.stE (x' := (nth x1 v48).Price) ty3 c70 rfl rfl rfl rfl rfl rfl rfl rfl rfl rfl rfl) ?_
     refine .nil ?_
     refine ⟨by kernel_rfl, by kernel_rfl, ?_⟩
     refine W.pk ?_
     refine .v rfl rfl (OpL.binI rfl rfl rfl rfl) ?_
     refine .m rfl rfl rfl rfl ?_
     refine .nil ?_
     cases h
     exact rdN (Gives.mkR [(1000, 1003), (1001, 1004)] (.r rfl rfl (.r rfl rfl (.r rfl rfl (.r rfl rfl (.r rfl rfl .n))))) (.r rfl rfl rfl (.r rfl rfl rfl (.r rfl rfl rfl .n))) rfl rfl rfl)
    ·have h := ifF q66 h
     refine W.exit ?_
     cases h
     refine rdX fun e_ => ?_
     subst e_
     repeat with_reducible refine thru ?_
     refine hit ?_
     exact toN (Gives.mkR [] (.r rfl rfl .n) (.r rfl rfl rfl (.r rfl rfl rfl (.r rfl rfl rfl .n))) rfl rfl rfl)

noncomputable def lombardlaw13_does.f (x0 : asset_Book) (x1 : List lombardref13_Known) (x2 : lombardlaw13_Act) : Option (Bool × asset_Book × (List lombardref13_Known)) :=
  if (x2.Kind == 0) = true then
    (lombardref13_Add.f x1 x2.Asset).bind fun t2 =>
    (asset_Book_Add.f x0 x2.Asset).bind fun t4 =>
    some ((t4.1 == t2.2), t4.2, t2.1)
  else
    (lombardref13_Set.f x1 x2.Prices).bind fun t6 =>
    (asset_Book_Set.f x0 x2.Prices).bind fun t8 =>
    some (((t6.2.1 == t8.1) && (t8.2.1 == t6.2.2)), t8.2.2, t6.1)
set_option maxRecDepth 100000 in
set_option maxHeartbeats 4000000 in
theorem lombardlaw13_does.ok {x0 : asset_Book} {x1 : List lombardref13_Known} {x2 : lombardlaw13_Act} {r : Bool × asset_Book × (List lombardref13_Known)} (h : lombardlaw13_does.f x0 x1 x2 = some r) : Pm.Spec prog 21 [.xbox [.xown 29 5 (List.map api_Asset.enc x0.l), .xown 3 1 (List.map (encI .i64) x0.prices), .imm (.val (.bool x0.made))], .xbox [.xown 46 6 (List.map lombardref13_Known.enc x1)], .agg [.imm (.val (.int .i64 x2.Kind)), .imm (.val (.string (tx x2.Asset.ISIN))), .imm (.val (.int .i64 x2.Asset.Issuer)), .imm (.val (.int .i64 x2.Asset.Rating)), .imm (.val (.int .i64 x2.Asset.Maturity)), .imm (.val (.string (tx x2.Asset.Currency))), .imm (.row 2 (List.map api_Price.enc x2.Prices))]] (.imm (.val (.bool r.1))) [some (.xbox [.xown 29 5 (List.map api_Asset.enc r.2.1.l), .xown 3 1 (List.map (encI .i64) r.2.1.prices), .imm (.val (.bool r.2.1.made))]), some (.xbox [.xown 46 6 (List.map lombardref13_Known.enc r.2.2)]), none] := by
 unfold lombardlaw13_does.f at h
 refine Pm.Spec.of_body Try.func21 rfl (by kernel_rfl) (Nat.le_of_ble_eq_true rfl) (Nat.le_of_ble_eq_true rfl) ?_
 refine W.ghost (σ' := (mkSt [(0, some (.ptr 0 0)), (1, some (.ptr 3 0)), (2, some (.agg (lombardlaw13_Act.av x2)))] [(0, some (.box [.own 1, .own 2, .b x0.made])), (1, some (.rows 29 5 (List.map api_Asset.enc x0.l) false)), (2, some (.rows 3 1 (List.map (encI .i64) x0.prices) false)), (3, some (.box [.own 4])), (4, some (.rows 46 6 (List.map lombardref13_Known.enc x1) false))] 1000)) (Gives.entry (.c rfl (.c rfl (.c rfl .n))) (.c rfl (.c rfl (.c rfl (.c rfl (.c rfl .n)))))) ?_
 refine W.ghost (σ' := (mkSt [(0, some (.ptr 0 0)), (1, some (.ptr 3 0)), (2, some (.agg (lombardlaw13_Act.av x2)))] [(0, some (.box [.own 1000, .own 1001, .b x0.made])), (3, some (.box [.own 1002])), (1000, some (.rows 29 5 (List.map api_Asset.enc x0.l) false)), (1001, some (.rows 3 1 (List.map (encI .i64) x0.prices) false)), (1002, some (.rows 46 6 (List.map lombardref13_Known.enc x1) false))] 1003)) (Gives.mkR [(1000, 1), (1001, 2), (1002, 4)] (.r rfl rfl (.r rfl rfl (.r rfl rfl .n))) (.r rfl rfl rfl (.r rfl rfl rfl (.r rfl rfl rfl (.r rfl rfl rfl (.r rfl rfl rfl .n))))) rfl rfl rfl) ?_
 refine W.seq ?_
 refine W.pk ?_
 refine .t rfl rfl (O.box rfl rfl rfl rfl rfl) ?_
 refine .a rfl rfl rfl rfl ?_
 refine .nil ?_
 refine W.seq ?_
 refine W.seq ?_
 refine W.pk ?_
 refine .v rfl rfl (O.fld fld51_0 rfl rfl rfl) ?_
 refine .v rfl rfl (O.ld (y := .i x2.Kind) ty3 rfl rfl rfl) ?_
 refine .v rfl rfl (OpL.binI rfl rfl rfl rfl) ?_
 refine .nil ?_
 refine W.cond rfl (fun q1 => ?_) (fun q1 => ?_)
 ·have h := ifT q1 h
  refine W.seq ?_
  obtain ⟨t2, b3, h⟩ := bnd1 h
  refine W.dk (unm 11 [0, 1, 3, 0, 8, 31, 63, 127, 127, 255, 1023]) rfl (by kernel_rfl) ?_
  refine .m rfl rfl rfl rfl ?_
  refine .v rfl rfl (OpL.nilP rfl rfl rfl) ?_
  refine .v rfl rfl (O.ld (y := .own 1002) ty31 rfl rfl rfl) ?_
  refine .v rfl rfl (O.fld fld51_1 rfl rfl rfl) ?_
  refine .v rfl rfl (O.ldN ty29 rfl rfl rfl) ?_
  refine .call (.tup [.own 1004, .i t2.2]) [(1004, some (.rows 46 6 (List.map lombardref13_Known.enc t2.1) false)), (1002, none)] 1 (lombardref13_Add.ok b3) rfl rfl rfl ca35 rfl rfl (cC (.own _ _ _ _ rfl) (cC (.agg _ _ _ _ (cC (.imm _) (cC (.imm _) (cC (.imm _) (cC (.imm _) (cC (.imm _) .nil)))))) .nil)) rfl rfl rfl rfl rfl ?_
  refine .m rfl rfl rfl rfl ?_
  refine .v rfl rfl (OpL.extract rfl rfl rfl) ?_
  refine .v rfl rfl (OpL.extract rfl rfl rfl) ?_
  refine .a rfl rfl rfl rfl ?_
  refine .a rfl rfl rfl rfl ?_
  refine .nil ?_
  refine ⟨by kernel_rfl, by kernel_rfl, ?_⟩
  refine W.seq ?_
  refine W.pk ?_
  refine .m rfl rfl rfl rfl ?_
  refine .m rfl rfl rfl rfl ?_
  refine .v rfl rfl (OpL.nilP rfl rfl rfl) ?_
  refine .s rfl rfl (O.st ty31 rfl rfl rfl rfl rfl rfl rfl rfl rfl rfl (all' := [.own 1004]) rfl) ?_
  refine .nil ?_
  refine W.seq ?_
  obtain ⟨t4, b5, h⟩ := bnd1 h
  refine W.pk ?_
  refine .m rfl rfl rfl rfl ?_
  refine .v rfl rfl (O.fld fld51_1 rfl rfl rfl) ?_
  refine .v rfl rfl (O.ldN ty29 rfl rfl rfl) ?_
  refine .call (.i t4.1) [(0, some (.box [.own 1005, .own 1006, .b t4.2.made])), (1005, some (.rows 29 5 (List.map api_Asset.enc t4.2.l) false)), (1006, some (.rows 3 1 (List.map (encI .i64) t4.2.prices) false)), (0, none), (1000, none), (1001, none)] 2 (asset_Book_Add.ok b5) rfl rfl rfl ca29 rfl rfl (cC (.ptr _ _ _ _ _ rfl (cC (.own _ _ _ _ rfl) (cC (.own _ _ _ _ rfl) (cC (.imm _) .nil)))) (cC (.agg _ _ _ _ (cC (.imm _) (cC (.imm _) (cC (.imm _) (cC (.imm _) (cC (.imm _) .nil)))))) .nil)) rfl rfl rfl rfl rfl ?_
  refine .m rfl rfl rfl rfl ?_
  refine .v rfl rfl (OpL.binI rfl rfl rfl rfl) ?_
  refine .a rfl rfl rfl rfl ?_
  refine .nil ?_
  refine W.ret ?_
  cases h
  exact leaves (.inr rfl) rfl (.imm _) (cS (.ptr _ _ _ _ _ rfl (cC (.own _ _ _ _ rfl) (cC (.own _ _ _ _ rfl) (cC (.imm _) .nil)))) (cS (.ptr _ _ _ _ _ rfl (cC (.own _ _ _ _ rfl) .nil)) (cN .nil))) rfl rfl
 ·have h := ifF q1 h
  refine W.skip ?_
  refine W.seq ?_
  obtain ⟨t6, b7, h⟩ := bnd1 h
  refine W.dk (unm 13 [0, 1, 3, 0, 8, 31, 63, 127, 127, 127, 255, 1535, 4095]) rfl (by kernel_rfl) ?_
  refine .m rfl rfl rfl rfl ?_
  refine .v rfl rfl (OpL.nilP rfl rfl rfl) ?_
  refine .v rfl rfl (O.ld (y := .own 1002) ty31 rfl rfl rfl) ?_
  refine .v rfl rfl (O.fld fld51_2 rfl rfl rfl) ?_
  refine .v rfl rfl (O.ld (y := .imm (.row 2 (List.map api_Price.enc x2.Prices))) ty49 rfl rfl rfl) ?_
  refine .call (.tup [.own 1004, .i t6.2.1, .i t6.2.2]) [(1004, some (.rows 46 6 (List.map lombardref13_Known.enc t6.1) false)), (1002, none)] 1 (lombardref13_Set.ok b7) rfl rfl rfl ca36 rfl rfl (cC (.own _ _ _ _ rfl) (cC (.imm _) .nil)) rfl rfl rfl rfl rfl ?_
  refine .m rfl rfl rfl rfl ?_
  refine .v rfl rfl (OpL.extract rfl rfl rfl) ?_
  refine .v rfl rfl (OpL.extract rfl rfl rfl) ?_
  refine .v rfl rfl (OpL.extract rfl rfl rfl) ?_
  refine .a rfl rfl rfl rfl ?_
  refine .a rfl rfl rfl rfl ?_
  refine .a rfl rfl rfl rfl ?_
  refine .nil ?_
  refine ⟨by kernel_rfl, by kernel_rfl, ?_⟩
  refine W.seq ?_
  obtain ⟨t8, b9, h⟩ := bnd1 h
  refine W.pk ?_
  refine .m rfl rfl rfl rfl ?_
  refine .v rfl rfl (O.fld fld51_2 rfl rfl rfl) ?_
  refine .v rfl rfl (O.ld (y := .imm (.row 2 (List.map api_Price.enc x2.Prices))) ty49 rfl rfl rfl) ?_
  refine .call (.tup [.i t8.1, .i t8.2.1]) [(0, some (.box [.own 1005, .own 1006, .b t8.2.2.made])), (1005, some (.rows 29 5 (List.map api_Asset.enc t8.2.2.l) false)), (1006, some (.rows 3 1 (List.map (encI .i64) t8.2.2.prices) false)), (0, none), (1000, none), (1001, none)] 2 (asset_Book_Set.ok b9) rfl rfl rfl ca30 rfl rfl (cC (.ptr _ _ _ _ _ rfl (cC (.own _ _ _ _ rfl) (cC (.own _ _ _ _ rfl) (cC (.imm _) .nil)))) (cC (.imm _) .nil)) rfl rfl rfl rfl rfl ?_
  refine .m rfl rfl rfl rfl ?_
  refine .v rfl rfl (OpL.extract rfl rfl rfl) ?_
  refine .v rfl rfl (OpL.extract rfl rfl rfl) ?_
  refine .a rfl rfl rfl rfl ?_
  refine .a rfl rfl rfl rfl ?_
  refine .nil ?_
  refine W.seq ?_
  refine W.pk ?_
  refine .m rfl rfl rfl rfl ?_
  refine .m rfl rfl rfl rfl ?_
  refine .v rfl rfl (OpL.nilP rfl rfl rfl) ?_
  refine .s rfl rfl (O.st ty31 rfl rfl rfl rfl rfl rfl rfl rfl rfl rfl (all' := [.own 1004]) rfl) ?_
  refine .nil ?_
  refine W.seq ?_
  refine W.fork (mkSt [(6, some (.b ((t6.2.1 == t8.1) && (t8.2.1 == t6.2.2))))] [(0, some (.box [.own 1005, .own 1006, .b t8.2.2.made])), (3, some (.box [.own 1004])), (1004, some (.rows 46 6 (List.map lombardref13_Known.enc t6.1) false)), (1005, some (.rows 29 5 (List.map api_Asset.enc t8.2.2.l) false)), (1006, some (.rows 3 1 (List.map (encI .i64) t8.2.2.prices) false))] 1007) ?_ ?_
  ·refine W.ret ?_
   cases h
   exact leaves (.inr rfl) rfl (.imm _) (cS (.ptr _ _ _ _ _ rfl (cC (.own _ _ _ _ rfl) (cC (.own _ _ _ _ rfl) (cC (.imm _) .nil)))) (cS (.ptr _ _ _ _ _ rfl (cC (.own _ _ _ _ rfl) .nil)) (cN .nil))) rfl rfl
  ·clear h
   rcases tf (t6.2.1 == t8.1) with g10 | g10
   ·refine W.pk ?_
    refine .m rfl rfl rfl rfl ?_
    refine .m rfl rfl rfl rfl ?_
    refine .v rfl rfl (OpL.binI rfl rfl rfl rfl) ?_
    refine .m rfl rfl rfl rfl ?_
    refine .m rfl (met rfl rfl rfl g10) rfl rfl ?_
    refine .m rfl (met rfl rfl rfl g10) rfl rfl ?_
    refine .v rfl (met rfl rfl rfl g10) (OpL.binI rfl rfl rfl rfl) ?_
    refine .v rfl rfl (O.pickT g10 rfl rfl rfl) ?_
    refine .a rfl rfl rfl rfl ?_
    refine .nil ?_
    exact toN (Gives.mkR [] (.c rfl (sbb (by simp only [g10, Bool.true_or, Bool.or_true, Bool.false_or, Bool.or_false, Bool.true_and, Bool.and_true, Bool.false_and, Bool.and_false, Bool.not_true, Bool.not_false, cond_true, cond_false])) rfl .n) (.r rfl rfl rfl (.r rfl rfl rfl (.r rfl rfl rfl (.r rfl rfl rfl (.r rfl rfl rfl .n))))) rfl rfl rfl)
   ·refine W.pk ?_
    refine .m rfl rfl rfl rfl ?_
    refine .m rfl rfl rfl rfl ?_
    refine .v rfl rfl (OpL.binI rfl rfl rfl rfl) ?_
    refine .m rfl rfl rfl rfl ?_
    refine .x rfl (unmet rfl rfl rfl g10) ?_
    refine .x rfl (unmet rfl rfl rfl g10) ?_
    refine .x rfl (unmet rfl rfl rfl g10) ?_
    refine .v rfl rfl (O.pickF g10 rfl rfl rfl) ?_
    refine .a rfl rfl rfl rfl ?_
    refine .nil ?_
    exact toN (Gives.mkR [] (.c rfl (sbb (by simp only [g10, Bool.true_or, Bool.or_true, Bool.false_or, Bool.or_false, Bool.true_and, Bool.and_true, Bool.false_and, Bool.and_false, Bool.not_true, Bool.not_false, cond_true, cond_false])) rfl .n) (.r rfl rfl rfl (.r rfl rfl rfl (.r rfl rfl rfl (.r rfl rfl rfl (.r rfl rfl rfl .n))))) rfl rfl rfl)

noncomputable def lombardlaw13_filled.b0 (x0 : List lombardlaw13_Act) (v25 : Int) (v26 : Bool) (v27 : List api_Asset) (v28 : List Int) (v29 : List lombardref13_Known) : Option ((Int × Bool × (List api_Asset) × (List Int) × (List lombardref13_Known)) ⊕ ((asset_Book × (List lombardref13_Known) × Bool) ⊕ (Bool × (List api_Asset) × (List Int) × (List lombardref13_Known)))) :=
  if ((decide (v25 < (List.length x0 : Int))) && (decide (v25 < 90))) = true then
    if (0 : Int) ≤ v25 ∧ v25 < (List.length x0 : Int) then
    if ((decide ((List.length ((nth x0 v25).Prices) : Int) ≤ 100)) = true → (0 : Int) ≤ v25 ∧ v25 < (List.length x0 : Int)) then
    (if (decide ((List.length ((nth x0 v25).Prices) : Int) ≤ 100)) = true then lombardlaw13_does.f (⟨v27, v28, v26⟩ : asset_Book) v29 (⟨(nth x0 v25).Kind, ((nth x0 v25).Asset), (nth x0 v25).Prices⟩ : lombardlaw13_Act) else some (default, (⟨v27, v28, v26⟩ : asset_Book), v29)).bind fun t56 =>
    if ((decide ((List.length ((nth x0 v25).Prices) : Int) ≤ 100)) && (!t56.1)) = true then
      some (.inr (.inl (t56.2.1, t56.2.2, false)))
    else
      some (.inl ((IntKind.wrap .i64 (v25 + 1)), t56.2.1.made, t56.2.1.l, t56.2.1.prices, t56.2.2))
    else none
    else none
  else
    some (.inr (.inr (v26, v27, v28, v29)))
noncomputable def lombardlaw13_filled.r0 (x0 : List lombardlaw13_Act) (s : Int × Bool × (List api_Asset) × (List Int) × (List lombardref13_Known)) : Option ((Int × Bool × (List api_Asset) × (List Int) × (List lombardref13_Known)) ⊕ ((asset_Book × (List lombardref13_Known) × Bool) ⊕ (Bool × (List api_Asset) × (List Int) × (List lombardref13_Known)))) := lombardlaw13_filled.b0 x0 s.1 s.2.1 s.2.2.1 s.2.2.2.1 s.2.2.2.2
noncomputable def lombardlaw13_filled.f (x0 : List lombardlaw13_Act) : Option (asset_Book × (List lombardref13_Known) × Bool) :=
  (asset_New.f).bind fun t1 =>
  (loop (lombardlaw13_filled.r0 x0) (0, t1.made, t1.l, t1.prices, [])).bind fun o49 =>
  match o49 with
  | .inl r61 => some r61
  | .inr w48 =>
    some ((⟨w48.2.1, w48.2.2.1, w48.1⟩ : asset_Book), w48.2.2.2, true)
set_option maxRecDepth 100000 in
set_option maxHeartbeats 4000000 in
theorem lombardlaw13_filled.ok {x0 : List lombardlaw13_Act} {r : asset_Book × (List lombardref13_Known) × Bool} (h : lombardlaw13_filled.f x0 = some r) : Pm.Spec prog 11 [.imm (.row 7 (List.map lombardlaw13_Act.enc x0))] (.tup [.xbox [.xown 29 5 (List.map api_Asset.enc r.1.l), .xown 3 1 (List.map (encI .i64) r.1.prices), .imm (.val (.bool r.1.made))], .xown 46 6 (List.map lombardref13_Known.enc r.2.1), .imm (.val (.bool r.2.2))]) [none] := by
 unfold lombardlaw13_filled.f at h
 refine Pm.Spec.of_body Try.func11 rfl (by kernel_rfl) (Nat.le_of_ble_eq_true rfl) (Nat.le_of_ble_eq_true rfl) ?_
 refine W.ghost (σ' := (mkSt [(0, some (.imm (.row 7 (List.map lombardlaw13_Act.enc x0))))] [] 1000)) (Gives.entry (.c rfl .n) .n) ?_
 refine W.seq ?_
 refine W.pk ?_
 refine .a rfl rfl rfl rfl ?_
 refine .a rfl rfl rfl rfl ?_
 refine .a rfl rfl rfl rfl ?_
 refine .nil ?_
 refine W.seq ?_
 obtain ⟨t1, b2, h⟩ := bnd1 h
 refine W.pk ?_
 refine .call (.ptr 1000 0) [(1000, some (.box [.own 1001, .own 1002, .b t1.made])), (1001, some (.rows 29 5 (List.map api_Asset.enc t1.l) false)), (1002, some (.rows 3 1 (List.map (encI .i64) t1.prices) false))] 3 (asset_New.ok b2) rfl rfl rfl ca20 rfl rfl .nil rfl rfl rfl rfl rfl ?_
 refine .a rfl rfl rfl rfl ?_
 refine .nil ?_
 refine W.seq ?_
 refine W.pk ?_
 refine .t rfl rfl (O.alloc z31 rfl) ?_
 refine .nil ?_
 refine W.seq ?_
 refine W.seq ?_
 refine W.pk ?_
 refine .a rfl rfl rfl rfl ?_
 refine .nil ?_
 refine W.ghost (Gives.mintB 1003 0 46 6 rfl rfl) ?_
 obtain ⟨o49, b50, z51⟩ := bnd1 h
 refine W.fork2 (out := o49) (fun (w48 : Bool × (List api_Asset) × (List Int) × (List lombardref13_Known)) => mkSt [(5, some (.ptr 1000 0)), (6, some (.ptr 1003 0))] [(1000, some (.box [.own 1001, .own 1002, .b w48.1])), (1001, some (.rows 29 5 (List.map api_Asset.enc w48.2.1) false)), (1002, some (.rows 3 1 (List.map (encI .i64) w48.2.2.1) false)), (1003, some (.box [.own 1004])), (1004, some (.rows 46 6 (List.map lombardref13_Known.enc w48.2.2.2) false))] 1005) ?_ ?_
 ·clear h
  refine W.block ?_
  refine W.loopF (fun (s_ : Int × Bool × (List api_Asset) × (List Int) × (List lombardref13_Known)) => mkSt [(0, some (.imm (.row 7 (List.map lombardlaw13_Act.enc x0)))), (5, some (.ptr 1000 0)), (6, some (.ptr 1003 0)), (7, some (.i s_.1))] [(1000, some (.box [.own 1001, .own 1002, .b s_.2.1])), (1001, some (.rows 29 5 (List.map api_Asset.enc s_.2.2.1) false)), (1002, some (.rows 3 1 (List.map (encI .i64) s_.2.2.2.1) false)), (1003, some (.box [.own 1004])), (1004, some (.rows 46 6 (List.map lombardref13_Known.enc s_.2.2.2.2) false))] 1005) b50 (Gives.mkR [] (.r rfl rfl (.r rfl rfl (.r rfl rfl (.r rfl rfl .n)))) (.r rfl rfl rfl (.r rfl rfl rfl (.r rfl rfl rfl (.r rfl rfl rfl (.r rfl rfl rfl .n))))) rfl rfl rfl) ?_
  rintro ⟨v25, v26, v27, v28, v29⟩ s_ hr
  have h : lombardlaw13_filled.b0 x0 v25 v26 v27 v28 v29 = some s_ := hr
  unfold lombardlaw13_filled.b0 at h
  refine W.seq ?_
  refine W.seq ?_
  refine W.fork (mkSt [(0, some (.imm (.row 7 (List.map lombardlaw13_Act.enc x0)))), (5, some (.ptr 1000 0)), (6, some (.ptr 1003 0)), (7, some (.i v25)), (16, some (.b ((decide (v25 < (List.length x0 : Int))) && (decide (v25 < 90)))))] [(1000, some (.box [.own 1001, .own 1002, .b v26])), (1001, some (.rows 29 5 (List.map api_Asset.enc v27) false)), (1002, some (.rows 3 1 (List.map (encI .i64) v28) false)), (1003, some (.box [.own 1004])), (1004, some (.rows 46 6 (List.map lombardref13_Known.enc v29) false))] 1005) ?_ ?_
  ·refine W.cond rfl (fun q53 => ?_) (fun q53 => ?_)
   ·have h := ifT q53 h
    refine W.skip ?_
    refine W.seq ?_
    refine W.block ?_
    refine W.seq ?_
    obtain ⟨c54, h⟩ := chk h
    obtain ⟨c55, h⟩ := chk h
    obtain ⟨t56, b57, h⟩ := bnd1 h
    refine W.fork (mkSt [(0, some (.imm (.row 7 (List.map lombardlaw13_Act.enc x0)))), (5, some (.ptr 1000 0)), (6, some (.ptr 1003 0)), (7, some (.i v25)), (34, some (.b ((decide ((List.length ((nth x0 v25).Prices) : Int) ≤ 100)) && (!t56.1))))] [(1000, some (.box [.own 1005, .own 1006, .b t56.2.1.made])), (1003, some (.box [.own 1007])), (1005, some (.rows 29 5 (List.map api_Asset.enc t56.2.1.l) false)), (1006, some (.rows 3 1 (List.map (encI .i64) t56.2.1.prices) false)), (1007, some (.rows 46 6 (List.map lombardref13_Known.enc t56.2.2) false))] 1008) ?_ ?_
    ·refine W.cond rfl (fun q59 => ?_) (fun q59 => ?_)
     ·have h := ifT q59 h
      refine W.seq ?_
      refine W.dk (unm 5 [0, 0, 1, 7, 15]) rfl (by kernel_rfl) ?_
      refine .m rfl rfl rfl rfl ?_
      refine .v rfl rfl (O.ld (y := .own 1007) ty31 rfl rfl rfl) ?_
      refine .a rfl rfl rfl rfl ?_
      refine .a rfl rfl rfl rfl ?_
      refine .a rfl rfl rfl rfl ?_
      refine .nil ?_
      refine ⟨by kernel_rfl, by kernel_rfl, ?_⟩
      refine W.ret ?_
      cases h
      refine rdR fun e_ => ?_
      subst e_
      have h := z51
      dsimp only at h
      refine fkR ?_
      cases h
      exact leaves (.inr rfl) rfl (.tup _ _ _ _ (cC (.ptr _ _ _ _ _ rfl (cC (.own _ _ _ _ rfl) (cC (.own _ _ _ _ rfl) (cC (.imm _) .nil)))) (cC (.own _ _ _ _ rfl) (cC (.imm _) .nil)))) (cN .nil) rfl rfl
     ·have h := ifF q59 h
      refine W.skip ?_
      refine W.pk ?_
      refine .m rfl rfl rfl rfl ?_
      refine .v rfl rfl (OpL.binI rfl rfl rfl rfl) ?_
      refine .a rfl rfl rfl rfl ?_
      refine .nil ?_
      cases h
      exact rdN (Gives.mkR [(1001, 1005), (1002, 1006), (1004, 1007)] (.r rfl rfl (.r rfl rfl (.r rfl rfl (.r rfl rfl .n)))) (.r rfl rfl rfl (.r rfl rfl rfl (.r rfl rfl rfl (.r rfl rfl rfl (.r rfl rfl rfl .n))))) rfl rfl rfl)
    ·clear h
     rcases tf (decide ((List.length ((nth x0 v25).Prices) : Int) ≤ 100)) with g58 | g58
     ·refine W.pk ?_
      refine .m rfl rfl rfl rfl ?_
      refine .m rfl rfl rfl rfl ?_
      refine .v rfl rfl (O.idx sl27 c54 rfl rfl rfl) ?_
      refine .v rfl rfl (O.fld fld51_2 rfl rfl rfl) ?_
      refine .v rfl rfl (O.ld (y := .imm (.row 2 (List.map api_Price.enc ((nth x0 v25).Prices)))) ty49 rfl rfl rfl) ?_
      refine .v rfl rfl (O.lenR sl49 rfl rfl) ?_
      refine .v rfl rfl (OpL.binI rfl rfl rfl rfl) ?_
      refine .m rfl rfl rfl rfl ?_
      refine .m rfl (met rfl rfl rfl g58) rfl rfl ?_
      refine .m rfl (met rfl rfl rfl g58) rfl rfl ?_
      refine .m rfl (met rfl rfl rfl g58) rfl rfl ?_
      refine .v rfl (met rfl rfl rfl g58) (O.idx sl27 (c55 (by simp only [g58, Bool.true_or, Bool.or_true, Bool.false_or, Bool.or_false, Bool.true_and, Bool.and_true, Bool.false_and, Bool.and_false, Bool.not_true, Bool.not_false, cond_true, cond_false])) rfl rfl rfl) ?_
      refine .v rfl (met rfl rfl rfl g58) (O.ldN ty51 rfl rfl rfl) ?_
      refine .call (.b t56.1) [(1000, some (.box [.own 1005, .own 1006, .b t56.2.1.made])), (1005, some (.rows 29 5 (List.map api_Asset.enc t56.2.1.l) false)), (1006, some (.rows 3 1 (List.map (encI .i64) t56.2.1.prices) false)), (1003, some (.box [.own 1007])), (1007, some (.rows 46 6 (List.map lombardref13_Known.enc t56.2.2) false)), (1000, none), (1001, none), (1002, none), (1003, none), (1004, none)] 3 (lombardlaw13_does.ok ((if_pos (by simp only [g58, Bool.true_or, Bool.or_true, Bool.false_or, Bool.or_false, Bool.true_and, Bool.and_true, Bool.false_and, Bool.and_false, Bool.not_true, Bool.not_false, cond_true, cond_false])).symm.trans b57)) rfl (met rfl rfl rfl g58) rfl ca21 rfl rfl (cC (.ptr _ _ _ _ _ rfl (cC (.own _ _ _ _ rfl) (cC (.own _ _ _ _ rfl) (cC (.imm _) .nil)))) (cC (.ptr _ _ _ _ _ rfl (cC (.own _ _ _ _ rfl) .nil)) (cC (.agg _ _ _ _ (cC (.imm _) (cC (.imm _) (cC (.imm _) (cC (.imm _) (cC (.imm _) (cC (.imm _) (cC (.imm _) .nil)))))))) .nil))) rfl rfl rfl rfl rfl ?_
      refine .v rfl (met rfl rfl rfl g58) (OpL.unV rfl rfl rfl) ?_
      refine .v rfl rfl (O.pickT g58 rfl rfl rfl) ?_
      refine .nil ?_
      exact toN (Gives.mkR [] (.r rfl rfl (.r rfl rfl (.r rfl rfl (.r rfl rfl (.c rfl (sbb (by simp only [g58, Bool.true_or, Bool.or_true, Bool.false_or, Bool.or_false, Bool.true_and, Bool.and_true, Bool.false_and, Bool.and_false, Bool.not_true, Bool.not_false, cond_true, cond_false])) rfl .n))))) (.r rfl rfl rfl (.r rfl rfl rfl (.r rfl rfl rfl (.r rfl rfl rfl (.r rfl rfl rfl .n))))) rfl rfl rfl)
     ·refine W.pk ?_
      refine .m rfl rfl rfl rfl ?_
      refine .m rfl rfl rfl rfl ?_
      refine .v rfl rfl (O.idx sl27 c54 rfl rfl rfl) ?_
      refine .v rfl rfl (O.fld fld51_2 rfl rfl rfl) ?_
      refine .v rfl rfl (O.ld (y := .imm (.row 2 (List.map api_Price.enc ((nth x0 v25).Prices)))) ty49 rfl rfl rfl) ?_
      refine .v rfl rfl (O.lenR sl49 rfl rfl) ?_
      refine .v rfl rfl (OpL.binI rfl rfl rfl rfl) ?_
      refine .m rfl rfl rfl rfl ?_
      refine .x rfl (unmet rfl rfl rfl g58) ?_
      refine .x rfl (unmet rfl rfl rfl g58) ?_
      refine .x rfl (unmet rfl rfl rfl g58) ?_
      refine .x rfl (unmet rfl rfl rfl g58) ?_
      refine .x rfl (unmet rfl rfl rfl g58) ?_
      refine .x rfl (unmet rfl rfl rfl g58) ?_
      refine .x rfl (unmet rfl rfl rfl g58) ?_
      refine .v rfl rfl (O.pickF g58 rfl rfl rfl) ?_
      refine .nil ?_
      have e60 : t56 = (default, (⟨v27, v28, v26⟩ : asset_Book), v29) := (Option.some.inj ((if_neg (by simp only [g58, Bool.true_or, Bool.or_true, Bool.false_or, Bool.or_false, Bool.true_and, Bool.and_true, Bool.false_and, Bool.and_false, Bool.not_true, Bool.not_false, cond_true, cond_false, Bool.true_eq_false, Bool.false_eq_true, false_and, and_false, true_and, and_true, not_false_eq_true])).symm.trans b57)).symm
      exact toN (Gives.mkR [(1005, 1001), (1006, 1002), (1007, 1004)] (.r rfl rfl (.r rfl rfl (.r rfl rfl (.r rfl rfl (.c rfl (sbb (by first | (simp only [g58, e60, Bool.true_or, Bool.or_true, Bool.false_or, Bool.or_false, Bool.true_and, Bool.and_true, Bool.false_and, Bool.and_false, Bool.not_true, Bool.not_false, cond_true, cond_false]; done) | (repeat (first | rw [g58] | rw [e60])) <;> simp only [Bool.true_or, Bool.or_true, Bool.false_or, Bool.or_false, Bool.true_and, Bool.and_true, Bool.false_and, Bool.and_false, Bool.not_true, Bool.not_false, cond_true, cond_false])) rfl .n))))) (.c rfl (.box (.cons (.rfl _) (.cons (.rfl _) (.cons (sbb (by first | (simp only [g58, e60, Bool.true_or, Bool.or_true, Bool.false_or, Bool.or_false, Bool.true_and, Bool.and_true, Bool.false_and, Bool.and_false, Bool.not_true, Bool.not_false, cond_true, cond_false]; done) | (repeat (first | rw [g58] | rw [e60])) <;> simp only [Bool.true_or, Bool.or_true, Bool.false_or, Bool.or_false, Bool.true_and, Bool.and_true, Bool.false_and, Bool.and_false, Bool.not_true, Bool.not_false, cond_true, cond_false])) .nil)))) rfl rfl (.r rfl rfl rfl (.c rfl (kro (by first | (simp only [g58, e60, Bool.true_or, Bool.or_true, Bool.false_or, Bool.or_false, Bool.true_and, Bool.and_true, Bool.false_and, Bool.and_false, Bool.not_true, Bool.not_false, cond_true, cond_false]; done) | (repeat (first | rw [g58] | rw [e60])) <;> simp only [Bool.true_or, Bool.or_true, Bool.false_or, Bool.or_false, Bool.true_and, Bool.and_true, Bool.false_and, Bool.and_false, Bool.not_true, Bool.not_false, cond_true, cond_false])) rfl rfl (.c rfl (kro (by first | (simp only [g58, e60, Bool.true_or, Bool.or_true, Bool.false_or, Bool.or_false, Bool.true_and, Bool.and_true, Bool.false_and, Bool.and_false, Bool.not_true, Bool.not_false, cond_true, cond_false]; done) | (repeat (first | rw [g58] | rw [e60])) <;> simp only [Bool.true_or, Bool.or_true, Bool.false_or, Bool.or_false, Bool.true_and, Bool.and_true, Bool.false_and, Bool.and_false, Bool.not_true, Bool.not_false, cond_true, cond_false])) rfl rfl (.c rfl (kro (by first | (simp only [g58, e60, Bool.true_or, Bool.or_true, Bool.false_or, Bool.or_false, Bool.true_and, Bool.and_true, Bool.false_and, Bool.and_false, Bool.not_true, Bool.not_false, cond_true, cond_false]; done) | (repeat (first | rw [g58] | rw [e60])) <;> simp only [Bool.true_or, Bool.or_true, Bool.false_or, Bool.or_false, Bool.true_and, Bool.and_true, Bool.false_and, Bool.and_false, Bool.not_true, Bool.not_false, cond_true, cond_false])) rfl rfl .n))))) rfl rfl rfl)
   ·have h := ifF q53 h
    refine W.exit ?_
    cases h
    refine rdX fun e_ => ?_
    subst e_
    repeat with_reducible refine thru ?_
    refine hit ?_
    exact fkN (Gives.mkR [] (.r rfl rfl (.r rfl rfl .n)) (.r rfl rfl rfl (.r rfl rfl rfl (.r rfl rfl rfl (.r rfl rfl rfl (.r rfl rfl rfl .n))))) rfl rfl rfl)
  ·clear h
   rcases tf (decide (v25 < (List.length x0 : Int))) with g52 | g52
   ·refine W.pk ?_
    refine .m rfl rfl rfl rfl ?_
    refine .m rfl rfl rfl rfl ?_
    refine .v rfl rfl (O.lenR sl27 rfl rfl) ?_
    refine .v rfl rfl (OpL.binI rfl rfl rfl rfl) ?_
    refine .m rfl rfl rfl rfl ?_
    refine .m rfl (met rfl rfl rfl g52) rfl rfl ?_
    refine .v rfl (met rfl rfl rfl g52) (OpL.binI rfl rfl rfl rfl) ?_
    refine .v rfl rfl (O.pickT g52 rfl rfl rfl) ?_
    refine .nil ?_
    exact toN (Gives.mkR [] (.r rfl rfl (.r rfl rfl (.r rfl rfl (.r rfl rfl (.c rfl (sbb (by simp only [g52, Bool.true_or, Bool.or_true, Bool.false_or, Bool.or_false, Bool.true_and, Bool.and_true, Bool.false_and, Bool.and_false, Bool.not_true, Bool.not_false, cond_true, cond_false])) rfl .n))))) (.r rfl rfl rfl (.r rfl rfl rfl (.r rfl rfl rfl (.r rfl rfl rfl (.r rfl rfl rfl .n))))) rfl rfl rfl)
   ·refine W.pk ?_
    refine .m rfl rfl rfl rfl ?_
    refine .m rfl rfl rfl rfl ?_
    refine .v rfl rfl (O.lenR sl27 rfl rfl) ?_
    refine .v rfl rfl (OpL.binI rfl rfl rfl rfl) ?_
    refine .m rfl rfl rfl rfl ?_
    refine .x rfl (unmet rfl rfl rfl g52) ?_
    refine .x rfl (unmet rfl rfl rfl g52) ?_
    refine .v rfl rfl (O.pickF g52 rfl rfl rfl) ?_
    refine .nil ?_
    exact toN (Gives.mkR [] (.r rfl rfl (.r rfl rfl (.r rfl rfl (.r rfl rfl (.c rfl (sbb (by simp only [g52, Bool.true_or, Bool.or_true, Bool.false_or, Bool.or_false, Bool.true_and, Bool.and_true, Bool.false_and, Bool.and_false, Bool.not_true, Bool.not_false, cond_true, cond_false])) rfl .n))))) (.r rfl rfl rfl (.r rfl rfl rfl (.r rfl rfl rfl (.r rfl rfl rfl (.r rfl rfl rfl .n))))) rfl rfl rfl)
 ·intro w48 e_
  subst e_
  clear h
  have h := z51
  dsimp only at h
  refine W.seq ?_
  refine W.dk (unm 5 [0, 0, 1, 7, 15]) rfl (by kernel_rfl) ?_
  refine .m rfl rfl rfl rfl ?_
  refine .v rfl rfl (O.ld (y := .own 1004) ty31 rfl rfl rfl) ?_
  refine .a rfl rfl rfl rfl ?_
  refine .a rfl rfl rfl rfl ?_
  refine .a rfl rfl rfl rfl ?_
  refine .nil ?_
  refine ⟨by kernel_rfl, by kernel_rfl, ?_⟩
  refine W.ret ?_
  cases h
  exact leaves (.inr rfl) rfl (.tup _ _ _ _ (cC (.ptr _ _ _ _ _ rfl (cC (.own _ _ _ _ rfl) (cC (.own _ _ _ _ rfl) (cC (.imm _) .nil)))) (cC (.own _ _ _ _ rfl) (cC (.imm _) .nil)))) (cN .nil) rfl rfl

noncomputable def asset_Left.f (x0 : api_Asset) (x1 : Int) : Option (Int) :=
  if ((decide (x1 < 0)) || (decide (x1 > 200000))) = true then
    some (-1)
  else
    some (IntKind.wrap .i64 (x0.Maturity - x1))
set_option maxRecDepth 100000 in
set_option maxHeartbeats 4000000 in
theorem asset_Left.ok {x0 : api_Asset} {x1 : Int} {r : Int} (h : asset_Left.f x0 x1 = some r) : Pm.Spec prog 12 [.agg [.imm (.val (.string (tx x0.ISIN))), .imm (.val (.int .i64 x0.Issuer)), .imm (.val (.int .i64 x0.Rating)), .imm (.val (.int .i64 x0.Maturity)), .imm (.val (.string (tx x0.Currency)))], .imm (.val (.int .i64 x1))] (.imm (.val (.int .i64 r))) [none, none] := by
 unfold asset_Left.f at h
 refine Pm.Spec.of_body Try.func12 rfl (by kernel_rfl) (Nat.le_of_ble_eq_true rfl) (Nat.le_of_ble_eq_true rfl) ?_
 refine W.ghost (σ' := (mkSt [(0, some (.agg (api_Asset.av x0))), (1, some (.i x1))] [] 1000)) (Gives.entry (.c rfl (.c rfl .n)) .n) ?_
 refine W.seq ?_
 refine W.pk ?_
 refine .t rfl rfl (O.box rfl rfl rfl rfl rfl) ?_
 refine .a rfl rfl rfl rfl ?_
 refine .nil ?_
 refine W.seq ?_
 refine W.seq ?_
 refine W.fork (mkSt [(1, some (.i x1)), (2, some (.ptr 1000 0)), (10, some (.b ((decide (x1 < 0)) || (decide (x1 > 200000)))))] [(1000, some (.box [.s x0.ISIN, .i x0.Issuer, .i x0.Rating, .i x0.Maturity, .s x0.Currency]))] 1001) ?_ ?_
 ·refine W.cond rfl (fun q2 => ?_) (fun q2 => ?_)
  ·have h := ifT q2 h
   refine W.seq ?_
   refine W.pk ?_
   refine .a rfl rfl rfl rfl ?_
   refine .nil ?_
   refine W.ret ?_
   cases h
   exact leaves (.inr rfl) rfl (.imm _) (cN (cN .nil)) rfl rfl
  ·have h := ifF q2 h
   refine W.skip ?_
   refine W.seq ?_
   refine W.pk ?_
   refine .v rfl rfl (O.fld fld29_3 rfl rfl rfl) ?_
   refine .v rfl rfl (O.ld (y := .i x0.Maturity) ty3 rfl rfl rfl) ?_
   refine .m rfl rfl rfl rfl ?_
   refine .v rfl rfl (OpL.binI rfl rfl rfl rfl) ?_
   refine .a rfl rfl rfl rfl ?_
   refine .nil ?_
   refine W.ret ?_
   cases h
   exact leaves (.inr rfl) rfl (.imm _) (cN (cN .nil)) rfl rfl
 ·clear h
  rcases tf (decide (x1 < 0)) with g1 | g1
  ·refine W.pk ?_
   refine .m rfl rfl rfl rfl ?_
   refine .v rfl rfl (OpL.binI rfl rfl rfl rfl) ?_
   refine .m rfl rfl rfl rfl ?_
   refine .x rfl (unmet rfl rfl rfl g1) ?_
   refine .x rfl (unmet rfl rfl rfl g1) ?_
   refine .v rfl rfl (O.pickT g1 rfl rfl rfl) ?_
   refine .nil ?_
   exact toN (Gives.mkR [] (.r rfl rfl (.r rfl rfl (.c rfl (sbb (by simp only [g1, Bool.true_or, Bool.or_true, Bool.false_or, Bool.or_false, Bool.true_and, Bool.and_true, Bool.false_and, Bool.and_false, Bool.not_true, Bool.not_false, cond_true, cond_false])) rfl .n))) (.r rfl rfl rfl .n) rfl rfl rfl)
  ·refine W.pk ?_
   refine .m rfl rfl rfl rfl ?_
   refine .v rfl rfl (OpL.binI rfl rfl rfl rfl) ?_
   refine .m rfl rfl rfl rfl ?_
   refine .m rfl (met rfl rfl rfl g1) rfl rfl ?_
   refine .v rfl (met rfl rfl rfl g1) (OpL.binI rfl rfl rfl rfl) ?_
   refine .v rfl rfl (O.pickF g1 rfl rfl rfl) ?_
   refine .nil ?_
   exact toN (Gives.mkR [] (.r rfl rfl (.r rfl rfl (.c rfl (sbb (by simp only [g1, Bool.true_or, Bool.or_true, Bool.false_or, Bool.or_false, Bool.true_and, Bool.and_true, Bool.false_and, Bool.and_false, Bool.not_true, Bool.not_false, cond_true, cond_false])) rfl .n))) (.r rfl rfl rfl .n) rfl rfl rfl)

noncomputable def lombardref13_Left.f (x0 : api_Asset) (x1 : Int) : Option (Int) :=
  if ((decide (x1 < 0)) || (decide (x1 > 200000))) = true then
    some (-1)
  else
    some (IntKind.wrap .i64 (x0.Maturity - x1))
set_option maxRecDepth 100000 in
set_option maxHeartbeats 4000000 in
theorem lombardref13_Left.ok {x0 : api_Asset} {x1 : Int} {r : Int} (h : lombardref13_Left.f x0 x1 = some r) : Pm.Spec prog 13 [.agg [.imm (.val (.string (tx x0.ISIN))), .imm (.val (.int .i64 x0.Issuer)), .imm (.val (.int .i64 x0.Rating)), .imm (.val (.int .i64 x0.Maturity)), .imm (.val (.string (tx x0.Currency)))], .imm (.val (.int .i64 x1))] (.imm (.val (.int .i64 r))) [none, none] := by
 unfold lombardref13_Left.f at h
 refine Pm.Spec.of_body Try.func13 rfl (by kernel_rfl) (Nat.le_of_ble_eq_true rfl) (Nat.le_of_ble_eq_true rfl) ?_
 refine W.ghost (σ' := (mkSt [(0, some (.agg (api_Asset.av x0))), (1, some (.i x1))] [] 1000)) (Gives.entry (.c rfl (.c rfl .n)) .n) ?_
 refine W.seq ?_
 refine W.pk ?_
 refine .t rfl rfl (O.box rfl rfl rfl rfl rfl) ?_
 refine .a rfl rfl rfl rfl ?_
 refine .nil ?_
 refine W.seq ?_
 refine W.seq ?_
 refine W.fork (mkSt [(1, some (.i x1)), (2, some (.ptr 1000 0)), (10, some (.b ((decide (x1 < 0)) || (decide (x1 > 200000)))))] [(1000, some (.box [.s x0.ISIN, .i x0.Issuer, .i x0.Rating, .i x0.Maturity, .s x0.Currency]))] 1001) ?_ ?_
 ·refine W.cond rfl (fun q2 => ?_) (fun q2 => ?_)
  ·have h := ifT q2 h
   refine W.seq ?_
   refine W.pk ?_
   refine .a rfl rfl rfl rfl ?_
   refine .nil ?_
   refine W.ret ?_
   cases h
   exact leaves (.inr rfl) rfl (.imm _) (cN (cN .nil)) rfl rfl
  ·have h := ifF q2 h
   refine W.skip ?_
   refine W.seq ?_
   refine W.pk ?_
   refine .v rfl rfl (O.fld fld29_3 rfl rfl rfl) ?_
   refine .v rfl rfl (O.ld (y := .i x0.Maturity) ty3 rfl rfl rfl) ?_
   refine .m rfl rfl rfl rfl ?_
   refine .v rfl rfl (OpL.binI rfl rfl rfl rfl) ?_
   refine .a rfl rfl rfl rfl ?_
   refine .nil ?_
   refine W.ret ?_
   cases h
   exact leaves (.inr rfl) rfl (.imm _) (cN (cN .nil)) rfl rfl
 ·clear h
  rcases tf (decide (x1 < 0)) with g1 | g1
  ·refine W.pk ?_
   refine .m rfl rfl rfl rfl ?_
   refine .v rfl rfl (OpL.binI rfl rfl rfl rfl) ?_
   refine .m rfl rfl rfl rfl ?_
   refine .x rfl (unmet rfl rfl rfl g1) ?_
   refine .x rfl (unmet rfl rfl rfl g1) ?_
   refine .v rfl rfl (O.pickT g1 rfl rfl rfl) ?_
   refine .nil ?_
   exact toN (Gives.mkR [] (.r rfl rfl (.r rfl rfl (.c rfl (sbb (by simp only [g1, Bool.true_or, Bool.or_true, Bool.false_or, Bool.or_false, Bool.true_and, Bool.and_true, Bool.false_and, Bool.and_false, Bool.not_true, Bool.not_false, cond_true, cond_false])) rfl .n))) (.r rfl rfl rfl .n) rfl rfl rfl)
  ·refine W.pk ?_
   refine .m rfl rfl rfl rfl ?_
   refine .v rfl rfl (OpL.binI rfl rfl rfl rfl) ?_
   refine .m rfl rfl rfl rfl ?_
   refine .m rfl (met rfl rfl rfl g1) rfl rfl ?_
   refine .v rfl (met rfl rfl rfl g1) (OpL.binI rfl rfl rfl rfl) ?_
   refine .v rfl rfl (O.pickF g1 rfl rfl rfl) ?_
   refine .nil ?_
   exact toN (Gives.mkR [] (.r rfl rfl (.r rfl rfl (.c rfl (sbb (by simp only [g1, Bool.true_or, Bool.or_true, Bool.false_or, Bool.or_false, Bool.true_and, Bool.and_true, Bool.false_and, Bool.and_false, Bool.not_true, Bool.not_false, cond_true, cond_false])) rfl .n))) (.r rfl rfl rfl .n) rfl rfl rfl)

noncomputable def asset_Book_Ending.b0 (x0 : asset_Book) (x1 : Int) (v14 : Int) (v15 : List Bs) : Option ((Int × (List Bs)) ⊕ (List Bs)) :=
  if (decide (v14 < (List.length x0.l : Int))) = true then
    if (0 : Int) ≤ v14 ∧ v14 < (List.length x0.l : Int) then
    (asset_Left.f (nth x0.l v14) x1).bind fun t34 =>
    if (decide (t34 ≤ 0)) = true then
      if (List.length v15 + List.length [(nth x0.l v14).ISIN]) * 16 ≤ 140737488355328 then
      some (.inl ((IntKind.wrap .i64 (v14 + 1)), (v15 ++ [(nth x0.l v14).ISIN])))
      else none
    else
      some (.inl ((IntKind.wrap .i64 (v14 + 1)), v15))
    else none
  else
    some (.inr v15)
noncomputable def asset_Book_Ending.r0 (x0 : asset_Book) (x1 : Int) (s : Int × (List Bs)) : Option ((Int × (List Bs)) ⊕ (List Bs)) := asset_Book_Ending.b0 x0 x1 s.1 s.2
noncomputable def asset_Book_Ending.f (x0 : asset_Book) (x1 : Int) : Option (List Bs) :=
  (loop (asset_Book_Ending.r0 x0 x1) (0, [])).bind fun o29 =>
  some o29
set_option maxRecDepth 100000 in
set_option maxHeartbeats 4000000 in
theorem asset_Book_Ending.ok {x0 : asset_Book} {x1 : Int} {r : List Bs} (h : asset_Book_Ending.f x0 x1 = some r) : Pm.Spec prog 15 [.xbox [.xown 29 5 (List.map api_Asset.enc x0.l), .xown 3 1 (List.map (encI .i64) x0.prices), .imm (.val (.bool x0.made))], .imm (.val (.int .i64 x1))] (.xown 9 1 (List.map encS r)) [some (.xbox [.xown 29 5 (List.map api_Asset.enc x0.l), .xown 3 1 (List.map (encI .i64) x0.prices), .imm (.val (.bool x0.made))]), none] := by
 unfold asset_Book_Ending.f at h
 refine Pm.Spec.of_body Try.func15 rfl (by kernel_rfl) (Nat.le_of_ble_eq_true rfl) (Nat.le_of_ble_eq_true rfl) ?_
 refine W.ghost (σ' := (mkSt [(0, some (.ptr 0 0)), (1, some (.i x1))] [(0, some (.box [.own 1, .own 2, .b x0.made])), (1, some (.rows 29 5 (List.map api_Asset.enc x0.l) false)), (2, some (.rows 3 1 (List.map (encI .i64) x0.prices) false))] 1000)) (Gives.entry (.c rfl (.c rfl .n)) (.c rfl (.c rfl (.c rfl .n)))) ?_
 refine W.ghost (σ' := (mkSt [(0, some (.ptr 0 0)), (1, some (.i x1))] [(0, some (.box [.own 1000, .own 1001, .b x0.made])), (1000, some (.rows 29 5 (List.map api_Asset.enc x0.l) false)), (1001, some (.rows 3 1 (List.map (encI .i64) x0.prices) false))] 1002)) (Gives.mkR [(1000, 1), (1001, 2)] (.r rfl rfl (.r rfl rfl .n)) (.r rfl rfl rfl (.r rfl rfl rfl (.r rfl rfl rfl .n))) rfl rfl rfl) ?_
 refine W.seq ?_
 refine W.pk ?_
 refine .a rfl rfl rfl rfl ?_
 refine .nil ?_
 refine W.seq ?_
 refine W.seq ?_
 refine W.pk ?_
 refine .m rfl rfl rfl rfl ?_
 refine .v rfl rfl (OpL.eqP rfl u30 rfl rfl rfl) ?_
 refine .nil ?_
 refine W.cond rfl (fun q => by cases q) (fun _ => ?_)
 refine W.skip ?_
 refine W.seq ?_
 refine W.pk ?_
 refine .a rfl rfl rfl rfl ?_
 refine .nil ?_
 refine W.seq ?_
 refine W.seq ?_
 refine W.pk ?_
 refine .m rfl rfl rfl rfl ?_
 refine .v rfl rfl (OpL.nilP rfl rfl rfl) ?_
 refine .v rfl rfl (O.fld fld71_0 rfl rfl rfl) ?_
 refine .v rfl rfl (O.ld (y := .own 1000) ty68 rfl rfl rfl) ?_
 refine .v rfl rfl (O.lenO sl68 rfl rfl rfl) ?_
 refine .m rfl rfl rfl rfl ?_
 refine .nil ?_
 refine W.ghost (Gives.mintS 5 9 1 rfl) ?_
 obtain ⟨o29, b30, h⟩ := bnd1 h
 refine W.fork (mkSt [(5, some (.own 1002))] [(0, some (.box [.own 1000, .own 1001, .b x0.made])), (1000, some (.rows 29 5 (List.map api_Asset.enc x0.l) false)), (1001, some (.rows 3 1 (List.map (encI .i64) x0.prices) false)), (1002, some (.rows 9 1 (List.map encS o29) false))] 1003) ?_ ?_
 ·refine W.seq ?_
  refine W.pk ?_
  refine .m rfl rfl rfl rfl ?_
  refine .a rfl rfl rfl rfl ?_
  refine .nil ?_
  refine W.ret ?_
  cases h
  exact leaves (.inr rfl) rfl (.own _ _ _ _ rfl) (cS (.ptr _ _ _ _ _ rfl (cC (.own _ _ _ _ rfl) (cC (.own _ _ _ _ rfl) (cC (.imm _) .nil)))) (cN .nil)) rfl rfl
 ·clear h
  refine W.block ?_
  refine W.loopF (fun (s_ : Int × (List Bs)) => mkSt [(1, some (.i x1)), (5, some (.own 1002)), (13, some (.own 1000)), (14, some (.i (List.length x0.l : Int))), (15, some (.i s_.1))] [(0, some (.box [.own 1000, .own 1001, .b x0.made])), (1000, some (.rows 29 5 (List.map api_Asset.enc x0.l) false)), (1001, some (.rows 3 1 (List.map (encI .i64) x0.prices) false)), (1002, some (.rows 9 1 (List.map encS s_.2) false))] 1003) b30 (Gives.mkR [] (.r rfl rfl (.r rfl rfl (.r rfl rfl (.r rfl rfl (.r rfl rfl .n))))) (.r rfl rfl rfl (.r rfl rfl rfl (.r rfl rfl rfl (.r rfl rfl rfl .n)))) rfl rfl rfl) ?_
  rintro ⟨v14, v15⟩ s_ hr
  have h : asset_Book_Ending.b0 x0 x1 v14 v15 = some s_ := hr
  unfold asset_Book_Ending.b0 at h
  refine W.seq ?_
  refine W.pk ?_
  refine .v rfl rfl (OpL.binI rfl rfl rfl rfl) ?_
  refine .nil ?_
  refine W.seq ?_
  refine W.cond rfl (fun q32 => ?_) (fun q32 => ?_)
  ·have h := ifT q32 h
   refine W.skip ?_
   refine W.seq ?_
   refine W.block ?_
   refine W.seq ?_
   obtain ⟨c33, h⟩ := chk h
   refine W.pk ?_
   refine .v rfl rfl (O.idxO sl68 c33 rfl rfl rfl rfl) ?_
   refine .v rfl rfl (O.ldEN ty29 c33 rfl rfl rfl rfl rfl) ?_
   refine .t rfl rfl (O.alloc z29 rfl) ?_
   refine .s rfl rfl (O.st ty29 rfl rfl rfl rfl rfl rfl rfl rfl rfl rfl (all' := [.s ((nth x0.l v14).ISIN), .i ((nth x0.l v14).Issuer), .i ((nth x0.l v14).Rating), .i ((nth x0.l v14).Maturity), .s ((nth x0.l v14).Currency)]) rfl) ?_
   refine .nil ?_
   refine W.seq ?_
   obtain ⟨t34, b35, h⟩ := bnd1 h
   refine W.pk ?_
   refine .v rfl rfl (O.ldN ty29 rfl rfl rfl) ?_
   refine .m rfl rfl rfl rfl ?_
   refine .call (.i t34) [] 0 (asset_Left.ok b35) rfl rfl rfl ca12 rfl rfl (cC (.agg _ _ _ _ (cC (.imm _) (cC (.imm _) (cC (.imm _) (cC (.imm _) (cC (.imm _) .nil)))))) (cC (.imm _) .nil)) rfl rfl rfl rfl rfl ?_
   refine .v rfl rfl (OpL.binI rfl rfl rfl rfl) ?_
   refine .nil ?_
   refine W.cond rfl (fun q36 => ?_) (fun q36 => ?_)
   ·have h := ifT q36 h
    obtain ⟨c37, h⟩ := chk h
    refine W.pk ?_
    refine .m rfl rfl rfl rfl ?_
    refine .v rfl rfl (O.fld fld29_0 rfl rfl rfl) ?_
    refine .v rfl rfl (O.ld (y := .s ((nth x0.l v14).ISIN)) ty9 rfl rfl rfl) ?_
    refine .t rfl rfl (O.lit (enc := encS) (l := [(nth x0.l v14).ISIN]) sl36 rfl rfl rfl rfl rfl rfl rfl rfl rfl) ?_
    refine .t rfl rfl (O.appO sl36 EncOk.str c37 rfl rfl rfl rfl rfl) ?_
    refine .a rfl rfl rfl rfl ?_
    refine .nil ?_
    refine W.pk ?_
    refine .v rfl rfl (OpL.binI rfl rfl rfl rfl) ?_
    refine .m rfl rfl rfl rfl ?_
    refine .nil ?_
    cases h
    exact rdN (Gives.mkR [(1002, 1005)] (.r rfl rfl (.r rfl rfl (.r rfl rfl (.r rfl rfl (.r rfl rfl .n))))) (.r rfl rfl rfl (.r rfl rfl rfl (.r rfl rfl rfl (.r rfl rfl rfl .n)))) rfl rfl rfl)
   ·have h := ifF q36 h
    refine W.skip ?_
    refine W.pk ?_
    refine .v rfl rfl (OpL.binI rfl rfl rfl rfl) ?_
    refine .m rfl rfl rfl rfl ?_
    refine .nil ?_
    cases h
    exact rdN (Gives.mkR [] (.r rfl rfl (.r rfl rfl (.r rfl rfl (.r rfl rfl (.r rfl rfl .n))))) (.r rfl rfl rfl (.r rfl rfl rfl (.r rfl rfl rfl (.r rfl rfl rfl .n)))) rfl rfl rfl)
  ·have h := ifF q32 h
   refine W.exit ?_
   cases h
   refine rdX fun e_ => ?_
   subst e_
   repeat with_reducible refine thru ?_
   refine hit ?_
   exact toN (Gives.mkR [] (.r rfl rfl .n) (.r rfl rfl rfl (.r rfl rfl rfl (.r rfl rfl rfl (.r rfl rfl rfl .n)))) rfl rfl rfl)
end Go.Proofs.Ytkcjlpiaaklnkaa
