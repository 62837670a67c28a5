/- Shows what functions of the program come to, each as a plain function: written by a program of the author's for this claim. -/
import Derived.Test.YtkcjlpiaaklnkaaGx12
namespace Go.Proofs.Ytkcjlpiaaklnkaa
open Go Go.Pm
set_option linter.unusedVariables false
set_option linter.unusedSimpArgs false
noncomputable def lombardref13_Total.b0 (x0 : List lombardref13_Known) (x1 : List api_Lot) (v9 : Int) (v10 : Int) : Option ((Int × Int) ⊕ ((Int × Int) ⊕ Int)) :=
  if (decide (v10 < (List.length x1 : Int))) = true then
    if (0 : Int) ≤ v10 ∧ v10 < (List.length x1 : Int) then
    (lombardref13_Value.f x0 (nth x1 v10)).bind fun t33 =>
    if (t33.2 != 0) = true then
      some (.inr (.inl (0, t33.2)))
    else
      (lombardref01_Plus.f v9 t33.1).bind fun t36 =>
      if (t36.2 != 0) = true then
        some (.inr (.inl (0, t36.2)))
      else
        some (.inl (t36.1, (IntKind.wrap .i64 (v10 + 1))))
    else none
  else
    some (.inr (.inr v9))
noncomputable def lombardref13_Total.r0 (x0 : List lombardref13_Known) (x1 : List api_Lot) (s : Int × Int) : Option ((Int × Int) ⊕ ((Int × Int) ⊕ Int)) := lombardref13_Total.b0 x0 x1 s.1 s.2
noncomputable def lombardref13_Total.f (x0 : List lombardref13_Known) (x1 : List api_Lot) : Option (Int × Int) :=
  (loop (lombardref13_Total.r0 x0 x1) (0, 0)).bind fun o28 =>
  match o28 with
  | .inl r39 => some r39
  | .inr w27 =>
    some (w27, 0)
set_option maxRecDepth 100000 in
set_option maxHeartbeats 4000000 in
theorem lombardref13_Total.ok {x0 : List lombardref13_Known} {x1 : List api_Lot} {r : Int × Int} (h : lombardref13_Total.f x0 x1 = some r) : Pm.Spec prog 25 [.xown 46 6 (List.map lombardref13_Known.enc x0), .imm (.row 2 (List.map api_Lot.enc x1))] (.tup [.imm (.val (.int .i64 r.1)), .imm (.val (.int .i64 r.2))]) [some (.xown 46 6 (List.map lombardref13_Known.enc x0)), none] := by
 unfold lombardref13_Total.f at h
 refine Pm.Spec.of_body Try.func25 rfl (by kernel_rfl) (Nat.le_of_ble_eq_true rfl) (Nat.le_of_ble_eq_true rfl) ?_
 refine W.ghost (σ' := (mkSt [(0, some (.own 0)), (1, some (.imm (.row 2 (List.map api_Lot.enc x1))))] [(0, some (.rows 46 6 (List.map lombardref13_Known.enc x0) false))] 1000)) (Gives.entry (.c rfl (.c rfl .n)) (.c rfl .n)) ?_
 refine W.seq ?_
 refine W.pk ?_
 refine .a rfl rfl rfl rfl ?_
 refine .a rfl rfl rfl rfl ?_
 refine .nil ?_
 refine W.seq ?_
 refine W.pk ?_
 refine .a rfl rfl rfl rfl ?_
 refine .nil ?_
 refine W.seq ?_
 refine W.seq ?_
 refine W.pk ?_
 refine .a rfl rfl rfl rfl ?_
 refine .nil ?_
 obtain ⟨o28, b29, z30⟩ := bnd1 h
 refine W.fork2 (out := o28) (fun (w27 : Int) => mkSt [(6, some (.i w27))] [(0, some (.rows 46 6 (List.map lombardref13_Known.enc x0) false))] 1000) ?_ ?_
 ·clear h
  refine W.block ?_
  refine W.loopF (fun (s_ : Int × Int) => mkSt [(0, some (.own 0)), (1, some (.imm (.row 2 (List.map api_Lot.enc x1)))), (6, some (.i s_.1)), (7, some (.i s_.2))] [(0, some (.rows 46 6 (List.map lombardref13_Known.enc x0) false))] 1000) b29 (Gives.mkR [] (.r rfl rfl (.r rfl rfl (.r rfl rfl (.r rfl rfl .n)))) (.r rfl rfl rfl .n) rfl rfl rfl) ?_
  rintro ⟨v9, v10⟩ s_ hr
  have h : lombardref13_Total.b0 x0 x1 v9 v10 = some s_ := hr
  unfold lombardref13_Total.b0 at h
  refine W.seq ?_
  refine W.seq ?_
  refine W.pk ?_
  refine .m rfl rfl rfl rfl ?_
  refine .m rfl rfl rfl rfl ?_
  refine .v rfl rfl (O.lenR sl56 rfl rfl) ?_
  refine .v rfl rfl (OpL.binI rfl rfl rfl rfl) ?_
  refine .nil ?_
  refine W.cond rfl (fun q31 => ?_) (fun q31 => ?_)
  ·have h := ifT q31 h
   refine W.skip ?_
   refine W.seq ?_
   refine W.block ?_
   refine W.seq ?_
   obtain ⟨c32, h⟩ := chk h
   obtain ⟨t33, b34, h⟩ := bnd1 h
   refine W.pk ?_
   refine .m rfl rfl rfl rfl ?_
   refine .m rfl rfl rfl rfl ?_
   refine .m rfl rfl rfl rfl ?_
   refine .v rfl rfl (O.idx sl56 c32 rfl rfl rfl) ?_
   refine .v rfl rfl (O.ldN ty63 rfl rfl rfl) ?_
   refine .call (.tup [.i t33.1, .i t33.2]) [(0, some (.rows 46 6 (List.map lombardref13_Known.enc x0) false)), (0, none)] 0 (lombardref13_Value.ok b34) rfl rfl rfl ca27 rfl rfl (cC (.own _ _ _ _ rfl) (cC (.agg _ _ _ _ (cC (.imm _) (cC (.imm _) .nil))) .nil)) rfl rfl rfl rfl rfl ?_
   refine .m rfl rfl rfl rfl ?_
   refine .v rfl rfl (OpL.extract rfl rfl rfl) ?_
   refine .v rfl rfl (OpL.extract rfl rfl rfl) ?_
   refine .a rfl rfl rfl rfl ?_
   refine .a rfl rfl rfl rfl ?_
   refine .nil ?_
   refine W.seq ?_
   refine W.seq ?_
   refine W.pk ?_
   refine .m rfl rfl rfl rfl ?_
   refine .v rfl rfl (OpL.binI rfl rfl rfl rfl) ?_
   refine .nil ?_
   refine W.cond rfl (fun q35 => ?_) (fun q35 => ?_)
   ·have h := ifT q35 h
    refine W.seq ?_
    refine W.pk ?_
    refine .m rfl rfl rfl rfl ?_
    refine .a rfl rfl rfl rfl ?_
    refine .a rfl rfl rfl rfl ?_
    refine .nil ?_
    refine W.ret ?_
    cases h
    refine rdR fun e_ => ?_
    subst e_
    have h := z30
    dsimp only at h
    refine fkR ?_
    cases h
    exact leaves (.inr rfl) rfl (.tup _ _ _ _ (cC (.imm _) (cC (.imm _) .nil))) (cS (.own _ _ _ _ rfl) (cN .nil)) rfl rfl
   ·have h := ifF q35 h
    refine W.skip ?_
    refine W.seq ?_
    obtain ⟨t36, b37, h⟩ := bnd1 h
    refine W.pk ?_
    refine .m rfl rfl rfl rfl ?_
    refine .m rfl rfl rfl rfl ?_
    refine .call (.tup [.i t36.1, .i t36.2]) [] 0 (lombardref01_Plus.ok b37) rfl rfl rfl ca39 rfl rfl (cC (.imm _) (cC (.imm _) .nil)) rfl rfl rfl rfl rfl ?_
    refine .m rfl rfl rfl rfl ?_
    refine .v rfl rfl (OpL.extract rfl rfl rfl) ?_
    refine .v rfl rfl (OpL.extract rfl rfl rfl) ?_
    refine .a rfl rfl rfl rfl ?_
    refine .a rfl rfl rfl rfl ?_
    refine .nil ?_
    refine W.seq ?_
    refine W.pk ?_
    refine .m rfl rfl rfl rfl ?_
    refine .v rfl rfl (OpL.binI rfl rfl rfl rfl) ?_
    refine .nil ?_
    refine W.cond rfl (fun q38 => ?_) (fun q38 => ?_)
    ·have h := ifT q38 h
     refine W.seq ?_
     refine W.pk ?_
     refine .m rfl rfl rfl rfl ?_
     refine .a rfl rfl rfl rfl ?_
     refine .a rfl rfl rfl rfl ?_
     refine .nil ?_
     refine W.ret ?_
     cases h
     refine rdR fun e_ => ?_
     subst e_
     have h := z30
     dsimp only at h
     refine fkR ?_
     cases h
     exact leaves (.inr rfl) rfl (.tup _ _ _ _ (cC (.imm _) (cC (.imm _) .nil))) (cS (.own _ _ _ _ rfl) (cN .nil)) rfl rfl
    ·have h := ifF q38 h
     refine W.skip ?_
     refine W.pk ?_
     refine .m rfl rfl rfl rfl ?_
     refine .v rfl rfl (OpL.binI rfl rfl rfl rfl) ?_
     refine .a rfl rfl rfl rfl ?_
     refine .nil ?_
     cases h
     exact rdN (Gives.mkR [] (.r rfl rfl (.r rfl rfl (.r rfl rfl (.r rfl rfl .n)))) (.r rfl rfl rfl .n) rfl rfl rfl)
  ·have h := ifF q31 h
   refine W.exit ?_
   cases h
   refine rdX fun e_ => ?_
   subst e_
   repeat with_reducible refine thru ?_
   refine hit ?_
   exact fkN (Gives.mkR [] (.r rfl rfl .n) (.r rfl rfl rfl .n) rfl rfl rfl)
 ·intro w27 e_
  subst e_
  clear h
  have h := z30
  dsimp only at h
  refine W.seq ?_
  refine W.pk ?_
  refine .m rfl rfl rfl rfl ?_
  refine .a rfl rfl rfl rfl ?_
  refine .a rfl rfl rfl rfl ?_
  refine .nil ?_
  refine W.ret ?_
  cases h
  exact leaves (.inr rfl) rfl (.tup _ _ _ _ (cC (.imm _) (cC (.imm _) .nil))) (cS (.own _ _ _ _ rfl) (cN .nil)) rfl rfl

noncomputable def lombardlaw13_AssetWorths.b0 (x1 : List api_Lot) (t1 : asset_Book × (List lombardref13_Known) × Bool) (v29 : Int) : Option (Int ⊕ (Bool ⊕ Unit)) :=
  if (decide (v29 < (List.length x1 : Int))) = true then
    if (0 : Int) ≤ v29 ∧ v29 < (List.length x1 : Int) then
    (asset_Book_Value.f t1.1 (nth x1 v29)).bind fun t54 =>
    if (0 : Int) ≤ v29 ∧ v29 < (List.length x1 : Int) then
    (lombardref13_Value.f t1.2.1 (nth x1 v29)).bind fun t57 =>
    if ((t54.1 != t57.1) || (t54.2 != t57.2)) = true then
      some (.inr (.inl false))
    else
      some (.inl (IntKind.wrap .i64 (v29 + 1)))
    else none
    else none
  else
    some (.inr (.inr ()))
noncomputable def lombardlaw13_AssetWorths.r0 (x1 : List api_Lot) (t1 : asset_Book × (List lombardref13_Known) × Bool) (s : Int) : Option (Int ⊕ (Bool ⊕ Unit)) := lombardlaw13_AssetWorths.b0 x1 t1 s
noncomputable def lombardlaw13_AssetWorths.f (x0 : List lombardlaw13_Act) (x1 : List api_Lot) (x2 : Int) (x3 : Int) : Option (Bool) :=
  (lombardlaw13_filled.f x0).bind fun t1 =>
  if ((!t1.2.2) || (decide ((List.length x1 : Int) > 100))) = true then
    (if t1.2.2 = true then lombardlaw13_awake.f else some default).bind fun t5 =>
    some (t1.2.2 && t5)
  else
    (asset_Worth.f x2 x3).bind fun t8 =>
    (lombardref13_Worth.f x2 x3).bind fun t10 =>
    (asset_Book_Total.f t1.1 x1).bind fun t12 =>
    (lombardref13_Total.f t1.2.1 x1).bind fun t14 =>
    if ((((t8.1 != t10.1) || (t8.2 != t10.2)) || (t12.1 != t14.1)) || (t12.2 != t14.2)) = true then
      some false
    else
      (loop (lombardlaw13_AssetWorths.r0 x1 t1) 0).bind fun o49 =>
      match o49 with
      | .inl r61 => some r61
      | .inr w48 =>
        (lombardlaw13_awake.f).bind fun t62 =>
        some t62
set_option maxRecDepth 100000 in
set_option maxHeartbeats 4000000 in
theorem lombardlaw13_AssetWorths.ok {x0 : List lombardlaw13_Act} {x1 : List api_Lot} {x2 : Int} {x3 : Int} {r : Bool} (h : lombardlaw13_AssetWorths.f x0 x1 x2 x3 = some r) : Pm.Spec prog 7 [.imm (.row 7 (List.map lombardlaw13_Act.enc x0)), .imm (.row 2 (List.map api_Lot.enc x1)), .imm (.val (.int .i64 x2)), .imm (.val (.int .i64 x3))] (.imm (.val (.bool r))) [none, none, none, none] := by
 unfold lombardlaw13_AssetWorths.f at h
 refine Pm.Spec.of_body Try.func7 rfl (by kernel_rfl) (Nat.le_of_ble_eq_true rfl) (Nat.le_of_ble_eq_true rfl) ?_
 refine W.ghost (σ' := (mkSt [(0, some (.imm (.row 7 (List.map lombardlaw13_Act.enc x0)))), (1, some (.imm (.row 2 (List.map api_Lot.enc x1)))), (2, some (.i x2)), (3, some (.i x3))] [] 1000)) (Gives.entry (.c rfl (.c rfl (.c rfl (.c rfl .n)))) .n) ?_
 refine W.seq ?_
 refine W.pk ?_
 refine .a rfl rfl rfl rfl ?_
 refine .nil ?_
 refine W.seq ?_
 obtain ⟨t1, b2, h⟩ := bnd1 h
 refine W.pk ?_
 refine .m rfl rfl rfl rfl ?_
 refine .call (.tup [.ptr 1000 0, .own 1003, .b t1.2.2]) [(1000, some (.box [.own 1001, .own 1002, .b t1.1.made])), (1001, some (.rows 29 5 (List.map api_Asset.enc t1.1.l) false)), (1002, some (.rows 3 1 (List.map (encI .i64) t1.1.prices) false)), (1003, some (.rows 46 6 (List.map lombardref13_Known.enc t1.2.1) false))] 4 (lombardlaw13_filled.ok b2) rfl rfl rfl ca11 rfl rfl (cC (.imm _) .nil) rfl rfl rfl rfl rfl ?_
 refine .m rfl rfl rfl rfl ?_
 refine .v rfl rfl (OpL.extract rfl rfl rfl) ?_
 refine .v rfl rfl (OpL.extract rfl rfl rfl) ?_
 refine .v rfl rfl (OpL.extract rfl rfl rfl) ?_
 refine .a rfl rfl rfl rfl ?_
 refine .a rfl rfl rfl rfl ?_
 refine .a rfl rfl rfl rfl ?_
 refine .nil ?_
 refine W.seq ?_
 refine W.seq ?_
 refine W.fork (mkSt [(1, some (.imm (.row 2 (List.map api_Lot.enc x1)))), (2, some (.i x2)), (3, some (.i x3)), (9, some (.ptr 1000 0)), (10, some (.own 1003)), (11, some (.b t1.2.2)), (37, some (.b ((!t1.2.2) || (decide ((List.length x1 : Int) > 100)))))] [(1000, some (.box [.own 1001, .own 1002, .b t1.1.made])), (1001, some (.rows 29 5 (List.map api_Asset.enc t1.1.l) false)), (1002, some (.rows 3 1 (List.map (encI .i64) t1.1.prices) false)), (1003, some (.rows 46 6 (List.map lombardref13_Known.enc t1.2.1) false))] 1004) ?_ ?_
 ·refine W.cond rfl (fun q4 => ?_) (fun q4 => ?_)
  ·have h := ifT q4 h
   refine W.seq ?_
   obtain ⟨t5, b6, h⟩ := bnd1 h
   refine W.fork (mkSt [(8, some (.b (t1.2.2 && t5)))] [] 1004) ?_ ?_
   ·refine W.ret ?_
    cases h
    exact leaves (.inr rfl) rfl (.imm _) (cN (cN (cN (cN .nil)))) rfl rfl
   ·clear h
    rcases tf t1.2.2 with g7 | g7
    ·refine W.pk ?_
     refine .m rfl rfl rfl rfl ?_
     refine .m rfl rfl rfl rfl ?_
     refine .call (.b t5) [] 0 (lombardlaw13_awake.ok ((if_pos (by simp only [g7, Bool.true_or, Bool.or_true, Bool.false_or, Bool.or_false, Bool.true_and, Bool.and_true, Bool.false_and, Bool.and_false, Bool.not_true, Bool.not_false, cond_true, cond_false])).symm.trans b6)) rfl (met rfl rfl rfl g7) rfl ca9 rfl rfl .nil rfl rfl rfl rfl rfl ?_
     refine .v rfl rfl (O.pickT g7 rfl rfl rfl) ?_
     refine .a rfl rfl rfl rfl ?_
     refine .nil ?_
     exact toN (Gives.mkR [] (.c rfl (sbb (by simp only [g7, Bool.true_or, Bool.or_true, Bool.false_or, Bool.or_false, Bool.true_and, Bool.and_true, Bool.false_and, Bool.and_false, Bool.not_true, Bool.not_false, cond_true, cond_false])) rfl .n) .n rfl rfl rfl)
    ·refine W.pk ?_
     refine .m rfl rfl rfl rfl ?_
     refine .m rfl rfl rfl rfl ?_
     refine .x rfl (unmet rfl rfl rfl g7) ?_
     refine .v rfl rfl (O.pickF g7 rfl rfl rfl) ?_
     refine .a rfl rfl rfl rfl ?_
     refine .nil ?_
     exact toN (Gives.mkR [] (.c rfl (sbb (by simp only [g7, Bool.true_or, Bool.or_true, Bool.false_or, Bool.or_false, Bool.true_and, Bool.and_true, Bool.false_and, Bool.and_false, Bool.not_true, Bool.not_false, cond_true, cond_false])) rfl .n) .n rfl rfl rfl)
  ·have h := ifF q4 h
   refine W.skip ?_
   refine W.seq ?_
   obtain ⟨t8, b9, h⟩ := bnd1 h
   refine W.pk ?_
   refine .m rfl rfl rfl rfl ?_
   refine .m rfl rfl rfl rfl ?_
   refine .call (.tup [.i t8.1, .i t8.2]) [] 0 (asset_Worth.ok b9) rfl rfl rfl ca10 rfl rfl (cC (.imm _) (cC (.imm _) .nil)) rfl rfl rfl rfl rfl ?_
   refine .m rfl rfl rfl rfl ?_
   refine .v rfl rfl (OpL.extract rfl rfl rfl) ?_
   refine .v rfl rfl (OpL.extract rfl rfl rfl) ?_
   refine .a rfl rfl rfl rfl ?_
   refine .a rfl rfl rfl rfl ?_
   refine .nil ?_
   refine W.seq ?_
   obtain ⟨t10, b11, h⟩ := bnd1 h
   refine W.pk ?_
   refine .m rfl rfl rfl rfl ?_
   refine .m rfl rfl rfl rfl ?_
   refine .call (.tup [.i t10.1, .i t10.2]) [] 0 (lombardref13_Worth.ok b11) rfl rfl rfl ca23 rfl rfl (cC (.imm _) (cC (.imm _) .nil)) rfl rfl rfl rfl rfl ?_
   refine .m rfl rfl rfl rfl ?_
   refine .v rfl rfl (OpL.extract rfl rfl rfl) ?_
   refine .v rfl rfl (OpL.extract rfl rfl rfl) ?_
   refine .a rfl rfl rfl rfl ?_
   refine .a rfl rfl rfl rfl ?_
   refine .nil ?_
   refine W.seq ?_
   obtain ⟨t12, b13, h⟩ := bnd1 h
   refine W.pk ?_
   refine .m rfl rfl rfl rfl ?_
   refine .m rfl rfl rfl rfl ?_
   refine .call (.tup [.i t12.1, .i t12.2]) [(1000, some (.box [.own 1004, .own 1005, .b t1.1.made])), (1004, some (.rows 29 5 (List.map api_Asset.enc t1.1.l) false)), (1005, some (.rows 3 1 (List.map (encI .i64) t1.1.prices) false)), (1000, none), (1001, none), (1002, none)] 2 (asset_Book_Total.ok b13) rfl rfl rfl ca24 rfl rfl (cC (.ptr _ _ _ _ _ rfl (cC (.own _ _ _ _ rfl) (cC (.own _ _ _ _ rfl) (cC (.imm _) .nil)))) (cC (.imm _) .nil)) rfl rfl rfl rfl rfl ?_
   refine .m rfl rfl rfl rfl ?_
   refine .v rfl rfl (OpL.extract rfl rfl rfl) ?_
   refine .v rfl rfl (OpL.extract rfl rfl rfl) ?_
   refine .a rfl rfl rfl rfl ?_
   refine .a rfl rfl rfl rfl ?_
   refine .nil ?_
   refine W.seq ?_
   obtain ⟨t14, b15, h⟩ := bnd1 h
   refine W.pk ?_
   refine .m rfl rfl rfl rfl ?_
   refine .m rfl rfl rfl rfl ?_
   refine .call (.tup [.i t14.1, .i t14.2]) [(1003, some (.rows 46 6 (List.map lombardref13_Known.enc t1.2.1) false)), (1003, none)] 0 (lombardref13_Total.ok b15) rfl rfl rfl ca25 rfl rfl (cC (.own _ _ _ _ rfl) (cC (.imm _) .nil)) rfl rfl rfl rfl rfl ?_
   refine .m rfl rfl rfl rfl ?_
   refine .v rfl rfl (OpL.extract rfl rfl rfl) ?_
   refine .v rfl rfl (OpL.extract rfl rfl rfl) ?_
   refine .a rfl rfl rfl rfl ?_
   refine .a rfl rfl rfl rfl ?_
   refine .nil ?_
   refine W.seq ?_
   refine W.seq ?_
   refine W.fork (mkSt [(1, some (.imm (.row 2 (List.map api_Lot.enc x1)))), (9, some (.ptr 1000 0)), (10, some (.own 1003)), (83, some (.b ((((t8.1 != t10.1) || (t8.2 != t10.2)) || (t12.1 != t14.1)) || (t12.2 != t14.2))))] [(1000, some (.box [.own 1004, .own 1005, .b t1.1.made])), (1003, some (.rows 46 6 (List.map lombardref13_Known.enc t1.2.1) false)), (1004, some (.rows 29 5 (List.map api_Asset.enc t1.1.l) false)), (1005, some (.rows 3 1 (List.map (encI .i64) t1.1.prices) false))] 1006) ?_ ?_
   ·refine W.cond rfl (fun q19 => ?_) (fun q19 => ?_)
    ·have h := ifT q19 h
     refine W.seq ?_
     refine W.pk ?_
     refine .a rfl rfl rfl rfl ?_
     refine .nil ?_
     refine W.ret ?_
     cases h
     exact leaves (.inr rfl) rfl (.imm _) (cN (cN (cN (cN .nil)))) rfl rfl
    ·have h := ifF q19 h
     refine W.skip ?_
     refine W.seq ?_
     refine W.seq ?_
     refine W.pk ?_
     refine .a rfl rfl rfl rfl ?_
     refine .nil ?_
     obtain ⟨o49, b50, z51⟩ := bnd1 h
     refine W.fork2 (out := o49) (fun (w48 : Unit) => mkSt [] [] 1006) ?_ ?_
     ·clear h
      refine W.block ?_
      refine W.loopF (fun (s_ : Int) => mkSt [(1, some (.imm (.row 2 (List.map api_Lot.enc x1)))), (9, some (.ptr 1000 0)), (10, some (.own 1003)), (20, some (.i s_))] [(1000, some (.box [.own 1004, .own 1005, .b t1.1.made])), (1003, some (.rows 46 6 (List.map lombardref13_Known.enc t1.2.1) false)), (1004, some (.rows 29 5 (List.map api_Asset.enc t1.1.l) false)), (1005, some (.rows 3 1 (List.map (encI .i64) t1.1.prices) false))] 1006) b50 (Gives.mkR [] (.r rfl rfl (.r rfl rfl (.r rfl rfl (.r rfl rfl .n)))) (.r rfl rfl rfl (.r rfl rfl rfl (.r rfl rfl rfl (.r rfl rfl rfl .n)))) rfl rfl rfl) ?_
      rintro v29 s_ hr
      have h : lombardlaw13_AssetWorths.b0 x1 t1 v29 = some s_ := hr
      unfold lombardlaw13_AssetWorths.b0 at h
      refine W.seq ?_
      refine W.seq ?_
      refine W.pk ?_
      refine .m rfl rfl rfl rfl ?_
      refine .m rfl rfl rfl rfl ?_
      refine .v rfl rfl (O.lenR sl56 rfl rfl) ?_
      refine .v rfl rfl (OpL.binI rfl rfl rfl rfl) ?_
      refine .nil ?_
      refine W.cond rfl (fun q52 => ?_) (fun q52 => ?_)
      ·have h := ifT q52 h
       refine W.skip ?_
       refine W.seq ?_
       refine W.block ?_
       refine W.seq ?_
       obtain ⟨c53, h⟩ := chk h
       obtain ⟨t54, b55, h⟩ := bnd1 h
       refine W.pk ?_
       refine .m rfl rfl rfl rfl ?_
       refine .m rfl rfl rfl rfl ?_
       refine .m rfl rfl rfl rfl ?_
       refine .v rfl rfl (O.idx sl56 c53 rfl rfl rfl) ?_
       refine .v rfl rfl (O.ldN ty63 rfl rfl rfl) ?_
       refine .call (.tup [.i t54.1, .i t54.2]) [(1000, some (.box [.own 1006, .own 1007, .b t1.1.made])), (1006, some (.rows 29 5 (List.map api_Asset.enc t1.1.l) false)), (1007, some (.rows 3 1 (List.map (encI .i64) t1.1.prices) false)), (1000, none), (1004, none), (1005, none)] 2 (asset_Book_Value.ok b55) rfl rfl rfl ca26 rfl rfl (cC (.ptr _ _ _ _ _ rfl (cC (.own _ _ _ _ rfl) (cC (.own _ _ _ _ rfl) (cC (.imm _) .nil)))) (cC (.agg _ _ _ _ (cC (.imm _) (cC (.imm _) .nil))) .nil)) rfl rfl rfl rfl rfl ?_
       refine .m rfl rfl rfl rfl ?_
       refine .v rfl rfl (OpL.extract rfl rfl rfl) ?_
       refine .v rfl rfl (OpL.extract rfl rfl rfl) ?_
       refine .a rfl rfl rfl rfl ?_
       refine .a rfl rfl rfl rfl ?_
       refine .nil ?_
       refine W.seq ?_
       obtain ⟨c56, h⟩ := chk h
       obtain ⟨t57, b58, h⟩ := bnd1 h
       refine W.pk ?_
       refine .m rfl rfl rfl rfl ?_
       refine .m rfl rfl rfl rfl ?_
       refine .m rfl rfl rfl rfl ?_
       refine .v rfl rfl (O.idx sl56 c56 rfl rfl rfl) ?_
       refine .v rfl rfl (O.ldN ty63 rfl rfl rfl) ?_
       refine .call (.tup [.i t57.1, .i t57.2]) [(1003, some (.rows 46 6 (List.map lombardref13_Known.enc t1.2.1) false)), (1003, none)] 0 (lombardref13_Value.ok b58) rfl rfl rfl ca27 rfl rfl (cC (.own _ _ _ _ rfl) (cC (.agg _ _ _ _ (cC (.imm _) (cC (.imm _) .nil))) .nil)) rfl rfl rfl rfl rfl ?_
       refine .m rfl rfl rfl rfl ?_
       refine .v rfl rfl (OpL.extract rfl rfl rfl) ?_
       refine .v rfl rfl (OpL.extract rfl rfl rfl) ?_
       refine .a rfl rfl rfl rfl ?_
       refine .a rfl rfl rfl rfl ?_
       refine .nil ?_
       refine W.seq ?_
       refine W.fork (mkSt [(1, some (.imm (.row 2 (List.map api_Lot.enc x1)))), (9, some (.ptr 1000 0)), (10, some (.own 1003)), (20, some (.i v29)), (115, some (.b ((t54.1 != t57.1) || (t54.2 != t57.2))))] [(1000, some (.box [.own 1006, .own 1007, .b t1.1.made])), (1003, some (.rows 46 6 (List.map lombardref13_Known.enc t1.2.1) false)), (1006, some (.rows 29 5 (List.map api_Asset.enc t1.1.l) false)), (1007, some (.rows 3 1 (List.map (encI .i64) t1.1.prices) false))] 1008) ?_ ?_
       ·refine W.cond rfl (fun q60 => ?_) (fun q60 => ?_)
        ·have h := ifT q60 h
         refine W.seq ?_
         refine W.pk ?_
         refine .a rfl rfl rfl rfl ?_
         refine .nil ?_
         refine W.ret ?_
         cases h
         refine rdR fun e_ => ?_
         subst e_
         have h := z51
         dsimp only at h
         refine fkR ?_
         cases h
         exact leaves (.inr rfl) rfl (.imm _) (cN (cN (cN (cN .nil)))) rfl rfl
        ·have h := ifF q60 h
         refine W.skip ?_
         refine W.pk ?_
         refine .m rfl rfl rfl rfl ?_
         refine .v rfl rfl (OpL.binI rfl rfl rfl rfl) ?_
         refine .a rfl rfl rfl rfl ?_
         refine .nil ?_
         cases h
         exact rdN (Gives.mkR [(1004, 1006), (1005, 1007)] (.r rfl rfl (.r rfl rfl (.r rfl rfl (.r rfl rfl .n)))) (.r rfl rfl rfl (.r rfl rfl rfl (.r rfl rfl rfl (.r rfl rfl rfl .n)))) rfl rfl rfl)
       ·clear h
        rcases tf (t54.1 != t57.1) with g59 | g59
        ·refine W.pk ?_
         refine .m rfl rfl rfl rfl ?_
         refine .m rfl rfl rfl rfl ?_
         refine .v rfl rfl (OpL.binI rfl rfl rfl rfl) ?_
         refine .m rfl rfl rfl rfl ?_
         refine .x rfl (unmet rfl rfl rfl g59) ?_
         refine .x rfl (unmet rfl rfl rfl g59) ?_
         refine .x rfl (unmet rfl rfl rfl g59) ?_
         refine .v rfl rfl (O.pickT g59 rfl rfl rfl) ?_
         refine .nil ?_
         exact toN (Gives.mkR [] (.r rfl rfl (.r rfl rfl (.r rfl rfl (.r rfl rfl (.c rfl (sbb (by simp only [g59, Bool.true_or, Bool.or_true, Bool.false_or, Bool.or_false, Bool.true_and, Bool.and_true, Bool.false_and, Bool.and_false, Bool.not_true, Bool.not_false, cond_true, cond_false])) rfl .n))))) (.r rfl rfl rfl (.r rfl rfl rfl (.r rfl rfl rfl (.r rfl rfl rfl .n)))) rfl rfl rfl)
        ·refine W.pk ?_
         refine .m rfl rfl rfl rfl ?_
         refine .m rfl rfl rfl rfl ?_
         refine .v rfl rfl (OpL.binI rfl rfl rfl rfl) ?_
         refine .m rfl rfl rfl rfl ?_
         refine .m rfl (met rfl rfl rfl g59) rfl rfl ?_
         refine .m rfl (met rfl rfl rfl g59) rfl rfl ?_
         refine .v rfl (met rfl rfl rfl g59) (OpL.binI rfl rfl rfl rfl) ?_
         refine .v rfl rfl (O.pickF g59 rfl rfl rfl) ?_
         refine .nil ?_
         exact toN (Gives.mkR [] (.r rfl rfl (.r rfl rfl (.r rfl rfl (.r rfl rfl (.c rfl (sbb (by simp only [g59, Bool.true_or, Bool.or_true, Bool.false_or, Bool.or_false, Bool.true_and, Bool.and_true, Bool.false_and, Bool.and_false, Bool.not_true, Bool.not_false, cond_true, cond_false])) rfl .n))))) (.r rfl rfl rfl (.r rfl rfl rfl (.r rfl rfl rfl (.r rfl rfl rfl .n)))) rfl rfl rfl)
      ·have h := ifF q52 h
       refine W.exit ?_
       cases h
       refine rdX fun e_ => ?_
       subst e_
       repeat with_reducible refine thru ?_
       refine hit ?_
       exact fkN (Gives.mkR [] .n .n rfl rfl rfl)
     ·intro w48 e_
      subst e_
      clear h
      have h := z51
      dsimp only at h
      refine W.seq ?_
      obtain ⟨t62, b63, h⟩ := bnd1 h
      refine W.pk ?_
      refine .call (.b t62) [] 0 (lombardlaw13_awake.ok b63) rfl rfl rfl ca9 rfl rfl .nil rfl rfl rfl rfl rfl ?_
      refine .a rfl rfl rfl rfl ?_
      refine .nil ?_
      refine W.ret ?_
      cases h
      exact leaves (.inr rfl) rfl (.imm _) (cN (cN (cN (cN .nil)))) rfl rfl
   ·clear h
    rcases tf (t8.1 != t10.1) with g16 | g16
    ·refine W.pk ?_
     refine .m rfl rfl rfl rfl ?_
     refine .m rfl rfl rfl rfl ?_
     refine .v rfl rfl (OpL.binI rfl rfl rfl rfl) ?_
     refine .m rfl rfl rfl rfl ?_
     refine .x rfl (unmet rfl rfl rfl g16) ?_
     refine .x rfl (unmet rfl rfl rfl g16) ?_
     refine .x rfl (unmet rfl rfl rfl g16) ?_
     refine .v rfl rfl (O.pickT g16 rfl rfl rfl) ?_
     refine .m rfl rfl rfl rfl ?_
     refine .x rfl (unmet rfl rfl rfl rfl) ?_
     refine .x rfl (unmet rfl rfl rfl rfl) ?_
     refine .x rfl (unmet rfl rfl rfl rfl) ?_
     refine .v rfl rfl (O.pickT rfl rfl rfl rfl) ?_
     refine .m rfl rfl rfl rfl ?_
     refine .x rfl (unmet rfl rfl rfl rfl) ?_
     refine .x rfl (unmet rfl rfl rfl rfl) ?_
     refine .x rfl (unmet rfl rfl rfl rfl) ?_
     refine .v rfl rfl (O.pickT rfl rfl rfl rfl) ?_
     refine .nil ?_
     exact toN (Gives.mkR [] (.r rfl rfl (.r rfl rfl (.r rfl rfl (.c rfl (sbb (by simp only [g16, Bool.true_or, Bool.or_true, Bool.false_or, Bool.or_false, Bool.true_and, Bool.and_true, Bool.false_and, Bool.and_false, Bool.not_true, Bool.not_false, cond_true, cond_false])) rfl .n)))) (.r rfl rfl rfl (.r rfl rfl rfl (.r rfl rfl rfl (.r rfl rfl rfl .n)))) rfl rfl rfl)
    ·rcases tf (t8.2 != t10.2) with g17 | g17
     ·refine W.pk ?_
      refine .m rfl rfl rfl rfl ?_
      refine .m rfl rfl rfl rfl ?_
      refine .v rfl rfl (OpL.binI rfl rfl rfl rfl) ?_
      refine .m rfl rfl rfl rfl ?_
      refine .m rfl (met rfl rfl rfl g16) rfl rfl ?_
      refine .m rfl (met rfl rfl rfl g16) rfl rfl ?_
      refine .v rfl (met rfl rfl rfl g16) (OpL.binI rfl rfl rfl rfl) ?_
      refine .v rfl rfl (O.pickF g16 rfl rfl rfl) ?_
      refine .m rfl rfl rfl rfl ?_
      refine .x rfl (unmet rfl rfl rfl g17) ?_
      refine .x rfl (unmet rfl rfl rfl g17) ?_
      refine .x rfl (unmet rfl rfl rfl g17) ?_
      refine .v rfl rfl (O.pickT g17 rfl rfl rfl) ?_
      refine .m rfl rfl rfl rfl ?_
      refine .x rfl (unmet rfl rfl rfl rfl) ?_
      refine .x rfl (unmet rfl rfl rfl rfl) ?_
      refine .x rfl (unmet rfl rfl rfl rfl) ?_
      refine .v rfl rfl (O.pickT rfl rfl rfl rfl) ?_
      refine .nil ?_
      exact toN (Gives.mkR [] (.r rfl rfl (.r rfl rfl (.r rfl rfl (.c rfl (sbb (by first | (simp only [g16, g17, Bool.true_or, Bool.or_true, Bool.false_or, Bool.or_false, Bool.true_and, Bool.and_true, Bool.false_and, Bool.and_false, Bool.not_true, Bool.not_false, cond_true, cond_false]; done) | (repeat (first | rw [g16] | rw [g17])) <;> simp only [Bool.true_or, Bool.or_true, Bool.false_or, Bool.or_false, Bool.true_and, Bool.and_true, Bool.false_and, Bool.and_false, Bool.not_true, Bool.not_false, cond_true, cond_false])) rfl .n)))) (.r rfl rfl rfl (.r rfl rfl rfl (.r rfl rfl rfl (.r rfl rfl rfl .n)))) rfl rfl rfl)
     ·rcases tf (t12.1 != t14.1) with g18 | g18
      ·refine W.pk ?_
       refine .m rfl rfl rfl rfl ?_
       refine .m rfl rfl rfl rfl ?_
       refine .v rfl rfl (OpL.binI rfl rfl rfl rfl) ?_
       refine .m rfl rfl rfl rfl ?_
       refine .m rfl (met rfl rfl rfl g16) rfl rfl ?_
       refine .m rfl (met rfl rfl rfl g16) rfl rfl ?_
       refine .v rfl (met rfl rfl rfl g16) (OpL.binI rfl rfl rfl rfl) ?_
       refine .v rfl rfl (O.pickF g16 rfl rfl rfl) ?_
       refine .m rfl rfl rfl rfl ?_
       refine .m rfl (met rfl rfl rfl g17) rfl rfl ?_
       refine .m rfl (met rfl rfl rfl g17) rfl rfl ?_
       refine .v rfl (met rfl rfl rfl g17) (OpL.binI rfl rfl rfl rfl) ?_
       refine .v rfl rfl (O.pickF g17 rfl rfl rfl) ?_
       refine .m rfl rfl rfl rfl ?_
       refine .x rfl (unmet rfl rfl rfl g18) ?_
       refine .x rfl (unmet rfl rfl rfl g18) ?_
       refine .x rfl (unmet rfl rfl rfl g18) ?_
       refine .v rfl rfl (O.pickT g18 rfl rfl rfl) ?_
       refine .nil ?_
       exact toN (Gives.mkR [] (.r rfl rfl (.r rfl rfl (.r rfl rfl (.c rfl (sbb (by first | (simp only [g16, g17, g18, Bool.true_or, Bool.or_true, Bool.false_or, Bool.or_false, Bool.true_and, Bool.and_true, Bool.false_and, Bool.and_false, Bool.not_true, Bool.not_false, cond_true, cond_false]; done) | (repeat (first | rw [g16] | rw [g17] | rw [g18])) <;> simp only [Bool.true_or, Bool.or_true, Bool.false_or, Bool.or_false, Bool.true_and, Bool.and_true, Bool.false_and, Bool.and_false, Bool.not_true, Bool.not_false, cond_true, cond_false])) rfl .n)))) (.r rfl rfl rfl (.r rfl rfl rfl (.r rfl rfl rfl (.r rfl rfl rfl .n)))) rfl rfl rfl)
      ·refine W.pk ?_
       refine .m rfl rfl rfl rfl ?_
       refine .m rfl rfl rfl rfl ?_
       refine .v rfl rfl (OpL.binI rfl rfl rfl rfl) ?_
       refine .m rfl rfl rfl rfl ?_
       refine .m rfl (met rfl rfl rfl g16) rfl rfl ?_
       refine .m rfl (met rfl rfl rfl g16) rfl rfl ?_
       refine .v rfl (met rfl rfl rfl g16) (OpL.binI rfl rfl rfl rfl) ?_
       refine .v rfl rfl (O.pickF g16 rfl rfl rfl) ?_
       refine .m rfl rfl rfl rfl ?_
       refine .m rfl (met rfl rfl rfl g17) rfl rfl ?_
       refine .m rfl (met rfl rfl rfl g17) rfl rfl ?_
       refine .v rfl (met rfl rfl rfl g17) (OpL.binI rfl rfl rfl rfl) ?_
       refine .v rfl rfl (O.pickF g17 rfl rfl rfl) ?_
       refine .m rfl rfl rfl rfl ?_
       refine .m rfl (met rfl rfl rfl g18) rfl rfl ?_
       refine .m rfl (met rfl rfl rfl g18) rfl rfl ?_
       refine .v rfl (met rfl rfl rfl g18) (OpL.binI rfl rfl rfl rfl) ?_
       refine .v rfl rfl (O.pickF g18 rfl rfl rfl) ?_
       refine .nil ?_
       exact toN (Gives.mkR [] (.r rfl rfl (.r rfl rfl (.r rfl rfl (.c rfl (sbb (by first | (simp only [g16, g17, g18, Bool.true_or, Bool.or_true, Bool.false_or, Bool.or_false, Bool.true_and, Bool.and_true, Bool.false_and, Bool.and_false, Bool.not_true, Bool.not_false, cond_true, cond_false]; done) | (repeat (first | rw [g16] | rw [g17] | rw [g18])) <;> simp only [Bool.true_or, Bool.or_true, Bool.false_or, Bool.or_false, Bool.true_and, Bool.and_true, Bool.false_and, Bool.and_false, Bool.not_true, Bool.not_false, cond_true, cond_false])) rfl .n)))) (.r rfl rfl rfl (.r rfl rfl rfl (.r rfl rfl rfl (.r rfl rfl rfl .n)))) rfl rfl rfl)
 ·clear h
  rcases tf t1.2.2 with g3 | g3
  ·refine W.pk ?_
   refine .m rfl rfl rfl rfl ?_
   refine .v rfl rfl (OpL.unV rfl rfl rfl) ?_
   refine .m rfl rfl rfl rfl ?_
   refine .m rfl (met rfl rfl rfl (notT g3)) rfl rfl ?_
   refine .v rfl (met rfl rfl rfl (notT g3)) (O.lenR sl56 rfl rfl) ?_
   refine .v rfl (met rfl rfl rfl (notT g3)) (OpL.binI rfl rfl rfl rfl) ?_
   refine .v rfl rfl (O.pickF (notT g3) rfl rfl rfl) ?_
   refine .nil ?_
   exact toN (Gives.mkR [] (.r rfl rfl (.r rfl rfl (.r rfl rfl (.r rfl rfl (.r rfl rfl (.r rfl rfl (.c rfl (sbb (by simp only [g3, Bool.true_or, Bool.or_true, Bool.false_or, Bool.or_false, Bool.true_and, Bool.and_true, Bool.false_and, Bool.and_false, Bool.not_true, Bool.not_false, cond_true, cond_false])) rfl .n))))))) (.r rfl rfl rfl (.r rfl rfl rfl (.r rfl rfl rfl (.r rfl rfl rfl .n)))) rfl rfl rfl)
  ·refine W.pk ?_
   refine .m rfl rfl rfl rfl ?_
   refine .v rfl rfl (OpL.unV rfl rfl rfl) ?_
   refine .m rfl rfl rfl rfl ?_
   refine .x rfl (unmet rfl rfl rfl (notF g3)) ?_
   refine .x rfl (unmet rfl rfl rfl (notF g3)) ?_
   refine .x rfl (unmet rfl rfl rfl (notF g3)) ?_
   refine .v rfl rfl (O.pickT (notF g3) rfl rfl rfl) ?_
   refine .nil ?_
   exact toN (Gives.mkR [] (.r rfl rfl (.r rfl rfl (.r rfl rfl (.r rfl rfl (.r rfl rfl (.r rfl rfl (.c rfl (sbb (by simp only [g3, Bool.true_or, Bool.or_true, Bool.false_or, Bool.or_false, Bool.true_and, Bool.and_true, Bool.false_and, Bool.and_false, Bool.not_true, Bool.not_false, cond_true, cond_false])) rfl .n))))))) (.r rfl rfl rfl (.r rfl rfl rfl (.r rfl rfl rfl (.r rfl rfl rfl .n)))) rfl rfl rfl)

noncomputable def slices_Clone_int.f (x0 : List Int) : Option (List Int) :=
  if (List.length x0) * 8 ≤ 140737488355328 then some x0 else none
set_option maxRecDepth 100000 in
theorem slices_Clone_int.ok {x0 r : List Int} (h : slices_Clone_int.f x0 = some r) : Pm.Spec prog 41 [.xown 3 1 (List.map (encI .i64) x0)] (.xown 3 1 (List.map (encI .i64) r)) [some (.xown 3 1 (List.map (encI .i64) x0))] := by
 obtain ⟨h1, rfl⟩ : (List.length x0) * 8 ≤ 140737488355328 ∧ x0 = r := by
   unfold slices_Clone_int.f at h
   split at h
   · rename_i h1; cases h; exact ⟨h1, rfl⟩
   · cases h
 refine Pm.Spec.of_body Try.func41 rfl (by kernel_rfl) (Nat.le_of_ble_eq_true rfl) (Nat.le_of_ble_eq_true rfl) ?_
 refine W.ghost (σ' := (mkSt [(0, some (.own 0))] [(0, some (.rows 3 1 (List.map (encI .i64) x0) false))] 1000)) (Gives.entry (.c rfl .n) (.c rfl .n)) ?_
 cases x0 with
 | cons x1 l1 =>
  refine W.seq ?_
  refine W.pk ?_
  refine .v rfl rfl (OpL.move (.inr rfl) rfl) ?_
  refine .nil ?_
  refine W.seq ?_
  refine W.seq ?_
  refine W.pk ?_
  refine .v rfl rfl (OpL.move (.inl rfl) rfl) ?_
  refine .v rfl rfl (O.eqOwn sl69 rfl rfl rfl rfl) ?_
  refine .nil ?_
  refine W.cond rfl (fun q => by cases q) (fun _ => ?_)
  refine W.skip ?_
  refine W.seq ?_
  refine W.pk ?_
  refine .t rfl rfl (O.lit (enc := (encI .i64)) (l := []) sl69 rfl rfl rfl rfl rfl rfl rfl rfl rfl) ?_
  refine .v rfl rfl (OpL.move (.inl rfl) rfl) ?_
  have h2 : (List.length ([] : List Int) + List.length (x1 :: l1 : List Int)) * 8 ≤ 140737488355328 := by simpa using h1
  refine .t rfl rfl (O.appO (l := []) sl69 (EncOk.int .i64) h2 rfl rfl rfl rfl rfl) ?_
  refine .v rfl rfl (OpL.move (.inr rfl) rfl) ?_
  refine .nil ?_
  refine W.ret ?_
  exact leaves (.inr rfl) rfl (.own _ _ _ _ rfl) (cS (.own _ _ _ _ rfl) .nil) rfl rfl
 | nil =>
  refine W.emptyO 0 rfl rfl fun A c => ?_
  cases A with
  | none =>
   refine W.seq ?_
   refine W.pk ?_
   refine .v rfl rfl (OpL.move (.inr rfl) rfl) ?_
   refine .nil ?_
   refine W.seq ?_
   refine W.seq ?_
   refine W.pk ?_
   refine .v rfl rfl (OpL.move (.inl rfl) rfl) ?_
   refine .v rfl rfl (O.eqSl sl69 rfl rfl rfl) ?_
   refine .nil ?_
   refine W.cond rfl (fun _ => ?_) (fun q => by cases q)
   refine W.seq ?_
   refine W.pk ?_
   refine .v rfl rfl (OpL.move (.inr rfl) rfl) ?_
   refine .nil ?_
   refine W.ret ?_
   exact leaves (.inr rfl) rfl (.nilown _ _) (cS (.own _ _ _ _ rfl) .nil) rfl rfl
  | some p =>
   refine W.seq ?_
   refine W.pk ?_
   refine .v rfl rfl (OpL.move (.inr rfl) rfl) ?_
   refine .nil ?_
   refine W.seq ?_
   refine W.seq ?_
   refine W.pk ?_
   refine .v rfl rfl (OpL.move (.inl rfl) rfl) ?_
   refine .v rfl rfl (O.eqSl sl69 rfl rfl rfl) ?_
   refine .nil ?_
   refine W.cond rfl (fun q => by cases q) (fun _ => ?_)
   refine W.skip ?_
   refine W.ghost (Gives.emptyS 0 1 rfl) ?_
   refine W.seq ?_
   refine W.pk ?_
   refine .t rfl rfl (O.lit (enc := (encI .i64)) (l := []) sl69 rfl rfl rfl rfl rfl rfl rfl rfl rfl) ?_
   refine .v rfl rfl (OpL.move (.inl rfl) rfl) ?_
   have h2 : (List.length ([] : List Int) + List.length ([] : List Int)) * 8 ≤ 140737488355328 := by simp
   refine .t rfl rfl (O.app (l := []) sl69 (EncOk.int .i64) h2 rfl rfl rfl rfl) ?_
   refine .v rfl rfl (OpL.move (.inr rfl) rfl) ?_
   refine .nil ?_
   refine W.ret ?_
   exact leaves (.inr rfl) rfl (.own _ _ _ _ rfl) (cS (.own _ _ _ _ rfl) .nil) rfl rfl

noncomputable def asset_Book_Clone.f (x0 : asset_Book) : Option (asset_Book) :=
  (slices_Clone_api_Asset.f x0.l).bind fun t1 =>
  (slices_Clone_int.f x0.prices).bind fun t3 =>
  some (⟨t1, t3, x0.made⟩ : asset_Book)
set_option maxRecDepth 100000 in
set_option maxHeartbeats 4000000 in
theorem asset_Book_Clone.ok {x0 : asset_Book} {r : asset_Book} (h : asset_Book_Clone.f x0 = some r) : Pm.Spec prog 28 [.xbox [.xown 29 5 (List.map api_Asset.enc x0.l), .xown 3 1 (List.map (encI .i64) x0.prices), .imm (.val (.bool x0.made))]] (.xbox [.xown 29 5 (List.map api_Asset.enc r.l), .xown 3 1 (List.map (encI .i64) r.prices), .imm (.val (.bool r.made))]) [some (.xbox [.xown 29 5 (List.map api_Asset.enc x0.l), .xown 3 1 (List.map (encI .i64) x0.prices), .imm (.val (.bool x0.made))])] := by
 unfold asset_Book_Clone.f at h
 refine Pm.Spec.of_body Try.func28 rfl (by kernel_rfl) (Nat.le_of_ble_eq_true rfl) (Nat.le_of_ble_eq_true rfl) ?_
 refine W.ghost (σ' := (mkSt [(0, some (.ptr 0 0))] [(0, some (.box [.own 1, .own 2, .b x0.made])), (1, some (.rows 29 5 (List.map api_Asset.enc x0.l) false)), (2, some (.rows 3 1 (List.map (encI .i64) x0.prices) false))] 1000)) (Gives.entry (.c rfl .n) (.c rfl (.c rfl (.c rfl .n)))) ?_
 refine W.ghost (σ' := (mkSt [(0, some (.ptr 0 0))] [(0, some (.box [.own 1000, .own 1001, .b x0.made])), (1000, some (.rows 29 5 (List.map api_Asset.enc x0.l) false)), (1001, some (.rows 3 1 (List.map (encI .i64) x0.prices) false))] 1002)) (Gives.mkR [(1000, 1), (1001, 2)] (.r rfl rfl .n) (.r rfl rfl rfl (.r rfl rfl rfl (.r rfl rfl rfl .n))) rfl rfl rfl) ?_
 refine W.seq ?_
 refine W.pk ?_
 refine .a rfl rfl rfl rfl ?_
 refine .nil ?_
 refine W.seq ?_
 refine W.seq ?_
 refine W.pk ?_
 refine .m rfl rfl rfl rfl ?_
 refine .v rfl rfl (OpL.eqP rfl u30 rfl rfl rfl) ?_
 refine .nil ?_
 refine W.cond rfl (fun q => by cases q) (fun _ => ?_)
 refine W.skip ?_
 refine W.seq ?_
 obtain ⟨t1, b2, h⟩ := bnd1 h
 obtain ⟨t3, b4, h⟩ := bnd1 h
 refine W.dk (unm 17 [0, 1, 3, 7, 15, 0, 32, 96, 224, 511, 0, 1024, 3072, 7168, 16383, 32767, 65535]) rfl (by kernel_rfl) ?_
 refine .m rfl rfl rfl rfl ?_
 refine .v rfl rfl (OpL.nilP rfl rfl rfl) ?_
 refine .v rfl rfl (O.fld fld71_0 rfl rfl rfl) ?_
 refine .v rfl rfl (O.ld (y := .own 1000) ty68 rfl rfl rfl) ?_
 refine .call (.own 1002) [(1002, some (.rows 29 5 (List.map api_Asset.enc t1) false)), (1000, some (.rows 29 5 (List.map api_Asset.enc x0.l) false)), (1000, none)] 1 (slices_Clone_api_Asset.ok b2) rfl rfl rfl ca40 rfl rfl (cC (.own _ _ _ _ rfl) .nil) rfl rfl rfl rfl rfl ?_
 refine .m rfl rfl rfl rfl ?_
 refine .v rfl rfl (OpL.nilP rfl rfl rfl) ?_
 refine .v rfl rfl (O.fld fld71_1 rfl rfl rfl) ?_
 refine .v rfl rfl (O.ld (y := .own 1001) ty69 rfl rfl rfl) ?_
 refine .call (.own 1003) [(1003, some (.rows 3 1 (List.map (encI .i64) t3) false)), (1001, some (.rows 3 1 (List.map (encI .i64) x0.prices) false)), (1001, none)] 1 (slices_Clone_int.ok b4) rfl rfl rfl ca41 rfl rfl (cC (.own _ _ _ _ rfl) .nil) rfl rfl rfl rfl rfl ?_
 refine .m rfl rfl rfl rfl ?_
 refine .v rfl rfl (OpL.nilP rfl rfl rfl) ?_
 refine .v rfl rfl (O.fld fld71_2 rfl rfl rfl) ?_
 refine .v rfl rfl (O.ld (y := .b x0.made) ty4 rfl rfl rfl) ?_
 refine .v rfl rfl (O.build (out := [.own 1002, .own 1003, .b x0.made]) bl71 rfl rfl rfl rfl (by kernel_rfl)) ?_
 refine .t rfl rfl (O.box rfl rfl rfl rfl rfl) ?_
 refine .a rfl rfl rfl rfl ?_
 refine .nil ?_
 refine ⟨by kernel_rfl, by kernel_rfl, ?_⟩
 refine W.ret ?_
 cases h
 exact leaves (.inr rfl) rfl (.ptr _ _ _ _ _ rfl (cC (.own _ _ _ _ rfl) (cC (.own _ _ _ _ rfl) (cC (.imm _) .nil)))) (cS (.ptr _ _ _ _ _ rfl (cC (.own _ _ _ _ rfl) (cC (.own _ _ _ _ rfl) (cC (.imm _) .nil)))) .nil) rfl rfl
end Go.Proofs.Ytkcjlpiaaklnkaa
