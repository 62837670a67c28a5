/- Shows what functions of the program come to, each as a plain function: written by a program of the author's for this claim. -/
import Derived.Test.YtkcjlpiaaklnkaaGx5
namespace Go.Proofs.Ytkcjlpiaaklnkaa
open Go Go.Pm
set_option linter.unusedVariables false
set_option linter.unusedSimpArgs false
noncomputable def lombardref13_Ending.b0 (x0 : List lombardref13_Known) (x1 : Int) (v16 : Int) (v17 : List Bs) : Option ((Int × (List Bs)) ⊕ (List Bs)) :=
  if (decide (v16 < (List.length x0 : Int))) = true then
    if (0 : Int) ≤ v16 ∧ v16 < (List.length x0 : Int) then
    (lombardref13_Left.f ((nth x0 v16).A) x1).bind fun t38 =>
    if (decide (t38 ≤ 0)) = true then
      if (0 : Int) ≤ v16 ∧ v16 < (List.length x0 : Int) then
      if (List.length v17 + List.length [((nth x0 v16).A).ISIN]) * 16 ≤ 140737488355328 then
      some (.inl ((IntKind.wrap .i64 (v16 + 1)), (v17 ++ [((nth x0 v16).A).ISIN])))
      else none
      else none
    else
      some (.inl ((IntKind.wrap .i64 (v16 + 1)), v17))
    else none
  else
    some (.inr v17)
noncomputable def lombardref13_Ending.r0 (x0 : List lombardref13_Known) (x1 : Int) (s : Int × (List Bs)) : Option ((Int × (List Bs)) ⊕ (List Bs)) := lombardref13_Ending.b0 x0 x1 s.1 s.2
noncomputable def lombardref13_Ending.f (x0 : List lombardref13_Known) (x1 : Int) : Option (List Bs) :=
  (loop (lombardref13_Ending.r0 x0 x1) (0, [])).bind fun o33 =>
  some o33
set_option maxRecDepth 100000 in
set_option maxHeartbeats 4000000 in
theorem lombardref13_Ending.ok {x0 : List lombardref13_Known} {x1 : Int} {r : List Bs} (h : lombardref13_Ending.f x0 x1 = some r) : Pm.Spec prog 16 [.xown 46 6 (List.map lombardref13_Known.enc x0), .imm (.val (.int .i64 x1))] (.xown 9 1 (List.map encS r)) [some (.xown 46 6 (List.map lombardref13_Known.enc x0)), none] := by
 unfold lombardref13_Ending.f at h
 refine Pm.Spec.of_body Try.func16 rfl (by kernel_rfl) (Nat.le_of_ble_eq_true rfl) (Nat.le_of_ble_eq_true rfl) ?_
 refine W.ghost (σ' := (mkSt [(0, some (.own 0)), (1, some (.i x1))] [(0, some (.rows 46 6 (List.map lombardref13_Known.enc x0) false))] 1000)) (Gives.entry (.c rfl (.c rfl .n)) (.c rfl .n)) ?_
 refine W.seq ?_
 refine W.pk ?_
 refine .a rfl rfl rfl rfl ?_
 refine .nil ?_
 refine W.seq ?_
 refine W.pk ?_
 refine .a rfl rfl rfl rfl ?_
 refine .nil ?_
 refine W.seq ?_
 refine W.seq ?_
 refine W.pk ?_
 refine .a rfl rfl rfl rfl ?_
 refine .nil ?_
 refine W.ghost (Gives.mintS 5 9 1 rfl) ?_
 obtain ⟨o33, b34, h⟩ := bnd1 h
 refine W.fork (mkSt [(5, some (.own 1000))] [(0, some (.rows 46 6 (List.map lombardref13_Known.enc x0) false)), (1000, some (.rows 9 1 (List.map encS o33) false))] 1001) ?_ ?_
 ·refine W.seq ?_
  refine W.pk ?_
  refine .m rfl rfl rfl rfl ?_
  refine .a rfl rfl rfl rfl ?_
  refine .nil ?_
  refine W.ret ?_
  cases h
  exact leaves (.inr rfl) rfl (.own _ _ _ _ rfl) (cS (.own _ _ _ _ rfl) (cN .nil)) rfl rfl
 ·clear h
  refine W.block ?_
  refine W.loopF (fun (s_ : Int × (List Bs)) => mkSt [(0, some (.own 0)), (1, some (.i x1)), (5, some (.own 1000)), (6, some (.i s_.1))] [(0, some (.rows 46 6 (List.map lombardref13_Known.enc x0) false)), (1000, some (.rows 9 1 (List.map encS s_.2) false))] 1001) b34 (Gives.mkR [] (.r rfl rfl (.r rfl rfl (.r rfl rfl (.r rfl rfl .n)))) (.r rfl rfl rfl (.r rfl rfl rfl .n)) rfl rfl rfl) ?_
  rintro ⟨v16, v17⟩ s_ hr
  have h : lombardref13_Ending.b0 x0 x1 v16 v17 = some s_ := hr
  unfold lombardref13_Ending.b0 at h
  refine W.seq ?_
  refine W.seq ?_
  refine W.pk ?_
  refine .m rfl rfl rfl rfl ?_
  refine .m rfl rfl rfl rfl ?_
  refine .v rfl rfl (O.lenO sl31 rfl rfl rfl) ?_
  refine .v rfl rfl (OpL.binI rfl rfl rfl rfl) ?_
  refine .nil ?_
  refine W.cond rfl (fun q36 => ?_) (fun q36 => ?_)
  ·have h := ifT q36 h
   refine W.skip ?_
   refine W.seq ?_
   refine W.block ?_
   refine W.seq ?_
   obtain ⟨c37, h⟩ := chk h
   obtain ⟨t38, b39, h⟩ := bnd1 h
   refine W.pk ?_
   refine .m rfl rfl rfl rfl ?_
   refine .m rfl rfl rfl rfl ?_
   refine .v rfl rfl (O.idxO sl31 c37 rfl rfl rfl rfl) ?_
   refine .v rfl rfl (O.fld fld46_0 rfl rfl rfl) ?_
   refine .v rfl rfl (O.ldEN ty29 c37 rfl rfl rfl rfl rfl) ?_
   refine .m rfl rfl rfl rfl ?_
   refine .call (.i t38) [] 0 (lombardref13_Left.ok b39) rfl rfl rfl ca13 rfl rfl (cC (.agg _ _ _ _ (cC (.imm _) (cC (.imm _) (cC (.imm _) (cC (.imm _) (cC (.imm _) .nil)))))) (cC (.imm _) .nil)) rfl rfl rfl rfl rfl ?_
   refine .v rfl rfl (OpL.binI rfl rfl rfl rfl) ?_
   refine .nil ?_
   refine W.cond rfl (fun q40 => ?_) (fun q40 => ?_)
   ·have h := ifT q40 h
    obtain ⟨c41, h⟩ := chk h
    obtain ⟨c42, h⟩ := chk h
    refine W.pk ?_
    refine .m rfl rfl rfl rfl ?_
    refine .m rfl rfl rfl rfl ?_
    refine .m rfl rfl rfl rfl ?_
    refine .v rfl rfl (O.idxO sl31 c41 rfl rfl rfl rfl) ?_
    refine .v rfl rfl (O.fld fld46_0 rfl rfl rfl) ?_
    refine .v rfl rfl (O.fld fld29_0 rfl rfl rfl) ?_
    refine .v rfl rfl (O.ldE (c := (.val (.string (tx (((nth x0 v16).A).ISIN))))) ty9 c41 rfl rfl rfl rfl rfl) ?_
    refine .t rfl rfl (O.lit (enc := encS) (l := [((nth x0 v16).A).ISIN]) sl36 rfl rfl rfl rfl rfl rfl rfl rfl rfl) ?_
    refine .t rfl rfl (O.appO sl36 EncOk.str c42 rfl rfl rfl rfl rfl) ?_
    refine .a rfl rfl rfl rfl ?_
    refine .nil ?_
    refine W.pk ?_
    refine .m rfl rfl rfl rfl ?_
    refine .v rfl rfl (OpL.binI rfl rfl rfl rfl) ?_
    refine .a rfl rfl rfl rfl ?_
    refine .nil ?_
    cases h
    exact rdN (Gives.mkR [(1000, 1002)] (.r rfl rfl (.r rfl rfl (.r rfl rfl (.r rfl rfl .n)))) (.r rfl rfl rfl (.r rfl rfl rfl .n)) rfl rfl rfl)
   ·have h := ifF q40 h
    refine W.skip ?_
    refine W.pk ?_
    refine .m rfl rfl rfl rfl ?_
    refine .v rfl rfl (OpL.binI rfl rfl rfl rfl) ?_
    refine .a rfl rfl rfl rfl ?_
    refine .nil ?_
    cases h
    exact rdN (Gives.mkR [] (.r rfl rfl (.r rfl rfl (.r rfl rfl (.r rfl rfl .n)))) (.r rfl rfl rfl (.r rfl rfl rfl .n)) rfl rfl rfl)
  ·have h := ifF q36 h
   refine W.exit ?_
   cases h
   refine rdX fun e_ => ?_
   subst e_
   repeat with_reducible refine thru ?_
   refine hit ?_
   exact toN (Gives.mkR [] (.r rfl rfl .n) (.r rfl rfl rfl (.r rfl rfl rfl .n)) rfl rfl rfl)

noncomputable def lombardref07_Texts.b0 (x0 : List Bs) (x1 : List Bs) (v6 : Int) : Option (Int ⊕ (Bool ⊕ Unit)) :=
  if (decide (v6 < (List.length x0 : Int))) = true then
    if (0 : Int) ≤ v6 ∧ v6 < (List.length x0 : Int) then
    if (0 : Int) ≤ v6 ∧ v6 < (List.length x1 : Int) then
    if (!((nth x0 v6) == (nth x1 v6))) = true then
      some (.inr (.inl false))
    else
      some (.inl (IntKind.wrap .i64 (v6 + 1)))
    else none
    else none
  else
    some (.inr (.inr ()))
noncomputable def lombardref07_Texts.r0 (x0 : List Bs) (x1 : List Bs) (s : Int) : Option (Int ⊕ (Bool ⊕ Unit)) := lombardref07_Texts.b0 x0 x1 s
noncomputable def lombardref07_Texts.f (x0 : List Bs) (x1 : List Bs) : Option (Bool) :=
  if ((List.length x0 : Int) != (List.length x1 : Int)) = true then
    some false
  else
    (loop (lombardref07_Texts.r0 x0 x1) 0).bind fun o16 =>
    match o16 with
    | .inl r23 => some r23
    | .inr w15 =>
      some true
set_option maxRecDepth 100000 in
set_option maxHeartbeats 4000000 in
theorem lombardref07_Texts.ok {x0 : List Bs} {x1 : List Bs} {r : Bool} (h : lombardref07_Texts.f x0 x1 = some r) : Pm.Spec prog 14 [.xown 9 1 (List.map encS x0), .xown 9 1 (List.map encS x1)] (.imm (.val (.bool r))) [some (.xown 9 1 (List.map encS x0)), some (.xown 9 1 (List.map encS x1))] := by
 unfold lombardref07_Texts.f at h
 refine Pm.Spec.of_body Try.func14 rfl (by kernel_rfl) (Nat.le_of_ble_eq_true rfl) (Nat.le_of_ble_eq_true rfl) ?_
 refine W.ghost (σ' := (mkSt [(0, some (.own 0)), (1, some (.own 1))] [(0, some (.rows 9 1 (List.map encS x0) false)), (1, some (.rows 9 1 (List.map encS x1) false))] 1000)) (Gives.entry (.c rfl (.c rfl .n)) (.c rfl (.c rfl .n))) ?_
 refine W.seq ?_
 refine W.pk ?_
 refine .a rfl rfl rfl rfl ?_
 refine .nil ?_
 refine W.seq ?_
 refine W.seq ?_
 refine W.pk ?_
 refine .m rfl rfl rfl rfl ?_
 refine .v rfl rfl (O.lenO sl36 rfl rfl rfl) ?_
 refine .m rfl rfl rfl rfl ?_
 refine .v rfl rfl (O.lenO sl36 rfl rfl rfl) ?_
 refine .v rfl rfl (OpL.binI rfl rfl rfl rfl) ?_
 refine .nil ?_
 refine W.cond rfl (fun q1 => ?_) (fun q1 => ?_)
 ·have h := ifT q1 h
  refine W.seq ?_
  refine W.pk ?_
  refine .a rfl rfl rfl rfl ?_
  refine .nil ?_
  refine W.ret ?_
  cases h
  exact leaves (.inr rfl) rfl (.imm _) (cS (.own _ _ _ _ rfl) (cS (.own _ _ _ _ rfl) .nil)) rfl rfl
 ·have h := ifF q1 h
  refine W.skip ?_
  refine W.seq ?_
  refine W.seq ?_
  refine W.pk ?_
  refine .a rfl rfl rfl rfl ?_
  refine .nil ?_
  obtain ⟨o16, b17, z18⟩ := bnd1 h
  refine W.fork2 (out := o16) (fun (w15 : Unit) => mkSt [] [(0, some (.rows 9 1 (List.map encS x0) false)), (1, some (.rows 9 1 (List.map encS x1) false))] 1000) ?_ ?_
  ·clear h
   refine W.block ?_
   refine W.loopF (fun (s_ : Int) => mkSt [(0, some (.own 0)), (1, some (.own 1)), (5, some (.i s_))] [(0, some (.rows 9 1 (List.map encS x0) false)), (1, some (.rows 9 1 (List.map encS x1) false))] 1000) b17 (Gives.mkR [] (.r rfl rfl (.r rfl rfl (.r rfl rfl .n))) (.r rfl rfl rfl (.r rfl rfl rfl .n)) rfl rfl rfl) ?_
   rintro v6 s_ hr
   have h : lombardref07_Texts.b0 x0 x1 v6 = some s_ := hr
   unfold lombardref07_Texts.b0 at h
   refine W.seq ?_
   refine W.seq ?_
   refine W.pk ?_
   refine .m rfl rfl rfl rfl ?_
   refine .m rfl rfl rfl rfl ?_
   refine .v rfl rfl (O.lenO sl36 rfl rfl rfl) ?_
   refine .v rfl rfl (OpL.binI rfl rfl rfl rfl) ?_
   refine .nil ?_
   refine W.cond rfl (fun q19 => ?_) (fun q19 => ?_)
   ·have h := ifT q19 h
    refine W.skip ?_
    refine W.seq ?_
    refine W.block ?_
    refine W.seq ?_
    obtain ⟨c20, h⟩ := chk h
    obtain ⟨c21, h⟩ := chk h
    refine W.dk (unm 9 [0, 0, 3, 7, 0, 0, 48, 112, 255]) rfl (by kernel_rfl) ?_
    refine .m rfl rfl rfl rfl ?_
    refine .m rfl rfl rfl rfl ?_
    refine .v rfl rfl (O.idxO sl36 c20 rfl rfl rfl rfl) ?_
    refine .v rfl rfl (O.ldE (c := (.val (.string (tx (nth x0 v6))))) ty9 c20 rfl rfl rfl rfl rfl) ?_
    refine .m rfl rfl rfl rfl ?_
    refine .m rfl rfl rfl rfl ?_
    refine .v rfl rfl (O.idxO sl36 c21 rfl rfl rfl rfl) ?_
    refine .v rfl rfl (O.ldE (c := (.val (.string (tx (nth x1 v6))))) ty9 c21 rfl rfl rfl rfl rfl) ?_
    refine .v rfl rfl (O.cmpS rfl rfl rfl rfl) ?_
    refine .nil ?_
    refine ⟨by kernel_rfl, by kernel_rfl, ?_⟩
    refine W.cond rfl (fun q22 => ?_) (fun q22 => ?_)
    ·have h := ifT q22 h
     refine W.seq ?_
     refine W.pk ?_
     refine .a rfl rfl rfl rfl ?_
     refine .nil ?_
     refine W.ret ?_
     cases h
     refine rdR fun e_ => ?_
     subst e_
     have h := z18
     dsimp only at h
     refine fkR ?_
     cases h
     exact leaves (.inr rfl) rfl (.imm _) (cS (.own _ _ _ _ rfl) (cS (.own _ _ _ _ rfl) .nil)) rfl rfl
    ·have h := ifF q22 h
     refine W.skip ?_
     refine W.pk ?_
     refine .m rfl rfl rfl rfl ?_
     refine .v rfl rfl (OpL.binI rfl rfl rfl rfl) ?_
     refine .a rfl rfl rfl rfl ?_
     refine .nil ?_
     cases h
     exact rdN (Gives.mkR [] (.r rfl rfl (.r rfl rfl (.r rfl rfl .n))) (.r rfl rfl rfl (.r rfl rfl rfl .n)) rfl rfl rfl)
   ·have h := ifF q19 h
    refine W.exit ?_
    cases h
    refine rdX fun e_ => ?_
    subst e_
    repeat with_reducible refine thru ?_
    refine hit ?_
    exact fkN (Gives.mkR [] .n (.r rfl rfl rfl (.r rfl rfl rfl .n)) rfl rfl rfl)
  ·intro w15 e_
   subst e_
   clear h
   have h := z18
   dsimp only at h
   refine W.seq ?_
   refine W.pk ?_
   refine .a rfl rfl rfl rfl ?_
   refine .nil ?_
   refine W.ret ?_
   cases h
   exact leaves (.inr rfl) rfl (.imm _) (cS (.own _ _ _ _ rfl) (cS (.own _ _ _ _ rfl) .nil)) rfl rfl

noncomputable def lombardlaw13_AssetEnds.f (x0 : List lombardlaw13_Act) (x1 : api_Asset) (x2 : Int) : Option (Bool) :=
  (lombardlaw13_filled.f x0).bind fun t1 =>
  if (((!t1.2.2) || (decide (x1.Maturity < 0))) || (decide (x1.Maturity > 200000))) = true then
    (if t1.2.2 = true then lombardlaw13_awake.f else some default).bind fun t6 =>
    some (t1.2.2 && t6)
  else
    (asset_Left.f x1 x2).bind fun t9 =>
    (lombardref13_Left.f x1 x2).bind fun t11 =>
    (if (t9 == t11) = true then asset_Book_Ending.f t1.1 x2 else some default).bind fun t13 =>
    (if (t9 == t11) = true then lombardref13_Ending.f t1.2.1 x2 else some default).bind fun t15 =>
    (if (t9 == t11) = true then lombardref07_Texts.f t13 t15 else some default).bind fun t17 =>
    (if ((t9 == t11) && t17) = true then lombardlaw13_awake.f else some default).bind fun t19 =>
    some (((t9 == t11) && t17) && t19)
set_option maxRecDepth 100000 in
set_option maxHeartbeats 4000000 in
theorem lombardlaw13_AssetEnds.ok {x0 : List lombardlaw13_Act} {x1 : api_Asset} {x2 : Int} {r : Bool} (h : lombardlaw13_AssetEnds.f x0 x1 x2 = some r) : Pm.Spec prog 4 [.imm (.row 7 (List.map lombardlaw13_Act.enc x0)), .agg [.imm (.val (.string (tx x1.ISIN))), .imm (.val (.int .i64 x1.Issuer)), .imm (.val (.int .i64 x1.Rating)), .imm (.val (.int .i64 x1.Maturity)), .imm (.val (.string (tx x1.Currency)))], .imm (.val (.int .i64 x2))] (.imm (.val (.bool r))) [none, none, none] := by
 unfold lombardlaw13_AssetEnds.f at h
 refine Pm.Spec.of_body Try.func4 rfl (by kernel_rfl) (Nat.le_of_ble_eq_true rfl) (Nat.le_of_ble_eq_true rfl) ?_
 refine W.ghost (σ' := (mkSt [(0, some (.imm (.row 7 (List.map lombardlaw13_Act.enc x0)))), (1, some (.agg (api_Asset.av x1))), (2, some (.i x2))] [] 1000)) (Gives.entry (.c rfl (.c rfl (.c rfl .n))) .n) ?_
 refine W.seq ?_
 refine W.pk ?_
 refine .t rfl rfl (O.box rfl rfl rfl rfl rfl) ?_
 refine .a rfl rfl rfl rfl ?_
 refine .nil ?_
 refine W.seq ?_
 obtain ⟨t1, b2, h⟩ := bnd1 h
 refine W.pk ?_
 refine .m rfl rfl rfl rfl ?_
 refine .call (.tup [.ptr 1001 0, .own 1004, .b t1.2.2]) [(1001, some (.box [.own 1002, .own 1003, .b t1.1.made])), (1002, some (.rows 29 5 (List.map api_Asset.enc t1.1.l) false)), (1003, some (.rows 3 1 (List.map (encI .i64) t1.1.prices) false)), (1004, some (.rows 46 6 (List.map lombardref13_Known.enc t1.2.1) false))] 4 (lombardlaw13_filled.ok b2) rfl rfl rfl ca11 rfl rfl (cC (.imm _) .nil) rfl rfl rfl rfl rfl ?_
 refine .m rfl rfl rfl rfl ?_
 refine .v rfl rfl (OpL.extract rfl rfl rfl) ?_
 refine .v rfl rfl (OpL.extract rfl rfl rfl) ?_
 refine .v rfl rfl (OpL.extract rfl rfl rfl) ?_
 refine .a rfl rfl rfl rfl ?_
 refine .a rfl rfl rfl rfl ?_
 refine .a rfl rfl rfl rfl ?_
 refine .nil ?_
 refine W.seq ?_
 refine W.seq ?_
 refine W.fork (mkSt [(2, some (.i x2)), (4, some (.ptr 1000 0)), (7, some (.ptr 1001 0)), (8, some (.own 1004)), (9, some (.b t1.2.2)), (27, some (.b (((!t1.2.2) || (decide (x1.Maturity < 0))) || (decide (x1.Maturity > 200000)))))] [(1000, some (.box [.s x1.ISIN, .i x1.Issuer, .i x1.Rating, .i x1.Maturity, .s x1.Currency])), (1001, some (.box [.own 1002, .own 1003, .b t1.1.made])), (1002, some (.rows 29 5 (List.map api_Asset.enc t1.1.l) false)), (1003, some (.rows 3 1 (List.map (encI .i64) t1.1.prices) false)), (1004, some (.rows 46 6 (List.map lombardref13_Known.enc t1.2.1) false))] 1005) ?_ ?_
 ·refine W.cond rfl (fun q5 => ?_) (fun q5 => ?_)
  ·have h := ifT q5 h
   refine W.seq ?_
   obtain ⟨t6, b7, h⟩ := bnd1 h
   refine W.fork (mkSt [(6, some (.b (t1.2.2 && t6)))] [] 1005) ?_ ?_
   ·refine W.ret ?_
    cases h
    exact leaves (.inr rfl) rfl (.imm _) (cN (cN (cN .nil))) rfl rfl
   ·clear h
    rcases tf t1.2.2 with g8 | g8
    ·refine W.pk ?_
     refine .m rfl rfl rfl rfl ?_
     refine .m rfl rfl rfl rfl ?_
     refine .call (.b t6) [] 0 (lombardlaw13_awake.ok ((if_pos (by simp only [g8, Bool.true_or, Bool.or_true, Bool.false_or, Bool.or_false, Bool.true_and, Bool.and_true, Bool.false_and, Bool.and_false, Bool.not_true, Bool.not_false, cond_true, cond_false])).symm.trans b7)) rfl (met rfl rfl rfl g8) rfl ca9 rfl rfl .nil rfl rfl rfl rfl rfl ?_
     refine .v rfl rfl (O.pickT g8 rfl rfl rfl) ?_
     refine .a rfl rfl rfl rfl ?_
     refine .nil ?_
     exact toN (Gives.mkR [] (.c rfl (sbb (by simp only [g8, Bool.true_or, Bool.or_true, Bool.false_or, Bool.or_false, Bool.true_and, Bool.and_true, Bool.false_and, Bool.and_false, Bool.not_true, Bool.not_false, cond_true, cond_false])) rfl .n) .n rfl rfl rfl)
    ·refine W.pk ?_
     refine .m rfl rfl rfl rfl ?_
     refine .m rfl rfl rfl rfl ?_
     refine .x rfl (unmet rfl rfl rfl g8) ?_
     refine .v rfl rfl (O.pickF g8 rfl rfl rfl) ?_
     refine .a rfl rfl rfl rfl ?_
     refine .nil ?_
     exact toN (Gives.mkR [] (.c rfl (sbb (by simp only [g8, Bool.true_or, Bool.or_true, Bool.false_or, Bool.or_false, Bool.true_and, Bool.and_true, Bool.false_and, Bool.and_false, Bool.not_true, Bool.not_false, cond_true, cond_false])) rfl .n) .n rfl rfl rfl)
  ·have h := ifF q5 h
   refine W.skip ?_
   refine W.seq ?_
   obtain ⟨t9, b10, h⟩ := bnd1 h
   obtain ⟨t11, b12, h⟩ := bnd1 h
   obtain ⟨t13, b14, h⟩ := bnd1 h
   obtain ⟨t15, b16, h⟩ := bnd1 h
   obtain ⟨t17, b18, h⟩ := bnd1 h
   obtain ⟨t19, b20, h⟩ := bnd1 h
   refine W.fork (mkSt [(6, some (.b (((t9 == t11) && t17) && t19)))] [] 1009) ?_ ?_
   ·refine W.ret ?_
    cases h
    exact leaves (.inr rfl) rfl (.imm _) (cN (cN (cN .nil))) rfl rfl
   ·clear h
    rcases tf (t9 == t11) with g21 | g21
    ·rcases tf t17 with g22 | g22
     ·refine W.dk (unm 20 [0, 0, 3, 0, 0, 31, 63, 127, 255, 255, 1023, 255, 255, 8191, 16383, 32767, 65535, 131071, 262143, 524287]) rfl (by kernel_rfl) ?_
      refine .v rfl rfl (O.ldN ty29 rfl rfl rfl) ?_
      refine .m rfl rfl rfl rfl ?_
      refine .call (.i t9) [] 0 (asset_Left.ok b10) rfl rfl rfl ca12 rfl rfl (cC (.agg _ _ _ _ (cC (.imm _) (cC (.imm _) (cC (.imm _) (cC (.imm _) (cC (.imm _) .nil)))))) (cC (.imm _) .nil)) rfl rfl rfl rfl rfl ?_
      refine .v rfl rfl (O.ldN ty29 rfl rfl rfl) ?_
      refine .m rfl rfl rfl rfl ?_
      refine .call (.i t11) [] 0 (lombardref13_Left.ok b12) rfl rfl rfl ca13 rfl rfl (cC (.agg _ _ _ _ (cC (.imm _) (cC (.imm _) (cC (.imm _) (cC (.imm _) (cC (.imm _) .nil)))))) (cC (.imm _) .nil)) rfl rfl rfl rfl rfl ?_
      refine .v rfl rfl (OpL.binI rfl rfl rfl rfl) ?_
      refine .m rfl rfl rfl rfl ?_
      refine .m rfl (met rfl rfl rfl g21) rfl rfl ?_
      refine .m rfl (met rfl rfl rfl g21) rfl rfl ?_
      refine .call (.own 1005) [(1005, some (.rows 9 1 (List.map encS t13) false)), (1001, some (.box [.own 1006, .own 1007, .b t1.1.made])), (1006, some (.rows 29 5 (List.map api_Asset.enc t1.1.l) false)), (1007, some (.rows 3 1 (List.map (encI .i64) t1.1.prices) false)), (1001, none), (1002, none), (1003, none)] 3 (asset_Book_Ending.ok ((if_pos (by first | (simp only [g21, g22, Bool.true_or, Bool.or_true, Bool.false_or, Bool.or_false, Bool.true_and, Bool.and_true, Bool.false_and, Bool.and_false, Bool.not_true, Bool.not_false, cond_true, cond_false]; done) | (repeat (first | rw [g21] | rw [g22])) <;> simp only [Bool.true_or, Bool.or_true, Bool.false_or, Bool.or_false, Bool.true_and, Bool.and_true, Bool.false_and, Bool.and_false, Bool.not_true, Bool.not_false, cond_true, cond_false])).symm.trans b14)) rfl (met rfl rfl rfl g21) rfl ca15 rfl rfl (cC (.ptr _ _ _ _ _ rfl (cC (.own _ _ _ _ rfl) (cC (.own _ _ _ _ rfl) (cC (.imm _) .nil)))) (cC (.imm _) .nil)) rfl rfl rfl rfl rfl ?_
      refine .m rfl (met rfl rfl rfl g21) rfl rfl ?_
      refine .m rfl (met rfl rfl rfl g21) rfl rfl ?_
      refine .call (.own 1008) [(1008, some (.rows 9 1 (List.map encS t15) false)), (1004, some (.rows 46 6 (List.map lombardref13_Known.enc t1.2.1) false)), (1004, none)] 1 (lombardref13_Ending.ok ((if_pos (by first | (simp only [g21, g22, Bool.true_or, Bool.or_true, Bool.false_or, Bool.or_false, Bool.true_and, Bool.and_true, Bool.false_and, Bool.and_false, Bool.not_true, Bool.not_false, cond_true, cond_false]; done) | (repeat (first | rw [g21] | rw [g22])) <;> simp only [Bool.true_or, Bool.or_true, Bool.false_or, Bool.or_false, Bool.true_and, Bool.and_true, Bool.false_and, Bool.and_false, Bool.not_true, Bool.not_false, cond_true, cond_false])).symm.trans b16)) rfl (met rfl rfl rfl g21) rfl ca16 rfl rfl (cC (.own _ _ _ _ rfl) (cC (.imm _) .nil)) rfl rfl rfl rfl rfl ?_
      refine .call (.b t17) [(1005, some (.rows 9 1 (List.map encS t13) false)), (1008, some (.rows 9 1 (List.map encS t15) false)), (1005, none), (1008, none)] 0 (lombardref07_Texts.ok ((if_pos (by first | (simp only [g21, g22, Bool.true_or, Bool.or_true, Bool.false_or, Bool.or_false, Bool.true_and, Bool.and_true, Bool.false_and, Bool.and_false, Bool.not_true, Bool.not_false, cond_true, cond_false]; done) | (repeat (first | rw [g21] | rw [g22])) <;> simp only [Bool.true_or, Bool.or_true, Bool.false_or, Bool.or_false, Bool.true_and, Bool.and_true, Bool.false_and, Bool.and_false, Bool.not_true, Bool.not_false, cond_true, cond_false])).symm.trans b18)) rfl (met rfl rfl rfl g21) rfl ca14 rfl rfl (cC (.own _ _ _ _ rfl) (cC (.own _ _ _ _ rfl) .nil)) rfl rfl rfl rfl rfl ?_
      refine .v rfl rfl (O.pickT g21 rfl rfl rfl) ?_
      refine .m rfl rfl rfl rfl ?_
      refine .call (.b t19) [] 0 (lombardlaw13_awake.ok ((if_pos (by first | (simp only [g21, g22, Bool.true_or, Bool.or_true, Bool.false_or, Bool.or_false, Bool.true_and, Bool.and_true, Bool.false_and, Bool.and_false, Bool.not_true, Bool.not_false, cond_true, cond_false]; done) | (repeat (first | rw [g21] | rw [g22])) <;> simp only [Bool.true_or, Bool.or_true, Bool.false_or, Bool.or_false, Bool.true_and, Bool.and_true, Bool.false_and, Bool.and_false, Bool.not_true, Bool.not_false, cond_true, cond_false])).symm.trans b20)) rfl (met rfl rfl rfl g22) rfl ca9 rfl rfl .nil rfl rfl rfl rfl rfl ?_
      refine .v rfl rfl (O.pickT g22 rfl rfl rfl) ?_
      refine .a rfl rfl rfl rfl ?_
      refine .nil ?_
      refine ⟨by kernel_rfl, by kernel_rfl, ?_⟩
      exact toN (Gives.mkR [] (.c rfl (sbb (by first | (simp only [g21, g22, Bool.true_or, Bool.or_true, Bool.false_or, Bool.or_false, Bool.true_and, Bool.and_true, Bool.false_and, Bool.and_false, Bool.not_true, Bool.not_false, cond_true, cond_false]; done) | (repeat (first | rw [g21] | rw [g22])) <;> simp only [Bool.true_or, Bool.or_true, Bool.false_or, Bool.or_false, Bool.true_and, Bool.and_true, Bool.false_and, Bool.and_false, Bool.not_true, Bool.not_false, cond_true, cond_false])) rfl .n) .n rfl rfl rfl)
     ·refine W.dk (unm 20 [0, 0, 3, 0, 0, 31, 63, 127, 255, 255, 1023, 255, 255, 8191, 16383, 32767, 65535, 131071, 262143, 524287]) rfl (by kernel_rfl) ?_
      refine .v rfl rfl (O.ldN ty29 rfl rfl rfl) ?_
      refine .m rfl rfl rfl rfl ?_
      refine .call (.i t9) [] 0 (asset_Left.ok b10) rfl rfl rfl ca12 rfl rfl (cC (.agg _ _ _ _ (cC (.imm _) (cC (.imm _) (cC (.imm _) (cC (.imm _) (cC (.imm _) .nil)))))) (cC (.imm _) .nil)) rfl rfl rfl rfl rfl ?_
      refine .v rfl rfl (O.ldN ty29 rfl rfl rfl) ?_
      refine .m rfl rfl rfl rfl ?_
      refine .call (.i t11) [] 0 (lombardref13_Left.ok b12) rfl rfl rfl ca13 rfl rfl (cC (.agg _ _ _ _ (cC (.imm _) (cC (.imm _) (cC (.imm _) (cC (.imm _) (cC (.imm _) .nil)))))) (cC (.imm _) .nil)) rfl rfl rfl rfl rfl ?_
      refine .v rfl rfl (OpL.binI rfl rfl rfl rfl) ?_
      refine .m rfl rfl rfl rfl ?_
      refine .m rfl (met rfl rfl rfl g21) rfl rfl ?_
      refine .m rfl (met rfl rfl rfl g21) rfl rfl ?_
      refine .call (.own 1005) [(1005, some (.rows 9 1 (List.map encS t13) false)), (1001, some (.box [.own 1006, .own 1007, .b t1.1.made])), (1006, some (.rows 29 5 (List.map api_Asset.enc t1.1.l) false)), (1007, some (.rows 3 1 (List.map (encI .i64) t1.1.prices) false)), (1001, none), (1002, none), (1003, none)] 3 (asset_Book_Ending.ok ((if_pos (by first | (simp only [g21, g22, Bool.true_or, Bool.or_true, Bool.false_or, Bool.or_false, Bool.true_and, Bool.and_true, Bool.false_and, Bool.and_false, Bool.not_true, Bool.not_false, cond_true, cond_false]; done) | (repeat (first | rw [g21] | rw [g22])) <;> simp only [Bool.true_or, Bool.or_true, Bool.false_or, Bool.or_false, Bool.true_and, Bool.and_true, Bool.false_and, Bool.and_false, Bool.not_true, Bool.not_false, cond_true, cond_false])).symm.trans b14)) rfl (met rfl rfl rfl g21) rfl ca15 rfl rfl (cC (.ptr _ _ _ _ _ rfl (cC (.own _ _ _ _ rfl) (cC (.own _ _ _ _ rfl) (cC (.imm _) .nil)))) (cC (.imm _) .nil)) rfl rfl rfl rfl rfl ?_
      refine .m rfl (met rfl rfl rfl g21) rfl rfl ?_
      refine .m rfl (met rfl rfl rfl g21) rfl rfl ?_
      refine .call (.own 1008) [(1008, some (.rows 9 1 (List.map encS t15) false)), (1004, some (.rows 46 6 (List.map lombardref13_Known.enc t1.2.1) false)), (1004, none)] 1 (lombardref13_Ending.ok ((if_pos (by first | (simp only [g21, g22, Bool.true_or, Bool.or_true, Bool.false_or, Bool.or_false, Bool.true_and, Bool.and_true, Bool.false_and, Bool.and_false, Bool.not_true, Bool.not_false, cond_true, cond_false]; done) | (repeat (first | rw [g21] | rw [g22])) <;> simp only [Bool.true_or, Bool.or_true, Bool.false_or, Bool.or_false, Bool.true_and, Bool.and_true, Bool.false_and, Bool.and_false, Bool.not_true, Bool.not_false, cond_true, cond_false])).symm.trans b16)) rfl (met rfl rfl rfl g21) rfl ca16 rfl rfl (cC (.own _ _ _ _ rfl) (cC (.imm _) .nil)) rfl rfl rfl rfl rfl ?_
      refine .call (.b t17) [(1005, some (.rows 9 1 (List.map encS t13) false)), (1008, some (.rows 9 1 (List.map encS t15) false)), (1005, none), (1008, none)] 0 (lombardref07_Texts.ok ((if_pos (by first | (simp only [g21, g22, Bool.true_or, Bool.or_true, Bool.false_or, Bool.or_false, Bool.true_and, Bool.and_true, Bool.false_and, Bool.and_false, Bool.not_true, Bool.not_false, cond_true, cond_false]; done) | (repeat (first | rw [g21] | rw [g22])) <;> simp only [Bool.true_or, Bool.or_true, Bool.false_or, Bool.or_false, Bool.true_and, Bool.and_true, Bool.false_and, Bool.and_false, Bool.not_true, Bool.not_false, cond_true, cond_false])).symm.trans b18)) rfl (met rfl rfl rfl g21) rfl ca14 rfl rfl (cC (.own _ _ _ _ rfl) (cC (.own _ _ _ _ rfl) .nil)) rfl rfl rfl rfl rfl ?_
      refine .v rfl rfl (O.pickT g21 rfl rfl rfl) ?_
      refine .m rfl rfl rfl rfl ?_
      refine .x rfl (unmet rfl rfl rfl g22) ?_
      refine .v rfl rfl (O.pickF g22 rfl rfl rfl) ?_
      refine .a rfl rfl rfl rfl ?_
      refine .nil ?_
      refine ⟨by kernel_rfl, by kernel_rfl, ?_⟩
      exact toN (Gives.mkR [] (.c rfl (sbb (by first | (simp only [g21, g22, Bool.true_or, Bool.or_true, Bool.false_or, Bool.or_false, Bool.true_and, Bool.and_true, Bool.false_and, Bool.and_false, Bool.not_true, Bool.not_false, cond_true, cond_false]; done) | (repeat (first | rw [g21] | rw [g22])) <;> simp only [Bool.true_or, Bool.or_true, Bool.false_or, Bool.or_false, Bool.true_and, Bool.and_true, Bool.false_and, Bool.and_false, Bool.not_true, Bool.not_false, cond_true, cond_false])) rfl .n) .n rfl rfl rfl)
    ·refine W.dk (unm 20 [0, 0, 3, 0, 0, 31, 63, 127, 255, 255, 1023, 255, 255, 8191, 16383, 32767, 65535, 131071, 262143, 524287]) rfl (by kernel_rfl) ?_
     refine .v rfl rfl (O.ldN ty29 rfl rfl rfl) ?_
     refine .m rfl rfl rfl rfl ?_
     refine .call (.i t9) [] 0 (asset_Left.ok b10) rfl rfl rfl ca12 rfl rfl (cC (.agg _ _ _ _ (cC (.imm _) (cC (.imm _) (cC (.imm _) (cC (.imm _) (cC (.imm _) .nil)))))) (cC (.imm _) .nil)) rfl rfl rfl rfl rfl ?_
     refine .v rfl rfl (O.ldN ty29 rfl rfl rfl) ?_
     refine .m rfl rfl rfl rfl ?_
     refine .call (.i t11) [] 0 (lombardref13_Left.ok b12) rfl rfl rfl ca13 rfl rfl (cC (.agg _ _ _ _ (cC (.imm _) (cC (.imm _) (cC (.imm _) (cC (.imm _) (cC (.imm _) .nil)))))) (cC (.imm _) .nil)) rfl rfl rfl rfl rfl ?_
     refine .v rfl rfl (OpL.binI rfl rfl rfl rfl) ?_
     refine .m rfl rfl rfl rfl ?_
     refine .x rfl (unmet rfl rfl rfl g21) ?_
     refine .x rfl (unmet rfl rfl rfl g21) ?_
     refine .x rfl (unmet rfl rfl rfl g21) ?_
     refine .x rfl (unmet rfl rfl rfl g21) ?_
     refine .x rfl (unmet rfl rfl rfl g21) ?_
     refine .x rfl (unmet rfl rfl rfl g21) ?_
     refine .x rfl (unmet rfl rfl rfl g21) ?_
     refine .v rfl rfl (O.pickF g21 rfl rfl rfl) ?_
     refine .m rfl rfl rfl rfl ?_
     refine .x rfl (unmet rfl rfl rfl rfl) ?_
     refine .v rfl rfl (O.pickF rfl rfl rfl rfl) ?_
     refine .a rfl rfl rfl rfl ?_
     refine .nil ?_
     refine ⟨by kernel_rfl, by kernel_rfl, ?_⟩
     exact toN (Gives.mkR [] (.c rfl (sbb (by simp only [g21, Bool.true_or, Bool.or_true, Bool.false_or, Bool.or_false, Bool.true_and, Bool.and_true, Bool.false_and, Bool.and_false, Bool.not_true, Bool.not_false, cond_true, cond_false])) rfl .n) .n rfl rfl rfl)
 ·clear h
  rcases tf t1.2.2 with g3 | g3
  ·rcases tf (decide (x1.Maturity < 0)) with g4 | g4
   ·refine W.pk ?_
    refine .m rfl rfl rfl rfl ?_
    refine .v rfl rfl (OpL.unV rfl rfl rfl) ?_
    refine .m rfl rfl rfl rfl ?_
    refine .v rfl (met rfl rfl rfl (notT g3)) (O.fld fld29_3 rfl rfl rfl) ?_
    refine .v rfl (met rfl rfl rfl (notT g3)) (O.ld (y := .i x1.Maturity) ty3 rfl rfl rfl) ?_
    refine .v rfl (met rfl rfl rfl (notT g3)) (OpL.binI rfl rfl rfl rfl) ?_
    refine .v rfl rfl (O.pickF (notT g3) rfl rfl rfl) ?_
    refine .m rfl rfl rfl rfl ?_
    refine .x rfl (unmet rfl rfl rfl g4) ?_
    refine .x rfl (unmet rfl rfl rfl g4) ?_
    refine .x rfl (unmet rfl rfl rfl g4) ?_
    refine .v rfl rfl (O.pickT g4 rfl rfl rfl) ?_
    refine .nil ?_
    exact toN (Gives.mkR [] (.r rfl rfl (.r rfl rfl (.r rfl rfl (.r rfl rfl (.r rfl rfl (.c rfl (sbb (by first | (simp only [g3, g4, Bool.true_or, Bool.or_true, Bool.false_or, Bool.or_false, Bool.true_and, Bool.and_true, Bool.false_and, Bool.and_false, Bool.not_true, Bool.not_false, cond_true, cond_false]; done) | (repeat (first | rw [g3] | rw [g4])) <;> simp only [Bool.true_or, Bool.or_true, Bool.false_or, Bool.or_false, Bool.true_and, Bool.and_true, Bool.false_and, Bool.and_false, Bool.not_true, Bool.not_false, cond_true, cond_false])) rfl .n)))))) (.r rfl rfl rfl (.r rfl rfl rfl (.r rfl rfl rfl (.r rfl rfl rfl (.r rfl rfl rfl .n))))) rfl rfl rfl)
   ·refine W.pk ?_
    refine .m rfl rfl rfl rfl ?_
    refine .v rfl rfl (OpL.unV rfl rfl rfl) ?_
    refine .m rfl rfl rfl rfl ?_
    refine .v rfl (met rfl rfl rfl (notT g3)) (O.fld fld29_3 rfl rfl rfl) ?_
    refine .v rfl (met rfl rfl rfl (notT g3)) (O.ld (y := .i x1.Maturity) ty3 rfl rfl rfl) ?_
    refine .v rfl (met rfl rfl rfl (notT g3)) (OpL.binI rfl rfl rfl rfl) ?_
    refine .v rfl rfl (O.pickF (notT g3) rfl rfl rfl) ?_
    refine .m rfl rfl rfl rfl ?_
    refine .v rfl (met rfl rfl rfl g4) (O.fld fld29_3 rfl rfl rfl) ?_
    refine .v rfl (met rfl rfl rfl g4) (O.ld (y := .i x1.Maturity) ty3 rfl rfl rfl) ?_
    refine .v rfl (met rfl rfl rfl g4) (OpL.binI rfl rfl rfl rfl) ?_
    refine .v rfl rfl (O.pickF g4 rfl rfl rfl) ?_
    refine .nil ?_
    exact toN (Gives.mkR [] (.r rfl rfl (.r rfl rfl (.r rfl rfl (.r rfl rfl (.r rfl rfl (.c rfl (sbb (by first | (simp only [g3, g4, Bool.true_or, Bool.or_true, Bool.false_or, Bool.or_false, Bool.true_and, Bool.and_true, Bool.false_and, Bool.and_false, Bool.not_true, Bool.not_false, cond_true, cond_false]; done) | (repeat (first | rw [g3] | rw [g4])) <;> simp only [Bool.true_or, Bool.or_true, Bool.false_or, Bool.or_false, Bool.true_and, Bool.and_true, Bool.false_and, Bool.and_false, Bool.not_true, Bool.not_false, cond_true, cond_false])) rfl .n)))))) (.r rfl rfl rfl (.r rfl rfl rfl (.r rfl rfl rfl (.r rfl rfl rfl (.r rfl rfl rfl .n))))) rfl rfl rfl)
  ·refine W.pk ?_
   refine .m rfl rfl rfl rfl ?_
   refine .v rfl rfl (OpL.unV rfl rfl rfl) ?_
   refine .m rfl rfl rfl rfl ?_
   refine .x rfl (unmet rfl rfl rfl (notF g3)) ?_
   refine .x rfl (unmet rfl rfl rfl (notF g3)) ?_
   refine .x rfl (unmet rfl rfl rfl (notF g3)) ?_
   refine .v rfl rfl (O.pickT (notF g3) rfl rfl rfl) ?_
   refine .m rfl rfl rfl rfl ?_
   refine .x rfl (unmet rfl rfl rfl rfl) ?_
   refine .x rfl (unmet rfl rfl rfl rfl) ?_
   refine .x rfl (unmet rfl rfl rfl rfl) ?_
   refine .v rfl rfl (O.pickT rfl rfl rfl rfl) ?_
   refine .nil ?_
   exact toN (Gives.mkR [] (.r rfl rfl (.r rfl rfl (.r rfl rfl (.r rfl rfl (.r rfl rfl (.c rfl (sbb (by simp only [g3, Bool.true_or, Bool.or_true, Bool.false_or, Bool.or_false, Bool.true_and, Bool.and_true, Bool.false_and, Bool.and_false, Bool.not_true, Bool.not_false, cond_true, cond_false])) rfl .n)))))) (.r rfl rfl rfl (.r rfl rfl rfl (.r rfl rfl rfl (.r rfl rfl rfl (.r rfl rfl rfl .n))))) rfl rfl rfl)

noncomputable def asset_Book_Get.f (x0 : asset_Book) (x1 : Bs) : Option (api_Asset × Bool) :=
  (asset_Book_place.f x0 x1).bind fun t1 =>
  if (!t1.2) = true then
    some ((⟨[], 0, 0, 0, []⟩ : api_Asset), false)
  else
    if (0 : Int) ≤ t1.1 ∧ t1.1 < (List.length x0.l : Int) then
    some ((nth x0.l t1.1), true)
    else none
set_option maxRecDepth 100000 in
set_option maxHeartbeats 4000000 in
theorem asset_Book_Get.ok {x0 : asset_Book} {x1 : Bs} {r : api_Asset × Bool} (h : asset_Book_Get.f x0 x1 = some r) : Pm.Spec prog 18 [.xbox [.xown 29 5 (List.map api_Asset.enc x0.l), .xown 3 1 (List.map (encI .i64) x0.prices), .imm (.val (.bool x0.made))], .imm (.val (.string (tx x1)))] (.tup [.agg [.imm (.val (.string (tx r.1.ISIN))), .imm (.val (.int .i64 r.1.Issuer)), .imm (.val (.int .i64 r.1.Rating)), .imm (.val (.int .i64 r.1.Maturity)), .imm (.val (.string (tx r.1.Currency)))], .imm (.val (.bool r.2))]) [some (.xbox [.xown 29 5 (List.map api_Asset.enc x0.l), .xown 3 1 (List.map (encI .i64) x0.prices), .imm (.val (.bool x0.made))]), none] := by
 unfold asset_Book_Get.f at h
 refine Pm.Spec.of_body Try.func18 rfl (by kernel_rfl) (Nat.le_of_ble_eq_true rfl) (Nat.le_of_ble_eq_true rfl) ?_
 refine W.ghost (σ' := (mkSt [(0, some (.ptr 0 0)), (1, some (.s x1))] [(0, some (.box [.own 1, .own 2, .b x0.made])), (1, some (.rows 29 5 (List.map api_Asset.enc x0.l) false)), (2, some (.rows 3 1 (List.map (encI .i64) x0.prices) false))] 1000)) (Gives.entry (.c rfl (.c rfl .n)) (.c rfl (.c rfl (.c rfl .n)))) ?_
 refine W.ghost (σ' := (mkSt [(0, some (.ptr 0 0)), (1, some (.s x1))] [(0, some (.box [.own 1000, .own 1001, .b x0.made])), (1000, some (.rows 29 5 (List.map api_Asset.enc x0.l) false)), (1001, some (.rows 3 1 (List.map (encI .i64) x0.prices) false))] 1002)) (Gives.mkR [(1000, 1), (1001, 2)] (.r rfl rfl (.r rfl rfl .n)) (.r rfl rfl rfl (.r rfl rfl rfl (.r rfl rfl rfl .n))) rfl rfl rfl) ?_
 refine W.seq ?_
 refine W.pk ?_
 refine .t rfl rfl (O.alloc z29 rfl) ?_
 refine .a rfl rfl rfl rfl ?_
 refine .nil ?_
 refine W.seq ?_
 refine W.seq ?_
 refine W.pk ?_
 refine .m rfl rfl rfl rfl ?_
 refine .v rfl rfl (OpL.eqP rfl u30 rfl rfl rfl) ?_
 refine .nil ?_
 refine W.cond rfl (fun q => by cases q) (fun _ => ?_)
 refine W.skip ?_
 refine W.seq ?_
 obtain ⟨t1, b2, h⟩ := bnd1 h
 refine W.pk ?_
 refine .m rfl rfl rfl rfl ?_
 refine .m rfl rfl rfl rfl ?_
 refine .call (.tup [.i t1.1, .b t1.2]) [(0, some (.box [.own 1003, .own 1004, .b x0.made])), (1003, some (.rows 29 5 (List.map api_Asset.enc x0.l) false)), (1004, some (.rows 3 1 (List.map (encI .i64) x0.prices) false)), (0, none), (1000, none), (1001, none)] 2 (asset_Book_place.ok b2) rfl rfl rfl ca34 rfl rfl (cC (.ptr _ _ _ _ _ rfl (cC (.own _ _ _ _ rfl) (cC (.own _ _ _ _ rfl) (cC (.imm _) .nil)))) (cC (.imm _) .nil)) rfl rfl rfl rfl rfl ?_
 refine .m rfl rfl rfl rfl ?_
 refine .v rfl rfl (OpL.extract rfl rfl rfl) ?_
 refine .v rfl rfl (OpL.extract rfl rfl rfl) ?_
 refine .a rfl rfl rfl rfl ?_
 refine .a rfl rfl rfl rfl ?_
 refine .nil ?_
 refine W.seq ?_
 refine W.seq ?_
 refine W.pk ?_
 refine .m rfl rfl rfl rfl ?_
 refine .v rfl rfl (OpL.unV rfl rfl rfl) ?_
 refine .nil ?_
 refine W.cond rfl (fun q3 => ?_) (fun q3 => ?_)
 ·have h := ifT q3 h
  refine W.seq ?_
  refine W.pk ?_
  refine .v rfl rfl (O.build (out := [.s [], .i 0, .i 0, .i 0, .s []]) bl29 rfl rfl rfl rfl (by kernel_rfl)) ?_
  refine .s rfl rfl (O.st ty29 rfl rfl rfl rfl rfl rfl rfl rfl rfl rfl (all' := [.s [], .i 0, .i 0, .i 0, .s []]) rfl) ?_
  refine .a rfl rfl rfl rfl ?_
  refine .nil ?_
  refine W.ret ?_
  cases h
  exact leaves (.inr rfl) rfl (.tup _ _ _ _ (cC (.agg _ _ _ _ (cC (.imm _) (cC (.imm _) (cC (.imm _) (cC (.imm _) (cC (.imm _) .nil)))))) (cC (.imm _) .nil))) (cS (.ptr _ _ _ _ _ rfl (cC (.own _ _ _ _ rfl) (cC (.own _ _ _ _ rfl) (cC (.imm _) .nil)))) (cN .nil)) rfl rfl
 ·have h := ifF q3 h
  refine W.skip ?_
  refine W.seq ?_
  obtain ⟨c4, h⟩ := chk h
  refine W.pk ?_
  refine .m rfl rfl rfl rfl ?_
  refine .v rfl rfl (OpL.nilP rfl rfl rfl) ?_
  refine .v rfl rfl (O.fld fld71_0 rfl rfl rfl) ?_
  refine .v rfl rfl (O.ld (y := .own 1003) ty68 rfl rfl rfl) ?_
  refine .m rfl rfl rfl rfl ?_
  refine .v rfl rfl (O.idxO sl68 c4 rfl rfl rfl rfl) ?_
  refine .v rfl rfl (O.ldEN ty29 c4 rfl rfl rfl rfl rfl) ?_
  refine .s rfl rfl (O.st ty29 rfl rfl rfl rfl rfl rfl rfl rfl rfl rfl (all' := [.s ((nth x0.l t1.1).ISIN), .i ((nth x0.l t1.1).Issuer), .i ((nth x0.l t1.1).Rating), .i ((nth x0.l t1.1).Maturity), .s ((nth x0.l t1.1).Currency)]) rfl) ?_
  refine .a rfl rfl rfl rfl ?_
  refine .nil ?_
  refine W.ret ?_
  cases h
  exact leaves (.inr rfl) rfl (.tup _ _ _ _ (cC (.agg _ _ _ _ (cC (.imm _) (cC (.imm _) (cC (.imm _) (cC (.imm _) (cC (.imm _) .nil)))))) (cC (.imm _) .nil))) (cS (.ptr _ _ _ _ _ rfl (cC (.own _ _ _ _ rfl) (cC (.own _ _ _ _ rfl) (cC (.imm _) .nil)))) (cN .nil)) rfl rfl

noncomputable def asset_Book_Price.f (x0 : asset_Book) (x1 : Bs) : Option (Int × Bool) :=
  (asset_Book_place.f x0 x1).bind fun t1 =>
  if ((!t1.2) = false → (0 : Int) ≤ t1.1 ∧ t1.1 < (List.length x0.prices : Int)) then
  if ((!t1.2) || ((nth x0.prices t1.1) == 0)) = true then
    some (0, false)
  else
    if (0 : Int) ≤ t1.1 ∧ t1.1 < (List.length x0.prices : Int) then
    some ((nth x0.prices t1.1), true)
    else none
  else none
set_option maxRecDepth 100000 in
set_option maxHeartbeats 4000000 in
theorem asset_Book_Price.ok {x0 : asset_Book} {x1 : Bs} {r : Int × Bool} (h : asset_Book_Price.f x0 x1 = some r) : Pm.Spec prog 19 [.xbox [.xown 29 5 (List.map api_Asset.enc x0.l), .xown 3 1 (List.map (encI .i64) x0.prices), .imm (.val (.bool x0.made))], .imm (.val (.string (tx x1)))] (.tup [.imm (.val (.int .i64 r.1)), .imm (.val (.bool r.2))]) [some (.xbox [.xown 29 5 (List.map api_Asset.enc x0.l), .xown 3 1 (List.map (encI .i64) x0.prices), .imm (.val (.bool x0.made))]), none] := by
 unfold asset_Book_Price.f at h
 refine Pm.Spec.of_body Try.func19 rfl (by kernel_rfl) (Nat.le_of_ble_eq_true rfl) (Nat.le_of_ble_eq_true rfl) ?_
 refine W.ghost (σ' := (mkSt [(0, some (.ptr 0 0)), (1, some (.s x1))] [(0, some (.box [.own 1, .own 2, .b x0.made])), (1, some (.rows 29 5 (List.map api_Asset.enc x0.l) false)), (2, some (.rows 3 1 (List.map (encI .i64) x0.prices) false))] 1000)) (Gives.entry (.c rfl (.c rfl .n)) (.c rfl (.c rfl (.c rfl .n)))) ?_
 refine W.ghost (σ' := (mkSt [(0, some (.ptr 0 0)), (1, some (.s x1))] [(0, some (.box [.own 1000, .own 1001, .b x0.made])), (1000, some (.rows 29 5 (List.map api_Asset.enc x0.l) false)), (1001, some (.rows 3 1 (List.map (encI .i64) x0.prices) false))] 1002)) (Gives.mkR [(1000, 1), (1001, 2)] (.r rfl rfl (.r rfl rfl .n)) (.r rfl rfl rfl (.r rfl rfl rfl (.r rfl rfl rfl .n))) rfl rfl rfl) ?_
 refine W.seq ?_
 refine W.pk ?_
 refine .a rfl rfl rfl rfl ?_
 refine .a rfl rfl rfl rfl ?_
 refine .nil ?_
 refine W.seq ?_
 refine W.seq ?_
 refine W.pk ?_
 refine .m rfl rfl rfl rfl ?_
 refine .v rfl rfl (OpL.eqP rfl u30 rfl rfl rfl) ?_
 refine .nil ?_
 refine W.cond rfl (fun q => by cases q) (fun _ => ?_)
 refine W.skip ?_
 refine W.seq ?_
 obtain ⟨t1, b2, h⟩ := bnd1 h
 refine W.pk ?_
 refine .m rfl rfl rfl rfl ?_
 refine .m rfl rfl rfl rfl ?_
 refine .call (.tup [.i t1.1, .b t1.2]) [(0, some (.box [.own 1002, .own 1003, .b x0.made])), (1002, some (.rows 29 5 (List.map api_Asset.enc x0.l) false)), (1003, some (.rows 3 1 (List.map (encI .i64) x0.prices) false)), (0, none), (1000, none), (1001, none)] 2 (asset_Book_place.ok b2) rfl rfl rfl ca34 rfl rfl (cC (.ptr _ _ _ _ _ rfl (cC (.own _ _ _ _ rfl) (cC (.own _ _ _ _ rfl) (cC (.imm _) .nil)))) (cC (.imm _) .nil)) rfl rfl rfl rfl rfl ?_
 refine .m rfl rfl rfl rfl ?_
 refine .v rfl rfl (OpL.extract rfl rfl rfl) ?_
 refine .v rfl rfl (OpL.extract rfl rfl rfl) ?_
 refine .a rfl rfl rfl rfl ?_
 refine .a rfl rfl rfl rfl ?_
 refine .nil ?_
 refine W.seq ?_
 refine W.seq ?_
 obtain ⟨c3, h⟩ := chk h
 refine W.fork (mkSt [(0, some (.ptr 0 0)), (6, some (.i t1.1)), (27, some (.b ((!t1.2) || ((nth x0.prices t1.1) == 0))))] [(0, some (.box [.own 1002, .own 1003, .b x0.made])), (1002, some (.rows 29 5 (List.map api_Asset.enc x0.l) false)), (1003, some (.rows 3 1 (List.map (encI .i64) x0.prices) false))] 1004) ?_ ?_
 ·refine W.cond rfl (fun q5 => ?_) (fun q5 => ?_)
  ·have h := ifT q5 h
   refine W.seq ?_
   refine W.pk ?_
   refine .a rfl rfl rfl rfl ?_
   refine .a rfl rfl rfl rfl ?_
   refine .nil ?_
   refine W.ret ?_
   cases h
   exact leaves (.inr rfl) rfl (.tup _ _ _ _ (cC (.imm _) (cC (.imm _) .nil))) (cS (.ptr _ _ _ _ _ rfl (cC (.own _ _ _ _ rfl) (cC (.own _ _ _ _ rfl) (cC (.imm _) .nil)))) (cN .nil)) rfl rfl
  ·have h := ifF q5 h
   refine W.skip ?_
   refine W.seq ?_
   obtain ⟨c6, h⟩ := chk h
   refine W.pk ?_
   refine .m rfl rfl rfl rfl ?_
   refine .v rfl rfl (OpL.nilP rfl rfl rfl) ?_
   refine .v rfl rfl (O.fld fld71_1 rfl rfl rfl) ?_
   refine .v rfl rfl (O.ld (y := .own 1003) ty69 rfl rfl rfl) ?_
   refine .m rfl rfl rfl rfl ?_
   refine .v rfl rfl (O.idxO sl69 c6 rfl rfl rfl rfl) ?_
   refine .v rfl rfl (O.ldE (c := (.val (.int .i64 (nth x0.prices t1.1)))) ty3 c6 rfl rfl rfl rfl rfl) ?_
   refine .a rfl rfl rfl rfl ?_
   refine .a rfl rfl rfl rfl ?_
   refine .nil ?_
   refine W.ret ?_
   cases h
   exact leaves (.inr rfl) rfl (.tup _ _ _ _ (cC (.imm _) (cC (.imm _) .nil))) (cS (.ptr _ _ _ _ _ rfl (cC (.own _ _ _ _ rfl) (cC (.own _ _ _ _ rfl) (cC (.imm _) .nil)))) (cN .nil)) rfl rfl
 ·clear h
  rcases tf t1.2 with g4 | g4
  ·refine W.pk ?_
   refine .m rfl rfl rfl rfl ?_
   refine .v rfl rfl (OpL.unV rfl rfl rfl) ?_
   refine .m rfl rfl rfl rfl ?_
   refine .m rfl (met rfl rfl rfl (notT g4)) rfl rfl ?_
   refine .v rfl (met rfl rfl rfl (notT g4)) (OpL.nilP rfl rfl rfl) ?_
   refine .v rfl (met rfl rfl rfl (notT g4)) (O.fld fld71_1 rfl rfl rfl) ?_
   refine .v rfl (met rfl rfl rfl (notT g4)) (O.ld (y := .own 1003) ty69 rfl rfl rfl) ?_
   refine .m rfl (met rfl rfl rfl (notT g4)) rfl rfl ?_
   refine .v rfl (met rfl rfl rfl (notT g4)) (O.idxO sl69 (c3 (by simp only [g4, Bool.true_or, Bool.or_true, Bool.false_or, Bool.or_false, Bool.true_and, Bool.and_true, Bool.false_and, Bool.and_false, Bool.not_true, Bool.not_false, cond_true, cond_false])) rfl rfl rfl rfl) ?_
   refine .v rfl (met rfl rfl rfl (notT g4)) (O.ldE (c := (.val (.int .i64 (nth x0.prices t1.1)))) ty3 (c3 (by simp only [g4, Bool.true_or, Bool.or_true, Bool.false_or, Bool.or_false, Bool.true_and, Bool.and_true, Bool.false_and, Bool.and_false, Bool.not_true, Bool.not_false, cond_true, cond_false])) rfl rfl rfl rfl rfl) ?_
   refine .v rfl (met rfl rfl rfl (notT g4)) (OpL.binI rfl rfl rfl rfl) ?_
   refine .v rfl rfl (O.pickF (notT g4) rfl rfl rfl) ?_
   refine .nil ?_
   exact toN (Gives.mkR [] (.r rfl rfl (.r rfl rfl (.c rfl (sbb (by simp only [g4, Bool.true_or, Bool.or_true, Bool.false_or, Bool.or_false, Bool.true_and, Bool.and_true, Bool.false_and, Bool.and_false, Bool.not_true, Bool.not_false, cond_true, cond_false])) rfl .n))) (.r rfl rfl rfl (.r rfl rfl rfl (.r rfl rfl rfl .n))) rfl rfl rfl)
  ·refine W.pk ?_
   refine .m rfl rfl rfl rfl ?_
   refine .v rfl rfl (OpL.unV rfl rfl rfl) ?_
   refine .m rfl rfl rfl rfl ?_
   refine .x rfl (unmet rfl rfl rfl (notF g4)) ?_
   refine .x rfl (unmet rfl rfl rfl (notF g4)) ?_
   refine .x rfl (unmet rfl rfl rfl (notF g4)) ?_
   refine .x rfl (unmet rfl rfl rfl (notF g4)) ?_
   refine .x rfl (unmet rfl rfl rfl (notF g4)) ?_
   refine .x rfl (unmet rfl rfl rfl (notF g4)) ?_
   refine .x rfl (unmet rfl rfl rfl (notF g4)) ?_
   refine .x rfl (unmet rfl rfl rfl (notF g4)) ?_
   refine .v rfl rfl (O.pickT (notF g4) rfl rfl rfl) ?_
   refine .nil ?_
   exact toN (Gives.mkR [] (.r rfl rfl (.r rfl rfl (.c rfl (sbb (by simp only [g4, Bool.true_or, Bool.or_true, Bool.false_or, Bool.or_false, Bool.true_and, Bool.and_true, Bool.false_and, Bool.and_false, Bool.not_true, Bool.not_false, cond_true, cond_false])) rfl .n))) (.r rfl rfl rfl (.r rfl rfl rfl (.r rfl rfl rfl .n))) rfl rfl rfl)
end Go.Proofs.Ytkcjlpiaaklnkaa
