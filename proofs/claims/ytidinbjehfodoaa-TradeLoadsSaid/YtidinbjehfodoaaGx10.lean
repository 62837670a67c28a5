/- Shows what functions of the program come to, each as a plain function: written by a program of the author's for this claim. -/
import Derived.Test.YtidinbjehfodoaaGx9
namespace Go.Proofs.Ytidinbjehfodoaa
open Go Go.Pm
set_option linter.unusedVariables false
set_option linter.unusedSimpArgs false
noncomputable def lombardref23_All.b0 (x0 : List api_Trade) (x1 : List api_Trade) (v8 : Int) : Option (Int ⊕ (Bool ⊕ Unit)) :=
  if (decide (v8 < (List.length x0 : Int))) = true then
    if (0 : Int) ≤ v8 ∧ v8 < (List.length x0 : Int) then
    if (0 : Int) ≤ v8 ∧ v8 < (List.length x1 : Int) then
    (lombardref23_Same.f (nth x0 v8) (nth x1 v8)).bind fun t28 =>
    if (!t28) = true then
      some (.inr (.inl false))
    else
      some (.inl (IntKind.wrap .i64 (v8 + 1)))
    else none
    else none
  else
    some (.inr (.inr ()))
noncomputable def lombardref23_All.r0 (x0 : List api_Trade) (x1 : List api_Trade) (s : Int) : Option (Int ⊕ (Bool ⊕ Unit)) := lombardref23_All.b0 x0 x1 s
noncomputable def lombardref23_All.f (x0 : List api_Trade) (x1 : List api_Trade) : Option (Bool) :=
  if ((List.length x0 : Int) != (List.length x1 : Int)) = true then
    some false
  else
    (loop (lombardref23_All.r0 x0 x1) 0).bind fun o22 =>
    match o22 with
    | .inl r31 => some r31
    | .inr w21 =>
      some true
set_option maxRecDepth 100000 in
set_option maxHeartbeats 4000000 in
theorem lombardref23_All.ok {x0 : List api_Trade} {x1 : List api_Trade} {r : Bool} (h : lombardref23_All.f x0 x1 = some r) : Pm.Spec prog 17 [.imm (.row 11 (List.map api_Trade.enc x0)), .imm (.row 11 (List.map api_Trade.enc x1))] (.imm (.val (.bool r))) [none, none] := by
 unfold lombardref23_All.f at h
 refine Pm.Spec.of_body Try.func17 rfl (by kernel_rfl) (Nat.le_of_ble_eq_true rfl) (Nat.le_of_ble_eq_true rfl) ?_
 refine W.ghost (σ' := (mkSt [(0, some (.imm (.row 11 (List.map api_Trade.enc x0)))), (1, some (.imm (.row 11 (List.map api_Trade.enc x1))))] [] 1000)) (Gives.entry (.c rfl (.c rfl .n)) .n) ?_
 refine W.seq ?_
 refine W.pk ?_
 refine .a rfl rfl rfl rfl ?_
 refine .nil ?_
 refine W.seq ?_
 refine W.seq ?_
 refine W.pk ?_
 refine .m rfl rfl rfl rfl ?_
 refine .v rfl rfl (O.lenR sl35 rfl rfl) ?_
 refine .m rfl rfl rfl rfl ?_
 refine .v rfl rfl (O.lenR sl35 rfl rfl) ?_
 refine .v rfl rfl (OpL.binI rfl rfl rfl rfl) ?_
 refine .nil ?_
 refine W.cond rfl (fun q1 => ?_) (fun q1 => ?_)
 ·have h := ifT q1 h
  refine W.seq ?_
  refine W.pk ?_
  refine .a rfl rfl rfl rfl ?_
  refine .nil ?_
  refine W.ret ?_
  cases h
  exact leaves (.inr rfl) rfl (.imm _) (cN (cN .nil)) rfl rfl
 ·have h := ifF q1 h
  refine W.skip ?_
  refine W.seq ?_
  refine W.seq ?_
  refine W.pk ?_
  refine .a rfl rfl rfl rfl ?_
  refine .nil ?_
  obtain ⟨o22, b23, z24⟩ := bnd1 h
  refine W.fork2 (out := o22) (fun (w21 : Unit) => mkSt [] [] 1000) ?_ ?_
  ·clear h
   refine W.block ?_
   refine W.loopF (fun (s_ : Int) => mkSt [(0, some (.imm (.row 11 (List.map api_Trade.enc x0)))), (1, some (.imm (.row 11 (List.map api_Trade.enc x1)))), (5, some (.i s_))] [] 1000) b23 (Gives.mkR [] (.r rfl rfl (.r rfl rfl (.r rfl rfl .n))) .n rfl rfl rfl) ?_
   rintro v8 s_ hr
   have h : lombardref23_All.b0 x0 x1 v8 = some s_ := hr
   unfold lombardref23_All.b0 at h
   refine W.seq ?_
   refine W.seq ?_
   refine W.pk ?_
   refine .m rfl rfl rfl rfl ?_
   refine .m rfl rfl rfl rfl ?_
   refine .v rfl rfl (O.lenR sl35 rfl rfl) ?_
   refine .v rfl rfl (OpL.binI rfl rfl rfl rfl) ?_
   refine .nil ?_
   refine W.cond rfl (fun q25 => ?_) (fun q25 => ?_)
   ·have h := ifT q25 h
    refine W.skip ?_
    refine W.seq ?_
    refine W.block ?_
    refine W.seq ?_
    obtain ⟨c26, h⟩ := chk h
    obtain ⟨c27, h⟩ := chk h
    obtain ⟨t28, b29, h⟩ := bnd1 h
    refine W.dk (unm 10 [0, 0, 3, 7, 0, 0, 48, 112, 255, 511]) rfl (by kernel_rfl) ?_
    refine .m rfl rfl rfl rfl ?_
    refine .m rfl rfl rfl rfl ?_
    refine .v rfl rfl (O.idx sl35 c26 rfl rfl rfl) ?_
    refine .v rfl rfl (O.ldN ty26 rfl rfl rfl) ?_
    refine .m rfl rfl rfl rfl ?_
    refine .m rfl rfl rfl rfl ?_
    refine .v rfl rfl (O.idx sl35 c27 rfl rfl rfl) ?_
    refine .v rfl rfl (O.ldN ty26 rfl rfl rfl) ?_
    refine .call (.b t28) [] 0 (lombardref23_Same.ok b29) rfl rfl rfl ca25 rfl rfl (cC (.agg _ _ _ _ (cC (.imm _) (cC (.imm _) (cC (.imm _) (cC (.imm _) (cC (.imm _) (cC (.imm _) (cC (.imm _) (cC (.imm _) (cC (.imm _) (cC (.imm _) (cC (.imm _) .nil)))))))))))) (cC (.agg _ _ _ _ (cC (.imm _) (cC (.imm _) (cC (.imm _) (cC (.imm _) (cC (.imm _) (cC (.imm _) (cC (.imm _) (cC (.imm _) (cC (.imm _) (cC (.imm _) (cC (.imm _) .nil)))))))))))) .nil)) rfl rfl rfl rfl rfl ?_
    refine .v rfl rfl (OpL.unV rfl rfl rfl) ?_
    refine .nil ?_
    refine ⟨by kernel_rfl, by kernel_rfl, ?_⟩
    refine W.cond rfl (fun q30 => ?_) (fun q30 => ?_)
    ·have h := ifT q30 h
     refine W.seq ?_
     refine W.pk ?_
     refine .a rfl rfl rfl rfl ?_
     refine .nil ?_
     refine W.ret ?_
     cases h
     refine rdR fun e_ => ?_
     subst e_
     have h := z24
     dsimp only at h
     refine fkR ?_
     cases h
     exact leaves (.inr rfl) rfl (.imm _) (cN (cN .nil)) rfl rfl
    ·have h := ifF q30 h
     refine W.skip ?_
     refine W.pk ?_
     refine .m rfl rfl rfl rfl ?_
     refine .v rfl rfl (OpL.binI rfl rfl rfl rfl) ?_
     refine .a rfl rfl rfl rfl ?_
     refine .nil ?_
     cases h
     exact rdN (Gives.mkR [] (.r rfl rfl (.r rfl rfl (.r rfl rfl .n))) .n rfl rfl rfl)
   ·have h := ifF q25 h
    refine W.exit ?_
    cases h
    refine rdX fun e_ => ?_
    subst e_
    repeat with_reducible refine thru ?_
    refine hit ?_
    exact fkN (Gives.mkR [] .n .n rfl rfl rfl)
  ·intro w21 e_
   subst e_
   clear h
   have h := z24
   dsimp only at h
   refine W.seq ?_
   refine W.pk ?_
   refine .a rfl rfl rfl rfl ?_
   refine .nil ?_
   refine W.ret ?_
   cases h
   exact leaves (.inr rfl) rfl (.imm _) (cN (cN .nil)) rfl rfl

noncomputable def trade_Book_Next.f  : Option (Int) :=
  some 0
set_option maxRecDepth 100000 in
set_option maxHeartbeats 4000000 in
theorem trade_Book_Next.ok  {r : Int} (h : trade_Book_Next.f  = some r) : Pm.Spec prog 19 [.imm (.val (.pointer none))] (.imm (.val (.int .i64 r))) [none] := by
 unfold trade_Book_Next.f at h
 refine Pm.Spec.of_body Try.func19 rfl (by kernel_rfl) (Nat.le_of_ble_eq_true rfl) (Nat.le_of_ble_eq_true rfl) ?_
 refine W.ghost (σ' := (mkSt [(0, some (.imm (.val (.pointer none))))] [] 1000)) (Gives.entry (.c rfl .n) .n) ?_
 refine W.seq ?_
 refine W.pk ?_
 refine .a rfl rfl rfl rfl ?_
 refine .nil ?_
 refine W.seq ?_
 refine W.seq ?_
 refine W.pk ?_
 refine .m rfl rfl rfl rfl ?_
 refine .v rfl rfl (O.eqPnn rfl u36 rfl rfl) ?_
 refine .nil ?_
 refine W.cond rfl (fun _ => ?_) (fun q => by cases q)
 refine W.seq ?_
 refine W.pk ?_
 refine .a rfl rfl rfl rfl ?_
 refine .nil ?_
 refine W.ret ?_
 cases h
 exact leaves (.inr rfl) rfl (.imm _) (cN .nil) rfl rfl

set_option maxRecDepth 100000 in
set_option maxHeartbeats 4000000 in
theorem lombardref23_All_v2.ok {x0 : List api_Trade} {x1 : List api_Trade} {r : Bool} (h : lombardref23_All.f x0 x1 = some r) : Pm.Spec prog 17 [.xown 26 11 (List.map api_Trade.enc x0), .imm (.row 11 (List.map api_Trade.enc x1))] (.imm (.val (.bool r))) [some (.xown 26 11 (List.map api_Trade.enc x0)), none] := by
 unfold lombardref23_All.f at h
 refine Pm.Spec.of_body Try.func17 rfl (by kernel_rfl) (Nat.le_of_ble_eq_true rfl) (Nat.le_of_ble_eq_true rfl) ?_
 refine W.ghost (σ' := (mkSt [(0, some (.own 0)), (1, some (.imm (.row 11 (List.map api_Trade.enc x1))))] [(0, some (.rows 26 11 (List.map api_Trade.enc x0) false))] 1000)) (Gives.entry (.c rfl (.c rfl .n)) (.c rfl .n)) ?_
 refine W.seq ?_
 refine W.pk ?_
 refine .a rfl rfl rfl rfl ?_
 refine .nil ?_
 refine W.seq ?_
 refine W.seq ?_
 refine W.pk ?_
 refine .m rfl rfl rfl rfl ?_
 refine .v rfl rfl (O.lenO sl35 rfl rfl rfl) ?_
 refine .m rfl rfl rfl rfl ?_
 refine .v rfl rfl (O.lenR sl35 rfl rfl) ?_
 refine .v rfl rfl (OpL.binI rfl rfl rfl rfl) ?_
 refine .nil ?_
 refine W.cond rfl (fun q1 => ?_) (fun q1 => ?_)
 ·have h := ifT q1 h
  refine W.seq ?_
  refine W.pk ?_
  refine .a rfl rfl rfl rfl ?_
  refine .nil ?_
  refine W.ret ?_
  cases h
  exact leaves (.inr rfl) rfl (.imm _) (cS (.own _ _ _ _ rfl) (cN .nil)) rfl rfl
 ·have h := ifF q1 h
  refine W.skip ?_
  refine W.seq ?_
  refine W.seq ?_
  refine W.pk ?_
  refine .a rfl rfl rfl rfl ?_
  refine .nil ?_
  obtain ⟨o22, b23, z24⟩ := bnd1 h
  refine W.fork2 (out := o22) (fun (w21 : Unit) => mkSt [] [(0, some (.rows 26 11 (List.map api_Trade.enc x0) false))] 1000) ?_ ?_
  ·clear h
   refine W.block ?_
   refine W.loopF (fun (s_ : Int) => mkSt [(0, some (.own 0)), (1, some (.imm (.row 11 (List.map api_Trade.enc x1)))), (5, some (.i s_))] [(0, some (.rows 26 11 (List.map api_Trade.enc x0) false))] 1000) b23 (Gives.mkR [] (.r rfl rfl (.r rfl rfl (.r rfl rfl .n))) (.r rfl rfl rfl .n) rfl rfl rfl) ?_
   rintro v8 s_ hr
   have h : lombardref23_All.b0 x0 x1 v8 = some s_ := hr
   unfold lombardref23_All.b0 at h
   refine W.seq ?_
   refine W.seq ?_
   refine W.pk ?_
   refine .m rfl rfl rfl rfl ?_
   refine .m rfl rfl rfl rfl ?_
   refine .v rfl rfl (O.lenO sl35 rfl rfl rfl) ?_
   refine .v rfl rfl (OpL.binI rfl rfl rfl rfl) ?_
   refine .nil ?_
   refine W.cond rfl (fun q25 => ?_) (fun q25 => ?_)
   ·have h := ifT q25 h
    refine W.skip ?_
    refine W.seq ?_
    refine W.block ?_
    refine W.seq ?_
    obtain ⟨c26, h⟩ := chk h
    obtain ⟨c27, h⟩ := chk h
    obtain ⟨t28, b29, h⟩ := bnd1 h
    refine W.dk (unm 10 [0, 0, 3, 7, 0, 0, 48, 112, 255, 511]) rfl (by kernel_rfl) ?_
    refine .m rfl rfl rfl rfl ?_
    refine .m rfl rfl rfl rfl ?_
    refine .v rfl rfl (O.idxO sl35 c26 rfl rfl rfl rfl) ?_
    refine .v rfl rfl (O.ldEN ty26 c26 rfl rfl rfl rfl rfl) ?_
    refine .m rfl rfl rfl rfl ?_
    refine .m rfl rfl rfl rfl ?_
    refine .v rfl rfl (O.idx sl35 c27 rfl rfl rfl) ?_
    refine .v rfl rfl (O.ldN ty26 rfl rfl rfl) ?_
    refine .call (.b t28) [] 0 (lombardref23_Same.ok b29) rfl rfl rfl ca25 rfl rfl (cC (.agg _ _ _ _ (cC (.imm _) (cC (.imm _) (cC (.imm _) (cC (.imm _) (cC (.imm _) (cC (.imm _) (cC (.imm _) (cC (.imm _) (cC (.imm _) (cC (.imm _) (cC (.imm _) .nil)))))))))))) (cC (.agg _ _ _ _ (cC (.imm _) (cC (.imm _) (cC (.imm _) (cC (.imm _) (cC (.imm _) (cC (.imm _) (cC (.imm _) (cC (.imm _) (cC (.imm _) (cC (.imm _) (cC (.imm _) .nil)))))))))))) .nil)) rfl rfl rfl rfl rfl ?_
    refine .v rfl rfl (OpL.unV rfl rfl rfl) ?_
    refine .nil ?_
    refine ⟨by kernel_rfl, by kernel_rfl, ?_⟩
    refine W.cond rfl (fun q30 => ?_) (fun q30 => ?_)
    ·have h := ifT q30 h
     refine W.seq ?_
     refine W.pk ?_
     refine .a rfl rfl rfl rfl ?_
     refine .nil ?_
     refine W.ret ?_
     cases h
     refine rdR fun e_ => ?_
     subst e_
     have h := z24
     dsimp only at h
     refine fkR ?_
     cases h
     exact leaves (.inr rfl) rfl (.imm _) (cS (.own _ _ _ _ rfl) (cN .nil)) rfl rfl
    ·have h := ifF q30 h
     refine W.skip ?_
     refine W.pk ?_
     refine .m rfl rfl rfl rfl ?_
     refine .v rfl rfl (OpL.binI rfl rfl rfl rfl) ?_
     refine .a rfl rfl rfl rfl ?_
     refine .nil ?_
     cases h
     exact rdN (Gives.mkR [] (.r rfl rfl (.r rfl rfl (.r rfl rfl .n))) (.r rfl rfl rfl .n) rfl rfl rfl)
   ·have h := ifF q25 h
    refine W.exit ?_
    cases h
    refine rdX fun e_ => ?_
    subst e_
    repeat with_reducible refine thru ?_
    refine hit ?_
    exact fkN (Gives.mkR [] .n (.r rfl rfl rfl .n) rfl rfl rfl)
  ·intro w21 e_
   subst e_
   clear h
   have h := z24
   dsimp only at h
   refine W.seq ?_
   refine W.pk ?_
   refine .a rfl rfl rfl rfl ?_
   refine .nil ?_
   refine W.ret ?_
   cases h
   exact leaves (.inr rfl) rfl (.imm _) (cS (.own _ _ _ _ rfl) (cN .nil)) rfl rfl

noncomputable def trade_Book_Next_v2.f (x0 : trade_Book) : Option (Int) :=
  some x0.next
set_option maxRecDepth 100000 in
set_option maxHeartbeats 4000000 in
theorem trade_Book_Next_v2.ok {x0 : trade_Book} {r : Int} (h : trade_Book_Next_v2.f x0 = some r) : Pm.Spec prog 19 [.xbox [.xown 26 11 (List.map api_Trade.enc x0.l), .imm (.val (.int .i64 x0.next)), .imm (.val (.bool x0.made))]] (.imm (.val (.int .i64 r))) [some (.xbox [.xown 26 11 (List.map api_Trade.enc x0.l), .imm (.val (.int .i64 x0.next)), .imm (.val (.bool x0.made))])] := by
 unfold trade_Book_Next_v2.f at h
 refine Pm.Spec.of_body Try.func19 rfl (by kernel_rfl) (Nat.le_of_ble_eq_true rfl) (Nat.le_of_ble_eq_true rfl) ?_
 refine W.ghost (σ' := (mkSt [(0, some (.ptr 0 0))] [(0, some (.box [.own 1, .i x0.next, .b x0.made])), (1, some (.rows 26 11 (List.map api_Trade.enc x0.l) false))] 1000)) (Gives.entry (.c rfl .n) (.c rfl (.c rfl .n))) ?_
 refine W.ghost (σ' := (mkSt [(0, some (.ptr 0 0))] [(0, some (.box [.own 1000, .i x0.next, .b x0.made])), (1000, some (.rows 26 11 (List.map api_Trade.enc x0.l) false))] 1001)) (Gives.mkR [(1000, 1)] (.r rfl rfl .n) (.r rfl rfl rfl (.r rfl rfl rfl .n)) rfl rfl rfl) ?_
 refine W.seq ?_
 refine W.pk ?_
 refine .a rfl rfl rfl rfl ?_
 refine .nil ?_
 refine W.seq ?_
 refine W.seq ?_
 refine W.pk ?_
 refine .m rfl rfl rfl rfl ?_
 refine .v rfl rfl (OpL.eqP rfl u36 rfl rfl rfl) ?_
 refine .nil ?_
 refine W.cond rfl (fun q => by cases q) (fun _ => ?_)
 refine W.skip ?_
 refine W.seq ?_
 refine W.pk ?_
 refine .m rfl rfl rfl rfl ?_
 refine .v rfl rfl (OpL.nilP rfl rfl rfl) ?_
 refine .v rfl rfl (O.fld fld62_1 rfl rfl rfl) ?_
 refine .v rfl rfl (O.ld (y := .i x0.next) ty3 rfl rfl rfl) ?_
 refine .a rfl rfl rfl rfl ?_
 refine .nil ?_
 refine W.ret ?_
 cases h
 exact leaves (.inr rfl) rfl (.imm _) (cS (.ptr _ _ _ _ _ rfl (cC (.own _ _ _ _ rfl) (cC (.imm _) (cC (.imm _) .nil)))) .nil) rfl rfl

noncomputable def lombardlaw23_TradeLoads.b0 (x0 : List api_Trade) (v9 : Int) : Option (Int ⊕ (Bool ⊕ Unit)) :=
  if (decide (v9 < (List.length x0 : Int))) = true then
    if (0 : Int) ≤ v9 ∧ v9 < (List.length x0 : Int) then
    if (decide ((List.length ((nth x0 v9).Resets) : Int) > 80)) = true then
      (lombardlaw23_awake.f).bind fun t27 =>
      some (.inr (.inl t27))
    else
      some (.inl (IntKind.wrap .i64 (v9 + 1)))
    else none
  else
    some (.inr (.inr ()))
noncomputable def lombardlaw23_TradeLoads.r0 (x0 : List api_Trade) (s : Int) : Option (Int ⊕ (Bool ⊕ Unit)) := lombardlaw23_TradeLoads.b0 x0 s
noncomputable def lombardlaw23_TradeLoads.f (x0 : List api_Trade) (x1 : Int) : Option (Bool) :=
  if (decide ((List.length x0 : Int) > 80)) = true then
    (lombardlaw23_awake.f).bind fun t2 =>
    some t2
  else
    (loop (lombardlaw23_TradeLoads.r0 x0) 0).bind fun o21 =>
    match o21 with
    | .inl r29 => some r29
    | .inr w20 =>
      (trade_Load.f x0 x1).bind fun t30 =>
      match t30.1 with
      | none =>
        (lombardref23_Load.f x0 x1).bind fun t34 =>
        if ((t30.2 != t34) || (!(false == (t30.2 == 0)))) = true then
          some false
        else
          (if (t30.2 != 0) = false then trade_Book_All_v2.f else some default).bind fun t38 =>
          (if (t30.2 != 0) = false then lombardref23_All.f t38 x0 else some default).bind fun t40 =>
          (if (t30.2 != 0) = false ∧ t40 = true then trade_Book_Next.f else some default).bind fun t42 =>
          (if ((t30.2 != 0) || (t40 && (t42 == x1))) = true then lombardlaw23_awake.f else some default).bind fun t44 =>
          some (((t30.2 != 0) || (t40 && (t42 == x1))) && t44)
      | some v33 =>
        (lombardref23_Load.f x0 x1).bind fun t49 =>
        if ((t30.2 != t49) || (!(true == (t30.2 == 0)))) = true then
          some false
        else
          (if (t30.2 != 0) = false then trade_Book_All.f v33 else some default).bind fun t53 =>
          (if (t30.2 != 0) = false then lombardref23_All.f t53 x0 else some default).bind fun t55 =>
          (if (t30.2 != 0) = false ∧ t55 = true then trade_Book_Next_v2.f v33 else some default).bind fun t57 =>
          (if ((t30.2 != 0) || (t55 && (t57 == x1))) = true then lombardlaw23_awake.f else some default).bind fun t59 =>
          some (((t30.2 != 0) || (t55 && (t57 == x1))) && t59)
set_option maxRecDepth 100000 in
set_option maxHeartbeats 4000000 in
theorem lombardlaw23_TradeLoads.ok {x0 : List api_Trade} {x1 : Int} {r : Bool} (h : lombardlaw23_TradeLoads.f x0 x1 = some r) : Pm.Spec prog 4 [.imm (.row 11 (List.map api_Trade.enc x0)), .imm (.val (.int .i64 x1))] (.imm (.val (.bool r))) [none, none] := by
 unfold lombardlaw23_TradeLoads.f at h
 refine Pm.Spec.of_body Try.func4 rfl (by kernel_rfl) (Nat.le_of_ble_eq_true rfl) (Nat.le_of_ble_eq_true rfl) ?_
 refine W.ghost (σ' := (mkSt [(0, some (.imm (.row 11 (List.map api_Trade.enc x0)))), (1, some (.i x1))] [] 1000)) (Gives.entry (.c rfl (.c rfl .n)) .n) ?_
 refine W.seq ?_
 refine W.pk ?_
 refine .a rfl rfl rfl rfl ?_
 refine .nil ?_
 refine W.seq ?_
 refine W.seq ?_
 refine W.pk ?_
 refine .m rfl rfl rfl rfl ?_
 refine .v rfl rfl (O.lenR sl35 rfl rfl) ?_
 refine .v rfl rfl (OpL.binI rfl rfl rfl rfl) ?_
 refine .nil ?_
 refine W.cond rfl (fun q1 => ?_) (fun q1 => ?_)
 ·have h := ifT q1 h
  refine W.seq ?_
  obtain ⟨t2, b3, h⟩ := bnd1 h
  refine W.pk ?_
  refine .call (.b t2) [] 0 (lombardlaw23_awake.ok b3) rfl rfl rfl ca8 rfl rfl .nil rfl rfl rfl rfl rfl ?_
  refine .a rfl rfl rfl rfl ?_
  refine .nil ?_
  refine W.ret ?_
  cases h
  exact leaves (.inr rfl) rfl (.imm _) (cN (cN .nil)) rfl rfl
 ·have h := ifF q1 h
  refine W.skip ?_
  refine W.seq ?_
  refine W.seq ?_
  refine W.pk ?_
  refine .a rfl rfl rfl rfl ?_
  refine .nil ?_
  obtain ⟨o21, b22, z23⟩ := bnd1 h
  refine W.fork2 (out := o21) (fun (w20 : Unit) => mkSt [(0, some (.imm (.row 11 (List.map api_Trade.enc x0)))), (1, some (.i x1))] [] 1000) ?_ ?_
  ·clear h
   refine W.block ?_
   refine W.loopF (fun (s_ : Int) => mkSt [(0, some (.imm (.row 11 (List.map api_Trade.enc x0)))), (1, some (.i x1)), (5, some (.i s_))] [] 1000) b22 (Gives.mkR [] (.r rfl rfl (.r rfl rfl (.r rfl rfl .n))) .n rfl rfl rfl) ?_
   rintro v9 s_ hr
   have h : lombardlaw23_TradeLoads.b0 x0 v9 = some s_ := hr
   unfold lombardlaw23_TradeLoads.b0 at h
   refine W.seq ?_
   refine W.seq ?_
   refine W.pk ?_
   refine .m rfl rfl rfl rfl ?_
   refine .m rfl rfl rfl rfl ?_
   refine .v rfl rfl (O.lenR sl35 rfl rfl) ?_
   refine .v rfl rfl (OpL.binI rfl rfl rfl rfl) ?_
   refine .nil ?_
   refine W.cond rfl (fun q24 => ?_) (fun q24 => ?_)
   ·have h := ifT q24 h
    refine W.skip ?_
    refine W.seq ?_
    refine W.block ?_
    refine W.seq ?_
    obtain ⟨c25, h⟩ := chk h
    refine W.pk ?_
    refine .m rfl rfl rfl rfl ?_
    refine .m rfl rfl rfl rfl ?_
    refine .v rfl rfl (O.idx sl35 c25 rfl rfl rfl) ?_
    refine .v rfl rfl (O.fld fld26_8 rfl rfl rfl) ?_
    refine .v rfl rfl (O.ld (y := .imm (.row 2 (List.map api_Reset.enc ((nth x0 v9).Resets)))) ty24 rfl rfl rfl) ?_
    refine .v rfl rfl (O.lenR sl24 rfl rfl) ?_
    refine .v rfl rfl (OpL.binI rfl rfl rfl rfl) ?_
    refine .nil ?_
    refine W.cond rfl (fun q26 => ?_) (fun q26 => ?_)
    ·have h := ifT q26 h
     refine W.seq ?_
     obtain ⟨t27, b28, h⟩ := bnd1 h
     refine W.pk ?_
     refine .call (.b t27) [] 0 (lombardlaw23_awake.ok b28) rfl rfl rfl ca8 rfl rfl .nil rfl rfl rfl rfl rfl ?_
     refine .a rfl rfl rfl rfl ?_
     refine .nil ?_
     refine W.ret ?_
     cases h
     refine rdR fun e_ => ?_
     subst e_
     have h := z23
     dsimp only at h
     refine fkR ?_
     cases h
     exact leaves (.inr rfl) rfl (.imm _) (cN (cN .nil)) rfl rfl
    ·have h := ifF q26 h
     refine W.skip ?_
     refine W.pk ?_
     refine .m rfl rfl rfl rfl ?_
     refine .v rfl rfl (OpL.binI rfl rfl rfl rfl) ?_
     refine .a rfl rfl rfl rfl ?_
     refine .nil ?_
     cases h
     exact rdN (Gives.mkR [] (.r rfl rfl (.r rfl rfl (.r rfl rfl .n))) .n rfl rfl rfl)
   ·have h := ifF q24 h
    refine W.exit ?_
    cases h
    refine rdX fun e_ => ?_
    subst e_
    repeat with_reducible refine thru ?_
    refine hit ?_
    exact fkN (Gives.mkR [] (.r rfl rfl (.r rfl rfl .n)) .n rfl rfl rfl)
  ·intro w20 e_
   subst e_
   clear h
   have h := z23
   dsimp only at h
   refine W.seq ?_
   obtain ⟨t30, b31, h⟩ := bnd1 h
   rcases o32 : t30.1 with _ | v33
   ·rw [o32] at h; dsimp only at h
    refine W.pk ?_
    refine .m rfl rfl rfl rfl ?_
    refine .m rfl rfl rfl rfl ?_
    refine .call (.tup [.imm (.val (.pointer none)), .i t30.2]) [] 0 (Spec.cast (.tup [.imm (.val (.pointer none)), .imm (.val (.int .i64 t30.2))]) (by rw [o32]) (trade_Load.ok b31)) rfl rfl rfl ca15 rfl rfl (cC (.imm _) (cC (.imm _) .nil)) rfl rfl rfl rfl rfl ?_
    refine .m rfl rfl rfl rfl ?_
    refine .v rfl rfl (OpL.extract rfl rfl rfl) ?_
    refine .v rfl rfl (OpL.extract rfl rfl rfl) ?_
    refine .a rfl rfl rfl rfl ?_
    refine .a rfl rfl rfl rfl ?_
    refine .nil ?_
    refine W.seq ?_
    refine W.seq ?_
    obtain ⟨t34, b35, h⟩ := bnd1 h
    refine W.fork (mkSt [(0, some (.imm (.row 11 (List.map api_Trade.enc x0)))), (1, some (.i x1)), (6, some (.imm (.val (.pointer none)))), (7, some (.i t30.2)), (43, some (.b ((t30.2 != t34) || (!(false == (t30.2 == 0))))))] [] 1000) ?_ ?_
    ·refine W.cond rfl (fun q37 => ?_) (fun q37 => ?_)
     ·have h := ifT q37 h
      refine W.seq ?_
      refine W.pk ?_
      refine .a rfl rfl rfl rfl ?_
      refine .nil ?_
      refine W.ret ?_
      cases h
      exact leaves (.inr rfl) rfl (.imm _) (cN (cN .nil)) rfl rfl
     ·have h := ifF q37 h
      refine W.skip ?_
      refine W.seq ?_
      obtain ⟨t38, b39, h⟩ := bnd1 h
      obtain ⟨t40, b41, h⟩ := bnd1 h
      obtain ⟨t42, b43, h⟩ := bnd1 h
      obtain ⟨t44, b45, h⟩ := bnd1 h
      refine W.fork (mkSt [(4, some (.b (((t30.2 != 0) || (t40 && (t42 == x1))) && t44)))] [] 1000) ?_ ?_
      ·refine W.ret ?_
       cases h
       exact leaves (.inr rfl) rfl (.imm _) (cN (cN .nil)) rfl rfl
      ·clear h
       rcases tf (t30.2 != 0) with g46 | g46
       ·refine W.pk ?_
        refine .m rfl rfl rfl rfl ?_
        refine .v rfl rfl (OpL.binI rfl rfl rfl rfl) ?_
        refine .m rfl rfl rfl rfl ?_
        refine .x rfl (unmet rfl rfl rfl g46) ?_
        refine .x rfl (unmet rfl rfl rfl g46) ?_
        refine .x rfl (unmet rfl rfl rfl g46) ?_
        refine .x rfl (unmet rfl rfl rfl g46) ?_
        refine .x rfl (unmet rfl rfl rfl g46) ?_
        refine .x rfl (unmetU rfl rfl rfl) ?_
        refine .x rfl (unmetU rfl rfl rfl) ?_
        refine .x rfl (unmetU rfl rfl rfl) ?_
        refine .x rfl (unmetU rfl rfl rfl) ?_
        refine .x rfl (unmet rfl rfl rfl g46) ?_
        refine .v rfl rfl (O.pickT g46 rfl rfl rfl) ?_
        refine .m rfl rfl rfl rfl ?_
        refine .call (.b t44) [] 0 (lombardlaw23_awake.ok ((if_pos (by simp only [g46, Bool.true_or, Bool.or_true, Bool.false_or, Bool.or_false, Bool.true_and, Bool.and_true, Bool.false_and, Bool.and_false, Bool.not_true, Bool.not_false, cond_true, cond_false])).symm.trans b45)) rfl (met rfl rfl rfl rfl) rfl ca8 rfl rfl .nil rfl rfl rfl rfl rfl ?_
        refine .v rfl rfl (O.pickT rfl rfl rfl rfl) ?_
        refine .a rfl rfl rfl rfl ?_
        refine .nil ?_
        exact toN (Gives.mkR [] (.c rfl (sbb (by simp only [g46, Bool.true_or, Bool.or_true, Bool.false_or, Bool.or_false, Bool.true_and, Bool.and_true, Bool.false_and, Bool.and_false, Bool.not_true, Bool.not_false, cond_true, cond_false])) rfl .n) .n rfl rfl rfl)
       ·rcases tf t40 with g47 | g47
        ·rcases tf (t42 == x1) with g48 | g48
         ·refine W.pk ?_
          refine .m rfl rfl rfl rfl ?_
          refine .v rfl rfl (OpL.binI rfl rfl rfl rfl) ?_
          refine .m rfl rfl rfl rfl ?_
          refine .m rfl (met rfl rfl rfl g46) rfl rfl ?_
          refine .call (.imm (.row 11 (List.map api_Trade.enc t38))) [] 0 (trade_Book_All_v2.ok ((if_pos (by first | (simp only [g46, g47, g48, Bool.true_or, Bool.or_true, Bool.false_or, Bool.or_false, Bool.true_and, Bool.and_true, Bool.false_and, Bool.and_false, Bool.not_true, Bool.not_false, cond_true, cond_false]; done) | (repeat (first | rw [g46] | rw [g47] | rw [g48])) <;> simp only [Bool.true_or, Bool.or_true, Bool.false_or, Bool.or_false, Bool.true_and, Bool.and_true, Bool.false_and, Bool.and_false, Bool.not_true, Bool.not_false, cond_true, cond_false])).symm.trans b39)) rfl (met rfl rfl rfl g46) rfl ca18 rfl rfl (cC (.imm _) .nil) rfl rfl rfl rfl rfl ?_
          refine .m rfl (met rfl rfl rfl g46) rfl rfl ?_
          refine .call (.b t40) [] 0 (lombardref23_All.ok ((if_pos (by first | (simp only [g46, g47, g48, Bool.true_or, Bool.or_true, Bool.false_or, Bool.or_false, Bool.true_and, Bool.and_true, Bool.false_and, Bool.and_false, Bool.not_true, Bool.not_false, cond_true, cond_false]; done) | (repeat (first | rw [g46] | rw [g47] | rw [g48])) <;> simp only [Bool.true_or, Bool.or_true, Bool.false_or, Bool.or_false, Bool.true_and, Bool.and_true, Bool.false_and, Bool.and_false, Bool.not_true, Bool.not_false, cond_true, cond_false])).symm.trans b41)) rfl (met rfl rfl rfl g46) rfl ca17 rfl rfl (cC (.imm _) (cC (.imm _) .nil)) rfl rfl rfl rfl rfl ?_
          refine .m rfl (met rfl rfl rfl g46) rfl rfl ?_
          refine .m rfl (met rfl rfl rfl g47) rfl rfl ?_
          refine .call (.i t42) [] 0 (trade_Book_Next.ok ((if_pos ⟨(by first | (simp only [g46, g47, g48, Bool.true_or, Bool.or_true, Bool.false_or, Bool.or_false, Bool.true_and, Bool.and_true, Bool.false_and, Bool.and_false, Bool.not_true, Bool.not_false, cond_true, cond_false]; done) | (repeat (first | rw [g46] | rw [g47] | rw [g48])) <;> simp only [Bool.true_or, Bool.or_true, Bool.false_or, Bool.or_false, Bool.true_and, Bool.and_true, Bool.false_and, Bool.and_false, Bool.not_true, Bool.not_false, cond_true, cond_false]), (by first | (simp only [g46, g47, g48, Bool.true_or, Bool.or_true, Bool.false_or, Bool.or_false, Bool.true_and, Bool.and_true, Bool.false_and, Bool.and_false, Bool.not_true, Bool.not_false, cond_true, cond_false]; done) | (repeat (first | rw [g46] | rw [g47] | rw [g48])) <;> simp only [Bool.true_or, Bool.or_true, Bool.false_or, Bool.or_false, Bool.true_and, Bool.and_true, Bool.false_and, Bool.and_false, Bool.not_true, Bool.not_false, cond_true, cond_false])⟩).symm.trans b43)) rfl (met rfl rfl rfl g47) rfl ca19 rfl rfl (cC (.imm _) .nil) rfl rfl rfl rfl rfl ?_
          refine .m rfl (met rfl rfl rfl g47) rfl rfl ?_
          refine .v rfl (met rfl rfl rfl g47) (OpL.binI rfl rfl rfl rfl) ?_
          refine .v rfl (met rfl rfl rfl g46) (O.pickT g47 rfl rfl rfl) ?_
          refine .v rfl rfl (O.pickF g46 rfl rfl rfl) ?_
          refine .m rfl rfl rfl rfl ?_
          refine .call (.b t44) [] 0 (lombardlaw23_awake.ok ((if_pos (by first | (simp only [g46, g47, g48, Bool.true_or, Bool.or_true, Bool.false_or, Bool.or_false, Bool.true_and, Bool.and_true, Bool.false_and, Bool.and_false, Bool.not_true, Bool.not_false, cond_true, cond_false]; done) | (repeat (first | rw [g46] | rw [g47] | rw [g48])) <;> simp only [Bool.true_or, Bool.or_true, Bool.false_or, Bool.or_false, Bool.true_and, Bool.and_true, Bool.false_and, Bool.and_false, Bool.not_true, Bool.not_false, cond_true, cond_false])).symm.trans b45)) rfl (met rfl rfl rfl g48) rfl ca8 rfl rfl .nil rfl rfl rfl rfl rfl ?_
          refine .v rfl rfl (O.pickT g48 rfl rfl rfl) ?_
          refine .a rfl rfl rfl rfl ?_
          refine .nil ?_
          exact toN (Gives.mkR [] (.c rfl (sbb (by first | (simp only [g46, g47, g48, Bool.true_or, Bool.or_true, Bool.false_or, Bool.or_false, Bool.true_and, Bool.and_true, Bool.false_and, Bool.and_false, Bool.not_true, Bool.not_false, cond_true, cond_false]; done) | (repeat (first | rw [g46] | rw [g47] | rw [g48])) <;> simp only [Bool.true_or, Bool.or_true, Bool.false_or, Bool.or_false, Bool.true_and, Bool.and_true, Bool.false_and, Bool.and_false, Bool.not_true, Bool.not_false, cond_true, cond_false])) rfl .n) .n rfl rfl rfl)
         ·refine W.pk ?_
          refine .m rfl rfl rfl rfl ?_
          refine .v rfl rfl (OpL.binI rfl rfl rfl rfl) ?_
          refine .m rfl rfl rfl rfl ?_
          refine .m rfl (met rfl rfl rfl g46) rfl rfl ?_
          refine .call (.imm (.row 11 (List.map api_Trade.enc t38))) [] 0 (trade_Book_All_v2.ok ((if_pos (by first | (simp only [g46, g47, g48, Bool.true_or, Bool.or_true, Bool.false_or, Bool.or_false, Bool.true_and, Bool.and_true, Bool.false_and, Bool.and_false, Bool.not_true, Bool.not_false, cond_true, cond_false]; done) | (repeat (first | rw [g46] | rw [g47] | rw [g48])) <;> simp only [Bool.true_or, Bool.or_true, Bool.false_or, Bool.or_false, Bool.true_and, Bool.and_true, Bool.false_and, Bool.and_false, Bool.not_true, Bool.not_false, cond_true, cond_false])).symm.trans b39)) rfl (met rfl rfl rfl g46) rfl ca18 rfl rfl (cC (.imm _) .nil) rfl rfl rfl rfl rfl ?_
          refine .m rfl (met rfl rfl rfl g46) rfl rfl ?_
          refine .call (.b t40) [] 0 (lombardref23_All.ok ((if_pos (by first | (simp only [g46, g47, g48, Bool.true_or, Bool.or_true, Bool.false_or, Bool.or_false, Bool.true_and, Bool.and_true, Bool.false_and, Bool.and_false, Bool.not_true, Bool.not_false, cond_true, cond_false]; done) | (repeat (first | rw [g46] | rw [g47] | rw [g48])) <;> simp only [Bool.true_or, Bool.or_true, Bool.false_or, Bool.or_false, Bool.true_and, Bool.and_true, Bool.false_and, Bool.and_false, Bool.not_true, Bool.not_false, cond_true, cond_false])).symm.trans b41)) rfl (met rfl rfl rfl g46) rfl ca17 rfl rfl (cC (.imm _) (cC (.imm _) .nil)) rfl rfl rfl rfl rfl ?_
          refine .m rfl (met rfl rfl rfl g46) rfl rfl ?_
          refine .m rfl (met rfl rfl rfl g47) rfl rfl ?_
          refine .call (.i t42) [] 0 (trade_Book_Next.ok ((if_pos ⟨(by first | (simp only [g46, g47, g48, Bool.true_or, Bool.or_true, Bool.false_or, Bool.or_false, Bool.true_and, Bool.and_true, Bool.false_and, Bool.and_false, Bool.not_true, Bool.not_false, cond_true, cond_false]; done) | (repeat (first | rw [g46] | rw [g47] | rw [g48])) <;> simp only [Bool.true_or, Bool.or_true, Bool.false_or, Bool.or_false, Bool.true_and, Bool.and_true, Bool.false_and, Bool.and_false, Bool.not_true, Bool.not_false, cond_true, cond_false]), (by first | (simp only [g46, g47, g48, Bool.true_or, Bool.or_true, Bool.false_or, Bool.or_false, Bool.true_and, Bool.and_true, Bool.false_and, Bool.and_false, Bool.not_true, Bool.not_false, cond_true, cond_false]; done) | (repeat (first | rw [g46] | rw [g47] | rw [g48])) <;> simp only [Bool.true_or, Bool.or_true, Bool.false_or, Bool.or_false, Bool.true_and, Bool.and_true, Bool.false_and, Bool.and_false, Bool.not_true, Bool.not_false, cond_true, cond_false])⟩).symm.trans b43)) rfl (met rfl rfl rfl g47) rfl ca19 rfl rfl (cC (.imm _) .nil) rfl rfl rfl rfl rfl ?_
          refine .m rfl (met rfl rfl rfl g47) rfl rfl ?_
          refine .v rfl (met rfl rfl rfl g47) (OpL.binI rfl rfl rfl rfl) ?_
          refine .v rfl (met rfl rfl rfl g46) (O.pickT g47 rfl rfl rfl) ?_
          refine .v rfl rfl (O.pickF g46 rfl rfl rfl) ?_
          refine .m rfl rfl rfl rfl ?_
          refine .x rfl (unmet rfl rfl rfl g48) ?_
          refine .v rfl rfl (O.pickF g48 rfl rfl rfl) ?_
          refine .a rfl rfl rfl rfl ?_
          refine .nil ?_
          exact toN (Gives.mkR [] (.c rfl (sbb (by first | (simp only [g46, g47, g48, Bool.true_or, Bool.or_true, Bool.false_or, Bool.or_false, Bool.true_and, Bool.and_true, Bool.false_and, Bool.and_false, Bool.not_true, Bool.not_false, cond_true, cond_false]; done) | (repeat (first | rw [g46] | rw [g47] | rw [g48])) <;> simp only [Bool.true_or, Bool.or_true, Bool.false_or, Bool.or_false, Bool.true_and, Bool.and_true, Bool.false_and, Bool.and_false, Bool.not_true, Bool.not_false, cond_true, cond_false])) rfl .n) .n rfl rfl rfl)
        ·refine W.pk ?_
         refine .m rfl rfl rfl rfl ?_
         refine .v rfl rfl (OpL.binI rfl rfl rfl rfl) ?_
         refine .m rfl rfl rfl rfl ?_
         refine .m rfl (met rfl rfl rfl g46) rfl rfl ?_
         refine .call (.imm (.row 11 (List.map api_Trade.enc t38))) [] 0 (trade_Book_All_v2.ok ((if_pos (by first | (simp only [g46, g47, Bool.true_or, Bool.or_true, Bool.false_or, Bool.or_false, Bool.true_and, Bool.and_true, Bool.false_and, Bool.and_false, Bool.not_true, Bool.not_false, cond_true, cond_false]; done) | (repeat (first | rw [g46] | rw [g47])) <;> simp only [Bool.true_or, Bool.or_true, Bool.false_or, Bool.or_false, Bool.true_and, Bool.and_true, Bool.false_and, Bool.and_false, Bool.not_true, Bool.not_false, cond_true, cond_false])).symm.trans b39)) rfl (met rfl rfl rfl g46) rfl ca18 rfl rfl (cC (.imm _) .nil) rfl rfl rfl rfl rfl ?_
         refine .m rfl (met rfl rfl rfl g46) rfl rfl ?_
         refine .call (.b t40) [] 0 (lombardref23_All.ok ((if_pos (by first | (simp only [g46, g47, Bool.true_or, Bool.or_true, Bool.false_or, Bool.or_false, Bool.true_and, Bool.and_true, Bool.false_and, Bool.and_false, Bool.not_true, Bool.not_false, cond_true, cond_false]; done) | (repeat (first | rw [g46] | rw [g47])) <;> simp only [Bool.true_or, Bool.or_true, Bool.false_or, Bool.or_false, Bool.true_and, Bool.and_true, Bool.false_and, Bool.and_false, Bool.not_true, Bool.not_false, cond_true, cond_false])).symm.trans b41)) rfl (met rfl rfl rfl g46) rfl ca17 rfl rfl (cC (.imm _) (cC (.imm _) .nil)) rfl rfl rfl rfl rfl ?_
         refine .m rfl (met rfl rfl rfl g46) rfl rfl ?_
         refine .x rfl (unmet rfl rfl rfl g47) ?_
         refine .x rfl (unmet rfl rfl rfl g47) ?_
         refine .x rfl (unmet rfl rfl rfl g47) ?_
         refine .x rfl (unmet rfl rfl rfl g47) ?_
         refine .v rfl (met rfl rfl rfl g46) (O.pickF g47 rfl rfl rfl) ?_
         refine .v rfl rfl (O.pickF g46 rfl rfl rfl) ?_
         refine .m rfl rfl rfl rfl ?_
         refine .x rfl (unmet rfl rfl rfl rfl) ?_
         refine .v rfl rfl (O.pickF rfl rfl rfl rfl) ?_
         refine .a rfl rfl rfl rfl ?_
         refine .nil ?_
         exact toN (Gives.mkR [] (.c rfl (sbb (by first | (simp only [g46, g47, Bool.true_or, Bool.or_true, Bool.false_or, Bool.or_false, Bool.true_and, Bool.and_true, Bool.false_and, Bool.and_false, Bool.not_true, Bool.not_false, cond_true, cond_false]; done) | (repeat (first | rw [g46] | rw [g47])) <;> simp only [Bool.true_or, Bool.or_true, Bool.false_or, Bool.or_false, Bool.true_and, Bool.and_true, Bool.false_and, Bool.and_false, Bool.not_true, Bool.not_false, cond_true, cond_false])) rfl .n) .n rfl rfl rfl)
    ·clear h
     rcases tf (t30.2 != t34) with g36 | g36
     ·refine W.pk ?_
      refine .m rfl rfl rfl rfl ?_
      refine .m rfl rfl rfl rfl ?_
      refine .m rfl rfl rfl rfl ?_
      refine .call (.i t34) [] 0 (lombardref23_Load.ok b35) rfl rfl rfl ca16 rfl rfl (cC (.imm _) (cC (.imm _) .nil)) rfl rfl rfl rfl rfl ?_
      refine .v rfl rfl (OpL.binI rfl rfl rfl rfl) ?_
      refine .m rfl rfl rfl rfl ?_
      refine .x rfl (unmet rfl rfl rfl g36) ?_
      refine .x rfl (unmet rfl rfl rfl g36) ?_
      refine .x rfl (unmet rfl rfl rfl g36) ?_
      refine .x rfl (unmet rfl rfl rfl g36) ?_
      refine .x rfl (unmet rfl rfl rfl g36) ?_
      refine .v rfl rfl (O.pickT g36 rfl rfl rfl) ?_
      refine .nil ?_
      exact toN (Gives.mkR [] (.r rfl rfl (.r rfl rfl (.r rfl rfl (.r rfl rfl (.c rfl (sbb (by simp only [g36, Bool.true_or, Bool.or_true, Bool.false_or, Bool.or_false, Bool.true_and, Bool.and_true, Bool.false_and, Bool.and_false, Bool.not_true, Bool.not_false, cond_true, cond_false])) rfl .n))))) .n rfl rfl rfl)
     ·refine W.pk ?_
      refine .m rfl rfl rfl rfl ?_
      refine .m rfl rfl rfl rfl ?_
      refine .m rfl rfl rfl rfl ?_
      refine .call (.i t34) [] 0 (lombardref23_Load.ok b35) rfl rfl rfl ca16 rfl rfl (cC (.imm _) (cC (.imm _) .nil)) rfl rfl rfl rfl rfl ?_
      refine .v rfl rfl (OpL.binI rfl rfl rfl rfl) ?_
      refine .m rfl rfl rfl rfl ?_
      refine .m rfl (met rfl rfl rfl g36) rfl rfl ?_
      refine .v rfl (met rfl rfl rfl g36) (O.nePnn rfl u36 rfl rfl) ?_
      refine .m rfl (met rfl rfl rfl g36) rfl rfl ?_
      refine .v rfl (met rfl rfl rfl g36) (OpL.binI rfl rfl rfl rfl) ?_
      refine .v rfl (met rfl rfl rfl g36) (OpL.neB rfl u4 rfl rfl) ?_
      refine .v rfl rfl (O.pickF g36 rfl rfl rfl) ?_
      refine .nil ?_
      exact toN (Gives.mkR [] (.r rfl rfl (.r rfl rfl (.r rfl rfl (.r rfl rfl (.c rfl (sbb (by simp only [g36, Bool.true_or, Bool.or_true, Bool.false_or, Bool.or_false, Bool.true_and, Bool.and_true, Bool.false_and, Bool.and_false, Bool.not_true, Bool.not_false, cond_true, cond_false])) rfl .n))))) .n rfl rfl rfl)
   ·rw [o32] at h; dsimp only at h
    refine W.pk ?_
    refine .m rfl rfl rfl rfl ?_
    refine .m rfl rfl rfl rfl ?_
    refine .call (.tup [.ptr 1000 0, .i t30.2]) [(1000, some (.box [.own 1001, .i v33.next, .b v33.made])), (1001, some (.rows 26 11 (List.map api_Trade.enc v33.l) false))] 2 (Spec.cast (.tup [.xbox [.xown 26 11 (List.map api_Trade.enc v33.l), .imm (.val (.int .i64 v33.next)), .imm (.val (.bool v33.made))], .imm (.val (.int .i64 t30.2))]) (by rw [o32]) (trade_Load.ok b31)) rfl rfl rfl ca15 rfl rfl (cC (.imm _) (cC (.imm _) .nil)) rfl rfl rfl rfl rfl ?_
    refine .m rfl rfl rfl rfl ?_
    refine .v rfl rfl (OpL.extract rfl rfl rfl) ?_
    refine .v rfl rfl (OpL.extract rfl rfl rfl) ?_
    refine .a rfl rfl rfl rfl ?_
    refine .a rfl rfl rfl rfl ?_
    refine .nil ?_
    refine W.seq ?_
    refine W.seq ?_
    obtain ⟨t49, b50, h⟩ := bnd1 h
    refine W.fork (mkSt [(0, some (.imm (.row 11 (List.map api_Trade.enc x0)))), (1, some (.i x1)), (6, some (.ptr 1000 0)), (7, some (.i t30.2)), (43, some (.b ((t30.2 != t49) || (!(true == (t30.2 == 0))))))] [(1000, some (.box [.own 1001, .i v33.next, .b v33.made])), (1001, some (.rows 26 11 (List.map api_Trade.enc v33.l) false))] 1002) ?_ ?_
    ·refine W.cond rfl (fun q52 => ?_) (fun q52 => ?_)
     ·have h := ifT q52 h
      refine W.seq ?_
      refine W.pk ?_
      refine .a rfl rfl rfl rfl ?_
      refine .nil ?_
      refine W.ret ?_
      cases h
      exact leaves (.inr rfl) rfl (.imm _) (cN (cN .nil)) rfl rfl
     ·have h := ifF q52 h
      refine W.skip ?_
      refine W.seq ?_
      obtain ⟨t53, b54, h⟩ := bnd1 h
      obtain ⟨t55, b56, h⟩ := bnd1 h
      obtain ⟨t57, b58, h⟩ := bnd1 h
      obtain ⟨t59, b60, h⟩ := bnd1 h
      refine W.fork (mkSt [(4, some (.b (((t30.2 != 0) || (t55 && (t57 == x1))) && t59)))] [] 1005) ?_ ?_
      ·refine W.ret ?_
       cases h
       exact leaves (.inr rfl) rfl (.imm _) (cN (cN .nil)) rfl rfl
      ·clear h
       rcases tf (t30.2 != 0) with g61 | g61
       ·refine W.pk ?_
        refine .m rfl rfl rfl rfl ?_
        refine .v rfl rfl (OpL.binI rfl rfl rfl rfl) ?_
        refine .m rfl rfl rfl rfl ?_
        refine .x rfl (unmet rfl rfl rfl g61) ?_
        refine .x rfl (unmet rfl rfl rfl g61) ?_
        refine .x rfl (unmet rfl rfl rfl g61) ?_
        refine .x rfl (unmet rfl rfl rfl g61) ?_
        refine .x rfl (unmet rfl rfl rfl g61) ?_
        refine .x rfl (unmetU rfl rfl rfl) ?_
        refine .x rfl (unmetU rfl rfl rfl) ?_
        refine .x rfl (unmetU rfl rfl rfl) ?_
        refine .x rfl (unmetU rfl rfl rfl) ?_
        refine .x rfl (unmet rfl rfl rfl g61) ?_
        refine .v rfl rfl (O.pickT g61 rfl rfl rfl) ?_
        refine .m rfl rfl rfl rfl ?_
        refine .call (.b t59) [] 0 (lombardlaw23_awake.ok ((if_pos (by simp only [g61, Bool.true_or, Bool.or_true, Bool.false_or, Bool.or_false, Bool.true_and, Bool.and_true, Bool.false_and, Bool.and_false, Bool.not_true, Bool.not_false, cond_true, cond_false])).symm.trans b60)) rfl (met rfl rfl rfl rfl) rfl ca8 rfl rfl .nil rfl rfl rfl rfl rfl ?_
        refine .v rfl rfl (O.pickT rfl rfl rfl rfl) ?_
        refine .a rfl rfl rfl rfl ?_
        refine .nil ?_
        exact toN (Gives.mkR [] (.c rfl (sbb (by simp only [g61, Bool.true_or, Bool.or_true, Bool.false_or, Bool.or_false, Bool.true_and, Bool.and_true, Bool.false_and, Bool.and_false, Bool.not_true, Bool.not_false, cond_true, cond_false])) rfl .n) .n rfl rfl rfl)
       ·rcases tf t55 with g62 | g62
        ·rcases tf (t57 == x1) with g63 | g63
         ·refine W.pk ?_
          refine .m rfl rfl rfl rfl ?_
          refine .v rfl rfl (OpL.binI rfl rfl rfl rfl) ?_
          refine .m rfl rfl rfl rfl ?_
          refine .m rfl (met rfl rfl rfl g61) rfl rfl ?_
          refine .call (.own 1002) [(1002, some (.rows 26 11 (List.map api_Trade.enc t53) false)), (1000, some (.box [.own 1003, .i v33.next, .b v33.made])), (1003, some (.rows 26 11 (List.map api_Trade.enc v33.l) false)), (1000, none), (1001, none)] 2 (trade_Book_All.ok ((if_pos (by first | (simp only [g61, g62, g63, Bool.true_or, Bool.or_true, Bool.false_or, Bool.or_false, Bool.true_and, Bool.and_true, Bool.false_and, Bool.and_false, Bool.not_true, Bool.not_false, cond_true, cond_false]; done) | (repeat (first | rw [g61] | rw [g62] | rw [g63])) <;> simp only [Bool.true_or, Bool.or_true, Bool.false_or, Bool.or_false, Bool.true_and, Bool.and_true, Bool.false_and, Bool.and_false, Bool.not_true, Bool.not_false, cond_true, cond_false])).symm.trans b54)) rfl (met rfl rfl rfl g61) rfl ca18 rfl rfl (cC (.ptr _ _ _ _ _ rfl (cC (.own _ _ _ _ rfl) (cC (.imm _) (cC (.imm _) .nil)))) .nil) rfl rfl rfl rfl rfl ?_
          refine .m rfl (met rfl rfl rfl g61) rfl rfl ?_
          refine .call (.b t55) [(1002, some (.rows 26 11 (List.map api_Trade.enc t53) false)), (1002, none)] 0 (lombardref23_All_v2.ok ((if_pos (by first | (simp only [g61, g62, g63, Bool.true_or, Bool.or_true, Bool.false_or, Bool.or_false, Bool.true_and, Bool.and_true, Bool.false_and, Bool.and_false, Bool.not_true, Bool.not_false, cond_true, cond_false]; done) | (repeat (first | rw [g61] | rw [g62] | rw [g63])) <;> simp only [Bool.true_or, Bool.or_true, Bool.false_or, Bool.or_false, Bool.true_and, Bool.and_true, Bool.false_and, Bool.and_false, Bool.not_true, Bool.not_false, cond_true, cond_false])).symm.trans b56)) rfl (met rfl rfl rfl g61) rfl ca17 rfl rfl (cC (.own _ _ _ _ rfl) (cC (.imm _) .nil)) rfl rfl rfl rfl rfl ?_
          refine .m rfl (met rfl rfl rfl g61) rfl rfl ?_
          refine .m rfl (met rfl rfl rfl g62) rfl rfl ?_
          refine .call (.i t57) [(1000, some (.box [.own 1004, .i v33.next, .b v33.made])), (1004, some (.rows 26 11 (List.map api_Trade.enc v33.l) false)), (1000, none), (1003, none)] 1 (trade_Book_Next_v2.ok ((if_pos ⟨(by first | (simp only [g61, g62, g63, Bool.true_or, Bool.or_true, Bool.false_or, Bool.or_false, Bool.true_and, Bool.and_true, Bool.false_and, Bool.and_false, Bool.not_true, Bool.not_false, cond_true, cond_false]; done) | (repeat (first | rw [g61] | rw [g62] | rw [g63])) <;> simp only [Bool.true_or, Bool.or_true, Bool.false_or, Bool.or_false, Bool.true_and, Bool.and_true, Bool.false_and, Bool.and_false, Bool.not_true, Bool.not_false, cond_true, cond_false]), (by first | (simp only [g61, g62, g63, Bool.true_or, Bool.or_true, Bool.false_or, Bool.or_false, Bool.true_and, Bool.and_true, Bool.false_and, Bool.and_false, Bool.not_true, Bool.not_false, cond_true, cond_false]; done) | (repeat (first | rw [g61] | rw [g62] | rw [g63])) <;> simp only [Bool.true_or, Bool.or_true, Bool.false_or, Bool.or_false, Bool.true_and, Bool.and_true, Bool.false_and, Bool.and_false, Bool.not_true, Bool.not_false, cond_true, cond_false])⟩).symm.trans b58)) rfl (met rfl rfl rfl g62) rfl ca19 rfl rfl (cC (.ptr _ _ _ _ _ rfl (cC (.own _ _ _ _ rfl) (cC (.imm _) (cC (.imm _) .nil)))) .nil) rfl rfl rfl rfl rfl ?_
          refine .m rfl (met rfl rfl rfl g62) rfl rfl ?_
          refine .v rfl (met rfl rfl rfl g62) (OpL.binI rfl rfl rfl rfl) ?_
          refine .v rfl (met rfl rfl rfl g61) (O.pickT g62 rfl rfl rfl) ?_
          refine .v rfl rfl (O.pickF g61 rfl rfl rfl) ?_
          refine .m rfl rfl rfl rfl ?_
          refine .call (.b t59) [] 0 (lombardlaw23_awake.ok ((if_pos (by first | (simp only [g61, g62, g63, Bool.true_or, Bool.or_true, Bool.false_or, Bool.or_false, Bool.true_and, Bool.and_true, Bool.false_and, Bool.and_false, Bool.not_true, Bool.not_false, cond_true, cond_false]; done) | (repeat (first | rw [g61] | rw [g62] | rw [g63])) <;> simp only [Bool.true_or, Bool.or_true, Bool.false_or, Bool.or_false, Bool.true_and, Bool.and_true, Bool.false_and, Bool.and_false, Bool.not_true, Bool.not_false, cond_true, cond_false])).symm.trans b60)) rfl (met rfl rfl rfl g63) rfl ca8 rfl rfl .nil rfl rfl rfl rfl rfl ?_
          refine .v rfl rfl (O.pickT g63 rfl rfl rfl) ?_
          refine .a rfl rfl rfl rfl ?_
          refine .nil ?_
          exact toN (Gives.mkR [] (.c rfl (sbb (by first | (simp only [g61, g62, g63, Bool.true_or, Bool.or_true, Bool.false_or, Bool.or_false, Bool.true_and, Bool.and_true, Bool.false_and, Bool.and_false, Bool.not_true, Bool.not_false, cond_true, cond_false]; done) | (repeat (first | rw [g61] | rw [g62] | rw [g63])) <;> simp only [Bool.true_or, Bool.or_true, Bool.false_or, Bool.or_false, Bool.true_and, Bool.and_true, Bool.false_and, Bool.and_false, Bool.not_true, Bool.not_false, cond_true, cond_false])) rfl .n) .n rfl rfl rfl)
         ·refine W.pk ?_
          refine .m rfl rfl rfl rfl ?_
          refine .v rfl rfl (OpL.binI rfl rfl rfl rfl) ?_
          refine .m rfl rfl rfl rfl ?_
          refine .m rfl (met rfl rfl rfl g61) rfl rfl ?_
          refine .call (.own 1002) [(1002, some (.rows 26 11 (List.map api_Trade.enc t53) false)), (1000, some (.box [.own 1003, .i v33.next, .b v33.made])), (1003, some (.rows 26 11 (List.map api_Trade.enc v33.l) false)), (1000, none), (1001, none)] 2 (trade_Book_All.ok ((if_pos (by first | (simp only [g61, g62, g63, Bool.true_or, Bool.or_true, Bool.false_or, Bool.or_false, Bool.true_and, Bool.and_true, Bool.false_and, Bool.and_false, Bool.not_true, Bool.not_false, cond_true, cond_false]; done) | (repeat (first | rw [g61] | rw [g62] | rw [g63])) <;> simp only [Bool.true_or, Bool.or_true, Bool.false_or, Bool.or_false, Bool.true_and, Bool.and_true, Bool.false_and, Bool.and_false, Bool.not_true, Bool.not_false, cond_true, cond_false])).symm.trans b54)) rfl (met rfl rfl rfl g61) rfl ca18 rfl rfl (cC (.ptr _ _ _ _ _ rfl (cC (.own _ _ _ _ rfl) (cC (.imm _) (cC (.imm _) .nil)))) .nil) rfl rfl rfl rfl rfl ?_
          refine .m rfl (met rfl rfl rfl g61) rfl rfl ?_
          refine .call (.b t55) [(1002, some (.rows 26 11 (List.map api_Trade.enc t53) false)), (1002, none)] 0 (lombardref23_All_v2.ok ((if_pos (by first | (simp only [g61, g62, g63, Bool.true_or, Bool.or_true, Bool.false_or, Bool.or_false, Bool.true_and, Bool.and_true, Bool.false_and, Bool.and_false, Bool.not_true, Bool.not_false, cond_true, cond_false]; done) | (repeat (first | rw [g61] | rw [g62] | rw [g63])) <;> simp only [Bool.true_or, Bool.or_true, Bool.false_or, Bool.or_false, Bool.true_and, Bool.and_true, Bool.false_and, Bool.and_false, Bool.not_true, Bool.not_false, cond_true, cond_false])).symm.trans b56)) rfl (met rfl rfl rfl g61) rfl ca17 rfl rfl (cC (.own _ _ _ _ rfl) (cC (.imm _) .nil)) rfl rfl rfl rfl rfl ?_
          refine .m rfl (met rfl rfl rfl g61) rfl rfl ?_
          refine .m rfl (met rfl rfl rfl g62) rfl rfl ?_
          refine .call (.i t57) [(1000, some (.box [.own 1004, .i v33.next, .b v33.made])), (1004, some (.rows 26 11 (List.map api_Trade.enc v33.l) false)), (1000, none), (1003, none)] 1 (trade_Book_Next_v2.ok ((if_pos ⟨(by first | (simp only [g61, g62, g63, Bool.true_or, Bool.or_true, Bool.false_or, Bool.or_false, Bool.true_and, Bool.and_true, Bool.false_and, Bool.and_false, Bool.not_true, Bool.not_false, cond_true, cond_false]; done) | (repeat (first | rw [g61] | rw [g62] | rw [g63])) <;> simp only [Bool.true_or, Bool.or_true, Bool.false_or, Bool.or_false, Bool.true_and, Bool.and_true, Bool.false_and, Bool.and_false, Bool.not_true, Bool.not_false, cond_true, cond_false]), (by first | (simp only [g61, g62, g63, Bool.true_or, Bool.or_true, Bool.false_or, Bool.or_false, Bool.true_and, Bool.and_true, Bool.false_and, Bool.and_false, Bool.not_true, Bool.not_false, cond_true, cond_false]; done) | (repeat (first | rw [g61] | rw [g62] | rw [g63])) <;> simp only [Bool.true_or, Bool.or_true, Bool.false_or, Bool.or_false, Bool.true_and, Bool.and_true, Bool.false_and, Bool.and_false, Bool.not_true, Bool.not_false, cond_true, cond_false])⟩).symm.trans b58)) rfl (met rfl rfl rfl g62) rfl ca19 rfl rfl (cC (.ptr _ _ _ _ _ rfl (cC (.own _ _ _ _ rfl) (cC (.imm _) (cC (.imm _) .nil)))) .nil) rfl rfl rfl rfl rfl ?_
          refine .m rfl (met rfl rfl rfl g62) rfl rfl ?_
          refine .v rfl (met rfl rfl rfl g62) (OpL.binI rfl rfl rfl rfl) ?_
          refine .v rfl (met rfl rfl rfl g61) (O.pickT g62 rfl rfl rfl) ?_
          refine .v rfl rfl (O.pickF g61 rfl rfl rfl) ?_
          refine .m rfl rfl rfl rfl ?_
          refine .x rfl (unmet rfl rfl rfl g63) ?_
          refine .v rfl rfl (O.pickF g63 rfl rfl rfl) ?_
          refine .a rfl rfl rfl rfl ?_
          refine .nil ?_
          exact toN (Gives.mkR [] (.c rfl (sbb (by first | (simp only [g61, g62, g63, Bool.true_or, Bool.or_true, Bool.false_or, Bool.or_false, Bool.true_and, Bool.and_true, Bool.false_and, Bool.and_false, Bool.not_true, Bool.not_false, cond_true, cond_false]; done) | (repeat (first | rw [g61] | rw [g62] | rw [g63])) <;> simp only [Bool.true_or, Bool.or_true, Bool.false_or, Bool.or_false, Bool.true_and, Bool.and_true, Bool.false_and, Bool.and_false, Bool.not_true, Bool.not_false, cond_true, cond_false])) rfl .n) .n rfl rfl rfl)
        ·refine W.pk ?_
         refine .m rfl rfl rfl rfl ?_
         refine .v rfl rfl (OpL.binI rfl rfl rfl rfl) ?_
         refine .m rfl rfl rfl rfl ?_
         refine .m rfl (met rfl rfl rfl g61) rfl rfl ?_
         refine .call (.own 1002) [(1002, some (.rows 26 11 (List.map api_Trade.enc t53) false)), (1000, some (.box [.own 1003, .i v33.next, .b v33.made])), (1003, some (.rows 26 11 (List.map api_Trade.enc v33.l) false)), (1000, none), (1001, none)] 2 (trade_Book_All.ok ((if_pos (by first | (simp only [g61, g62, Bool.true_or, Bool.or_true, Bool.false_or, Bool.or_false, Bool.true_and, Bool.and_true, Bool.false_and, Bool.and_false, Bool.not_true, Bool.not_false, cond_true, cond_false]; done) | (repeat (first | rw [g61] | rw [g62])) <;> simp only [Bool.true_or, Bool.or_true, Bool.false_or, Bool.or_false, Bool.true_and, Bool.and_true, Bool.false_and, Bool.and_false, Bool.not_true, Bool.not_false, cond_true, cond_false])).symm.trans b54)) rfl (met rfl rfl rfl g61) rfl ca18 rfl rfl (cC (.ptr _ _ _ _ _ rfl (cC (.own _ _ _ _ rfl) (cC (.imm _) (cC (.imm _) .nil)))) .nil) rfl rfl rfl rfl rfl ?_
         refine .m rfl (met rfl rfl rfl g61) rfl rfl ?_
         refine .call (.b t55) [(1002, some (.rows 26 11 (List.map api_Trade.enc t53) false)), (1002, none)] 0 (lombardref23_All_v2.ok ((if_pos (by first | (simp only [g61, g62, Bool.true_or, Bool.or_true, Bool.false_or, Bool.or_false, Bool.true_and, Bool.and_true, Bool.false_and, Bool.and_false, Bool.not_true, Bool.not_false, cond_true, cond_false]; done) | (repeat (first | rw [g61] | rw [g62])) <;> simp only [Bool.true_or, Bool.or_true, Bool.false_or, Bool.or_false, Bool.true_and, Bool.and_true, Bool.false_and, Bool.and_false, Bool.not_true, Bool.not_false, cond_true, cond_false])).symm.trans b56)) rfl (met rfl rfl rfl g61) rfl ca17 rfl rfl (cC (.own _ _ _ _ rfl) (cC (.imm _) .nil)) rfl rfl rfl rfl rfl ?_
         refine .m rfl (met rfl rfl rfl g61) rfl rfl ?_
         refine .x rfl (unmet rfl rfl rfl g62) ?_
         refine .x rfl (unmet rfl rfl rfl g62) ?_
         refine .x rfl (unmet rfl rfl rfl g62) ?_
         refine .x rfl (unmet rfl rfl rfl g62) ?_
         refine .v rfl (met rfl rfl rfl g61) (O.pickF g62 rfl rfl rfl) ?_
         refine .v rfl rfl (O.pickF g61 rfl rfl rfl) ?_
         refine .m rfl rfl rfl rfl ?_
         refine .x rfl (unmet rfl rfl rfl rfl) ?_
         refine .v rfl rfl (O.pickF rfl rfl rfl rfl) ?_
         refine .a rfl rfl rfl rfl ?_
         refine .nil ?_
         exact toN (Gives.mkR [] (.c rfl (sbb (by first | (simp only [g61, g62, Bool.true_or, Bool.or_true, Bool.false_or, Bool.or_false, Bool.true_and, Bool.and_true, Bool.false_and, Bool.and_false, Bool.not_true, Bool.not_false, cond_true, cond_false]; done) | (repeat (first | rw [g61] | rw [g62])) <;> simp only [Bool.true_or, Bool.or_true, Bool.false_or, Bool.or_false, Bool.true_and, Bool.and_true, Bool.false_and, Bool.and_false, Bool.not_true, Bool.not_false, cond_true, cond_false])) rfl .n) .n rfl rfl rfl)
    ·clear h
     rcases tf (t30.2 != t49) with g51 | g51
     ·refine W.pk ?_
      refine .m rfl rfl rfl rfl ?_
      refine .m rfl rfl rfl rfl ?_
      refine .m rfl rfl rfl rfl ?_
      refine .call (.i t49) [] 0 (lombardref23_Load.ok b50) rfl rfl rfl ca16 rfl rfl (cC (.imm _) (cC (.imm _) .nil)) rfl rfl rfl rfl rfl ?_
      refine .v rfl rfl (OpL.binI rfl rfl rfl rfl) ?_
      refine .m rfl rfl rfl rfl ?_
      refine .x rfl (unmet rfl rfl rfl g51) ?_
      refine .x rfl (unmet rfl rfl rfl g51) ?_
      refine .x rfl (unmet rfl rfl rfl g51) ?_
      refine .x rfl (unmet rfl rfl rfl g51) ?_
      refine .x rfl (unmet rfl rfl rfl g51) ?_
      refine .v rfl rfl (O.pickT g51 rfl rfl rfl) ?_
      refine .nil ?_
      exact toN (Gives.mkR [] (.r rfl rfl (.r rfl rfl (.r rfl rfl (.r rfl rfl (.c rfl (sbb (by simp only [g51, Bool.true_or, Bool.or_true, Bool.false_or, Bool.or_false, Bool.true_and, Bool.and_true, Bool.false_and, Bool.and_false, Bool.not_true, Bool.not_false, cond_true, cond_false])) rfl .n))))) (.r rfl rfl rfl (.r rfl rfl rfl .n)) rfl rfl rfl)
     ·refine W.pk ?_
      refine .m rfl rfl rfl rfl ?_
      refine .m rfl rfl rfl rfl ?_
      refine .m rfl rfl rfl rfl ?_
      refine .call (.i t49) [] 0 (lombardref23_Load.ok b50) rfl rfl rfl ca16 rfl rfl (cC (.imm _) (cC (.imm _) .nil)) rfl rfl rfl rfl rfl ?_
      refine .v rfl rfl (OpL.binI rfl rfl rfl rfl) ?_
      refine .m rfl rfl rfl rfl ?_
      refine .m rfl (met rfl rfl rfl g51) rfl rfl ?_
      refine .v rfl (met rfl rfl rfl g51) (OpL.neP rfl u36 rfl rfl rfl) ?_
      refine .m rfl (met rfl rfl rfl g51) rfl rfl ?_
      refine .v rfl (met rfl rfl rfl g51) (OpL.binI rfl rfl rfl rfl) ?_
      refine .v rfl (met rfl rfl rfl g51) (OpL.neB rfl u4 rfl rfl) ?_
      refine .v rfl rfl (O.pickF g51 rfl rfl rfl) ?_
      refine .nil ?_
      exact toN (Gives.mkR [] (.r rfl rfl (.r rfl rfl (.r rfl rfl (.r rfl rfl (.c rfl (sbb (by simp only [g51, Bool.true_or, Bool.or_true, Bool.false_or, Bool.or_false, Bool.true_and, Bool.and_true, Bool.false_and, Bool.and_false, Bool.not_true, Bool.not_false, cond_true, cond_false])) rfl .n))))) (.r rfl rfl rfl (.r rfl rfl rfl .n)) rfl rfl rfl)
end Go.Proofs.Ytidinbjehfodoaa
