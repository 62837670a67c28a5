/- Shows what functions of the program come to, each as a plain function: written by a program of the author's for this claim. -/
import Derived.Test.YtidinbjehfodoaaGx7
namespace Go.Proofs.Ytidinbjehfodoaa
open Go Go.Pm
set_option linter.unusedVariables false
set_option linter.unusedSimpArgs false
noncomputable def trade_Book_Drop_1_v2.f (x0 : api_Trade) (x1 : Int) (x2 : api_Trade) : Option (Bool) :=
  some ((x0.ID == x1) || (x0.ID == x2.Twin))
set_option maxRecDepth 100000 in
set_option maxHeartbeats 4000000 in
theorem trade_Book_Drop_1_v2.ok {x0 : api_Trade} {x1 : Int} {x2 : api_Trade} {r : Bool} (h : trade_Book_Drop_1_v2.f x0 x1 x2 = some r) : Pm.Spec prog 49 [.agg [.imm (.val (.int .i64 x0.ID)), .imm (.val (.int .i64 x0.Twin)), .imm (.val (.int .i64 x0.Member)), .imm (.val (.int .i64 x0.Side)), .imm (.val (.int .i64 x0.Basket)), .imm (.val (.int .i64 x0.Amount)), .imm (.val (.int .i64 x0.Start)), .imm (.val (.int .i64 x0.End)), .imm (.row 2 (List.map api_Reset.enc x0.Resets)), .imm (.val (.int .i64 x0.Stage)), .imm (.val (.bool x0.Short))], .xbox [.imm (.val (.int .i64 x1))], .xbox [.imm (.val (.int .i64 x2.ID)), .imm (.val (.int .i64 x2.Twin)), .imm (.val (.int .i64 x2.Member)), .imm (.val (.int .i64 x2.Side)), .imm (.val (.int .i64 x2.Basket)), .imm (.val (.int .i64 x2.Amount)), .imm (.val (.int .i64 x2.Start)), .imm (.val (.int .i64 x2.End)), .imm (.row 2 (List.map api_Reset.enc x2.Resets)), .imm (.val (.int .i64 x2.Stage)), .imm (.val (.bool x2.Short))]] (.imm (.val (.bool r))) [none, some (.xbox [.imm (.val (.int .i64 x1))]), some (.xbox [.imm (.val (.int .i64 x2.ID)), .imm (.val (.int .i64 x2.Twin)), .imm (.val (.int .i64 x2.Member)), .imm (.val (.int .i64 x2.Side)), .imm (.val (.int .i64 x2.Basket)), .imm (.val (.int .i64 x2.Amount)), .imm (.val (.int .i64 x2.Start)), .imm (.val (.int .i64 x2.End)), .imm (.row 2 (List.map api_Reset.enc x2.Resets)), .imm (.val (.int .i64 x2.Stage)), .imm (.val (.bool x2.Short))])] := by
 unfold trade_Book_Drop_1_v2.f at h
 refine Pm.Spec.of_body Try.func49 rfl (by kernel_rfl) (Nat.le_of_ble_eq_true rfl) (Nat.le_of_ble_eq_true rfl) ?_
 refine W.ghost (σ' := (mkSt [(0, some (.agg (api_Trade.av x0))), (1, some (.ptr 0 0)), (2, some (.ptr 1 0))] [(0, some (.box [.i x1])), (1, some (.box [.i x2.ID, .i x2.Twin, .i x2.Member, .i x2.Side, .i x2.Basket, .i x2.Amount, .i x2.Start, .i x2.End, .imm (.row 2 (List.map api_Reset.enc x2.Resets)), .i x2.Stage, .b x2.Short]))] 1000)) (Gives.entry (.c rfl (.c rfl (.c rfl .n))) (.c rfl (.c rfl .n))) ?_
 refine W.seq ?_
 refine W.pk ?_
 refine .t rfl rfl (O.box rfl rfl rfl rfl rfl) ?_
 refine .a rfl rfl rfl rfl ?_
 refine .nil ?_
 refine W.seq ?_
 refine W.fork (mkSt [(4, some (.b ((x0.ID == x1) || (x0.ID == x2.Twin))))] [(0, some (.box [.i x1])), (1, some (.box [.i x2.ID, .i x2.Twin, .i x2.Member, .i x2.Side, .i x2.Basket, .i x2.Amount, .i x2.Start, .i x2.End, .imm (.row 2 (List.map api_Reset.enc x2.Resets)), .i x2.Stage, .b x2.Short]))] 1001) ?_ ?_
 ·refine W.ret ?_
  cases h
  exact leaves (.inr rfl) rfl (.imm _) (cN (cS (.ptr _ _ _ _ _ rfl (cC (.imm _) .nil)) (cS (.ptr _ _ _ _ _ rfl (cC (.imm _) (cC (.imm _) (cC (.imm _) (cC (.imm _) (cC (.imm _) (cC (.imm _) (cC (.imm _) (cC (.imm _) (cC (.imm _) (cC (.imm _) (cC (.imm _) .nil)))))))))))) .nil))) rfl rfl
 ·clear h
  rcases tf (x0.ID == x1) with g1 | g1
  ·refine W.pk ?_
   refine .v rfl rfl (O.fld fld26_0 rfl rfl rfl) ?_
   refine .v rfl rfl (O.ld (y := .i x0.ID) ty3 rfl rfl rfl) ?_
   refine .v rfl rfl (O.ld (y := .i x1) ty3 rfl rfl rfl) ?_
   refine .v rfl rfl (OpL.binI rfl rfl rfl rfl) ?_
   refine .m rfl rfl rfl rfl ?_
   refine .x rfl (unmet rfl rfl rfl g1) ?_
   refine .x rfl (unmet rfl rfl rfl g1) ?_
   refine .x rfl (unmet rfl rfl rfl g1) ?_
   refine .x rfl (unmet rfl rfl rfl g1) ?_
   refine .x rfl (unmet rfl rfl rfl g1) ?_
   refine .v rfl rfl (O.pickT g1 rfl rfl rfl) ?_
   refine .a rfl rfl rfl rfl ?_
   refine .nil ?_
   exact toN (Gives.mkR [] (.c rfl (sbb (by simp only [g1, Bool.true_or, Bool.or_true, Bool.false_or, Bool.or_false, Bool.true_and, Bool.and_true, Bool.false_and, Bool.and_false, Bool.not_true, Bool.not_false, cond_true, cond_false])) rfl .n) (.r rfl rfl rfl (.r rfl rfl rfl .n)) rfl rfl rfl)
  ·refine W.pk ?_
   refine .v rfl rfl (O.fld fld26_0 rfl rfl rfl) ?_
   refine .v rfl rfl (O.ld (y := .i x0.ID) ty3 rfl rfl rfl) ?_
   refine .v rfl rfl (O.ld (y := .i x1) ty3 rfl rfl rfl) ?_
   refine .v rfl rfl (OpL.binI rfl rfl rfl rfl) ?_
   refine .m rfl rfl rfl rfl ?_
   refine .v rfl (met rfl rfl rfl g1) (O.fld fld26_0 rfl rfl rfl) ?_
   refine .v rfl (met rfl rfl rfl g1) (O.ld (y := .i x0.ID) ty3 rfl rfl rfl) ?_
   refine .v rfl (met rfl rfl rfl g1) (O.fld fld26_1 rfl rfl rfl) ?_
   refine .v rfl (met rfl rfl rfl g1) (O.ld (y := .i x2.Twin) ty3 rfl rfl rfl) ?_
   refine .v rfl (met rfl rfl rfl g1) (OpL.binI rfl rfl rfl rfl) ?_
   refine .v rfl rfl (O.pickF g1 rfl rfl rfl) ?_
   refine .a rfl rfl rfl rfl ?_
   refine .nil ?_
   exact toN (Gives.mkR [] (.c rfl (sbb (by simp only [g1, Bool.true_or, Bool.or_true, Bool.false_or, Bool.or_false, Bool.true_and, Bool.and_true, Bool.false_and, Bool.and_false, Bool.not_true, Bool.not_false, cond_true, cond_false])) rfl .n) (.r rfl rfl rfl (.r rfl rfl rfl .n)) rfl rfl rfl)

noncomputable def slices_IndexFunc_api_Trade__trade_Book_Drop_1.b0 (x0 : List api_Trade) (x1c0 : Int) (x1c1 : api_Trade) (v6 : Int) : Option (Int ⊕ (Int ⊕ Unit)) :=
  if (decide (v6 < (List.length x0 : Int))) = true then
    if (0 : Int) ≤ v6 ∧ v6 < (List.length x0 : Int) then
    (trade_Book_Drop_1_v2.f (nth x0 v6) x1c0 x1c1).bind fun t23 =>
    if t23 = true then
      some (.inr (.inl v6))
    else
      some (.inl (IntKind.wrap .i64 (v6 + 1)))
    else none
  else
    some (.inr (.inr ()))
noncomputable def slices_IndexFunc_api_Trade__trade_Book_Drop_1.r0 (x0 : List api_Trade) (x1c0 : Int) (x1c1 : api_Trade) (s : Int) : Option (Int ⊕ (Int ⊕ Unit)) := slices_IndexFunc_api_Trade__trade_Book_Drop_1.b0 x0 x1c0 x1c1 s
noncomputable def slices_IndexFunc_api_Trade__trade_Book_Drop_1.f (x0 : List api_Trade) (x1c0 : Int) (x1c1 : api_Trade) : Option (Int) :=
  (loop (slices_IndexFunc_api_Trade__trade_Book_Drop_1.r0 x0 x1c0 x1c1) 0).bind fun o18 =>
  match o18 with
  | .inl r26 => some r26
  | .inr w17 =>
    some (-1)
set_option maxRecDepth 100000 in
set_option maxHeartbeats 4000000 in
theorem slices_IndexFunc_api_Trade__trade_Book_Drop_1.ok {x0 : List api_Trade} {x1c0 : Int} {x1c1 : api_Trade} {r : Int} (h : slices_IndexFunc_api_Trade__trade_Book_Drop_1.f x0 x1c0 x1c1 = some r) : Pm.Spec prog 56 [.xown 26 11 (List.map api_Trade.enc x0), .fn 49 [.xbox [.imm (.val (.int .i64 x1c0))], .xbox [.imm (.val (.int .i64 x1c1.ID)), .imm (.val (.int .i64 x1c1.Twin)), .imm (.val (.int .i64 x1c1.Member)), .imm (.val (.int .i64 x1c1.Side)), .imm (.val (.int .i64 x1c1.Basket)), .imm (.val (.int .i64 x1c1.Amount)), .imm (.val (.int .i64 x1c1.Start)), .imm (.val (.int .i64 x1c1.End)), .imm (.row 2 (List.map api_Reset.enc x1c1.Resets)), .imm (.val (.int .i64 x1c1.Stage)), .imm (.val (.bool x1c1.Short))]]] (.imm (.val (.int .i64 r))) [some (.xown 26 11 (List.map api_Trade.enc x0)), some (.fn 49 [.xbox [.imm (.val (.int .i64 x1c0))], .xbox [.imm (.val (.int .i64 x1c1.ID)), .imm (.val (.int .i64 x1c1.Twin)), .imm (.val (.int .i64 x1c1.Member)), .imm (.val (.int .i64 x1c1.Side)), .imm (.val (.int .i64 x1c1.Basket)), .imm (.val (.int .i64 x1c1.Amount)), .imm (.val (.int .i64 x1c1.Start)), .imm (.val (.int .i64 x1c1.End)), .imm (.row 2 (List.map api_Reset.enc x1c1.Resets)), .imm (.val (.int .i64 x1c1.Stage)), .imm (.val (.bool x1c1.Short))]])] := by
 unfold slices_IndexFunc_api_Trade__trade_Book_Drop_1.f at h
 refine Pm.Spec.of_body Try.func56 rfl (by kernel_rfl) (Nat.le_of_ble_eq_true rfl) (Nat.le_of_ble_eq_true rfl) ?_
 refine W.ghost (σ' := (mkSt [(0, some (.own 0)), (1, some (.fn 49 [.ptr 1 0, .ptr 2 0]))] [(0, some (.rows 26 11 (List.map api_Trade.enc x0) false)), (1, some (.box [.i x1c0])), (2, some (.box [.i x1c1.ID, .i x1c1.Twin, .i x1c1.Member, .i x1c1.Side, .i x1c1.Basket, .i x1c1.Amount, .i x1c1.Start, .i x1c1.End, .imm (.row 2 (List.map api_Reset.enc x1c1.Resets)), .i x1c1.Stage, .b x1c1.Short]))] 1000)) (Gives.entry (.c rfl (.c rfl .n)) (.c rfl (.c rfl (.c rfl .n)))) ?_
 refine W.seq ?_
 refine W.pk ?_
 refine .a rfl rfl rfl rfl ?_
 refine .nil ?_
 refine W.seq ?_
 refine W.seq ?_
 refine W.pk ?_
 refine .m rfl rfl rfl rfl ?_
 refine .v rfl rfl (O.lenO sl35 rfl rfl rfl) ?_
 refine .m rfl rfl rfl rfl ?_
 refine .nil ?_
 obtain ⟨o18, b19, z20⟩ := bnd1 h
 refine W.fork2 (out := o18) (fun (w17 : Unit) => mkSt [] [(0, some (.rows 26 11 (List.map api_Trade.enc x0) false)), (1, some (.box [.i x1c0])), (2, some (.box [.i x1c1.ID, .i x1c1.Twin, .i x1c1.Member, .i x1c1.Side, .i x1c1.Basket, .i x1c1.Amount, .i x1c1.Start, .i x1c1.End, .imm (.row 2 (List.map api_Reset.enc x1c1.Resets)), .i x1c1.Stage, .b x1c1.Short]))] 1000) ?_ ?_
 ·clear h
  refine W.block ?_
  refine W.loopF (fun (s_ : Int) => mkSt [(0, some (.own 0)), (1, some (.fn 49 [.ptr 1 0, .ptr 2 0])), (7, some (.i (List.length x0 : Int))), (8, some (.i s_))] [(0, some (.rows 26 11 (List.map api_Trade.enc x0) false)), (1, some (.box [.i x1c0])), (2, some (.box [.i x1c1.ID, .i x1c1.Twin, .i x1c1.Member, .i x1c1.Side, .i x1c1.Basket, .i x1c1.Amount, .i x1c1.Start, .i x1c1.End, .imm (.row 2 (List.map api_Reset.enc x1c1.Resets)), .i x1c1.Stage, .b x1c1.Short]))] 1000) b19 (Gives.mkR [] (.r rfl rfl (.r rfl rfl (.r rfl rfl (.r rfl rfl .n)))) (.r rfl rfl rfl (.r rfl rfl rfl (.r rfl rfl rfl .n))) rfl rfl rfl) ?_
  rintro v6 s_ hr
  have h : slices_IndexFunc_api_Trade__trade_Book_Drop_1.b0 x0 x1c0 x1c1 v6 = some s_ := hr
  unfold slices_IndexFunc_api_Trade__trade_Book_Drop_1.b0 at h
  refine W.seq ?_
  refine W.pk ?_
  refine .v rfl rfl (OpL.binI rfl rfl rfl rfl) ?_
  refine .nil ?_
  refine W.seq ?_
  refine W.cond rfl (fun q21 => ?_) (fun q21 => ?_)
  ·have h := ifT q21 h
   refine W.skip ?_
   refine W.seq ?_
   refine W.block ?_
   refine W.seq ?_
   refine W.pk ?_
   refine .m rfl rfl rfl rfl ?_
   refine .a rfl rfl rfl rfl ?_
   refine .nil ?_
   refine W.seq ?_
   obtain ⟨c22, h⟩ := chk h
   obtain ⟨t23, b24, h⟩ := bnd1 h
   refine W.pk ?_
   refine .m rfl rfl rfl rfl ?_
   refine .m rfl rfl rfl rfl ?_
   refine .m rfl rfl rfl rfl ?_
   refine .v rfl rfl (O.idxO sl35 c22 rfl rfl rfl rfl) ?_
   refine .v rfl rfl (O.ldEN ty26 c22 rfl rfl rfl rfl rfl) ?_
   refine .call (.b t23) [(1, some (.box [.i x1c0])), (2, some (.box [.i x1c1.ID, .i x1c1.Twin, .i x1c1.Member, .i x1c1.Side, .i x1c1.Basket, .i x1c1.Amount, .i x1c1.Start, .i x1c1.End, .imm (.row 2 (List.map api_Reset.enc x1c1.Resets)), .i x1c1.Stage, .b x1c1.Short])), (1, none), (2, none)] 0 (trade_Book_Drop_1_v2.ok b24) rfl rfl rfl ca49 rfl rfl (cC (.agg _ _ _ _ (cC (.imm _) (cC (.imm _) (cC (.imm _) (cC (.imm _) (cC (.imm _) (cC (.imm _) (cC (.imm _) (cC (.imm _) (cC (.imm _) (cC (.imm _) (cC (.imm _) .nil)))))))))))) (cC (.ptr _ _ _ _ _ rfl (cC (.imm _) .nil)) (cC (.ptr _ _ _ _ _ rfl (cC (.imm _) (cC (.imm _) (cC (.imm _) (cC (.imm _) (cC (.imm _) (cC (.imm _) (cC (.imm _) (cC (.imm _) (cC (.imm _) (cC (.imm _) (cC (.imm _) .nil)))))))))))) .nil))) rfl rfl rfl rfl rfl ?_
   refine .nil ?_
   refine W.cond rfl (fun q25 => ?_) (fun q25 => ?_)
   ·have h := ifT q25 h
    refine W.seq ?_
    refine W.pk ?_
    refine .m rfl rfl rfl rfl ?_
    refine .a rfl rfl rfl rfl ?_
    refine .nil ?_
    refine W.ret ?_
    cases h
    refine rdR fun e_ => ?_
    subst e_
    have h := z20
    dsimp only at h
    refine fkR ?_
    cases h
    exact leaves (.inr rfl) rfl (.imm _) (cS (.own _ _ _ _ rfl) (cS (.fn _ _ _ _ _ (cC (.ptr _ _ _ _ _ rfl (cC (.imm _) .nil)) (cC (.ptr _ _ _ _ _ rfl (cC (.imm _) (cC (.imm _) (cC (.imm _) (cC (.imm _) (cC (.imm _) (cC (.imm _) (cC (.imm _) (cC (.imm _) (cC (.imm _) (cC (.imm _) (cC (.imm _) .nil)))))))))))) .nil))) .nil)) rfl rfl
   ·have h := ifF q25 h
    refine W.skip ?_
    refine W.pk ?_
    refine .v rfl rfl (OpL.binI rfl rfl rfl rfl) ?_
    refine .m rfl rfl rfl rfl ?_
    refine .nil ?_
    cases h
    exact rdN (Gives.mkR [] (.r rfl rfl (.r rfl rfl (.r rfl rfl (.r rfl rfl .n)))) (.r rfl rfl rfl (.r rfl rfl rfl (.r rfl rfl rfl .n))) rfl rfl rfl)
  ·have h := ifF q21 h
   refine W.exit ?_
   cases h
   refine rdX fun e_ => ?_
   subst e_
   repeat with_reducible refine thru ?_
   refine hit ?_
   exact fkN (Gives.mkR [] .n (.r rfl rfl rfl (.r rfl rfl rfl (.r rfl rfl rfl .n))) rfl rfl rfl)
 ·intro w17 e_
  subst e_
  clear h
  have h := z20
  dsimp only at h
  refine W.seq ?_
  refine W.pk ?_
  refine .a rfl rfl rfl rfl ?_
  refine .nil ?_
  refine W.ret ?_
  cases h
  exact leaves (.inr rfl) rfl (.imm _) (cS (.own _ _ _ _ rfl) (cS (.fn _ _ _ _ _ (cC (.ptr _ _ _ _ _ rfl (cC (.imm _) .nil)) (cC (.ptr _ _ _ _ _ rfl (cC (.imm _) (cC (.imm _) (cC (.imm _) (cC (.imm _) (cC (.imm _) (cC (.imm _) (cC (.imm _) (cC (.imm _) (cC (.imm _) (cC (.imm _) (cC (.imm _) .nil)))))))))))) .nil))) .nil)) rfl rfl

noncomputable def slices_DeleteFunc_api_Trade__trade_Book_Drop_1.b0 (x1c0 : Int) (x1c1 : api_Trade) (v10 : Int) (v11 : Int) (v12 : List api_Trade) : Option ((Int × Int × (List api_Trade)) ⊕ (Int × (List api_Trade))) :=
  if (decide (v11 < (List.length v12 : Int))) = true then
    if (0 : Int) ≤ v11 ∧ v11 < (List.length v12 : Int) then
    (trade_Book_Drop_1_v2.f (nth v12 v11) x1c0 x1c1).bind fun t31 =>
    if (!t31) = true then
      if (0 : Int) ≤ v10 ∧ v10 < (List.length v12 : Int) then
      some (.inl ((IntKind.wrap .i64 (v10 + 1)), (IntKind.wrap .i64 (v11 + 1)), (List.set v12 (Int.toNat v10) (nth v12 v11))))
      else none
    else
      some (.inl (v10, (IntKind.wrap .i64 (v11 + 1)), v12))
    else none
  else
    some (.inr (v10, v12))
noncomputable def slices_DeleteFunc_api_Trade__trade_Book_Drop_1.r0 (x1c0 : Int) (x1c1 : api_Trade) (s : Int × Int × (List api_Trade)) : Option ((Int × Int × (List api_Trade)) ⊕ (Int × (List api_Trade))) := slices_DeleteFunc_api_Trade__trade_Book_Drop_1.b0 x1c0 x1c1 s.1 s.2.1 s.2.2
noncomputable def slices_DeleteFunc_api_Trade__trade_Book_Drop_1.f (x0 : List api_Trade) (x1c0 : Int) (x1c1 : api_Trade) : Option (List api_Trade) :=
  (slices_IndexFunc_api_Trade__trade_Book_Drop_1.f x0 x1c0 x1c1).bind fun t1 =>
  if (t1 == (-1)) = true then
    some x0
  else
    (loop (slices_DeleteFunc_api_Trade__trade_Book_Drop_1.r0 x1c0 x1c1) (t1, (IntKind.wrap .i64 (t1 + 1)), x0)).bind fun o26 =>
    if (0 : Int) ≤ o26.1 ∧ o26.1 ≤ (List.length o26.2 : Int) ∧ (List.length o26.2 : Int) ≤ (List.length o26.2 : Int) then
    if (0 : Int) ≤ 0 ∧ 0 ≤ o26.1 ∧ o26.1 ≤ (List.length (List.take (Int.toNat o26.1) o26.2 ++ List.replicate (Int.toNat (List.length o26.2 : Int) - Int.toNat o26.1) ((⟨0, 0, 0, 0, 0, 0, 0, 0, [], 0, false⟩ : api_Trade) : api_Trade)) : Int) then
    some (List.take (Int.toNat o26.1) (List.take (Int.toNat o26.1) o26.2 ++ List.replicate (Int.toNat (List.length o26.2 : Int) - Int.toNat o26.1) ((⟨0, 0, 0, 0, 0, 0, 0, 0, [], 0, false⟩ : api_Trade) : api_Trade)))
    else none
    else none
set_option maxRecDepth 100000 in
set_option maxHeartbeats 4000000 in
theorem slices_DeleteFunc_api_Trade__trade_Book_Drop_1.ok {x0 : List api_Trade} {x1c0 : Int} {x1c1 : api_Trade} {r : List api_Trade} (h : slices_DeleteFunc_api_Trade__trade_Book_Drop_1.f x0 x1c0 x1c1 = some r) : Pm.Spec prog 48 [.xown 26 11 (List.map api_Trade.enc x0), .fn 49 [.xbox [.imm (.val (.int .i64 x1c0))], .xbox [.imm (.val (.int .i64 x1c1.ID)), .imm (.val (.int .i64 x1c1.Twin)), .imm (.val (.int .i64 x1c1.Member)), .imm (.val (.int .i64 x1c1.Side)), .imm (.val (.int .i64 x1c1.Basket)), .imm (.val (.int .i64 x1c1.Amount)), .imm (.val (.int .i64 x1c1.Start)), .imm (.val (.int .i64 x1c1.End)), .imm (.row 2 (List.map api_Reset.enc x1c1.Resets)), .imm (.val (.int .i64 x1c1.Stage)), .imm (.val (.bool x1c1.Short))]]] (.xown 26 11 (List.map api_Trade.enc r)) [none, some (.fn 49 [.xbox [.imm (.val (.int .i64 x1c0))], .xbox [.imm (.val (.int .i64 x1c1.ID)), .imm (.val (.int .i64 x1c1.Twin)), .imm (.val (.int .i64 x1c1.Member)), .imm (.val (.int .i64 x1c1.Side)), .imm (.val (.int .i64 x1c1.Basket)), .imm (.val (.int .i64 x1c1.Amount)), .imm (.val (.int .i64 x1c1.Start)), .imm (.val (.int .i64 x1c1.End)), .imm (.row 2 (List.map api_Reset.enc x1c1.Resets)), .imm (.val (.int .i64 x1c1.Stage)), .imm (.val (.bool x1c1.Short))]])] := by
 unfold slices_DeleteFunc_api_Trade__trade_Book_Drop_1.f at h
 refine Pm.Spec.of_body Try.func48 rfl (by kernel_rfl) (Nat.le_of_ble_eq_true rfl) (Nat.le_of_ble_eq_true rfl) ?_
 refine W.ghost (σ' := (mkSt [(0, some (.own 0)), (1, some (.fn 49 [.ptr 1 0, .ptr 2 0]))] [(0, some (.rows 26 11 (List.map api_Trade.enc x0) false)), (1, some (.box [.i x1c0])), (2, some (.box [.i x1c1.ID, .i x1c1.Twin, .i x1c1.Member, .i x1c1.Side, .i x1c1.Basket, .i x1c1.Amount, .i x1c1.Start, .i x1c1.End, .imm (.row 2 (List.map api_Reset.enc x1c1.Resets)), .i x1c1.Stage, .b x1c1.Short]))] 1000)) (Gives.entry (.c rfl (.c rfl .n)) (.c rfl (.c rfl (.c rfl .n)))) ?_
 refine W.seq ?_
 refine W.pk ?_
 refine .a rfl rfl rfl rfl ?_
 refine .nil ?_
 refine W.seq ?_
 obtain ⟨t1, b2, h⟩ := bnd1 h
 refine W.pk ?_
 refine .m rfl rfl rfl rfl ?_
 refine .m rfl rfl rfl rfl ?_
 refine .call (.i t1) [(0, some (.rows 26 11 (List.map api_Trade.enc x0) false)), (1, some (.box [.i x1c0])), (2, some (.box [.i x1c1.ID, .i x1c1.Twin, .i x1c1.Member, .i x1c1.Side, .i x1c1.Basket, .i x1c1.Amount, .i x1c1.Start, .i x1c1.End, .imm (.row 2 (List.map api_Reset.enc x1c1.Resets)), .i x1c1.Stage, .b x1c1.Short])), (0, none), (1, none), (2, none)] 0 (slices_IndexFunc_api_Trade__trade_Book_Drop_1.ok b2) rfl rfl rfl ca56 rfl rfl (cC (.own _ _ _ _ rfl) (cC (.fn _ _ _ _ _ (cC (.ptr _ _ _ _ _ rfl (cC (.imm _) .nil)) (cC (.ptr _ _ _ _ _ rfl (cC (.imm _) (cC (.imm _) (cC (.imm _) (cC (.imm _) (cC (.imm _) (cC (.imm _) (cC (.imm _) (cC (.imm _) (cC (.imm _) (cC (.imm _) (cC (.imm _) .nil)))))))))))) .nil))) .nil)) rfl rfl rfl rfl rfl ?_
 refine .a rfl rfl rfl rfl ?_
 refine .nil ?_
 refine W.seq ?_
 refine W.seq ?_
 refine W.pk ?_
 refine .m rfl rfl rfl rfl ?_
 refine .v rfl rfl (OpL.binI rfl rfl rfl rfl) ?_
 refine .nil ?_
 refine W.cond rfl (fun q3 => ?_) (fun q3 => ?_)
 ·have h := ifT q3 h
  refine W.seq ?_
  refine W.pk ?_
  refine .m rfl rfl rfl rfl ?_
  refine .a rfl rfl rfl rfl ?_
  refine .nil ?_
  refine W.ret ?_
  cases h
  exact leaves (.inr rfl) rfl (.own _ _ _ _ rfl) (cN (cS (.fn _ _ _ _ _ (cC (.ptr _ _ _ _ _ rfl (cC (.imm _) .nil)) (cC (.ptr _ _ _ _ _ rfl (cC (.imm _) (cC (.imm _) (cC (.imm _) (cC (.imm _) (cC (.imm _) (cC (.imm _) (cC (.imm _) (cC (.imm _) (cC (.imm _) (cC (.imm _) (cC (.imm _) .nil)))))))))))) .nil))) .nil)) rfl rfl
 ·have h := ifF q3 h
  refine W.skip ?_
  refine W.seq ?_
  refine W.seq ?_
  refine W.pk ?_
  refine .m rfl rfl rfl rfl ?_
  refine .v rfl rfl (OpL.binI rfl rfl rfl rfl) ?_
  refine .a rfl rfl rfl rfl ?_
  refine .nil ?_
  obtain ⟨o26, b27, h⟩ := bnd1 h
  refine W.fork (mkSt [(0, some (.own 0)), (5, some (.i o26.1))] [(0, some (.rows 26 11 (List.map api_Trade.enc o26.2) false)), (1, some (.box [.i x1c0])), (2, some (.box [.i x1c1.ID, .i x1c1.Twin, .i x1c1.Member, .i x1c1.Side, .i x1c1.Basket, .i x1c1.Amount, .i x1c1.Start, .i x1c1.End, .imm (.row 2 (List.map api_Reset.enc x1c1.Resets)), .i x1c1.Stage, .b x1c1.Short]))] 1000) ?_ ?_
  ·refine W.seq ?_
   obtain ⟨c35, h⟩ := chk h
   refine W.pk ?_
   refine .m rfl rfl rfl rfl ?_
   refine .m rfl rfl rfl rfl ?_
   refine .v rfl rfl (O.partO sl35 c35 rfl rfl rfl rfl rfl) ?_
   refine .s rfl rfl (O.clear (enc := api_Trade.enc) (z := ((⟨0, 0, 0, 0, 0, 0, 0, 0, [], 0, false⟩ : api_Trade) : api_Trade)) sl35 (.cons (.same _) (.cons (.same _) (.cons (.same _) (.cons (.same _) (.cons (.same _) (.cons (.same _) (.cons (.same _) (.cons (.same _) (.cons (.none 2) (.cons (.same _) (.cons (.same _) .nil))))))))))) rfl (viewEnd c35) rfl rfl rfl rfl) ?_
   refine .nil ?_
   refine W.seq ?_
   obtain ⟨c36, h⟩ := chk h
   refine W.pk ?_
   refine .m rfl rfl rfl rfl ?_
   refine .m rfl rfl rfl rfl ?_
   refine .t rfl rfl (O.cut sl35 c36 rfl rfl rfl rfl) ?_
   refine .a rfl rfl rfl rfl ?_
   refine .nil ?_
   refine W.ret ?_
   cases h
   exact leaves (.inr rfl) rfl (.own _ _ _ _ rfl) (cN (cS (.fn _ _ _ _ _ (cC (.ptr _ _ _ _ _ rfl (cC (.imm _) .nil)) (cC (.ptr _ _ _ _ _ rfl (cC (.imm _) (cC (.imm _) (cC (.imm _) (cC (.imm _) (cC (.imm _) (cC (.imm _) (cC (.imm _) (cC (.imm _) (cC (.imm _) (cC (.imm _) (cC (.imm _) .nil)))))))))))) .nil))) .nil)) rfl rfl
  ·clear h
   refine W.block ?_
   refine W.loopF (fun (s_ : Int × Int × (List api_Trade)) => mkSt [(0, some (.own 0)), (1, some (.fn 49 [.ptr 1 0, .ptr 2 0])), (5, some (.i s_.1)), (6, some (.i s_.2.1))] [(0, some (.rows 26 11 (List.map api_Trade.enc s_.2.2) false)), (1, some (.box [.i x1c0])), (2, some (.box [.i x1c1.ID, .i x1c1.Twin, .i x1c1.Member, .i x1c1.Side, .i x1c1.Basket, .i x1c1.Amount, .i x1c1.Start, .i x1c1.End, .imm (.row 2 (List.map api_Reset.enc x1c1.Resets)), .i x1c1.Stage, .b x1c1.Short]))] 1000) b27 (Gives.mkR [] (.r rfl rfl (.r rfl rfl (.r rfl rfl (.r rfl rfl .n)))) (.r rfl rfl rfl (.r rfl rfl rfl (.r rfl rfl rfl .n))) rfl rfl rfl) ?_
   rintro ⟨v10, v11, v12⟩ s_ hr
   have h : slices_DeleteFunc_api_Trade__trade_Book_Drop_1.b0 x1c0 x1c1 v10 v11 v12 = some s_ := hr
   unfold slices_DeleteFunc_api_Trade__trade_Book_Drop_1.b0 at h
   refine W.seq ?_
   refine W.seq ?_
   refine W.pk ?_
   refine .m rfl rfl rfl rfl ?_
   refine .m rfl rfl rfl rfl ?_
   refine .v rfl rfl (O.lenO sl35 rfl rfl rfl) ?_
   refine .v rfl rfl (OpL.binI rfl rfl rfl rfl) ?_
   refine .nil ?_
   refine W.cond rfl (fun q29 => ?_) (fun q29 => ?_)
   ·have h := ifT q29 h
    refine W.skip ?_
    refine W.seq ?_
    refine W.block ?_
    refine W.seq ?_
    obtain ⟨c30, h⟩ := chk h
    refine W.pk ?_
    refine .m rfl rfl rfl rfl ?_
    refine .m rfl rfl rfl rfl ?_
    refine .v rfl rfl (O.idxO sl35 c30 rfl rfl rfl rfl) ?_
    refine .v rfl rfl (O.ldEN ty26 c30 rfl rfl rfl rfl rfl) ?_
    refine .t rfl rfl (O.alloc z26 rfl) ?_
    refine .s rfl rfl (O.st ty26 rfl rfl rfl rfl rfl rfl rfl rfl rfl rfl (all' := [.i ((nth v12 v11).ID), .i ((nth v12 v11).Twin), .i ((nth v12 v11).Member), .i ((nth v12 v11).Side), .i ((nth v12 v11).Basket), .i ((nth v12 v11).Amount), .i ((nth v12 v11).Start), .i ((nth v12 v11).End), .imm (.row 2 (List.map api_Reset.enc ((nth v12 v11).Resets))), .i ((nth v12 v11).Stage), .b ((nth v12 v11).Short)]) rfl) ?_
    refine .nil ?_
    refine W.seq ?_
    obtain ⟨t31, b32, h⟩ := bnd1 h
    refine W.pk ?_
    refine .m rfl rfl rfl rfl ?_
    refine .v rfl rfl (O.ldN ty26 rfl rfl rfl) ?_
    refine .call (.b t31) [(1, some (.box [.i x1c0])), (2, some (.box [.i x1c1.ID, .i x1c1.Twin, .i x1c1.Member, .i x1c1.Side, .i x1c1.Basket, .i x1c1.Amount, .i x1c1.Start, .i x1c1.End, .imm (.row 2 (List.map api_Reset.enc x1c1.Resets)), .i x1c1.Stage, .b x1c1.Short])), (1, none), (2, none)] 0 (trade_Book_Drop_1_v2.ok b32) rfl rfl rfl ca49 rfl rfl (cC (.agg _ _ _ _ (cC (.imm _) (cC (.imm _) (cC (.imm _) (cC (.imm _) (cC (.imm _) (cC (.imm _) (cC (.imm _) (cC (.imm _) (cC (.imm _) (cC (.imm _) (cC (.imm _) .nil)))))))))))) (cC (.ptr _ _ _ _ _ rfl (cC (.imm _) .nil)) (cC (.ptr _ _ _ _ _ rfl (cC (.imm _) (cC (.imm _) (cC (.imm _) (cC (.imm _) (cC (.imm _) (cC (.imm _) (cC (.imm _) (cC (.imm _) (cC (.imm _) (cC (.imm _) (cC (.imm _) .nil)))))))))))) .nil))) rfl rfl rfl rfl rfl ?_
    refine .v rfl rfl (OpL.unV rfl rfl rfl) ?_
    refine .nil ?_
    refine W.cond rfl (fun q33 => ?_) (fun q33 => ?_)
    ·have h := ifT q33 h
     refine W.seq ?_
     obtain ⟨c34, h⟩ := chk h
     refine W.pk ?_
     refine .m rfl rfl rfl rfl ?_
     refine .m rfl rfl rfl rfl ?_
     refine .v rfl rfl (O.ldN ty26 rfl rfl rfl) ?_
     refine .v rfl rfl (O.idxO sl35 c34 rfl rfl rfl rfl) ?_
     refine .s rfl rfl (O.stE (x' := (nth v12 v11)) ty26 c34 rfl rfl rfl rfl rfl rfl rfl rfl rfl rfl rfl) ?_
     refine .nil ?_
     refine W.pk ?_
     refine .m rfl rfl rfl rfl ?_
     refine .v rfl rfl (OpL.binI rfl rfl rfl rfl) ?_
     refine .a rfl rfl rfl rfl ?_
     refine .nil ?_
     refine W.pk ?_
     refine .m rfl rfl rfl rfl ?_
     refine .v rfl rfl (OpL.binI rfl rfl rfl rfl) ?_
     refine .a rfl rfl rfl rfl ?_
     refine .nil ?_
     cases h
     exact rdN (Gives.mkR [] (.r rfl rfl (.r rfl rfl (.r rfl rfl (.r rfl rfl .n)))) (.r rfl rfl rfl (.r rfl rfl rfl (.r rfl rfl rfl .n))) rfl rfl rfl)
    ·have h := ifF q33 h
     refine W.skip ?_
     refine W.pk ?_
     refine .m rfl rfl rfl rfl ?_
     refine .v rfl rfl (OpL.binI rfl rfl rfl rfl) ?_
     refine .a rfl rfl rfl rfl ?_
     refine .nil ?_
     cases h
     exact rdN (Gives.mkR [] (.r rfl rfl (.r rfl rfl (.r rfl rfl (.r rfl rfl .n)))) (.r rfl rfl rfl (.r rfl rfl rfl (.r rfl rfl rfl .n))) rfl rfl rfl)
   ·have h := ifF q29 h
    refine W.exit ?_
    cases h
    refine rdX fun e_ => ?_
    subst e_
    repeat with_reducible refine thru ?_
    refine hit ?_
    exact toN (Gives.mkR [] (.r rfl rfl (.r rfl rfl .n)) (.r rfl rfl rfl (.r rfl rfl rfl (.r rfl rfl rfl .n))) rfl rfl rfl)

noncomputable def trade_Book_Drop.f (x0 : trade_Book) (x1 : Int) : Option (Int × trade_Book) :=
  if (!x0.made) = true then
    some (3, x0)
  else
    (trade_Book_Get.f x0 x1).bind fun t2 =>
    if (!t2.2) = true then
      some (6, x0)
    else
      if (decide (t2.1.Stage < 4)) = true then
        some (8, x0)
      else
        (slices_DeleteFunc_api_Trade__trade_Book_Drop_1.f x0.l x1 t2.1).bind fun t6 =>
        some (0, (⟨t6, x0.next, x0.made⟩ : trade_Book))
set_option maxRecDepth 100000 in
set_option maxHeartbeats 4000000 in
theorem trade_Book_Drop.ok {x0 : trade_Book} {x1 : Int} {r : Int × trade_Book} (h : trade_Book_Drop.f x0 x1 = some r) : Pm.Spec prog 33 [.xbox [.xown 26 11 (List.map api_Trade.enc x0.l), .imm (.val (.int .i64 x0.next)), .imm (.val (.bool x0.made))], .imm (.val (.int .i64 x1))] (.imm (.val (.int .i64 r.1))) [some (.xbox [.xown 26 11 (List.map api_Trade.enc r.2.l), .imm (.val (.int .i64 r.2.next)), .imm (.val (.bool r.2.made))]), none] := by
 unfold trade_Book_Drop.f at h
 refine Pm.Spec.of_body Try.func33 rfl (by kernel_rfl) (Nat.le_of_ble_eq_true rfl) (Nat.le_of_ble_eq_true rfl) ?_
 refine W.ghost (σ' := (mkSt [(0, some (.ptr 0 0)), (1, some (.i x1))] [(0, some (.box [.own 1, .i x0.next, .b x0.made])), (1, some (.rows 26 11 (List.map api_Trade.enc x0.l) false))] 1000)) (Gives.entry (.c rfl (.c rfl .n)) (.c rfl (.c rfl .n))) ?_
 refine W.ghost (σ' := (mkSt [(0, some (.ptr 0 0)), (1, some (.i x1))] [(0, some (.box [.own 1000, .i x0.next, .b x0.made])), (1000, some (.rows 26 11 (List.map api_Trade.enc x0.l) false))] 1001)) (Gives.mkR [(1000, 1)] (.r rfl rfl (.r rfl rfl .n)) (.r rfl rfl rfl (.r rfl rfl rfl .n)) rfl rfl rfl) ?_
 refine W.seq ?_
 refine W.pk ?_
 refine .t rfl rfl (O.box rfl rfl rfl rfl rfl) ?_
 refine .a rfl rfl rfl rfl ?_
 refine .nil ?_
 refine W.seq ?_
 refine W.seq ?_
 refine W.pk ?_
 refine .m rfl rfl rfl rfl ?_
 refine .v rfl rfl (OpL.eqP rfl u36 rfl rfl rfl) ?_
 refine .m rfl rfl rfl rfl ?_
 refine .m rfl (met rfl rfl rfl rfl) rfl rfl ?_
 refine .v rfl (met rfl rfl rfl rfl) (OpL.nilP rfl rfl rfl) ?_
 refine .v rfl (met rfl rfl rfl rfl) (O.fld fld62_2 rfl rfl rfl) ?_
 refine .v rfl (met rfl rfl rfl rfl) (O.ld (y := .b x0.made) ty4 rfl rfl rfl) ?_
 refine .v rfl (met rfl rfl rfl rfl) (OpL.unV rfl rfl rfl) ?_
 refine .v rfl rfl (O.pickF rfl rfl rfl rfl) ?_
 refine .nil ?_
 refine W.cond rfl (fun q1 => ?_) (fun q1 => ?_)
 ·have h := ifT q1 h
  refine W.seq ?_
  refine W.pk ?_
  refine .a rfl rfl rfl rfl ?_
  refine .nil ?_
  refine W.ret ?_
  cases h
  exact leaves (.inr rfl) rfl (.imm _) (cS (.ptr _ _ _ _ _ rfl (cC (.own _ _ _ _ rfl) (cC (.imm _) (cC (.imm _) .nil)))) (cN .nil)) rfl rfl
 ·have h := ifF q1 h
  refine W.skip ?_
  refine W.seq ?_
  obtain ⟨t2, b3, h⟩ := bnd1 h
  refine W.pk ?_
  refine .m rfl rfl rfl rfl ?_
  refine .v rfl rfl (O.ld (y := .i x1) ty3 rfl rfl rfl) ?_
  refine .call (.tup [.agg (api_Trade.av t2.1), .b t2.2]) [(0, some (.box [.own 1002, .i x0.next, .b x0.made])), (1002, some (.rows 26 11 (List.map api_Trade.enc x0.l) false)), (0, none), (1000, none)] 1 (trade_Book_Get.ok b3) rfl rfl rfl ca23 rfl rfl (cC (.ptr _ _ _ _ _ rfl (cC (.own _ _ _ _ rfl) (cC (.imm _) (cC (.imm _) .nil)))) (cC (.imm _) .nil)) rfl rfl rfl rfl rfl ?_
  refine .m rfl rfl rfl rfl ?_
  refine .v rfl rfl (OpL.extract rfl rfl rfl) ?_
  refine .v rfl rfl (OpL.extract rfl rfl rfl) ?_
  refine .t rfl rfl (O.alloc z26 rfl) ?_
  refine .s rfl rfl (O.st ty26 rfl rfl rfl rfl rfl rfl rfl rfl rfl rfl (all' := [.i t2.1.ID, .i t2.1.Twin, .i t2.1.Member, .i t2.1.Side, .i t2.1.Basket, .i t2.1.Amount, .i t2.1.Start, .i t2.1.End, .imm (.row 2 (List.map api_Reset.enc t2.1.Resets)), .i t2.1.Stage, .b t2.1.Short]) rfl) ?_
  refine .a rfl rfl rfl rfl ?_
  refine .nil ?_
  refine W.seq ?_
  refine W.block ?_
  refine W.seq ?_
  refine W.pk ?_
  refine .m rfl rfl rfl rfl ?_
  refine .v rfl rfl (OpL.unV rfl rfl rfl) ?_
  refine .a rfl rfl rfl rfl ?_
  refine .nil ?_
  refine W.cond rfl (fun q4 => ?_) (fun q4 => ?_)
  ·have h := ifT q4 h
   refine W.seq ?_
   refine W.pk ?_
   refine .a rfl rfl rfl rfl ?_
   refine .nil ?_
   refine W.ret ?_
   cases h
   exact leaves (.inr rfl) rfl (.imm _) (cS (.ptr _ _ _ _ _ rfl (cC (.own _ _ _ _ rfl) (cC (.imm _) (cC (.imm _) .nil)))) (cN .nil)) rfl rfl
  ·have h := ifF q4 h
   refine W.seq ?_
   refine W.pk ?_
   refine .v rfl rfl (O.fld fld26_9 rfl rfl rfl) ?_
   refine .v rfl rfl (O.ld (y := .i t2.1.Stage) ty3 rfl rfl rfl) ?_
   refine .v rfl rfl (OpL.binI rfl rfl rfl rfl) ?_
   refine .a rfl rfl rfl rfl ?_
   refine .nil ?_
   refine W.cond rfl (fun q5 => ?_) (fun q5 => ?_)
   ·have h := ifT q5 h
    refine W.seq ?_
    refine W.pk ?_
    refine .a rfl rfl rfl rfl ?_
    refine .nil ?_
    refine W.ret ?_
    cases h
    exact leaves (.inr rfl) rfl (.imm _) (cS (.ptr _ _ _ _ _ rfl (cC (.own _ _ _ _ rfl) (cC (.imm _) (cC (.imm _) .nil)))) (cN .nil)) rfl rfl
   ·have h := ifF q5 h
    refine W.skip ?_
    refine W.seq ?_
    obtain ⟨t6, b7, h⟩ := bnd1 h
    refine W.pk ?_
    refine .m rfl rfl rfl rfl ?_
    refine .m rfl rfl rfl rfl ?_
    refine .v rfl rfl (OpL.nilP rfl rfl rfl) ?_
    refine .v rfl rfl (O.fld fld62_0 rfl rfl rfl) ?_
    refine .v rfl rfl (O.ld (y := .own 1002) ty35 rfl rfl rfl) ?_
    refine .v rfl rfl (OpL.mkfn rfl rfl) ?_
    refine .call (.own 1004) [(1004, some (.rows 26 11 (List.map api_Trade.enc t6) false)), (1001, some (.box [.i x1])), (1003, some (.box [.i t2.1.ID, .i t2.1.Twin, .i t2.1.Member, .i t2.1.Side, .i t2.1.Basket, .i t2.1.Amount, .i t2.1.Start, .i t2.1.End, .imm (.row 2 (List.map api_Reset.enc t2.1.Resets)), .i t2.1.Stage, .b t2.1.Short])), (1002, none), (1001, none), (1003, none)] 1 (slices_DeleteFunc_api_Trade__trade_Book_Drop_1.ok b7) rfl rfl rfl ca48 rfl rfl (cC (.own _ _ _ _ rfl) (cC (.fn _ _ _ _ _ (cC (.ptr _ _ _ _ _ rfl (cC (.imm _) .nil)) (cC (.ptr _ _ _ _ _ rfl (cC (.imm _) (cC (.imm _) (cC (.imm _) (cC (.imm _) (cC (.imm _) (cC (.imm _) (cC (.imm _) (cC (.imm _) (cC (.imm _) (cC (.imm _) (cC (.imm _) .nil)))))))))))) .nil))) .nil)) rfl rfl rfl rfl rfl ?_
    refine .v rfl rfl (OpL.nilP rfl rfl rfl) ?_
    refine .v rfl rfl (O.fld fld62_0 rfl rfl rfl) ?_
    refine .s rfl rfl (O.st ty35 rfl rfl rfl rfl rfl rfl rfl rfl rfl rfl (all' := [.own 1004, .i x0.next, .b x0.made]) rfl) ?_
    refine .nil ?_
    refine W.seq ?_
    refine W.pk ?_
    refine .a rfl rfl rfl rfl ?_
    refine .nil ?_
    refine W.ret ?_
    cases h
    exact leaves (.inr rfl) rfl (.imm _) (cS (.ptr _ _ _ _ _ rfl (cC (.own _ _ _ _ rfl) (cC (.imm _) (cC (.imm _) .nil)))) (cN .nil)) rfl rfl

noncomputable def trade_Book_Next.f (x0 : trade_Book) : Option (Int) :=
  some x0.next
set_option maxRecDepth 100000 in
set_option maxHeartbeats 4000000 in
theorem trade_Book_Next.ok {x0 : trade_Book} {r : Int} (h : trade_Book_Next.f x0 = some r) : Pm.Spec prog 19 [.xbox [.xown 26 11 (List.map api_Trade.enc x0.l), .imm (.val (.int .i64 x0.next)), .imm (.val (.bool x0.made))]] (.imm (.val (.int .i64 r))) [some (.xbox [.xown 26 11 (List.map api_Trade.enc x0.l), .imm (.val (.int .i64 x0.next)), .imm (.val (.bool x0.made))])] := by
 unfold trade_Book_Next.f at h
 refine Pm.Spec.of_body Try.func19 rfl (by kernel_rfl) (Nat.le_of_ble_eq_true rfl) (Nat.le_of_ble_eq_true rfl) ?_
 refine W.ghost (σ' := (mkSt [(0, some (.ptr 0 0))] [(0, some (.box [.own 1, .i x0.next, .b x0.made])), (1, some (.rows 26 11 (List.map api_Trade.enc x0.l) false))] 1000)) (Gives.entry (.c rfl .n) (.c rfl (.c rfl .n))) ?_
 refine W.ghost (σ' := (mkSt [(0, some (.ptr 0 0))] [(0, some (.box [.own 1000, .i x0.next, .b x0.made])), (1000, some (.rows 26 11 (List.map api_Trade.enc x0.l) false))] 1001)) (Gives.mkR [(1000, 1)] (.r rfl rfl .n) (.r rfl rfl rfl (.r rfl rfl rfl .n)) rfl rfl rfl) ?_
 refine W.seq ?_
 refine W.pk ?_
 refine .a rfl rfl rfl rfl ?_
 refine .nil ?_
 refine W.seq ?_
 refine W.seq ?_
 refine W.pk ?_
 refine .m rfl rfl rfl rfl ?_
 refine .v rfl rfl (OpL.eqP rfl u36 rfl rfl rfl) ?_
 refine .nil ?_
 refine W.cond rfl (fun q => by cases q) (fun _ => ?_)
 refine W.skip ?_
 refine W.seq ?_
 refine W.pk ?_
 refine .m rfl rfl rfl rfl ?_
 refine .v rfl rfl (OpL.nilP rfl rfl rfl) ?_
 refine .v rfl rfl (O.fld fld62_1 rfl rfl rfl) ?_
 refine .v rfl rfl (O.ld (y := .i x0.next) ty3 rfl rfl rfl) ?_
 refine .a rfl rfl rfl rfl ?_
 refine .nil ?_
 refine W.ret ?_
 cases h
 exact leaves (.inr rfl) rfl (.imm _) (cS (.ptr _ _ _ _ _ rfl (cC (.own _ _ _ _ rfl) (cC (.imm _) (cC (.imm _) .nil)))) .nil) rfl rfl

noncomputable def trade_Book_All.b0 (x0 : trade_Book) (v7 : Int) (v8 : List api_Trade) : Option ((Int × (List api_Trade)) ⊕ (List api_Trade)) :=
  if (decide (v7 < (List.length x0.l : Int))) = true then
    if (0 : Int) ≤ v7 ∧ v7 < (List.length x0.l : Int) then
    (trade_copied.f (nth x0.l v7)).bind fun t25 =>
    if (List.length v8 + List.length [t25]) * 104 ≤ 140737488355328 then
    some (.inl ((IntKind.wrap .i64 (v7 + 1)), (v8 ++ [t25])))
    else none
    else none
  else
    some (.inr v8)
noncomputable def trade_Book_All.r0 (x0 : trade_Book) (s : Int × (List api_Trade)) : Option ((Int × (List api_Trade)) ⊕ (List api_Trade)) := trade_Book_All.b0 x0 s.1 s.2
noncomputable def trade_Book_All.f (x0 : trade_Book) : Option (List api_Trade) :=
  if (0 : Int) ≤ 0 ∧ 0 ≤ (List.length x0.l : Int) ∧ (104 : Int) * (List.length x0.l : Int) ≤ 281474976710656 then
  (loop (trade_Book_All.r0 x0) (0, (List.replicate (Int.toNat 0) ((⟨0, 0, 0, 0, 0, 0, 0, 0, [], 0, false⟩ : api_Trade) : api_Trade)))).bind fun o20 =>
  some o20
  else none
set_option maxRecDepth 100000 in
set_option maxHeartbeats 4000000 in
theorem trade_Book_All.ok {x0 : trade_Book} {r : List api_Trade} (h : trade_Book_All.f x0 = some r) : Pm.Spec prog 18 [.xbox [.xown 26 11 (List.map api_Trade.enc x0.l), .imm (.val (.int .i64 x0.next)), .imm (.val (.bool x0.made))]] (.xown 26 11 (List.map api_Trade.enc r)) [some (.xbox [.xown 26 11 (List.map api_Trade.enc x0.l), .imm (.val (.int .i64 x0.next)), .imm (.val (.bool x0.made))])] := by
 unfold trade_Book_All.f at h
 refine Pm.Spec.of_body Try.func18 rfl (by kernel_rfl) (Nat.le_of_ble_eq_true rfl) (Nat.le_of_ble_eq_true rfl) ?_
 refine W.ghost (σ' := (mkSt [(0, some (.ptr 0 0))] [(0, some (.box [.own 1, .i x0.next, .b x0.made])), (1, some (.rows 26 11 (List.map api_Trade.enc x0.l) false))] 1000)) (Gives.entry (.c rfl .n) (.c rfl (.c rfl .n))) ?_
 refine W.ghost (σ' := (mkSt [(0, some (.ptr 0 0))] [(0, some (.box [.own 1000, .i x0.next, .b x0.made])), (1000, some (.rows 26 11 (List.map api_Trade.enc x0.l) false))] 1001)) (Gives.mkR [(1000, 1)] (.r rfl rfl .n) (.r rfl rfl rfl (.r rfl rfl rfl .n)) rfl rfl rfl) ?_
 refine W.seq ?_
 refine W.pk ?_
 refine .a rfl rfl rfl rfl ?_
 refine .nil ?_
 refine W.seq ?_
 refine W.seq ?_
 refine W.pk ?_
 refine .m rfl rfl rfl rfl ?_
 refine .v rfl rfl (OpL.eqP rfl u36 rfl rfl rfl) ?_
 refine .nil ?_
 refine W.cond rfl (fun q => by cases q) (fun _ => ?_)
 refine W.skip ?_
 refine W.seq ?_
 obtain ⟨c1, h⟩ := chk h
 refine W.pk ?_
 refine .m rfl rfl rfl rfl ?_
 refine .v rfl rfl (OpL.nilP rfl rfl rfl) ?_
 refine .v rfl rfl (O.fld fld62_0 rfl rfl rfl) ?_
 refine .v rfl rfl (O.ld (y := .own 1000) ty35 rfl rfl rfl) ?_
 refine .v rfl rfl (O.lenO sl35 rfl rfl rfl) ?_
 refine .t rfl rfl (O.makeN (enc := api_Trade.enc) (z := ((⟨0, 0, 0, 0, 0, 0, 0, 0, [], 0, false⟩ : api_Trade) : api_Trade)) sl35 c1 (.cons (.same _) (.cons (.same _) (.cons (.same _) (.cons (.same _) (.cons (.same _) (.cons (.same _) (.cons (.same _) (.cons (.same _) (.cons (.none 2) (.cons (.same _) (.cons (.same _) .nil))))))))))) rfl rfl rfl rfl) ?_
 refine .a rfl rfl rfl rfl ?_
 refine .nil ?_
 refine W.seq ?_
 refine W.seq ?_
 refine W.pk ?_
 refine .m rfl rfl rfl rfl ?_
 refine .v rfl rfl (OpL.nilP rfl rfl rfl) ?_
 refine .v rfl rfl (O.fld fld62_0 rfl rfl rfl) ?_
 refine .v rfl rfl (O.ld (y := .own 1000) ty35 rfl rfl rfl) ?_
 refine .v rfl rfl (O.lenO sl35 rfl rfl rfl) ?_
 refine .m rfl rfl rfl rfl ?_
 refine .nil ?_
 obtain ⟨o20, b21, h⟩ := bnd1 h
 refine W.fork (mkSt [(3, some (.own 1001))] [(0, some (.box [.own 1000, .i x0.next, .b x0.made])), (1000, some (.rows 26 11 (List.map api_Trade.enc x0.l) false)), (1001, some (.rows 26 11 (List.map api_Trade.enc o20) false))] 1002) ?_ ?_
 ·refine W.seq ?_
  refine W.pk ?_
  refine .m rfl rfl rfl rfl ?_
  refine .a rfl rfl rfl rfl ?_
  refine .nil ?_
  refine W.ret ?_
  cases h
  exact leaves (.inr rfl) rfl (.own _ _ _ _ rfl) (cS (.ptr _ _ _ _ _ rfl (cC (.own _ _ _ _ rfl) (cC (.imm _) (cC (.imm _) .nil)))) .nil) rfl rfl
 ·clear h
  refine W.block ?_
  refine W.loopF (fun (s_ : Int × (List api_Trade)) => mkSt [(3, some (.own 1001)), (17, some (.own 1000)), (18, some (.i (List.length x0.l : Int))), (19, some (.i s_.1))] [(0, some (.box [.own 1000, .i x0.next, .b x0.made])), (1000, some (.rows 26 11 (List.map api_Trade.enc x0.l) false)), (1001, some (.rows 26 11 (List.map api_Trade.enc s_.2) false))] 1002) b21 (Gives.mkR [] (.r rfl rfl (.r rfl rfl (.r rfl rfl (.r rfl rfl .n)))) (.r rfl rfl rfl (.r rfl rfl rfl (.r rfl rfl rfl .n))) rfl rfl rfl) ?_
  rintro ⟨v7, v8⟩ s_ hr
  have h : trade_Book_All.b0 x0 v7 v8 = some s_ := hr
  unfold trade_Book_All.b0 at h
  refine W.seq ?_
  refine W.pk ?_
  refine .v rfl rfl (OpL.binI rfl rfl rfl rfl) ?_
  refine .nil ?_
  refine W.seq ?_
  refine W.cond rfl (fun q23 => ?_) (fun q23 => ?_)
  ·have h := ifT q23 h
   refine W.skip ?_
   refine W.seq ?_
   refine W.block ?_
   refine W.seq ?_
   obtain ⟨c24, h⟩ := chk h
   refine W.pk ?_
   refine .v rfl rfl (O.idxO sl35 c24 rfl rfl rfl rfl) ?_
   refine .v rfl rfl (O.ldEN ty26 c24 rfl rfl rfl rfl rfl) ?_
   refine .t rfl rfl (O.alloc z26 rfl) ?_
   refine .s rfl rfl (O.st ty26 rfl rfl rfl rfl rfl rfl rfl rfl rfl rfl (all' := [.i ((nth x0.l v7).ID), .i ((nth x0.l v7).Twin), .i ((nth x0.l v7).Member), .i ((nth x0.l v7).Side), .i ((nth x0.l v7).Basket), .i ((nth x0.l v7).Amount), .i ((nth x0.l v7).Start), .i ((nth x0.l v7).End), .imm (.row 2 (List.map api_Reset.enc ((nth x0.l v7).Resets))), .i ((nth x0.l v7).Stage), .b ((nth x0.l v7).Short)]) rfl) ?_
   refine .nil ?_
   obtain ⟨t25, b26, h⟩ := bnd1 h
   obtain ⟨c27, h⟩ := chk h
   refine W.pk ?_
   refine .m rfl rfl rfl rfl ?_
   refine .v rfl rfl (O.ldN ty26 rfl rfl rfl) ?_
   refine .call (.agg (api_Trade.av t25)) [] 0 (trade_copied.ok b26) rfl rfl rfl ca42 rfl rfl (cC (.agg _ _ _ _ (cC (.imm _) (cC (.imm _) (cC (.imm _) (cC (.imm _) (cC (.imm _) (cC (.imm _) (cC (.imm _) (cC (.imm _) (cC (.imm _) (cC (.imm _) (cC (.imm _) .nil)))))))))))) .nil) rfl rfl rfl rfl rfl ?_
   refine .t rfl rfl (O.lit (enc := api_Trade.enc) (l := [t25]) sl35 rfl rfl rfl rfl rfl rfl rfl rfl rfl) ?_
   refine .t rfl rfl (O.appO sl35 api_Trade.ok c27 rfl rfl rfl rfl rfl) ?_
   refine .a rfl rfl rfl rfl ?_
   refine .nil ?_
   refine W.pk ?_
   refine .v rfl rfl (OpL.binI rfl rfl rfl rfl) ?_
   refine .m rfl rfl rfl rfl ?_
   refine .nil ?_
   cases h
   exact rdN (Gives.mkR [(1001, 1004)] (.r rfl rfl (.r rfl rfl (.r rfl rfl (.r rfl rfl .n)))) (.r rfl rfl rfl (.r rfl rfl rfl (.r rfl rfl rfl .n))) rfl rfl rfl)
  ·have h := ifF q23 h
   refine W.exit ?_
   cases h
   refine rdX fun e_ => ?_
   subst e_
   repeat with_reducible refine thru ?_
   refine hit ?_
   exact toN (Gives.mkR [] (.r rfl rfl .n) (.r rfl rfl rfl (.r rfl rfl rfl (.r rfl rfl rfl .n))) rfl rfl rfl)
end Go.Proofs.Ytidinbjehfodoaa
