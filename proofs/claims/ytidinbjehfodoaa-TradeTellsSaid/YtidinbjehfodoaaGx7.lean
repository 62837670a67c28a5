/- Shows what functions of the program come to, each as a plain function: written by a program of the author's for this claim. -/
import Derived.Test.YtidinbjehfodoaaGx6
namespace Go.Proofs.Ytidinbjehfodoaa
open Go Go.Pm
set_option linter.unusedVariables false
set_option linter.unusedSimpArgs false
noncomputable def slices_BinarySearchFunc_int__trade_Book_place_1.b0 (x0 : List api_Trade) (x1 : Int) (v6 : Int) (v7 : Int) : Option ((Int × Int) ⊕ Int) :=
  if (decide (v6 < v7)) = true then
    if (0 : Int) ≤ (IntKind.wrap .i64 (shrI .u64 (IntKind.wrap .u64 (IntKind.wrap .i64 (v6 + v7))) 1)) ∧ (IntKind.wrap .i64 (shrI .u64 (IntKind.wrap .u64 (IntKind.wrap .i64 (v6 + v7))) 1)) < (List.length x0 : Int) then
    (trade_Book_place_1_v2.f (nth x0 (IntKind.wrap .i64 (shrI .u64 (IntKind.wrap .u64 (IntKind.wrap .i64 (v6 + v7))) 1))) x1).bind fun t24 =>
    if (decide (t24 < 0)) = true then
      some (.inl ((IntKind.wrap .i64 ((IntKind.wrap .i64 (shrI .u64 (IntKind.wrap .u64 (IntKind.wrap .i64 (v6 + v7))) 1)) + 1)), v7))
    else
      some (.inl (v6, (IntKind.wrap .i64 (shrI .u64 (IntKind.wrap .u64 (IntKind.wrap .i64 (v6 + v7))) 1))))
    else none
  else
    some (.inr v6)
noncomputable def slices_BinarySearchFunc_int__trade_Book_place_1.r0 (x0 : List api_Trade) (x1 : Int) (s : Int × Int) : Option ((Int × Int) ⊕ Int) := slices_BinarySearchFunc_int__trade_Book_place_1.b0 x0 x1 s.1 s.2
noncomputable def slices_BinarySearchFunc_int__trade_Book_place_1.f (x0 : List api_Trade) (x1 : Int) : Option (Int × Bool) :=
  (loop (slices_BinarySearchFunc_int__trade_Book_place_1.r0 x0 x1) (0, (List.length x0 : Int))).bind fun o19 =>
  if ((decide (o19 < (List.length x0 : Int))) = true → (0 : Int) ≤ o19 ∧ o19 < (List.length x0 : Int)) then
  (if (decide (o19 < (List.length x0 : Int))) = true then trade_Book_place_1_v2.f (nth x0 o19) x1 else some default).bind fun t28 =>
  some (o19, ((decide (o19 < (List.length x0 : Int))) && (t28 == 0)))
  else none
set_option maxRecDepth 100000 in
set_option maxHeartbeats 4000000 in
theorem slices_BinarySearchFunc_int__trade_Book_place_1.ok {x0 : List api_Trade} {x1 : Int} {r : Int × Bool} (h : slices_BinarySearchFunc_int__trade_Book_place_1.f x0 x1 = some r) : Pm.Spec prog 53 [.xown 26 11 (List.map api_Trade.enc x0), .imm (.val (.int .i64 x1)), .fn 54 []] (.tup [.imm (.val (.int .i64 r.1)), .imm (.val (.bool r.2))]) [some (.xown 26 11 (List.map api_Trade.enc x0)), none, none] := by
 unfold slices_BinarySearchFunc_int__trade_Book_place_1.f at h
 refine Pm.Spec.of_body Try.func53 rfl (by kernel_rfl) (Nat.le_of_ble_eq_true rfl) (Nat.le_of_ble_eq_true rfl) ?_
 refine W.ghost (σ' := (mkSt [(0, some (.own 0)), (1, some (.i x1)), (2, some (.fn 54 []))] [(0, some (.rows 26 11 (List.map api_Trade.enc x0) false))] 1000)) (Gives.entry (.c rfl (.c rfl (.c rfl .n))) (.c rfl .n)) ?_
 refine W.seq ?_
 refine W.pk ?_
 refine .a rfl rfl rfl rfl ?_
 refine .a rfl rfl rfl rfl ?_
 refine .nil ?_
 refine W.seq ?_
 refine W.pk ?_
 refine .m rfl rfl rfl rfl ?_
 refine .v rfl rfl (O.lenO sl35 rfl rfl rfl) ?_
 refine .a rfl rfl rfl rfl ?_
 refine .nil ?_
 refine W.seq ?_
 refine W.pk ?_
 refine .m rfl rfl rfl rfl ?_
 refine .a rfl rfl rfl rfl ?_
 refine .a rfl rfl rfl rfl ?_
 refine .nil ?_
 refine W.seq ?_
 obtain ⟨o19, b20, h⟩ := bnd1 h
 refine W.fork (mkSt [(0, some (.own 0)), (1, some (.i x1)), (2, some (.fn 54 [])), (8, some (.i (List.length x0 : Int))), (9, some (.i o19))] [(0, some (.rows 26 11 (List.map api_Trade.enc x0) false))] 1000) ?_ ?_
 ·refine W.seq ?_
  obtain ⟨c27, h⟩ := chk h
  obtain ⟨t28, b29, h⟩ := bnd1 h
  refine W.fork (mkSt [(6, some (.i o19)), (7, some (.b ((decide (o19 < (List.length x0 : Int))) && (t28 == 0))))] [(0, some (.rows 26 11 (List.map api_Trade.enc x0) false))] 1000) ?_ ?_
  ·refine W.ret ?_
   cases h
   exact leaves (.inr rfl) rfl (.tup _ _ _ _ (cC (.imm _) (cC (.imm _) .nil))) (cS (.own _ _ _ _ rfl) (cN (cN .nil))) rfl rfl
  ·clear h
   rcases tf (decide (o19 < (List.length x0 : Int))) with g30 | g30
   ·refine W.pk ?_
    refine .m rfl rfl rfl rfl ?_
    refine .m rfl rfl rfl rfl ?_
    refine .m rfl rfl rfl rfl ?_
    refine .v rfl rfl (OpL.binI rfl rfl rfl rfl) ?_
    refine .m rfl rfl rfl rfl ?_
    refine .m rfl (met rfl rfl rfl g30) rfl rfl ?_
    refine .m rfl (met rfl rfl rfl g30) rfl rfl ?_
    refine .m rfl (met rfl rfl rfl g30) rfl rfl ?_
    refine .v rfl (met rfl rfl rfl g30) (O.idxO sl35 (c27 (by simp only [g30, Bool.true_or, Bool.or_true, Bool.false_or, Bool.or_false, Bool.true_and, Bool.and_true, Bool.false_and, Bool.and_false, Bool.not_true, Bool.not_false, cond_true, cond_false])) rfl rfl rfl rfl) ?_
    refine .v rfl (met rfl rfl rfl g30) (O.ldEN ty26 (c27 (by simp only [g30, Bool.true_or, Bool.or_true, Bool.false_or, Bool.or_false, Bool.true_and, Bool.and_true, Bool.false_and, Bool.and_false, Bool.not_true, Bool.not_false, cond_true, cond_false])) rfl rfl rfl rfl rfl) ?_
    refine .m rfl (met rfl rfl rfl g30) rfl rfl ?_
    refine .call (.i t28) [] 0 (trade_Book_place_1_v2.ok ((if_pos (by simp only [g30, Bool.true_or, Bool.or_true, Bool.false_or, Bool.or_false, Bool.true_and, Bool.and_true, Bool.false_and, Bool.and_false, Bool.not_true, Bool.not_false, cond_true, cond_false])).symm.trans b29)) rfl (met rfl rfl rfl g30) rfl ca54 rfl rfl (cC (.agg _ _ _ _ (cC (.imm _) (cC (.imm _) (cC (.imm _) (cC (.imm _) (cC (.imm _) (cC (.imm _) (cC (.imm _) (cC (.imm _) (cC (.imm _) (cC (.imm _) (cC (.imm _) .nil)))))))))))) (cC (.imm _) .nil)) rfl rfl rfl rfl rfl ?_
    refine .v rfl (met rfl rfl rfl g30) (OpL.binI rfl rfl rfl rfl) ?_
    refine .v rfl rfl (O.pickT g30 rfl rfl rfl) ?_
    refine .a rfl rfl rfl rfl ?_
    refine .a rfl rfl rfl rfl ?_
    refine .nil ?_
    exact toN (Gives.mkR [] (.r rfl rfl (.c rfl (sbb (by simp only [g30, Bool.true_or, Bool.or_true, Bool.false_or, Bool.or_false, Bool.true_and, Bool.and_true, Bool.false_and, Bool.and_false, Bool.not_true, Bool.not_false, cond_true, cond_false])) rfl .n)) (.r rfl rfl rfl .n) rfl rfl rfl)
   ·refine W.pk ?_
    refine .m rfl rfl rfl rfl ?_
    refine .m rfl rfl rfl rfl ?_
    refine .m rfl rfl rfl rfl ?_
    refine .v rfl rfl (OpL.binI rfl rfl rfl rfl) ?_
    refine .m rfl rfl rfl rfl ?_
    refine .x rfl (unmet rfl rfl rfl g30) ?_
    refine .x rfl (unmet rfl rfl rfl g30) ?_
    refine .x rfl (unmet rfl rfl rfl g30) ?_
    refine .x rfl (unmet rfl rfl rfl g30) ?_
    refine .x rfl (unmet rfl rfl rfl g30) ?_
    refine .x rfl (unmet rfl rfl rfl g30) ?_
    refine .x rfl (unmet rfl rfl rfl g30) ?_
    refine .x rfl (unmet rfl rfl rfl g30) ?_
    refine .v rfl rfl (O.pickF g30 rfl rfl rfl) ?_
    refine .a rfl rfl rfl rfl ?_
    refine .a rfl rfl rfl rfl ?_
    refine .nil ?_
    exact toN (Gives.mkR [] (.r rfl rfl (.c rfl (sbb (by simp only [g30, Bool.true_or, Bool.or_true, Bool.false_or, Bool.or_false, Bool.true_and, Bool.and_true, Bool.false_and, Bool.and_false, Bool.not_true, Bool.not_false, cond_true, cond_false])) rfl .n)) (.r rfl rfl rfl .n) rfl rfl rfl)
 ·clear h
  refine W.block ?_
  refine W.loopF (fun (s_ : Int × Int) => mkSt [(0, some (.own 0)), (1, some (.i x1)), (2, some (.fn 54 [])), (8, some (.i (List.length x0 : Int))), (9, some (.i s_.1)), (10, some (.i s_.2))] [(0, some (.rows 26 11 (List.map api_Trade.enc x0) false))] 1000) b20 (Gives.mkR [] (.r rfl rfl (.r rfl rfl (.r rfl rfl (.r rfl rfl (.r rfl rfl (.r rfl rfl .n)))))) (.r rfl rfl rfl .n) rfl rfl rfl) ?_
  rintro ⟨v6, v7⟩ s_ hr
  have h : slices_BinarySearchFunc_int__trade_Book_place_1.b0 x0 x1 v6 v7 = some s_ := hr
  unfold slices_BinarySearchFunc_int__trade_Book_place_1.b0 at h
  refine W.seq ?_
  refine W.seq ?_
  refine W.pk ?_
  refine .m rfl rfl rfl rfl ?_
  refine .m rfl rfl rfl rfl ?_
  refine .v rfl rfl (OpL.binI rfl rfl rfl rfl) ?_
  refine .nil ?_
  refine W.cond rfl (fun q22 => ?_) (fun q22 => ?_)
  ·have h := ifT q22 h
   refine W.skip ?_
   refine W.block ?_
   refine W.seq ?_
   refine W.pk ?_
   refine .m rfl rfl rfl rfl ?_
   refine .m rfl rfl rfl rfl ?_
   refine .v rfl rfl (OpL.binI rfl rfl rfl rfl) ?_
   refine .v rfl rfl (O.conv h3 u89 rfl rfl) ?_
   refine .v rfl rfl (O.shr (by decide) rfl rfl rfl) ?_
   refine .v rfl rfl (O.conv h89 u3 rfl rfl) ?_
   refine .a rfl rfl rfl rfl ?_
   refine .nil ?_
   refine W.seq ?_
   obtain ⟨c23, h⟩ := chk h
   obtain ⟨t24, b25, h⟩ := bnd1 h
   refine W.pk ?_
   refine .m rfl rfl rfl rfl ?_
   refine .m rfl rfl rfl rfl ?_
   refine .m rfl rfl rfl rfl ?_
   refine .v rfl rfl (O.idxO sl35 c23 rfl rfl rfl rfl) ?_
   refine .v rfl rfl (O.ldEN ty26 c23 rfl rfl rfl rfl rfl) ?_
   refine .m rfl rfl rfl rfl ?_
   refine .call (.i t24) [] 0 (trade_Book_place_1_v2.ok b25) rfl rfl rfl ca54 rfl rfl (cC (.agg _ _ _ _ (cC (.imm _) (cC (.imm _) (cC (.imm _) (cC (.imm _) (cC (.imm _) (cC (.imm _) (cC (.imm _) (cC (.imm _) (cC (.imm _) (cC (.imm _) (cC (.imm _) .nil)))))))))))) (cC (.imm _) .nil)) rfl rfl rfl rfl rfl ?_
   refine .v rfl rfl (OpL.binI rfl rfl rfl rfl) ?_
   refine .nil ?_
   refine W.cond rfl (fun q26 => ?_) (fun q26 => ?_)
   ·have h := ifT q26 h
    refine W.pk ?_
    refine .m rfl rfl rfl rfl ?_
    refine .v rfl rfl (OpL.binI rfl rfl rfl rfl) ?_
    refine .a rfl rfl rfl rfl ?_
    refine .nil ?_
    cases h
    exact rdN (Gives.mkR [] (.r rfl rfl (.r rfl rfl (.r rfl rfl (.r rfl rfl (.r rfl rfl (.r rfl rfl .n)))))) (.r rfl rfl rfl .n) rfl rfl rfl)
   ·have h := ifF q26 h
    refine W.pk ?_
    refine .m rfl rfl rfl rfl ?_
    refine .a rfl rfl rfl rfl ?_
    refine .nil ?_
    cases h
    exact rdN (Gives.mkR [] (.r rfl rfl (.r rfl rfl (.r rfl rfl (.r rfl rfl (.r rfl rfl (.r rfl rfl .n)))))) (.r rfl rfl rfl .n) rfl rfl rfl)
  ·have h := ifF q22 h
   refine W.exit ?_
   cases h
   refine rdX fun e_ => ?_
   subst e_
   repeat with_reducible refine thru ?_
   refine hit ?_
   exact toN (Gives.mkR [] (.r rfl rfl (.r rfl rfl (.r rfl rfl (.r rfl rfl (.r rfl rfl .n))))) (.r rfl rfl rfl .n) rfl rfl rfl)

noncomputable def trade_Book_place.f (x0 : trade_Book) (x1 : Int) : Option (Int × Bool) :=
  (slices_BinarySearchFunc_int__trade_Book_place_1.f x0.l x1).bind fun t1 =>
  some (t1.1, t1.2)
set_option maxRecDepth 100000 in
set_option maxHeartbeats 4000000 in
theorem trade_Book_place.ok {x0 : trade_Book} {x1 : Int} {r : Int × Bool} (h : trade_Book_place.f x0 x1 = some r) : Pm.Spec prog 46 [.xbox [.xown 26 11 (List.map api_Trade.enc x0.l), .imm (.val (.int .i64 x0.next)), .imm (.val (.bool x0.made))], .imm (.val (.int .i64 x1))] (.tup [.imm (.val (.int .i64 r.1)), .imm (.val (.bool r.2))]) [some (.xbox [.xown 26 11 (List.map api_Trade.enc x0.l), .imm (.val (.int .i64 x0.next)), .imm (.val (.bool x0.made))]), none] := by
 unfold trade_Book_place.f at h
 refine Pm.Spec.of_body Try.func46 rfl (by kernel_rfl) (Nat.le_of_ble_eq_true rfl) (Nat.le_of_ble_eq_true rfl) ?_
 refine W.ghost (σ' := (mkSt [(0, some (.ptr 0 0)), (1, some (.i x1))] [(0, some (.box [.own 1, .i x0.next, .b x0.made])), (1, some (.rows 26 11 (List.map api_Trade.enc x0.l) false))] 1000)) (Gives.entry (.c rfl (.c rfl .n)) (.c rfl (.c rfl .n))) ?_
 refine W.ghost (σ' := (mkSt [(0, some (.ptr 0 0)), (1, some (.i x1))] [(0, some (.box [.own 1000, .i x0.next, .b x0.made])), (1000, some (.rows 26 11 (List.map api_Trade.enc x0.l) false))] 1001)) (Gives.mkR [(1000, 1)] (.r rfl rfl (.r rfl rfl .n)) (.r rfl rfl rfl (.r rfl rfl rfl .n)) rfl rfl rfl) ?_
 refine W.seq ?_
 refine W.pk ?_
 refine .a rfl rfl rfl rfl ?_
 refine .a rfl rfl rfl rfl ?_
 refine .nil ?_
 refine W.seq ?_
 obtain ⟨t1, b2, h⟩ := bnd1 h
 refine W.pk ?_
 refine .m rfl rfl rfl rfl ?_
 refine .v rfl rfl (OpL.nilP rfl rfl rfl) ?_
 refine .v rfl rfl (O.fld fld62_0 rfl rfl rfl) ?_
 refine .v rfl rfl (O.ld (y := .own 1000) ty35 rfl rfl rfl) ?_
 refine .m rfl rfl rfl rfl ?_
 refine .call (.tup [.i t1.1, .b t1.2]) [(1000, some (.rows 26 11 (List.map api_Trade.enc x0.l) false)), (1000, none)] 0 (slices_BinarySearchFunc_int__trade_Book_place_1.ok b2) rfl rfl rfl ca53 rfl rfl (cC (.own _ _ _ _ rfl) (cC (.imm _) (cC (.fn _ _ _ _ _ .nil) .nil))) rfl rfl rfl rfl rfl ?_
 refine .v rfl rfl (OpL.extract rfl rfl rfl) ?_
 refine .v rfl rfl (OpL.extract rfl rfl rfl) ?_
 refine .a rfl rfl rfl rfl ?_
 refine .a rfl rfl rfl rfl ?_
 refine .nil ?_
 refine W.ret ?_
 cases h
 exact leaves (.inr rfl) rfl (.tup _ _ _ _ (cC (.imm _) (cC (.imm _) .nil))) (cS (.ptr _ _ _ _ _ rfl (cC (.own _ _ _ _ rfl) (cC (.imm _) (cC (.imm _) .nil)))) (cN .nil)) rfl rfl

noncomputable def slices_Clone_api_Reset.f (x0 : List api_Reset) : Option (List api_Reset) :=
  if (List.length x0) * 16 ≤ 140737488355328 then some x0 else none
set_option maxRecDepth 100000 in
theorem slices_Clone_api_Reset.ok {x0 r : List api_Reset} (h : slices_Clone_api_Reset.f x0 = some r) : Pm.Spec prog 52 [.imm (.row 2 (List.map api_Reset.enc x0))] (.xown 60 2 (List.map api_Reset.enc r)) [none] := by
 obtain ⟨h1, rfl⟩ : (List.length x0) * 16 ≤ 140737488355328 ∧ x0 = r := by
   unfold slices_Clone_api_Reset.f at h
   split at h
   · rename_i h1; cases h; exact ⟨h1, rfl⟩
   · cases h
 refine Pm.Spec.of_body Try.func52 rfl (by kernel_rfl) (Nat.le_of_ble_eq_true rfl) (Nat.le_of_ble_eq_true rfl) ?_
 refine W.ghost (σ' := (mkSt [(0, some (.imm (.row 2 (List.map api_Reset.enc x0))))] [] 1000)) (Gives.entry (.c rfl .n) .n) ?_
 cases x0 with
 | cons x1 l1 =>
  refine W.seq ?_
  refine W.pk ?_
  refine .v rfl rfl (OpL.move (.inr rfl) rfl) ?_
  refine .nil ?_
  refine W.seq ?_
  refine W.seq ?_
  refine W.pk ?_
  refine .v rfl rfl (OpL.move (.inl rfl) rfl) ?_
  refine .v rfl rfl (O.eqRow sl24 rfl rfl rfl) ?_
  refine .nil ?_
  refine W.cond rfl (fun q => by cases q) (fun _ => ?_)
  refine W.skip ?_
  refine W.seq ?_
  refine W.pk ?_
  refine .t rfl rfl (O.lit (enc := api_Reset.enc) (l := []) sl24 rfl rfl rfl rfl rfl rfl rfl rfl rfl) ?_
  refine .v rfl rfl (OpL.move (.inl rfl) rfl) ?_
  have h2 : (List.length ([] : List api_Reset) + List.length (x1 :: l1 : List api_Reset)) * 16 ≤ 140737488355328 := by simpa using h1
  refine .t rfl rfl (O.app (l := []) sl24 api_Reset.ok h2 rfl rfl rfl rfl) ?_
  refine .v rfl rfl (OpL.move (.inr rfl) rfl) ?_
  refine .nil ?_
  refine W.ret ?_
  exact leaves (.inr rfl) rfl (.own _ _ _ _ rfl) (cN .nil) rfl rfl
 | nil =>
  refine W.emptyS 0 rfl fun A c => ?_
  cases A with
  | none =>
   refine W.seq ?_
   refine W.pk ?_
   refine .v rfl rfl (OpL.move (.inr rfl) rfl) ?_
   refine .nil ?_
   refine W.seq ?_
   refine W.seq ?_
   refine W.pk ?_
   refine .v rfl rfl (OpL.move (.inl rfl) rfl) ?_
   refine .v rfl rfl (O.eqSl sl24 rfl rfl rfl) ?_
   refine .nil ?_
   refine W.cond rfl (fun _ => ?_) (fun q => by cases q)
   refine W.seq ?_
   refine W.pk ?_
   refine .v rfl rfl (OpL.move (.inr rfl) rfl) ?_
   refine .nil ?_
   refine W.ret ?_
   exact leaves (.inr rfl) rfl (.nilown _ _) (cN .nil) rfl rfl
  | some p =>
   refine W.seq ?_
   refine W.pk ?_
   refine .v rfl rfl (OpL.move (.inr rfl) rfl) ?_
   refine .nil ?_
   refine W.seq ?_
   refine W.seq ?_
   refine W.pk ?_
   refine .v rfl rfl (OpL.move (.inl rfl) rfl) ?_
   refine .v rfl rfl (O.eqSl sl24 rfl rfl rfl) ?_
   refine .nil ?_
   refine W.cond rfl (fun q => by cases q) (fun _ => ?_)
   refine W.skip ?_
   refine W.ghost (Gives.emptyS 0 2 rfl) ?_
   refine W.seq ?_
   refine W.pk ?_
   refine .t rfl rfl (O.lit (enc := api_Reset.enc) (l := []) sl24 rfl rfl rfl rfl rfl rfl rfl rfl rfl) ?_
   refine .v rfl rfl (OpL.move (.inl rfl) rfl) ?_
   have h2 : (List.length ([] : List api_Reset) + List.length ([] : List api_Reset)) * 16 ≤ 140737488355328 := by simp
   refine .t rfl rfl (O.app (l := []) sl24 api_Reset.ok h2 rfl rfl rfl rfl) ?_
   refine .v rfl rfl (OpL.move (.inr rfl) rfl) ?_
   refine .nil ?_
   refine W.ret ?_
   exact leaves (.inr rfl) rfl (.own _ _ _ _ rfl) (cN .nil) rfl rfl

noncomputable def trade_copied.f (x0 : api_Trade) : Option (api_Trade) :=
  (slices_Clone_api_Reset.f x0.Resets).bind fun t1 =>
  some (⟨x0.ID, x0.Twin, x0.Member, x0.Side, x0.Basket, x0.Amount, x0.Start, x0.End, t1, x0.Stage, x0.Short⟩ : api_Trade)
set_option maxRecDepth 100000 in
set_option maxHeartbeats 4000000 in
theorem trade_copied.ok {x0 : api_Trade} {r : api_Trade} (h : trade_copied.f x0 = some r) : Pm.Spec prog 42 [.agg [.imm (.val (.int .i64 x0.ID)), .imm (.val (.int .i64 x0.Twin)), .imm (.val (.int .i64 x0.Member)), .imm (.val (.int .i64 x0.Side)), .imm (.val (.int .i64 x0.Basket)), .imm (.val (.int .i64 x0.Amount)), .imm (.val (.int .i64 x0.Start)), .imm (.val (.int .i64 x0.End)), .imm (.row 2 (List.map api_Reset.enc x0.Resets)), .imm (.val (.int .i64 x0.Stage)), .imm (.val (.bool x0.Short))]] (.agg [.imm (.val (.int .i64 r.ID)), .imm (.val (.int .i64 r.Twin)), .imm (.val (.int .i64 r.Member)), .imm (.val (.int .i64 r.Side)), .imm (.val (.int .i64 r.Basket)), .imm (.val (.int .i64 r.Amount)), .imm (.val (.int .i64 r.Start)), .imm (.val (.int .i64 r.End)), .imm (.row 2 (List.map api_Reset.enc r.Resets)), .imm (.val (.int .i64 r.Stage)), .imm (.val (.bool r.Short))]) [none] := by
 unfold trade_copied.f at h
 refine Pm.Spec.of_body Try.func42 rfl (by kernel_rfl) (Nat.le_of_ble_eq_true rfl) (Nat.le_of_ble_eq_true rfl) ?_
 refine W.ghost (σ' := (mkSt [(0, some (.agg (api_Trade.av x0)))] [] 1000)) (Gives.entry (.c rfl .n) .n) ?_
 refine W.seq ?_
 refine W.pk ?_
 refine .t rfl rfl (O.box rfl rfl rfl rfl rfl) ?_
 refine .t rfl rfl (O.alloc z26 rfl) ?_
 refine .nil ?_
 refine W.seq ?_
 obtain ⟨t1, b2, h⟩ := bnd1 h
 refine W.pk ?_
 refine .v rfl rfl (O.fld fld26_8 rfl rfl rfl) ?_
 refine .v rfl rfl (O.ld (y := .imm (.row 2 (List.map api_Reset.enc x0.Resets))) ty24 rfl rfl rfl) ?_
 refine .call (.own 1002) [(1002, some (.rows 60 2 (List.map api_Reset.enc t1) false))] 1 (slices_Clone_api_Reset.ok b2) rfl rfl rfl ca52 rfl rfl (cC (.imm _) .nil) rfl rfl rfl rfl rfl ?_
 refine .v rfl rfl (O.fld fld26_8 rfl rfl rfl) ?_
 refine .s rfl rfl (O.st ty24 rfl rfl rfl rfl rfl rfl rfl rfl rfl rfl (all' := [.i x0.ID, .i x0.Twin, .i x0.Member, .i x0.Side, .i x0.Basket, .i x0.Amount, .i x0.Start, .i x0.End, .own 1002, .i x0.Stage, .b x0.Short]) rfl) ?_
 refine .nil ?_
 refine W.seq ?_
 refine W.pk ?_
 refine .v rfl rfl (O.ldN ty26 rfl rfl rfl) ?_
 refine .s rfl rfl (O.st ty26 rfl rfl rfl rfl rfl rfl rfl rfl rfl rfl (all' := [.i x0.ID, .i x0.Twin, .i x0.Member, .i x0.Side, .i x0.Basket, .i x0.Amount, .i x0.Start, .i x0.End, .own 1002, .i x0.Stage, .b x0.Short]) rfl) ?_
 refine .nil ?_
 refine W.ret ?_
 cases h
 exact leaves (.inr rfl) rfl (.agg _ _ _ _ (cC (.imm _) (cC (.imm _) (cC (.imm _) (cC (.imm _) (cC (.imm _) (cC (.imm _) (cC (.imm _) (cC (.imm _) (cC (.lend _ _ _ _ _ rfl) (cC (.imm _) (cC (.imm _) .nil)))))))))))) (cN .nil) rfl rfl

noncomputable def trade_Book_Put.f (x0 : trade_Book) (x1 : api_Trade) (x2 : api_Trade) : Option (Int × trade_Book) :=
  if (!x0.made) = true then
    some (3, x0)
  else
    (trade_Check.f x1).bind fun t2 =>
    if (t2 != 0) = true then
      some (t2, x0)
    else
      (trade_Check.f x2).bind fun t5 =>
      if (t5 != 0) = true then
        some (t5, x0)
      else
        (trade_Twins.f x1 x2).bind fun t8 =>
        if (!t8) = true then
          some (32, x0)
        else
          (trade_Book_place.f x0 x1.ID).bind fun t11 =>
          (trade_Book_place.f x0 x2.ID).bind fun t13 =>
          if ((!t11.2) || (!t13.2)) = true then
            some (6, x0)
          else
            if (0 : Int) ≤ t11.1 ∧ t11.1 < (List.length x0.l : Int) then
            if ((((nth x0.l t11.1).Member) != x1.Member) = false → (0 : Int) ≤ t13.1 ∧ t13.1 < (List.length x0.l : Int)) then
            if ((((nth x0.l t11.1).Member) != x1.Member) || (((nth x0.l t13.1).Member) != x2.Member)) = true then
              some (22, x0)
            else
              (trade_copied.f x1).bind fun t21 =>
              (trade_copied.f x2).bind fun t23 =>
              if (0 : Int) ≤ t11.1 ∧ t11.1 < (List.length x0.l : Int) then
              if (0 : Int) ≤ t13.1 ∧ t13.1 < (List.length (List.set x0.l (Int.toNat t11.1) t21) : Int) then
              some (0, (⟨(List.set (List.set x0.l (Int.toNat t11.1) t21) (Int.toNat t13.1) t23), x0.next, x0.made⟩ : trade_Book))
              else none
              else none
            else none
            else none
set_option maxRecDepth 100000 in
set_option maxHeartbeats 4000000 in
theorem trade_Book_Put.ok {x0 : trade_Book} {x1 : api_Trade} {x2 : api_Trade} {r : Int × trade_Book} (h : trade_Book_Put.f x0 x1 x2 = some r) : Pm.Spec prog 32 [.xbox [.xown 26 11 (List.map api_Trade.enc x0.l), .imm (.val (.int .i64 x0.next)), .imm (.val (.bool x0.made))], .agg [.imm (.val (.int .i64 x1.ID)), .imm (.val (.int .i64 x1.Twin)), .imm (.val (.int .i64 x1.Member)), .imm (.val (.int .i64 x1.Side)), .imm (.val (.int .i64 x1.Basket)), .imm (.val (.int .i64 x1.Amount)), .imm (.val (.int .i64 x1.Start)), .imm (.val (.int .i64 x1.End)), .imm (.row 2 (List.map api_Reset.enc x1.Resets)), .imm (.val (.int .i64 x1.Stage)), .imm (.val (.bool x1.Short))], .agg [.imm (.val (.int .i64 x2.ID)), .imm (.val (.int .i64 x2.Twin)), .imm (.val (.int .i64 x2.Member)), .imm (.val (.int .i64 x2.Side)), .imm (.val (.int .i64 x2.Basket)), .imm (.val (.int .i64 x2.Amount)), .imm (.val (.int .i64 x2.Start)), .imm (.val (.int .i64 x2.End)), .imm (.row 2 (List.map api_Reset.enc x2.Resets)), .imm (.val (.int .i64 x2.Stage)), .imm (.val (.bool x2.Short))]] (.imm (.val (.int .i64 r.1))) [some (.xbox [.xown 26 11 (List.map api_Trade.enc r.2.l), .imm (.val (.int .i64 r.2.next)), .imm (.val (.bool r.2.made))]), none, none] := by
 unfold trade_Book_Put.f at h
 refine Pm.Spec.of_body Try.func32 rfl (by kernel_rfl) (Nat.le_of_ble_eq_true rfl) (Nat.le_of_ble_eq_true rfl) ?_
 refine W.ghost (σ' := (mkSt [(0, some (.ptr 0 0)), (1, some (.agg (api_Trade.av x1))), (2, some (.agg (api_Trade.av x2)))] [(0, some (.box [.own 1, .i x0.next, .b x0.made])), (1, some (.rows 26 11 (List.map api_Trade.enc x0.l) false))] 1000)) (Gives.entry (.c rfl (.c rfl (.c rfl .n))) (.c rfl (.c rfl .n))) ?_
 refine W.ghost (σ' := (mkSt [(0, some (.ptr 0 0)), (1, some (.agg (api_Trade.av x1))), (2, some (.agg (api_Trade.av x2)))] [(0, some (.box [.own 1000, .i x0.next, .b x0.made])), (1000, some (.rows 26 11 (List.map api_Trade.enc x0.l) false))] 1001)) (Gives.mkR [(1000, 1)] (.r rfl rfl (.r rfl rfl (.r rfl rfl .n))) (.r rfl rfl rfl (.r rfl rfl rfl .n)) rfl rfl rfl) ?_
 refine W.seq ?_
 refine W.pk ?_
 refine .t rfl rfl (O.box rfl rfl rfl rfl rfl) ?_
 refine .t rfl rfl (O.box rfl rfl rfl rfl rfl) ?_
 refine .a rfl rfl rfl rfl ?_
 refine .nil ?_
 refine W.seq ?_
 refine W.seq ?_
 refine W.pk ?_
 refine .m rfl rfl rfl rfl ?_
 refine .v rfl rfl (OpL.eqP rfl u36 rfl rfl rfl) ?_
 refine .m rfl rfl rfl rfl ?_
 refine .m rfl (met rfl rfl rfl rfl) rfl rfl ?_
 refine .v rfl (met rfl rfl rfl rfl) (OpL.nilP rfl rfl rfl) ?_
 refine .v rfl (met rfl rfl rfl rfl) (O.fld fld62_2 rfl rfl rfl) ?_
 refine .v rfl (met rfl rfl rfl rfl) (O.ld (y := .b x0.made) ty4 rfl rfl rfl) ?_
 refine .v rfl (met rfl rfl rfl rfl) (OpL.unV rfl rfl rfl) ?_
 refine .v rfl rfl (O.pickF rfl rfl rfl rfl) ?_
 refine .nil ?_
 refine W.cond rfl (fun q1 => ?_) (fun q1 => ?_)
 ·have h := ifT q1 h
  refine W.seq ?_
  refine W.pk ?_
  refine .a rfl rfl rfl rfl ?_
  refine .nil ?_
  refine W.ret ?_
  cases h
  exact leaves (.inr rfl) rfl (.imm _) (cS (.ptr _ _ _ _ _ rfl (cC (.own _ _ _ _ rfl) (cC (.imm _) (cC (.imm _) .nil)))) (cN (cN .nil))) rfl rfl
 ·have h := ifF q1 h
  refine W.skip ?_
  refine W.seq ?_
  refine W.seq ?_
  obtain ⟨t2, b3, h⟩ := bnd1 h
  refine W.pk ?_
  refine .v rfl rfl (O.ldN ty26 rfl rfl rfl) ?_
  refine .call (.i t2) [] 0 (trade_Check.ok b3) rfl rfl rfl ca11 rfl rfl (cC (.agg _ _ _ _ (cC (.imm _) (cC (.imm _) (cC (.imm _) (cC (.imm _) (cC (.imm _) (cC (.imm _) (cC (.imm _) (cC (.imm _) (cC (.imm _) (cC (.imm _) (cC (.imm _) .nil)))))))))))) .nil) rfl rfl rfl rfl rfl ?_
  refine .a rfl rfl rfl rfl ?_
  refine .nil ?_
  refine W.seq ?_
  refine W.pk ?_
  refine .m rfl rfl rfl rfl ?_
  refine .v rfl rfl (OpL.binI rfl rfl rfl rfl) ?_
  refine .nil ?_
  refine W.cond rfl (fun q4 => ?_) (fun q4 => ?_)
  ·have h := ifT q4 h
   refine W.seq ?_
   refine W.pk ?_
   refine .m rfl rfl rfl rfl ?_
   refine .a rfl rfl rfl rfl ?_
   refine .nil ?_
   refine W.ret ?_
   cases h
   exact leaves (.inr rfl) rfl (.imm _) (cS (.ptr _ _ _ _ _ rfl (cC (.own _ _ _ _ rfl) (cC (.imm _) (cC (.imm _) .nil)))) (cN (cN .nil))) rfl rfl
  ·have h := ifF q4 h
   refine W.skip ?_
   refine W.seq ?_
   refine W.seq ?_
   obtain ⟨t5, b6, h⟩ := bnd1 h
   refine W.pk ?_
   refine .v rfl rfl (O.ldN ty26 rfl rfl rfl) ?_
   refine .call (.i t5) [] 0 (trade_Check.ok b6) rfl rfl rfl ca11 rfl rfl (cC (.agg _ _ _ _ (cC (.imm _) (cC (.imm _) (cC (.imm _) (cC (.imm _) (cC (.imm _) (cC (.imm _) (cC (.imm _) (cC (.imm _) (cC (.imm _) (cC (.imm _) (cC (.imm _) .nil)))))))))))) .nil) rfl rfl rfl rfl rfl ?_
   refine .a rfl rfl rfl rfl ?_
   refine .nil ?_
   refine W.seq ?_
   refine W.pk ?_
   refine .m rfl rfl rfl rfl ?_
   refine .v rfl rfl (OpL.binI rfl rfl rfl rfl) ?_
   refine .nil ?_
   refine W.cond rfl (fun q7 => ?_) (fun q7 => ?_)
   ·have h := ifT q7 h
    refine W.seq ?_
    refine W.pk ?_
    refine .m rfl rfl rfl rfl ?_
    refine .a rfl rfl rfl rfl ?_
    refine .nil ?_
    refine W.ret ?_
    cases h
    exact leaves (.inr rfl) rfl (.imm _) (cS (.ptr _ _ _ _ _ rfl (cC (.own _ _ _ _ rfl) (cC (.imm _) (cC (.imm _) .nil)))) (cN (cN .nil))) rfl rfl
   ·have h := ifF q7 h
    refine W.skip ?_
    refine W.seq ?_
    refine W.seq ?_
    obtain ⟨t8, b9, h⟩ := bnd1 h
    refine W.pk ?_
    refine .v rfl rfl (O.ldN ty26 rfl rfl rfl) ?_
    refine .v rfl rfl (O.ldN ty26 rfl rfl rfl) ?_
    refine .call (.b t8) [] 0 (trade_Twins.ok b9) rfl rfl rfl ca13 rfl rfl (cC (.agg _ _ _ _ (cC (.imm _) (cC (.imm _) (cC (.imm _) (cC (.imm _) (cC (.imm _) (cC (.imm _) (cC (.imm _) (cC (.imm _) (cC (.imm _) (cC (.imm _) (cC (.imm _) .nil)))))))))))) (cC (.agg _ _ _ _ (cC (.imm _) (cC (.imm _) (cC (.imm _) (cC (.imm _) (cC (.imm _) (cC (.imm _) (cC (.imm _) (cC (.imm _) (cC (.imm _) (cC (.imm _) (cC (.imm _) .nil)))))))))))) .nil)) rfl rfl rfl rfl rfl ?_
    refine .v rfl rfl (OpL.unV rfl rfl rfl) ?_
    refine .nil ?_
    refine W.cond rfl (fun q10 => ?_) (fun q10 => ?_)
    ·have h := ifT q10 h
     refine W.seq ?_
     refine W.pk ?_
     refine .a rfl rfl rfl rfl ?_
     refine .nil ?_
     refine W.ret ?_
     cases h
     exact leaves (.inr rfl) rfl (.imm _) (cS (.ptr _ _ _ _ _ rfl (cC (.own _ _ _ _ rfl) (cC (.imm _) (cC (.imm _) .nil)))) (cN (cN .nil))) rfl rfl
    ·have h := ifF q10 h
     refine W.skip ?_
     refine W.seq ?_
     obtain ⟨t11, b12, h⟩ := bnd1 h
     refine W.pk ?_
     refine .m rfl rfl rfl rfl ?_
     refine .v rfl rfl (O.fld fld26_0 rfl rfl rfl) ?_
     refine .v rfl rfl (O.ld (y := .i x1.ID) ty3 rfl rfl rfl) ?_
     refine .call (.tup [.i t11.1, .b t11.2]) [(0, some (.box [.own 1003, .i x0.next, .b x0.made])), (1003, some (.rows 26 11 (List.map api_Trade.enc x0.l) false)), (0, none), (1000, none)] 1 (trade_Book_place.ok b12) rfl rfl rfl ca46 rfl rfl (cC (.ptr _ _ _ _ _ rfl (cC (.own _ _ _ _ rfl) (cC (.imm _) (cC (.imm _) .nil)))) (cC (.imm _) .nil)) rfl rfl rfl rfl rfl ?_
     refine .m rfl rfl rfl rfl ?_
     refine .v rfl rfl (OpL.extract rfl rfl rfl) ?_
     refine .v rfl rfl (OpL.extract rfl rfl rfl) ?_
     refine .a rfl rfl rfl rfl ?_
     refine .a rfl rfl rfl rfl ?_
     refine .nil ?_
     refine W.seq ?_
     obtain ⟨t13, b14, h⟩ := bnd1 h
     refine W.pk ?_
     refine .m rfl rfl rfl rfl ?_
     refine .v rfl rfl (O.fld fld26_0 rfl rfl rfl) ?_
     refine .v rfl rfl (O.ld (y := .i x2.ID) ty3 rfl rfl rfl) ?_
     refine .call (.tup [.i t13.1, .b t13.2]) [(0, some (.box [.own 1004, .i x0.next, .b x0.made])), (1004, some (.rows 26 11 (List.map api_Trade.enc x0.l) false)), (0, none), (1003, none)] 1 (trade_Book_place.ok b14) rfl rfl rfl ca46 rfl rfl (cC (.ptr _ _ _ _ _ rfl (cC (.own _ _ _ _ rfl) (cC (.imm _) (cC (.imm _) .nil)))) (cC (.imm _) .nil)) rfl rfl rfl rfl rfl ?_
     refine .m rfl rfl rfl rfl ?_
     refine .v rfl rfl (OpL.extract rfl rfl rfl) ?_
     refine .v rfl rfl (OpL.extract rfl rfl rfl) ?_
     refine .a rfl rfl rfl rfl ?_
     refine .a rfl rfl rfl rfl ?_
     refine .nil ?_
     refine W.seq ?_
     refine W.seq ?_
     refine W.fork (mkSt [(0, some (.ptr 0 0)), (4, some (.ptr 1001 0)), (5, some (.ptr 1002 0)), (9, some (.i t11.1)), (11, some (.i t13.1)), (55, some (.b ((!t11.2) || (!t13.2))))] [(0, some (.box [.own 1004, .i x0.next, .b x0.made])), (1001, some (.box [.i x1.ID, .i x1.Twin, .i x1.Member, .i x1.Side, .i x1.Basket, .i x1.Amount, .i x1.Start, .i x1.End, .imm (.row 2 (List.map api_Reset.enc x1.Resets)), .i x1.Stage, .b x1.Short])), (1002, some (.box [.i x2.ID, .i x2.Twin, .i x2.Member, .i x2.Side, .i x2.Basket, .i x2.Amount, .i x2.Start, .i x2.End, .imm (.row 2 (List.map api_Reset.enc x2.Resets)), .i x2.Stage, .b x2.Short])), (1004, some (.rows 26 11 (List.map api_Trade.enc x0.l) false))] 1005) ?_ ?_
     ·refine W.cond rfl (fun q16 => ?_) (fun q16 => ?_)
      ·have h := ifT q16 h
       refine W.seq ?_
       refine W.pk ?_
       refine .a rfl rfl rfl rfl ?_
       refine .nil ?_
       refine W.ret ?_
       cases h
       exact leaves (.inr rfl) rfl (.imm _) (cS (.ptr _ _ _ _ _ rfl (cC (.own _ _ _ _ rfl) (cC (.imm _) (cC (.imm _) .nil)))) (cN (cN .nil))) rfl rfl
      ·have h := ifF q16 h
       refine W.skip ?_
       refine W.seq ?_
       refine W.seq ?_
       obtain ⟨c17, h⟩ := chk h
       obtain ⟨c18, h⟩ := chk h
       refine W.fork (mkSt [(0, some (.ptr 0 0)), (4, some (.ptr 1001 0)), (5, some (.ptr 1002 0)), (9, some (.i t11.1)), (11, some (.i t13.1)), (79, some (.b ((((nth x0.l t11.1).Member) != x1.Member) || (((nth x0.l t13.1).Member) != x2.Member))))] [(0, some (.box [.own 1004, .i x0.next, .b x0.made])), (1001, some (.box [.i x1.ID, .i x1.Twin, .i x1.Member, .i x1.Side, .i x1.Basket, .i x1.Amount, .i x1.Start, .i x1.End, .imm (.row 2 (List.map api_Reset.enc x1.Resets)), .i x1.Stage, .b x1.Short])), (1002, some (.box [.i x2.ID, .i x2.Twin, .i x2.Member, .i x2.Side, .i x2.Basket, .i x2.Amount, .i x2.Start, .i x2.End, .imm (.row 2 (List.map api_Reset.enc x2.Resets)), .i x2.Stage, .b x2.Short])), (1004, some (.rows 26 11 (List.map api_Trade.enc x0.l) false))] 1005) ?_ ?_
       ·refine W.cond rfl (fun q20 => ?_) (fun q20 => ?_)
        ·have h := ifT q20 h
         refine W.seq ?_
         refine W.pk ?_
         refine .a rfl rfl rfl rfl ?_
         refine .nil ?_
         refine W.ret ?_
         cases h
         exact leaves (.inr rfl) rfl (.imm _) (cS (.ptr _ _ _ _ _ rfl (cC (.own _ _ _ _ rfl) (cC (.imm _) (cC (.imm _) .nil)))) (cN (cN .nil))) rfl rfl
        ·have h := ifF q20 h
         refine W.skip ?_
         refine W.seq ?_
         obtain ⟨t21, b22, h⟩ := bnd1 h
         obtain ⟨t23, b24, h⟩ := bnd1 h
         obtain ⟨c25, h⟩ := chk h
         obtain ⟨c26, h⟩ := chk h
         refine W.dk (unm 18 [0, 1, 3, 7, 0, 0, 32, 96, 224, 0, 0, 1024, 0, 7168, 15871, 32255, 65535, 131071]) rfl (by kernel_rfl) ?_
         refine .m rfl rfl rfl rfl ?_
         refine .v rfl rfl (OpL.nilP rfl rfl rfl) ?_
         refine .v rfl rfl (O.fld fld62_0 rfl rfl rfl) ?_
         refine .v rfl rfl (O.ld (y := .own 1004) ty35 rfl rfl rfl) ?_
         refine .m rfl rfl rfl rfl ?_
         refine .m rfl rfl rfl rfl ?_
         refine .v rfl rfl (OpL.nilP rfl rfl rfl) ?_
         refine .v rfl rfl (O.fld fld62_0 rfl rfl rfl) ?_
         refine .v rfl rfl (O.ld (y := .own 1004) ty35 rfl rfl rfl) ?_
         refine .m rfl rfl rfl rfl ?_
         refine .v rfl rfl (O.ldN ty26 rfl rfl rfl) ?_
         refine .call (.agg (api_Trade.av t21)) [] 0 (trade_copied.ok b22) rfl rfl rfl ca42 rfl rfl (cC (.agg _ _ _ _ (cC (.imm _) (cC (.imm _) (cC (.imm _) (cC (.imm _) (cC (.imm _) (cC (.imm _) (cC (.imm _) (cC (.imm _) (cC (.imm _) (cC (.imm _) (cC (.imm _) .nil)))))))))))) .nil) rfl rfl rfl rfl rfl ?_
         refine .v rfl rfl (O.ldN ty26 rfl rfl rfl) ?_
         refine .call (.agg (api_Trade.av t23)) [] 0 (trade_copied.ok b24) rfl rfl rfl ca42 rfl rfl (cC (.agg _ _ _ _ (cC (.imm _) (cC (.imm _) (cC (.imm _) (cC (.imm _) (cC (.imm _) (cC (.imm _) (cC (.imm _) (cC (.imm _) (cC (.imm _) (cC (.imm _) (cC (.imm _) .nil)))))))))))) .nil) rfl rfl rfl rfl rfl ?_
         refine .v rfl rfl (O.idxO sl35 c25 rfl rfl rfl rfl) ?_
         refine .s rfl rfl (O.stE (x' := t21) ty26 c25 rfl rfl rfl rfl rfl rfl rfl rfl rfl rfl rfl) ?_
         refine .v rfl rfl (O.idxO sl35 c26 rfl rfl rfl rfl) ?_
         refine .s rfl rfl (O.stE (x' := t23) ty26 c26 rfl rfl rfl rfl rfl rfl rfl rfl rfl rfl rfl) ?_
         refine .nil ?_
         refine ⟨by kernel_rfl, by kernel_rfl, ?_⟩
         refine W.seq ?_
         refine W.pk ?_
         refine .a rfl rfl rfl rfl ?_
         refine .nil ?_
         refine W.ret ?_
         cases h
         exact leaves (.inr rfl) rfl (.imm _) (cS (.ptr _ _ _ _ _ rfl (cC (.own _ _ _ _ rfl) (cC (.imm _) (cC (.imm _) .nil)))) (cN (cN .nil))) rfl rfl
       ·clear h
        rcases tf (((nth x0.l t11.1).Member) != x1.Member) with g19 | g19
        ·refine W.dk (unm 24 [0, 1, 3, 7, 0, 31, 63, 127, 0, 256, 1023, 2047, 4095, 8191, 16383, 32767, 4095, 131071, 262143, 524287, 4095, 1052671, 4194303, 8388607]) rfl (by kernel_rfl) ?_
         refine .m rfl rfl rfl rfl ?_
         refine .v rfl rfl (OpL.nilP rfl rfl rfl) ?_
         refine .v rfl rfl (O.fld fld62_0 rfl rfl rfl) ?_
         refine .v rfl rfl (O.ld (y := .own 1004) ty35 rfl rfl rfl) ?_
         refine .m rfl rfl rfl rfl ?_
         refine .v rfl rfl (O.idxO sl35 c17 rfl rfl rfl rfl) ?_
         refine .v rfl rfl (O.fld fld26_2 rfl rfl rfl) ?_
         refine .v rfl rfl (O.ldE (c := (.val (.int .i64 ((nth x0.l t11.1).Member)))) ty3 c17 rfl rfl rfl rfl rfl) ?_
         refine .v rfl rfl (O.fld fld26_2 rfl rfl rfl) ?_
         refine .v rfl rfl (O.ld (y := .i x1.Member) ty3 rfl rfl rfl) ?_
         refine .v rfl rfl (OpL.binI rfl rfl rfl rfl) ?_
         refine .m rfl rfl rfl rfl ?_
         refine .x rfl (unmet rfl rfl rfl g19) ?_
         refine .x rfl (unmet rfl rfl rfl g19) ?_
         refine .x rfl (unmet rfl rfl rfl g19) ?_
         refine .x rfl (unmet rfl rfl rfl g19) ?_
         refine .x rfl (unmet rfl rfl rfl g19) ?_
         refine .x rfl (unmet rfl rfl rfl g19) ?_
         refine .x rfl (unmet rfl rfl rfl g19) ?_
         refine .x rfl (unmet rfl rfl rfl g19) ?_
         refine .x rfl (unmet rfl rfl rfl g19) ?_
         refine .x rfl (unmet rfl rfl rfl g19) ?_
         refine .x rfl (unmet rfl rfl rfl g19) ?_
         refine .v rfl rfl (O.pickT g19 rfl rfl rfl) ?_
         refine .nil ?_
         refine ⟨by kernel_rfl, by kernel_rfl, ?_⟩
         exact toN (Gives.mkR [] (.r rfl rfl (.r rfl rfl (.r rfl rfl (.r rfl rfl (.r rfl rfl (.c rfl (sbb (by simp only [g19, Bool.true_or, Bool.or_true, Bool.false_or, Bool.or_false, Bool.true_and, Bool.and_true, Bool.false_and, Bool.and_false, Bool.not_true, Bool.not_false, cond_true, cond_false])) rfl .n)))))) (.r rfl rfl rfl (.r rfl rfl rfl (.r rfl rfl rfl (.r rfl rfl rfl .n)))) rfl rfl rfl)
        ·refine W.dk (unm 24 [0, 1, 3, 7, 0, 31, 63, 127, 0, 256, 1023, 2047, 4095, 8191, 16383, 32767, 4095, 131071, 262143, 524287, 4095, 1052671, 4194303, 8388607]) rfl (by kernel_rfl) ?_
         refine .m rfl rfl rfl rfl ?_
         refine .v rfl rfl (OpL.nilP rfl rfl rfl) ?_
         refine .v rfl rfl (O.fld fld62_0 rfl rfl rfl) ?_
         refine .v rfl rfl (O.ld (y := .own 1004) ty35 rfl rfl rfl) ?_
         refine .m rfl rfl rfl rfl ?_
         refine .v rfl rfl (O.idxO sl35 c17 rfl rfl rfl rfl) ?_
         refine .v rfl rfl (O.fld fld26_2 rfl rfl rfl) ?_
         refine .v rfl rfl (O.ldE (c := (.val (.int .i64 ((nth x0.l t11.1).Member)))) ty3 c17 rfl rfl rfl rfl rfl) ?_
         refine .v rfl rfl (O.fld fld26_2 rfl rfl rfl) ?_
         refine .v rfl rfl (O.ld (y := .i x1.Member) ty3 rfl rfl rfl) ?_
         refine .v rfl rfl (OpL.binI rfl rfl rfl rfl) ?_
         refine .m rfl rfl rfl rfl ?_
         refine .m rfl (met rfl rfl rfl g19) rfl rfl ?_
         refine .v rfl (met rfl rfl rfl g19) (OpL.nilP rfl rfl rfl) ?_
         refine .v rfl (met rfl rfl rfl g19) (O.fld fld62_0 rfl rfl rfl) ?_
         refine .v rfl (met rfl rfl rfl g19) (O.ld (y := .own 1004) ty35 rfl rfl rfl) ?_
         refine .m rfl (met rfl rfl rfl g19) rfl rfl ?_
         refine .v rfl (met rfl rfl rfl g19) (O.idxO sl35 (c18 (by simp only [g19, Bool.true_or, Bool.or_true, Bool.false_or, Bool.or_false, Bool.true_and, Bool.and_true, Bool.false_and, Bool.and_false, Bool.not_true, Bool.not_false, cond_true, cond_false])) rfl rfl rfl rfl) ?_
         refine .v rfl (met rfl rfl rfl g19) (O.fld fld26_2 rfl rfl rfl) ?_
         refine .v rfl (met rfl rfl rfl g19) (O.ldE (c := (.val (.int .i64 ((nth x0.l t13.1).Member)))) ty3 (c18 (by simp only [g19, Bool.true_or, Bool.or_true, Bool.false_or, Bool.or_false, Bool.true_and, Bool.and_true, Bool.false_and, Bool.and_false, Bool.not_true, Bool.not_false, cond_true, cond_false])) rfl rfl rfl rfl rfl) ?_
         refine .v rfl (met rfl rfl rfl g19) (O.fld fld26_2 rfl rfl rfl) ?_
         refine .v rfl (met rfl rfl rfl g19) (O.ld (y := .i x2.Member) ty3 rfl rfl rfl) ?_
         refine .v rfl (met rfl rfl rfl g19) (OpL.binI rfl rfl rfl rfl) ?_
         refine .v rfl rfl (O.pickF g19 rfl rfl rfl) ?_
         refine .nil ?_
         refine ⟨by kernel_rfl, by kernel_rfl, ?_⟩
         exact toN (Gives.mkR [] (.r rfl rfl (.r rfl rfl (.r rfl rfl (.r rfl rfl (.r rfl rfl (.c rfl (sbb (by simp only [g19, Bool.true_or, Bool.or_true, Bool.false_or, Bool.or_false, Bool.true_and, Bool.and_true, Bool.false_and, Bool.and_false, Bool.not_true, Bool.not_false, cond_true, cond_false])) rfl .n)))))) (.r rfl rfl rfl (.r rfl rfl rfl (.r rfl rfl rfl (.r rfl rfl rfl .n)))) rfl rfl rfl)
     ·clear h
      rcases tf t11.2 with g15 | g15
      ·refine W.pk ?_
       refine .m rfl rfl rfl rfl ?_
       refine .v rfl rfl (OpL.unV rfl rfl rfl) ?_
       refine .m rfl rfl rfl rfl ?_
       refine .m rfl (met rfl rfl rfl (notT g15)) rfl rfl ?_
       refine .v rfl (met rfl rfl rfl (notT g15)) (OpL.unV rfl rfl rfl) ?_
       refine .v rfl rfl (O.pickF (notT g15) rfl rfl rfl) ?_
       refine .nil ?_
       exact toN (Gives.mkR [] (.r rfl rfl (.r rfl rfl (.r rfl rfl (.r rfl rfl (.r rfl rfl (.c rfl (sbb (by simp only [g15, Bool.true_or, Bool.or_true, Bool.false_or, Bool.or_false, Bool.true_and, Bool.and_true, Bool.false_and, Bool.and_false, Bool.not_true, Bool.not_false, cond_true, cond_false])) rfl .n)))))) (.r rfl rfl rfl (.r rfl rfl rfl (.r rfl rfl rfl (.r rfl rfl rfl .n)))) rfl rfl rfl)
      ·refine W.pk ?_
       refine .m rfl rfl rfl rfl ?_
       refine .v rfl rfl (OpL.unV rfl rfl rfl) ?_
       refine .m rfl rfl rfl rfl ?_
       refine .x rfl (unmet rfl rfl rfl (notF g15)) ?_
       refine .x rfl (unmet rfl rfl rfl (notF g15)) ?_
       refine .v rfl rfl (O.pickT (notF g15) rfl rfl rfl) ?_
       refine .nil ?_
       exact toN (Gives.mkR [] (.r rfl rfl (.r rfl rfl (.r rfl rfl (.r rfl rfl (.r rfl rfl (.c rfl (sbb (by simp only [g15, Bool.true_or, Bool.or_true, Bool.false_or, Bool.or_false, Bool.true_and, Bool.and_true, Bool.false_and, Bool.and_false, Bool.not_true, Bool.not_false, cond_true, cond_false])) rfl .n)))))) (.r rfl rfl rfl (.r rfl rfl rfl (.r rfl rfl rfl (.r rfl rfl rfl .n)))) rfl rfl rfl)

noncomputable def lombardref23_Book_Drop.b0 (x0 : lombardref23_Book) (x1 : Int) (t1 : Int) (v23 : Int) (v24 : List api_Trade) : Option ((Int × (List api_Trade)) ⊕ (List api_Trade)) :=
  if (decide (v23 < (List.length x0.L : Int))) = true then
    if (0 : Int) ≤ v23 ∧ v23 < (List.length x0.L : Int) then
    if ((((nth x0.L v23).ID) != x1) = true → (0 : Int) ≤ v23 ∧ v23 < (List.length x0.L : Int)) then
    if ((((nth x0.L v23).ID) != x1) = true → (0 : Int) ≤ t1 ∧ t1 < (List.length x0.L : Int)) then
    if ((((nth x0.L v23).ID) != x1) && (((nth x0.L v23).ID) != ((nth x0.L t1).Twin))) = true then
      if (0 : Int) ≤ v23 ∧ v23 < (List.length x0.L : Int) then
      if (List.length v24 + List.length [(nth x0.L v23)]) * 104 ≤ 140737488355328 then
      some (.inl ((IntKind.wrap .i64 (v23 + 1)), (v24 ++ [(nth x0.L v23)])))
      else none
      else none
    else
      some (.inl ((IntKind.wrap .i64 (v23 + 1)), v24))
    else none
    else none
    else none
  else
    some (.inr v24)
noncomputable def lombardref23_Book_Drop.r0 (x0 : lombardref23_Book) (x1 : Int) (t1 : Int) (s : Int × (List api_Trade)) : Option ((Int × (List api_Trade)) ⊕ (List api_Trade)) := lombardref23_Book_Drop.b0 x0 x1 t1 s.1 s.2
noncomputable def lombardref23_Book_Drop.f (x0 : lombardref23_Book) (x1 : Int) : Option (lombardref23_Book × Int) :=
  (lombardref23_Book_Find.f x0 x1).bind fun t1 =>
  if (decide (t1 < 0)) = true then
    some (x0, 6)
  else
    if (0 : Int) ≤ t1 ∧ t1 < (List.length x0.L : Int) then
    if (decide (((nth x0.L t1).Stage) < 4)) = true then
      some (x0, 8)
    else
      (loop (lombardref23_Book_Drop.r0 x0 x1 t1) (0, [])).bind fun o42 =>
      some ((⟨o42, x0.Next⟩ : lombardref23_Book), 0)
    else none
set_option maxRecDepth 100000 in
set_option maxHeartbeats 4000000 in
theorem lombardref23_Book_Drop.ok {x0 : lombardref23_Book} {x1 : Int} {r : lombardref23_Book × Int} (h : lombardref23_Book_Drop.f x0 x1 = some r) : Pm.Spec prog 45 [.agg [.imm (.row 11 (List.map api_Trade.enc x0.L)), .imm (.val (.int .i64 x0.Next))], .imm (.val (.int .i64 x1))] (.tup [.agg [.imm (.row 11 (List.map api_Trade.enc r.1.L)), .imm (.val (.int .i64 r.1.Next))], .imm (.val (.int .i64 r.2))]) [none, none] := by
 unfold lombardref23_Book_Drop.f at h
 refine Pm.Spec.of_body Try.func45 rfl (by kernel_rfl) (Nat.le_of_ble_eq_true rfl) (Nat.le_of_ble_eq_true rfl) ?_
 refine W.ghost (σ' := (mkSt [(0, some (.agg [.imm (.row 11 (List.map api_Trade.enc x0.L)), .i x0.Next])), (1, some (.i x1))] [] 1000)) (Gives.entry (.c rfl (.c rfl .n)) .n) ?_
 refine W.seq ?_
 refine W.pk ?_
 refine .t rfl rfl (O.box rfl rfl rfl rfl rfl) ?_
 refine .t rfl rfl (O.alloc z47 rfl) ?_
 refine .a rfl rfl rfl rfl ?_
 refine .nil ?_
 refine W.seq ?_
 obtain ⟨t1, b2, h⟩ := bnd1 h
 refine W.pk ?_
 refine .v rfl rfl (O.ldN ty47 rfl rfl rfl) ?_
 refine .m rfl rfl rfl rfl ?_
 refine .call (.i t1) [] 0 (lombardref23_Book_Find.ok b2) rfl rfl rfl ca24 rfl rfl (cC (.agg _ _ _ _ (cC (.imm _) (cC (.imm _) .nil))) (cC (.imm _) .nil)) rfl rfl rfl rfl rfl ?_
 refine .a rfl rfl rfl rfl ?_
 refine .nil ?_
 refine W.seq ?_
 refine W.seq ?_
 refine W.pk ?_
 refine .m rfl rfl rfl rfl ?_
 refine .v rfl rfl (OpL.binI rfl rfl rfl rfl) ?_
 refine .nil ?_
 refine W.cond rfl (fun q3 => ?_) (fun q3 => ?_)
 ·have h := ifT q3 h
  refine W.seq ?_
  refine W.pk ?_
  refine .v rfl rfl (O.ldN ty47 rfl rfl rfl) ?_
  refine .s rfl rfl (O.st ty47 rfl rfl rfl rfl rfl rfl rfl rfl rfl rfl (all' := [.imm (.row 11 (List.map api_Trade.enc x0.L)), .i x0.Next]) rfl) ?_
  refine .a rfl rfl rfl rfl ?_
  refine .nil ?_
  refine W.ret ?_
  cases h
  exact leaves (.inr rfl) rfl (.tup _ _ _ _ (cC (.agg _ _ _ _ (cC (.imm _) (cC (.imm _) .nil))) (cC (.imm _) .nil))) (cN (cN .nil)) rfl rfl
 ·have h := ifF q3 h
  refine W.skip ?_
  refine W.seq ?_
  refine W.seq ?_
  obtain ⟨c4, h⟩ := chk h
  refine W.pk ?_
  refine .v rfl rfl (O.fld fld47_0 rfl rfl rfl) ?_
  refine .v rfl rfl (O.ld (y := .imm (.row 11 (List.map api_Trade.enc x0.L))) ty35 rfl rfl rfl) ?_
  refine .m rfl rfl rfl rfl ?_
  refine .v rfl rfl (O.idx sl35 c4 rfl rfl rfl) ?_
  refine .v rfl rfl (O.fld fld26_9 rfl rfl rfl) ?_
  refine .v rfl rfl (O.ld (y := .i ((nth x0.L t1).Stage)) ty3 rfl rfl rfl) ?_
  refine .v rfl rfl (OpL.binI rfl rfl rfl rfl) ?_
  refine .nil ?_
  refine W.cond rfl (fun q5 => ?_) (fun q5 => ?_)
  ·have h := ifT q5 h
   refine W.seq ?_
   refine W.pk ?_
   refine .v rfl rfl (O.ldN ty47 rfl rfl rfl) ?_
   refine .s rfl rfl (O.st ty47 rfl rfl rfl rfl rfl rfl rfl rfl rfl rfl (all' := [.imm (.row 11 (List.map api_Trade.enc x0.L)), .i x0.Next]) rfl) ?_
   refine .a rfl rfl rfl rfl ?_
   refine .nil ?_
   refine W.ret ?_
   cases h
   exact leaves (.inr rfl) rfl (.tup _ _ _ _ (cC (.agg _ _ _ _ (cC (.imm _) (cC (.imm _) .nil))) (cC (.imm _) .nil))) (cN (cN .nil)) rfl rfl
  ·have h := ifF q5 h
   refine W.skip ?_
   refine W.seq ?_
   refine W.pk ?_
   refine .a rfl rfl rfl rfl ?_
   refine .nil ?_
   refine W.seq ?_
   refine W.seq ?_
   refine W.pk ?_
   refine .a rfl rfl rfl rfl ?_
   refine .nil ?_
   refine W.ghost (Gives.mintS 7 26 11 rfl) ?_
   obtain ⟨o42, b43, h⟩ := bnd1 h
   refine W.fork (mkSt [(2, some (.ptr 1000 0)), (4, some (.ptr 1001 0)), (7, some (.own 1002))] [(1000, some (.box [.imm (.row 11 (List.map api_Trade.enc x0.L)), .i x0.Next])), (1001, some (.box [.imm (.val (.slice none 0 0)), .i 0])), (1002, some (.rows 26 11 (List.map api_Trade.enc o42) false))] 1003) ?_ ?_
   ·refine W.seq ?_
    refine W.pk ?_
    refine .m rfl rfl rfl rfl ?_
    refine .v rfl rfl (O.fld fld47_1 rfl rfl rfl) ?_
    refine .v rfl rfl (O.ld (y := .i x0.Next) ty3 rfl rfl rfl) ?_
    refine .v rfl rfl (O.build (out := [.own 1002, .i x0.Next]) bl47 rfl rfl rfl rfl (by kernel_rfl)) ?_
    refine .s rfl rfl (O.st ty47 rfl rfl rfl rfl rfl rfl rfl rfl rfl rfl (all' := [.own 1002, .i x0.Next]) rfl) ?_
    refine .a rfl rfl rfl rfl ?_
    refine .nil ?_
    refine W.ret ?_
    cases h
    exact leaves (.inr rfl) rfl (.tup _ _ _ _ (cC (.agg _ _ _ _ (cC (.lend _ _ _ _ _ rfl) (cC (.imm _) .nil))) (cC (.imm _) .nil))) (cN (cN .nil)) rfl rfl
   ·clear h
    refine W.block ?_
    refine W.loopF (fun (s_ : Int × (List api_Trade)) => mkSt [(1, some (.i x1)), (2, some (.ptr 1000 0)), (4, some (.ptr 1001 0)), (6, some (.i t1)), (7, some (.own 1002)), (8, some (.i s_.1))] [(1000, some (.box [.imm (.row 11 (List.map api_Trade.enc x0.L)), .i x0.Next])), (1001, some (.box [.imm (.val (.slice none 0 0)), .i 0])), (1002, some (.rows 26 11 (List.map api_Trade.enc s_.2) false))] 1003) b43 (Gives.mkR [] (.r rfl rfl (.r rfl rfl (.r rfl rfl (.r rfl rfl (.r rfl rfl (.r rfl rfl .n)))))) (.r rfl rfl rfl (.r rfl rfl rfl (.r rfl rfl rfl .n))) rfl rfl rfl) ?_
    rintro ⟨v23, v24⟩ s_ hr
    have h : lombardref23_Book_Drop.b0 x0 x1 t1 v23 v24 = some s_ := hr
    unfold lombardref23_Book_Drop.b0 at h
    refine W.seq ?_
    refine W.seq ?_
    refine W.pk ?_
    refine .m rfl rfl rfl rfl ?_
    refine .v rfl rfl (O.fld fld47_0 rfl rfl rfl) ?_
    refine .v rfl rfl (O.ld (y := .imm (.row 11 (List.map api_Trade.enc x0.L))) ty35 rfl rfl rfl) ?_
    refine .v rfl rfl (O.lenR sl35 rfl rfl) ?_
    refine .v rfl rfl (OpL.binI rfl rfl rfl rfl) ?_
    refine .nil ?_
    refine W.cond rfl (fun q45 => ?_) (fun q45 => ?_)
    ·have h := ifT q45 h
     refine W.skip ?_
     refine W.seq ?_
     refine W.block ?_
     refine W.seq ?_
     obtain ⟨c46, h⟩ := chk h
     obtain ⟨c47, h⟩ := chk h
     obtain ⟨c48, h⟩ := chk h
     refine W.fork (mkSt [(1, some (.i x1)), (2, some (.ptr 1000 0)), (4, some (.ptr 1001 0)), (6, some (.i t1)), (7, some (.own 1002)), (8, some (.i v23)), (52, some (.b ((((nth x0.L v23).ID) != x1) && (((nth x0.L v23).ID) != ((nth x0.L t1).Twin)))))] [(1000, some (.box [.imm (.row 11 (List.map api_Trade.enc x0.L)), .i x0.Next])), (1001, some (.box [.imm (.val (.slice none 0 0)), .i 0])), (1002, some (.rows 26 11 (List.map api_Trade.enc v24) false))] 1003) ?_ ?_
     ·refine W.cond rfl (fun q50 => ?_) (fun q50 => ?_)
      ·have h := ifT q50 h
       obtain ⟨c51, h⟩ := chk h
       obtain ⟨c52, h⟩ := chk h
       refine W.pk ?_
       refine .m rfl rfl rfl rfl ?_
       refine .v rfl rfl (O.fld fld47_0 rfl rfl rfl) ?_
       refine .v rfl rfl (O.ld (y := .imm (.row 11 (List.map api_Trade.enc x0.L))) ty35 rfl rfl rfl) ?_
       refine .m rfl rfl rfl rfl ?_
       refine .v rfl rfl (O.idx sl35 c51 rfl rfl rfl) ?_
       refine .v rfl rfl (O.ldN ty26 rfl rfl rfl) ?_
       refine .t rfl rfl (O.lit (enc := api_Trade.enc) (l := [(nth x0.L v23)]) sl35 rfl rfl rfl rfl rfl rfl rfl rfl rfl) ?_
       refine .t rfl rfl (O.appO sl35 api_Trade.ok c52 rfl rfl rfl rfl rfl) ?_
       refine .a rfl rfl rfl rfl ?_
       refine .nil ?_
       refine W.pk ?_
       refine .m rfl rfl rfl rfl ?_
       refine .v rfl rfl (OpL.binI rfl rfl rfl rfl) ?_
       refine .a rfl rfl rfl rfl ?_
       refine .nil ?_
       cases h
       exact rdN (Gives.mkR [(1002, 1004)] (.r rfl rfl (.r rfl rfl (.r rfl rfl (.r rfl rfl (.r rfl rfl (.r rfl rfl .n)))))) (.r rfl rfl rfl (.r rfl rfl rfl (.r rfl rfl rfl .n))) rfl rfl rfl)
      ·have h := ifF q50 h
       refine W.skip ?_
       refine W.pk ?_
       refine .m rfl rfl rfl rfl ?_
       refine .v rfl rfl (OpL.binI rfl rfl rfl rfl) ?_
       refine .a rfl rfl rfl rfl ?_
       refine .nil ?_
       cases h
       exact rdN (Gives.mkR [] (.r rfl rfl (.r rfl rfl (.r rfl rfl (.r rfl rfl (.r rfl rfl (.r rfl rfl .n)))))) (.r rfl rfl rfl (.r rfl rfl rfl (.r rfl rfl rfl .n))) rfl rfl rfl)
     ·clear h
      rcases tf (((nth x0.L v23).ID) != x1) with g49 | g49
      ·refine W.dk (unm 23 [0, 1, 0, 7, 15, 31, 0, 127, 255, 511, 1023, 511, 4095, 8191, 16383, 511, 33279, 511, 229887, 492031, 1016319, 2097151, 4194303]) rfl (by kernel_rfl) ?_
       refine .v rfl rfl (O.fld fld47_0 rfl rfl rfl) ?_
       refine .v rfl rfl (O.ld (y := .imm (.row 11 (List.map api_Trade.enc x0.L))) ty35 rfl rfl rfl) ?_
       refine .m rfl rfl rfl rfl ?_
       refine .v rfl rfl (O.idx sl35 c46 rfl rfl rfl) ?_
       refine .v rfl rfl (O.fld fld26_0 rfl rfl rfl) ?_
       refine .v rfl rfl (O.ld (y := .i ((nth x0.L v23).ID)) ty3 rfl rfl rfl) ?_
       refine .m rfl rfl rfl rfl ?_
       refine .v rfl rfl (OpL.binI rfl rfl rfl rfl) ?_
       refine .m rfl rfl rfl rfl ?_
       refine .v rfl (met rfl rfl rfl g49) (O.fld fld47_0 rfl rfl rfl) ?_
       refine .v rfl (met rfl rfl rfl g49) (O.ld (y := .imm (.row 11 (List.map api_Trade.enc x0.L))) ty35 rfl rfl rfl) ?_
       refine .m rfl (met rfl rfl rfl g49) rfl rfl ?_
       refine .v rfl (met rfl rfl rfl g49) (O.idx sl35 (c47 (by simp only [g49, Bool.true_or, Bool.or_true, Bool.false_or, Bool.or_false, Bool.true_and, Bool.and_true, Bool.false_and, Bool.and_false, Bool.not_true, Bool.not_false, cond_true, cond_false])) rfl rfl rfl) ?_
       refine .v rfl (met rfl rfl rfl g49) (O.fld fld26_0 rfl rfl rfl) ?_
       refine .v rfl (met rfl rfl rfl g49) (O.ld (y := .i ((nth x0.L v23).ID)) ty3 rfl rfl rfl) ?_
       refine .v rfl (met rfl rfl rfl g49) (O.fld fld47_0 rfl rfl rfl) ?_
       refine .v rfl (met rfl rfl rfl g49) (O.ld (y := .imm (.row 11 (List.map api_Trade.enc x0.L))) ty35 rfl rfl rfl) ?_
       refine .m rfl (met rfl rfl rfl g49) rfl rfl ?_
       refine .v rfl (met rfl rfl rfl g49) (O.idx sl35 (c48 (by simp only [g49, Bool.true_or, Bool.or_true, Bool.false_or, Bool.or_false, Bool.true_and, Bool.and_true, Bool.false_and, Bool.and_false, Bool.not_true, Bool.not_false, cond_true, cond_false])) rfl rfl rfl) ?_
       refine .v rfl (met rfl rfl rfl g49) (O.fld fld26_1 rfl rfl rfl) ?_
       refine .v rfl (met rfl rfl rfl g49) (O.ld (y := .i ((nth x0.L t1).Twin)) ty3 rfl rfl rfl) ?_
       refine .v rfl (met rfl rfl rfl g49) (OpL.binI rfl rfl rfl rfl) ?_
       refine .v rfl rfl (O.pickT g49 rfl rfl rfl) ?_
       refine .nil ?_
       refine ⟨by kernel_rfl, by kernel_rfl, ?_⟩
       exact toN (Gives.mkR [] (.r rfl rfl (.r rfl rfl (.r rfl rfl (.r rfl rfl (.r rfl rfl (.r rfl rfl (.c rfl (sbb (by simp only [g49, Bool.true_or, Bool.or_true, Bool.false_or, Bool.or_false, Bool.true_and, Bool.and_true, Bool.false_and, Bool.and_false, Bool.not_true, Bool.not_false, cond_true, cond_false])) rfl .n))))))) (.r rfl rfl rfl (.r rfl rfl rfl (.r rfl rfl rfl .n))) rfl rfl rfl)
      ·refine W.dk (unm 23 [0, 1, 0, 7, 15, 31, 0, 127, 255, 511, 1023, 511, 4095, 8191, 16383, 511, 33279, 511, 229887, 492031, 1016319, 2097151, 4194303]) rfl (by kernel_rfl) ?_
       refine .v rfl rfl (O.fld fld47_0 rfl rfl rfl) ?_
       refine .v rfl rfl (O.ld (y := .imm (.row 11 (List.map api_Trade.enc x0.L))) ty35 rfl rfl rfl) ?_
       refine .m rfl rfl rfl rfl ?_
       refine .v rfl rfl (O.idx sl35 c46 rfl rfl rfl) ?_
       refine .v rfl rfl (O.fld fld26_0 rfl rfl rfl) ?_
       refine .v rfl rfl (O.ld (y := .i ((nth x0.L v23).ID)) ty3 rfl rfl rfl) ?_
       refine .m rfl rfl rfl rfl ?_
       refine .v rfl rfl (OpL.binI rfl rfl rfl rfl) ?_
       refine .m rfl rfl rfl rfl ?_
       refine .x rfl (unmet rfl rfl rfl g49) ?_
       refine .x rfl (unmet rfl rfl rfl g49) ?_
       refine .x rfl (unmet rfl rfl rfl g49) ?_
       refine .x rfl (unmet rfl rfl rfl g49) ?_
       refine .x rfl (unmet rfl rfl rfl g49) ?_
       refine .x rfl (unmet rfl rfl rfl g49) ?_
       refine .x rfl (unmet rfl rfl rfl g49) ?_
       refine .x rfl (unmet rfl rfl rfl g49) ?_
       refine .x rfl (unmet rfl rfl rfl g49) ?_
       refine .x rfl (unmet rfl rfl rfl g49) ?_
       refine .x rfl (unmet rfl rfl rfl g49) ?_
       refine .x rfl (unmet rfl rfl rfl g49) ?_
       refine .x rfl (unmet rfl rfl rfl g49) ?_
       refine .v rfl rfl (O.pickF g49 rfl rfl rfl) ?_
       refine .nil ?_
       refine ⟨by kernel_rfl, by kernel_rfl, ?_⟩
       exact toN (Gives.mkR [] (.r rfl rfl (.r rfl rfl (.r rfl rfl (.r rfl rfl (.r rfl rfl (.r rfl rfl (.c rfl (sbb (by simp only [g49, Bool.true_or, Bool.or_true, Bool.false_or, Bool.or_false, Bool.true_and, Bool.and_true, Bool.false_and, Bool.and_false, Bool.not_true, Bool.not_false, cond_true, cond_false])) rfl .n))))))) (.r rfl rfl rfl (.r rfl rfl rfl (.r rfl rfl rfl .n))) rfl rfl rfl)
    ·have h := ifF q45 h
     refine W.exit ?_
     cases h
     refine rdX fun e_ => ?_
     subst e_
     repeat with_reducible refine thru ?_
     refine hit ?_
     exact toN (Gives.mkR [] (.r rfl rfl (.r rfl rfl (.r rfl rfl .n))) (.r rfl rfl rfl (.r rfl rfl rfl (.r rfl rfl rfl .n))) rfl rfl rfl)

noncomputable def trade_Book_Get.f (x0 : trade_Book) (x1 : Int) : Option (api_Trade × Bool) :=
  (trade_Book_place.f x0 x1).bind fun t1 =>
  if (!t1.2) = true then
    some ((⟨0, 0, 0, 0, 0, 0, 0, 0, [], 0, false⟩ : api_Trade), false)
  else
    if (0 : Int) ≤ t1.1 ∧ t1.1 < (List.length x0.l : Int) then
    (trade_copied.f (nth x0.l t1.1)).bind fun t5 =>
    some (t5, true)
    else none
set_option maxRecDepth 100000 in
set_option maxHeartbeats 4000000 in
theorem trade_Book_Get.ok {x0 : trade_Book} {x1 : Int} {r : api_Trade × Bool} (h : trade_Book_Get.f x0 x1 = some r) : Pm.Spec prog 23 [.xbox [.xown 26 11 (List.map api_Trade.enc x0.l), .imm (.val (.int .i64 x0.next)), .imm (.val (.bool x0.made))], .imm (.val (.int .i64 x1))] (.tup [.agg [.imm (.val (.int .i64 r.1.ID)), .imm (.val (.int .i64 r.1.Twin)), .imm (.val (.int .i64 r.1.Member)), .imm (.val (.int .i64 r.1.Side)), .imm (.val (.int .i64 r.1.Basket)), .imm (.val (.int .i64 r.1.Amount)), .imm (.val (.int .i64 r.1.Start)), .imm (.val (.int .i64 r.1.End)), .imm (.row 2 (List.map api_Reset.enc r.1.Resets)), .imm (.val (.int .i64 r.1.Stage)), .imm (.val (.bool r.1.Short))], .imm (.val (.bool r.2))]) [some (.xbox [.xown 26 11 (List.map api_Trade.enc x0.l), .imm (.val (.int .i64 x0.next)), .imm (.val (.bool x0.made))]), none] := by
 unfold trade_Book_Get.f at h
 refine Pm.Spec.of_body Try.func23 rfl (by kernel_rfl) (Nat.le_of_ble_eq_true rfl) (Nat.le_of_ble_eq_true rfl) ?_
 refine W.ghost (σ' := (mkSt [(0, some (.ptr 0 0)), (1, some (.i x1))] [(0, some (.box [.own 1, .i x0.next, .b x0.made])), (1, some (.rows 26 11 (List.map api_Trade.enc x0.l) false))] 1000)) (Gives.entry (.c rfl (.c rfl .n)) (.c rfl (.c rfl .n))) ?_
 refine W.ghost (σ' := (mkSt [(0, some (.ptr 0 0)), (1, some (.i x1))] [(0, some (.box [.own 1000, .i x0.next, .b x0.made])), (1000, some (.rows 26 11 (List.map api_Trade.enc x0.l) false))] 1001)) (Gives.mkR [(1000, 1)] (.r rfl rfl (.r rfl rfl .n)) (.r rfl rfl rfl (.r rfl rfl rfl .n)) rfl rfl rfl) ?_
 refine W.seq ?_
 refine W.pk ?_
 refine .t rfl rfl (O.alloc z26 rfl) ?_
 refine .a rfl rfl rfl rfl ?_
 refine .nil ?_
 refine W.seq ?_
 refine W.seq ?_
 refine W.pk ?_
 refine .m rfl rfl rfl rfl ?_
 refine .v rfl rfl (OpL.eqP rfl u36 rfl rfl rfl) ?_
 refine .nil ?_
 refine W.cond rfl (fun q => by cases q) (fun _ => ?_)
 refine W.skip ?_
 refine W.seq ?_
 obtain ⟨t1, b2, h⟩ := bnd1 h
 refine W.pk ?_
 refine .m rfl rfl rfl rfl ?_
 refine .m rfl rfl rfl rfl ?_
 refine .call (.tup [.i t1.1, .b t1.2]) [(0, some (.box [.own 1002, .i x0.next, .b x0.made])), (1002, some (.rows 26 11 (List.map api_Trade.enc x0.l) false)), (0, none), (1000, none)] 1 (trade_Book_place.ok b2) rfl rfl rfl ca46 rfl rfl (cC (.ptr _ _ _ _ _ rfl (cC (.own _ _ _ _ rfl) (cC (.imm _) (cC (.imm _) .nil)))) (cC (.imm _) .nil)) rfl rfl rfl rfl rfl ?_
 refine .m rfl rfl rfl rfl ?_
 refine .v rfl rfl (OpL.extract rfl rfl rfl) ?_
 refine .v rfl rfl (OpL.extract rfl rfl rfl) ?_
 refine .a rfl rfl rfl rfl ?_
 refine .a rfl rfl rfl rfl ?_
 refine .nil ?_
 refine W.seq ?_
 refine W.seq ?_
 refine W.pk ?_
 refine .m rfl rfl rfl rfl ?_
 refine .v rfl rfl (OpL.unV rfl rfl rfl) ?_
 refine .nil ?_
 refine W.cond rfl (fun q3 => ?_) (fun q3 => ?_)
 ·have h := ifT q3 h
  refine W.seq ?_
  refine W.pk ?_
  refine .v rfl rfl (O.build (out := [.i 0, .i 0, .i 0, .i 0, .i 0, .i 0, .i 0, .i 0, .imm (.val (.slice none 0 0)), .i 0, .b false]) bl26 rfl rfl rfl rfl (by kernel_rfl)) ?_
  refine .s rfl rfl (O.st ty26 rfl rfl rfl rfl rfl rfl rfl rfl rfl rfl (all' := [.i 0, .i 0, .i 0, .i 0, .i 0, .i 0, .i 0, .i 0, .imm (.val (.slice none 0 0)), .i 0, .b false]) rfl) ?_
  refine .a rfl rfl rfl rfl ?_
  refine .nil ?_
  refine W.ret ?_
  cases h
  exact leaves (.inr rfl) rfl (.tup _ _ _ _ (cC (.agg _ _ _ _ (cC (.imm _) (cC (.imm _) (cC (.imm _) (cC (.imm _) (cC (.imm _) (cC (.imm _) (cC (.imm _) (cC (.imm _) (cC (.nilrow _) (cC (.imm _) (cC (.imm _) .nil)))))))))))) (cC (.imm _) .nil))) (cS (.ptr _ _ _ _ _ rfl (cC (.own _ _ _ _ rfl) (cC (.imm _) (cC (.imm _) .nil)))) (cN .nil)) rfl rfl
 ·have h := ifF q3 h
  refine W.skip ?_
  refine W.seq ?_
  obtain ⟨c4, h⟩ := chk h
  obtain ⟨t5, b6, h⟩ := bnd1 h
  refine W.pk ?_
  refine .m rfl rfl rfl rfl ?_
  refine .v rfl rfl (OpL.nilP rfl rfl rfl) ?_
  refine .v rfl rfl (O.fld fld62_0 rfl rfl rfl) ?_
  refine .v rfl rfl (O.ld (y := .own 1002) ty35 rfl rfl rfl) ?_
  refine .m rfl rfl rfl rfl ?_
  refine .v rfl rfl (O.idxO sl35 c4 rfl rfl rfl rfl) ?_
  refine .v rfl rfl (O.ldEN ty26 c4 rfl rfl rfl rfl rfl) ?_
  refine .call (.agg (api_Trade.av t5)) [] 0 (trade_copied.ok b6) rfl rfl rfl ca42 rfl rfl (cC (.agg _ _ _ _ (cC (.imm _) (cC (.imm _) (cC (.imm _) (cC (.imm _) (cC (.imm _) (cC (.imm _) (cC (.imm _) (cC (.imm _) (cC (.imm _) (cC (.imm _) (cC (.imm _) .nil)))))))))))) .nil) rfl rfl rfl rfl rfl ?_
  refine .s rfl rfl (O.st ty26 rfl rfl rfl rfl rfl rfl rfl rfl rfl rfl (all' := [.i t5.ID, .i t5.Twin, .i t5.Member, .i t5.Side, .i t5.Basket, .i t5.Amount, .i t5.Start, .i t5.End, .imm (.row 2 (List.map api_Reset.enc t5.Resets)), .i t5.Stage, .b t5.Short]) rfl) ?_
  refine .a rfl rfl rfl rfl ?_
  refine .nil ?_
  refine W.ret ?_
  cases h
  exact leaves (.inr rfl) rfl (.tup _ _ _ _ (cC (.agg _ _ _ _ (cC (.imm _) (cC (.imm _) (cC (.imm _) (cC (.imm _) (cC (.imm _) (cC (.imm _) (cC (.imm _) (cC (.imm _) (cC (.imm _) (cC (.imm _) (cC (.imm _) .nil)))))))))))) (cC (.imm _) .nil))) (cS (.ptr _ _ _ _ _ rfl (cC (.own _ _ _ _ rfl) (cC (.imm _) (cC (.imm _) .nil)))) (cN .nil)) rfl rfl
end Go.Proofs.Ytidinbjehfodoaa
