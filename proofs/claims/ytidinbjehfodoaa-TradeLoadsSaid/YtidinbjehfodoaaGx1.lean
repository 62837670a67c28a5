/- Shows what functions of the program come to, each as a plain function: written by a program of the author's for this claim. -/
import Derived.Test.YtidinbjehfodoaaGx0
namespace Go.Proofs.Ytidinbjehfodoaa
open Go Go.Pm
set_option linter.unusedVariables false
set_option linter.unusedSimpArgs false
noncomputable def cmp_Compare_int.f (x0 : Int) (x1 : Int) : Option (Int) :=
  (cmp_isNaN_int.f x0).bind fun t1 =>
  (cmp_isNaN_int.f x1).bind fun t3 =>
  if t1 = true then
    if t3 = true then
      some 0
    else
      some (-1)
  else
    if t3 = true then
      some 1
    else
      if (decide (x0 < x1)) = true then
        some (-1)
      else
        if (decide (x0 > x1)) = true then
          some 1
        else
          some 0
set_option maxRecDepth 100000 in
set_option maxHeartbeats 4000000 in
theorem cmp_Compare_int.ok {x0 : Int} {x1 : Int} {r : Int} (h : cmp_Compare_int.f x0 x1 = some r) : Pm.Spec prog 55 [.imm (.val (.int .i64 x0)), .imm (.val (.int .i64 x1))] (.imm (.val (.int .i64 r))) [none, none] := by
 unfold cmp_Compare_int.f at h
 refine Pm.Spec.of_body Try.func55 rfl (by kernel_rfl) (Nat.le_of_ble_eq_true rfl) (Nat.le_of_ble_eq_true rfl) ?_
 refine W.ghost (σ' := (mkSt [(0, some (.i x0)), (1, some (.i x1))] [] 1000)) (Gives.entry (.c rfl (.c rfl .n)) .n) ?_
 refine W.seq ?_
 refine W.pk ?_
 refine .a rfl rfl rfl rfl ?_
 refine .nil ?_
 refine W.seq ?_
 obtain ⟨t1, b2, h⟩ := bnd1 h
 refine W.pk ?_
 refine .m rfl rfl rfl rfl ?_
 refine .call (.b t1) [] 0 (cmp_isNaN_int.ok b2) rfl rfl rfl ca57 rfl rfl (cC (.imm _) .nil) rfl rfl rfl rfl rfl ?_
 refine .a rfl rfl rfl rfl ?_
 refine .nil ?_
 refine W.seq ?_
 obtain ⟨t3, b4, h⟩ := bnd1 h
 refine W.pk ?_
 refine .m rfl rfl rfl rfl ?_
 refine .call (.b t3) [] 0 (cmp_isNaN_int.ok b4) rfl rfl rfl ca57 rfl rfl (cC (.imm _) .nil) rfl rfl rfl rfl rfl ?_
 refine .a rfl rfl rfl rfl ?_
 refine .nil ?_
 refine W.seq ?_
 refine W.seq ?_
 refine W.pk ?_
 refine .m rfl rfl rfl rfl ?_
 refine .nil ?_
 refine W.cond rfl (fun q5 => ?_) (fun q5 => ?_)
 ·have h := ifT q5 h
  refine W.seq ?_
  refine W.seq ?_
  refine W.pk ?_
  refine .m rfl rfl rfl rfl ?_
  refine .nil ?_
  refine W.cond rfl (fun q6 => ?_) (fun q6 => ?_)
  ·have h := ifT q6 h
   refine W.seq ?_
   refine W.pk ?_
   refine .a rfl rfl rfl rfl ?_
   refine .nil ?_
   refine W.ret ?_
   cases h
   exact leaves (.inr rfl) rfl (.imm _) (cN (cN .nil)) rfl rfl
  ·have h := ifF q6 h
   refine W.skip ?_
   refine W.seq ?_
   refine W.pk ?_
   refine .a rfl rfl rfl rfl ?_
   refine .nil ?_
   refine W.ret ?_
   cases h
   exact leaves (.inr rfl) rfl (.imm _) (cN (cN .nil)) rfl rfl
 ·have h := ifF q5 h
  refine W.skip ?_
  refine W.seq ?_
  refine W.seq ?_
  refine W.pk ?_
  refine .m rfl rfl rfl rfl ?_
  refine .nil ?_
  refine W.cond rfl (fun q7 => ?_) (fun q7 => ?_)
  ·have h := ifT q7 h
   refine W.seq ?_
   refine W.pk ?_
   refine .a rfl rfl rfl rfl ?_
   refine .nil ?_
   refine W.ret ?_
   cases h
   exact leaves (.inr rfl) rfl (.imm _) (cN (cN .nil)) rfl rfl
  ·have h := ifF q7 h
   refine W.skip ?_
   refine W.seq ?_
   refine W.seq ?_
   refine W.pk ?_
   refine .m rfl rfl rfl rfl ?_
   refine .m rfl rfl rfl rfl ?_
   refine .v rfl rfl (OpL.binI rfl rfl rfl rfl) ?_
   refine .nil ?_
   refine W.cond rfl (fun q8 => ?_) (fun q8 => ?_)
   ·have h := ifT q8 h
    refine W.seq ?_
    refine W.pk ?_
    refine .a rfl rfl rfl rfl ?_
    refine .nil ?_
    refine W.ret ?_
    cases h
    exact leaves (.inr rfl) rfl (.imm _) (cN (cN .nil)) rfl rfl
   ·have h := ifF q8 h
    refine W.skip ?_
    refine W.seq ?_
    refine W.seq ?_
    refine W.pk ?_
    refine .m rfl rfl rfl rfl ?_
    refine .m rfl rfl rfl rfl ?_
    refine .v rfl rfl (OpL.binI rfl rfl rfl rfl) ?_
    refine .nil ?_
    refine W.cond rfl (fun q9 => ?_) (fun q9 => ?_)
    ·have h := ifT q9 h
     refine W.seq ?_
     refine W.pk ?_
     refine .a rfl rfl rfl rfl ?_
     refine .nil ?_
     refine W.ret ?_
     cases h
     exact leaves (.inr rfl) rfl (.imm _) (cN (cN .nil)) rfl rfl
    ·have h := ifF q9 h
     refine W.skip ?_
     refine W.seq ?_
     refine W.pk ?_
     refine .a rfl rfl rfl rfl ?_
     refine .nil ?_
     refine W.ret ?_
     cases h
     exact leaves (.inr rfl) rfl (.imm _) (cN (cN .nil)) rfl rfl

noncomputable def trade_Book_place_1_v2.f (x0 : api_Trade) (x1 : Int) : Option (Int) :=
  (cmp_Compare_int.f x0.ID x1).bind fun t1 =>
  some t1
set_option maxRecDepth 100000 in
set_option maxHeartbeats 4000000 in
theorem trade_Book_place_1_v2.ok {x0 : api_Trade} {x1 : Int} {r : Int} (h : trade_Book_place_1_v2.f x0 x1 = some r) : Pm.Spec prog 54 [.agg [.imm (.val (.int .i64 x0.ID)), .imm (.val (.int .i64 x0.Twin)), .imm (.val (.int .i64 x0.Member)), .imm (.val (.int .i64 x0.Side)), .imm (.val (.int .i64 x0.Basket)), .imm (.val (.int .i64 x0.Amount)), .imm (.val (.int .i64 x0.Start)), .imm (.val (.int .i64 x0.End)), .imm (.row 2 (List.map api_Reset.enc x0.Resets)), .imm (.val (.int .i64 x0.Stage)), .imm (.val (.bool x0.Short))], .imm (.val (.int .i64 x1))] (.imm (.val (.int .i64 r))) [none, none] := by
 unfold trade_Book_place_1_v2.f at h
 refine Pm.Spec.of_body Try.func54 rfl (by kernel_rfl) (Nat.le_of_ble_eq_true rfl) (Nat.le_of_ble_eq_true rfl) ?_
 refine W.ghost (σ' := (mkSt [(0, some (.agg (api_Trade.av x0))), (1, some (.i x1))] [] 1000)) (Gives.entry (.c rfl (.c rfl .n)) .n) ?_
 refine W.seq ?_
 refine W.pk ?_
 refine .t rfl rfl (O.box rfl rfl rfl rfl rfl) ?_
 refine .a rfl rfl rfl rfl ?_
 refine .nil ?_
 refine W.seq ?_
 obtain ⟨t1, b2, h⟩ := bnd1 h
 refine W.pk ?_
 refine .v rfl rfl (O.fld fld26_0 rfl rfl rfl) ?_
 refine .v rfl rfl (O.ld (y := .i x0.ID) ty3 rfl rfl rfl) ?_
 refine .m rfl rfl rfl rfl ?_
 refine .call (.i t1) [] 0 (cmp_Compare_int.ok b2) rfl rfl rfl ca55 rfl rfl (cC (.imm _) (cC (.imm _) .nil)) rfl rfl rfl rfl rfl ?_
 refine .a rfl rfl rfl rfl ?_
 refine .nil ?_
 refine W.ret ?_
 cases h
 exact leaves (.inr rfl) rfl (.imm _) (cN (cN .nil)) rfl rfl

noncomputable def slices_BinarySearchFunc_int__trade_Book_place_1.b0 (x0 : List api_Trade) (x1 : Int) (v6 : Int) (v7 : Int) : Option ((Int × Int) ⊕ Int) :=
  if (decide (v6 < v7)) = true then
    if (0 : Int) ≤ (IntKind.wrap .i64 (shrI .u64 (IntKind.wrap .u64 (IntKind.wrap .i64 (v6 + v7))) 1)) ∧ (IntKind.wrap .i64 (shrI .u64 (IntKind.wrap .u64 (IntKind.wrap .i64 (v6 + v7))) 1)) < (List.length x0 : Int) then
    (trade_Book_place_1_v2.f (nth x0 (IntKind.wrap .i64 (shrI .u64 (IntKind.wrap .u64 (IntKind.wrap .i64 (v6 + v7))) 1))) x1).bind fun t24 =>
    if (decide (t24 < 0)) = true then
      some (.inl ((IntKind.wrap .i64 ((IntKind.wrap .i64 (shrI .u64 (IntKind.wrap .u64 (IntKind.wrap .i64 (v6 + v7))) 1)) + 1)), v7))
    else
      some (.inl (v6, (IntKind.wrap .i64 (shrI .u64 (IntKind.wrap .u64 (IntKind.wrap .i64 (v6 + v7))) 1))))
    else none
  else
    some (.inr v6)
noncomputable def slices_BinarySearchFunc_int__trade_Book_place_1.r0 (x0 : List api_Trade) (x1 : Int) (s : Int × Int) : Option ((Int × Int) ⊕ Int) := slices_BinarySearchFunc_int__trade_Book_place_1.b0 x0 x1 s.1 s.2
noncomputable def slices_BinarySearchFunc_int__trade_Book_place_1.f (x0 : List api_Trade) (x1 : Int) : Option (Int × Bool) :=
  (loop (slices_BinarySearchFunc_int__trade_Book_place_1.r0 x0 x1) (0, (List.length x0 : Int))).bind fun o19 =>
  if ((decide (o19 < (List.length x0 : Int))) = true → (0 : Int) ≤ o19 ∧ o19 < (List.length x0 : Int)) then
  (if (decide (o19 < (List.length x0 : Int))) = true then trade_Book_place_1_v2.f (nth x0 o19) x1 else some default).bind fun t28 =>
  some (o19, ((decide (o19 < (List.length x0 : Int))) && (t28 == 0)))
  else none
set_option maxRecDepth 100000 in
set_option maxHeartbeats 4000000 in
theorem slices_BinarySearchFunc_int__trade_Book_place_1.ok {x0 : List api_Trade} {x1 : Int} {r : Int × Bool} (h : slices_BinarySearchFunc_int__trade_Book_place_1.f x0 x1 = some r) : Pm.Spec prog 53 [.xown 26 11 (List.map api_Trade.enc x0), .imm (.val (.int .i64 x1)), .fn 54 []] (.tup [.imm (.val (.int .i64 r.1)), .imm (.val (.bool r.2))]) [some (.xown 26 11 (List.map api_Trade.enc x0)), none, none] := by
 unfold slices_BinarySearchFunc_int__trade_Book_place_1.f at h
 refine Pm.Spec.of_body Try.func53 rfl (by kernel_rfl) (Nat.le_of_ble_eq_true rfl) (Nat.le_of_ble_eq_true rfl) ?_
 refine W.ghost (σ' := (mkSt [(0, some (.own 0)), (1, some (.i x1)), (2, some (.fn 54 []))] [(0, some (.rows 26 11 (List.map api_Trade.enc x0) false))] 1000)) (Gives.entry (.c rfl (.c rfl (.c rfl .n))) (.c rfl .n)) ?_
 refine W.seq ?_
 refine W.pk ?_
 refine .a rfl rfl rfl rfl ?_
 refine .a rfl rfl rfl rfl ?_
 refine .nil ?_
 refine W.seq ?_
 refine W.pk ?_
 refine .m rfl rfl rfl rfl ?_
 refine .v rfl rfl (O.lenO sl35 rfl rfl rfl) ?_
 refine .a rfl rfl rfl rfl ?_
 refine .nil ?_
 refine W.seq ?_
 refine W.pk ?_
 refine .m rfl rfl rfl rfl ?_
 refine .a rfl rfl rfl rfl ?_
 refine .a rfl rfl rfl rfl ?_
 refine .nil ?_
 refine W.seq ?_
 obtain ⟨o19, b20, h⟩ := bnd1 h
 refine W.fork (mkSt [(0, some (.own 0)), (1, some (.i x1)), (2, some (.fn 54 [])), (8, some (.i (List.length x0 : Int))), (9, some (.i o19))] [(0, some (.rows 26 11 (List.map api_Trade.enc x0) false))] 1000) ?_ ?_
 ·refine W.seq ?_
  obtain ⟨c27, h⟩ := chk h
  obtain ⟨t28, b29, h⟩ := bnd1 h
  refine W.fork (mkSt [(6, some (.i o19)), (7, some (.b ((decide (o19 < (List.length x0 : Int))) && (t28 == 0))))] [(0, some (.rows 26 11 (List.map api_Trade.enc x0) false))] 1000) ?_ ?_
  ·refine W.ret ?_
   cases h
   exact leaves (.inr rfl) rfl (.tup _ _ _ _ (cC (.imm _) (cC (.imm _) .nil))) (cS (.own _ _ _ _ rfl) (cN (cN .nil))) rfl rfl
  ·clear h
   rcases tf (decide (o19 < (List.length x0 : Int))) with g30 | g30
   ·refine W.pk ?_
    refine .m rfl rfl rfl rfl ?_
    refine .m rfl rfl rfl rfl ?_
    refine .m rfl rfl rfl rfl ?_
    refine .v rfl rfl (OpL.binI rfl rfl rfl rfl) ?_
    refine .m rfl rfl rfl rfl ?_
    refine .m rfl (met rfl rfl rfl g30) rfl rfl ?_
    refine .m rfl (met rfl rfl rfl g30) rfl rfl ?_
    refine .m rfl (met rfl rfl rfl g30) rfl rfl ?_
    refine .v rfl (met rfl rfl rfl g30) (O.idxO sl35 (c27 (by simp only [g30, Bool.true_or, Bool.or_true, Bool.false_or, Bool.or_false, Bool.true_and, Bool.and_true, Bool.false_and, Bool.and_false, Bool.not_true, Bool.not_false, cond_true, cond_false])) rfl rfl rfl rfl) ?_
    refine .v rfl (met rfl rfl rfl g30) (O.ldEN ty26 (c27 (by simp only [g30, Bool.true_or, Bool.or_true, Bool.false_or, Bool.or_false, Bool.true_and, Bool.and_true, Bool.false_and, Bool.and_false, Bool.not_true, Bool.not_false, cond_true, cond_false])) rfl rfl rfl rfl rfl) ?_
    refine .m rfl (met rfl rfl rfl g30) rfl rfl ?_
    refine .call (.i t28) [] 0 (trade_Book_place_1_v2.ok ((if_pos (by simp only [g30, Bool.true_or, Bool.or_true, Bool.false_or, Bool.or_false, Bool.true_and, Bool.and_true, Bool.false_and, Bool.and_false, Bool.not_true, Bool.not_false, cond_true, cond_false])).symm.trans b29)) rfl (met rfl rfl rfl g30) rfl ca54 rfl rfl (cC (.agg _ _ _ _ (cC (.imm _) (cC (.imm _) (cC (.imm _) (cC (.imm _) (cC (.imm _) (cC (.imm _) (cC (.imm _) (cC (.imm _) (cC (.imm _) (cC (.imm _) (cC (.imm _) .nil)))))))))))) (cC (.imm _) .nil)) rfl rfl rfl rfl rfl ?_
    refine .v rfl (met rfl rfl rfl g30) (OpL.binI rfl rfl rfl rfl) ?_
    refine .v rfl rfl (O.pickT g30 rfl rfl rfl) ?_
    refine .a rfl rfl rfl rfl ?_
    refine .a rfl rfl rfl rfl ?_
    refine .nil ?_
    exact toN (Gives.mkR [] (.r rfl rfl (.c rfl (sbb (by simp only [g30, Bool.true_or, Bool.or_true, Bool.false_or, Bool.or_false, Bool.true_and, Bool.and_true, Bool.false_and, Bool.and_false, Bool.not_true, Bool.not_false, cond_true, cond_false])) rfl .n)) (.r rfl rfl rfl .n) rfl rfl rfl)
   ·refine W.pk ?_
    refine .m rfl rfl rfl rfl ?_
    refine .m rfl rfl rfl rfl ?_
    refine .m rfl rfl rfl rfl ?_
    refine .v rfl rfl (OpL.binI rfl rfl rfl rfl) ?_
    refine .m rfl rfl rfl rfl ?_
    refine .x rfl (unmet rfl rfl rfl g30) ?_
    refine .x rfl (unmet rfl rfl rfl g30) ?_
    refine .x rfl (unmet rfl rfl rfl g30) ?_
    refine .x rfl (unmet rfl rfl rfl g30) ?_
    refine .x rfl (unmet rfl rfl rfl g30) ?_
    refine .x rfl (unmet rfl rfl rfl g30) ?_
    refine .x rfl (unmet rfl rfl rfl g30) ?_
    refine .x rfl (unmet rfl rfl rfl g30) ?_
    refine .v rfl rfl (O.pickF g30 rfl rfl rfl) ?_
    refine .a rfl rfl rfl rfl ?_
    refine .a rfl rfl rfl rfl ?_
    refine .nil ?_
    exact toN (Gives.mkR [] (.r rfl rfl (.c rfl (sbb (by simp only [g30, Bool.true_or, Bool.or_true, Bool.false_or, Bool.or_false, Bool.true_and, Bool.and_true, Bool.false_and, Bool.and_false, Bool.not_true, Bool.not_false, cond_true, cond_false])) rfl .n)) (.r rfl rfl rfl .n) rfl rfl rfl)
 ·clear h
  refine W.block ?_
  refine W.loopF (fun (s_ : Int × Int) => mkSt [(0, some (.own 0)), (1, some (.i x1)), (2, some (.fn 54 [])), (8, some (.i (List.length x0 : Int))), (9, some (.i s_.1)), (10, some (.i s_.2))] [(0, some (.rows 26 11 (List.map api_Trade.enc x0) false))] 1000) b20 (Gives.mkR [] (.r rfl rfl (.r rfl rfl (.r rfl rfl (.r rfl rfl (.r rfl rfl (.r rfl rfl .n)))))) (.r rfl rfl rfl .n) rfl rfl rfl) ?_
  rintro ⟨v6, v7⟩ s_ hr
  have h : slices_BinarySearchFunc_int__trade_Book_place_1.b0 x0 x1 v6 v7 = some s_ := hr
  unfold slices_BinarySearchFunc_int__trade_Book_place_1.b0 at h
  refine W.seq ?_
  refine W.seq ?_
  refine W.pk ?_
  refine .m rfl rfl rfl rfl ?_
  refine .m rfl rfl rfl rfl ?_
  refine .v rfl rfl (OpL.binI rfl rfl rfl rfl) ?_
  refine .nil ?_
  refine W.cond rfl (fun q22 => ?_) (fun q22 => ?_)
  ·have h := ifT q22 h
   refine W.skip ?_
   refine W.block ?_
   refine W.seq ?_
   refine W.pk ?_
   refine .m rfl rfl rfl rfl ?_
   refine .m rfl rfl rfl rfl ?_
   refine .v rfl rfl (OpL.binI rfl rfl rfl rfl) ?_
   refine .v rfl rfl (O.conv h3 u89 rfl rfl) ?_
   refine .v rfl rfl (O.shr (by decide) rfl rfl rfl) ?_
   refine .v rfl rfl (O.conv h89 u3 rfl rfl) ?_
   refine .a rfl rfl rfl rfl ?_
   refine .nil ?_
   refine W.seq ?_
   obtain ⟨c23, h⟩ := chk h
   obtain ⟨t24, b25, h⟩ := bnd1 h
   refine W.pk ?_
   refine .m rfl rfl rfl rfl ?_
   refine .m rfl rfl rfl rfl ?_
   refine .m rfl rfl rfl rfl ?_
   refine .v rfl rfl (O.idxO sl35 c23 rfl rfl rfl rfl) ?_
   refine .v rfl rfl (O.ldEN ty26 c23 rfl rfl rfl rfl rfl) ?_
   refine .m rfl rfl rfl rfl ?_
   refine .call (.i t24) [] 0 (trade_Book_place_1_v2.ok b25) rfl rfl rfl ca54 rfl rfl (cC (.agg _ _ _ _ (cC (.imm _) (cC (.imm _) (cC (.imm _) (cC (.imm _) (cC (.imm _) (cC (.imm _) (cC (.imm _) (cC (.imm _) (cC (.imm _) (cC (.imm _) (cC (.imm _) .nil)))))))))))) (cC (.imm _) .nil)) rfl rfl rfl rfl rfl ?_
   refine .v rfl rfl (OpL.binI rfl rfl rfl rfl) ?_
   refine .nil ?_
   refine W.cond rfl (fun q26 => ?_) (fun q26 => ?_)
   ·have h := ifT q26 h
    refine W.pk ?_
    refine .m rfl rfl rfl rfl ?_
    refine .v rfl rfl (OpL.binI rfl rfl rfl rfl) ?_
    refine .a rfl rfl rfl rfl ?_
    refine .nil ?_
    cases h
    exact rdN (Gives.mkR [] (.r rfl rfl (.r rfl rfl (.r rfl rfl (.r rfl rfl (.r rfl rfl (.r rfl rfl .n)))))) (.r rfl rfl rfl .n) rfl rfl rfl)
   ·have h := ifF q26 h
    refine W.pk ?_
    refine .m rfl rfl rfl rfl ?_
    refine .a rfl rfl rfl rfl ?_
    refine .nil ?_
    cases h
    exact rdN (Gives.mkR [] (.r rfl rfl (.r rfl rfl (.r rfl rfl (.r rfl rfl (.r rfl rfl (.r rfl rfl .n)))))) (.r rfl rfl rfl .n) rfl rfl rfl)
  ·have h := ifF q22 h
   refine W.exit ?_
   cases h
   refine rdX fun e_ => ?_
   subst e_
   repeat with_reducible refine thru ?_
   refine hit ?_
   exact toN (Gives.mkR [] (.r rfl rfl (.r rfl rfl (.r rfl rfl (.r rfl rfl (.r rfl rfl .n))))) (.r rfl rfl rfl .n) rfl rfl rfl)

noncomputable def trade_Book_place.f (x0 : trade_Book) (x1 : Int) : Option (Int × Bool) :=
  (slices_BinarySearchFunc_int__trade_Book_place_1.f x0.l x1).bind fun t1 =>
  some (t1.1, t1.2)
set_option maxRecDepth 100000 in
set_option maxHeartbeats 4000000 in
theorem trade_Book_place.ok {x0 : trade_Book} {x1 : Int} {r : Int × Bool} (h : trade_Book_place.f x0 x1 = some r) : Pm.Spec prog 46 [.xbox [.xown 26 11 (List.map api_Trade.enc x0.l), .imm (.val (.int .i64 x0.next)), .imm (.val (.bool x0.made))], .imm (.val (.int .i64 x1))] (.tup [.imm (.val (.int .i64 r.1)), .imm (.val (.bool r.2))]) [some (.xbox [.xown 26 11 (List.map api_Trade.enc x0.l), .imm (.val (.int .i64 x0.next)), .imm (.val (.bool x0.made))]), none] := by
 unfold trade_Book_place.f at h
 refine Pm.Spec.of_body Try.func46 rfl (by kernel_rfl) (Nat.le_of_ble_eq_true rfl) (Nat.le_of_ble_eq_true rfl) ?_
 refine W.ghost (σ' := (mkSt [(0, some (.ptr 0 0)), (1, some (.i x1))] [(0, some (.box [.own 1, .i x0.next, .b x0.made])), (1, some (.rows 26 11 (List.map api_Trade.enc x0.l) false))] 1000)) (Gives.entry (.c rfl (.c rfl .n)) (.c rfl (.c rfl .n))) ?_
 refine W.ghost (σ' := (mkSt [(0, some (.ptr 0 0)), (1, some (.i x1))] [(0, some (.box [.own 1000, .i x0.next, .b x0.made])), (1000, some (.rows 26 11 (List.map api_Trade.enc x0.l) false))] 1001)) (Gives.mkR [(1000, 1)] (.r rfl rfl (.r rfl rfl .n)) (.r rfl rfl rfl (.r rfl rfl rfl .n)) rfl rfl rfl) ?_
 refine W.seq ?_
 refine W.pk ?_
 refine .a rfl rfl rfl rfl ?_
 refine .a rfl rfl rfl rfl ?_
 refine .nil ?_
 refine W.seq ?_
 obtain ⟨t1, b2, h⟩ := bnd1 h
 refine W.pk ?_
 refine .m rfl rfl rfl rfl ?_
 refine .v rfl rfl (OpL.nilP rfl rfl rfl) ?_
 refine .v rfl rfl (O.fld fld62_0 rfl rfl rfl) ?_
 refine .v rfl rfl (O.ld (y := .own 1000) ty35 rfl rfl rfl) ?_
 refine .m rfl rfl rfl rfl ?_
 refine .call (.tup [.i t1.1, .b t1.2]) [(1000, some (.rows 26 11 (List.map api_Trade.enc x0.l) false)), (1000, none)] 0 (slices_BinarySearchFunc_int__trade_Book_place_1.ok b2) rfl rfl rfl ca53 rfl rfl (cC (.own _ _ _ _ rfl) (cC (.imm _) (cC (.fn _ _ _ _ _ .nil) .nil))) rfl rfl rfl rfl rfl ?_
 refine .v rfl rfl (OpL.extract rfl rfl rfl) ?_
 refine .v rfl rfl (OpL.extract rfl rfl rfl) ?_
 refine .a rfl rfl rfl rfl ?_
 refine .a rfl rfl rfl rfl ?_
 refine .nil ?_
 refine W.ret ?_
 cases h
 exact leaves (.inr rfl) rfl (.tup _ _ _ _ (cC (.imm _) (cC (.imm _) .nil))) (cS (.ptr _ _ _ _ _ rfl (cC (.own _ _ _ _ rfl) (cC (.imm _) (cC (.imm _) .nil)))) (cN .nil)) rfl rfl

noncomputable def slices_Clone_api_Reset.f (x0 : List api_Reset) : Option (List api_Reset) :=
  if (List.length x0) * 16 ≤ 140737488355328 then some x0 else none
set_option maxRecDepth 100000 in
theorem slices_Clone_api_Reset.ok {x0 r : List api_Reset} (h : slices_Clone_api_Reset.f x0 = some r) : Pm.Spec prog 52 [.imm (.row 2 (List.map api_Reset.enc x0))] (.xown 60 2 (List.map api_Reset.enc r)) [none] := by
 obtain ⟨h1, rfl⟩ : (List.length x0) * 16 ≤ 140737488355328 ∧ x0 = r := by
   unfold slices_Clone_api_Reset.f at h
   split at h
   · rename_i h1; cases h; exact ⟨h1, rfl⟩
   · cases h
 refine Pm.Spec.of_body Try.func52 rfl (by kernel_rfl) (Nat.le_of_ble_eq_true rfl) (Nat.le_of_ble_eq_true rfl) ?_
 refine W.ghost (σ' := (mkSt [(0, some (.imm (.row 2 (List.map api_Reset.enc x0))))] [] 1000)) (Gives.entry (.c rfl .n) .n) ?_
 cases x0 with
 | cons x1 l1 =>
  refine W.seq ?_
  refine W.pk ?_
  refine .v rfl rfl (OpL.move (.inr rfl) rfl) ?_
  refine .nil ?_
  refine W.seq ?_
  refine W.seq ?_
  refine W.pk ?_
  refine .v rfl rfl (OpL.move (.inl rfl) rfl) ?_
  refine .v rfl rfl (O.eqRow sl24 rfl rfl rfl) ?_
  refine .nil ?_
  refine W.cond rfl (fun q => by cases q) (fun _ => ?_)
  refine W.skip ?_
  refine W.seq ?_
  refine W.pk ?_
  refine .t rfl rfl (O.lit (enc := api_Reset.enc) (l := []) sl24 rfl rfl rfl rfl rfl rfl rfl rfl rfl) ?_
  refine .v rfl rfl (OpL.move (.inl rfl) rfl) ?_
  have h2 : (List.length ([] : List api_Reset) + List.length (x1 :: l1 : List api_Reset)) * 16 ≤ 140737488355328 := by simpa using h1
  refine .t rfl rfl (O.app (l := []) sl24 api_Reset.ok h2 rfl rfl rfl rfl) ?_
  refine .v rfl rfl (OpL.move (.inr rfl) rfl) ?_
  refine .nil ?_
  refine W.ret ?_
  exact leaves (.inr rfl) rfl (.own _ _ _ _ rfl) (cN .nil) rfl rfl
 | nil =>
  refine W.emptyS 0 rfl fun A c => ?_
  cases A with
  | none =>
   refine W.seq ?_
   refine W.pk ?_
   refine .v rfl rfl (OpL.move (.inr rfl) rfl) ?_
   refine .nil ?_
   refine W.seq ?_
   refine W.seq ?_
   refine W.pk ?_
   refine .v rfl rfl (OpL.move (.inl rfl) rfl) ?_
   refine .v rfl rfl (O.eqSl sl24 rfl rfl rfl) ?_
   refine .nil ?_
   refine W.cond rfl (fun _ => ?_) (fun q => by cases q)
   refine W.seq ?_
   refine W.pk ?_
   refine .v rfl rfl (OpL.move (.inr rfl) rfl) ?_
   refine .nil ?_
   refine W.ret ?_
   exact leaves (.inr rfl) rfl (.nilown _ _) (cN .nil) rfl rfl
  | some p =>
   refine W.seq ?_
   refine W.pk ?_
   refine .v rfl rfl (OpL.move (.inr rfl) rfl) ?_
   refine .nil ?_
   refine W.seq ?_
   refine W.seq ?_
   refine W.pk ?_
   refine .v rfl rfl (OpL.move (.inl rfl) rfl) ?_
   refine .v rfl rfl (O.eqSl sl24 rfl rfl rfl) ?_
   refine .nil ?_
   refine W.cond rfl (fun q => by cases q) (fun _ => ?_)
   refine W.skip ?_
   refine W.ghost (Gives.emptyS 0 2 rfl) ?_
   refine W.seq ?_
   refine W.pk ?_
   refine .t rfl rfl (O.lit (enc := api_Reset.enc) (l := []) sl24 rfl rfl rfl rfl rfl rfl rfl rfl rfl) ?_
   refine .v rfl rfl (OpL.move (.inl rfl) rfl) ?_
   have h2 : (List.length ([] : List api_Reset) + List.length ([] : List api_Reset)) * 16 ≤ 140737488355328 := by simp
   refine .t rfl rfl (O.app (l := []) sl24 api_Reset.ok h2 rfl rfl rfl rfl) ?_
   refine .v rfl rfl (OpL.move (.inr rfl) rfl) ?_
   refine .nil ?_
   refine W.ret ?_
   exact leaves (.inr rfl) rfl (.own _ _ _ _ rfl) (cN .nil) rfl rfl

noncomputable def trade_copied.f (x0 : api_Trade) : Option (api_Trade) :=
  (slices_Clone_api_Reset.f x0.Resets).bind fun t1 =>
  some (⟨x0.ID, x0.Twin, x0.Member, x0.Side, x0.Basket, x0.Amount, x0.Start, x0.End, t1, x0.Stage, x0.Short⟩ : api_Trade)
set_option maxRecDepth 100000 in
set_option maxHeartbeats 4000000 in
theorem trade_copied.ok {x0 : api_Trade} {r : api_Trade} (h : trade_copied.f x0 = some r) : Pm.Spec prog 42 [.agg [.imm (.val (.int .i64 x0.ID)), .imm (.val (.int .i64 x0.Twin)), .imm (.val (.int .i64 x0.Member)), .imm (.val (.int .i64 x0.Side)), .imm (.val (.int .i64 x0.Basket)), .imm (.val (.int .i64 x0.Amount)), .imm (.val (.int .i64 x0.Start)), .imm (.val (.int .i64 x0.End)), .imm (.row 2 (List.map api_Reset.enc x0.Resets)), .imm (.val (.int .i64 x0.Stage)), .imm (.val (.bool x0.Short))]] (.agg [.imm (.val (.int .i64 r.ID)), .imm (.val (.int .i64 r.Twin)), .imm (.val (.int .i64 r.Member)), .imm (.val (.int .i64 r.Side)), .imm (.val (.int .i64 r.Basket)), .imm (.val (.int .i64 r.Amount)), .imm (.val (.int .i64 r.Start)), .imm (.val (.int .i64 r.End)), .imm (.row 2 (List.map api_Reset.enc r.Resets)), .imm (.val (.int .i64 r.Stage)), .imm (.val (.bool r.Short))]) [none] := by
 unfold trade_copied.f at h
 refine Pm.Spec.of_body Try.func42 rfl (by kernel_rfl) (Nat.le_of_ble_eq_true rfl) (Nat.le_of_ble_eq_true rfl) ?_
 refine W.ghost (σ' := (mkSt [(0, some (.agg (api_Trade.av x0)))] [] 1000)) (Gives.entry (.c rfl .n) .n) ?_
 refine W.seq ?_
 refine W.pk ?_
 refine .t rfl rfl (O.box rfl rfl rfl rfl rfl) ?_
 refine .t rfl rfl (O.alloc z26 rfl) ?_
 refine .nil ?_
 refine W.seq ?_
 obtain ⟨t1, b2, h⟩ := bnd1 h
 refine W.pk ?_
 refine .v rfl rfl (O.fld fld26_8 rfl rfl rfl) ?_
 refine .v rfl rfl (O.ld (y := .imm (.row 2 (List.map api_Reset.enc x0.Resets))) ty24 rfl rfl rfl) ?_
 refine .call (.own 1002) [(1002, some (.rows 60 2 (List.map api_Reset.enc t1) false))] 1 (slices_Clone_api_Reset.ok b2) rfl rfl rfl ca52 rfl rfl (cC (.imm _) .nil) rfl rfl rfl rfl rfl ?_
 refine .v rfl rfl (O.fld fld26_8 rfl rfl rfl) ?_
 refine .s rfl rfl (O.st ty24 rfl rfl rfl rfl rfl rfl rfl rfl rfl rfl (all' := [.i x0.ID, .i x0.Twin, .i x0.Member, .i x0.Side, .i x0.Basket, .i x0.Amount, .i x0.Start, .i x0.End, .own 1002, .i x0.Stage, .b x0.Short]) rfl) ?_
 refine .nil ?_
 refine W.seq ?_
 refine W.pk ?_
 refine .v rfl rfl (O.ldN ty26 rfl rfl rfl) ?_
 refine .s rfl rfl (O.st ty26 rfl rfl rfl rfl rfl rfl rfl rfl rfl rfl (all' := [.i x0.ID, .i x0.Twin, .i x0.Member, .i x0.Side, .i x0.Basket, .i x0.Amount, .i x0.Start, .i x0.End, .own 1002, .i x0.Stage, .b x0.Short]) rfl) ?_
 refine .nil ?_
 refine W.ret ?_
 cases h
 exact leaves (.inr rfl) rfl (.agg _ _ _ _ (cC (.imm _) (cC (.imm _) (cC (.imm _) (cC (.imm _) (cC (.imm _) (cC (.imm _) (cC (.imm _) (cC (.imm _) (cC (.lend _ _ _ _ _ rfl) (cC (.imm _) (cC (.imm _) .nil)))))))))))) (cN .nil) rfl rfl

noncomputable def trade_Book_Get.f (x0 : trade_Book) (x1 : Int) : Option (api_Trade × Bool) :=
  (trade_Book_place.f x0 x1).bind fun t1 =>
  if (!t1.2) = true then
    some ((⟨0, 0, 0, 0, 0, 0, 0, 0, [], 0, false⟩ : api_Trade), false)
  else
    if (0 : Int) ≤ t1.1 ∧ t1.1 < (List.length x0.l : Int) then
    (trade_copied.f (nth x0.l t1.1)).bind fun t5 =>
    some (t5, true)
    else none
set_option maxRecDepth 100000 in
set_option maxHeartbeats 4000000 in
theorem trade_Book_Get.ok {x0 : trade_Book} {x1 : Int} {r : api_Trade × Bool} (h : trade_Book_Get.f x0 x1 = some r) : Pm.Spec prog 23 [.xbox [.xown 26 11 (List.map api_Trade.enc x0.l), .imm (.val (.int .i64 x0.next)), .imm (.val (.bool x0.made))], .imm (.val (.int .i64 x1))] (.tup [.agg [.imm (.val (.int .i64 r.1.ID)), .imm (.val (.int .i64 r.1.Twin)), .imm (.val (.int .i64 r.1.Member)), .imm (.val (.int .i64 r.1.Side)), .imm (.val (.int .i64 r.1.Basket)), .imm (.val (.int .i64 r.1.Amount)), .imm (.val (.int .i64 r.1.Start)), .imm (.val (.int .i64 r.1.End)), .imm (.row 2 (List.map api_Reset.enc r.1.Resets)), .imm (.val (.int .i64 r.1.Stage)), .imm (.val (.bool r.1.Short))], .imm (.val (.bool r.2))]) [some (.xbox [.xown 26 11 (List.map api_Trade.enc x0.l), .imm (.val (.int .i64 x0.next)), .imm (.val (.bool x0.made))]), none] := by
 unfold trade_Book_Get.f at h
 refine Pm.Spec.of_body Try.func23 rfl (by kernel_rfl) (Nat.le_of_ble_eq_true rfl) (Nat.le_of_ble_eq_true rfl) ?_
 refine W.ghost (σ' := (mkSt [(0, some (.ptr 0 0)), (1, some (.i x1))] [(0, some (.box [.own 1, .i x0.next, .b x0.made])), (1, some (.rows 26 11 (List.map api_Trade.enc x0.l) false))] 1000)) (Gives.entry (.c rfl (.c rfl .n)) (.c rfl (.c rfl .n))) ?_
 refine W.ghost (σ' := (mkSt [(0, some (.ptr 0 0)), (1, some (.i x1))] [(0, some (.box [.own 1000, .i x0.next, .b x0.made])), (1000, some (.rows 26 11 (List.map api_Trade.enc x0.l) false))] 1001)) (Gives.mkR [(1000, 1)] (.r rfl rfl (.r rfl rfl .n)) (.r rfl rfl rfl (.r rfl rfl rfl .n)) rfl rfl rfl) ?_
 refine W.seq ?_
 refine W.pk ?_
 refine .t rfl rfl (O.alloc z26 rfl) ?_
 refine .a rfl rfl rfl rfl ?_
 refine .nil ?_
 refine W.seq ?_
 refine W.seq ?_
 refine W.pk ?_
 refine .m rfl rfl rfl rfl ?_
 refine .v rfl rfl (OpL.eqP rfl u36 rfl rfl rfl) ?_
 refine .nil ?_
 refine W.cond rfl (fun q => by cases q) (fun _ => ?_)
 refine W.skip ?_
 refine W.seq ?_
 obtain ⟨t1, b2, h⟩ := bnd1 h
 refine W.pk ?_
 refine .m rfl rfl rfl rfl ?_
 refine .m rfl rfl rfl rfl ?_
 refine .call (.tup [.i t1.1, .b t1.2]) [(0, some (.box [.own 1002, .i x0.next, .b x0.made])), (1002, some (.rows 26 11 (List.map api_Trade.enc x0.l) false)), (0, none), (1000, none)] 1 (trade_Book_place.ok b2) rfl rfl rfl ca46 rfl rfl (cC (.ptr _ _ _ _ _ rfl (cC (.own _ _ _ _ rfl) (cC (.imm _) (cC (.imm _) .nil)))) (cC (.imm _) .nil)) rfl rfl rfl rfl rfl ?_
 refine .m rfl rfl rfl rfl ?_
 refine .v rfl rfl (OpL.extract rfl rfl rfl) ?_
 refine .v rfl rfl (OpL.extract rfl rfl rfl) ?_
 refine .a rfl rfl rfl rfl ?_
 refine .a rfl rfl rfl rfl ?_
 refine .nil ?_
 refine W.seq ?_
 refine W.seq ?_
 refine W.pk ?_
 refine .m rfl rfl rfl rfl ?_
 refine .v rfl rfl (OpL.unV rfl rfl rfl) ?_
 refine .nil ?_
 refine W.cond rfl (fun q3 => ?_) (fun q3 => ?_)
 ·have h := ifT q3 h
  refine W.seq ?_
  refine W.pk ?_
  refine .v rfl rfl (O.build (out := [.i 0, .i 0, .i 0, .i 0, .i 0, .i 0, .i 0, .i 0, .imm (.val (.slice none 0 0)), .i 0, .b false]) bl26 rfl rfl rfl rfl (by kernel_rfl)) ?_
  refine .s rfl rfl (O.st ty26 rfl rfl rfl rfl rfl rfl rfl rfl rfl rfl (all' := [.i 0, .i 0, .i 0, .i 0, .i 0, .i 0, .i 0, .i 0, .imm (.val (.slice none 0 0)), .i 0, .b false]) rfl) ?_
  refine .a rfl rfl rfl rfl ?_
  refine .nil ?_
  refine W.ret ?_
  cases h
  exact leaves (.inr rfl) rfl (.tup _ _ _ _ (cC (.agg _ _ _ _ (cC (.imm _) (cC (.imm _) (cC (.imm _) (cC (.imm _) (cC (.imm _) (cC (.imm _) (cC (.imm _) (cC (.imm _) (cC (.nilrow _) (cC (.imm _) (cC (.imm _) .nil)))))))))))) (cC (.imm _) .nil))) (cS (.ptr _ _ _ _ _ rfl (cC (.own _ _ _ _ rfl) (cC (.imm _) (cC (.imm _) .nil)))) (cN .nil)) rfl rfl
 ·have h := ifF q3 h
  refine W.skip ?_
  refine W.seq ?_
  obtain ⟨c4, h⟩ := chk h
  obtain ⟨t5, b6, h⟩ := bnd1 h
  refine W.pk ?_
  refine .m rfl rfl rfl rfl ?_
  refine .v rfl rfl (OpL.nilP rfl rfl rfl) ?_
  refine .v rfl rfl (O.fld fld62_0 rfl rfl rfl) ?_
  refine .v rfl rfl (O.ld (y := .own 1002) ty35 rfl rfl rfl) ?_
  refine .m rfl rfl rfl rfl ?_
  refine .v rfl rfl (O.idxO sl35 c4 rfl rfl rfl rfl) ?_
  refine .v rfl rfl (O.ldEN ty26 c4 rfl rfl rfl rfl rfl) ?_
  refine .call (.agg (api_Trade.av t5)) [] 0 (trade_copied.ok b6) rfl rfl rfl ca42 rfl rfl (cC (.agg _ _ _ _ (cC (.imm _) (cC (.imm _) (cC (.imm _) (cC (.imm _) (cC (.imm _) (cC (.imm _) (cC (.imm _) (cC (.imm _) (cC (.imm _) (cC (.imm _) (cC (.imm _) .nil)))))))))))) .nil) rfl rfl rfl rfl rfl ?_
  refine .s rfl rfl (O.st ty26 rfl rfl rfl rfl rfl rfl rfl rfl rfl rfl (all' := [.i t5.ID, .i t5.Twin, .i t5.Member, .i t5.Side, .i t5.Basket, .i t5.Amount, .i t5.Start, .i t5.End, .imm (.row 2 (List.map api_Reset.enc t5.Resets)), .i t5.Stage, .b t5.Short]) rfl) ?_
  refine .a rfl rfl rfl rfl ?_
  refine .nil ?_
  refine W.ret ?_
  cases h
  exact leaves (.inr rfl) rfl (.tup _ _ _ _ (cC (.agg _ _ _ _ (cC (.imm _) (cC (.imm _) (cC (.imm _) (cC (.imm _) (cC (.imm _) (cC (.imm _) (cC (.imm _) (cC (.imm _) (cC (.imm _) (cC (.imm _) (cC (.imm _) .nil)))))))))))) (cC (.imm _) .nil))) (cS (.ptr _ _ _ _ _ rfl (cC (.own _ _ _ _ rfl) (cC (.imm _) (cC (.imm _) .nil)))) (cN .nil)) rfl rfl

noncomputable def trade_Book_All.b0 (x0 : trade_Book) (v7 : Int) (v8 : List api_Trade) : Option ((Int × (List api_Trade)) ⊕ (List api_Trade)) :=
  if (decide (v7 < (List.length x0.l : Int))) = true then
    if (0 : Int) ≤ v7 ∧ v7 < (List.length x0.l : Int) then
    (trade_copied.f (nth x0.l v7)).bind fun t25 =>
    if (List.length v8 + List.length [t25]) * 104 ≤ 140737488355328 then
    some (.inl ((IntKind.wrap .i64 (v7 + 1)), (v8 ++ [t25])))
    else none
    else none
  else
    some (.inr v8)
noncomputable def trade_Book_All.r0 (x0 : trade_Book) (s : Int × (List api_Trade)) : Option ((Int × (List api_Trade)) ⊕ (List api_Trade)) := trade_Book_All.b0 x0 s.1 s.2
noncomputable def trade_Book_All.f (x0 : trade_Book) : Option (List api_Trade) :=
  if (0 : Int) ≤ 0 ∧ 0 ≤ (List.length x0.l : Int) ∧ (104 : Int) * (List.length x0.l : Int) ≤ 281474976710656 then
  (loop (trade_Book_All.r0 x0) (0, (List.replicate (Int.toNat 0) ((⟨0, 0, 0, 0, 0, 0, 0, 0, [], 0, false⟩ : api_Trade) : api_Trade)))).bind fun o20 =>
  some o20
  else none
set_option maxRecDepth 100000 in
set_option maxHeartbeats 4000000 in
theorem trade_Book_All.ok {x0 : trade_Book} {r : List api_Trade} (h : trade_Book_All.f x0 = some r) : Pm.Spec prog 18 [.xbox [.xown 26 11 (List.map api_Trade.enc x0.l), .imm (.val (.int .i64 x0.next)), .imm (.val (.bool x0.made))]] (.xown 26 11 (List.map api_Trade.enc r)) [some (.xbox [.xown 26 11 (List.map api_Trade.enc x0.l), .imm (.val (.int .i64 x0.next)), .imm (.val (.bool x0.made))])] := by
 unfold trade_Book_All.f at h
 refine Pm.Spec.of_body Try.func18 rfl (by kernel_rfl) (Nat.le_of_ble_eq_true rfl) (Nat.le_of_ble_eq_true rfl) ?_
 refine W.ghost (σ' := (mkSt [(0, some (.ptr 0 0))] [(0, some (.box [.own 1, .i x0.next, .b x0.made])), (1, some (.rows 26 11 (List.map api_Trade.enc x0.l) false))] 1000)) (Gives.entry (.c rfl .n) (.c rfl (.c rfl .n))) ?_
 refine W.ghost (σ' := (mkSt [(0, some (.ptr 0 0))] [(0, some (.box [.own 1000, .i x0.next, .b x0.made])), (1000, some (.rows 26 11 (List.map api_Trade.enc x0.l) false))] 1001)) (Gives.mkR [(1000, 1)] (.r rfl rfl .n) (.r rfl rfl rfl (.r rfl rfl rfl .n)) rfl rfl rfl) ?_
 refine W.seq ?_
 refine W.pk ?_
 refine .a rfl rfl rfl rfl ?_
 refine .nil ?_
 refine W.seq ?_
 refine W.seq ?_
 refine W.pk ?_
 refine .m rfl rfl rfl rfl ?_
 refine .v rfl rfl (OpL.eqP rfl u36 rfl rfl rfl) ?_
 refine .nil ?_
 refine W.cond rfl (fun q => by cases q) (fun _ => ?_)
 refine W.skip ?_
 refine W.seq ?_
 obtain ⟨c1, h⟩ := chk h
 refine W.pk ?_
 refine .m rfl rfl rfl rfl ?_
 refine .v rfl rfl (OpL.nilP rfl rfl rfl) ?_
 refine .v rfl rfl (O.fld fld62_0 rfl rfl rfl) ?_
 refine .v rfl rfl (O.ld (y := .own 1000) ty35 rfl rfl rfl) ?_
 refine .v rfl rfl (O.lenO sl35 rfl rfl rfl) ?_
 refine .t rfl rfl (O.makeN (enc := api_Trade.enc) (z := ((⟨0, 0, 0, 0, 0, 0, 0, 0, [], 0, false⟩ : api_Trade) : api_Trade)) sl35 c1 (.cons (.same _) (.cons (.same _) (.cons (.same _) (.cons (.same _) (.cons (.same _) (.cons (.same _) (.cons (.same _) (.cons (.same _) (.cons (.none 2) (.cons (.same _) (.cons (.same _) .nil))))))))))) rfl rfl rfl rfl) ?_
 refine .a rfl rfl rfl rfl ?_
 refine .nil ?_
 refine W.seq ?_
 refine W.seq ?_
 refine W.pk ?_
 refine .m rfl rfl rfl rfl ?_
 refine .v rfl rfl (OpL.nilP rfl rfl rfl) ?_
 refine .v rfl rfl (O.fld fld62_0 rfl rfl rfl) ?_
 refine .v rfl rfl (O.ld (y := .own 1000) ty35 rfl rfl rfl) ?_
 refine .v rfl rfl (O.lenO sl35 rfl rfl rfl) ?_
 refine .m rfl rfl rfl rfl ?_
 refine .nil ?_
 obtain ⟨o20, b21, h⟩ := bnd1 h
 refine W.fork (mkSt [(3, some (.own 1001))] [(0, some (.box [.own 1000, .i x0.next, .b x0.made])), (1000, some (.rows 26 11 (List.map api_Trade.enc x0.l) false)), (1001, some (.rows 26 11 (List.map api_Trade.enc o20) false))] 1002) ?_ ?_
 ·refine W.seq ?_
  refine W.pk ?_
  refine .m rfl rfl rfl rfl ?_
  refine .a rfl rfl rfl rfl ?_
  refine .nil ?_
  refine W.ret ?_
  cases h
  exact leaves (.inr rfl) rfl (.own _ _ _ _ rfl) (cS (.ptr _ _ _ _ _ rfl (cC (.own _ _ _ _ rfl) (cC (.imm _) (cC (.imm _) .nil)))) .nil) rfl rfl
 ·clear h
  refine W.block ?_
  refine W.loopF (fun (s_ : Int × (List api_Trade)) => mkSt [(3, some (.own 1001)), (17, some (.own 1000)), (18, some (.i (List.length x0.l : Int))), (19, some (.i s_.1))] [(0, some (.box [.own 1000, .i x0.next, .b x0.made])), (1000, some (.rows 26 11 (List.map api_Trade.enc x0.l) false)), (1001, some (.rows 26 11 (List.map api_Trade.enc s_.2) false))] 1002) b21 (Gives.mkR [] (.r rfl rfl (.r rfl rfl (.r rfl rfl (.r rfl rfl .n)))) (.r rfl rfl rfl (.r rfl rfl rfl (.r rfl rfl rfl .n))) rfl rfl rfl) ?_
  rintro ⟨v7, v8⟩ s_ hr
  have h : trade_Book_All.b0 x0 v7 v8 = some s_ := hr
  unfold trade_Book_All.b0 at h
  refine W.seq ?_
  refine W.pk ?_
  refine .v rfl rfl (OpL.binI rfl rfl rfl rfl) ?_
  refine .nil ?_
  refine W.seq ?_
  refine W.cond rfl (fun q23 => ?_) (fun q23 => ?_)
  ·have h := ifT q23 h
   refine W.skip ?_
   refine W.seq ?_
   refine W.block ?_
   refine W.seq ?_
   obtain ⟨c24, h⟩ := chk h
   refine W.pk ?_
   refine .v rfl rfl (O.idxO sl35 c24 rfl rfl rfl rfl) ?_
   refine .v rfl rfl (O.ldEN ty26 c24 rfl rfl rfl rfl rfl) ?_
   refine .t rfl rfl (O.alloc z26 rfl) ?_
   refine .s rfl rfl (O.st ty26 rfl rfl rfl rfl rfl rfl rfl rfl rfl rfl (all' := [.i ((nth x0.l v7).ID), .i ((nth x0.l v7).Twin), .i ((nth x0.l v7).Member), .i ((nth x0.l v7).Side), .i ((nth x0.l v7).Basket), .i ((nth x0.l v7).Amount), .i ((nth x0.l v7).Start), .i ((nth x0.l v7).End), .imm (.row 2 (List.map api_Reset.enc ((nth x0.l v7).Resets))), .i ((nth x0.l v7).Stage), .b ((nth x0.l v7).Short)]) rfl) ?_
   refine .nil ?_
   obtain ⟨t25, b26, h⟩ := bnd1 h
   obtain ⟨c27, h⟩ := chk h
   refine W.pk ?_
   refine .m rfl rfl rfl rfl ?_
   refine .v rfl rfl (O.ldN ty26 rfl rfl rfl) ?_
   refine .call (.agg (api_Trade.av t25)) [] 0 (trade_copied.ok b26) rfl rfl rfl ca42 rfl rfl (cC (.agg _ _ _ _ (cC (.imm _) (cC (.imm _) (cC (.imm _) (cC (.imm _) (cC (.imm _) (cC (.imm _) (cC (.imm _) (cC (.imm _) (cC (.imm _) (cC (.imm _) (cC (.imm _) .nil)))))))))))) .nil) rfl rfl rfl rfl rfl ?_
   refine .t rfl rfl (O.lit (enc := api_Trade.enc) (l := [t25]) sl35 rfl rfl rfl rfl rfl rfl rfl rfl rfl) ?_
   refine .t rfl rfl (O.appO sl35 api_Trade.ok c27 rfl rfl rfl rfl rfl) ?_
   refine .a rfl rfl rfl rfl ?_
   refine .nil ?_
   refine W.pk ?_
   refine .v rfl rfl (OpL.binI rfl rfl rfl rfl) ?_
   refine .m rfl rfl rfl rfl ?_
   refine .nil ?_
   cases h
   exact rdN (Gives.mkR [(1001, 1004)] (.r rfl rfl (.r rfl rfl (.r rfl rfl (.r rfl rfl .n)))) (.r rfl rfl rfl (.r rfl rfl rfl (.r rfl rfl rfl .n))) rfl rfl rfl)
  ·have h := ifF q23 h
   refine W.exit ?_
   cases h
   refine rdX fun e_ => ?_
   subst e_
   repeat with_reducible refine thru ?_
   refine hit ?_
   exact toN (Gives.mkR [] (.r rfl rfl .n) (.r rfl rfl rfl (.r rfl rfl rfl (.r rfl rfl rfl .n))) rfl rfl rfl)

noncomputable def trade_Book_Of.b0 (x1 : Int) (x2 : Int) (t1 : List api_Trade) (v16 : Int) (v17 : List api_Trade) : Option ((Int × (List api_Trade)) ⊕ (List api_Trade)) :=
  if (decide (v16 < (List.length t1 : Int))) = true then
    if (0 : Int) ≤ v16 ∧ v16 < (List.length t1 : Int) then
    if ((((nth t1 v16).Member) == x1) && ((x2 == 0) || (((nth t1 v16).Side) == x2))) = true then
      if (List.length v17 + List.length [(nth t1 v16)]) * 104 ≤ 140737488355328 then
      some (.inl ((IntKind.wrap .i64 (v16 + 1)), (v17 ++ [(nth t1 v16)])))
      else none
    else
      some (.inl ((IntKind.wrap .i64 (v16 + 1)), v17))
    else none
  else
    some (.inr v17)
noncomputable def trade_Book_Of.r0 (x1 : Int) (x2 : Int) (t1 : List api_Trade) (s : Int × (List api_Trade)) : Option ((Int × (List api_Trade)) ⊕ (List api_Trade)) := trade_Book_Of.b0 x1 x2 t1 s.1 s.2
noncomputable def trade_Book_Of.f (x0 : trade_Book) (x1 : Int) (x2 : Int) : Option (List api_Trade) :=
  (trade_Book_All.f x0).bind fun t1 =>
  (loop (trade_Book_Of.r0 x1 x2 t1) (0, [])).bind fun o31 =>
  some o31
set_option maxRecDepth 100000 in
set_option maxHeartbeats 4000000 in
theorem trade_Book_Of.ok {x0 : trade_Book} {x1 : Int} {x2 : Int} {r : List api_Trade} (h : trade_Book_Of.f x0 x1 x2 = some r) : Pm.Spec prog 26 [.xbox [.xown 26 11 (List.map api_Trade.enc x0.l), .imm (.val (.int .i64 x0.next)), .imm (.val (.bool x0.made))], .imm (.val (.int .i64 x1)), .imm (.val (.int .i64 x2))] (.xown 26 11 (List.map api_Trade.enc r)) [some (.xbox [.xown 26 11 (List.map api_Trade.enc x0.l), .imm (.val (.int .i64 x0.next)), .imm (.val (.bool x0.made))]), none, none] := by
 unfold trade_Book_Of.f at h
 refine Pm.Spec.of_body Try.func26 rfl (by kernel_rfl) (Nat.le_of_ble_eq_true rfl) (Nat.le_of_ble_eq_true rfl) ?_
 refine W.ghost (σ' := (mkSt [(0, some (.ptr 0 0)), (1, some (.i x1)), (2, some (.i x2))] [(0, some (.box [.own 1, .i x0.next, .b x0.made])), (1, some (.rows 26 11 (List.map api_Trade.enc x0.l) false))] 1000)) (Gives.entry (.c rfl (.c rfl (.c rfl .n))) (.c rfl (.c rfl .n))) ?_
 refine W.ghost (σ' := (mkSt [(0, some (.ptr 0 0)), (1, some (.i x1)), (2, some (.i x2))] [(0, some (.box [.own 1000, .i x0.next, .b x0.made])), (1000, some (.rows 26 11 (List.map api_Trade.enc x0.l) false))] 1001)) (Gives.mkR [(1000, 1)] (.r rfl rfl (.r rfl rfl (.r rfl rfl .n))) (.r rfl rfl rfl (.r rfl rfl rfl .n)) rfl rfl rfl) ?_
 refine W.seq ?_
 refine W.pk ?_
 refine .a rfl rfl rfl rfl ?_
 refine .nil ?_
 refine W.seq ?_
 refine W.pk ?_
 refine .a rfl rfl rfl rfl ?_
 refine .nil ?_
 refine W.seq ?_
 refine W.seq ?_
 obtain ⟨t1, b2, h⟩ := bnd1 h
 refine W.pk ?_
 refine .m rfl rfl rfl rfl ?_
 refine .call (.own 1001) [(1001, some (.rows 26 11 (List.map api_Trade.enc t1) false)), (0, some (.box [.own 1002, .i x0.next, .b x0.made])), (1002, some (.rows 26 11 (List.map api_Trade.enc x0.l) false)), (0, none), (1000, none)] 2 (trade_Book_All.ok b2) rfl rfl rfl ca18 rfl rfl (cC (.ptr _ _ _ _ _ rfl (cC (.own _ _ _ _ rfl) (cC (.imm _) (cC (.imm _) .nil)))) .nil) rfl rfl rfl rfl rfl ?_
 refine .v rfl rfl (O.lenO sl35 rfl rfl rfl) ?_
 refine .m rfl rfl rfl rfl ?_
 refine .nil ?_
 refine W.ghost (Gives.mintS 7 26 11 rfl) ?_
 obtain ⟨o31, b32, h⟩ := bnd1 h
 refine W.fork (mkSt [(7, some (.own 1003))] [(0, some (.box [.own 1002, .i x0.next, .b x0.made])), (1002, some (.rows 26 11 (List.map api_Trade.enc x0.l) false)), (1003, some (.rows 26 11 (List.map api_Trade.enc o31) false))] 1004) ?_ ?_
 ·refine W.seq ?_
  refine W.pk ?_
  refine .m rfl rfl rfl rfl ?_
  refine .a rfl rfl rfl rfl ?_
  refine .nil ?_
  refine W.ret ?_
  cases h
  exact leaves (.inr rfl) rfl (.own _ _ _ _ rfl) (cS (.ptr _ _ _ _ _ rfl (cC (.own _ _ _ _ rfl) (cC (.imm _) (cC (.imm _) .nil)))) (cN (cN .nil))) rfl rfl
 ·clear h
  refine W.block ?_
  refine W.loopF (fun (s_ : Int × (List api_Trade)) => mkSt [(1, some (.i x1)), (2, some (.i x2)), (7, some (.own 1003)), (11, some (.own 1001)), (12, some (.i (List.length t1 : Int))), (13, some (.i s_.1))] [(0, some (.box [.own 1002, .i x0.next, .b x0.made])), (1001, some (.rows 26 11 (List.map api_Trade.enc t1) false)), (1002, some (.rows 26 11 (List.map api_Trade.enc x0.l) false)), (1003, some (.rows 26 11 (List.map api_Trade.enc s_.2) false))] 1004) b32 (Gives.mkR [] (.r rfl rfl (.r rfl rfl (.r rfl rfl (.r rfl rfl (.r rfl rfl (.r rfl rfl .n)))))) (.r rfl rfl rfl (.r rfl rfl rfl (.r rfl rfl rfl (.r rfl rfl rfl .n)))) rfl rfl rfl) ?_
  rintro ⟨v16, v17⟩ s_ hr
  have h : trade_Book_Of.b0 x1 x2 t1 v16 v17 = some s_ := hr
  unfold trade_Book_Of.b0 at h
  refine W.seq ?_
  refine W.pk ?_
  refine .v rfl rfl (OpL.binI rfl rfl rfl rfl) ?_
  refine .nil ?_
  refine W.seq ?_
  refine W.cond rfl (fun q34 => ?_) (fun q34 => ?_)
  ·have h := ifT q34 h
   refine W.skip ?_
   refine W.seq ?_
   refine W.block ?_
   refine W.seq ?_
   obtain ⟨c35, h⟩ := chk h
   refine W.pk ?_
   refine .v rfl rfl (O.idxO sl35 c35 rfl rfl rfl rfl) ?_
   refine .v rfl rfl (O.ldEN ty26 c35 rfl rfl rfl rfl rfl) ?_
   refine .t rfl rfl (O.alloc z26 rfl) ?_
   refine .s rfl rfl (O.st ty26 rfl rfl rfl rfl rfl rfl rfl rfl rfl rfl (all' := [.i ((nth t1 v16).ID), .i ((nth t1 v16).Twin), .i ((nth t1 v16).Member), .i ((nth t1 v16).Side), .i ((nth t1 v16).Basket), .i ((nth t1 v16).Amount), .i ((nth t1 v16).Start), .i ((nth t1 v16).End), .imm (.row 2 (List.map api_Reset.enc ((nth t1 v16).Resets))), .i ((nth t1 v16).Stage), .b ((nth t1 v16).Short)]) rfl) ?_
   refine .nil ?_
   refine W.seq ?_
   refine W.fork (mkSt [(1, some (.i x1)), (2, some (.i x2)), (7, some (.own 1003)), (9, some (.ptr 1004 0)), (11, some (.own 1001)), (12, some (.i (List.length t1 : Int))), (13, some (.i v16)), (30, some (.b ((((nth t1 v16).Member) == x1) && ((x2 == 0) || (((nth t1 v16).Side) == x2)))))] [(0, some (.box [.own 1002, .i x0.next, .b x0.made])), (1001, some (.rows 26 11 (List.map api_Trade.enc t1) false)), (1002, some (.rows 26 11 (List.map api_Trade.enc x0.l) false)), (1003, some (.rows 26 11 (List.map api_Trade.enc v17) false)), (1004, some (.box [.i ((nth t1 v16).ID), .i ((nth t1 v16).Twin), .i ((nth t1 v16).Member), .i ((nth t1 v16).Side), .i ((nth t1 v16).Basket), .i ((nth t1 v16).Amount), .i ((nth t1 v16).Start), .i ((nth t1 v16).End), .imm (.row 2 (List.map api_Reset.enc ((nth t1 v16).Resets))), .i ((nth t1 v16).Stage), .b ((nth t1 v16).Short)]))] 1005) ?_ ?_
   ·refine W.cond rfl (fun q38 => ?_) (fun q38 => ?_)
    ·have h := ifT q38 h
     obtain ⟨c39, h⟩ := chk h
     refine W.pk ?_
     refine .m rfl rfl rfl rfl ?_
     refine .v rfl rfl (O.ldN ty26 rfl rfl rfl) ?_
     refine .t rfl rfl (O.lit (enc := api_Trade.enc) (l := [(nth t1 v16)]) sl35 rfl rfl rfl rfl rfl rfl rfl rfl rfl) ?_
     refine .t rfl rfl (O.appO sl35 api_Trade.ok c39 rfl rfl rfl rfl rfl) ?_
     refine .a rfl rfl rfl rfl ?_
     refine .nil ?_
     refine W.pk ?_
     refine .v rfl rfl (OpL.binI rfl rfl rfl rfl) ?_
     refine .m rfl rfl rfl rfl ?_
     refine .nil ?_
     cases h
     exact rdN (Gives.mkR [(1003, 1006)] (.r rfl rfl (.r rfl rfl (.r rfl rfl (.r rfl rfl (.r rfl rfl (.r rfl rfl .n)))))) (.r rfl rfl rfl (.r rfl rfl rfl (.r rfl rfl rfl (.r rfl rfl rfl .n)))) rfl rfl rfl)
    ·have h := ifF q38 h
     refine W.skip ?_
     refine W.pk ?_
     refine .v rfl rfl (OpL.binI rfl rfl rfl rfl) ?_
     refine .m rfl rfl rfl rfl ?_
     refine .nil ?_
     cases h
     exact rdN (Gives.mkR [] (.r rfl rfl (.r rfl rfl (.r rfl rfl (.r rfl rfl (.r rfl rfl (.r rfl rfl .n)))))) (.r rfl rfl rfl (.r rfl rfl rfl (.r rfl rfl rfl (.r rfl rfl rfl .n)))) rfl rfl rfl)
   ·clear h
    rcases tf (((nth t1 v16).Member) == x1) with g36 | g36
    ·rcases tf (x2 == 0) with g37 | g37
     ·refine W.pk ?_
      refine .v rfl rfl (O.fld fld26_2 rfl rfl rfl) ?_
      refine .v rfl rfl (O.ld (y := .i ((nth t1 v16).Member)) ty3 rfl rfl rfl) ?_
      refine .m rfl rfl rfl rfl ?_
      refine .v rfl rfl (OpL.binI rfl rfl rfl rfl) ?_
      refine .m rfl rfl rfl rfl ?_
      refine .m rfl (met rfl rfl rfl g36) rfl rfl ?_
      refine .v rfl (met rfl rfl rfl g36) (OpL.binI rfl rfl rfl rfl) ?_
      refine .m rfl (met rfl rfl rfl g36) rfl rfl ?_
      refine .x rfl (unmet rfl rfl rfl g37) ?_
      refine .x rfl (unmet rfl rfl rfl g37) ?_
      refine .x rfl (unmet rfl rfl rfl g37) ?_
      refine .x rfl (unmet rfl rfl rfl g37) ?_
      refine .v rfl (met rfl rfl rfl g36) (O.pickT g37 rfl rfl rfl) ?_
      refine .v rfl rfl (O.pickT g36 rfl rfl rfl) ?_
      refine .nil ?_
      exact toN (Gives.mkR [] (.r rfl rfl (.r rfl rfl (.r rfl rfl (.r rfl rfl (.r rfl rfl (.r rfl rfl (.r rfl rfl (.c rfl (sbb (by first | (simp only [g36, g37, Bool.true_or, Bool.or_true, Bool.false_or, Bool.or_false, Bool.true_and, Bool.and_true, Bool.false_and, Bool.and_false, Bool.not_true, Bool.not_false, cond_true, cond_false]; done) | (repeat (first | rw [g36] | rw [g37])) <;> simp only [Bool.true_or, Bool.or_true, Bool.false_or, Bool.or_false, Bool.true_and, Bool.and_true, Bool.false_and, Bool.and_false, Bool.not_true, Bool.not_false, cond_true, cond_false])) rfl .n)))))))) (.r rfl rfl rfl (.r rfl rfl rfl (.r rfl rfl rfl (.r rfl rfl rfl (.r rfl rfl rfl .n))))) rfl rfl rfl)
     ·refine W.pk ?_
      refine .v rfl rfl (O.fld fld26_2 rfl rfl rfl) ?_
      refine .v rfl rfl (O.ld (y := .i ((nth t1 v16).Member)) ty3 rfl rfl rfl) ?_
      refine .m rfl rfl rfl rfl ?_
      refine .v rfl rfl (OpL.binI rfl rfl rfl rfl) ?_
      refine .m rfl rfl rfl rfl ?_
      refine .m rfl (met rfl rfl rfl g36) rfl rfl ?_
      refine .v rfl (met rfl rfl rfl g36) (OpL.binI rfl rfl rfl rfl) ?_
      refine .m rfl (met rfl rfl rfl g36) rfl rfl ?_
      refine .v rfl (met rfl rfl rfl g37) (O.fld fld26_3 rfl rfl rfl) ?_
      refine .v rfl (met rfl rfl rfl g37) (O.ld (y := .i ((nth t1 v16).Side)) ty3 rfl rfl rfl) ?_
      refine .m rfl (met rfl rfl rfl g37) rfl rfl ?_
      refine .v rfl (met rfl rfl rfl g37) (OpL.binI rfl rfl rfl rfl) ?_
      refine .v rfl (met rfl rfl rfl g36) (O.pickF g37 rfl rfl rfl) ?_
      refine .v rfl rfl (O.pickT g36 rfl rfl rfl) ?_
      refine .nil ?_
      exact toN (Gives.mkR [] (.r rfl rfl (.r rfl rfl (.r rfl rfl (.r rfl rfl (.r rfl rfl (.r rfl rfl (.r rfl rfl (.c rfl (sbb (by first | (simp only [g36, g37, Bool.true_or, Bool.or_true, Bool.false_or, Bool.or_false, Bool.true_and, Bool.and_true, Bool.false_and, Bool.and_false, Bool.not_true, Bool.not_false, cond_true, cond_false]; done) | (repeat (first | rw [g36] | rw [g37])) <;> simp only [Bool.true_or, Bool.or_true, Bool.false_or, Bool.or_false, Bool.true_and, Bool.and_true, Bool.false_and, Bool.and_false, Bool.not_true, Bool.not_false, cond_true, cond_false])) rfl .n)))))))) (.r rfl rfl rfl (.r rfl rfl rfl (.r rfl rfl rfl (.r rfl rfl rfl (.r rfl rfl rfl .n))))) rfl rfl rfl)
    ·refine W.pk ?_
     refine .v rfl rfl (O.fld fld26_2 rfl rfl rfl) ?_
     refine .v rfl rfl (O.ld (y := .i ((nth t1 v16).Member)) ty3 rfl rfl rfl) ?_
     refine .m rfl rfl rfl rfl ?_
     refine .v rfl rfl (OpL.binI rfl rfl rfl rfl) ?_
     refine .m rfl rfl rfl rfl ?_
     refine .x rfl (unmet rfl rfl rfl g36) ?_
     refine .x rfl (unmet rfl rfl rfl g36) ?_
     refine .x rfl (unmet rfl rfl rfl g36) ?_
     refine .x rfl (unmetU rfl rfl rfl) ?_
     refine .x rfl (unmetU rfl rfl rfl) ?_
     refine .x rfl (unmetU rfl rfl rfl) ?_
     refine .x rfl (unmetU rfl rfl rfl) ?_
     refine .x rfl (unmet rfl rfl rfl g36) ?_
     refine .v rfl rfl (O.pickF g36 rfl rfl rfl) ?_
     refine .nil ?_
     exact toN (Gives.mkR [] (.r rfl rfl (.r rfl rfl (.r rfl rfl (.r rfl rfl (.r rfl rfl (.r rfl rfl (.r rfl rfl (.c rfl (sbb (by simp only [g36, Bool.true_or, Bool.or_true, Bool.false_or, Bool.or_false, Bool.true_and, Bool.and_true, Bool.false_and, Bool.and_false, Bool.not_true, Bool.not_false, cond_true, cond_false])) rfl .n)))))))) (.r rfl rfl rfl (.r rfl rfl rfl (.r rfl rfl rfl (.r rfl rfl rfl (.r rfl rfl rfl .n))))) rfl rfl rfl)
  ·have h := ifF q34 h
   refine W.exit ?_
   cases h
   refine rdX fun e_ => ?_
   subst e_
   repeat with_reducible refine thru ?_
   refine hit ?_
   exact toN (Gives.mkR [] (.r rfl rfl .n) (.r rfl rfl rfl (.r rfl rfl rfl (.r rfl rfl rfl .n))) rfl rfl rfl)

noncomputable def trade_Book_Borrowed.b0 (t1 : List api_Trade) (v6 : Int) (v7 : Int) : Option ((Int × Int) ⊕ Int) :=
  if (decide (v7 < (List.length t1 : Int))) = true then
    if (0 : Int) ≤ v7 ∧ v7 < (List.length t1 : Int) then
    if (decide (((nth t1 v7).Stage) < 4)) = true then
      some (.inl ((IntKind.wrap .i64 (v6 + ((nth t1 v7).Amount))), (IntKind.wrap .i64 (v7 + 1))))
    else
      some (.inl (v6, (IntKind.wrap .i64 (v7 + 1))))
    else none
  else
    some (.inr v6)
noncomputable def trade_Book_Borrowed.r0 (t1 : List api_Trade) (s : Int × Int) : Option ((Int × Int) ⊕ Int) := trade_Book_Borrowed.b0 t1 s.1 s.2
noncomputable def trade_Book_Borrowed.f (x0 : trade_Book) (x1 : Int) : Option (Int) :=
  (trade_Book_Of.f x0 x1 2).bind fun t1 =>
  (loop (trade_Book_Borrowed.r0 t1) (0, 0)).bind fun o15 =>
  some o15
set_option maxRecDepth 100000 in
set_option maxHeartbeats 4000000 in
theorem trade_Book_Borrowed.ok {x0 : trade_Book} {x1 : Int} {r : Int} (h : trade_Book_Borrowed.f x0 x1 = some r) : Pm.Spec prog 28 [.xbox [.xown 26 11 (List.map api_Trade.enc x0.l), .imm (.val (.int .i64 x0.next)), .imm (.val (.bool x0.made))], .imm (.val (.int .i64 x1))] (.imm (.val (.int .i64 r))) [some (.xbox [.xown 26 11 (List.map api_Trade.enc x0.l), .imm (.val (.int .i64 x0.next)), .imm (.val (.bool x0.made))]), none] := by
 unfold trade_Book_Borrowed.f at h
 refine Pm.Spec.of_body Try.func28 rfl (by kernel_rfl) (Nat.le_of_ble_eq_true rfl) (Nat.le_of_ble_eq_true rfl) ?_
 refine W.ghost (σ' := (mkSt [(0, some (.ptr 0 0)), (1, some (.i x1))] [(0, some (.box [.own 1, .i x0.next, .b x0.made])), (1, some (.rows 26 11 (List.map api_Trade.enc x0.l) false))] 1000)) (Gives.entry (.c rfl (.c rfl .n)) (.c rfl (.c rfl .n))) ?_
 refine W.ghost (σ' := (mkSt [(0, some (.ptr 0 0)), (1, some (.i x1))] [(0, some (.box [.own 1000, .i x0.next, .b x0.made])), (1000, some (.rows 26 11 (List.map api_Trade.enc x0.l) false))] 1001)) (Gives.mkR [(1000, 1)] (.r rfl rfl (.r rfl rfl .n)) (.r rfl rfl rfl (.r rfl rfl rfl .n)) rfl rfl rfl) ?_
 refine W.seq ?_
 refine W.pk ?_
 refine .a rfl rfl rfl rfl ?_
 refine .nil ?_
 refine W.seq ?_
 refine W.pk ?_
 refine .a rfl rfl rfl rfl ?_
 refine .nil ?_
 refine W.seq ?_
 refine W.seq ?_
 obtain ⟨t1, b2, h⟩ := bnd1 h
 refine W.pk ?_
 refine .m rfl rfl rfl rfl ?_
 refine .m rfl rfl rfl rfl ?_
 refine .call (.own 1001) [(1001, some (.rows 26 11 (List.map api_Trade.enc t1) false)), (0, some (.box [.own 1002, .i x0.next, .b x0.made])), (1002, some (.rows 26 11 (List.map api_Trade.enc x0.l) false)), (0, none), (1000, none)] 2 (trade_Book_Of.ok b2) rfl rfl rfl ca26 rfl rfl (cC (.ptr _ _ _ _ _ rfl (cC (.own _ _ _ _ rfl) (cC (.imm _) (cC (.imm _) .nil)))) (cC (.imm _) (cC (.imm _) .nil))) rfl rfl rfl rfl rfl ?_
 refine .v rfl rfl (O.lenO sl35 rfl rfl rfl) ?_
 refine .m rfl rfl rfl rfl ?_
 refine .nil ?_
 obtain ⟨o15, b16, h⟩ := bnd1 h
 refine W.fork (mkSt [(5, some (.i o15))] [(0, some (.box [.own 1002, .i x0.next, .b x0.made])), (1002, some (.rows 26 11 (List.map api_Trade.enc x0.l) false))] 1003) ?_ ?_
 ·refine W.seq ?_
  refine W.pk ?_
  refine .m rfl rfl rfl rfl ?_
  refine .a rfl rfl rfl rfl ?_
  refine .nil ?_
  refine W.ret ?_
  cases h
  exact leaves (.inr rfl) rfl (.imm _) (cS (.ptr _ _ _ _ _ rfl (cC (.own _ _ _ _ rfl) (cC (.imm _) (cC (.imm _) .nil)))) (cN .nil)) rfl rfl
 ·clear h
  refine W.block ?_
  refine W.loopF (fun (s_ : Int × Int) => mkSt [(5, some (.i s_.1)), (10, some (.own 1001)), (11, some (.i (List.length t1 : Int))), (12, some (.i s_.2))] [(0, some (.box [.own 1002, .i x0.next, .b x0.made])), (1001, some (.rows 26 11 (List.map api_Trade.enc t1) false)), (1002, some (.rows 26 11 (List.map api_Trade.enc x0.l) false))] 1003) b16 (Gives.mkR [] (.r rfl rfl (.r rfl rfl (.r rfl rfl (.r rfl rfl .n)))) (.r rfl rfl rfl (.r rfl rfl rfl (.r rfl rfl rfl .n))) rfl rfl rfl) ?_
  rintro ⟨v6, v7⟩ s_ hr
  have h : trade_Book_Borrowed.b0 t1 v6 v7 = some s_ := hr
  unfold trade_Book_Borrowed.b0 at h
  refine W.seq ?_
  refine W.pk ?_
  refine .v rfl rfl (OpL.binI rfl rfl rfl rfl) ?_
  refine .nil ?_
  refine W.seq ?_
  refine W.cond rfl (fun q18 => ?_) (fun q18 => ?_)
  ·have h := ifT q18 h
   refine W.skip ?_
   refine W.seq ?_
   refine W.block ?_
   refine W.seq ?_
   obtain ⟨c19, h⟩ := chk h
   refine W.pk ?_
   refine .v rfl rfl (O.idxO sl35 c19 rfl rfl rfl rfl) ?_
   refine .v rfl rfl (O.ldEN ty26 c19 rfl rfl rfl rfl rfl) ?_
   refine .t rfl rfl (O.alloc z26 rfl) ?_
   refine .s rfl rfl (O.st ty26 rfl rfl rfl rfl rfl rfl rfl rfl rfl rfl (all' := [.i ((nth t1 v7).ID), .i ((nth t1 v7).Twin), .i ((nth t1 v7).Member), .i ((nth t1 v7).Side), .i ((nth t1 v7).Basket), .i ((nth t1 v7).Amount), .i ((nth t1 v7).Start), .i ((nth t1 v7).End), .imm (.row 2 (List.map api_Reset.enc ((nth t1 v7).Resets))), .i ((nth t1 v7).Stage), .b ((nth t1 v7).Short)]) rfl) ?_
   refine .nil ?_
   refine W.seq ?_
   refine W.pk ?_
   refine .v rfl rfl (O.fld fld26_9 rfl rfl rfl) ?_
   refine .v rfl rfl (O.ld (y := .i ((nth t1 v7).Stage)) ty3 rfl rfl rfl) ?_
   refine .v rfl rfl (OpL.binI rfl rfl rfl rfl) ?_
   refine .nil ?_
   refine W.cond rfl (fun q20 => ?_) (fun q20 => ?_)
   ·have h := ifT q20 h
    refine W.pk ?_
    refine .m rfl rfl rfl rfl ?_
    refine .v rfl rfl (O.fld fld26_5 rfl rfl rfl) ?_
    refine .v rfl rfl (O.ld (y := .i ((nth t1 v7).Amount)) ty3 rfl rfl rfl) ?_
    refine .v rfl rfl (OpL.binI rfl rfl rfl rfl) ?_
    refine .a rfl rfl rfl rfl ?_
    refine .nil ?_
    refine W.pk ?_
    refine .v rfl rfl (OpL.binI rfl rfl rfl rfl) ?_
    refine .m rfl rfl rfl rfl ?_
    refine .nil ?_
    cases h
    exact rdN (Gives.mkR [] (.r rfl rfl (.r rfl rfl (.r rfl rfl (.r rfl rfl .n)))) (.r rfl rfl rfl (.r rfl rfl rfl (.r rfl rfl rfl .n))) rfl rfl rfl)
   ·have h := ifF q20 h
    refine W.skip ?_
    refine W.pk ?_
    refine .v rfl rfl (OpL.binI rfl rfl rfl rfl) ?_
    refine .m rfl rfl rfl rfl ?_
    refine .nil ?_
    cases h
    exact rdN (Gives.mkR [] (.r rfl rfl (.r rfl rfl (.r rfl rfl (.r rfl rfl .n)))) (.r rfl rfl rfl (.r rfl rfl rfl (.r rfl rfl rfl .n))) rfl rfl rfl)
  ·have h := ifF q18 h
   refine W.exit ?_
   cases h
   refine rdX fun e_ => ?_
   subst e_
   repeat with_reducible refine thru ?_
   refine hit ?_
   exact toN (Gives.mkR [] (.r rfl rfl .n) (.r rfl rfl rfl (.r rfl rfl rfl .n)) rfl rfl rfl)
end Go.Proofs.Ytidinbjehfodoaa
