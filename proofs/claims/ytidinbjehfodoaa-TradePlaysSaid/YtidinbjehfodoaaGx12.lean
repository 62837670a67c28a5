/- Shows what functions of the program come to, each as a plain function: written by a program of the author's for this claim. -/
import Derived.Test.YtidinbjehfodoaaGx11
namespace Go.Proofs.Ytidinbjehfodoaa
open Go Go.Pm
set_option linter.unusedVariables false
set_option linter.unusedSimpArgs false
noncomputable def trade_Book_Of.b0 (x1 : Int) (x2 : Int) (t1 : List api_Trade) (v16 : Int) (v17 : List api_Trade) : Option ((Int × (List api_Trade)) ⊕ (List api_Trade)) :=
  if (decide (v16 < (List.length t1 : Int))) = true then
    if (0 : Int) ≤ v16 ∧ v16 < (List.length t1 : Int) then
    if ((((nth t1 v16).Member) == x1) && ((x2 == 0) || (((nth t1 v16).Side) == x2))) = true then
      if (List.length v17 + List.length [(nth t1 v16)]) * 104 ≤ 140737488355328 then
      some (.inl ((IntKind.wrap .i64 (v16 + 1)), (v17 ++ [(nth t1 v16)])))
      else none
    else
      some (.inl ((IntKind.wrap .i64 (v16 + 1)), v17))
    else none
  else
    some (.inr v17)
noncomputable def trade_Book_Of.r0 (x1 : Int) (x2 : Int) (t1 : List api_Trade) (s : Int × (List api_Trade)) : Option ((Int × (List api_Trade)) ⊕ (List api_Trade)) := trade_Book_Of.b0 x1 x2 t1 s.1 s.2
noncomputable def trade_Book_Of.f (x0 : trade_Book) (x1 : Int) (x2 : Int) : Option (List api_Trade) :=
  (trade_Book_All.f x0).bind fun t1 =>
  (loop (trade_Book_Of.r0 x1 x2 t1) (0, [])).bind fun o31 =>
  some o31
set_option maxRecDepth 100000 in
set_option maxHeartbeats 4000000 in
theorem trade_Book_Of.ok {x0 : trade_Book} {x1 : Int} {x2 : Int} {r : List api_Trade} (h : trade_Book_Of.f x0 x1 x2 = some r) : Pm.Spec prog 26 [.xbox [.xown 26 11 (List.map api_Trade.enc x0.l), .imm (.val (.int .i64 x0.next)), .imm (.val (.bool x0.made))], .imm (.val (.int .i64 x1)), .imm (.val (.int .i64 x2))] (.xown 26 11 (List.map api_Trade.enc r)) [some (.xbox [.xown 26 11 (List.map api_Trade.enc x0.l), .imm (.val (.int .i64 x0.next)), .imm (.val (.bool x0.made))]), none, none] := by
 unfold trade_Book_Of.f at h
 refine Pm.Spec.of_body Try.func26 rfl (by kernel_rfl) (Nat.le_of_ble_eq_true rfl) (Nat.le_of_ble_eq_true rfl) ?_
 refine W.ghost (σ' := (mkSt [(0, some (.ptr 0 0)), (1, some (.i x1)), (2, some (.i x2))] [(0, some (.box [.own 1, .i x0.next, .b x0.made])), (1, some (.rows 26 11 (List.map api_Trade.enc x0.l) false))] 1000)) (Gives.entry (.c rfl (.c rfl (.c rfl .n))) (.c rfl (.c rfl .n))) ?_
 refine W.ghost (σ' := (mkSt [(0, some (.ptr 0 0)), (1, some (.i x1)), (2, some (.i x2))] [(0, some (.box [.own 1000, .i x0.next, .b x0.made])), (1000, some (.rows 26 11 (List.map api_Trade.enc x0.l) false))] 1001)) (Gives.mkR [(1000, 1)] (.r rfl rfl (.r rfl rfl (.r rfl rfl .n))) (.r rfl rfl rfl (.r rfl rfl rfl .n)) rfl rfl rfl) ?_
 refine W.seq ?_
 refine W.pk ?_
 refine .a rfl rfl rfl rfl ?_
 refine .nil ?_
 refine W.seq ?_
 refine W.pk ?_
 refine .a rfl rfl rfl rfl ?_
 refine .nil ?_
 refine W.seq ?_
 refine W.seq ?_
 obtain ⟨t1, b2, h⟩ := bnd1 h
 refine W.pk ?_
 refine .m rfl rfl rfl rfl ?_
 refine .call (.own 1001) [(1001, some (.rows 26 11 (List.map api_Trade.enc t1) false)), (0, some (.box [.own 1002, .i x0.next, .b x0.made])), (1002, some (.rows 26 11 (List.map api_Trade.enc x0.l) false)), (0, none), (1000, none)] 2 (trade_Book_All.ok b2) rfl rfl rfl ca18 rfl rfl (cC (.ptr _ _ _ _ _ rfl (cC (.own _ _ _ _ rfl) (cC (.imm _) (cC (.imm _) .nil)))) .nil) rfl rfl rfl rfl rfl ?_
 refine .v rfl rfl (O.lenO sl35 rfl rfl rfl) ?_
 refine .m rfl rfl rfl rfl ?_
 refine .nil ?_
 refine W.ghost (Gives.mintS 7 26 11 rfl) ?_
 obtain ⟨o31, b32, h⟩ := bnd1 h
 refine W.fork (mkSt [(7, some (.own 1003))] [(0, some (.box [.own 1002, .i x0.next, .b x0.made])), (1002, some (.rows 26 11 (List.map api_Trade.enc x0.l) false)), (1003, some (.rows 26 11 (List.map api_Trade.enc o31) false))] 1004) ?_ ?_
 ·refine W.seq ?_
  refine W.pk ?_
  refine .m rfl rfl rfl rfl ?_
  refine .a rfl rfl rfl rfl ?_
  refine .nil ?_
  refine W.ret ?_
  cases h
  exact leaves (.inr rfl) rfl (.own _ _ _ _ rfl) (cS (.ptr _ _ _ _ _ rfl (cC (.own _ _ _ _ rfl) (cC (.imm _) (cC (.imm _) .nil)))) (cN (cN .nil))) rfl rfl
 ·clear h
  refine W.block ?_
  refine W.loopF (fun (s_ : Int × (List api_Trade)) => mkSt [(1, some (.i x1)), (2, some (.i x2)), (7, some (.own 1003)), (11, some (.own 1001)), (12, some (.i (List.length t1 : Int))), (13, some (.i s_.1))] [(0, some (.box [.own 1002, .i x0.next, .b x0.made])), (1001, some (.rows 26 11 (List.map api_Trade.enc t1) false)), (1002, some (.rows 26 11 (List.map api_Trade.enc x0.l) false)), (1003, some (.rows 26 11 (List.map api_Trade.enc s_.2) false))] 1004) b32 (Gives.mkR [] (.r rfl rfl (.r rfl rfl (.r rfl rfl (.r rfl rfl (.r rfl rfl (.r rfl rfl .n)))))) (.r rfl rfl rfl (.r rfl rfl rfl (.r rfl rfl rfl (.r rfl rfl rfl .n)))) rfl rfl rfl) ?_
  rintro ⟨v16, v17⟩ s_ hr
  have h : trade_Book_Of.b0 x1 x2 t1 v16 v17 = some s_ := hr
  unfold trade_Book_Of.b0 at h
  refine W.seq ?_
  refine W.pk ?_
  refine .v rfl rfl (OpL.binI rfl rfl rfl rfl) ?_
  refine .nil ?_
  refine W.seq ?_
  refine W.cond rfl (fun q34 => ?_) (fun q34 => ?_)
  ·have h := ifT q34 h
   refine W.skip ?_
   refine W.seq ?_
   refine W.block ?_
   refine W.seq ?_
   obtain ⟨c35, h⟩ := chk h
   refine W.pk ?_
   refine .v rfl rfl (O.idxO sl35 c35 rfl rfl rfl rfl) ?_
   refine .v rfl rfl (O.ldEN ty26 c35 rfl rfl rfl rfl rfl) ?_
   refine .t rfl rfl (O.alloc z26 rfl) ?_
   refine .s rfl rfl (O.st ty26 rfl rfl rfl rfl rfl rfl rfl rfl rfl rfl (all' := [.i ((nth t1 v16).ID), .i ((nth t1 v16).Twin), .i ((nth t1 v16).Member), .i ((nth t1 v16).Side), .i ((nth t1 v16).Basket), .i ((nth t1 v16).Amount), .i ((nth t1 v16).Start), .i ((nth t1 v16).End), .imm (.row 2 (List.map api_Reset.enc ((nth t1 v16).Resets))), .i ((nth t1 v16).Stage), .b ((nth t1 v16).Short)]) rfl) ?_
   refine .nil ?_
   refine W.seq ?_
   refine W.fork (mkSt [(1, some (.i x1)), (2, some (.i x2)), (7, some (.own 1003)), (9, some (.ptr 1004 0)), (11, some (.own 1001)), (12, some (.i (List.length t1 : Int))), (13, some (.i v16)), (30, some (.b ((((nth t1 v16).Member) == x1) && ((x2 == 0) || (((nth t1 v16).Side) == x2)))))] [(0, some (.box [.own 1002, .i x0.next, .b x0.made])), (1001, some (.rows 26 11 (List.map api_Trade.enc t1) false)), (1002, some (.rows 26 11 (List.map api_Trade.enc x0.l) false)), (1003, some (.rows 26 11 (List.map api_Trade.enc v17) false)), (1004, some (.box [.i ((nth t1 v16).ID), .i ((nth t1 v16).Twin), .i ((nth t1 v16).Member), .i ((nth t1 v16).Side), .i ((nth t1 v16).Basket), .i ((nth t1 v16).Amount), .i ((nth t1 v16).Start), .i ((nth t1 v16).End), .imm (.row 2 (List.map api_Reset.enc ((nth t1 v16).Resets))), .i ((nth t1 v16).Stage), .b ((nth t1 v16).Short)]))] 1005) ?_ ?_
   ·refine W.cond rfl (fun q38 => ?_) (fun q38 => ?_)
    ·have h := ifT q38 h
     obtain ⟨c39, h⟩ := chk h
     refine W.pk ?_
     refine .m rfl rfl rfl rfl ?_
     refine .v rfl rfl (O.ldN ty26 rfl rfl rfl) ?_
     refine .t rfl rfl (O.lit (enc := api_Trade.enc) (l := [(nth t1 v16)]) sl35 rfl rfl rfl rfl rfl rfl rfl rfl rfl) ?_
     refine .t rfl rfl (O.appO sl35 api_Trade.ok c39 rfl rfl rfl rfl rfl) ?_
     refine .a rfl rfl rfl rfl ?_
     refine .nil ?_
     refine W.pk ?_
     refine .v rfl rfl (OpL.binI rfl rfl rfl rfl) ?_
     refine .m rfl rfl rfl rfl ?_
     refine .nil ?_
     cases h
     exact rdN (Gives.mkR [(1003, 1006)] (.r rfl rfl (.r rfl rfl (.r rfl rfl (.r rfl rfl (.r rfl rfl (.r rfl rfl .n)))))) (.r rfl rfl rfl (.r rfl rfl rfl (.r rfl rfl rfl (.r rfl rfl rfl .n)))) rfl rfl rfl)
    ·have h := ifF q38 h
     refine W.skip ?_
     refine W.pk ?_
     refine .v rfl rfl (OpL.binI rfl rfl rfl rfl) ?_
     refine .m rfl rfl rfl rfl ?_
     refine .nil ?_
     cases h
     exact rdN (Gives.mkR [] (.r rfl rfl (.r rfl rfl (.r rfl rfl (.r rfl rfl (.r rfl rfl (.r rfl rfl .n)))))) (.r rfl rfl rfl (.r rfl rfl rfl (.r rfl rfl rfl (.r rfl rfl rfl .n)))) rfl rfl rfl)
   ·clear h
    rcases tf (((nth t1 v16).Member) == x1) with g36 | g36
    ·rcases tf (x2 == 0) with g37 | g37
     ·refine W.pk ?_
      refine .v rfl rfl (O.fld fld26_2 rfl rfl rfl) ?_
      refine .v rfl rfl (O.ld (y := .i ((nth t1 v16).Member)) ty3 rfl rfl rfl) ?_
      refine .m rfl rfl rfl rfl ?_
      refine .v rfl rfl (OpL.binI rfl rfl rfl rfl) ?_
      refine .m rfl rfl rfl rfl ?_
      refine .m rfl (met rfl rfl rfl g36) rfl rfl ?_
      refine .v rfl (met rfl rfl rfl g36) (OpL.binI rfl rfl rfl rfl) ?_
      refine .m rfl (met rfl rfl rfl g36) rfl rfl ?_
      refine .x rfl (unmet rfl rfl rfl g37) ?_
      refine .x rfl (unmet rfl rfl rfl g37) ?_
      refine .x rfl (unmet rfl rfl rfl g37) ?_
      refine .x rfl (unmet rfl rfl rfl g37) ?_
      refine .v rfl (met rfl rfl rfl g36) (O.pickT g37 rfl rfl rfl) ?_
      refine .v rfl rfl (O.pickT g36 rfl rfl rfl) ?_
      refine .nil ?_
      exact toN (Gives.mkR [] (.r rfl rfl (.r rfl rfl (.r rfl rfl (.r rfl rfl (.r rfl rfl (.r rfl rfl (.r rfl rfl (.c rfl (sbb (by first | (simp only [g36, g37, Bool.true_or, Bool.or_true, Bool.false_or, Bool.or_false, Bool.true_and, Bool.and_true, Bool.false_and, Bool.and_false, Bool.not_true, Bool.not_false, cond_true, cond_false]; done) | (repeat (first | rw [g36] | rw [g37])) <;> simp only [Bool.true_or, Bool.or_true, Bool.false_or, Bool.or_false, Bool.true_and, Bool.and_true, Bool.false_and, Bool.and_false, Bool.not_true, Bool.not_false, cond_true, cond_false])) rfl .n)))))))) (.r rfl rfl rfl (.r rfl rfl rfl (.r rfl rfl rfl (.r rfl rfl rfl (.r rfl rfl rfl .n))))) rfl rfl rfl)
     ·refine W.pk ?_
      refine .v rfl rfl (O.fld fld26_2 rfl rfl rfl) ?_
      refine .v rfl rfl (O.ld (y := .i ((nth t1 v16).Member)) ty3 rfl rfl rfl) ?_
      refine .m rfl rfl rfl rfl ?_
      refine .v rfl rfl (OpL.binI rfl rfl rfl rfl) ?_
      refine .m rfl rfl rfl rfl ?_
      refine .m rfl (met rfl rfl rfl g36) rfl rfl ?_
      refine .v rfl (met rfl rfl rfl g36) (OpL.binI rfl rfl rfl rfl) ?_
      refine .m rfl (met rfl rfl rfl g36) rfl rfl ?_
      refine .v rfl (met rfl rfl rfl g37) (O.fld fld26_3 rfl rfl rfl) ?_
      refine .v rfl (met rfl rfl rfl g37) (O.ld (y := .i ((nth t1 v16).Side)) ty3 rfl rfl rfl) ?_
      refine .m rfl (met rfl rfl rfl g37) rfl rfl ?_
      refine .v rfl (met rfl rfl rfl g37) (OpL.binI rfl rfl rfl rfl) ?_
      refine .v rfl (met rfl rfl rfl g36) (O.pickF g37 rfl rfl rfl) ?_
      refine .v rfl rfl (O.pickT g36 rfl rfl rfl) ?_
      refine .nil ?_
      exact toN (Gives.mkR [] (.r rfl rfl (.r rfl rfl (.r rfl rfl (.r rfl rfl (.r rfl rfl (.r rfl rfl (.r rfl rfl (.c rfl (sbb (by first | (simp only [g36, g37, Bool.true_or, Bool.or_true, Bool.false_or, Bool.or_false, Bool.true_and, Bool.and_true, Bool.false_and, Bool.and_false, Bool.not_true, Bool.not_false, cond_true, cond_false]; done) | (repeat (first | rw [g36] | rw [g37])) <;> simp only [Bool.true_or, Bool.or_true, Bool.false_or, Bool.or_false, Bool.true_and, Bool.and_true, Bool.false_and, Bool.and_false, Bool.not_true, Bool.not_false, cond_true, cond_false])) rfl .n)))))))) (.r rfl rfl rfl (.r rfl rfl rfl (.r rfl rfl rfl (.r rfl rfl rfl (.r rfl rfl rfl .n))))) rfl rfl rfl)
    ·refine W.pk ?_
     refine .v rfl rfl (O.fld fld26_2 rfl rfl rfl) ?_
     refine .v rfl rfl (O.ld (y := .i ((nth t1 v16).Member)) ty3 rfl rfl rfl) ?_
     refine .m rfl rfl rfl rfl ?_
     refine .v rfl rfl (OpL.binI rfl rfl rfl rfl) ?_
     refine .m rfl rfl rfl rfl ?_
     refine .x rfl (unmet rfl rfl rfl g36) ?_
     refine .x rfl (unmet rfl rfl rfl g36) ?_
     refine .x rfl (unmet rfl rfl rfl g36) ?_
     refine .x rfl (unmetU rfl rfl rfl) ?_
     refine .x rfl (unmetU rfl rfl rfl) ?_
     refine .x rfl (unmetU rfl rfl rfl) ?_
     refine .x rfl (unmetU rfl rfl rfl) ?_
     refine .x rfl (unmet rfl rfl rfl g36) ?_
     refine .v rfl rfl (O.pickF g36 rfl rfl rfl) ?_
     refine .nil ?_
     exact toN (Gives.mkR [] (.r rfl rfl (.r rfl rfl (.r rfl rfl (.r rfl rfl (.r rfl rfl (.r rfl rfl (.r rfl rfl (.c rfl (sbb (by simp only [g36, Bool.true_or, Bool.or_true, Bool.false_or, Bool.or_false, Bool.true_and, Bool.and_true, Bool.false_and, Bool.and_false, Bool.not_true, Bool.not_false, cond_true, cond_false])) rfl .n)))))))) (.r rfl rfl rfl (.r rfl rfl rfl (.r rfl rfl rfl (.r rfl rfl rfl (.r rfl rfl rfl .n))))) rfl rfl rfl)
  ·have h := ifF q34 h
   refine W.exit ?_
   cases h
   refine rdX fun e_ => ?_
   subst e_
   repeat with_reducible refine thru ?_
   refine hit ?_
   exact toN (Gives.mkR [] (.r rfl rfl .n) (.r rfl rfl rfl (.r rfl rfl rfl (.r rfl rfl rfl .n))) rfl rfl rfl)

noncomputable def trade_Book_Borrowed.b0 (t1 : List api_Trade) (v6 : Int) (v7 : Int) : Option ((Int × Int) ⊕ Int) :=
  if (decide (v7 < (List.length t1 : Int))) = true then
    if (0 : Int) ≤ v7 ∧ v7 < (List.length t1 : Int) then
    if (decide (((nth t1 v7).Stage) < 4)) = true then
      some (.inl ((IntKind.wrap .i64 (v6 + ((nth t1 v7).Amount))), (IntKind.wrap .i64 (v7 + 1))))
    else
      some (.inl (v6, (IntKind.wrap .i64 (v7 + 1))))
    else none
  else
    some (.inr v6)
noncomputable def trade_Book_Borrowed.r0 (t1 : List api_Trade) (s : Int × Int) : Option ((Int × Int) ⊕ Int) := trade_Book_Borrowed.b0 t1 s.1 s.2
noncomputable def trade_Book_Borrowed.f (x0 : trade_Book) (x1 : Int) : Option (Int) :=
  (trade_Book_Of.f x0 x1 2).bind fun t1 =>
  (loop (trade_Book_Borrowed.r0 t1) (0, 0)).bind fun o15 =>
  some o15
set_option maxRecDepth 100000 in
set_option maxHeartbeats 4000000 in
theorem trade_Book_Borrowed.ok {x0 : trade_Book} {x1 : Int} {r : Int} (h : trade_Book_Borrowed.f x0 x1 = some r) : Pm.Spec prog 28 [.xbox [.xown 26 11 (List.map api_Trade.enc x0.l), .imm (.val (.int .i64 x0.next)), .imm (.val (.bool x0.made))], .imm (.val (.int .i64 x1))] (.imm (.val (.int .i64 r))) [some (.xbox [.xown 26 11 (List.map api_Trade.enc x0.l), .imm (.val (.int .i64 x0.next)), .imm (.val (.bool x0.made))]), none] := by
 unfold trade_Book_Borrowed.f at h
 refine Pm.Spec.of_body Try.func28 rfl (by kernel_rfl) (Nat.le_of_ble_eq_true rfl) (Nat.le_of_ble_eq_true rfl) ?_
 refine W.ghost (σ' := (mkSt [(0, some (.ptr 0 0)), (1, some (.i x1))] [(0, some (.box [.own 1, .i x0.next, .b x0.made])), (1, some (.rows 26 11 (List.map api_Trade.enc x0.l) false))] 1000)) (Gives.entry (.c rfl (.c rfl .n)) (.c rfl (.c rfl .n))) ?_
 refine W.ghost (σ' := (mkSt [(0, some (.ptr 0 0)), (1, some (.i x1))] [(0, some (.box [.own 1000, .i x0.next, .b x0.made])), (1000, some (.rows 26 11 (List.map api_Trade.enc x0.l) false))] 1001)) (Gives.mkR [(1000, 1)] (.r rfl rfl (.r rfl rfl .n)) (.r rfl rfl rfl (.r rfl rfl rfl .n)) rfl rfl rfl) ?_
 refine W.seq ?_
 refine W.pk ?_
 refine .a rfl rfl rfl rfl ?_
 refine .nil ?_
 refine W.seq ?_
 refine W.pk ?_
 refine .a rfl rfl rfl rfl ?_
 refine .nil ?_
 refine W.seq ?_
 refine W.seq ?_
 obtain ⟨t1, b2, h⟩ := bnd1 h
 refine W.pk ?_
 refine .m rfl rfl rfl rfl ?_
 refine .m rfl rfl rfl rfl ?_
 refine .call (.own 1001) [(1001, some (.rows 26 11 (List.map api_Trade.enc t1) false)), (0, some (.box [.own 1002, .i x0.next, .b x0.made])), (1002, some (.rows 26 11 (List.map api_Trade.enc x0.l) false)), (0, none), (1000, none)] 2 (trade_Book_Of.ok b2) rfl rfl rfl ca26 rfl rfl (cC (.ptr _ _ _ _ _ rfl (cC (.own _ _ _ _ rfl) (cC (.imm _) (cC (.imm _) .nil)))) (cC (.imm _) (cC (.imm _) .nil))) rfl rfl rfl rfl rfl ?_
 refine .v rfl rfl (O.lenO sl35 rfl rfl rfl) ?_
 refine .m rfl rfl rfl rfl ?_
 refine .nil ?_
 obtain ⟨o15, b16, h⟩ := bnd1 h
 refine W.fork (mkSt [(5, some (.i o15))] [(0, some (.box [.own 1002, .i x0.next, .b x0.made])), (1002, some (.rows 26 11 (List.map api_Trade.enc x0.l) false))] 1003) ?_ ?_
 ·refine W.seq ?_
  refine W.pk ?_
  refine .m rfl rfl rfl rfl ?_
  refine .a rfl rfl rfl rfl ?_
  refine .nil ?_
  refine W.ret ?_
  cases h
  exact leaves (.inr rfl) rfl (.imm _) (cS (.ptr _ _ _ _ _ rfl (cC (.own _ _ _ _ rfl) (cC (.imm _) (cC (.imm _) .nil)))) (cN .nil)) rfl rfl
 ·clear h
  refine W.block ?_
  refine W.loopF (fun (s_ : Int × Int) => mkSt [(5, some (.i s_.1)), (10, some (.own 1001)), (11, some (.i (List.length t1 : Int))), (12, some (.i s_.2))] [(0, some (.box [.own 1002, .i x0.next, .b x0.made])), (1001, some (.rows 26 11 (List.map api_Trade.enc t1) false)), (1002, some (.rows 26 11 (List.map api_Trade.enc x0.l) false))] 1003) b16 (Gives.mkR [] (.r rfl rfl (.r rfl rfl (.r rfl rfl (.r rfl rfl .n)))) (.r rfl rfl rfl (.r rfl rfl rfl (.r rfl rfl rfl .n))) rfl rfl rfl) ?_
  rintro ⟨v6, v7⟩ s_ hr
  have h : trade_Book_Borrowed.b0 t1 v6 v7 = some s_ := hr
  unfold trade_Book_Borrowed.b0 at h
  refine W.seq ?_
  refine W.pk ?_
  refine .v rfl rfl (OpL.binI rfl rfl rfl rfl) ?_
  refine .nil ?_
  refine W.seq ?_
  refine W.cond rfl (fun q18 => ?_) (fun q18 => ?_)
  ·have h := ifT q18 h
   refine W.skip ?_
   refine W.seq ?_
   refine W.block ?_
   refine W.seq ?_
   obtain ⟨c19, h⟩ := chk h
   refine W.pk ?_
   refine .v rfl rfl (O.idxO sl35 c19 rfl rfl rfl rfl) ?_
   refine .v rfl rfl (O.ldEN ty26 c19 rfl rfl rfl rfl rfl) ?_
   refine .t rfl rfl (O.alloc z26 rfl) ?_
   refine .s rfl rfl (O.st ty26 rfl rfl rfl rfl rfl rfl rfl rfl rfl rfl (all' := [.i ((nth t1 v7).ID), .i ((nth t1 v7).Twin), .i ((nth t1 v7).Member), .i ((nth t1 v7).Side), .i ((nth t1 v7).Basket), .i ((nth t1 v7).Amount), .i ((nth t1 v7).Start), .i ((nth t1 v7).End), .imm (.row 2 (List.map api_Reset.enc ((nth t1 v7).Resets))), .i ((nth t1 v7).Stage), .b ((nth t1 v7).Short)]) rfl) ?_
   refine .nil ?_
   refine W.seq ?_
   refine W.pk ?_
   refine .v rfl rfl (O.fld fld26_9 rfl rfl rfl) ?_
   refine .v rfl rfl (O.ld (y := .i ((nth t1 v7).Stage)) ty3 rfl rfl rfl) ?_
   refine .v rfl rfl (OpL.binI rfl rfl rfl rfl) ?_
   refine .nil ?_
   refine W.cond rfl (fun q20 => ?_) (fun q20 => ?_)
   ·have h := ifT q20 h
    refine W.pk ?_
    refine .m rfl rfl rfl rfl ?_
    refine .v rfl rfl (O.fld fld26_5 rfl rfl rfl) ?_
    refine .v rfl rfl (O.ld (y := .i ((nth t1 v7).Amount)) ty3 rfl rfl rfl) ?_
    refine .v rfl rfl (OpL.binI rfl rfl rfl rfl) ?_
    refine .a rfl rfl rfl rfl ?_
    refine .nil ?_
    refine W.pk ?_
    refine .v rfl rfl (OpL.binI rfl rfl rfl rfl) ?_
    refine .m rfl rfl rfl rfl ?_
    refine .nil ?_
    cases h
    exact rdN (Gives.mkR [] (.r rfl rfl (.r rfl rfl (.r rfl rfl (.r rfl rfl .n)))) (.r rfl rfl rfl (.r rfl rfl rfl (.r rfl rfl rfl .n))) rfl rfl rfl)
   ·have h := ifF q20 h
    refine W.skip ?_
    refine W.pk ?_
    refine .v rfl rfl (OpL.binI rfl rfl rfl rfl) ?_
    refine .m rfl rfl rfl rfl ?_
    refine .nil ?_
    cases h
    exact rdN (Gives.mkR [] (.r rfl rfl (.r rfl rfl (.r rfl rfl (.r rfl rfl .n)))) (.r rfl rfl rfl (.r rfl rfl rfl (.r rfl rfl rfl .n))) rfl rfl rfl)
  ·have h := ifF q18 h
   refine W.exit ?_
   cases h
   refine rdX fun e_ => ?_
   subst e_
   repeat with_reducible refine thru ?_
   refine hit ?_
   exact toN (Gives.mkR [] (.r rfl rfl .n) (.r rfl rfl rfl (.r rfl rfl rfl .n)) rfl rfl rfl)

noncomputable def lombardlaw23_awake.f  : Option (Bool) :=
  (trade_New.f).bind fun t1 =>
  (trade_Book_Novate.f t1 (⟨1, 2, 1, 100, 0, 0, 0⟩ : api_Fill)).bind fun t3 =>
  (trade_Book_Get.f t3.2.2.2 2).bind fun t5 =>
  (if (((((((t3.2.2.1 == 0) && (t3.1 == 1)) && (t3.2.1 == 2)) && t5.2) && (t5.1.Member == 2)) && (t5.1.Side == 2)) && (t5.1.Twin == 1)) = true then trade_Book_Borrowed.f t3.2.2.2 2 else some default).bind fun t7 =>
  some ((((((((t3.2.2.1 == 0) && (t3.1 == 1)) && (t3.2.1 == 2)) && t5.2) && (t5.1.Member == 2)) && (t5.1.Side == 2)) && (t5.1.Twin == 1)) && (t7 == 100))
set_option maxRecDepth 100000 in
set_option maxHeartbeats 4000000 in
theorem lombardlaw23_awake.ok  {r : Bool} (h : lombardlaw23_awake.f  = some r) : Pm.Spec prog 8 [] (.imm (.val (.bool r))) [] := by
 unfold lombardlaw23_awake.f at h
 refine Pm.Spec.of_body Try.func8 rfl (by kernel_rfl) (Nat.le_of_ble_eq_true rfl) (Nat.le_of_ble_eq_true rfl) ?_
 refine W.ghost (σ' := (mkSt [] [] 1000)) (Gives.entry .n .n) ?_
 refine W.seq ?_
 refine W.pk ?_
 refine .a rfl rfl rfl rfl ?_
 refine .nil ?_
 refine W.seq ?_
 obtain ⟨t1, b2, h⟩ := bnd1 h
 refine W.pk ?_
 refine .call (.ptr 1000 0) [(1000, some (.box [.own 1001, .i t1.next, .b t1.made])), (1001, some (.rows 26 11 (List.map api_Trade.enc t1.l) false))] 2 (trade_New.ok b2) rfl rfl rfl ca20 rfl rfl .nil rfl rfl rfl rfl rfl ?_
 refine .a rfl rfl rfl rfl ?_
 refine .nil ?_
 refine W.seq ?_
 obtain ⟨t3, b4, h⟩ := bnd1 h
 refine W.pk ?_
 refine .m rfl rfl rfl rfl ?_
 refine .v rfl rfl (O.build (out := [.i 1, .i 2, .i 1, .i 100, .i 0, .i 0, .i 0]) bl23 rfl rfl rfl rfl (by kernel_rfl)) ?_
 refine .call (.tup [.i t3.1, .i t3.2.1, .i t3.2.2.1]) [(1000, some (.box [.own 1002, .i t3.2.2.2.next, .b t3.2.2.2.made])), (1002, some (.rows 26 11 (List.map api_Trade.enc t3.2.2.2.l) false)), (1000, none), (1001, none)] 1 (trade_Book_Novate.ok b4) rfl rfl rfl ca31 rfl rfl (cC (.ptr _ _ _ _ _ rfl (cC (.own _ _ _ _ rfl) (cC (.imm _) (cC (.imm _) .nil)))) (cC (.agg _ _ _ _ (cC (.imm _) (cC (.imm _) (cC (.imm _) (cC (.imm _) (cC (.imm _) (cC (.imm _) (cC (.imm _) .nil)))))))) .nil)) rfl rfl rfl rfl rfl ?_
 refine .m rfl rfl rfl rfl ?_
 refine .v rfl rfl (OpL.extract rfl rfl rfl) ?_
 refine .v rfl rfl (OpL.extract rfl rfl rfl) ?_
 refine .v rfl rfl (OpL.extract rfl rfl rfl) ?_
 refine .a rfl rfl rfl rfl ?_
 refine .a rfl rfl rfl rfl ?_
 refine .a rfl rfl rfl rfl ?_
 refine .nil ?_
 refine W.seq ?_
 obtain ⟨t5, b6, h⟩ := bnd1 h
 refine W.pk ?_
 refine .m rfl rfl rfl rfl ?_
 refine .call (.tup [.agg (api_Trade.av t5.1), .b t5.2]) [(1000, some (.box [.own 1003, .i t3.2.2.2.next, .b t3.2.2.2.made])), (1003, some (.rows 26 11 (List.map api_Trade.enc t3.2.2.2.l) false)), (1000, none), (1002, none)] 1 (trade_Book_Get.ok b6) rfl rfl rfl ca23 rfl rfl (cC (.ptr _ _ _ _ _ rfl (cC (.own _ _ _ _ rfl) (cC (.imm _) (cC (.imm _) .nil)))) (cC (.imm _) .nil)) rfl rfl rfl rfl rfl ?_
 refine .m rfl rfl rfl rfl ?_
 refine .v rfl rfl (OpL.extract rfl rfl rfl) ?_
 refine .v rfl rfl (OpL.extract rfl rfl rfl) ?_
 refine .t rfl rfl (O.alloc z26 rfl) ?_
 refine .s rfl rfl (O.st ty26 rfl rfl rfl rfl rfl rfl rfl rfl rfl rfl (all' := [.i t5.1.ID, .i t5.1.Twin, .i t5.1.Member, .i t5.1.Side, .i t5.1.Basket, .i t5.1.Amount, .i t5.1.Start, .i t5.1.End, .imm (.row 2 (List.map api_Reset.enc t5.1.Resets)), .i t5.1.Stage, .b t5.1.Short]) rfl) ?_
 refine .a rfl rfl rfl rfl ?_
 refine .nil ?_
 refine W.seq ?_
 obtain ⟨t7, b8, h⟩ := bnd1 h
 refine W.fork (mkSt [(0, some (.b ((((((((t3.2.2.1 == 0) && (t3.1 == 1)) && (t3.2.1 == 2)) && t5.2) && (t5.1.Member == 2)) && (t5.1.Side == 2)) && (t5.1.Twin == 1)) && (t7 == 100))))] [] 1006) ?_ ?_
 ·refine W.ret ?_
  cases h
  exact leaves (.inr rfl) rfl (.imm _) .nil rfl rfl
 ·clear h
  rcases tf (t3.2.2.1 == 0) with g9 | g9
  ·rcases tf (t3.1 == 1) with g10 | g10
   ·rcases tf (t3.2.1 == 2) with g11 | g11
    ·rcases tf t5.2 with g12 | g12
     ·rcases tf (t5.1.Member == 2) with g13 | g13
      ·rcases tf (t5.1.Side == 2) with g14 | g14
       ·rcases tf (t5.1.Twin == 1) with g15 | g15
        ·refine W.pk ?_
         refine .m rfl rfl rfl rfl ?_
         refine .v rfl rfl (OpL.binI rfl rfl rfl rfl) ?_
         refine .m rfl rfl rfl rfl ?_
         refine .m rfl (met rfl rfl rfl g9) rfl rfl ?_
         refine .v rfl (met rfl rfl rfl g9) (OpL.binI rfl rfl rfl rfl) ?_
         refine .v rfl rfl (O.pickT g9 rfl rfl rfl) ?_
         refine .m rfl rfl rfl rfl ?_
         refine .m rfl (met rfl rfl rfl g10) rfl rfl ?_
         refine .v rfl (met rfl rfl rfl g10) (OpL.binI rfl rfl rfl rfl) ?_
         refine .v rfl rfl (O.pickT g10 rfl rfl rfl) ?_
         refine .m rfl rfl rfl rfl ?_
         refine .m rfl (met rfl rfl rfl g11) rfl rfl ?_
         refine .v rfl rfl (O.pickT g11 rfl rfl rfl) ?_
         refine .m rfl rfl rfl rfl ?_
         refine .v rfl (met rfl rfl rfl g12) (O.fld fld26_2 rfl rfl rfl) ?_
         refine .v rfl (met rfl rfl rfl g12) (O.ld (y := .i t5.1.Member) ty3 rfl rfl rfl) ?_
         refine .v rfl (met rfl rfl rfl g12) (OpL.binI rfl rfl rfl rfl) ?_
         refine .v rfl rfl (O.pickT g12 rfl rfl rfl) ?_
         refine .m rfl rfl rfl rfl ?_
         refine .v rfl (met rfl rfl rfl g13) (O.fld fld26_3 rfl rfl rfl) ?_
         refine .v rfl (met rfl rfl rfl g13) (O.ld (y := .i t5.1.Side) ty3 rfl rfl rfl) ?_
         refine .v rfl (met rfl rfl rfl g13) (OpL.binI rfl rfl rfl rfl) ?_
         refine .v rfl rfl (O.pickT g13 rfl rfl rfl) ?_
         refine .m rfl rfl rfl rfl ?_
         refine .v rfl (met rfl rfl rfl g14) (O.fld fld26_1 rfl rfl rfl) ?_
         refine .v rfl (met rfl rfl rfl g14) (O.ld (y := .i t5.1.Twin) ty3 rfl rfl rfl) ?_
         refine .v rfl (met rfl rfl rfl g14) (OpL.binI rfl rfl rfl rfl) ?_
         refine .v rfl rfl (O.pickT g14 rfl rfl rfl) ?_
         refine .m rfl rfl rfl rfl ?_
         refine .m rfl (met rfl rfl rfl g15) rfl rfl ?_
         refine .call (.i t7) [(1000, some (.box [.own 1005, .i t3.2.2.2.next, .b t3.2.2.2.made])), (1005, some (.rows 26 11 (List.map api_Trade.enc t3.2.2.2.l) false)), (1000, none), (1003, none)] 1 (trade_Book_Borrowed.ok ((if_pos (by first | (simp only [g9, g10, g11, g12, g13, g14, g15, Bool.true_or, Bool.or_true, Bool.false_or, Bool.or_false, Bool.true_and, Bool.and_true, Bool.false_and, Bool.and_false, Bool.not_true, Bool.not_false, cond_true, cond_false]; done) | (repeat (first | rw [g9] | rw [g10] | rw [g11] | rw [g12] | rw [g13] | rw [g14] | rw [g15])) <;> simp only [Bool.true_or, Bool.or_true, Bool.false_or, Bool.or_false, Bool.true_and, Bool.and_true, Bool.false_and, Bool.and_false, Bool.not_true, Bool.not_false, cond_true, cond_false])).symm.trans b8)) rfl (met rfl rfl rfl g15) rfl ca28 rfl rfl (cC (.ptr _ _ _ _ _ rfl (cC (.own _ _ _ _ rfl) (cC (.imm _) (cC (.imm _) .nil)))) (cC (.imm _) .nil)) rfl rfl rfl rfl rfl ?_
         refine .v rfl (met rfl rfl rfl g15) (OpL.binI rfl rfl rfl rfl) ?_
         refine .v rfl rfl (O.pickT g15 rfl rfl rfl) ?_
         refine .a rfl rfl rfl rfl ?_
         refine .nil ?_
         exact toN (Gives.mkR [] (.c rfl (sbb (by first | (simp only [g9, g10, g11, g12, g13, g14, g15, Bool.true_or, Bool.or_true, Bool.false_or, Bool.or_false, Bool.true_and, Bool.and_true, Bool.false_and, Bool.and_false, Bool.not_true, Bool.not_false, cond_true, cond_false]; done) | (repeat (first | rw [g9] | rw [g10] | rw [g11] | rw [g12] | rw [g13] | rw [g14] | rw [g15])) <;> simp only [Bool.true_or, Bool.or_true, Bool.false_or, Bool.or_false, Bool.true_and, Bool.and_true, Bool.false_and, Bool.and_false, Bool.not_true, Bool.not_false, cond_true, cond_false])) rfl .n) .n rfl rfl rfl)
        ·refine W.pk ?_
         refine .m rfl rfl rfl rfl ?_
         refine .v rfl rfl (OpL.binI rfl rfl rfl rfl) ?_
         refine .m rfl rfl rfl rfl ?_
         refine .m rfl (met rfl rfl rfl g9) rfl rfl ?_
         refine .v rfl (met rfl rfl rfl g9) (OpL.binI rfl rfl rfl rfl) ?_
         refine .v rfl rfl (O.pickT g9 rfl rfl rfl) ?_
         refine .m rfl rfl rfl rfl ?_
         refine .m rfl (met rfl rfl rfl g10) rfl rfl ?_
         refine .v rfl (met rfl rfl rfl g10) (OpL.binI rfl rfl rfl rfl) ?_
         refine .v rfl rfl (O.pickT g10 rfl rfl rfl) ?_
         refine .m rfl rfl rfl rfl ?_
         refine .m rfl (met rfl rfl rfl g11) rfl rfl ?_
         refine .v rfl rfl (O.pickT g11 rfl rfl rfl) ?_
         refine .m rfl rfl rfl rfl ?_
         refine .v rfl (met rfl rfl rfl g12) (O.fld fld26_2 rfl rfl rfl) ?_
         refine .v rfl (met rfl rfl rfl g12) (O.ld (y := .i t5.1.Member) ty3 rfl rfl rfl) ?_
         refine .v rfl (met rfl rfl rfl g12) (OpL.binI rfl rfl rfl rfl) ?_
         refine .v rfl rfl (O.pickT g12 rfl rfl rfl) ?_
         refine .m rfl rfl rfl rfl ?_
         refine .v rfl (met rfl rfl rfl g13) (O.fld fld26_3 rfl rfl rfl) ?_
         refine .v rfl (met rfl rfl rfl g13) (O.ld (y := .i t5.1.Side) ty3 rfl rfl rfl) ?_
         refine .v rfl (met rfl rfl rfl g13) (OpL.binI rfl rfl rfl rfl) ?_
         refine .v rfl rfl (O.pickT g13 rfl rfl rfl) ?_
         refine .m rfl rfl rfl rfl ?_
         refine .v rfl (met rfl rfl rfl g14) (O.fld fld26_1 rfl rfl rfl) ?_
         refine .v rfl (met rfl rfl rfl g14) (O.ld (y := .i t5.1.Twin) ty3 rfl rfl rfl) ?_
         refine .v rfl (met rfl rfl rfl g14) (OpL.binI rfl rfl rfl rfl) ?_
         refine .v rfl rfl (O.pickT g14 rfl rfl rfl) ?_
         refine .m rfl rfl rfl rfl ?_
         refine .x rfl (unmet rfl rfl rfl g15) ?_
         refine .x rfl (unmet rfl rfl rfl g15) ?_
         refine .x rfl (unmet rfl rfl rfl g15) ?_
         refine .v rfl rfl (O.pickF g15 rfl rfl rfl) ?_
         refine .a rfl rfl rfl rfl ?_
         refine .nil ?_
         exact toN (Gives.mkR [] (.c rfl (sbb (by first | (simp only [g9, g10, g11, g12, g13, g14, g15, Bool.true_or, Bool.or_true, Bool.false_or, Bool.or_false, Bool.true_and, Bool.and_true, Bool.false_and, Bool.and_false, Bool.not_true, Bool.not_false, cond_true, cond_false]; done) | (repeat (first | rw [g9] | rw [g10] | rw [g11] | rw [g12] | rw [g13] | rw [g14] | rw [g15])) <;> simp only [Bool.true_or, Bool.or_true, Bool.false_or, Bool.or_false, Bool.true_and, Bool.and_true, Bool.false_and, Bool.and_false, Bool.not_true, Bool.not_false, cond_true, cond_false])) rfl .n) .n rfl rfl rfl)
       ·refine W.pk ?_
        refine .m rfl rfl rfl rfl ?_
        refine .v rfl rfl (OpL.binI rfl rfl rfl rfl) ?_
        refine .m rfl rfl rfl rfl ?_
        refine .m rfl (met rfl rfl rfl g9) rfl rfl ?_
        refine .v rfl (met rfl rfl rfl g9) (OpL.binI rfl rfl rfl rfl) ?_
        refine .v rfl rfl (O.pickT g9 rfl rfl rfl) ?_
        refine .m rfl rfl rfl rfl ?_
        refine .m rfl (met rfl rfl rfl g10) rfl rfl ?_
        refine .v rfl (met rfl rfl rfl g10) (OpL.binI rfl rfl rfl rfl) ?_
        refine .v rfl rfl (O.pickT g10 rfl rfl rfl) ?_
        refine .m rfl rfl rfl rfl ?_
        refine .m rfl (met rfl rfl rfl g11) rfl rfl ?_
        refine .v rfl rfl (O.pickT g11 rfl rfl rfl) ?_
        refine .m rfl rfl rfl rfl ?_
        refine .v rfl (met rfl rfl rfl g12) (O.fld fld26_2 rfl rfl rfl) ?_
        refine .v rfl (met rfl rfl rfl g12) (O.ld (y := .i t5.1.Member) ty3 rfl rfl rfl) ?_
        refine .v rfl (met rfl rfl rfl g12) (OpL.binI rfl rfl rfl rfl) ?_
        refine .v rfl rfl (O.pickT g12 rfl rfl rfl) ?_
        refine .m rfl rfl rfl rfl ?_
        refine .v rfl (met rfl rfl rfl g13) (O.fld fld26_3 rfl rfl rfl) ?_
        refine .v rfl (met rfl rfl rfl g13) (O.ld (y := .i t5.1.Side) ty3 rfl rfl rfl) ?_
        refine .v rfl (met rfl rfl rfl g13) (OpL.binI rfl rfl rfl rfl) ?_
        refine .v rfl rfl (O.pickT g13 rfl rfl rfl) ?_
        refine .m rfl rfl rfl rfl ?_
        refine .x rfl (unmet rfl rfl rfl g14) ?_
        refine .x rfl (unmet rfl rfl rfl g14) ?_
        refine .x rfl (unmet rfl rfl rfl g14) ?_
        refine .v rfl rfl (O.pickF g14 rfl rfl rfl) ?_
        refine .m rfl rfl rfl rfl ?_
        refine .x rfl (unmet rfl rfl rfl rfl) ?_
        refine .x rfl (unmet rfl rfl rfl rfl) ?_
        refine .x rfl (unmet rfl rfl rfl rfl) ?_
        refine .v rfl rfl (O.pickF rfl rfl rfl rfl) ?_
        refine .a rfl rfl rfl rfl ?_
        refine .nil ?_
        exact toN (Gives.mkR [] (.c rfl (sbb (by first | (simp only [g9, g10, g11, g12, g13, g14, Bool.true_or, Bool.or_true, Bool.false_or, Bool.or_false, Bool.true_and, Bool.and_true, Bool.false_and, Bool.and_false, Bool.not_true, Bool.not_false, cond_true, cond_false]; done) | (repeat (first | rw [g9] | rw [g10] | rw [g11] | rw [g12] | rw [g13] | rw [g14])) <;> simp only [Bool.true_or, Bool.or_true, Bool.false_or, Bool.or_false, Bool.true_and, Bool.and_true, Bool.false_and, Bool.and_false, Bool.not_true, Bool.not_false, cond_true, cond_false])) rfl .n) .n rfl rfl rfl)
      ·refine W.pk ?_
       refine .m rfl rfl rfl rfl ?_
       refine .v rfl rfl (OpL.binI rfl rfl rfl rfl) ?_
       refine .m rfl rfl rfl rfl ?_
       refine .m rfl (met rfl rfl rfl g9) rfl rfl ?_
       refine .v rfl (met rfl rfl rfl g9) (OpL.binI rfl rfl rfl rfl) ?_
       refine .v rfl rfl (O.pickT g9 rfl rfl rfl) ?_
       refine .m rfl rfl rfl rfl ?_
       refine .m rfl (met rfl rfl rfl g10) rfl rfl ?_
       refine .v rfl (met rfl rfl rfl g10) (OpL.binI rfl rfl rfl rfl) ?_
       refine .v rfl rfl (O.pickT g10 rfl rfl rfl) ?_
       refine .m rfl rfl rfl rfl ?_
       refine .m rfl (met rfl rfl rfl g11) rfl rfl ?_
       refine .v rfl rfl (O.pickT g11 rfl rfl rfl) ?_
       refine .m rfl rfl rfl rfl ?_
       refine .v rfl (met rfl rfl rfl g12) (O.fld fld26_2 rfl rfl rfl) ?_
       refine .v rfl (met rfl rfl rfl g12) (O.ld (y := .i t5.1.Member) ty3 rfl rfl rfl) ?_
       refine .v rfl (met rfl rfl rfl g12) (OpL.binI rfl rfl rfl rfl) ?_
       refine .v rfl rfl (O.pickT g12 rfl rfl rfl) ?_
       refine .m rfl rfl rfl rfl ?_
       refine .x rfl (unmet rfl rfl rfl g13) ?_
       refine .x rfl (unmet rfl rfl rfl g13) ?_
       refine .x rfl (unmet rfl rfl rfl g13) ?_
       refine .v rfl rfl (O.pickF g13 rfl rfl rfl) ?_
       refine .m rfl rfl rfl rfl ?_
       refine .x rfl (unmet rfl rfl rfl rfl) ?_
       refine .x rfl (unmet rfl rfl rfl rfl) ?_
       refine .x rfl (unmet rfl rfl rfl rfl) ?_
       refine .v rfl rfl (O.pickF rfl rfl rfl rfl) ?_
       refine .m rfl rfl rfl rfl ?_
       refine .x rfl (unmet rfl rfl rfl rfl) ?_
       refine .x rfl (unmet rfl rfl rfl rfl) ?_
       refine .x rfl (unmet rfl rfl rfl rfl) ?_
       refine .v rfl rfl (O.pickF rfl rfl rfl rfl) ?_
       refine .a rfl rfl rfl rfl ?_
       refine .nil ?_
       exact toN (Gives.mkR [] (.c rfl (sbb (by first | (simp only [g9, g10, g11, g12, g13, Bool.true_or, Bool.or_true, Bool.false_or, Bool.or_false, Bool.true_and, Bool.and_true, Bool.false_and, Bool.and_false, Bool.not_true, Bool.not_false, cond_true, cond_false]; done) | (repeat (first | rw [g9] | rw [g10] | rw [g11] | rw [g12] | rw [g13])) <;> simp only [Bool.true_or, Bool.or_true, Bool.false_or, Bool.or_false, Bool.true_and, Bool.and_true, Bool.false_and, Bool.and_false, Bool.not_true, Bool.not_false, cond_true, cond_false])) rfl .n) .n rfl rfl rfl)
     ·refine W.pk ?_
      refine .m rfl rfl rfl rfl ?_
      refine .v rfl rfl (OpL.binI rfl rfl rfl rfl) ?_
      refine .m rfl rfl rfl rfl ?_
      refine .m rfl (met rfl rfl rfl g9) rfl rfl ?_
      refine .v rfl (met rfl rfl rfl g9) (OpL.binI rfl rfl rfl rfl) ?_
      refine .v rfl rfl (O.pickT g9 rfl rfl rfl) ?_
      refine .m rfl rfl rfl rfl ?_
      refine .m rfl (met rfl rfl rfl g10) rfl rfl ?_
      refine .v rfl (met rfl rfl rfl g10) (OpL.binI rfl rfl rfl rfl) ?_
      refine .v rfl rfl (O.pickT g10 rfl rfl rfl) ?_
      refine .m rfl rfl rfl rfl ?_
      refine .m rfl (met rfl rfl rfl g11) rfl rfl ?_
      refine .v rfl rfl (O.pickT g11 rfl rfl rfl) ?_
      refine .m rfl rfl rfl rfl ?_
      refine .x rfl (unmet rfl rfl rfl g12) ?_
      refine .x rfl (unmet rfl rfl rfl g12) ?_
      refine .x rfl (unmet rfl rfl rfl g12) ?_
      refine .v rfl rfl (O.pickF g12 rfl rfl rfl) ?_
      refine .m rfl rfl rfl rfl ?_
      refine .x rfl (unmet rfl rfl rfl rfl) ?_
      refine .x rfl (unmet rfl rfl rfl rfl) ?_
      refine .x rfl (unmet rfl rfl rfl rfl) ?_
      refine .v rfl rfl (O.pickF rfl rfl rfl rfl) ?_
      refine .m rfl rfl rfl rfl ?_
      refine .x rfl (unmet rfl rfl rfl rfl) ?_
      refine .x rfl (unmet rfl rfl rfl rfl) ?_
      refine .x rfl (unmet rfl rfl rfl rfl) ?_
      refine .v rfl rfl (O.pickF rfl rfl rfl rfl) ?_
      refine .m rfl rfl rfl rfl ?_
      refine .x rfl (unmet rfl rfl rfl rfl) ?_
      refine .x rfl (unmet rfl rfl rfl rfl) ?_
      refine .x rfl (unmet rfl rfl rfl rfl) ?_
      refine .v rfl rfl (O.pickF rfl rfl rfl rfl) ?_
      refine .a rfl rfl rfl rfl ?_
      refine .nil ?_
      exact toN (Gives.mkR [] (.c rfl (sbb (by first | (simp only [g9, g10, g11, g12, Bool.true_or, Bool.or_true, Bool.false_or, Bool.or_false, Bool.true_and, Bool.and_true, Bool.false_and, Bool.and_false, Bool.not_true, Bool.not_false, cond_true, cond_false]; done) | (repeat (first | rw [g9] | rw [g10] | rw [g11] | rw [g12])) <;> simp only [Bool.true_or, Bool.or_true, Bool.false_or, Bool.or_false, Bool.true_and, Bool.and_true, Bool.false_and, Bool.and_false, Bool.not_true, Bool.not_false, cond_true, cond_false])) rfl .n) .n rfl rfl rfl)
    ·refine W.pk ?_
     refine .m rfl rfl rfl rfl ?_
     refine .v rfl rfl (OpL.binI rfl rfl rfl rfl) ?_
     refine .m rfl rfl rfl rfl ?_
     refine .m rfl (met rfl rfl rfl g9) rfl rfl ?_
     refine .v rfl (met rfl rfl rfl g9) (OpL.binI rfl rfl rfl rfl) ?_
     refine .v rfl rfl (O.pickT g9 rfl rfl rfl) ?_
     refine .m rfl rfl rfl rfl ?_
     refine .m rfl (met rfl rfl rfl g10) rfl rfl ?_
     refine .v rfl (met rfl rfl rfl g10) (OpL.binI rfl rfl rfl rfl) ?_
     refine .v rfl rfl (O.pickT g10 rfl rfl rfl) ?_
     refine .m rfl rfl rfl rfl ?_
     refine .x rfl (unmet rfl rfl rfl g11) ?_
     refine .v rfl rfl (O.pickF g11 rfl rfl rfl) ?_
     refine .m rfl rfl rfl rfl ?_
     refine .x rfl (unmet rfl rfl rfl rfl) ?_
     refine .x rfl (unmet rfl rfl rfl rfl) ?_
     refine .x rfl (unmet rfl rfl rfl rfl) ?_
     refine .v rfl rfl (O.pickF rfl rfl rfl rfl) ?_
     refine .m rfl rfl rfl rfl ?_
     refine .x rfl (unmet rfl rfl rfl rfl) ?_
     refine .x rfl (unmet rfl rfl rfl rfl) ?_
     refine .x rfl (unmet rfl rfl rfl rfl) ?_
     refine .v rfl rfl (O.pickF rfl rfl rfl rfl) ?_
     refine .m rfl rfl rfl rfl ?_
     refine .x rfl (unmet rfl rfl rfl rfl) ?_
     refine .x rfl (unmet rfl rfl rfl rfl) ?_
     refine .x rfl (unmet rfl rfl rfl rfl) ?_
     refine .v rfl rfl (O.pickF rfl rfl rfl rfl) ?_
     refine .m rfl rfl rfl rfl ?_
     refine .x rfl (unmet rfl rfl rfl rfl) ?_
     refine .x rfl (unmet rfl rfl rfl rfl) ?_
     refine .x rfl (unmet rfl rfl rfl rfl) ?_
     refine .v rfl rfl (O.pickF rfl rfl rfl rfl) ?_
     refine .a rfl rfl rfl rfl ?_
     refine .nil ?_
     exact toN (Gives.mkR [] (.c rfl (sbb (by first | (simp only [g9, g10, g11, Bool.true_or, Bool.or_true, Bool.false_or, Bool.or_false, Bool.true_and, Bool.and_true, Bool.false_and, Bool.and_false, Bool.not_true, Bool.not_false, cond_true, cond_false]; done) | (repeat (first | rw [g9] | rw [g10] | rw [g11])) <;> simp only [Bool.true_or, Bool.or_true, Bool.false_or, Bool.or_false, Bool.true_and, Bool.and_true, Bool.false_and, Bool.and_false, Bool.not_true, Bool.not_false, cond_true, cond_false])) rfl .n) .n rfl rfl rfl)
   ·refine W.pk ?_
    refine .m rfl rfl rfl rfl ?_
    refine .v rfl rfl (OpL.binI rfl rfl rfl rfl) ?_
    refine .m rfl rfl rfl rfl ?_
    refine .m rfl (met rfl rfl rfl g9) rfl rfl ?_
    refine .v rfl (met rfl rfl rfl g9) (OpL.binI rfl rfl rfl rfl) ?_
    refine .v rfl rfl (O.pickT g9 rfl rfl rfl) ?_
    refine .m rfl rfl rfl rfl ?_
    refine .x rfl (unmet rfl rfl rfl g10) ?_
    refine .x rfl (unmet rfl rfl rfl g10) ?_
    refine .v rfl rfl (O.pickF g10 rfl rfl rfl) ?_
    refine .m rfl rfl rfl rfl ?_
    refine .x rfl (unmet rfl rfl rfl rfl) ?_
    refine .v rfl rfl (O.pickF rfl rfl rfl rfl) ?_
    refine .m rfl rfl rfl rfl ?_
    refine .x rfl (unmet rfl rfl rfl rfl) ?_
    refine .x rfl (unmet rfl rfl rfl rfl) ?_
    refine .x rfl (unmet rfl rfl rfl rfl) ?_
    refine .v rfl rfl (O.pickF rfl rfl rfl rfl) ?_
    refine .m rfl rfl rfl rfl ?_
    refine .x rfl (unmet rfl rfl rfl rfl) ?_
    refine .x rfl (unmet rfl rfl rfl rfl) ?_
    refine .x rfl (unmet rfl rfl rfl rfl) ?_
    refine .v rfl rfl (O.pickF rfl rfl rfl rfl) ?_
    refine .m rfl rfl rfl rfl ?_
    refine .x rfl (unmet rfl rfl rfl rfl) ?_
    refine .x rfl (unmet rfl rfl rfl rfl) ?_
    refine .x rfl (unmet rfl rfl rfl rfl) ?_
    refine .v rfl rfl (O.pickF rfl rfl rfl rfl) ?_
    refine .m rfl rfl rfl rfl ?_
    refine .x rfl (unmet rfl rfl rfl rfl) ?_
    refine .x rfl (unmet rfl rfl rfl rfl) ?_
    refine .x rfl (unmet rfl rfl rfl rfl) ?_
    refine .v rfl rfl (O.pickF rfl rfl rfl rfl) ?_
    refine .a rfl rfl rfl rfl ?_
    refine .nil ?_
    exact toN (Gives.mkR [] (.c rfl (sbb (by first | (simp only [g9, g10, Bool.true_or, Bool.or_true, Bool.false_or, Bool.or_false, Bool.true_and, Bool.and_true, Bool.false_and, Bool.and_false, Bool.not_true, Bool.not_false, cond_true, cond_false]; done) | (repeat (first | rw [g9] | rw [g10])) <;> simp only [Bool.true_or, Bool.or_true, Bool.false_or, Bool.or_false, Bool.true_and, Bool.and_true, Bool.false_and, Bool.and_false, Bool.not_true, Bool.not_false, cond_true, cond_false])) rfl .n) .n rfl rfl rfl)
  ·refine W.pk ?_
   refine .m rfl rfl rfl rfl ?_
   refine .v rfl rfl (OpL.binI rfl rfl rfl rfl) ?_
   refine .m rfl rfl rfl rfl ?_
   refine .x rfl (unmet rfl rfl rfl g9) ?_
   refine .x rfl (unmet rfl rfl rfl g9) ?_
   refine .v rfl rfl (O.pickF g9 rfl rfl rfl) ?_
   refine .m rfl rfl rfl rfl ?_
   refine .x rfl (unmet rfl rfl rfl rfl) ?_
   refine .x rfl (unmet rfl rfl rfl rfl) ?_
   refine .v rfl rfl (O.pickF rfl rfl rfl rfl) ?_
   refine .m rfl rfl rfl rfl ?_
   refine .x rfl (unmet rfl rfl rfl rfl) ?_
   refine .v rfl rfl (O.pickF rfl rfl rfl rfl) ?_
   refine .m rfl rfl rfl rfl ?_
   refine .x rfl (unmet rfl rfl rfl rfl) ?_
   refine .x rfl (unmet rfl rfl rfl rfl) ?_
   refine .x rfl (unmet rfl rfl rfl rfl) ?_
   refine .v rfl rfl (O.pickF rfl rfl rfl rfl) ?_
   refine .m rfl rfl rfl rfl ?_
   refine .x rfl (unmet rfl rfl rfl rfl) ?_
   refine .x rfl (unmet rfl rfl rfl rfl) ?_
   refine .x rfl (unmet rfl rfl rfl rfl) ?_
   refine .v rfl rfl (O.pickF rfl rfl rfl rfl) ?_
   refine .m rfl rfl rfl rfl ?_
   refine .x rfl (unmet rfl rfl rfl rfl) ?_
   refine .x rfl (unmet rfl rfl rfl rfl) ?_
   refine .x rfl (unmet rfl rfl rfl rfl) ?_
   refine .v rfl rfl (O.pickF rfl rfl rfl rfl) ?_
   refine .m rfl rfl rfl rfl ?_
   refine .x rfl (unmet rfl rfl rfl rfl) ?_
   refine .x rfl (unmet rfl rfl rfl rfl) ?_
   refine .x rfl (unmet rfl rfl rfl rfl) ?_
   refine .v rfl rfl (O.pickF rfl rfl rfl rfl) ?_
   refine .a rfl rfl rfl rfl ?_
   refine .nil ?_
   exact toN (Gives.mkR [] (.c rfl (sbb (by simp only [g9, Bool.true_or, Bool.or_true, Bool.false_or, Bool.or_false, Bool.true_and, Bool.and_true, Bool.false_and, Bool.and_false, Bool.not_true, Bool.not_false, cond_true, cond_false])) rfl .n) .n rfl rfl rfl)

noncomputable def lombardlaw23_TradePlays.b0 (x0 : List lombardlaw23_Act) (v14 : Int) (v15 : Int) (v16 : Bool) (v17 : List api_Trade) (v18 : List api_Trade) (v19 : Int) : Option ((Int × Int × Bool × (List api_Trade) × (List api_Trade) × Int) ⊕ (Bool ⊕ Unit)) :=
  if ((decide (v14 < (List.length x0 : Int))) && (decide (v14 < 60))) = true then
    if (0 : Int) ≤ v14 ∧ v14 < (List.length x0 : Int) then
    (lombardlaw23_short.f (⟨(nth x0 v14).Kind, ((nth x0 v14).Fill), ((nth x0 v14).X), ((nth x0 v14).Y), (nth x0 v14).ID⟩ : lombardlaw23_Act)).bind fun t49 =>
    if (t49 = true → (0 : Int) ≤ v14 ∧ v14 < (List.length x0 : Int)) then
    (if t49 = true then lombardlaw23_does.f (⟨v17, v15, v16⟩ : trade_Book) (⟨v18, v19⟩ : lombardref23_Book) (⟨(nth x0 v14).Kind, ((nth x0 v14).Fill), ((nth x0 v14).X), ((nth x0 v14).Y), (nth x0 v14).ID⟩ : lombardlaw23_Act) else some (default, (⟨v17, v15, v16⟩ : trade_Book), (⟨v18, v19⟩ : lombardref23_Book))).bind fun t52 =>
    if (t49 && (!t52.1)) = true then
      some (.inr (.inl false))
    else
      some (.inl ((IntKind.wrap .i64 (v14 + 1)), t52.2.1.next, t52.2.1.made, t52.2.1.l, t52.2.2.L, t52.2.2.Next))
    else none
    else none
  else
    some (.inr (.inr ()))
noncomputable def lombardlaw23_TradePlays.r0 (x0 : List lombardlaw23_Act) (s : Int × Int × Bool × (List api_Trade) × (List api_Trade) × Int) : Option ((Int × Int × Bool × (List api_Trade) × (List api_Trade) × Int) ⊕ (Bool ⊕ Unit)) := lombardlaw23_TradePlays.b0 x0 s.1 s.2.1 s.2.2.1 s.2.2.2.1 s.2.2.2.2.1 s.2.2.2.2.2
noncomputable def lombardlaw23_TradePlays.f (x0 : List lombardlaw23_Act) : Option (Bool) :=
  (trade_New.f).bind fun t1 =>
  (loop (lombardlaw23_TradePlays.r0 x0) (0, t1.next, t1.made, t1.l, [], 0)).bind fun o43 =>
  match o43 with
  | .inl r57 => some r57
  | .inr w42 =>
    (lombardlaw23_awake.f).bind fun t58 =>
    some t58
set_option maxRecDepth 100000 in
set_option maxHeartbeats 4000000 in
theorem lombardlaw23_TradePlays.ok {x0 : List lombardlaw23_Act} {r : Bool} (h : lombardlaw23_TradePlays.f x0 = some r) : Pm.Spec prog 5 [.imm (.row 31 (List.map lombardlaw23_Act.enc x0))] (.imm (.val (.bool r))) [none] := by
 unfold lombardlaw23_TradePlays.f at h
 refine Pm.Spec.of_body Try.func5 rfl (by kernel_rfl) (Nat.le_of_ble_eq_true rfl) (Nat.le_of_ble_eq_true rfl) ?_
 refine W.ghost (σ' := (mkSt [(0, some (.imm (.row 31 (List.map lombardlaw23_Act.enc x0))))] [] 1000)) (Gives.entry (.c rfl .n) .n) ?_
 refine W.seq ?_
 refine W.pk ?_
 refine .a rfl rfl rfl rfl ?_
 refine .nil ?_
 refine W.seq ?_
 obtain ⟨t1, b2, h⟩ := bnd1 h
 refine W.pk ?_
 refine .call (.ptr 1000 0) [(1000, some (.box [.own 1001, .i t1.next, .b t1.made])), (1001, some (.rows 26 11 (List.map api_Trade.enc t1.l) false))] 2 (trade_New.ok b2) rfl rfl rfl ca20 rfl rfl .nil rfl rfl rfl rfl rfl ?_
 refine .a rfl rfl rfl rfl ?_
 refine .nil ?_
 refine W.seq ?_
 refine W.pk ?_
 refine .t rfl rfl (O.alloc z47 rfl) ?_
 refine .nil ?_
 refine W.seq ?_
 refine W.seq ?_
 refine W.pk ?_
 refine .a rfl rfl rfl rfl ?_
 refine .nil ?_
 obtain ⟨o43, b44, z45⟩ := bnd1 h
 refine W.fork2 (out := o43) (fun (w42 : Unit) => mkSt [] [] 1003) ?_ ?_
 ·clear h
  refine W.block ?_
  refine W.loopF (fun (s_ : Int × Int × Bool × (List api_Trade) × (List api_Trade) × Int) => mkSt [(0, some (.imm (.row 31 (List.map lombardlaw23_Act.enc x0)))), (3, some (.ptr 1000 0)), (4, some (.ptr 1002 0)), (5, some (.i s_.1))] [(1000, some (.box [.own 1001, .i s_.2.1, .b s_.2.2.1])), (1001, some (.rows 26 11 (List.map api_Trade.enc s_.2.2.2.1) false)), (1002, some (.box [.imm (.row 11 (List.map api_Trade.enc s_.2.2.2.2.1)), .i s_.2.2.2.2.2]))] 1003) b44 (Gives.mkR [] (.r rfl rfl (.r rfl rfl (.r rfl rfl (.r rfl rfl .n)))) (.r rfl rfl rfl (.r rfl rfl rfl (.c rfl (.box (.cons (.nil _) (.cons (.rfl _) .nil))) rfl rfl .n))) rfl rfl rfl) ?_
  rintro ⟨v14, v15, v16, v17, v18, v19⟩ s_ hr
  have h : lombardlaw23_TradePlays.b0 x0 v14 v15 v16 v17 v18 v19 = some s_ := hr
  unfold lombardlaw23_TradePlays.b0 at h
  refine W.seq ?_
  refine W.seq ?_
  refine W.fork (mkSt [(0, some (.imm (.row 31 (List.map lombardlaw23_Act.enc x0)))), (3, some (.ptr 1000 0)), (4, some (.ptr 1002 0)), (5, some (.i v14)), (14, some (.b ((decide (v14 < (List.length x0 : Int))) && (decide (v14 < 60)))))] [(1000, some (.box [.own 1001, .i v15, .b v16])), (1001, some (.rows 26 11 (List.map api_Trade.enc v17) false)), (1002, some (.box [.imm (.row 11 (List.map api_Trade.enc v18)), .i v19]))] 1003) ?_ ?_
  ·refine W.cond rfl (fun q47 => ?_) (fun q47 => ?_)
   ·have h := ifT q47 h
    refine W.skip ?_
    refine W.seq ?_
    refine W.block ?_
    refine W.seq ?_
    obtain ⟨c48, h⟩ := chk h
    obtain ⟨t49, b50, h⟩ := bnd1 h
    obtain ⟨c51, h⟩ := chk h
    obtain ⟨t52, b53, h⟩ := bnd1 h
    refine W.fork (mkSt [(0, some (.imm (.row 31 (List.map lombardlaw23_Act.enc x0)))), (3, some (.ptr 1000 0)), (4, some (.ptr 1002 0)), (5, some (.i v14)), (30, some (.b (t49 && (!t52.1))))] [(1000, some (.box [.own 1003, .i t52.2.1.next, .b t52.2.1.made])), (1002, some (.box [.imm (.row 11 (List.map api_Trade.enc t52.2.2.L)), .i t52.2.2.Next])), (1003, some (.rows 26 11 (List.map api_Trade.enc t52.2.1.l) false))] 1004) ?_ ?_
    ·refine W.cond rfl (fun q55 => ?_) (fun q55 => ?_)
     ·have h := ifT q55 h
      refine W.seq ?_
      refine W.pk ?_
      refine .a rfl rfl rfl rfl ?_
      refine .nil ?_
      refine W.ret ?_
      cases h
      refine rdR fun e_ => ?_
      subst e_
      have h := z45
      dsimp only at h
      refine fkR ?_
      cases h
      exact leaves (.inr rfl) rfl (.imm _) (cN .nil) rfl rfl
     ·have h := ifF q55 h
      refine W.skip ?_
      refine W.pk ?_
      refine .m rfl rfl rfl rfl ?_
      refine .v rfl rfl (OpL.binI rfl rfl rfl rfl) ?_
      refine .a rfl rfl rfl rfl ?_
      refine .nil ?_
      cases h
      exact rdN (Gives.mkR [(1001, 1003)] (.r rfl rfl (.r rfl rfl (.r rfl rfl (.r rfl rfl .n)))) (.r rfl rfl rfl (.r rfl rfl rfl (.r rfl rfl rfl .n))) rfl rfl rfl)
    ·clear h
     rcases tf t49 with g54 | g54
     ·refine W.pk ?_
      refine .m rfl rfl rfl rfl ?_
      refine .m rfl rfl rfl rfl ?_
      refine .v rfl rfl (O.idx sl44 c48 rfl rfl rfl) ?_
      refine .v rfl rfl (O.ldN ty50 rfl rfl rfl) ?_
      refine .call (.b t49) [] 0 (lombardlaw23_short.ok b50) rfl rfl rfl ca21 rfl rfl (cC (.agg _ _ _ _ (cC (.imm _) (cC (.imm _) (cC (.imm _) (cC (.imm _) (cC (.imm _) (cC (.imm _) (cC (.imm _) (cC (.imm _) (cC (.imm _) (cC (.imm _) (cC (.imm _) (cC (.imm _) (cC (.imm _) (cC (.imm _) (cC (.imm _) (cC (.imm _) (cC (.imm _) (cC (.imm _) (cC (.imm _) (cC (.imm _) (cC (.imm _) (cC (.imm _) (cC (.imm _) (cC (.imm _) (cC (.imm _) (cC (.imm _) (cC (.imm _) (cC (.imm _) (cC (.imm _) (cC (.imm _) (cC (.imm _) .nil)))))))))))))))))))))))))))))))) .nil) rfl rfl rfl rfl rfl ?_
      refine .m rfl rfl rfl rfl ?_
      refine .m rfl (met rfl rfl rfl g54) rfl rfl ?_
      refine .m rfl (met rfl rfl rfl g54) rfl rfl ?_
      refine .m rfl (met rfl rfl rfl g54) rfl rfl ?_
      refine .v rfl (met rfl rfl rfl g54) (O.idx sl44 (c51 (by simp only [g54, Bool.true_or, Bool.or_true, Bool.false_or, Bool.or_false, Bool.true_and, Bool.and_true, Bool.false_and, Bool.and_false, Bool.not_true, Bool.not_false, cond_true, cond_false])) rfl rfl rfl) ?_
      refine .v rfl (met rfl rfl rfl g54) (O.ldN ty50 rfl rfl rfl) ?_
      refine .call (.b t52.1) [(1000, some (.box [.own 1003, .i t52.2.1.next, .b t52.2.1.made])), (1003, some (.rows 26 11 (List.map api_Trade.enc t52.2.1.l) false)), (1002, some (.box [.imm (.row 11 (List.map api_Trade.enc t52.2.2.L)), .i t52.2.2.Next])), (1000, none), (1001, none), (1002, none)] 1 (lombardlaw23_does_v2.ok ((if_pos (by simp only [g54, Bool.true_or, Bool.or_true, Bool.false_or, Bool.or_false, Bool.true_and, Bool.and_true, Bool.false_and, Bool.and_false, Bool.not_true, Bool.not_false, cond_true, cond_false])).symm.trans b53)) rfl (met rfl rfl rfl g54) rfl ca22 rfl rfl (cC (.ptr _ _ _ _ _ rfl (cC (.own _ _ _ _ rfl) (cC (.imm _) (cC (.imm _) .nil)))) (cC (.ptr _ _ _ _ _ rfl (cC (.imm _) (cC (.imm _) .nil))) (cC (.agg _ _ _ _ (cC (.imm _) (cC (.imm _) (cC (.imm _) (cC (.imm _) (cC (.imm _) (cC (.imm _) (cC (.imm _) (cC (.imm _) (cC (.imm _) (cC (.imm _) (cC (.imm _) (cC (.imm _) (cC (.imm _) (cC (.imm _) (cC (.imm _) (cC (.imm _) (cC (.imm _) (cC (.imm _) (cC (.imm _) (cC (.imm _) (cC (.imm _) (cC (.imm _) (cC (.imm _) (cC (.imm _) (cC (.imm _) (cC (.imm _) (cC (.imm _) (cC (.imm _) (cC (.imm _) (cC (.imm _) (cC (.imm _) .nil)))))))))))))))))))))))))))))))) .nil))) rfl rfl rfl rfl rfl ?_
      refine .v rfl (met rfl rfl rfl g54) (OpL.unV rfl rfl rfl) ?_
      refine .v rfl rfl (O.pickT g54 rfl rfl rfl) ?_
      refine .nil ?_
      exact toN (Gives.mkR [] (.r rfl rfl (.r rfl rfl (.r rfl rfl (.r rfl rfl (.c rfl (sbb (by simp only [g54, Bool.true_or, Bool.or_true, Bool.false_or, Bool.or_false, Bool.true_and, Bool.and_true, Bool.false_and, Bool.and_false, Bool.not_true, Bool.not_false, cond_true, cond_false])) rfl .n))))) (.r rfl rfl rfl (.r rfl rfl rfl (.r rfl rfl rfl .n))) rfl rfl rfl)
     ·refine W.pk ?_
      refine .m rfl rfl rfl rfl ?_
      refine .m rfl rfl rfl rfl ?_
      refine .v rfl rfl (O.idx sl44 c48 rfl rfl rfl) ?_
      refine .v rfl rfl (O.ldN ty50 rfl rfl rfl) ?_
      refine .call (.b t49) [] 0 (lombardlaw23_short.ok b50) rfl rfl rfl ca21 rfl rfl (cC (.agg _ _ _ _ (cC (.imm _) (cC (.imm _) (cC (.imm _) (cC (.imm _) (cC (.imm _) (cC (.imm _) (cC (.imm _) (cC (.imm _) (cC (.imm _) (cC (.imm _) (cC (.imm _) (cC (.imm _) (cC (.imm _) (cC (.imm _) (cC (.imm _) (cC (.imm _) (cC (.imm _) (cC (.imm _) (cC (.imm _) (cC (.imm _) (cC (.imm _) (cC (.imm _) (cC (.imm _) (cC (.imm _) (cC (.imm _) (cC (.imm _) (cC (.imm _) (cC (.imm _) (cC (.imm _) (cC (.imm _) (cC (.imm _) .nil)))))))))))))))))))))))))))))))) .nil) rfl rfl rfl rfl rfl ?_
      refine .m rfl rfl rfl rfl ?_
      refine .x rfl (unmet rfl rfl rfl g54) ?_
      refine .x rfl (unmet rfl rfl rfl g54) ?_
      refine .x rfl (unmet rfl rfl rfl g54) ?_
      refine .x rfl (unmet rfl rfl rfl g54) ?_
      refine .x rfl (unmet rfl rfl rfl g54) ?_
      refine .x rfl (unmet rfl rfl rfl g54) ?_
      refine .x rfl (unmet rfl rfl rfl g54) ?_
      refine .v rfl rfl (O.pickF g54 rfl rfl rfl) ?_
      refine .nil ?_
      have e56 : t52 = (default, (⟨v17, v15, v16⟩ : trade_Book), (⟨v18, v19⟩ : lombardref23_Book)) := (Option.some.inj ((if_neg (by simp only [g54, Bool.true_or, Bool.or_true, Bool.false_or, Bool.or_false, Bool.true_and, Bool.and_true, Bool.false_and, Bool.and_false, Bool.not_true, Bool.not_false, cond_true, cond_false, Bool.true_eq_false, Bool.false_eq_true, false_and, and_false, true_and, and_true, not_false_eq_true])).symm.trans b53)).symm
      exact toN (Gives.mkR [(1003, 1001)] (.r rfl rfl (.r rfl rfl (.r rfl rfl (.r rfl rfl (.c rfl (sbb (by first | (simp only [g54, e56, Bool.true_or, Bool.or_true, Bool.false_or, Bool.or_false, Bool.true_and, Bool.and_true, Bool.false_and, Bool.and_false, Bool.not_true, Bool.not_false, cond_true, cond_false]; done) | (repeat (first | rw [g54] | rw [e56])) <;> simp only [Bool.true_or, Bool.or_true, Bool.false_or, Bool.or_false, Bool.true_and, Bool.and_true, Bool.false_and, Bool.and_false, Bool.not_true, Bool.not_false, cond_true, cond_false])) rfl .n))))) (.c rfl (.box (.cons (.rfl _) (.cons (sii (by first | (simp only [g54, e56, Bool.true_or, Bool.or_true, Bool.false_or, Bool.or_false, Bool.true_and, Bool.and_true, Bool.false_and, Bool.and_false, Bool.not_true, Bool.not_false, cond_true, cond_false]; done) | (repeat (first | rw [g54] | rw [e56])) <;> simp only [Bool.true_or, Bool.or_true, Bool.false_or, Bool.or_false, Bool.true_and, Bool.and_true, Bool.false_and, Bool.and_false, Bool.not_true, Bool.not_false, cond_true, cond_false])) (.cons (sbb (by first | (simp only [g54, e56, Bool.true_or, Bool.or_true, Bool.false_or, Bool.or_false, Bool.true_and, Bool.and_true, Bool.false_and, Bool.and_false, Bool.not_true, Bool.not_false, cond_true, cond_false]; done) | (repeat (first | rw [g54] | rw [e56])) <;> simp only [Bool.true_or, Bool.or_true, Bool.false_or, Bool.or_false, Bool.true_and, Bool.and_true, Bool.false_and, Bool.and_false, Bool.not_true, Bool.not_false, cond_true, cond_false])) .nil)))) rfl rfl (.c rfl (.box (.cons (srr (by first | (simp only [g54, e56, Bool.true_or, Bool.or_true, Bool.false_or, Bool.or_false, Bool.true_and, Bool.and_true, Bool.false_and, Bool.and_false, Bool.not_true, Bool.not_false, cond_true, cond_false]; done) | (repeat (first | rw [g54] | rw [e56])) <;> simp only [Bool.true_or, Bool.or_true, Bool.false_or, Bool.or_false, Bool.true_and, Bool.and_true, Bool.false_and, Bool.and_false, Bool.not_true, Bool.not_false, cond_true, cond_false])) (.cons (sii (by first | (simp only [g54, e56, Bool.true_or, Bool.or_true, Bool.false_or, Bool.or_false, Bool.true_and, Bool.and_true, Bool.false_and, Bool.and_false, Bool.not_true, Bool.not_false, cond_true, cond_false]; done) | (repeat (first | rw [g54] | rw [e56])) <;> simp only [Bool.true_or, Bool.or_true, Bool.false_or, Bool.or_false, Bool.true_and, Bool.and_true, Bool.false_and, Bool.and_false, Bool.not_true, Bool.not_false, cond_true, cond_false])) .nil))) rfl rfl (.c rfl (kro (by first | (simp only [g54, e56, Bool.true_or, Bool.or_true, Bool.false_or, Bool.or_false, Bool.true_and, Bool.and_true, Bool.false_and, Bool.and_false, Bool.not_true, Bool.not_false, cond_true, cond_false]; done) | (repeat (first | rw [g54] | rw [e56])) <;> simp only [Bool.true_or, Bool.or_true, Bool.false_or, Bool.or_false, Bool.true_and, Bool.and_true, Bool.false_and, Bool.and_false, Bool.not_true, Bool.not_false, cond_true, cond_false])) rfl rfl .n))) rfl rfl rfl)
   ·have h := ifF q47 h
    refine W.exit ?_
    cases h
    refine rdX fun e_ => ?_
    subst e_
    repeat with_reducible refine thru ?_
    refine hit ?_
    exact fkN (Gives.mkR [] .n .n rfl rfl rfl)
  ·clear h
   rcases tf (decide (v14 < (List.length x0 : Int))) with g46 | g46
   ·refine W.pk ?_
    refine .m rfl rfl rfl rfl ?_
    refine .m rfl rfl rfl rfl ?_
    refine .v rfl rfl (O.lenR sl44 rfl rfl) ?_
    refine .v rfl rfl (OpL.binI rfl rfl rfl rfl) ?_
    refine .m rfl rfl rfl rfl ?_
    refine .m rfl (met rfl rfl rfl g46) rfl rfl ?_
    refine .v rfl (met rfl rfl rfl g46) (OpL.binI rfl rfl rfl rfl) ?_
    refine .v rfl rfl (O.pickT g46 rfl rfl rfl) ?_
    refine .nil ?_
    exact toN (Gives.mkR [] (.r rfl rfl (.r rfl rfl (.r rfl rfl (.r rfl rfl (.c rfl (sbb (by simp only [g46, Bool.true_or, Bool.or_true, Bool.false_or, Bool.or_false, Bool.true_and, Bool.and_true, Bool.false_and, Bool.and_false, Bool.not_true, Bool.not_false, cond_true, cond_false])) rfl .n))))) (.r rfl rfl rfl (.r rfl rfl rfl (.r rfl rfl rfl .n))) rfl rfl rfl)
   ·refine W.pk ?_
    refine .m rfl rfl rfl rfl ?_
    refine .m rfl rfl rfl rfl ?_
    refine .v rfl rfl (O.lenR sl44 rfl rfl) ?_
    refine .v rfl rfl (OpL.binI rfl rfl rfl rfl) ?_
    refine .m rfl rfl rfl rfl ?_
    refine .x rfl (unmet rfl rfl rfl g46) ?_
    refine .x rfl (unmet rfl rfl rfl g46) ?_
    refine .v rfl rfl (O.pickF g46 rfl rfl rfl) ?_
    refine .nil ?_
    exact toN (Gives.mkR [] (.r rfl rfl (.r rfl rfl (.r rfl rfl (.r rfl rfl (.c rfl (sbb (by simp only [g46, Bool.true_or, Bool.or_true, Bool.false_or, Bool.or_false, Bool.true_and, Bool.and_true, Bool.false_and, Bool.and_false, Bool.not_true, Bool.not_false, cond_true, cond_false])) rfl .n))))) (.r rfl rfl rfl (.r rfl rfl rfl (.r rfl rfl rfl .n))) rfl rfl rfl)
 ·intro w42 e_
  subst e_
  clear h
  have h := z45
  dsimp only at h
  refine W.seq ?_
  obtain ⟨t58, b59, h⟩ := bnd1 h
  refine W.pk ?_
  refine .call (.b t58) [] 0 (lombardlaw23_awake.ok b59) rfl rfl rfl ca8 rfl rfl .nil rfl rfl rfl rfl rfl ?_
  refine .a rfl rfl rfl rfl ?_
  refine .nil ?_
  refine W.ret ?_
  cases h
  exact leaves (.inr rfl) rfl (.imm _) (cN .nil) rfl rfl
end Go.Proofs.Ytidinbjehfodoaa
