/- Shows what functions of the program come to, each as a plain function: written by a program of the author's for this claim. -/
import Derived.Test.YtidinbjehfodoaaGx11
namespace Go.Proofs.Ytidinbjehfodoaa
open Go Go.Pm
set_option linter.unusedVariables false
set_option linter.unusedSimpArgs false
noncomputable def trade_Book_Of.b0 (x1 : Int) (x2 : Int) (t1 : List api_Trade) (v16 : Int) (v17 : List api_Trade) : Option ((Int × (List api_Trade)) ⊕ (List api_Trade)) :=
  if (decide (v16 < (List.length t1 : Int))) = true then
    if (0 : Int) ≤ v16 ∧ v16 < (List.length t1 : Int) then
    if ((((nth t1 v16).Member) == x1) && ((x2 == 0) || (((nth t1 v16).Side) == x2))) = true then
      if (List.length v17 + List.length [(nth t1 v16)]) * 104 ≤ 140737488355328 then
      some (.inl ((IntKind.wrap .i64 (v16 + 1)), (v17 ++ [(nth t1 v16)])))
      else none
    else
      some (.inl ((IntKind.wrap .i64 (v16 + 1)), v17))
    else none
  else
    some (.inr v17)
noncomputable def trade_Book_Of.r0 (x1 : Int) (x2 : Int) (t1 : List api_Trade) (s : Int × (List api_Trade)) : Option ((Int × (List api_Trade)) ⊕ (List api_Trade)) := trade_Book_Of.b0 x1 x2 t1 s.1 s.2
noncomputable def trade_Book_Of.f (x0 : trade_Book) (x1 : Int) (x2 : Int) : Option (List api_Trade) :=
  (trade_Book_All.f x0).bind fun t1 =>
  (loop (trade_Book_Of.r0 x1 x2 t1) (0, [])).bind fun o31 =>
  some o31
set_option maxRecDepth 100000 in
set_option maxHeartbeats 4000000 in
theorem trade_Book_Of.ok {x0 : trade_Book} {x1 : Int} {x2 : Int} {r : List api_Trade} (h : trade_Book_Of.f x0 x1 x2 = some r) : Pm.Spec prog 26 [.xbox [.xown 26 11 (List.map api_Trade.enc x0.l), .imm (.val (.int .i64 x0.next)), .imm (.val (.bool x0.made))], .imm (.val (.int .i64 x1)), .imm (.val (.int .i64 x2))] (.xown 26 11 (List.map api_Trade.enc r)) [some (.xbox [.xown 26 11 (List.map api_Trade.enc x0.l), .imm (.val (.int .i64 x0.next)), .imm (.val (.bool x0.made))]), none, none] := by
 unfold trade_Book_Of.f at h
 refine Pm.Spec.of_body Try.func26 rfl (by kernel_rfl) (Nat.le_of_ble_eq_true rfl) (Nat.le_of_ble_eq_true rfl) ?_
 refine W.ghost (σ' := (mkSt [(0, some (.ptr 0 0)), (1, some (.i x1)), (2, some (.i x2))] [(0, some (.box [.own 1, .i x0.next, .b x0.made])), (1, some (.rows 26 11 (List.map api_Trade.enc x0.l) false))] 1000)) (Gives.entry (.c rfl (.c rfl (.c rfl .n))) (.c rfl (.c rfl .n))) ?_
 refine W.ghost (σ' := (mkSt [(0, some (.ptr 0 0)), (1, some (.i x1)), (2, some (.i x2))] [(0, some (.box [.own 1000, .i x0.next, .b x0.made])), (1000, some (.rows 26 11 (List.map api_Trade.enc x0.l) false))] 1001)) (Gives.mkR [(1000, 1)] (.r rfl rfl (.r rfl rfl (.r rfl rfl .n))) (.r rfl rfl rfl (.r rfl rfl rfl .n)) rfl rfl rfl) ?_
 refine W.seq ?_
 refine W.pk ?_
 refine .a rfl rfl rfl rfl ?_
 refine .nil ?_
 refine W.seq ?_
 refine W.pk ?_
 refine .a rfl rfl rfl rfl ?_
 refine .nil ?_
 refine W.seq ?_
 refine W.seq ?_
 obtain ⟨t1, b2, h⟩ := bnd1 h
 refine W.pk ?_
 refine .m rfl rfl rfl rfl ?_
 refine .call (.own 1001) [(1001, some (.rows 26 11 (List.map api_Trade.enc t1) false)), (0, some (.box [.own 1002, .i x0.next, .b x0.made])), (1002, some (.rows 26 11 (List.map api_Trade.enc x0.l) false)), (0, none), (1000, none)] 2 (trade_Book_All.ok b2) rfl rfl rfl ca18 rfl rfl (cC (.ptr _ _ _ _ _ rfl (cC (.own _ _ _ _ rfl) (cC (.imm _) (cC (.imm _) .nil)))) .nil) rfl rfl rfl rfl rfl ?_
 refine .v rfl rfl (O.lenO sl35 rfl rfl rfl) ?_
 refine .m rfl rfl rfl rfl ?_
 refine .nil ?_
 refine W.ghost (Gives.mintS 7 26 11 rfl) ?_
 obtain ⟨o31, b32, h⟩ := bnd1 h
 refine W.fork (mkSt [(7, some (.own 1003))] [(0, some (.box [.own 1002, .i x0.next, .b x0.made])), (1002, some (.rows 26 11 (List.map api_Trade.enc x0.l) false)), (1003, some (.rows 26 11 (List.map api_Trade.enc o31) false))] 1004) ?_ ?_
 ·refine W.seq ?_
  refine W.pk ?_
  refine .m rfl rfl rfl rfl ?_
  refine .a rfl rfl rfl rfl ?_
  refine .nil ?_
  refine W.ret ?_
  cases h
  exact leaves (.inr rfl) rfl (.own _ _ _ _ rfl) (cS (.ptr _ _ _ _ _ rfl (cC (.own _ _ _ _ rfl) (cC (.imm _) (cC (.imm _) .nil)))) (cN (cN .nil))) rfl rfl
 ·clear h
  refine W.block ?_
  refine W.loopF (fun (s_ : Int × (List api_Trade)) => mkSt [(1, some (.i x1)), (2, some (.i x2)), (7, some (.own 1003)), (11, some (.own 1001)), (12, some (.i (List.length t1 : Int))), (13, some (.i s_.1))] [(0, some (.box [.own 1002, .i x0.next, .b x0.made])), (1001, some (.rows 26 11 (List.map api_Trade.enc t1) false)), (1002, some (.rows 26 11 (List.map api_Trade.enc x0.l) false)), (1003, some (.rows 26 11 (List.map api_Trade.enc s_.2) false))] 1004) b32 (Gives.mkR [] (.r rfl rfl (.r rfl rfl (.r rfl rfl (.r rfl rfl (.r rfl rfl (.r rfl rfl .n)))))) (.r rfl rfl rfl (.r rfl rfl rfl (.r rfl rfl rfl (.r rfl rfl rfl .n)))) rfl rfl rfl) ?_
  rintro ⟨v16, v17⟩ s_ hr
  have h : trade_Book_Of.b0 x1 x2 t1 v16 v17 = some s_ := hr
  unfold trade_Book_Of.b0 at h
  refine W.seq ?_
  refine W.pk ?_
  refine .v rfl rfl (OpL.binI rfl rfl rfl rfl) ?_
  refine .nil ?_
  refine W.seq ?_
  refine W.cond rfl (fun q34 => ?_) (fun q34 => ?_)
  ·have h := ifT q34 h
   refine W.skip ?_
   refine W.seq ?_
   refine W.block ?_
   refine W.seq ?_
   obtain ⟨c35, h⟩ := chk h
   refine W.pk ?_
   refine .v rfl rfl (O.idxO sl35 c35 rfl rfl rfl rfl) ?_
   refine .v rfl rfl (O.ldEN ty26 c35 rfl rfl rfl rfl rfl) ?_
   refine .t rfl rfl (O.alloc z26 rfl) ?_
   refine .s rfl rfl (O.st ty26 rfl rfl rfl rfl rfl rfl rfl rfl rfl rfl (all' := [.i ((nth t1 v16).ID), .i ((nth t1 v16).Twin), .i ((nth t1 v16).Member), .i ((nth t1 v16).Side), .i ((nth t1 v16).Basket), .i ((nth t1 v16).Amount), .i ((nth t1 v16).Start), .i ((nth t1 v16).End), .imm (.row 2 (List.map api_Reset.enc ((nth t1 v16).Resets))), .i ((nth t1 v16).Stage), .b ((nth t1 v16).Short)]) rfl) ?_
   refine .nil ?_
   refine W.seq ?_
   refine W.fork (mkSt [(1, some (.i x1)), (2, some (.i x2)), (7, some (.own 1003)), (9, some (.ptr 1004 0)), (11, some (.own 1001)), (12, some (.i (List.length t1 : Int))), (13, some (.i v16)), (30, some (.b ((((nth t1 v16).Member) == x1) && ((x2 == 0) || (((nth t1 v16).Side) == x2)))))] [(0, some (.box [.own 1002, .i x0.next, .b x0.made])), (1001, some (.rows 26 11 (List.map api_Trade.enc t1) false)), (1002, some (.rows 26 11 (List.map api_Trade.enc x0.l) false)), (1003, some (.rows 26 11 (List.map api_Trade.enc v17) false)), (1004, some (.box [.i ((nth t1 v16).ID), .i ((nth t1 v16).Twin), .i ((nth t1 v16).Member), .i ((nth t1 v16).Side), .i ((nth t1 v16).Basket), .i ((nth t1 v16).Amount), .i ((nth t1 v16).Start), .i ((nth t1 v16).End), .imm (.row 2 (List.map api_Reset.enc ((nth t1 v16).Resets))), .i ((nth t1 v16).Stage), .b ((nth t1 v16).Short)]))] 1005) ?_ ?_
   ·refine W.cond rfl (fun q38 => ?_) (fun q38 => ?_)
    ·have h := ifT q38 h
     obtain ⟨c39, h⟩ := chk h
     refine W.pk ?_
     refine .m rfl rfl rfl rfl ?_
     refine .v rfl rfl (O.ldN ty26 rfl rfl rfl) ?_
     refine .t rfl rfl (O.lit (enc := api_Trade.enc) (l := [(nth t1 v16)]) sl35 rfl rfl rfl rfl rfl rfl rfl rfl rfl) ?_
     refine .t rfl rfl (O.appO sl35 api_Trade.ok c39 rfl rfl rfl rfl rfl) ?_
     refine .a rfl rfl rfl rfl ?_
     refine .nil ?_
     refine W.pk ?_
     refine .v rfl rfl (OpL.binI rfl rfl rfl rfl) ?_
     refine .m rfl rfl rfl rfl ?_
     refine .nil ?_
     cases h
     exact rdN (Gives.mkR [(1003, 1006)] (.r rfl rfl (.r rfl rfl (.r rfl rfl (.r rfl rfl (.r rfl rfl (.r rfl rfl .n)))))) (.r rfl rfl rfl (.r rfl rfl rfl (.r rfl rfl rfl (.r rfl rfl rfl .n)))) rfl rfl rfl)
    ·have h := ifF q38 h
     refine W.skip ?_
     refine W.pk ?_
     refine .v rfl rfl (OpL.binI rfl rfl rfl rfl) ?_
     refine .m rfl rfl rfl rfl ?_
     refine .nil ?_
     cases h
     exact rdN (Gives.mkR [] (.r rfl rfl (.r rfl rfl (.r rfl rfl (.r rfl rfl (.r rfl rfl (.r rfl rfl .n)))))) (.r rfl rfl rfl (.r rfl rfl rfl (.r rfl rfl rfl (.r rfl rfl rfl .n)))) rfl rfl rfl)
   ·clear h
    rcases tf (((nth t1 v16).Member) == x1) with g36 | g36
    ·rcases tf (x2 == 0) with g37 | g37
     ·refine W.pk ?_
      refine .v rfl rfl (O.fld fld26_2 rfl rfl rfl) ?_
      refine .v rfl rfl (O.ld (y := .i ((nth t1 v16).Member)) ty3 rfl rfl rfl) ?_
      refine .m rfl rfl rfl rfl ?_
      refine .v rfl rfl (OpL.binI rfl rfl rfl rfl) ?_
      refine .m rfl rfl rfl rfl ?_
      refine .m rfl (met rfl rfl rfl g36) rfl rfl ?_
      refine .v rfl (met rfl rfl rfl g36) (OpL.binI rfl rfl rfl rfl) ?_
      refine .m rfl (met rfl rfl rfl g36) rfl rfl ?_
      refine .x rfl (unmet rfl rfl rfl g37) ?_
      refine .x rfl (unmet rfl rfl rfl g37) ?_
      refine .x rfl (unmet rfl rfl rfl g37) ?_
      refine .x rfl (unmet rfl rfl rfl g37) ?_
      refine .v rfl (met rfl rfl rfl g36) (O.pickT g37 rfl rfl rfl) ?_
      refine .v rfl rfl (O.pickT g36 rfl rfl rfl) ?_
      refine .nil ?_
      exact toN (Gives.mkR [] (.r rfl rfl (.r rfl rfl (.r rfl rfl (.r rfl rfl (.r rfl rfl (.r rfl rfl (.r rfl rfl (.c rfl (sbb (by first | (simp only [g36, g37, Bool.true_or, Bool.or_true, Bool.false_or, Bool.or_false, Bool.true_and, Bool.and_true, Bool.false_and, Bool.and_false, Bool.not_true, Bool.not_false, cond_true, cond_false]; done) | (repeat (first | rw [g36] | rw [g37])) <;> simp only [Bool.true_or, Bool.or_true, Bool.false_or, Bool.or_false, Bool.true_and, Bool.and_true, Bool.false_and, Bool.and_false, Bool.not_true, Bool.not_false, cond_true, cond_false])) rfl .n)))))))) (.r rfl rfl rfl (.r rfl rfl rfl (.r rfl rfl rfl (.r rfl rfl rfl (.r rfl rfl rfl .n))))) rfl rfl rfl)
     ·refine W.pk ?_
      refine .v rfl rfl (O.fld fld26_2 rfl rfl rfl) ?_
      refine .v rfl rfl (O.ld (y := .i ((nth t1 v16).Member)) ty3 rfl rfl rfl) ?_
      refine .m rfl rfl rfl rfl ?_
      refine .v rfl rfl (OpL.binI rfl rfl rfl rfl) ?_
      refine .m rfl rfl rfl rfl ?_
      refine .m rfl (met rfl rfl rfl g36) rfl rfl ?_
      refine .v rfl (met rfl rfl rfl g36) (OpL.binI rfl rfl rfl rfl) ?_
      refine .m rfl (met rfl rfl rfl g36) rfl rfl ?_
      refine .v rfl (met rfl rfl rfl g37) (O.fld fld26_3 rfl rfl rfl) ?_
      refine .v rfl (met rfl rfl rfl g37) (O.ld (y := .i ((nth t1 v16).Side)) ty3 rfl rfl rfl) ?_
      refine .m rfl (met rfl rfl rfl g37) rfl rfl ?_
      refine .v rfl (met rfl rfl rfl g37) (OpL.binI rfl rfl rfl rfl) ?_
      refine .v rfl (met rfl rfl rfl g36) (O.pickF g37 rfl rfl rfl) ?_
      refine .v rfl rfl (O.pickT g36 rfl rfl rfl) ?_
      refine .nil ?_
      exact toN (Gives.mkR [] (.r rfl rfl (.r rfl rfl (.r rfl rfl (.r rfl rfl (.r rfl rfl (.r rfl rfl (.r rfl rfl (.c rfl (sbb (by first | (simp only [g36, g37, Bool.true_or, Bool.or_true, Bool.false_or, Bool.or_false, Bool.true_and, Bool.and_true, Bool.false_and, Bool.and_false, Bool.not_true, Bool.not_false, cond_true, cond_false]; done) | (repeat (first | rw [g36] | rw [g37])) <;> simp only [Bool.true_or, Bool.or_true, Bool.false_or, Bool.or_false, Bool.true_and, Bool.and_true, Bool.false_and, Bool.and_false, Bool.not_true, Bool.not_false, cond_true, cond_false])) rfl .n)))))))) (.r rfl rfl rfl (.r rfl rfl rfl (.r rfl rfl rfl (.r rfl rfl rfl (.r rfl rfl rfl .n))))) rfl rfl rfl)
    ·refine W.pk ?_
     refine .v rfl rfl (O.fld fld26_2 rfl rfl rfl) ?_
     refine .v rfl rfl (O.ld (y := .i ((nth t1 v16).Member)) ty3 rfl rfl rfl) ?_
     refine .m rfl rfl rfl rfl ?_
     refine .v rfl rfl (OpL.binI rfl rfl rfl rfl) ?_
     refine .m rfl rfl rfl rfl ?_
     refine .x rfl (unmet rfl rfl rfl g36) ?_
     refine .x rfl (unmet rfl rfl rfl g36) ?_
     refine .x rfl (unmet rfl rfl rfl g36) ?_
     refine .x rfl (unmetU rfl rfl rfl) ?_
     refine .x rfl (unmetU rfl rfl rfl) ?_
     refine .x rfl (unmetU rfl rfl rfl) ?_
     refine .x rfl (unmetU rfl rfl rfl) ?_
     refine .x rfl (unmet rfl rfl rfl g36) ?_
     refine .v rfl rfl (O.pickF g36 rfl rfl rfl) ?_
     refine .nil ?_
     exact toN (Gives.mkR [] (.r rfl rfl (.r rfl rfl (.r rfl rfl (.r rfl rfl (.r rfl rfl (.r rfl rfl (.r rfl rfl (.c rfl (sbb (by simp only [g36, Bool.true_or, Bool.or_true, Bool.false_or, Bool.or_false, Bool.true_and, Bool.and_true, Bool.false_and, Bool.and_false, Bool.not_true, Bool.not_false, cond_true, cond_false])) rfl .n)))))))) (.r rfl rfl rfl (.r rfl rfl rfl (.r rfl rfl rfl (.r rfl rfl rfl (.r rfl rfl rfl .n))))) rfl rfl rfl)
  ·have h := ifF q34 h
   refine W.exit ?_
   cases h
   refine rdX fun e_ => ?_
   subst e_
   repeat with_reducible refine thru ?_
   refine hit ?_
   exact toN (Gives.mkR [] (.r rfl rfl .n) (.r rfl rfl rfl (.r rfl rfl rfl (.r rfl rfl rfl .n))) rfl rfl rfl)

noncomputable def lombardref23_Book_Of.b0 (x0 : lombardref23_Book) (x1 : Int) (x2 : Int) (v18 : Int) (v19 : List api_Trade) : Option ((Int × (List api_Trade)) ⊕ (List api_Trade)) :=
  if (decide (v18 < (List.length x0.L : Int))) = true then
    if (0 : Int) ≤ v18 ∧ v18 < (List.length x0.L : Int) then
    if ((((nth x0.L v18).Member) == x1) = true ∧ (x2 == 0) = false → (0 : Int) ≤ v18 ∧ v18 < (List.length x0.L : Int)) then
    if ((((nth x0.L v18).Member) == x1) && ((x2 == 0) || (x2 == ((nth x0.L v18).Side)))) = true then
      if (0 : Int) ≤ v18 ∧ v18 < (List.length x0.L : Int) then
      if (List.length v19 + List.length [(nth x0.L v18)]) * 104 ≤ 140737488355328 then
      some (.inl ((IntKind.wrap .i64 (v18 + 1)), (v19 ++ [(nth x0.L v18)])))
      else none
      else none
    else
      some (.inl ((IntKind.wrap .i64 (v18 + 1)), v19))
    else none
    else none
  else
    some (.inr v19)
noncomputable def lombardref23_Book_Of.r0 (x0 : lombardref23_Book) (x1 : Int) (x2 : Int) (s : Int × (List api_Trade)) : Option ((Int × (List api_Trade)) ⊕ (List api_Trade)) := lombardref23_Book_Of.b0 x0 x1 x2 s.1 s.2
noncomputable def lombardref23_Book_Of.f (x0 : lombardref23_Book) (x1 : Int) (x2 : Int) : Option (List api_Trade) :=
  (loop (lombardref23_Book_Of.r0 x0 x1 x2) (0, [])).bind fun o37 =>
  some o37
set_option maxRecDepth 100000 in
set_option maxHeartbeats 4000000 in
theorem lombardref23_Book_Of.ok {x0 : lombardref23_Book} {x1 : Int} {x2 : Int} {r : List api_Trade} (h : lombardref23_Book_Of.f x0 x1 x2 = some r) : Pm.Spec prog 27 [.agg [.imm (.row 11 (List.map api_Trade.enc x0.L)), .imm (.val (.int .i64 x0.Next))], .imm (.val (.int .i64 x1)), .imm (.val (.int .i64 x2))] (.xown 26 11 (List.map api_Trade.enc r)) [none, none, none] := by
 unfold lombardref23_Book_Of.f at h
 refine Pm.Spec.of_body Try.func27 rfl (by kernel_rfl) (Nat.le_of_ble_eq_true rfl) (Nat.le_of_ble_eq_true rfl) ?_
 refine W.ghost (σ' := (mkSt [(0, some (.agg [.imm (.row 11 (List.map api_Trade.enc x0.L)), .i x0.Next])), (1, some (.i x1)), (2, some (.i x2))] [] 1000)) (Gives.entry (.c rfl (.c rfl (.c rfl .n))) .n) ?_
 refine W.seq ?_
 refine W.pk ?_
 refine .t rfl rfl (O.box rfl rfl rfl rfl rfl) ?_
 refine .a rfl rfl rfl rfl ?_
 refine .nil ?_
 refine W.seq ?_
 refine W.pk ?_
 refine .a rfl rfl rfl rfl ?_
 refine .nil ?_
 refine W.seq ?_
 refine W.seq ?_
 refine W.pk ?_
 refine .a rfl rfl rfl rfl ?_
 refine .nil ?_
 refine W.ghost (Gives.mintS 7 26 11 rfl) ?_
 obtain ⟨o37, b38, h⟩ := bnd1 h
 refine W.fork (mkSt [(7, some (.own 1001))] [(1001, some (.rows 26 11 (List.map api_Trade.enc o37) false))] 1002) ?_ ?_
 ·refine W.seq ?_
  refine W.pk ?_
  refine .m rfl rfl rfl rfl ?_
  refine .a rfl rfl rfl rfl ?_
  refine .nil ?_
  refine W.ret ?_
  cases h
  exact leaves (.inr rfl) rfl (.own _ _ _ _ rfl) (cN (cN (cN .nil))) rfl rfl
 ·clear h
  refine W.block ?_
  refine W.loopF (fun (s_ : Int × (List api_Trade)) => mkSt [(1, some (.i x1)), (2, some (.i x2)), (3, some (.ptr 1000 0)), (7, some (.own 1001)), (8, some (.i s_.1))] [(1000, some (.box [.imm (.row 11 (List.map api_Trade.enc x0.L)), .i x0.Next])), (1001, some (.rows 26 11 (List.map api_Trade.enc s_.2) false))] 1002) b38 (Gives.mkR [] (.r rfl rfl (.r rfl rfl (.r rfl rfl (.r rfl rfl (.r rfl rfl .n))))) (.r rfl rfl rfl (.r rfl rfl rfl .n)) rfl rfl rfl) ?_
  rintro ⟨v18, v19⟩ s_ hr
  have h : lombardref23_Book_Of.b0 x0 x1 x2 v18 v19 = some s_ := hr
  unfold lombardref23_Book_Of.b0 at h
  refine W.seq ?_
  refine W.seq ?_
  refine W.pk ?_
  refine .m rfl rfl rfl rfl ?_
  refine .v rfl rfl (O.fld fld47_0 rfl rfl rfl) ?_
  refine .v rfl rfl (O.ld (y := .imm (.row 11 (List.map api_Trade.enc x0.L))) ty35 rfl rfl rfl) ?_
  refine .v rfl rfl (O.lenR sl35 rfl rfl) ?_
  refine .v rfl rfl (OpL.binI rfl rfl rfl rfl) ?_
  refine .nil ?_
  refine W.cond rfl (fun q40 => ?_) (fun q40 => ?_)
  ·have h := ifT q40 h
   refine W.skip ?_
   refine W.seq ?_
   refine W.block ?_
   refine W.seq ?_
   obtain ⟨c41, h⟩ := chk h
   obtain ⟨c42, h⟩ := chk h
   refine W.fork (mkSt [(1, some (.i x1)), (2, some (.i x2)), (3, some (.ptr 1000 0)), (7, some (.own 1001)), (8, some (.i v18)), (37, some (.b ((((nth x0.L v18).Member) == x1) && ((x2 == 0) || (x2 == ((nth x0.L v18).Side))))))] [(1000, some (.box [.imm (.row 11 (List.map api_Trade.enc x0.L)), .i x0.Next])), (1001, some (.rows 26 11 (List.map api_Trade.enc v19) false))] 1002) ?_ ?_
   ·refine W.cond rfl (fun q45 => ?_) (fun q45 => ?_)
    ·have h := ifT q45 h
     obtain ⟨c46, h⟩ := chk h
     obtain ⟨c47, h⟩ := chk h
     refine W.pk ?_
     refine .m rfl rfl rfl rfl ?_
     refine .v rfl rfl (O.fld fld47_0 rfl rfl rfl) ?_
     refine .v rfl rfl (O.ld (y := .imm (.row 11 (List.map api_Trade.enc x0.L))) ty35 rfl rfl rfl) ?_
     refine .m rfl rfl rfl rfl ?_
     refine .v rfl rfl (O.idx sl35 c46 rfl rfl rfl) ?_
     refine .v rfl rfl (O.ldN ty26 rfl rfl rfl) ?_
     refine .t rfl rfl (O.lit (enc := api_Trade.enc) (l := [(nth x0.L v18)]) sl35 rfl rfl rfl rfl rfl rfl rfl rfl rfl) ?_
     refine .t rfl rfl (O.appO sl35 api_Trade.ok c47 rfl rfl rfl rfl rfl) ?_
     refine .a rfl rfl rfl rfl ?_
     refine .nil ?_
     refine W.pk ?_
     refine .m rfl rfl rfl rfl ?_
     refine .v rfl rfl (OpL.binI rfl rfl rfl rfl) ?_
     refine .a rfl rfl rfl rfl ?_
     refine .nil ?_
     cases h
     exact rdN (Gives.mkR [(1001, 1003)] (.r rfl rfl (.r rfl rfl (.r rfl rfl (.r rfl rfl (.r rfl rfl .n))))) (.r rfl rfl rfl (.r rfl rfl rfl .n)) rfl rfl rfl)
    ·have h := ifF q45 h
     refine W.skip ?_
     refine W.pk ?_
     refine .m rfl rfl rfl rfl ?_
     refine .v rfl rfl (OpL.binI rfl rfl rfl rfl) ?_
     refine .a rfl rfl rfl rfl ?_
     refine .nil ?_
     cases h
     exact rdN (Gives.mkR [] (.r rfl rfl (.r rfl rfl (.r rfl rfl (.r rfl rfl (.r rfl rfl .n))))) (.r rfl rfl rfl (.r rfl rfl rfl .n)) rfl rfl rfl)
   ·clear h
    rcases tf (((nth x0.L v18).Member) == x1) with g43 | g43
    ·rcases tf (x2 == 0) with g44 | g44
     ·refine W.pk ?_
      refine .v rfl rfl (O.fld fld47_0 rfl rfl rfl) ?_
      refine .v rfl rfl (O.ld (y := .imm (.row 11 (List.map api_Trade.enc x0.L))) ty35 rfl rfl rfl) ?_
      refine .m rfl rfl rfl rfl ?_
      refine .v rfl rfl (O.idx sl35 c41 rfl rfl rfl) ?_
      refine .v rfl rfl (O.fld fld26_2 rfl rfl rfl) ?_
      refine .v rfl rfl (O.ld (y := .i ((nth x0.L v18).Member)) ty3 rfl rfl rfl) ?_
      refine .m rfl rfl rfl rfl ?_
      refine .v rfl rfl (OpL.binI rfl rfl rfl rfl) ?_
      refine .m rfl rfl rfl rfl ?_
      refine .m rfl (met rfl rfl rfl g43) rfl rfl ?_
      refine .v rfl (met rfl rfl rfl g43) (OpL.binI rfl rfl rfl rfl) ?_
      refine .m rfl (met rfl rfl rfl g43) rfl rfl ?_
      refine .x rfl (unmet rfl rfl rfl g44) ?_
      refine .x rfl (unmet rfl rfl rfl g44) ?_
      refine .x rfl (unmet rfl rfl rfl g44) ?_
      refine .x rfl (unmet rfl rfl rfl g44) ?_
      refine .x rfl (unmet rfl rfl rfl g44) ?_
      refine .x rfl (unmet rfl rfl rfl g44) ?_
      refine .x rfl (unmet rfl rfl rfl g44) ?_
      refine .x rfl (unmet rfl rfl rfl g44) ?_
      refine .v rfl (met rfl rfl rfl g43) (O.pickT g44 rfl rfl rfl) ?_
      refine .v rfl rfl (O.pickT g43 rfl rfl rfl) ?_
      refine .nil ?_
      exact toN (Gives.mkR [] (.r rfl rfl (.r rfl rfl (.r rfl rfl (.r rfl rfl (.r rfl rfl (.c rfl (sbb (by first | (simp only [g43, g44, Bool.true_or, Bool.or_true, Bool.false_or, Bool.or_false, Bool.true_and, Bool.and_true, Bool.false_and, Bool.and_false, Bool.not_true, Bool.not_false, cond_true, cond_false]; done) | (repeat (first | rw [g43] | rw [g44])) <;> simp only [Bool.true_or, Bool.or_true, Bool.false_or, Bool.or_false, Bool.true_and, Bool.and_true, Bool.false_and, Bool.and_false, Bool.not_true, Bool.not_false, cond_true, cond_false])) rfl .n)))))) (.r rfl rfl rfl (.r rfl rfl rfl .n)) rfl rfl rfl)
     ·refine W.pk ?_
      refine .v rfl rfl (O.fld fld47_0 rfl rfl rfl) ?_
      refine .v rfl rfl (O.ld (y := .imm (.row 11 (List.map api_Trade.enc x0.L))) ty35 rfl rfl rfl) ?_
      refine .m rfl rfl rfl rfl ?_
      refine .v rfl rfl (O.idx sl35 c41 rfl rfl rfl) ?_
      refine .v rfl rfl (O.fld fld26_2 rfl rfl rfl) ?_
      refine .v rfl rfl (O.ld (y := .i ((nth x0.L v18).Member)) ty3 rfl rfl rfl) ?_
      refine .m rfl rfl rfl rfl ?_
      refine .v rfl rfl (OpL.binI rfl rfl rfl rfl) ?_
      refine .m rfl rfl rfl rfl ?_
      refine .m rfl (met rfl rfl rfl g43) rfl rfl ?_
      refine .v rfl (met rfl rfl rfl g43) (OpL.binI rfl rfl rfl rfl) ?_
      refine .m rfl (met rfl rfl rfl g43) rfl rfl ?_
      refine .m rfl (met rfl rfl rfl g44) rfl rfl ?_
      refine .v rfl (met rfl rfl rfl g44) (O.fld fld47_0 rfl rfl rfl) ?_
      refine .v rfl (met rfl rfl rfl g44) (O.ld (y := .imm (.row 11 (List.map api_Trade.enc x0.L))) ty35 rfl rfl rfl) ?_
      refine .m rfl (met rfl rfl rfl g44) rfl rfl ?_
      refine .v rfl (met rfl rfl rfl g44) (O.idx sl35 (c42 ⟨(by first | (simp only [g43, g44, Bool.true_or, Bool.or_true, Bool.false_or, Bool.or_false, Bool.true_and, Bool.and_true, Bool.false_and, Bool.and_false, Bool.not_true, Bool.not_false, cond_true, cond_false]; done) | (repeat (first | rw [g43] | rw [g44])) <;> simp only [Bool.true_or, Bool.or_true, Bool.false_or, Bool.or_false, Bool.true_and, Bool.and_true, Bool.false_and, Bool.and_false, Bool.not_true, Bool.not_false, cond_true, cond_false]), (by first | (simp only [g43, g44, Bool.true_or, Bool.or_true, Bool.false_or, Bool.or_false, Bool.true_and, Bool.and_true, Bool.false_and, Bool.and_false, Bool.not_true, Bool.not_false, cond_true, cond_false]; done) | (repeat (first | rw [g43] | rw [g44])) <;> simp only [Bool.true_or, Bool.or_true, Bool.false_or, Bool.or_false, Bool.true_and, Bool.and_true, Bool.false_and, Bool.and_false, Bool.not_true, Bool.not_false, cond_true, cond_false])⟩) rfl rfl rfl) ?_
      refine .v rfl (met rfl rfl rfl g44) (O.fld fld26_3 rfl rfl rfl) ?_
      refine .v rfl (met rfl rfl rfl g44) (O.ld (y := .i ((nth x0.L v18).Side)) ty3 rfl rfl rfl) ?_
      refine .v rfl (met rfl rfl rfl g44) (OpL.binI rfl rfl rfl rfl) ?_
      refine .v rfl (met rfl rfl rfl g43) (O.pickF g44 rfl rfl rfl) ?_
      refine .v rfl rfl (O.pickT g43 rfl rfl rfl) ?_
      refine .nil ?_
      exact toN (Gives.mkR [] (.r rfl rfl (.r rfl rfl (.r rfl rfl (.r rfl rfl (.r rfl rfl (.c rfl (sbb (by first | (simp only [g43, g44, Bool.true_or, Bool.or_true, Bool.false_or, Bool.or_false, Bool.true_and, Bool.and_true, Bool.false_and, Bool.and_false, Bool.not_true, Bool.not_false, cond_true, cond_false]; done) | (repeat (first | rw [g43] | rw [g44])) <;> simp only [Bool.true_or, Bool.or_true, Bool.false_or, Bool.or_false, Bool.true_and, Bool.and_true, Bool.false_and, Bool.and_false, Bool.not_true, Bool.not_false, cond_true, cond_false])) rfl .n)))))) (.r rfl rfl rfl (.r rfl rfl rfl .n)) rfl rfl rfl)
    ·refine W.pk ?_
     refine .v rfl rfl (O.fld fld47_0 rfl rfl rfl) ?_
     refine .v rfl rfl (O.ld (y := .imm (.row 11 (List.map api_Trade.enc x0.L))) ty35 rfl rfl rfl) ?_
     refine .m rfl rfl rfl rfl ?_
     refine .v rfl rfl (O.idx sl35 c41 rfl rfl rfl) ?_
     refine .v rfl rfl (O.fld fld26_2 rfl rfl rfl) ?_
     refine .v rfl rfl (O.ld (y := .i ((nth x0.L v18).Member)) ty3 rfl rfl rfl) ?_
     refine .m rfl rfl rfl rfl ?_
     refine .v rfl rfl (OpL.binI rfl rfl rfl rfl) ?_
     refine .m rfl rfl rfl rfl ?_
     refine .x rfl (unmet rfl rfl rfl g43) ?_
     refine .x rfl (unmet rfl rfl rfl g43) ?_
     refine .x rfl (unmet rfl rfl rfl g43) ?_
     refine .x rfl (unmetU rfl rfl rfl) ?_
     refine .x rfl (unmetU rfl rfl rfl) ?_
     refine .x rfl (unmetU rfl rfl rfl) ?_
     refine .x rfl (unmetU rfl rfl rfl) ?_
     refine .x rfl (unmetU rfl rfl rfl) ?_
     refine .x rfl (unmetU rfl rfl rfl) ?_
     refine .x rfl (unmetU rfl rfl rfl) ?_
     refine .x rfl (unmetU rfl rfl rfl) ?_
     refine .x rfl (unmet rfl rfl rfl g43) ?_
     refine .v rfl rfl (O.pickF g43 rfl rfl rfl) ?_
     refine .nil ?_
     exact toN (Gives.mkR [] (.r rfl rfl (.r rfl rfl (.r rfl rfl (.r rfl rfl (.r rfl rfl (.c rfl (sbb (by simp only [g43, Bool.true_or, Bool.or_true, Bool.false_or, Bool.or_false, Bool.true_and, Bool.and_true, Bool.false_and, Bool.and_false, Bool.not_true, Bool.not_false, cond_true, cond_false])) rfl .n)))))) (.r rfl rfl rfl (.r rfl rfl rfl .n)) rfl rfl rfl)
  ·have h := ifF q40 h
   refine W.exit ?_
   cases h
   refine rdX fun e_ => ?_
   subst e_
   repeat with_reducible refine thru ?_
   refine hit ?_
   exact toN (Gives.mkR [] (.r rfl rfl .n) (.r rfl rfl rfl .n) rfl rfl rfl)

set_option maxRecDepth 100000 in
set_option maxHeartbeats 4000000 in
theorem lombardref23_All_v2.ok {x0 : List api_Trade} {x1 : List api_Trade} {r : Bool} (h : lombardref23_All.f x0 x1 = some r) : Pm.Spec prog 17 [.xown 26 11 (List.map api_Trade.enc x0), .xown 26 11 (List.map api_Trade.enc x1)] (.imm (.val (.bool r))) [some (.xown 26 11 (List.map api_Trade.enc x0)), some (.xown 26 11 (List.map api_Trade.enc x1))] := by
 unfold lombardref23_All.f at h
 refine Pm.Spec.of_body Try.func17 rfl (by kernel_rfl) (Nat.le_of_ble_eq_true rfl) (Nat.le_of_ble_eq_true rfl) ?_
 refine W.ghost (σ' := (mkSt [(0, some (.own 0)), (1, some (.own 1))] [(0, some (.rows 26 11 (List.map api_Trade.enc x0) false)), (1, some (.rows 26 11 (List.map api_Trade.enc x1) false))] 1000)) (Gives.entry (.c rfl (.c rfl .n)) (.c rfl (.c rfl .n))) ?_
 refine W.seq ?_
 refine W.pk ?_
 refine .a rfl rfl rfl rfl ?_
 refine .nil ?_
 refine W.seq ?_
 refine W.seq ?_
 refine W.pk ?_
 refine .m rfl rfl rfl rfl ?_
 refine .v rfl rfl (O.lenO sl35 rfl rfl rfl) ?_
 refine .m rfl rfl rfl rfl ?_
 refine .v rfl rfl (O.lenO sl35 rfl rfl rfl) ?_
 refine .v rfl rfl (OpL.binI rfl rfl rfl rfl) ?_
 refine .nil ?_
 refine W.cond rfl (fun q1 => ?_) (fun q1 => ?_)
 ·have h := ifT q1 h
  refine W.seq ?_
  refine W.pk ?_
  refine .a rfl rfl rfl rfl ?_
  refine .nil ?_
  refine W.ret ?_
  cases h
  exact leaves (.inr rfl) rfl (.imm _) (cS (.own _ _ _ _ rfl) (cS (.own _ _ _ _ rfl) .nil)) rfl rfl
 ·have h := ifF q1 h
  refine W.skip ?_
  refine W.seq ?_
  refine W.seq ?_
  refine W.pk ?_
  refine .a rfl rfl rfl rfl ?_
  refine .nil ?_
  obtain ⟨o22, b23, z24⟩ := bnd1 h
  refine W.fork2 (out := o22) (fun (w21 : Unit) => mkSt [] [(0, some (.rows 26 11 (List.map api_Trade.enc x0) false)), (1, some (.rows 26 11 (List.map api_Trade.enc x1) false))] 1000) ?_ ?_
  ·clear h
   refine W.block ?_
   refine W.loopF (fun (s_ : Int) => mkSt [(0, some (.own 0)), (1, some (.own 1)), (5, some (.i s_))] [(0, some (.rows 26 11 (List.map api_Trade.enc x0) false)), (1, some (.rows 26 11 (List.map api_Trade.enc x1) false))] 1000) b23 (Gives.mkR [] (.r rfl rfl (.r rfl rfl (.r rfl rfl .n))) (.r rfl rfl rfl (.r rfl rfl rfl .n)) rfl rfl rfl) ?_
   rintro v8 s_ hr
   have h : lombardref23_All.b0 x0 x1 v8 = some s_ := hr
   unfold lombardref23_All.b0 at h
   refine W.seq ?_
   refine W.seq ?_
   refine W.pk ?_
   refine .m rfl rfl rfl rfl ?_
   refine .m rfl rfl rfl rfl ?_
   refine .v rfl rfl (O.lenO sl35 rfl rfl rfl) ?_
   refine .v rfl rfl (OpL.binI rfl rfl rfl rfl) ?_
   refine .nil ?_
   refine W.cond rfl (fun q25 => ?_) (fun q25 => ?_)
   ·have h := ifT q25 h
    refine W.skip ?_
    refine W.seq ?_
    refine W.block ?_
    refine W.seq ?_
    obtain ⟨c26, h⟩ := chk h
    obtain ⟨c27, h⟩ := chk h
    obtain ⟨t28, b29, h⟩ := bnd1 h
    refine W.dk (unm 10 [0, 0, 3, 7, 0, 0, 48, 112, 255, 511]) rfl (by kernel_rfl) ?_
    refine .m rfl rfl rfl rfl ?_
    refine .m rfl rfl rfl rfl ?_
    refine .v rfl rfl (O.idxO sl35 c26 rfl rfl rfl rfl) ?_
    refine .v rfl rfl (O.ldEN ty26 c26 rfl rfl rfl rfl rfl) ?_
    refine .m rfl rfl rfl rfl ?_
    refine .m rfl rfl rfl rfl ?_
    refine .v rfl rfl (O.idxO sl35 c27 rfl rfl rfl rfl) ?_
    refine .v rfl rfl (O.ldEN ty26 c27 rfl rfl rfl rfl rfl) ?_
    refine .call (.b t28) [] 0 (lombardref23_Same.ok b29) rfl rfl rfl ca25 rfl rfl (cC (.agg _ _ _ _ (cC (.imm _) (cC (.imm _) (cC (.imm _) (cC (.imm _) (cC (.imm _) (cC (.imm _) (cC (.imm _) (cC (.imm _) (cC (.imm _) (cC (.imm _) (cC (.imm _) .nil)))))))))))) (cC (.agg _ _ _ _ (cC (.imm _) (cC (.imm _) (cC (.imm _) (cC (.imm _) (cC (.imm _) (cC (.imm _) (cC (.imm _) (cC (.imm _) (cC (.imm _) (cC (.imm _) (cC (.imm _) .nil)))))))))))) .nil)) rfl rfl rfl rfl rfl ?_
    refine .v rfl rfl (OpL.unV rfl rfl rfl) ?_
    refine .nil ?_
    refine ⟨by kernel_rfl, by kernel_rfl, ?_⟩
    refine W.cond rfl (fun q30 => ?_) (fun q30 => ?_)
    ·have h := ifT q30 h
     refine W.seq ?_
     refine W.pk ?_
     refine .a rfl rfl rfl rfl ?_
     refine .nil ?_
     refine W.ret ?_
     cases h
     refine rdR fun e_ => ?_
     subst e_
     have h := z24
     dsimp only at h
     refine fkR ?_
     cases h
     exact leaves (.inr rfl) rfl (.imm _) (cS (.own _ _ _ _ rfl) (cS (.own _ _ _ _ rfl) .nil)) rfl rfl
    ·have h := ifF q30 h
     refine W.skip ?_
     refine W.pk ?_
     refine .m rfl rfl rfl rfl ?_
     refine .v rfl rfl (OpL.binI rfl rfl rfl rfl) ?_
     refine .a rfl rfl rfl rfl ?_
     refine .nil ?_
     cases h
     exact rdN (Gives.mkR [] (.r rfl rfl (.r rfl rfl (.r rfl rfl .n))) (.r rfl rfl rfl (.r rfl rfl rfl .n)) rfl rfl rfl)
   ·have h := ifF q25 h
    refine W.exit ?_
    cases h
    refine rdX fun e_ => ?_
    subst e_
    repeat with_reducible refine thru ?_
    refine hit ?_
    exact fkN (Gives.mkR [] .n (.r rfl rfl rfl (.r rfl rfl rfl .n)) rfl rfl rfl)
  ·intro w21 e_
   subst e_
   clear h
   have h := z24
   dsimp only at h
   refine W.seq ?_
   refine W.pk ?_
   refine .a rfl rfl rfl rfl ?_
   refine .nil ?_
   refine W.ret ?_
   cases h
   exact leaves (.inr rfl) rfl (.imm _) (cS (.own _ _ _ _ rfl) (cS (.own _ _ _ _ rfl) .nil)) rfl rfl

noncomputable def trade_Book_Borrowed.b0 (t1 : List api_Trade) (v6 : Int) (v7 : Int) : Option ((Int × Int) ⊕ Int) :=
  if (decide (v7 < (List.length t1 : Int))) = true then
    if (0 : Int) ≤ v7 ∧ v7 < (List.length t1 : Int) then
    if (decide (((nth t1 v7).Stage) < 4)) = true then
      some (.inl ((IntKind.wrap .i64 (v6 + ((nth t1 v7).Amount))), (IntKind.wrap .i64 (v7 + 1))))
    else
      some (.inl (v6, (IntKind.wrap .i64 (v7 + 1))))
    else none
  else
    some (.inr v6)
noncomputable def trade_Book_Borrowed.r0 (t1 : List api_Trade) (s : Int × Int) : Option ((Int × Int) ⊕ Int) := trade_Book_Borrowed.b0 t1 s.1 s.2
noncomputable def trade_Book_Borrowed.f (x0 : trade_Book) (x1 : Int) : Option (Int) :=
  (trade_Book_Of.f x0 x1 2).bind fun t1 =>
  (loop (trade_Book_Borrowed.r0 t1) (0, 0)).bind fun o15 =>
  some o15
set_option maxRecDepth 100000 in
set_option maxHeartbeats 4000000 in
theorem trade_Book_Borrowed.ok {x0 : trade_Book} {x1 : Int} {r : Int} (h : trade_Book_Borrowed.f x0 x1 = some r) : Pm.Spec prog 28 [.xbox [.xown 26 11 (List.map api_Trade.enc x0.l), .imm (.val (.int .i64 x0.next)), .imm (.val (.bool x0.made))], .imm (.val (.int .i64 x1))] (.imm (.val (.int .i64 r))) [some (.xbox [.xown 26 11 (List.map api_Trade.enc x0.l), .imm (.val (.int .i64 x0.next)), .imm (.val (.bool x0.made))]), none] := by
 unfold trade_Book_Borrowed.f at h
 refine Pm.Spec.of_body Try.func28 rfl (by kernel_rfl) (Nat.le_of_ble_eq_true rfl) (Nat.le_of_ble_eq_true rfl) ?_
 refine W.ghost (σ' := (mkSt [(0, some (.ptr 0 0)), (1, some (.i x1))] [(0, some (.box [.own 1, .i x0.next, .b x0.made])), (1, some (.rows 26 11 (List.map api_Trade.enc x0.l) false))] 1000)) (Gives.entry (.c rfl (.c rfl .n)) (.c rfl (.c rfl .n))) ?_
 refine W.ghost (σ' := (mkSt [(0, some (.ptr 0 0)), (1, some (.i x1))] [(0, some (.box [.own 1000, .i x0.next, .b x0.made])), (1000, some (.rows 26 11 (List.map api_Trade.enc x0.l) false))] 1001)) (Gives.mkR [(1000, 1)] (.r rfl rfl (.r rfl rfl .n)) (.r rfl rfl rfl (.r rfl rfl rfl .n)) rfl rfl rfl) ?_
 refine W.seq ?_
 refine W.pk ?_
 refine .a rfl rfl rfl rfl ?_
 refine .nil ?_
 refine W.seq ?_
 refine W.pk ?_
 refine .a rfl rfl rfl rfl ?_
 refine .nil ?_
 refine W.seq ?_
 refine W.seq ?_
 obtain ⟨t1, b2, h⟩ := bnd1 h
 refine W.pk ?_
 refine .m rfl rfl rfl rfl ?_
 refine .m rfl rfl rfl rfl ?_
 refine .call (.own 1001) [(1001, some (.rows 26 11 (List.map api_Trade.enc t1) false)), (0, some (.box [.own 1002, .i x0.next, .b x0.made])), (1002, some (.rows 26 11 (List.map api_Trade.enc x0.l) false)), (0, none), (1000, none)] 2 (trade_Book_Of.ok b2) rfl rfl rfl ca26 rfl rfl (cC (.ptr _ _ _ _ _ rfl (cC (.own _ _ _ _ rfl) (cC (.imm _) (cC (.imm _) .nil)))) (cC (.imm _) (cC (.imm _) .nil))) rfl rfl rfl rfl rfl ?_
 refine .v rfl rfl (O.lenO sl35 rfl rfl rfl) ?_
 refine .m rfl rfl rfl rfl ?_
 refine .nil ?_
 obtain ⟨o15, b16, h⟩ := bnd1 h
 refine W.fork (mkSt [(5, some (.i o15))] [(0, some (.box [.own 1002, .i x0.next, .b x0.made])), (1002, some (.rows 26 11 (List.map api_Trade.enc x0.l) false))] 1003) ?_ ?_
 ·refine W.seq ?_
  refine W.pk ?_
  refine .m rfl rfl rfl rfl ?_
  refine .a rfl rfl rfl rfl ?_
  refine .nil ?_
  refine W.ret ?_
  cases h
  exact leaves (.inr rfl) rfl (.imm _) (cS (.ptr _ _ _ _ _ rfl (cC (.own _ _ _ _ rfl) (cC (.imm _) (cC (.imm _) .nil)))) (cN .nil)) rfl rfl
 ·clear h
  refine W.block ?_
  refine W.loopF (fun (s_ : Int × Int) => mkSt [(5, some (.i s_.1)), (10, some (.own 1001)), (11, some (.i (List.length t1 : Int))), (12, some (.i s_.2))] [(0, some (.box [.own 1002, .i x0.next, .b x0.made])), (1001, some (.rows 26 11 (List.map api_Trade.enc t1) false)), (1002, some (.rows 26 11 (List.map api_Trade.enc x0.l) false))] 1003) b16 (Gives.mkR [] (.r rfl rfl (.r rfl rfl (.r rfl rfl (.r rfl rfl .n)))) (.r rfl rfl rfl (.r rfl rfl rfl (.r rfl rfl rfl .n))) rfl rfl rfl) ?_
  rintro ⟨v6, v7⟩ s_ hr
  have h : trade_Book_Borrowed.b0 t1 v6 v7 = some s_ := hr
  unfold trade_Book_Borrowed.b0 at h
  refine W.seq ?_
  refine W.pk ?_
  refine .v rfl rfl (OpL.binI rfl rfl rfl rfl) ?_
  refine .nil ?_
  refine W.seq ?_
  refine W.cond rfl (fun q18 => ?_) (fun q18 => ?_)
  ·have h := ifT q18 h
   refine W.skip ?_
   refine W.seq ?_
   refine W.block ?_
   refine W.seq ?_
   obtain ⟨c19, h⟩ := chk h
   refine W.pk ?_
   refine .v rfl rfl (O.idxO sl35 c19 rfl rfl rfl rfl) ?_
   refine .v rfl rfl (O.ldEN ty26 c19 rfl rfl rfl rfl rfl) ?_
   refine .t rfl rfl (O.alloc z26 rfl) ?_
   refine .s rfl rfl (O.st ty26 rfl rfl rfl rfl rfl rfl rfl rfl rfl rfl (all' := [.i ((nth t1 v7).ID), .i ((nth t1 v7).Twin), .i ((nth t1 v7).Member), .i ((nth t1 v7).Side), .i ((nth t1 v7).Basket), .i ((nth t1 v7).Amount), .i ((nth t1 v7).Start), .i ((nth t1 v7).End), .imm (.row 2 (List.map api_Reset.enc ((nth t1 v7).Resets))), .i ((nth t1 v7).Stage), .b ((nth t1 v7).Short)]) rfl) ?_
   refine .nil ?_
   refine W.seq ?_
   refine W.pk ?_
   refine .v rfl rfl (O.fld fld26_9 rfl rfl rfl) ?_
   refine .v rfl rfl (O.ld (y := .i ((nth t1 v7).Stage)) ty3 rfl rfl rfl) ?_
   refine .v rfl rfl (OpL.binI rfl rfl rfl rfl) ?_
   refine .nil ?_
   refine W.cond rfl (fun q20 => ?_) (fun q20 => ?_)
   ·have h := ifT q20 h
    refine W.pk ?_
    refine .m rfl rfl rfl rfl ?_
    refine .v rfl rfl (O.fld fld26_5 rfl rfl rfl) ?_
    refine .v rfl rfl (O.ld (y := .i ((nth t1 v7).Amount)) ty3 rfl rfl rfl) ?_
    refine .v rfl rfl (OpL.binI rfl rfl rfl rfl) ?_
    refine .a rfl rfl rfl rfl ?_
    refine .nil ?_
    refine W.pk ?_
    refine .v rfl rfl (OpL.binI rfl rfl rfl rfl) ?_
    refine .m rfl rfl rfl rfl ?_
    refine .nil ?_
    cases h
    exact rdN (Gives.mkR [] (.r rfl rfl (.r rfl rfl (.r rfl rfl (.r rfl rfl .n)))) (.r rfl rfl rfl (.r rfl rfl rfl (.r rfl rfl rfl .n))) rfl rfl rfl)
   ·have h := ifF q20 h
    refine W.skip ?_
    refine W.pk ?_
    refine .v rfl rfl (OpL.binI rfl rfl rfl rfl) ?_
    refine .m rfl rfl rfl rfl ?_
    refine .nil ?_
    cases h
    exact rdN (Gives.mkR [] (.r rfl rfl (.r rfl rfl (.r rfl rfl (.r rfl rfl .n)))) (.r rfl rfl rfl (.r rfl rfl rfl (.r rfl rfl rfl .n))) rfl rfl rfl)
  ·have h := ifF q18 h
   refine W.exit ?_
   cases h
   refine rdX fun e_ => ?_
   subst e_
   repeat with_reducible refine thru ?_
   refine hit ?_
   exact toN (Gives.mkR [] (.r rfl rfl .n) (.r rfl rfl rfl (.r rfl rfl rfl .n)) rfl rfl rfl)

noncomputable def lombardref23_Book_Borrowed.b0 (t1 : List api_Trade) (v7 : Int) (v8 : Int) : Option ((Int × Int) ⊕ Int) :=
  if (decide (v8 < (List.length t1 : Int))) = true then
    if (0 : Int) ≤ v8 ∧ v8 < (List.length t1 : Int) then
    if (decide (((nth t1 v8).Stage) < 4)) = true then
      if (0 : Int) ≤ v8 ∧ v8 < (List.length t1 : Int) then
      some (.inl ((IntKind.wrap .i64 (v7 + ((nth t1 v8).Amount))), (IntKind.wrap .i64 (v8 + 1))))
      else none
    else
      some (.inl (v7, (IntKind.wrap .i64 (v8 + 1))))
    else none
  else
    some (.inr v7)
noncomputable def lombardref23_Book_Borrowed.r0 (t1 : List api_Trade) (s : Int × Int) : Option ((Int × Int) ⊕ Int) := lombardref23_Book_Borrowed.b0 t1 s.1 s.2
noncomputable def lombardref23_Book_Borrowed.f (x0 : lombardref23_Book) (x1 : Int) : Option (Int) :=
  (lombardref23_Book_Of.f x0 x1 2).bind fun t1 =>
  (loop (lombardref23_Book_Borrowed.r0 t1) (0, 0)).bind fun o18 =>
  some o18
set_option maxRecDepth 100000 in
set_option maxHeartbeats 4000000 in
theorem lombardref23_Book_Borrowed.ok {x0 : lombardref23_Book} {x1 : Int} {r : Int} (h : lombardref23_Book_Borrowed.f x0 x1 = some r) : Pm.Spec prog 29 [.agg [.imm (.row 11 (List.map api_Trade.enc x0.L)), .imm (.val (.int .i64 x0.Next))], .imm (.val (.int .i64 x1))] (.imm (.val (.int .i64 r))) [none, none] := by
 unfold lombardref23_Book_Borrowed.f at h
 refine Pm.Spec.of_body Try.func29 rfl (by kernel_rfl) (Nat.le_of_ble_eq_true rfl) (Nat.le_of_ble_eq_true rfl) ?_
 refine W.ghost (σ' := (mkSt [(0, some (.agg [.imm (.row 11 (List.map api_Trade.enc x0.L)), .i x0.Next])), (1, some (.i x1))] [] 1000)) (Gives.entry (.c rfl (.c rfl .n)) .n) ?_
 refine W.seq ?_
 refine W.pk ?_
 refine .t rfl rfl (O.box rfl rfl rfl rfl rfl) ?_
 refine .a rfl rfl rfl rfl ?_
 refine .nil ?_
 refine W.seq ?_
 obtain ⟨t1, b2, h⟩ := bnd1 h
 refine W.pk ?_
 refine .v rfl rfl (O.ldN ty47 rfl rfl rfl) ?_
 refine .m rfl rfl rfl rfl ?_
 refine .call (.own 1001) [(1001, some (.rows 26 11 (List.map api_Trade.enc t1) false))] 1 (lombardref23_Book_Of.ok b2) rfl rfl rfl ca27 rfl rfl (cC (.agg _ _ _ _ (cC (.imm _) (cC (.imm _) .nil))) (cC (.imm _) (cC (.imm _) .nil))) rfl rfl rfl rfl rfl ?_
 refine .a rfl rfl rfl rfl ?_
 refine .nil ?_
 refine W.seq ?_
 refine W.pk ?_
 refine .a rfl rfl rfl rfl ?_
 refine .nil ?_
 refine W.seq ?_
 refine W.seq ?_
 refine W.pk ?_
 refine .a rfl rfl rfl rfl ?_
 refine .nil ?_
 obtain ⟨o18, b19, h⟩ := bnd1 h
 refine W.fork (mkSt [(6, some (.i o18))] [] 1002) ?_ ?_
 ·refine W.seq ?_
  refine W.pk ?_
  refine .m rfl rfl rfl rfl ?_
  refine .a rfl rfl rfl rfl ?_
  refine .nil ?_
  refine W.ret ?_
  cases h
  exact leaves (.inr rfl) rfl (.imm _) (cN (cN .nil)) rfl rfl
 ·clear h
  refine W.block ?_
  refine W.loopF (fun (s_ : Int × Int) => mkSt [(5, some (.own 1001)), (6, some (.i s_.1)), (7, some (.i s_.2))] [(1001, some (.rows 26 11 (List.map api_Trade.enc t1) false))] 1002) b19 (Gives.mkR [] (.r rfl rfl (.r rfl rfl (.r rfl rfl .n))) (.r rfl rfl rfl .n) rfl rfl rfl) ?_
  rintro ⟨v7, v8⟩ s_ hr
  have h : lombardref23_Book_Borrowed.b0 t1 v7 v8 = some s_ := hr
  unfold lombardref23_Book_Borrowed.b0 at h
  refine W.seq ?_
  refine W.seq ?_
  refine W.pk ?_
  refine .m rfl rfl rfl rfl ?_
  refine .m rfl rfl rfl rfl ?_
  refine .v rfl rfl (O.lenO sl35 rfl rfl rfl) ?_
  refine .v rfl rfl (OpL.binI rfl rfl rfl rfl) ?_
  refine .nil ?_
  refine W.cond rfl (fun q21 => ?_) (fun q21 => ?_)
  ·have h := ifT q21 h
   refine W.skip ?_
   refine W.seq ?_
   refine W.block ?_
   refine W.seq ?_
   obtain ⟨c22, h⟩ := chk h
   refine W.pk ?_
   refine .m rfl rfl rfl rfl ?_
   refine .m rfl rfl rfl rfl ?_
   refine .v rfl rfl (O.idxO sl35 c22 rfl rfl rfl rfl) ?_
   refine .v rfl rfl (O.fld fld26_9 rfl rfl rfl) ?_
   refine .v rfl rfl (O.ldE (c := (.val (.int .i64 ((nth t1 v8).Stage)))) ty3 c22 rfl rfl rfl rfl rfl) ?_
   refine .v rfl rfl (OpL.binI rfl rfl rfl rfl) ?_
   refine .nil ?_
   refine W.cond rfl (fun q23 => ?_) (fun q23 => ?_)
   ·have h := ifT q23 h
    obtain ⟨c24, h⟩ := chk h
    refine W.pk ?_
    refine .m rfl rfl rfl rfl ?_
    refine .m rfl rfl rfl rfl ?_
    refine .m rfl rfl rfl rfl ?_
    refine .v rfl rfl (O.idxO sl35 c24 rfl rfl rfl rfl) ?_
    refine .v rfl rfl (O.fld fld26_5 rfl rfl rfl) ?_
    refine .v rfl rfl (O.ldE (c := (.val (.int .i64 ((nth t1 v8).Amount)))) ty3 c24 rfl rfl rfl rfl rfl) ?_
    refine .v rfl rfl (OpL.binI rfl rfl rfl rfl) ?_
    refine .a rfl rfl rfl rfl ?_
    refine .nil ?_
    refine W.pk ?_
    refine .m rfl rfl rfl rfl ?_
    refine .v rfl rfl (OpL.binI rfl rfl rfl rfl) ?_
    refine .a rfl rfl rfl rfl ?_
    refine .nil ?_
    cases h
    exact rdN (Gives.mkR [] (.r rfl rfl (.r rfl rfl (.r rfl rfl .n))) (.r rfl rfl rfl .n) rfl rfl rfl)
   ·have h := ifF q23 h
    refine W.skip ?_
    refine W.pk ?_
    refine .m rfl rfl rfl rfl ?_
    refine .v rfl rfl (OpL.binI rfl rfl rfl rfl) ?_
    refine .a rfl rfl rfl rfl ?_
    refine .nil ?_
    cases h
    exact rdN (Gives.mkR [] (.r rfl rfl (.r rfl rfl (.r rfl rfl .n))) (.r rfl rfl rfl .n) rfl rfl rfl)
  ·have h := ifF q21 h
   refine W.exit ?_
   cases h
   refine rdX fun e_ => ?_
   subst e_
   repeat with_reducible refine thru ?_
   refine hit ?_
   exact toN (Gives.mkR [] (.r rfl rfl .n) .n rfl rfl rfl)
end Go.Proofs.Ytidinbjehfodoaa
