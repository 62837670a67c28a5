/- Shows what functions of the program come to, each as a plain function: written by a program of the author's for this claim. -/
import Derived.Test.YtidinbjehfodoaaGx13
namespace Go.Proofs.Ytidinbjehfodoaa
open Go Go.Pm
set_option linter.unusedVariables false
set_option linter.unusedSimpArgs false
noncomputable def lombardlaw23_TradeTells.b0 (x0 : List lombardlaw23_Act) (v14 : Int) (v15 : Int) (v16 : Bool) (v17 : List api_Trade) (v18 : List api_Trade) (v19 : Int) : Option ((Int × Int × Bool × (List api_Trade) × (List api_Trade) × Int) ⊕ (Bool ⊕ (Int × Bool × (List api_Trade) × (List api_Trade) × Int))) :=
  if ((decide (v14 < (List.length x0 : Int))) && (decide (v14 < 60))) = true then
    if (0 : Int) ≤ v14 ∧ v14 < (List.length x0 : Int) then
    (lombardlaw23_short.f (⟨(nth x0 v14).Kind, ((nth x0 v14).Fill), ((nth x0 v14).X), ((nth x0 v14).Y), (nth x0 v14).ID⟩ : lombardlaw23_Act)).bind fun t49 =>
    if (t49 = true → (0 : Int) ≤ v14 ∧ v14 < (List.length x0 : Int)) then
    (if t49 = true then lombardlaw23_does.f (⟨v17, v15, v16⟩ : trade_Book) (⟨v18, v19⟩ : lombardref23_Book) (⟨(nth x0 v14).Kind, ((nth x0 v14).Fill), ((nth x0 v14).X), ((nth x0 v14).Y), (nth x0 v14).ID⟩ : lombardlaw23_Act) else some (default, (⟨v17, v15, v16⟩ : trade_Book), (⟨v18, v19⟩ : lombardref23_Book))).bind fun t52 =>
    if (t49 && (!t52.1)) = true then
      some (.inr (.inl false))
    else
      some (.inl ((IntKind.wrap .i64 (v14 + 1)), t52.2.1.next, t52.2.1.made, t52.2.1.l, t52.2.2.L, t52.2.2.Next))
    else none
    else none
  else
    some (.inr (.inr (v15, v16, v17, v18, v19)))
noncomputable def lombardlaw23_TradeTells.r0 (x0 : List lombardlaw23_Act) (s : Int × Int × Bool × (List api_Trade) × (List api_Trade) × Int) : Option ((Int × Int × Bool × (List api_Trade) × (List api_Trade) × Int) ⊕ (Bool ⊕ (Int × Bool × (List api_Trade) × (List api_Trade) × Int))) := lombardlaw23_TradeTells.b0 x0 s.1 s.2.1 s.2.2.1 s.2.2.2.1 s.2.2.2.2.1 s.2.2.2.2.2
noncomputable def lombardlaw23_TradeTells.f (x0 : List lombardlaw23_Act) (x1 : Int) (x2 : Int) (x3 : Int) : Option (Bool) :=
  (trade_New.f).bind fun t1 =>
  (loop (lombardlaw23_TradeTells.r0 x0) (0, t1.next, t1.made, t1.l, [], 0)).bind fun o43 =>
  match o43 with
  | .inl r57 => some r57
  | .inr w42 =>
    (trade_Book_Get.f (⟨w42.2.2.1, w42.1, w42.2.1⟩ : trade_Book) x1).bind fun t58 =>
    (lombardref23_Book_Find.f (⟨w42.2.2.2.1, w42.2.2.2.2⟩ : lombardref23_Book) x1).bind fun t60 =>
    if ((!(t58.2 == (decide (t60 ≥ 0)))) = false ∧ t58.2 = true → (0 : Int) ≤ t60 ∧ t60 < (List.length w42.2.2.2.1 : Int)) then
    (if (!(t58.2 == (decide (t60 ≥ 0)))) = false ∧ t58.2 = true then lombardref23_Same.f t58.1 (nth w42.2.2.2.1 t60) else some default).bind fun t63 =>
    if (((!(t58.2 == (decide (t60 ≥ 0)))) || (t58.2 && (!t63))) || ((!t58.2) && (t58.1.ID != 0))) = true then
      some false
    else
      (trade_Book_Of.f (⟨w42.2.2.1, w42.1, w42.2.1⟩ : trade_Book) x2 x3).bind fun t69 =>
      (lombardref23_Book_Of.f (⟨w42.2.2.2.1, w42.2.2.2.2⟩ : lombardref23_Book) x2 x3).bind fun t71 =>
      (lombardref23_All.f t69 t71).bind fun t73 =>
      (if t73 = true then trade_Book_Borrowed.f (⟨w42.2.2.1, w42.1, w42.2.1⟩ : trade_Book) x2 else some default).bind fun t75 =>
      (if t73 = true then lombardref23_Book_Borrowed.f (⟨w42.2.2.2.1, w42.2.2.2.2⟩ : lombardref23_Book) x2 else some default).bind fun t77 =>
      (if (t73 && (t75 == t77)) = true then lombardlaw23_awake.f else some default).bind fun t79 =>
      some ((t73 && (t75 == t77)) && t79)
    else none
set_option maxRecDepth 100000 in
set_option maxHeartbeats 4000000 in
theorem lombardlaw23_TradeTells.ok {x0 : List lombardlaw23_Act} {x1 : Int} {x2 : Int} {x3 : Int} {r : Bool} (h : lombardlaw23_TradeTells.f x0 x1 x2 x3 = some r) : Pm.Spec prog 6 [.imm (.row 31 (List.map lombardlaw23_Act.enc x0)), .imm (.val (.int .i64 x1)), .imm (.val (.int .i64 x2)), .imm (.val (.int .i64 x3))] (.imm (.val (.bool r))) [none, none, none, none] := by
 unfold lombardlaw23_TradeTells.f at h
 refine Pm.Spec.of_body Try.func6 rfl (by kernel_rfl) (Nat.le_of_ble_eq_true rfl) (Nat.le_of_ble_eq_true rfl) ?_
 refine W.ghost (σ' := (mkSt [(0, some (.imm (.row 31 (List.map lombardlaw23_Act.enc x0)))), (1, some (.i x1)), (2, some (.i x2)), (3, some (.i x3))] [] 1000)) (Gives.entry (.c rfl (.c rfl (.c rfl (.c rfl .n)))) .n) ?_
 refine W.seq ?_
 refine W.pk ?_
 refine .a rfl rfl rfl rfl ?_
 refine .nil ?_
 refine W.seq ?_
 obtain ⟨t1, b2, h⟩ := bnd1 h
 refine W.pk ?_
 refine .call (.ptr 1000 0) [(1000, some (.box [.own 1001, .i t1.next, .b t1.made])), (1001, some (.rows 26 11 (List.map api_Trade.enc t1.l) false))] 2 (trade_New.ok b2) rfl rfl rfl ca20 rfl rfl .nil rfl rfl rfl rfl rfl ?_
 refine .a rfl rfl rfl rfl ?_
 refine .nil ?_
 refine W.seq ?_
 refine W.pk ?_
 refine .t rfl rfl (O.alloc z47 rfl) ?_
 refine .nil ?_
 refine W.seq ?_
 refine W.seq ?_
 refine W.pk ?_
 refine .a rfl rfl rfl rfl ?_
 refine .nil ?_
 obtain ⟨o43, b44, z45⟩ := bnd1 h
 refine W.fork2 (out := o43) (fun (w42 : Int × Bool × (List api_Trade) × (List api_Trade) × Int) => mkSt [(1, some (.i x1)), (2, some (.i x2)), (3, some (.i x3)), (9, some (.ptr 1000 0)), (10, some (.ptr 1002 0))] [(1000, some (.box [.own 1001, .i w42.1, .b w42.2.1])), (1001, some (.rows 26 11 (List.map api_Trade.enc w42.2.2.1) false)), (1002, some (.box [.imm (.row 11 (List.map api_Trade.enc w42.2.2.2.1)), .i w42.2.2.2.2]))] 1003) ?_ ?_
 ·clear h
  refine W.block ?_
  refine W.loopF (fun (s_ : Int × Int × Bool × (List api_Trade) × (List api_Trade) × Int) => mkSt [(0, some (.imm (.row 31 (List.map lombardlaw23_Act.enc x0)))), (1, some (.i x1)), (2, some (.i x2)), (3, some (.i x3)), (9, some (.ptr 1000 0)), (10, some (.ptr 1002 0)), (11, some (.i s_.1))] [(1000, some (.box [.own 1001, .i s_.2.1, .b s_.2.2.1])), (1001, some (.rows 26 11 (List.map api_Trade.enc s_.2.2.2.1) false)), (1002, some (.box [.imm (.row 11 (List.map api_Trade.enc s_.2.2.2.2.1)), .i s_.2.2.2.2.2]))] 1003) b44 (Gives.mkR [] (.r rfl rfl (.r rfl rfl (.r rfl rfl (.r rfl rfl (.r rfl rfl (.r rfl rfl (.r rfl rfl .n))))))) (.r rfl rfl rfl (.r rfl rfl rfl (.c rfl (.box (.cons (.nil _) (.cons (.rfl _) .nil))) rfl rfl .n))) rfl rfl rfl) ?_
  rintro ⟨v14, v15, v16, v17, v18, v19⟩ s_ hr
  have h : lombardlaw23_TradeTells.b0 x0 v14 v15 v16 v17 v18 v19 = some s_ := hr
  unfold lombardlaw23_TradeTells.b0 at h
  refine W.seq ?_
  refine W.seq ?_
  refine W.fork (mkSt [(0, some (.imm (.row 31 (List.map lombardlaw23_Act.enc x0)))), (1, some (.i x1)), (2, some (.i x2)), (3, some (.i x3)), (9, some (.ptr 1000 0)), (10, some (.ptr 1002 0)), (11, some (.i v14)), (23, some (.b ((decide (v14 < (List.length x0 : Int))) && (decide (v14 < 60)))))] [(1000, some (.box [.own 1001, .i v15, .b v16])), (1001, some (.rows 26 11 (List.map api_Trade.enc v17) false)), (1002, some (.box [.imm (.row 11 (List.map api_Trade.enc v18)), .i v19]))] 1003) ?_ ?_
  ·refine W.cond rfl (fun q47 => ?_) (fun q47 => ?_)
   ·have h := ifT q47 h
    refine W.skip ?_
    refine W.seq ?_
    refine W.block ?_
    refine W.seq ?_
    obtain ⟨c48, h⟩ := chk h
    obtain ⟨t49, b50, h⟩ := bnd1 h
    obtain ⟨c51, h⟩ := chk h
    obtain ⟨t52, b53, h⟩ := bnd1 h
    refine W.fork (mkSt [(0, some (.imm (.row 31 (List.map lombardlaw23_Act.enc x0)))), (1, some (.i x1)), (2, some (.i x2)), (3, some (.i x3)), (9, some (.ptr 1000 0)), (10, some (.ptr 1002 0)), (11, some (.i v14)), (39, some (.b (t49 && (!t52.1))))] [(1000, some (.box [.own 1003, .i t52.2.1.next, .b t52.2.1.made])), (1002, some (.box [.imm (.row 11 (List.map api_Trade.enc t52.2.2.L)), .i t52.2.2.Next])), (1003, some (.rows 26 11 (List.map api_Trade.enc t52.2.1.l) false))] 1004) ?_ ?_
    ·refine W.cond rfl (fun q55 => ?_) (fun q55 => ?_)
     ·have h := ifT q55 h
      refine W.seq ?_
      refine W.pk ?_
      refine .a rfl rfl rfl rfl ?_
      refine .nil ?_
      refine W.ret ?_
      cases h
      refine rdR fun e_ => ?_
      subst e_
      have h := z45
      dsimp only at h
      refine fkR ?_
      cases h
      exact leaves (.inr rfl) rfl (.imm _) (cN (cN (cN (cN .nil)))) rfl rfl
     ·have h := ifF q55 h
      refine W.skip ?_
      refine W.pk ?_
      refine .m rfl rfl rfl rfl ?_
      refine .v rfl rfl (OpL.binI rfl rfl rfl rfl) ?_
      refine .a rfl rfl rfl rfl ?_
      refine .nil ?_
      cases h
      exact rdN (Gives.mkR [(1001, 1003)] (.r rfl rfl (.r rfl rfl (.r rfl rfl (.r rfl rfl (.r rfl rfl (.r rfl rfl (.r rfl rfl .n))))))) (.r rfl rfl rfl (.r rfl rfl rfl (.r rfl rfl rfl .n))) rfl rfl rfl)
    ·clear h
     rcases tf t49 with g54 | g54
     ·refine W.pk ?_
      refine .m rfl rfl rfl rfl ?_
      refine .m rfl rfl rfl rfl ?_
      refine .v rfl rfl (O.idx sl44 c48 rfl rfl rfl) ?_
      refine .v rfl rfl (O.ldN ty50 rfl rfl rfl) ?_
      refine .call (.b t49) [] 0 (lombardlaw23_short.ok b50) rfl rfl rfl ca21 rfl rfl (cC (.agg _ _ _ _ (cC (.imm _) (cC (.imm _) (cC (.imm _) (cC (.imm _) (cC (.imm _) (cC (.imm _) (cC (.imm _) (cC (.imm _) (cC (.imm _) (cC (.imm _) (cC (.imm _) (cC (.imm _) (cC (.imm _) (cC (.imm _) (cC (.imm _) (cC (.imm _) (cC (.imm _) (cC (.imm _) (cC (.imm _) (cC (.imm _) (cC (.imm _) (cC (.imm _) (cC (.imm _) (cC (.imm _) (cC (.imm _) (cC (.imm _) (cC (.imm _) (cC (.imm _) (cC (.imm _) (cC (.imm _) (cC (.imm _) .nil)))))))))))))))))))))))))))))))) .nil) rfl rfl rfl rfl rfl ?_
      refine .m rfl rfl rfl rfl ?_
      refine .m rfl (met rfl rfl rfl g54) rfl rfl ?_
      refine .m rfl (met rfl rfl rfl g54) rfl rfl ?_
      refine .m rfl (met rfl rfl rfl g54) rfl rfl ?_
      refine .v rfl (met rfl rfl rfl g54) (O.idx sl44 (c51 (by simp only [g54, Bool.true_or, Bool.or_true, Bool.false_or, Bool.or_false, Bool.true_and, Bool.and_true, Bool.false_and, Bool.and_false, Bool.not_true, Bool.not_false, cond_true, cond_false])) rfl rfl rfl) ?_
      refine .v rfl (met rfl rfl rfl g54) (O.ldN ty50 rfl rfl rfl) ?_
      refine .call (.b t52.1) [(1000, some (.box [.own 1003, .i t52.2.1.next, .b t52.2.1.made])), (1003, some (.rows 26 11 (List.map api_Trade.enc t52.2.1.l) false)), (1002, some (.box [.imm (.row 11 (List.map api_Trade.enc t52.2.2.L)), .i t52.2.2.Next])), (1000, none), (1001, none), (1002, none)] 1 (lombardlaw23_does_v2.ok ((if_pos (by simp only [g54, Bool.true_or, Bool.or_true, Bool.false_or, Bool.or_false, Bool.true_and, Bool.and_true, Bool.false_and, Bool.and_false, Bool.not_true, Bool.not_false, cond_true, cond_false])).symm.trans b53)) rfl (met rfl rfl rfl g54) rfl ca22 rfl rfl (cC (.ptr _ _ _ _ _ rfl (cC (.own _ _ _ _ rfl) (cC (.imm _) (cC (.imm _) .nil)))) (cC (.ptr _ _ _ _ _ rfl (cC (.imm _) (cC (.imm _) .nil))) (cC (.agg _ _ _ _ (cC (.imm _) (cC (.imm _) (cC (.imm _) (cC (.imm _) (cC (.imm _) (cC (.imm _) (cC (.imm _) (cC (.imm _) (cC (.imm _) (cC (.imm _) (cC (.imm _) (cC (.imm _) (cC (.imm _) (cC (.imm _) (cC (.imm _) (cC (.imm _) (cC (.imm _) (cC (.imm _) (cC (.imm _) (cC (.imm _) (cC (.imm _) (cC (.imm _) (cC (.imm _) (cC (.imm _) (cC (.imm _) (cC (.imm _) (cC (.imm _) (cC (.imm _) (cC (.imm _) (cC (.imm _) (cC (.imm _) .nil)))))))))))))))))))))))))))))))) .nil))) rfl rfl rfl rfl rfl ?_
      refine .v rfl (met rfl rfl rfl g54) (OpL.unV rfl rfl rfl) ?_
      refine .v rfl rfl (O.pickT g54 rfl rfl rfl) ?_
      refine .nil ?_
      exact toN (Gives.mkR [] (.r rfl rfl (.r rfl rfl (.r rfl rfl (.r rfl rfl (.r rfl rfl (.r rfl rfl (.r rfl rfl (.c rfl (sbb (by simp only [g54, Bool.true_or, Bool.or_true, Bool.false_or, Bool.or_false, Bool.true_and, Bool.and_true, Bool.false_and, Bool.and_false, Bool.not_true, Bool.not_false, cond_true, cond_false])) rfl .n)))))))) (.r rfl rfl rfl (.r rfl rfl rfl (.r rfl rfl rfl .n))) rfl rfl rfl)
     ·refine W.pk ?_
      refine .m rfl rfl rfl rfl ?_
      refine .m rfl rfl rfl rfl ?_
      refine .v rfl rfl (O.idx sl44 c48 rfl rfl rfl) ?_
      refine .v rfl rfl (O.ldN ty50 rfl rfl rfl) ?_
      refine .call (.b t49) [] 0 (lombardlaw23_short.ok b50) rfl rfl rfl ca21 rfl rfl (cC (.agg _ _ _ _ (cC (.imm _) (cC (.imm _) (cC (.imm _) (cC (.imm _) (cC (.imm _) (cC (.imm _) (cC (.imm _) (cC (.imm _) (cC (.imm _) (cC (.imm _) (cC (.imm _) (cC (.imm _) (cC (.imm _) (cC (.imm _) (cC (.imm _) (cC (.imm _) (cC (.imm _) (cC (.imm _) (cC (.imm _) (cC (.imm _) (cC (.imm _) (cC (.imm _) (cC (.imm _) (cC (.imm _) (cC (.imm _) (cC (.imm _) (cC (.imm _) (cC (.imm _) (cC (.imm _) (cC (.imm _) (cC (.imm _) .nil)))))))))))))))))))))))))))))))) .nil) rfl rfl rfl rfl rfl ?_
      refine .m rfl rfl rfl rfl ?_
      refine .x rfl (unmet rfl rfl rfl g54) ?_
      refine .x rfl (unmet rfl rfl rfl g54) ?_
      refine .x rfl (unmet rfl rfl rfl g54) ?_
      refine .x rfl (unmet rfl rfl rfl g54) ?_
      refine .x rfl (unmet rfl rfl rfl g54) ?_
      refine .x rfl (unmet rfl rfl rfl g54) ?_
      refine .x rfl (unmet rfl rfl rfl g54) ?_
      refine .v rfl rfl (O.pickF g54 rfl rfl rfl) ?_
      refine .nil ?_
      have e56 : t52 = (default, (⟨v17, v15, v16⟩ : trade_Book), (⟨v18, v19⟩ : lombardref23_Book)) := (Option.some.inj ((if_neg (by simp only [g54, Bool.true_or, Bool.or_true, Bool.false_or, Bool.or_false, Bool.true_and, Bool.and_true, Bool.false_and, Bool.and_false, Bool.not_true, Bool.not_false, cond_true, cond_false, Bool.true_eq_false, Bool.false_eq_true, false_and, and_false, true_and, and_true, not_false_eq_true])).symm.trans b53)).symm
      exact toN (Gives.mkR [(1003, 1001)] (.r rfl rfl (.r rfl rfl (.r rfl rfl (.r rfl rfl (.r rfl rfl (.r rfl rfl (.r rfl rfl (.c rfl (sbb (by first | (simp only [g54, e56, Bool.true_or, Bool.or_true, Bool.false_or, Bool.or_false, Bool.true_and, Bool.and_true, Bool.false_and, Bool.and_false, Bool.not_true, Bool.not_false, cond_true, cond_false]; done) | (repeat (first | rw [g54] | rw [e56])) <;> simp only [Bool.true_or, Bool.or_true, Bool.false_or, Bool.or_false, Bool.true_and, Bool.and_true, Bool.false_and, Bool.and_false, Bool.not_true, Bool.not_false, cond_true, cond_false])) rfl .n)))))))) (.c rfl (.box (.cons (.rfl _) (.cons (sii (by first | (simp only [g54, e56, Bool.true_or, Bool.or_true, Bool.false_or, Bool.or_false, Bool.true_and, Bool.and_true, Bool.false_and, Bool.and_false, Bool.not_true, Bool.not_false, cond_true, cond_false]; done) | (repeat (first | rw [g54] | rw [e56])) <;> simp only [Bool.true_or, Bool.or_true, Bool.false_or, Bool.or_false, Bool.true_and, Bool.and_true, Bool.false_and, Bool.and_false, Bool.not_true, Bool.not_false, cond_true, cond_false])) (.cons (sbb (by first | (simp only [g54, e56, Bool.true_or, Bool.or_true, Bool.false_or, Bool.or_false, Bool.true_and, Bool.and_true, Bool.false_and, Bool.and_false, Bool.not_true, Bool.not_false, cond_true, cond_false]; done) | (repeat (first | rw [g54] | rw [e56])) <;> simp only [Bool.true_or, Bool.or_true, Bool.false_or, Bool.or_false, Bool.true_and, Bool.and_true, Bool.false_and, Bool.and_false, Bool.not_true, Bool.not_false, cond_true, cond_false])) .nil)))) rfl rfl (.c rfl (.box (.cons (srr (by first | (simp only [g54, e56, Bool.true_or, Bool.or_true, Bool.false_or, Bool.or_false, Bool.true_and, Bool.and_true, Bool.false_and, Bool.and_false, Bool.not_true, Bool.not_false, cond_true, cond_false]; done) | (repeat (first | rw [g54] | rw [e56])) <;> simp only [Bool.true_or, Bool.or_true, Bool.false_or, Bool.or_false, Bool.true_and, Bool.and_true, Bool.false_and, Bool.and_false, Bool.not_true, Bool.not_false, cond_true, cond_false])) (.cons (sii (by first | (simp only [g54, e56, Bool.true_or, Bool.or_true, Bool.false_or, Bool.or_false, Bool.true_and, Bool.and_true, Bool.false_and, Bool.and_false, Bool.not_true, Bool.not_false, cond_true, cond_false]; done) | (repeat (first | rw [g54] | rw [e56])) <;> simp only [Bool.true_or, Bool.or_true, Bool.false_or, Bool.or_false, Bool.true_and, Bool.and_true, Bool.false_and, Bool.and_false, Bool.not_true, Bool.not_false, cond_true, cond_false])) .nil))) rfl rfl (.c rfl (kro (by first | (simp only [g54, e56, Bool.true_or, Bool.or_true, Bool.false_or, Bool.or_false, Bool.true_and, Bool.and_true, Bool.false_and, Bool.and_false, Bool.not_true, Bool.not_false, cond_true, cond_false]; done) | (repeat (first | rw [g54] | rw [e56])) <;> simp only [Bool.true_or, Bool.or_true, Bool.false_or, Bool.or_false, Bool.true_and, Bool.and_true, Bool.false_and, Bool.and_false, Bool.not_true, Bool.not_false, cond_true, cond_false])) rfl rfl .n))) rfl rfl rfl)
   ·have h := ifF q47 h
    refine W.exit ?_
    cases h
    refine rdX fun e_ => ?_
    subst e_
    repeat with_reducible refine thru ?_
    refine hit ?_
    exact fkN (Gives.mkR [] (.r rfl rfl (.r rfl rfl (.r rfl rfl (.r rfl rfl (.r rfl rfl .n))))) (.r rfl rfl rfl (.r rfl rfl rfl (.r rfl rfl rfl .n))) rfl rfl rfl)
  ·clear h
   rcases tf (decide (v14 < (List.length x0 : Int))) with g46 | g46
   ·refine W.pk ?_
    refine .m rfl rfl rfl rfl ?_
    refine .m rfl rfl rfl rfl ?_
    refine .v rfl rfl (O.lenR sl44 rfl rfl) ?_
    refine .v rfl rfl (OpL.binI rfl rfl rfl rfl) ?_
    refine .m rfl rfl rfl rfl ?_
    refine .m rfl (met rfl rfl rfl g46) rfl rfl ?_
    refine .v rfl (met rfl rfl rfl g46) (OpL.binI rfl rfl rfl rfl) ?_
    refine .v rfl rfl (O.pickT g46 rfl rfl rfl) ?_
    refine .nil ?_
    exact toN (Gives.mkR [] (.r rfl rfl (.r rfl rfl (.r rfl rfl (.r rfl rfl (.r rfl rfl (.r rfl rfl (.r rfl rfl (.c rfl (sbb (by simp only [g46, Bool.true_or, Bool.or_true, Bool.false_or, Bool.or_false, Bool.true_and, Bool.and_true, Bool.false_and, Bool.and_false, Bool.not_true, Bool.not_false, cond_true, cond_false])) rfl .n)))))))) (.r rfl rfl rfl (.r rfl rfl rfl (.r rfl rfl rfl .n))) rfl rfl rfl)
   ·refine W.pk ?_
    refine .m rfl rfl rfl rfl ?_
    refine .m rfl rfl rfl rfl ?_
    refine .v rfl rfl (O.lenR sl44 rfl rfl) ?_
    refine .v rfl rfl (OpL.binI rfl rfl rfl rfl) ?_
    refine .m rfl rfl rfl rfl ?_
    refine .x rfl (unmet rfl rfl rfl g46) ?_
    refine .x rfl (unmet rfl rfl rfl g46) ?_
    refine .v rfl rfl (O.pickF g46 rfl rfl rfl) ?_
    refine .nil ?_
    exact toN (Gives.mkR [] (.r rfl rfl (.r rfl rfl (.r rfl rfl (.r rfl rfl (.r rfl rfl (.r rfl rfl (.r rfl rfl (.c rfl (sbb (by simp only [g46, Bool.true_or, Bool.or_true, Bool.false_or, Bool.or_false, Bool.true_and, Bool.and_true, Bool.false_and, Bool.and_false, Bool.not_true, Bool.not_false, cond_true, cond_false])) rfl .n)))))))) (.r rfl rfl rfl (.r rfl rfl rfl (.r rfl rfl rfl .n))) rfl rfl rfl)
 ·intro w42 e_
  subst e_
  clear h
  have h := z45
  dsimp only at h
  refine W.seq ?_
  obtain ⟨t58, b59, h⟩ := bnd1 h
  refine W.pk ?_
  refine .m rfl rfl rfl rfl ?_
  refine .m rfl rfl rfl rfl ?_
  refine .call (.tup [.agg (api_Trade.av t58.1), .b t58.2]) [(1000, some (.box [.own 1003, .i ((⟨w42.2.2.1, w42.1, w42.2.1⟩ : trade_Book).next), .b ((⟨w42.2.2.1, w42.1, w42.2.1⟩ : trade_Book).made)])), (1003, some (.rows 26 11 (List.map api_Trade.enc ((⟨w42.2.2.1, w42.1, w42.2.1⟩ : trade_Book).l)) false)), (1000, none), (1001, none)] 1 (trade_Book_Get.ok b59) rfl rfl rfl ca23 rfl rfl (cC (.ptr _ _ _ _ _ rfl (cC (.own _ _ _ _ rfl) (cC (.imm _) (cC (.imm _) .nil)))) (cC (.imm _) .nil)) rfl rfl rfl rfl rfl ?_
  refine .m rfl rfl rfl rfl ?_
  refine .v rfl rfl (OpL.extract rfl rfl rfl) ?_
  refine .v rfl rfl (OpL.extract rfl rfl rfl) ?_
  refine .t rfl rfl (O.alloc z26 rfl) ?_
  refine .s rfl rfl (O.st ty26 rfl rfl rfl rfl rfl rfl rfl rfl rfl rfl (all' := [.i t58.1.ID, .i t58.1.Twin, .i t58.1.Member, .i t58.1.Side, .i t58.1.Basket, .i t58.1.Amount, .i t58.1.Start, .i t58.1.End, .imm (.row 2 (List.map api_Reset.enc t58.1.Resets)), .i t58.1.Stage, .b t58.1.Short]) rfl) ?_
  refine .a rfl rfl rfl rfl ?_
  refine .nil ?_
  refine W.seq ?_
  obtain ⟨t60, b61, h⟩ := bnd1 h
  refine W.pk ?_
  refine .v rfl rfl (O.ldN ty47 rfl rfl rfl) ?_
  refine .m rfl rfl rfl rfl ?_
  refine .call (.i t60) [] 0 (lombardref23_Book_Find.ok b61) rfl rfl rfl ca24 rfl rfl (cC (.agg _ _ _ _ (cC (.imm _) (cC (.imm _) .nil))) (cC (.imm _) .nil)) rfl rfl rfl rfl rfl ?_
  refine .a rfl rfl rfl rfl ?_
  refine .nil ?_
  refine W.seq ?_
  refine W.seq ?_
  obtain ⟨c62, h⟩ := chk h
  obtain ⟨t63, b64, h⟩ := bnd1 h
  refine W.fork (mkSt [(2, some (.i x2)), (3, some (.i x3)), (9, some (.ptr 1000 0)), (10, some (.ptr 1002 0)), (74, some (.b (((!(t58.2 == (decide (t60 ≥ 0)))) || (t58.2 && (!t63))) || ((!t58.2) && (t58.1.ID != 0)))))] [(1000, some (.box [.own 1003, .i ((⟨w42.2.2.1, w42.1, w42.2.1⟩ : trade_Book).next), .b ((⟨w42.2.2.1, w42.1, w42.2.1⟩ : trade_Book).made)])), (1002, some (.box [.imm (.row 11 (List.map api_Trade.enc w42.2.2.2.1)), .i w42.2.2.2.2])), (1003, some (.rows 26 11 (List.map api_Trade.enc ((⟨w42.2.2.1, w42.1, w42.2.1⟩ : trade_Book).l)) false))] 1005) ?_ ?_
  ·refine W.cond rfl (fun q68 => ?_) (fun q68 => ?_)
   ·have h := ifT q68 h
    refine W.seq ?_
    refine W.pk ?_
    refine .a rfl rfl rfl rfl ?_
    refine .nil ?_
    refine W.ret ?_
    cases h
    exact leaves (.inr rfl) rfl (.imm _) (cN (cN (cN (cN .nil)))) rfl rfl
   ·have h := ifF q68 h
    refine W.skip ?_
    refine W.seq ?_
    obtain ⟨t69, b70, h⟩ := bnd1 h
    obtain ⟨t71, b72, h⟩ := bnd1 h
    obtain ⟨t73, b74, h⟩ := bnd1 h
    obtain ⟨t75, b76, h⟩ := bnd1 h
    obtain ⟨t77, b78, h⟩ := bnd1 h
    obtain ⟨t79, b80, h⟩ := bnd1 h
    refine W.fork (mkSt [(8, some (.b ((t73 && (t75 == t77)) && t79)))] [] 1009) ?_ ?_
    ·refine W.ret ?_
     cases h
     exact leaves (.inr rfl) rfl (.imm _) (cN (cN (cN (cN .nil)))) rfl rfl
    ·clear h
     rcases tf t73 with g81 | g81
     ·rcases tf (t75 == t77) with g82 | g82
      ·refine W.dk (unm 22 [0, 0, 0, 7, 0, 0, 0, 127, 255, 511, 1023, 1023, 4095, 1023, 1023, 32767, 65535, 131071, 262143, 524287, 1048575, 2097151]) rfl (by kernel_rfl) ?_
       refine .m rfl rfl rfl rfl ?_
       refine .m rfl rfl rfl rfl ?_
       refine .m rfl rfl rfl rfl ?_
       refine .call (.own 1005) [(1005, some (.rows 26 11 (List.map api_Trade.enc t69) false)), (1000, some (.box [.own 1006, .i ((⟨w42.2.2.1, w42.1, w42.2.1⟩ : trade_Book).next), .b ((⟨w42.2.2.1, w42.1, w42.2.1⟩ : trade_Book).made)])), (1006, some (.rows 26 11 (List.map api_Trade.enc ((⟨w42.2.2.1, w42.1, w42.2.1⟩ : trade_Book).l)) false)), (1000, none), (1003, none)] 2 (trade_Book_Of.ok b70) rfl rfl rfl ca26 rfl rfl (cC (.ptr _ _ _ _ _ rfl (cC (.own _ _ _ _ rfl) (cC (.imm _) (cC (.imm _) .nil)))) (cC (.imm _) (cC (.imm _) .nil))) rfl rfl rfl rfl rfl ?_
       refine .v rfl rfl (O.ldN ty47 rfl rfl rfl) ?_
       refine .m rfl rfl rfl rfl ?_
       refine .m rfl rfl rfl rfl ?_
       refine .call (.own 1007) [(1007, some (.rows 26 11 (List.map api_Trade.enc t71) false))] 1 (lombardref23_Book_Of.ok b72) rfl rfl rfl ca27 rfl rfl (cC (.agg _ _ _ _ (cC (.imm _) (cC (.imm _) .nil))) (cC (.imm _) (cC (.imm _) .nil))) rfl rfl rfl rfl rfl ?_
       refine .call (.b t73) [(1005, some (.rows 26 11 (List.map api_Trade.enc t69) false)), (1007, some (.rows 26 11 (List.map api_Trade.enc t71) false)), (1005, none), (1007, none)] 0 (lombardref23_All_v2.ok b74) rfl rfl rfl ca17 rfl rfl (cC (.own _ _ _ _ rfl) (cC (.own _ _ _ _ rfl) .nil)) rfl rfl rfl rfl rfl ?_
       refine .m rfl rfl rfl rfl ?_
       refine .m rfl (met rfl rfl rfl g81) rfl rfl ?_
       refine .m rfl (met rfl rfl rfl g81) rfl rfl ?_
       refine .call (.i t75) [(1000, some (.box [.own 1008, .i ((⟨w42.2.2.1, w42.1, w42.2.1⟩ : trade_Book).next), .b ((⟨w42.2.2.1, w42.1, w42.2.1⟩ : trade_Book).made)])), (1008, some (.rows 26 11 (List.map api_Trade.enc ((⟨w42.2.2.1, w42.1, w42.2.1⟩ : trade_Book).l)) false)), (1000, none), (1006, none)] 1 (trade_Book_Borrowed.ok ((if_pos (by first | (simp only [g81, g82, Bool.true_or, Bool.or_true, Bool.false_or, Bool.or_false, Bool.true_and, Bool.and_true, Bool.false_and, Bool.and_false, Bool.not_true, Bool.not_false, cond_true, cond_false]; done) | (repeat (first | rw [g81] | rw [g82])) <;> simp only [Bool.true_or, Bool.or_true, Bool.false_or, Bool.or_false, Bool.true_and, Bool.and_true, Bool.false_and, Bool.and_false, Bool.not_true, Bool.not_false, cond_true, cond_false])).symm.trans b76)) rfl (met rfl rfl rfl g81) rfl ca28 rfl rfl (cC (.ptr _ _ _ _ _ rfl (cC (.own _ _ _ _ rfl) (cC (.imm _) (cC (.imm _) .nil)))) (cC (.imm _) .nil)) rfl rfl rfl rfl rfl ?_
       refine .v rfl (met rfl rfl rfl g81) (O.ldN ty47 rfl rfl rfl) ?_
       refine .m rfl (met rfl rfl rfl g81) rfl rfl ?_
       refine .call (.i t77) [] 0 (lombardref23_Book_Borrowed.ok ((if_pos (by first | (simp only [g81, g82, Bool.true_or, Bool.or_true, Bool.false_or, Bool.or_false, Bool.true_and, Bool.and_true, Bool.false_and, Bool.and_false, Bool.not_true, Bool.not_false, cond_true, cond_false]; done) | (repeat (first | rw [g81] | rw [g82])) <;> simp only [Bool.true_or, Bool.or_true, Bool.false_or, Bool.or_false, Bool.true_and, Bool.and_true, Bool.false_and, Bool.and_false, Bool.not_true, Bool.not_false, cond_true, cond_false])).symm.trans b78)) rfl (met rfl rfl rfl g81) rfl ca29 rfl rfl (cC (.agg _ _ _ _ (cC (.imm _) (cC (.imm _) .nil))) (cC (.imm _) .nil)) rfl rfl rfl rfl rfl ?_
       refine .v rfl (met rfl rfl rfl g81) (OpL.binI rfl rfl rfl rfl) ?_
       refine .v rfl rfl (O.pickT g81 rfl rfl rfl) ?_
       refine .m rfl rfl rfl rfl ?_
       refine .call (.b t79) [] 0 (lombardlaw23_awake.ok ((if_pos (by first | (simp only [g81, g82, Bool.true_or, Bool.or_true, Bool.false_or, Bool.or_false, Bool.true_and, Bool.and_true, Bool.false_and, Bool.and_false, Bool.not_true, Bool.not_false, cond_true, cond_false]; done) | (repeat (first | rw [g81] | rw [g82])) <;> simp only [Bool.true_or, Bool.or_true, Bool.false_or, Bool.or_false, Bool.true_and, Bool.and_true, Bool.false_and, Bool.and_false, Bool.not_true, Bool.not_false, cond_true, cond_false])).symm.trans b80)) rfl (met rfl rfl rfl g82) rfl ca8 rfl rfl .nil rfl rfl rfl rfl rfl ?_
       refine .v rfl rfl (O.pickT g82 rfl rfl rfl) ?_
       refine .a rfl rfl rfl rfl ?_
       refine .nil ?_
       refine ⟨by kernel_rfl, by kernel_rfl, ?_⟩
       exact toN (Gives.mkR [] (.c rfl (sbb (by first | (simp only [g81, g82, Bool.true_or, Bool.or_true, Bool.false_or, Bool.or_false, Bool.true_and, Bool.and_true, Bool.false_and, Bool.and_false, Bool.not_true, Bool.not_false, cond_true, cond_false]; done) | (repeat (first | rw [g81] | rw [g82])) <;> simp only [Bool.true_or, Bool.or_true, Bool.false_or, Bool.or_false, Bool.true_and, Bool.and_true, Bool.false_and, Bool.and_false, Bool.not_true, Bool.not_false, cond_true, cond_false])) rfl .n) .n rfl rfl rfl)
      ·refine W.dk (unm 22 [0, 0, 0, 7, 0, 0, 0, 127, 255, 511, 1023, 1023, 4095, 1023, 1023, 32767, 65535, 131071, 262143, 524287, 1048575, 2097151]) rfl (by kernel_rfl) ?_
       refine .m rfl rfl rfl rfl ?_
       refine .m rfl rfl rfl rfl ?_
       refine .m rfl rfl rfl rfl ?_
       refine .call (.own 1005) [(1005, some (.rows 26 11 (List.map api_Trade.enc t69) false)), (1000, some (.box [.own 1006, .i ((⟨w42.2.2.1, w42.1, w42.2.1⟩ : trade_Book).next), .b ((⟨w42.2.2.1, w42.1, w42.2.1⟩ : trade_Book).made)])), (1006, some (.rows 26 11 (List.map api_Trade.enc ((⟨w42.2.2.1, w42.1, w42.2.1⟩ : trade_Book).l)) false)), (1000, none), (1003, none)] 2 (trade_Book_Of.ok b70) rfl rfl rfl ca26 rfl rfl (cC (.ptr _ _ _ _ _ rfl (cC (.own _ _ _ _ rfl) (cC (.imm _) (cC (.imm _) .nil)))) (cC (.imm _) (cC (.imm _) .nil))) rfl rfl rfl rfl rfl ?_
       refine .v rfl rfl (O.ldN ty47 rfl rfl rfl) ?_
       refine .m rfl rfl rfl rfl ?_
       refine .m rfl rfl rfl rfl ?_
       refine .call (.own 1007) [(1007, some (.rows 26 11 (List.map api_Trade.enc t71) false))] 1 (lombardref23_Book_Of.ok b72) rfl rfl rfl ca27 rfl rfl (cC (.agg _ _ _ _ (cC (.imm _) (cC (.imm _) .nil))) (cC (.imm _) (cC (.imm _) .nil))) rfl rfl rfl rfl rfl ?_
       refine .call (.b t73) [(1005, some (.rows 26 11 (List.map api_Trade.enc t69) false)), (1007, some (.rows 26 11 (List.map api_Trade.enc t71) false)), (1005, none), (1007, none)] 0 (lombardref23_All_v2.ok b74) rfl rfl rfl ca17 rfl rfl (cC (.own _ _ _ _ rfl) (cC (.own _ _ _ _ rfl) .nil)) rfl rfl rfl rfl rfl ?_
       refine .m rfl rfl rfl rfl ?_
       refine .m rfl (met rfl rfl rfl g81) rfl rfl ?_
       refine .m rfl (met rfl rfl rfl g81) rfl rfl ?_
       refine .call (.i t75) [(1000, some (.box [.own 1008, .i ((⟨w42.2.2.1, w42.1, w42.2.1⟩ : trade_Book).next), .b ((⟨w42.2.2.1, w42.1, w42.2.1⟩ : trade_Book).made)])), (1008, some (.rows 26 11 (List.map api_Trade.enc ((⟨w42.2.2.1, w42.1, w42.2.1⟩ : trade_Book).l)) false)), (1000, none), (1006, none)] 1 (trade_Book_Borrowed.ok ((if_pos (by first | (simp only [g81, g82, Bool.true_or, Bool.or_true, Bool.false_or, Bool.or_false, Bool.true_and, Bool.and_true, Bool.false_and, Bool.and_false, Bool.not_true, Bool.not_false, cond_true, cond_false]; done) | (repeat (first | rw [g81] | rw [g82])) <;> simp only [Bool.true_or, Bool.or_true, Bool.false_or, Bool.or_false, Bool.true_and, Bool.and_true, Bool.false_and, Bool.and_false, Bool.not_true, Bool.not_false, cond_true, cond_false])).symm.trans b76)) rfl (met rfl rfl rfl g81) rfl ca28 rfl rfl (cC (.ptr _ _ _ _ _ rfl (cC (.own _ _ _ _ rfl) (cC (.imm _) (cC (.imm _) .nil)))) (cC (.imm _) .nil)) rfl rfl rfl rfl rfl ?_
       refine .v rfl (met rfl rfl rfl g81) (O.ldN ty47 rfl rfl rfl) ?_
       refine .m rfl (met rfl rfl rfl g81) rfl rfl ?_
       refine .call (.i t77) [] 0 (lombardref23_Book_Borrowed.ok ((if_pos (by first | (simp only [g81, g82, Bool.true_or, Bool.or_true, Bool.false_or, Bool.or_false, Bool.true_and, Bool.and_true, Bool.false_and, Bool.and_false, Bool.not_true, Bool.not_false, cond_true, cond_false]; done) | (repeat (first | rw [g81] | rw [g82])) <;> simp only [Bool.true_or, Bool.or_true, Bool.false_or, Bool.or_false, Bool.true_and, Bool.and_true, Bool.false_and, Bool.and_false, Bool.not_true, Bool.not_false, cond_true, cond_false])).symm.trans b78)) rfl (met rfl rfl rfl g81) rfl ca29 rfl rfl (cC (.agg _ _ _ _ (cC (.imm _) (cC (.imm _) .nil))) (cC (.imm _) .nil)) rfl rfl rfl rfl rfl ?_
       refine .v rfl (met rfl rfl rfl g81) (OpL.binI rfl rfl rfl rfl) ?_
       refine .v rfl rfl (O.pickT g81 rfl rfl rfl) ?_
       refine .m rfl rfl rfl rfl ?_
       refine .x rfl (unmet rfl rfl rfl g82) ?_
       refine .v rfl rfl (O.pickF g82 rfl rfl rfl) ?_
       refine .a rfl rfl rfl rfl ?_
       refine .nil ?_
       refine ⟨by kernel_rfl, by kernel_rfl, ?_⟩
       exact toN (Gives.mkR [] (.c rfl (sbb (by first | (simp only [g81, g82, Bool.true_or, Bool.or_true, Bool.false_or, Bool.or_false, Bool.true_and, Bool.and_true, Bool.false_and, Bool.and_false, Bool.not_true, Bool.not_false, cond_true, cond_false]; done) | (repeat (first | rw [g81] | rw [g82])) <;> simp only [Bool.true_or, Bool.or_true, Bool.false_or, Bool.or_false, Bool.true_and, Bool.and_true, Bool.false_and, Bool.and_false, Bool.not_true, Bool.not_false, cond_true, cond_false])) rfl .n) .n rfl rfl rfl)
     ·refine W.dk (unm 22 [0, 0, 0, 7, 0, 0, 0, 127, 255, 511, 1023, 1023, 4095, 1023, 1023, 32767, 65535, 131071, 262143, 524287, 1048575, 2097151]) rfl (by kernel_rfl) ?_
      refine .m rfl rfl rfl rfl ?_
      refine .m rfl rfl rfl rfl ?_
      refine .m rfl rfl rfl rfl ?_
      refine .call (.own 1005) [(1005, some (.rows 26 11 (List.map api_Trade.enc t69) false)), (1000, some (.box [.own 1006, .i ((⟨w42.2.2.1, w42.1, w42.2.1⟩ : trade_Book).next), .b ((⟨w42.2.2.1, w42.1, w42.2.1⟩ : trade_Book).made)])), (1006, some (.rows 26 11 (List.map api_Trade.enc ((⟨w42.2.2.1, w42.1, w42.2.1⟩ : trade_Book).l)) false)), (1000, none), (1003, none)] 2 (trade_Book_Of.ok b70) rfl rfl rfl ca26 rfl rfl (cC (.ptr _ _ _ _ _ rfl (cC (.own _ _ _ _ rfl) (cC (.imm _) (cC (.imm _) .nil)))) (cC (.imm _) (cC (.imm _) .nil))) rfl rfl rfl rfl rfl ?_
      refine .v rfl rfl (O.ldN ty47 rfl rfl rfl) ?_
      refine .m rfl rfl rfl rfl ?_
      refine .m rfl rfl rfl rfl ?_
      refine .call (.own 1007) [(1007, some (.rows 26 11 (List.map api_Trade.enc t71) false))] 1 (lombardref23_Book_Of.ok b72) rfl rfl rfl ca27 rfl rfl (cC (.agg _ _ _ _ (cC (.imm _) (cC (.imm _) .nil))) (cC (.imm _) (cC (.imm _) .nil))) rfl rfl rfl rfl rfl ?_
      refine .call (.b t73) [(1005, some (.rows 26 11 (List.map api_Trade.enc t69) false)), (1007, some (.rows 26 11 (List.map api_Trade.enc t71) false)), (1005, none), (1007, none)] 0 (lombardref23_All_v2.ok b74) rfl rfl rfl ca17 rfl rfl (cC (.own _ _ _ _ rfl) (cC (.own _ _ _ _ rfl) .nil)) rfl rfl rfl rfl rfl ?_
      refine .m rfl rfl rfl rfl ?_
      refine .x rfl (unmet rfl rfl rfl g81) ?_
      refine .x rfl (unmet rfl rfl rfl g81) ?_
      refine .x rfl (unmet rfl rfl rfl g81) ?_
      refine .x rfl (unmet rfl rfl rfl g81) ?_
      refine .x rfl (unmet rfl rfl rfl g81) ?_
      refine .x rfl (unmet rfl rfl rfl g81) ?_
      refine .x rfl (unmet rfl rfl rfl g81) ?_
      refine .v rfl rfl (O.pickF g81 rfl rfl rfl) ?_
      refine .m rfl rfl rfl rfl ?_
      refine .x rfl (unmet rfl rfl rfl rfl) ?_
      refine .v rfl rfl (O.pickF rfl rfl rfl rfl) ?_
      refine .a rfl rfl rfl rfl ?_
      refine .nil ?_
      refine ⟨by kernel_rfl, by kernel_rfl, ?_⟩
      exact toN (Gives.mkR [] (.c rfl (sbb (by simp only [g81, Bool.true_or, Bool.or_true, Bool.false_or, Bool.or_false, Bool.true_and, Bool.and_true, Bool.false_and, Bool.and_false, Bool.not_true, Bool.not_false, cond_true, cond_false])) rfl .n) .n rfl rfl rfl)
  ·clear h
   rcases tf (t58.2 == (decide (t60 ≥ 0))) with g65 | g65
   ·rcases tf t58.2 with g66 | g66
    ·rcases tf t63 with g67 | g67
     ·refine W.dk (unm 26 [0, 0, 2, 7, 15, 31, 63, 127, 127, 383, 127, 1919, 3967, 8191, 16383, 32767, 65535, 131071, 262143, 524287, 1048575, 2097151, 4194303, 8388607, 16777215, 33554431]) rfl (by kernel_rfl) ?_
      refine .m rfl rfl rfl rfl ?_
      refine .m rfl rfl rfl rfl ?_
      refine .v rfl rfl (OpL.binI rfl rfl rfl rfl) ?_
      refine .v rfl rfl (OpL.neB rfl u4 rfl rfl) ?_
      refine .m rfl rfl rfl rfl ?_
      refine .m rfl (met rfl rfl rfl (notT g65)) rfl rfl ?_
      refine .m rfl (met rfl rfl rfl (notT g65)) rfl rfl ?_
      refine .v rfl (met rfl rfl rfl g66) (O.ldN ty26 rfl rfl rfl) ?_
      refine .v rfl (met rfl rfl rfl g66) (O.fld fld47_0 rfl rfl rfl) ?_
      refine .v rfl (met rfl rfl rfl g66) (O.ld (y := .imm (.row 11 (List.map api_Trade.enc w42.2.2.2.1))) ty35 rfl rfl rfl) ?_
      refine .m rfl (met rfl rfl rfl g66) rfl rfl ?_
      refine .v rfl (met rfl rfl rfl g66) (O.idx sl35 (c62 ⟨(by first | (simp only [g65, g66, g67, Bool.true_or, Bool.or_true, Bool.false_or, Bool.or_false, Bool.true_and, Bool.and_true, Bool.false_and, Bool.and_false, Bool.not_true, Bool.not_false, cond_true, cond_false]; done) | (repeat (first | rw [g65] | rw [g66] | rw [g67])) <;> simp only [Bool.true_or, Bool.or_true, Bool.false_or, Bool.or_false, Bool.true_and, Bool.and_true, Bool.false_and, Bool.and_false, Bool.not_true, Bool.not_false, cond_true, cond_false]), (by first | (simp only [g65, g66, g67, Bool.true_or, Bool.or_true, Bool.false_or, Bool.or_false, Bool.true_and, Bool.and_true, Bool.false_and, Bool.and_false, Bool.not_true, Bool.not_false, cond_true, cond_false]; done) | (repeat (first | rw [g65] | rw [g66] | rw [g67])) <;> simp only [Bool.true_or, Bool.or_true, Bool.false_or, Bool.or_false, Bool.true_and, Bool.and_true, Bool.false_and, Bool.and_false, Bool.not_true, Bool.not_false, cond_true, cond_false])⟩) rfl rfl rfl) ?_
      refine .v rfl (met rfl rfl rfl g66) (O.ldN ty26 rfl rfl rfl) ?_
      refine .call (.b t63) [] 0 (lombardref23_Same.ok ((if_pos ⟨(by first | (simp only [g65, g66, g67, Bool.true_or, Bool.or_true, Bool.false_or, Bool.or_false, Bool.true_and, Bool.and_true, Bool.false_and, Bool.and_false, Bool.not_true, Bool.not_false, cond_true, cond_false]; done) | (repeat (first | rw [g65] | rw [g66] | rw [g67])) <;> simp only [Bool.true_or, Bool.or_true, Bool.false_or, Bool.or_false, Bool.true_and, Bool.and_true, Bool.false_and, Bool.and_false, Bool.not_true, Bool.not_false, cond_true, cond_false]), (by first | (simp only [g65, g66, g67, Bool.true_or, Bool.or_true, Bool.false_or, Bool.or_false, Bool.true_and, Bool.and_true, Bool.false_and, Bool.and_false, Bool.not_true, Bool.not_false, cond_true, cond_false]; done) | (repeat (first | rw [g65] | rw [g66] | rw [g67])) <;> simp only [Bool.true_or, Bool.or_true, Bool.false_or, Bool.or_false, Bool.true_and, Bool.and_true, Bool.false_and, Bool.and_false, Bool.not_true, Bool.not_false, cond_true, cond_false])⟩).symm.trans b64)) rfl (met rfl rfl rfl g66) rfl ca25 rfl rfl (cC (.agg _ _ _ _ (cC (.imm _) (cC (.imm _) (cC (.imm _) (cC (.imm _) (cC (.imm _) (cC (.imm _) (cC (.imm _) (cC (.imm _) (cC (.imm _) (cC (.imm _) (cC (.imm _) .nil)))))))))))) (cC (.agg _ _ _ _ (cC (.imm _) (cC (.imm _) (cC (.imm _) (cC (.imm _) (cC (.imm _) (cC (.imm _) (cC (.imm _) (cC (.imm _) (cC (.imm _) (cC (.imm _) (cC (.imm _) .nil)))))))))))) .nil)) rfl rfl rfl rfl rfl ?_
      refine .v rfl (met rfl rfl rfl g66) (OpL.unV rfl rfl rfl) ?_
      refine .v rfl (met rfl rfl rfl (notT g65)) (O.pickT g66 rfl rfl rfl) ?_
      refine .v rfl rfl (O.pickF (notT g65) rfl rfl rfl) ?_
      refine .m rfl rfl rfl rfl ?_
      refine .m rfl (met rfl rfl rfl (notT g67)) rfl rfl ?_
      refine .v rfl (met rfl rfl rfl (notT g67)) (OpL.unV rfl rfl rfl) ?_
      refine .m rfl (met rfl rfl rfl (notT g67)) rfl rfl ?_
      refine .x rfl (unmet rfl rfl rfl (notT g66)) ?_
      refine .x rfl (unmet rfl rfl rfl (notT g66)) ?_
      refine .x rfl (unmet rfl rfl rfl (notT g66)) ?_
      refine .v rfl (met rfl rfl rfl (notT g67)) (O.pickF (notT g66) rfl rfl rfl) ?_
      refine .v rfl rfl (O.pickF (notT g67) rfl rfl rfl) ?_
      refine .nil ?_
      refine ⟨by kernel_rfl, by kernel_rfl, ?_⟩
      exact toN (Gives.mkR [] (.r rfl rfl (.r rfl rfl (.r rfl rfl (.r rfl rfl (.c rfl (sbb (by first | (simp only [g65, g66, g67, Bool.true_or, Bool.or_true, Bool.false_or, Bool.or_false, Bool.true_and, Bool.and_true, Bool.false_and, Bool.and_false, Bool.not_true, Bool.not_false, cond_true, cond_false]; done) | (repeat (first | rw [g65] | rw [g66] | rw [g67])) <;> simp only [Bool.true_or, Bool.or_true, Bool.false_or, Bool.or_false, Bool.true_and, Bool.and_true, Bool.false_and, Bool.and_false, Bool.not_true, Bool.not_false, cond_true, cond_false])) rfl .n))))) (.r rfl rfl rfl (.r rfl rfl rfl (.r rfl rfl rfl .n))) rfl rfl rfl)
     ·refine W.dk (unm 26 [0, 0, 2, 7, 15, 31, 63, 127, 127, 383, 127, 1919, 3967, 8191, 16383, 32767, 65535, 131071, 262143, 524287, 1048575, 2097151, 4194303, 8388607, 16777215, 33554431]) rfl (by kernel_rfl) ?_
      refine .m rfl rfl rfl rfl ?_
      refine .m rfl rfl rfl rfl ?_
      refine .v rfl rfl (OpL.binI rfl rfl rfl rfl) ?_
      refine .v rfl rfl (OpL.neB rfl u4 rfl rfl) ?_
      refine .m rfl rfl rfl rfl ?_
      refine .m rfl (met rfl rfl rfl (notT g65)) rfl rfl ?_
      refine .m rfl (met rfl rfl rfl (notT g65)) rfl rfl ?_
      refine .v rfl (met rfl rfl rfl g66) (O.ldN ty26 rfl rfl rfl) ?_
      refine .v rfl (met rfl rfl rfl g66) (O.fld fld47_0 rfl rfl rfl) ?_
      refine .v rfl (met rfl rfl rfl g66) (O.ld (y := .imm (.row 11 (List.map api_Trade.enc w42.2.2.2.1))) ty35 rfl rfl rfl) ?_
      refine .m rfl (met rfl rfl rfl g66) rfl rfl ?_
      refine .v rfl (met rfl rfl rfl g66) (O.idx sl35 (c62 ⟨(by first | (simp only [g65, g66, g67, Bool.true_or, Bool.or_true, Bool.false_or, Bool.or_false, Bool.true_and, Bool.and_true, Bool.false_and, Bool.and_false, Bool.not_true, Bool.not_false, cond_true, cond_false]; done) | (repeat (first | rw [g65] | rw [g66] | rw [g67])) <;> simp only [Bool.true_or, Bool.or_true, Bool.false_or, Bool.or_false, Bool.true_and, Bool.and_true, Bool.false_and, Bool.and_false, Bool.not_true, Bool.not_false, cond_true, cond_false]), (by first | (simp only [g65, g66, g67, Bool.true_or, Bool.or_true, Bool.false_or, Bool.or_false, Bool.true_and, Bool.and_true, Bool.false_and, Bool.and_false, Bool.not_true, Bool.not_false, cond_true, cond_false]; done) | (repeat (first | rw [g65] | rw [g66] | rw [g67])) <;> simp only [Bool.true_or, Bool.or_true, Bool.false_or, Bool.or_false, Bool.true_and, Bool.and_true, Bool.false_and, Bool.and_false, Bool.not_true, Bool.not_false, cond_true, cond_false])⟩) rfl rfl rfl) ?_
      refine .v rfl (met rfl rfl rfl g66) (O.ldN ty26 rfl rfl rfl) ?_
      refine .call (.b t63) [] 0 (lombardref23_Same.ok ((if_pos ⟨(by first | (simp only [g65, g66, g67, Bool.true_or, Bool.or_true, Bool.false_or, Bool.or_false, Bool.true_and, Bool.and_true, Bool.false_and, Bool.and_false, Bool.not_true, Bool.not_false, cond_true, cond_false]; done) | (repeat (first | rw [g65] | rw [g66] | rw [g67])) <;> simp only [Bool.true_or, Bool.or_true, Bool.false_or, Bool.or_false, Bool.true_and, Bool.and_true, Bool.false_and, Bool.and_false, Bool.not_true, Bool.not_false, cond_true, cond_false]), (by first | (simp only [g65, g66, g67, Bool.true_or, Bool.or_true, Bool.false_or, Bool.or_false, Bool.true_and, Bool.and_true, Bool.false_and, Bool.and_false, Bool.not_true, Bool.not_false, cond_true, cond_false]; done) | (repeat (first | rw [g65] | rw [g66] | rw [g67])) <;> simp only [Bool.true_or, Bool.or_true, Bool.false_or, Bool.or_false, Bool.true_and, Bool.and_true, Bool.false_and, Bool.and_false, Bool.not_true, Bool.not_false, cond_true, cond_false])⟩).symm.trans b64)) rfl (met rfl rfl rfl g66) rfl ca25 rfl rfl (cC (.agg _ _ _ _ (cC (.imm _) (cC (.imm _) (cC (.imm _) (cC (.imm _) (cC (.imm _) (cC (.imm _) (cC (.imm _) (cC (.imm _) (cC (.imm _) (cC (.imm _) (cC (.imm _) .nil)))))))))))) (cC (.agg _ _ _ _ (cC (.imm _) (cC (.imm _) (cC (.imm _) (cC (.imm _) (cC (.imm _) (cC (.imm _) (cC (.imm _) (cC (.imm _) (cC (.imm _) (cC (.imm _) (cC (.imm _) .nil)))))))))))) .nil)) rfl rfl rfl rfl rfl ?_
      refine .v rfl (met rfl rfl rfl g66) (OpL.unV rfl rfl rfl) ?_
      refine .v rfl (met rfl rfl rfl (notT g65)) (O.pickT g66 rfl rfl rfl) ?_
      refine .v rfl rfl (O.pickF (notT g65) rfl rfl rfl) ?_
      refine .m rfl rfl rfl rfl ?_
      refine .x rfl (unmet rfl rfl rfl (notF g67)) ?_
      refine .x rfl (unmet rfl rfl rfl (notF g67)) ?_
      refine .x rfl (unmet rfl rfl rfl (notF g67)) ?_
      refine .x rfl (unmetU rfl rfl rfl) ?_
      refine .x rfl (unmetU rfl rfl rfl) ?_
      refine .x rfl (unmetU rfl rfl rfl) ?_
      refine .x rfl (unmet rfl rfl rfl (notF g67)) ?_
      refine .v rfl rfl (O.pickT (notF g67) rfl rfl rfl) ?_
      refine .nil ?_
      refine ⟨by kernel_rfl, by kernel_rfl, ?_⟩
      exact toN (Gives.mkR [] (.r rfl rfl (.r rfl rfl (.r rfl rfl (.r rfl rfl (.c rfl (sbb (by first | (simp only [g65, g66, g67, Bool.true_or, Bool.or_true, Bool.false_or, Bool.or_false, Bool.true_and, Bool.and_true, Bool.false_and, Bool.and_false, Bool.not_true, Bool.not_false, cond_true, cond_false]; done) | (repeat (first | rw [g65] | rw [g66] | rw [g67])) <;> simp only [Bool.true_or, Bool.or_true, Bool.false_or, Bool.or_false, Bool.true_and, Bool.and_true, Bool.false_and, Bool.and_false, Bool.not_true, Bool.not_false, cond_true, cond_false])) rfl .n))))) (.r rfl rfl rfl (.r rfl rfl rfl (.r rfl rfl rfl .n))) rfl rfl rfl)
    ·refine W.dk (unm 26 [0, 0, 2, 7, 15, 31, 63, 127, 127, 383, 127, 1919, 3967, 8191, 16383, 32767, 65535, 131071, 262143, 524287, 1048575, 2097151, 4194303, 8388607, 16777215, 33554431]) rfl (by kernel_rfl) ?_
     refine .m rfl rfl rfl rfl ?_
     refine .m rfl rfl rfl rfl ?_
     refine .v rfl rfl (OpL.binI rfl rfl rfl rfl) ?_
     refine .v rfl rfl (OpL.neB rfl u4 rfl rfl) ?_
     refine .m rfl rfl rfl rfl ?_
     refine .m rfl (met rfl rfl rfl (notT g65)) rfl rfl ?_
     refine .m rfl (met rfl rfl rfl (notT g65)) rfl rfl ?_
     refine .x rfl (unmet rfl rfl rfl g66) ?_
     refine .x rfl (unmet rfl rfl rfl g66) ?_
     refine .x rfl (unmet rfl rfl rfl g66) ?_
     refine .x rfl (unmet rfl rfl rfl g66) ?_
     refine .x rfl (unmet rfl rfl rfl g66) ?_
     refine .x rfl (unmet rfl rfl rfl g66) ?_
     refine .x rfl (unmet rfl rfl rfl g66) ?_
     refine .x rfl (unmet rfl rfl rfl g66) ?_
     refine .v rfl (met rfl rfl rfl (notT g65)) (O.pickF g66 rfl rfl rfl) ?_
     refine .v rfl rfl (O.pickF (notT g65) rfl rfl rfl) ?_
     refine .m rfl rfl rfl rfl ?_
     refine .m rfl (met rfl rfl rfl rfl) rfl rfl ?_
     refine .v rfl (met rfl rfl rfl rfl) (OpL.unV rfl rfl rfl) ?_
     refine .m rfl (met rfl rfl rfl rfl) rfl rfl ?_
     refine .v rfl (met rfl rfl rfl (notF g66)) (O.fld fld26_0 rfl rfl rfl) ?_
     refine .v rfl (met rfl rfl rfl (notF g66)) (O.ld (y := .i t58.1.ID) ty3 rfl rfl rfl) ?_
     refine .v rfl (met rfl rfl rfl (notF g66)) (OpL.binI rfl rfl rfl rfl) ?_
     refine .v rfl (met rfl rfl rfl rfl) (O.pickT (notF g66) rfl rfl rfl) ?_
     refine .v rfl rfl (O.pickF rfl rfl rfl rfl) ?_
     refine .nil ?_
     refine ⟨by kernel_rfl, by kernel_rfl, ?_⟩
     exact toN (Gives.mkR [] (.r rfl rfl (.r rfl rfl (.r rfl rfl (.r rfl rfl (.c rfl (sbb (by first | (simp only [g65, g66, Bool.true_or, Bool.or_true, Bool.false_or, Bool.or_false, Bool.true_and, Bool.and_true, Bool.false_and, Bool.and_false, Bool.not_true, Bool.not_false, cond_true, cond_false]; done) | (repeat (first | rw [g65] | rw [g66])) <;> simp only [Bool.true_or, Bool.or_true, Bool.false_or, Bool.or_false, Bool.true_and, Bool.and_true, Bool.false_and, Bool.and_false, Bool.not_true, Bool.not_false, cond_true, cond_false])) rfl .n))))) (.r rfl rfl rfl (.r rfl rfl rfl (.r rfl rfl rfl .n))) rfl rfl rfl)
   ·refine W.dk (unm 26 [0, 0, 2, 7, 15, 31, 63, 127, 127, 383, 127, 1919, 3967, 8191, 16383, 32767, 65535, 131071, 262143, 524287, 1048575, 2097151, 4194303, 8388607, 16777215, 33554431]) rfl (by kernel_rfl) ?_
    refine .m rfl rfl rfl rfl ?_
    refine .m rfl rfl rfl rfl ?_
    refine .v rfl rfl (OpL.binI rfl rfl rfl rfl) ?_
    refine .v rfl rfl (OpL.neB rfl u4 rfl rfl) ?_
    refine .m rfl rfl rfl rfl ?_
    refine .x rfl (unmet rfl rfl rfl (notF g65)) ?_
    refine .x rfl (unmet rfl rfl rfl (notF g65)) ?_
    refine .x rfl (unmetU rfl rfl rfl) ?_
    refine .x rfl (unmetU rfl rfl rfl) ?_
    refine .x rfl (unmetU rfl rfl rfl) ?_
    refine .x rfl (unmetU rfl rfl rfl) ?_
    refine .x rfl (unmetU rfl rfl rfl) ?_
    refine .x rfl (unmetU rfl rfl rfl) ?_
    refine .x rfl (unmetU rfl rfl rfl) ?_
    refine .x rfl (unmetU rfl rfl rfl) ?_
    refine .x rfl (unmet rfl rfl rfl (notF g65)) ?_
    refine .v rfl rfl (O.pickT (notF g65) rfl rfl rfl) ?_
    refine .m rfl rfl rfl rfl ?_
    refine .x rfl (unmet rfl rfl rfl rfl) ?_
    refine .x rfl (unmet rfl rfl rfl rfl) ?_
    refine .x rfl (unmet rfl rfl rfl rfl) ?_
    refine .x rfl (unmetU rfl rfl rfl) ?_
    refine .x rfl (unmetU rfl rfl rfl) ?_
    refine .x rfl (unmetU rfl rfl rfl) ?_
    refine .x rfl (unmet rfl rfl rfl rfl) ?_
    refine .v rfl rfl (O.pickT rfl rfl rfl rfl) ?_
    refine .nil ?_
    refine ⟨by kernel_rfl, by kernel_rfl, ?_⟩
    exact toN (Gives.mkR [] (.r rfl rfl (.r rfl rfl (.r rfl rfl (.r rfl rfl (.c rfl (sbb (by simp only [g65, Bool.true_or, Bool.or_true, Bool.false_or, Bool.or_false, Bool.true_and, Bool.and_true, Bool.false_and, Bool.and_false, Bool.not_true, Bool.not_false, cond_true, cond_false])) rfl .n))))) (.r rfl rfl rfl (.r rfl rfl rfl (.r rfl rfl rfl .n))) rfl rfl rfl)
end Go.Proofs.Ytidinbjehfodoaa
