/- Shows what functions of the program come to, each as a plain function: written by a program of the author's for this claim. -/
import Derived.Test.YtidinbjehfodoaaGx4
namespace Go.Proofs.Ytidinbjehfodoaa
open Go Go.Pm
set_option linter.unusedVariables false
set_option linter.unusedSimpArgs false
noncomputable def trade_Load.b0 (x0 : List api_Trade) (x1 : Int) (v20 : Int) (v21 : List api_Trade) : Option ((Int × (List api_Trade)) ⊕ (((Option trade_Book) × Int) ⊕ (List api_Trade))) :=
  if (decide (v20 < (List.length x0 : Int))) = true then
    if (0 : Int) ≤ v20 ∧ v20 < (List.length x0 : Int) then
    (trade_Check.f (nth x0 v20)).bind fun t56 =>
    if (t56 != 0) = true then
      some (.inr (.inl (none, t56)))
    else
      if ((decide (v20 > 0)) = true → (0 : Int) ≤ (IntKind.wrap .i64 (v20 - 1)) ∧ (IntKind.wrap .i64 (v20 - 1)) < (List.length x0 : Int)) then
      if ((((decide (v20 > 0)) && (decide (((nth x0 v20).ID) ≤ ((nth x0 (IntKind.wrap .i64 (v20 - 1))).ID)))) || (decide (((nth x0 v20).ID) > x1))) || (decide (((nth x0 v20).Twin) > x1))) = true then
        some (.inr (.inl (none, 7)))
      else
        (trade_copied.f (nth x0 v20)).bind fun t65 =>
        if (List.length v21 + List.length [t65]) * 104 ≤ 140737488355328 then
        some (.inl ((IntKind.wrap .i64 (v20 + 1)), (v21 ++ [t65])))
        else none
      else none
    else none
  else
    some (.inr (.inr v21))
noncomputable def trade_Load.r0 (x0 : List api_Trade) (x1 : Int) (s : Int × (List api_Trade)) : Option ((Int × (List api_Trade)) ⊕ (((Option trade_Book) × Int) ⊕ (List api_Trade))) := trade_Load.b0 x0 x1 s.1 s.2
noncomputable def trade_Load.b1 (x0 : List api_Trade) (v77 : Int) (v78 : Int) (v79 : Bool) (v80 : List api_Trade) : Option ((Int × Int × Bool × (List api_Trade)) ⊕ (((Option trade_Book) × Int) ⊕ (Int × Bool × (List api_Trade)))) :=
  if (decide (v77 < (List.length x0 : Int))) = true then
    if (0 : Int) ≤ v77 ∧ v77 < (List.length x0 : Int) then
    (trade_Book_Get.f (⟨v80, v78, v79⟩ : trade_Book) ((nth x0 v77).Twin)).bind fun t103 =>
    (if (!t103.2) = false then trade_Twins.f (nth x0 v77) t103.1 else some default).bind fun t105 =>
    if ((!t103.2) || (!t105)) = true then
      some (.inr (.inl (none, 32)))
    else
      some (.inl ((IntKind.wrap .i64 (v77 + 1)), (⟨v80, v78, v79⟩ : trade_Book).next, (⟨v80, v78, v79⟩ : trade_Book).made, (⟨v80, v78, v79⟩ : trade_Book).l))
    else none
  else
    some (.inr (.inr (v78, v79, v80)))
noncomputable def trade_Load.r1 (x0 : List api_Trade) (s : Int × Int × Bool × (List api_Trade)) : Option ((Int × Int × Bool × (List api_Trade)) ⊕ (((Option trade_Book) × Int) ⊕ (Int × Bool × (List api_Trade)))) := trade_Load.b1 x0 s.1 s.2.1 s.2.2.1 s.2.2.2
noncomputable def trade_Load.f (x0 : List api_Trade) (x1 : Int) : Option ((Option trade_Book) × Int) :=
  if (((decide ((List.length x0 : Int) > 64)) || (decide (x1 < 0))) || (decide (x1 > 1125899906842624))) = true then
    some (none, 2)
  else
    (trade_New.f).bind fun t4 =>
    (loop (trade_Load.r0 x0 x1) (0, t4.l)).bind fun o51 =>
    match o51 with
    | .inl r68 => some r68
    | .inr w50 =>
      (loop (trade_Load.r1 x0) (0, x1, t4.made, w50)).bind fun o98 =>
      match o98 with
      | .inl r109 => some r109
      | .inr w97 =>
        some ((some (⟨w97.2.2, w97.1, w97.2.1⟩ : trade_Book)), 0)
set_option maxRecDepth 100000 in
set_option maxHeartbeats 4000000 in
theorem trade_Load.ok {x0 : List api_Trade} {x1 : Int} {r : (Option trade_Book) × Int} (h : trade_Load.f x0 x1 = some r) : Pm.Spec prog 15 [.imm (.row 11 (List.map api_Trade.enc x0)), .imm (.val (.int .i64 x1))] (.tup [(match r.1 with | none => .imm (.val (.pointer none)) | some v_ => .xbox [.xown 26 11 (List.map api_Trade.enc v_.l), .imm (.val (.int .i64 v_.next)), .imm (.val (.bool v_.made))]), .imm (.val (.int .i64 r.2))]) [none, none] := by
 unfold trade_Load.f at h
 refine Pm.Spec.of_body Try.func15 rfl (by kernel_rfl) (Nat.le_of_ble_eq_true rfl) (Nat.le_of_ble_eq_true rfl) ?_
 refine W.ghost (σ' := (mkSt [(0, some (.imm (.row 11 (List.map api_Trade.enc x0)))), (1, some (.i x1))] [] 1000)) (Gives.entry (.c rfl (.c rfl .n)) .n) ?_
 refine W.seq ?_
 refine W.pk ?_
 refine .a rfl rfl rfl rfl ?_
 refine .a rfl rfl rfl rfl ?_
 refine .nil ?_
 refine W.seq ?_
 refine W.seq ?_
 refine W.fork (mkSt [(0, some (.imm (.row 11 (List.map api_Trade.enc x0)))), (1, some (.i x1)), (24, some (.b (((decide ((List.length x0 : Int) > 64)) || (decide (x1 < 0))) || (decide (x1 > 1125899906842624)))))] [] 1000) ?_ ?_
 ·refine W.cond rfl (fun q3 => ?_) (fun q3 => ?_)
  ·have h := ifT q3 h
   refine W.seq ?_
   refine W.pk ?_
   refine .a rfl rfl rfl rfl ?_
   refine .a rfl rfl rfl rfl ?_
   refine .nil ?_
   refine W.ret ?_
   cases h
   exact leaves (.inr rfl) rfl (.tup _ _ _ _ (cC (.imm _) (cC (.imm _) .nil))) (cN (cN .nil)) rfl rfl
  ·have h := ifF q3 h
   refine W.skip ?_
   refine W.seq ?_
   obtain ⟨t4, b5, h⟩ := bnd1 h
   refine W.pk ?_
   refine .call (.ptr 1000 0) [(1000, some (.box [.own 1001, .i t4.next, .b t4.made])), (1001, some (.rows 26 11 (List.map api_Trade.enc t4.l) false))] 2 (trade_New.ok b5) rfl rfl rfl ca20 rfl rfl .nil rfl rfl rfl rfl rfl ?_
   refine .a rfl rfl rfl rfl ?_
   refine .nil ?_
   refine W.seq ?_
   refine W.pk ?_
   refine .m rfl rfl rfl rfl ?_
   refine .m rfl rfl rfl rfl ?_
   refine .v rfl rfl (OpL.nilP rfl rfl rfl) ?_
   refine .v rfl rfl (O.fld fld62_1 rfl rfl rfl) ?_
   refine .s rfl rfl (O.st ty3 rfl rfl rfl rfl rfl rfl rfl rfl rfl rfl (all' := [.own 1001, .i x1, .b t4.made]) rfl) ?_
   refine .nil ?_
   refine W.seq ?_
   refine W.seq ?_
   refine W.pk ?_
   refine .m rfl rfl rfl rfl ?_
   refine .v rfl rfl (O.lenR sl35 rfl rfl) ?_
   refine .m rfl rfl rfl rfl ?_
   refine .nil ?_
   obtain ⟨o51, b52, z53⟩ := bnd1 h
   refine W.fork2 (out := o51) (fun (w50 : List api_Trade) => mkSt [(0, some (.imm (.row 11 (List.map api_Trade.enc x0)))), (6, some (.ptr 1000 0))] [(1000, some (.box [.own 1001, .i x1, .b t4.made])), (1001, some (.rows 26 11 (List.map api_Trade.enc w50) false))] 1002) ?_ ?_
   ·clear h
    refine W.block ?_
    refine W.loopF (fun (s_ : Int × (List api_Trade)) => mkSt [(0, some (.imm (.row 11 (List.map api_Trade.enc x0)))), (1, some (.i x1)), (6, some (.ptr 1000 0)), (30, some (.imm (.row 11 (List.map api_Trade.enc x0)))), (31, some (.i (List.length x0 : Int))), (32, some (.i s_.1))] [(1000, some (.box [.own 1001, .i x1, .b t4.made])), (1001, some (.rows 26 11 (List.map api_Trade.enc s_.2) false))] 1002) b52 (Gives.mkR [] (.r rfl rfl (.r rfl rfl (.r rfl rfl (.r rfl rfl (.r rfl rfl (.r rfl rfl .n)))))) (.r rfl rfl rfl (.r rfl rfl rfl .n)) rfl rfl rfl) ?_
    rintro ⟨v20, v21⟩ s_ hr
    have h : trade_Load.b0 x0 x1 v20 v21 = some s_ := hr
    unfold trade_Load.b0 at h
    refine W.seq ?_
    refine W.pk ?_
    refine .v rfl rfl (OpL.binI rfl rfl rfl rfl) ?_
    refine .nil ?_
    refine W.seq ?_
    refine W.cond rfl (fun q54 => ?_) (fun q54 => ?_)
    ·have h := ifT q54 h
     refine W.skip ?_
     refine W.seq ?_
     refine W.block ?_
     refine W.seq ?_
     obtain ⟨c55, h⟩ := chk h
     refine W.pk ?_
     refine .m rfl rfl rfl rfl ?_
     refine .v rfl rfl (O.idx sl35 c55 rfl rfl rfl) ?_
     refine .v rfl rfl (O.ldN ty26 rfl rfl rfl) ?_
     refine .t rfl rfl (O.alloc z26 rfl) ?_
     refine .a rfl rfl rfl rfl ?_
     refine .s rfl rfl (O.st ty26 rfl rfl rfl rfl rfl rfl rfl rfl rfl rfl (all' := [.i ((nth x0 v20).ID), .i ((nth x0 v20).Twin), .i ((nth x0 v20).Member), .i ((nth x0 v20).Side), .i ((nth x0 v20).Basket), .i ((nth x0 v20).Amount), .i ((nth x0 v20).Start), .i ((nth x0 v20).End), .imm (.row 2 (List.map api_Reset.enc ((nth x0 v20).Resets))), .i ((nth x0 v20).Stage), .b ((nth x0 v20).Short)]) rfl) ?_
     refine .nil ?_
     refine W.seq ?_
     refine W.seq ?_
     obtain ⟨t56, b57, h⟩ := bnd1 h
     refine W.pk ?_
     refine .v rfl rfl (O.ldN ty26 rfl rfl rfl) ?_
     refine .call (.i t56) [] 0 (trade_Check.ok b57) rfl rfl rfl ca11 rfl rfl (cC (.agg _ _ _ _ (cC (.imm _) (cC (.imm _) (cC (.imm _) (cC (.imm _) (cC (.imm _) (cC (.imm _) (cC (.imm _) (cC (.imm _) (cC (.imm _) (cC (.imm _) (cC (.imm _) .nil)))))))))))) .nil) rfl rfl rfl rfl rfl ?_
     refine .a rfl rfl rfl rfl ?_
     refine .nil ?_
     refine W.seq ?_
     refine W.pk ?_
     refine .m rfl rfl rfl rfl ?_
     refine .v rfl rfl (OpL.binI rfl rfl rfl rfl) ?_
     refine .nil ?_
     refine W.cond rfl (fun q58 => ?_) (fun q58 => ?_)
     ·have h := ifT q58 h
      refine W.seq ?_
      refine W.pk ?_
      refine .m rfl rfl rfl rfl ?_
      refine .a rfl rfl rfl rfl ?_
      refine .a rfl rfl rfl rfl ?_
      refine .nil ?_
      refine W.ret ?_
      cases h
      refine rdR fun e_ => ?_
      subst e_
      have h := z53
      dsimp only at h
      refine fkR ?_
      cases h
      exact leaves (.inr rfl) rfl (.tup _ _ _ _ (cC (.imm _) (cC (.imm _) .nil))) (cN (cN .nil)) rfl rfl
     ·have h := ifF q58 h
      refine W.skip ?_
      refine W.seq ?_
      refine W.seq ?_
      obtain ⟨c59, h⟩ := chk h
      refine W.fork (mkSt [(0, some (.imm (.row 11 (List.map api_Trade.enc x0)))), (1, some (.i x1)), (6, some (.ptr 1000 0)), (8, some (.ptr 1002 0)), (30, some (.imm (.row 11 (List.map api_Trade.enc x0)))), (31, some (.i (List.length x0 : Int))), (32, some (.i v20)), (66, some (.b ((((decide (v20 > 0)) && (decide (((nth x0 v20).ID) ≤ ((nth x0 (IntKind.wrap .i64 (v20 - 1))).ID)))) || (decide (((nth x0 v20).ID) > x1))) || (decide (((nth x0 v20).Twin) > x1)))))] [(1000, some (.box [.own 1001, .i x1, .b t4.made])), (1001, some (.rows 26 11 (List.map api_Trade.enc v21) false)), (1002, some (.box [.i ((nth x0 v20).ID), .i ((nth x0 v20).Twin), .i ((nth x0 v20).Member), .i ((nth x0 v20).Side), .i ((nth x0 v20).Basket), .i ((nth x0 v20).Amount), .i ((nth x0 v20).Start), .i ((nth x0 v20).End), .imm (.row 2 (List.map api_Reset.enc ((nth x0 v20).Resets))), .i ((nth x0 v20).Stage), .b ((nth x0 v20).Short)]))] 1003) ?_ ?_
      ·refine W.cond rfl (fun q64 => ?_) (fun q64 => ?_)
       ·have h := ifT q64 h
        refine W.seq ?_
        refine W.pk ?_
        refine .a rfl rfl rfl rfl ?_
        refine .a rfl rfl rfl rfl ?_
        refine .nil ?_
        refine W.ret ?_
        cases h
        refine rdR fun e_ => ?_
        subst e_
        have h := z53
        dsimp only at h
        refine fkR ?_
        cases h
        exact leaves (.inr rfl) rfl (.tup _ _ _ _ (cC (.imm _) (cC (.imm _) .nil))) (cN (cN .nil)) rfl rfl
       ·have h := ifF q64 h
        refine W.skip ?_
        obtain ⟨t65, b66, h⟩ := bnd1 h
        obtain ⟨c67, h⟩ := chk h
        refine W.dk (unm 12 [0, 0, 2, 6, 14, 0, 32, 96, 254, 511, 1023, 2047]) rfl (by kernel_rfl) ?_
        refine .m rfl rfl rfl rfl ?_
        refine .m rfl rfl rfl rfl ?_
        refine .v rfl rfl (OpL.nilP rfl rfl rfl) ?_
        refine .v rfl rfl (O.fld fld62_0 rfl rfl rfl) ?_
        refine .v rfl rfl (O.ld (y := .own 1001) ty35 rfl rfl rfl) ?_
        refine .v rfl rfl (O.ldN ty26 rfl rfl rfl) ?_
        refine .call (.agg (api_Trade.av t65)) [] 0 (trade_copied.ok b66) rfl rfl rfl ca42 rfl rfl (cC (.agg _ _ _ _ (cC (.imm _) (cC (.imm _) (cC (.imm _) (cC (.imm _) (cC (.imm _) (cC (.imm _) (cC (.imm _) (cC (.imm _) (cC (.imm _) (cC (.imm _) (cC (.imm _) .nil)))))))))))) .nil) rfl rfl rfl rfl rfl ?_
        refine .t rfl rfl (O.lit (enc := api_Trade.enc) (l := [t65]) sl35 rfl rfl rfl rfl rfl rfl rfl rfl rfl) ?_
        refine .t rfl rfl (O.appO sl35 api_Trade.ok c67 rfl rfl rfl rfl rfl) ?_
        refine .v rfl rfl (OpL.nilP rfl rfl rfl) ?_
        refine .v rfl rfl (O.fld fld62_0 rfl rfl rfl) ?_
        refine .s rfl rfl (O.st ty35 rfl rfl rfl rfl rfl rfl rfl rfl rfl rfl (all' := [.own 1004, .i x1, .b t4.made]) rfl) ?_
        refine .nil ?_
        refine ⟨by kernel_rfl, by kernel_rfl, ?_⟩
        refine W.pk ?_
        refine .v rfl rfl (OpL.binI rfl rfl rfl rfl) ?_
        refine .m rfl rfl rfl rfl ?_
        refine .nil ?_
        cases h
        exact rdN (Gives.mkR [(1001, 1004)] (.r rfl rfl (.r rfl rfl (.r rfl rfl (.r rfl rfl (.r rfl rfl (.r rfl rfl .n)))))) (.r rfl rfl rfl (.r rfl rfl rfl .n)) rfl rfl rfl)
      ·clear h
       rcases tf (decide (v20 > 0)) with g60 | g60
       ·rcases tf (decide (((nth x0 v20).ID) ≤ ((nth x0 (IntKind.wrap .i64 (v20 - 1))).ID))) with g61 | g61
        ·refine W.dk (unm 25 [0, 1, 3, 7, 15, 7, 7, 71, 231, 487, 999, 2047, 4095, 8191, 16383, 32767, 16383, 131071, 262143, 524287, 1048575, 2097151, 1048575, 8388607, 16777215]) rfl (by kernel_rfl) ?_
         refine .m rfl rfl rfl rfl ?_
         refine .v rfl rfl (OpL.binI rfl rfl rfl rfl) ?_
         refine .m rfl rfl rfl rfl ?_
         refine .v rfl (met rfl rfl rfl g60) (O.fld fld26_0 rfl rfl rfl) ?_
         refine .v rfl (met rfl rfl rfl g60) (O.ld (y := .i ((nth x0 v20).ID)) ty3 rfl rfl rfl) ?_
         refine .m rfl (met rfl rfl rfl g60) rfl rfl ?_
         refine .m rfl (met rfl rfl rfl g60) rfl rfl ?_
         refine .v rfl (met rfl rfl rfl g60) (OpL.binI rfl rfl rfl rfl) ?_
         refine .v rfl (met rfl rfl rfl g60) (O.idx sl35 (c59 (by first | (simp only [g60, g61, Bool.true_or, Bool.or_true, Bool.false_or, Bool.or_false, Bool.true_and, Bool.and_true, Bool.false_and, Bool.and_false, Bool.not_true, Bool.not_false, cond_true, cond_false]; done) | (repeat (first | rw [g60] | rw [g61])) <;> simp only [Bool.true_or, Bool.or_true, Bool.false_or, Bool.or_false, Bool.true_and, Bool.and_true, Bool.false_and, Bool.and_false, Bool.not_true, Bool.not_false, cond_true, cond_false])) rfl rfl rfl) ?_
         refine .v rfl (met rfl rfl rfl g60) (O.fld fld26_0 rfl rfl rfl) ?_
         refine .v rfl (met rfl rfl rfl g60) (O.ld (y := .i ((nth x0 (IntKind.wrap .i64 (v20 - 1))).ID)) ty3 rfl rfl rfl) ?_
         refine .v rfl (met rfl rfl rfl g60) (OpL.binI rfl rfl rfl rfl) ?_
         refine .v rfl rfl (O.pickT g60 rfl rfl rfl) ?_
         refine .m rfl rfl rfl rfl ?_
         refine .x rfl (unmet rfl rfl rfl g61) ?_
         refine .x rfl (unmet rfl rfl rfl g61) ?_
         refine .x rfl (unmet rfl rfl rfl g61) ?_
         refine .x rfl (unmet rfl rfl rfl g61) ?_
         refine .v rfl rfl (O.pickT g61 rfl rfl rfl) ?_
         refine .m rfl rfl rfl rfl ?_
         refine .x rfl (unmet rfl rfl rfl rfl) ?_
         refine .x rfl (unmet rfl rfl rfl rfl) ?_
         refine .x rfl (unmet rfl rfl rfl rfl) ?_
         refine .x rfl (unmet rfl rfl rfl rfl) ?_
         refine .v rfl rfl (O.pickT rfl rfl rfl rfl) ?_
         refine .nil ?_
         refine ⟨by kernel_rfl, by kernel_rfl, ?_⟩
         exact toN (Gives.mkR [] (.r rfl rfl (.r rfl rfl (.r rfl rfl (.r rfl rfl (.r rfl rfl (.r rfl rfl (.r rfl rfl (.c rfl (sbb (by first | (simp only [g60, g61, Bool.true_or, Bool.or_true, Bool.false_or, Bool.or_false, Bool.true_and, Bool.and_true, Bool.false_and, Bool.and_false, Bool.not_true, Bool.not_false, cond_true, cond_false]; done) | (repeat (first | rw [g60] | rw [g61])) <;> simp only [Bool.true_or, Bool.or_true, Bool.false_or, Bool.or_false, Bool.true_and, Bool.and_true, Bool.false_and, Bool.and_false, Bool.not_true, Bool.not_false, cond_true, cond_false])) rfl .n)))))))) (.r rfl rfl rfl (.r rfl rfl rfl (.r rfl rfl rfl .n))) rfl rfl rfl)
        ·rcases tf (decide (((nth x0 v20).ID) > x1)) with g62 | g62
         ·refine W.dk (unm 25 [0, 1, 3, 7, 15, 7, 7, 71, 231, 487, 999, 2047, 4095, 8191, 16383, 32767, 16383, 131071, 262143, 524287, 1048575, 2097151, 1048575, 8388607, 16777215]) rfl (by kernel_rfl) ?_
          refine .m rfl rfl rfl rfl ?_
          refine .v rfl rfl (OpL.binI rfl rfl rfl rfl) ?_
          refine .m rfl rfl rfl rfl ?_
          refine .v rfl (met rfl rfl rfl g60) (O.fld fld26_0 rfl rfl rfl) ?_
          refine .v rfl (met rfl rfl rfl g60) (O.ld (y := .i ((nth x0 v20).ID)) ty3 rfl rfl rfl) ?_
          refine .m rfl (met rfl rfl rfl g60) rfl rfl ?_
          refine .m rfl (met rfl rfl rfl g60) rfl rfl ?_
          refine .v rfl (met rfl rfl rfl g60) (OpL.binI rfl rfl rfl rfl) ?_
          refine .v rfl (met rfl rfl rfl g60) (O.idx sl35 (c59 (by first | (simp only [g60, g61, g62, Bool.true_or, Bool.or_true, Bool.false_or, Bool.or_false, Bool.true_and, Bool.and_true, Bool.false_and, Bool.and_false, Bool.not_true, Bool.not_false, cond_true, cond_false]; done) | (repeat (first | rw [g60] | rw [g61] | rw [g62])) <;> simp only [Bool.true_or, Bool.or_true, Bool.false_or, Bool.or_false, Bool.true_and, Bool.and_true, Bool.false_and, Bool.and_false, Bool.not_true, Bool.not_false, cond_true, cond_false])) rfl rfl rfl) ?_
          refine .v rfl (met rfl rfl rfl g60) (O.fld fld26_0 rfl rfl rfl) ?_
          refine .v rfl (met rfl rfl rfl g60) (O.ld (y := .i ((nth x0 (IntKind.wrap .i64 (v20 - 1))).ID)) ty3 rfl rfl rfl) ?_
          refine .v rfl (met rfl rfl rfl g60) (OpL.binI rfl rfl rfl rfl) ?_
          refine .v rfl rfl (O.pickT g60 rfl rfl rfl) ?_
          refine .m rfl rfl rfl rfl ?_
          refine .v rfl (met rfl rfl rfl g61) (O.fld fld26_0 rfl rfl rfl) ?_
          refine .v rfl (met rfl rfl rfl g61) (O.ld (y := .i ((nth x0 v20).ID)) ty3 rfl rfl rfl) ?_
          refine .m rfl (met rfl rfl rfl g61) rfl rfl ?_
          refine .v rfl (met rfl rfl rfl g61) (OpL.binI rfl rfl rfl rfl) ?_
          refine .v rfl rfl (O.pickF g61 rfl rfl rfl) ?_
          refine .m rfl rfl rfl rfl ?_
          refine .x rfl (unmet rfl rfl rfl g62) ?_
          refine .x rfl (unmet rfl rfl rfl g62) ?_
          refine .x rfl (unmet rfl rfl rfl g62) ?_
          refine .x rfl (unmet rfl rfl rfl g62) ?_
          refine .v rfl rfl (O.pickT g62 rfl rfl rfl) ?_
          refine .nil ?_
          refine ⟨by kernel_rfl, by kernel_rfl, ?_⟩
          exact toN (Gives.mkR [] (.r rfl rfl (.r rfl rfl (.r rfl rfl (.r rfl rfl (.r rfl rfl (.r rfl rfl (.r rfl rfl (.c rfl (sbb (by first | (simp only [g60, g61, g62, Bool.true_or, Bool.or_true, Bool.false_or, Bool.or_false, Bool.true_and, Bool.and_true, Bool.false_and, Bool.and_false, Bool.not_true, Bool.not_false, cond_true, cond_false]; done) | (repeat (first | rw [g60] | rw [g61] | rw [g62])) <;> simp only [Bool.true_or, Bool.or_true, Bool.false_or, Bool.or_false, Bool.true_and, Bool.and_true, Bool.false_and, Bool.and_false, Bool.not_true, Bool.not_false, cond_true, cond_false])) rfl .n)))))))) (.r rfl rfl rfl (.r rfl rfl rfl (.r rfl rfl rfl .n))) rfl rfl rfl)
         ·refine W.dk (unm 25 [0, 1, 3, 7, 15, 7, 7, 71, 231, 487, 999, 2047, 4095, 8191, 16383, 32767, 16383, 131071, 262143, 524287, 1048575, 2097151, 1048575, 8388607, 16777215]) rfl (by kernel_rfl) ?_
          refine .m rfl rfl rfl rfl ?_
          refine .v rfl rfl (OpL.binI rfl rfl rfl rfl) ?_
          refine .m rfl rfl rfl rfl ?_
          refine .v rfl (met rfl rfl rfl g60) (O.fld fld26_0 rfl rfl rfl) ?_
          refine .v rfl (met rfl rfl rfl g60) (O.ld (y := .i ((nth x0 v20).ID)) ty3 rfl rfl rfl) ?_
          refine .m rfl (met rfl rfl rfl g60) rfl rfl ?_
          refine .m rfl (met rfl rfl rfl g60) rfl rfl ?_
          refine .v rfl (met rfl rfl rfl g60) (OpL.binI rfl rfl rfl rfl) ?_
          refine .v rfl (met rfl rfl rfl g60) (O.idx sl35 (c59 (by first | (simp only [g60, g61, g62, Bool.true_or, Bool.or_true, Bool.false_or, Bool.or_false, Bool.true_and, Bool.and_true, Bool.false_and, Bool.and_false, Bool.not_true, Bool.not_false, cond_true, cond_false]; done) | (repeat (first | rw [g60] | rw [g61] | rw [g62])) <;> simp only [Bool.true_or, Bool.or_true, Bool.false_or, Bool.or_false, Bool.true_and, Bool.and_true, Bool.false_and, Bool.and_false, Bool.not_true, Bool.not_false, cond_true, cond_false])) rfl rfl rfl) ?_
          refine .v rfl (met rfl rfl rfl g60) (O.fld fld26_0 rfl rfl rfl) ?_
          refine .v rfl (met rfl rfl rfl g60) (O.ld (y := .i ((nth x0 (IntKind.wrap .i64 (v20 - 1))).ID)) ty3 rfl rfl rfl) ?_
          refine .v rfl (met rfl rfl rfl g60) (OpL.binI rfl rfl rfl rfl) ?_
          refine .v rfl rfl (O.pickT g60 rfl rfl rfl) ?_
          refine .m rfl rfl rfl rfl ?_
          refine .v rfl (met rfl rfl rfl g61) (O.fld fld26_0 rfl rfl rfl) ?_
          refine .v rfl (met rfl rfl rfl g61) (O.ld (y := .i ((nth x0 v20).ID)) ty3 rfl rfl rfl) ?_
          refine .m rfl (met rfl rfl rfl g61) rfl rfl ?_
          refine .v rfl (met rfl rfl rfl g61) (OpL.binI rfl rfl rfl rfl) ?_
          refine .v rfl rfl (O.pickF g61 rfl rfl rfl) ?_
          refine .m rfl rfl rfl rfl ?_
          refine .v rfl (met rfl rfl rfl g62) (O.fld fld26_1 rfl rfl rfl) ?_
          refine .v rfl (met rfl rfl rfl g62) (O.ld (y := .i ((nth x0 v20).Twin)) ty3 rfl rfl rfl) ?_
          refine .m rfl (met rfl rfl rfl g62) rfl rfl ?_
          refine .v rfl (met rfl rfl rfl g62) (OpL.binI rfl rfl rfl rfl) ?_
          refine .v rfl rfl (O.pickF g62 rfl rfl rfl) ?_
          refine .nil ?_
          refine ⟨by kernel_rfl, by kernel_rfl, ?_⟩
          exact toN (Gives.mkR [] (.r rfl rfl (.r rfl rfl (.r rfl rfl (.r rfl rfl (.r rfl rfl (.r rfl rfl (.r rfl rfl (.c rfl (sbb (by first | (simp only [g60, g61, g62, Bool.true_or, Bool.or_true, Bool.false_or, Bool.or_false, Bool.true_and, Bool.and_true, Bool.false_and, Bool.and_false, Bool.not_true, Bool.not_false, cond_true, cond_false]; done) | (repeat (first | rw [g60] | rw [g61] | rw [g62])) <;> simp only [Bool.true_or, Bool.or_true, Bool.false_or, Bool.or_false, Bool.true_and, Bool.and_true, Bool.false_and, Bool.and_false, Bool.not_true, Bool.not_false, cond_true, cond_false])) rfl .n)))))))) (.r rfl rfl rfl (.r rfl rfl rfl (.r rfl rfl rfl .n))) rfl rfl rfl)
       ·rcases tf (decide (((nth x0 v20).ID) > x1)) with g63 | g63
        ·refine W.dk (unm 25 [0, 1, 3, 7, 15, 7, 7, 71, 231, 487, 999, 2047, 4095, 8191, 16383, 32767, 16383, 131071, 262143, 524287, 1048575, 2097151, 1048575, 8388607, 16777215]) rfl (by kernel_rfl) ?_
         refine .m rfl rfl rfl rfl ?_
         refine .v rfl rfl (OpL.binI rfl rfl rfl rfl) ?_
         refine .m rfl rfl rfl rfl ?_
         refine .x rfl (unmet rfl rfl rfl g60) ?_
         refine .x rfl (unmet rfl rfl rfl g60) ?_
         refine .x rfl (unmet rfl rfl rfl g60) ?_
         refine .x rfl (unmet rfl rfl rfl g60) ?_
         refine .x rfl (unmet rfl rfl rfl g60) ?_
         refine .x rfl (unmet rfl rfl rfl g60) ?_
         refine .x rfl (unmet rfl rfl rfl g60) ?_
         refine .x rfl (unmet rfl rfl rfl g60) ?_
         refine .x rfl (unmet rfl rfl rfl g60) ?_
         refine .v rfl rfl (O.pickF g60 rfl rfl rfl) ?_
         refine .m rfl rfl rfl rfl ?_
         refine .v rfl (met rfl rfl rfl rfl) (O.fld fld26_0 rfl rfl rfl) ?_
         refine .v rfl (met rfl rfl rfl rfl) (O.ld (y := .i ((nth x0 v20).ID)) ty3 rfl rfl rfl) ?_
         refine .m rfl (met rfl rfl rfl rfl) rfl rfl ?_
         refine .v rfl (met rfl rfl rfl rfl) (OpL.binI rfl rfl rfl rfl) ?_
         refine .v rfl rfl (O.pickF rfl rfl rfl rfl) ?_
         refine .m rfl rfl rfl rfl ?_
         refine .x rfl (unmet rfl rfl rfl g63) ?_
         refine .x rfl (unmet rfl rfl rfl g63) ?_
         refine .x rfl (unmet rfl rfl rfl g63) ?_
         refine .x rfl (unmet rfl rfl rfl g63) ?_
         refine .v rfl rfl (O.pickT g63 rfl rfl rfl) ?_
         refine .nil ?_
         refine ⟨by kernel_rfl, by kernel_rfl, ?_⟩
         exact toN (Gives.mkR [] (.r rfl rfl (.r rfl rfl (.r rfl rfl (.r rfl rfl (.r rfl rfl (.r rfl rfl (.r rfl rfl (.c rfl (sbb (by first | (simp only [g60, g63, Bool.true_or, Bool.or_true, Bool.false_or, Bool.or_false, Bool.true_and, Bool.and_true, Bool.false_and, Bool.and_false, Bool.not_true, Bool.not_false, cond_true, cond_false]; done) | (repeat (first | rw [g60] | rw [g63])) <;> simp only [Bool.true_or, Bool.or_true, Bool.false_or, Bool.or_false, Bool.true_and, Bool.and_true, Bool.false_and, Bool.and_false, Bool.not_true, Bool.not_false, cond_true, cond_false])) rfl .n)))))))) (.r rfl rfl rfl (.r rfl rfl rfl (.r rfl rfl rfl .n))) rfl rfl rfl)
        ·refine W.dk (unm 25 [0, 1, 3, 7, 15, 7, 7, 71, 231, 487, 999, 2047, 4095, 8191, 16383, 32767, 16383, 131071, 262143, 524287, 1048575, 2097151, 1048575, 8388607, 16777215]) rfl (by kernel_rfl) ?_
         refine .m rfl rfl rfl rfl ?_
         refine .v rfl rfl (OpL.binI rfl rfl rfl rfl) ?_
         refine .m rfl rfl rfl rfl ?_
         refine .x rfl (unmet rfl rfl rfl g60) ?_
         refine .x rfl (unmet rfl rfl rfl g60) ?_
         refine .x rfl (unmet rfl rfl rfl g60) ?_
         refine .x rfl (unmet rfl rfl rfl g60) ?_
         refine .x rfl (unmet rfl rfl rfl g60) ?_
         refine .x rfl (unmet rfl rfl rfl g60) ?_
         refine .x rfl (unmet rfl rfl rfl g60) ?_
         refine .x rfl (unmet rfl rfl rfl g60) ?_
         refine .x rfl (unmet rfl rfl rfl g60) ?_
         refine .v rfl rfl (O.pickF g60 rfl rfl rfl) ?_
         refine .m rfl rfl rfl rfl ?_
         refine .v rfl (met rfl rfl rfl rfl) (O.fld fld26_0 rfl rfl rfl) ?_
         refine .v rfl (met rfl rfl rfl rfl) (O.ld (y := .i ((nth x0 v20).ID)) ty3 rfl rfl rfl) ?_
         refine .m rfl (met rfl rfl rfl rfl) rfl rfl ?_
         refine .v rfl (met rfl rfl rfl rfl) (OpL.binI rfl rfl rfl rfl) ?_
         refine .v rfl rfl (O.pickF rfl rfl rfl rfl) ?_
         refine .m rfl rfl rfl rfl ?_
         refine .v rfl (met rfl rfl rfl g63) (O.fld fld26_1 rfl rfl rfl) ?_
         refine .v rfl (met rfl rfl rfl g63) (O.ld (y := .i ((nth x0 v20).Twin)) ty3 rfl rfl rfl) ?_
         refine .m rfl (met rfl rfl rfl g63) rfl rfl ?_
         refine .v rfl (met rfl rfl rfl g63) (OpL.binI rfl rfl rfl rfl) ?_
         refine .v rfl rfl (O.pickF g63 rfl rfl rfl) ?_
         refine .nil ?_
         refine ⟨by kernel_rfl, by kernel_rfl, ?_⟩
         exact toN (Gives.mkR [] (.r rfl rfl (.r rfl rfl (.r rfl rfl (.r rfl rfl (.r rfl rfl (.r rfl rfl (.r rfl rfl (.c rfl (sbb (by first | (simp only [g60, g63, Bool.true_or, Bool.or_true, Bool.false_or, Bool.or_false, Bool.true_and, Bool.and_true, Bool.false_and, Bool.and_false, Bool.not_true, Bool.not_false, cond_true, cond_false]; done) | (repeat (first | rw [g60] | rw [g63])) <;> simp only [Bool.true_or, Bool.or_true, Bool.false_or, Bool.or_false, Bool.true_and, Bool.and_true, Bool.false_and, Bool.and_false, Bool.not_true, Bool.not_false, cond_true, cond_false])) rfl .n)))))))) (.r rfl rfl rfl (.r rfl rfl rfl (.r rfl rfl rfl .n))) rfl rfl rfl)
    ·have h := ifF q54 h
     refine W.exit ?_
     cases h
     refine rdX fun e_ => ?_
     subst e_
     repeat with_reducible refine thru ?_
     refine hit ?_
     exact fkN (Gives.mkR [] (.r rfl rfl (.r rfl rfl .n)) (.r rfl rfl rfl (.r rfl rfl rfl .n)) rfl rfl rfl)
   ·intro w50 e_
    subst e_
    clear h
    have h := z53
    dsimp only at h
    refine W.seq ?_
    refine W.seq ?_
    refine W.pk ?_
    refine .m rfl rfl rfl rfl ?_
    refine .v rfl rfl (O.lenR sl35 rfl rfl) ?_
    refine .m rfl rfl rfl rfl ?_
    refine .nil ?_
    obtain ⟨o98, b99, z100⟩ := bnd1 h
    refine W.fork2 (out := o98) (fun (w97 : Int × Bool × (List api_Trade)) => mkSt [(6, some (.ptr 1000 0))] [(1000, some (.box [.own 1001, .i w97.1, .b w97.2.1])), (1001, some (.rows 26 11 (List.map api_Trade.enc w97.2.2) false))] 1002) ?_ ?_
    ·clear h
     refine W.block ?_
     refine W.loopF (fun (s_ : Int × Int × Bool × (List api_Trade)) => mkSt [(6, some (.ptr 1000 0)), (79, some (.imm (.row 11 (List.map api_Trade.enc x0)))), (80, some (.i (List.length x0 : Int))), (81, some (.i s_.1))] [(1000, some (.box [.own 1001, .i s_.2.1, .b s_.2.2.1])), (1001, some (.rows 26 11 (List.map api_Trade.enc s_.2.2.2) false))] 1002) b99 (Gives.mkR [] (.r rfl rfl (.r rfl rfl (.r rfl rfl (.r rfl rfl .n)))) (.r rfl rfl rfl (.r rfl rfl rfl .n)) rfl rfl rfl) ?_
     rintro ⟨v77, v78, v79, v80⟩ s_ hr
     have h : trade_Load.b1 x0 v77 v78 v79 v80 = some s_ := hr
     unfold trade_Load.b1 at h
     refine W.seq ?_
     refine W.pk ?_
     refine .v rfl rfl (OpL.binI rfl rfl rfl rfl) ?_
     refine .nil ?_
     refine W.seq ?_
     refine W.cond rfl (fun q101 => ?_) (fun q101 => ?_)
     ·have h := ifT q101 h
      refine W.skip ?_
      refine W.seq ?_
      refine W.block ?_
      refine W.seq ?_
      obtain ⟨c102, h⟩ := chk h
      refine W.pk ?_
      refine .v rfl rfl (O.idx sl35 c102 rfl rfl rfl) ?_
      refine .v rfl rfl (O.ldN ty26 rfl rfl rfl) ?_
      refine .t rfl rfl (O.alloc z26 rfl) ?_
      refine .s rfl rfl (O.st ty26 rfl rfl rfl rfl rfl rfl rfl rfl rfl rfl (all' := [.i ((nth x0 v77).ID), .i ((nth x0 v77).Twin), .i ((nth x0 v77).Member), .i ((nth x0 v77).Side), .i ((nth x0 v77).Basket), .i ((nth x0 v77).Amount), .i ((nth x0 v77).Start), .i ((nth x0 v77).End), .imm (.row 2 (List.map api_Reset.enc ((nth x0 v77).Resets))), .i ((nth x0 v77).Stage), .b ((nth x0 v77).Short)]) rfl) ?_
      refine .nil ?_
      refine W.seq ?_
      obtain ⟨t103, b104, h⟩ := bnd1 h
      refine W.pk ?_
      refine .m rfl rfl rfl rfl ?_
      refine .v rfl rfl (O.fld fld26_1 rfl rfl rfl) ?_
      refine .v rfl rfl (O.ld (y := .i ((nth x0 v77).Twin)) ty3 rfl rfl rfl) ?_
      refine .call (.tup [.agg (api_Trade.av t103.1), .b t103.2]) [(1000, some (.box [.own 1003, .i ((⟨v80, v78, v79⟩ : trade_Book).next), .b ((⟨v80, v78, v79⟩ : trade_Book).made)])), (1003, some (.rows 26 11 (List.map api_Trade.enc ((⟨v80, v78, v79⟩ : trade_Book).l)) false)), (1000, none), (1001, none)] 1 (trade_Book_Get.ok b104) rfl rfl rfl ca23 rfl rfl (cC (.ptr _ _ _ _ _ rfl (cC (.own _ _ _ _ rfl) (cC (.imm _) (cC (.imm _) .nil)))) (cC (.imm _) .nil)) rfl rfl rfl rfl rfl ?_
      refine .m rfl rfl rfl rfl ?_
      refine .v rfl rfl (OpL.extract rfl rfl rfl) ?_
      refine .v rfl rfl (OpL.extract rfl rfl rfl) ?_
      refine .t rfl rfl (O.alloc z26 rfl) ?_
      refine .s rfl rfl (O.st ty26 rfl rfl rfl rfl rfl rfl rfl rfl rfl rfl (all' := [.i t103.1.ID, .i t103.1.Twin, .i t103.1.Member, .i t103.1.Side, .i t103.1.Basket, .i t103.1.Amount, .i t103.1.Start, .i t103.1.End, .imm (.row 2 (List.map api_Reset.enc t103.1.Resets)), .i t103.1.Stage, .b t103.1.Short]) rfl) ?_
      refine .a rfl rfl rfl rfl ?_
      refine .nil ?_
      refine W.seq ?_
      obtain ⟨t105, b106, h⟩ := bnd1 h
      refine W.fork (mkSt [(6, some (.ptr 1000 0)), (79, some (.imm (.row 11 (List.map api_Trade.enc x0)))), (80, some (.i (List.length x0 : Int))), (81, some (.i v77)), (99, some (.b ((!t103.2) || (!t105))))] [(1000, some (.box [.own 1003, .i ((⟨v80, v78, v79⟩ : trade_Book).next), .b ((⟨v80, v78, v79⟩ : trade_Book).made)])), (1003, some (.rows 26 11 (List.map api_Trade.enc ((⟨v80, v78, v79⟩ : trade_Book).l)) false))] 1005) ?_ ?_
      ·refine W.cond rfl (fun q108 => ?_) (fun q108 => ?_)
       ·have h := ifT q108 h
        refine W.seq ?_
        refine W.pk ?_
        refine .a rfl rfl rfl rfl ?_
        refine .a rfl rfl rfl rfl ?_
        refine .nil ?_
        refine W.ret ?_
        cases h
        refine rdR fun e_ => ?_
        subst e_
        have h := z100
        dsimp only at h
        refine fkR ?_
        cases h
        exact leaves (.inr rfl) rfl (.tup _ _ _ _ (cC (.imm _) (cC (.imm _) .nil))) (cN (cN .nil)) rfl rfl
       ·have h := ifF q108 h
        refine W.skip ?_
        refine W.pk ?_
        refine .v rfl rfl (OpL.binI rfl rfl rfl rfl) ?_
        refine .m rfl rfl rfl rfl ?_
        refine .nil ?_
        cases h
        exact rdN (Gives.mkR [(1001, 1003)] (.r rfl rfl (.r rfl rfl (.r rfl rfl (.r rfl rfl .n)))) (.r rfl rfl rfl (.r rfl rfl rfl .n)) rfl rfl rfl)
      ·clear h
       rcases tf t103.2 with g107 | g107
       ·refine W.pk ?_
        refine .m rfl rfl rfl rfl ?_
        refine .v rfl rfl (OpL.unV rfl rfl rfl) ?_
        refine .m rfl rfl rfl rfl ?_
        refine .v rfl (met rfl rfl rfl (notT g107)) (O.ldN ty26 rfl rfl rfl) ?_
        refine .v rfl (met rfl rfl rfl (notT g107)) (O.ldN ty26 rfl rfl rfl) ?_
        refine .call (.b t105) [] 0 (trade_Twins.ok ((if_pos (by simp only [g107, Bool.true_or, Bool.or_true, Bool.false_or, Bool.or_false, Bool.true_and, Bool.and_true, Bool.false_and, Bool.and_false, Bool.not_true, Bool.not_false, cond_true, cond_false])).symm.trans b106)) rfl (met rfl rfl rfl (notT g107)) rfl ca13 rfl rfl (cC (.agg _ _ _ _ (cC (.imm _) (cC (.imm _) (cC (.imm _) (cC (.imm _) (cC (.imm _) (cC (.imm _) (cC (.imm _) (cC (.imm _) (cC (.imm _) (cC (.imm _) (cC (.imm _) .nil)))))))))))) (cC (.agg _ _ _ _ (cC (.imm _) (cC (.imm _) (cC (.imm _) (cC (.imm _) (cC (.imm _) (cC (.imm _) (cC (.imm _) (cC (.imm _) (cC (.imm _) (cC (.imm _) (cC (.imm _) .nil)))))))))))) .nil)) rfl rfl rfl rfl rfl ?_
        refine .v rfl (met rfl rfl rfl (notT g107)) (OpL.unV rfl rfl rfl) ?_
        refine .v rfl rfl (O.pickF (notT g107) rfl rfl rfl) ?_
        refine .nil ?_
        exact toN (Gives.mkR [] (.r rfl rfl (.r rfl rfl (.r rfl rfl (.r rfl rfl (.c rfl (sbb (by simp only [g107, Bool.true_or, Bool.or_true, Bool.false_or, Bool.or_false, Bool.true_and, Bool.and_true, Bool.false_and, Bool.and_false, Bool.not_true, Bool.not_false, cond_true, cond_false])) rfl .n))))) (.r rfl rfl rfl (.r rfl rfl rfl .n)) rfl rfl rfl)
       ·refine W.pk ?_
        refine .m rfl rfl rfl rfl ?_
        refine .v rfl rfl (OpL.unV rfl rfl rfl) ?_
        refine .m rfl rfl rfl rfl ?_
        refine .x rfl (unmet rfl rfl rfl (notF g107)) ?_
        refine .x rfl (unmet rfl rfl rfl (notF g107)) ?_
        refine .x rfl (unmet rfl rfl rfl (notF g107)) ?_
        refine .x rfl (unmet rfl rfl rfl (notF g107)) ?_
        refine .v rfl rfl (O.pickT (notF g107) rfl rfl rfl) ?_
        refine .nil ?_
        exact toN (Gives.mkR [] (.r rfl rfl (.r rfl rfl (.r rfl rfl (.r rfl rfl (.c rfl (sbb (by simp only [g107, Bool.true_or, Bool.or_true, Bool.false_or, Bool.or_false, Bool.true_and, Bool.and_true, Bool.false_and, Bool.and_false, Bool.not_true, Bool.not_false, cond_true, cond_false])) rfl .n))))) (.r rfl rfl rfl (.r rfl rfl rfl .n)) rfl rfl rfl)
     ·have h := ifF q101 h
      refine W.exit ?_
      cases h
      refine rdX fun e_ => ?_
      subst e_
      repeat with_reducible refine thru ?_
      refine hit ?_
      exact fkN (Gives.mkR [] (.r rfl rfl .n) (.r rfl rfl rfl (.r rfl rfl rfl .n)) rfl rfl rfl)
    ·intro w97 e_
     subst e_
     clear h
     have h := z100
     dsimp only at h
     refine W.seq ?_
     refine W.pk ?_
     refine .m rfl rfl rfl rfl ?_
     refine .a rfl rfl rfl rfl ?_
     refine .a rfl rfl rfl rfl ?_
     refine .nil ?_
     refine W.ret ?_
     cases h
     exact leaves (.inr rfl) rfl (.tup _ _ _ _ (cC (.ptr _ _ _ _ _ rfl (cC (.own _ _ _ _ rfl) (cC (.imm _) (cC (.imm _) .nil)))) (cC (.imm _) .nil))) (cN (cN .nil)) rfl rfl
 ·clear h
  rcases tf (decide ((List.length x0 : Int) > 64)) with g1 | g1
  ·refine W.pk ?_
   refine .m rfl rfl rfl rfl ?_
   refine .v rfl rfl (O.lenR sl35 rfl rfl) ?_
   refine .v rfl rfl (OpL.binI rfl rfl rfl rfl) ?_
   refine .m rfl rfl rfl rfl ?_
   refine .x rfl (unmet rfl rfl rfl g1) ?_
   refine .x rfl (unmet rfl rfl rfl g1) ?_
   refine .v rfl rfl (O.pickT g1 rfl rfl rfl) ?_
   refine .m rfl rfl rfl rfl ?_
   refine .x rfl (unmet rfl rfl rfl rfl) ?_
   refine .x rfl (unmet rfl rfl rfl rfl) ?_
   refine .v rfl rfl (O.pickT rfl rfl rfl rfl) ?_
   refine .nil ?_
   exact toN (Gives.mkR [] (.r rfl rfl (.r rfl rfl (.c rfl (sbb (by simp only [g1, Bool.true_or, Bool.or_true, Bool.false_or, Bool.or_false, Bool.true_and, Bool.and_true, Bool.false_and, Bool.and_false, Bool.not_true, Bool.not_false, cond_true, cond_false])) rfl .n))) .n rfl rfl rfl)
  ·rcases tf (decide (x1 < 0)) with g2 | g2
   ·refine W.pk ?_
    refine .m rfl rfl rfl rfl ?_
    refine .v rfl rfl (O.lenR sl35 rfl rfl) ?_
    refine .v rfl rfl (OpL.binI rfl rfl rfl rfl) ?_
    refine .m rfl rfl rfl rfl ?_
    refine .m rfl (met rfl rfl rfl g1) rfl rfl ?_
    refine .v rfl (met rfl rfl rfl g1) (OpL.binI rfl rfl rfl rfl) ?_
    refine .v rfl rfl (O.pickF g1 rfl rfl rfl) ?_
    refine .m rfl rfl rfl rfl ?_
    refine .x rfl (unmet rfl rfl rfl g2) ?_
    refine .x rfl (unmet rfl rfl rfl g2) ?_
    refine .v rfl rfl (O.pickT g2 rfl rfl rfl) ?_
    refine .nil ?_
    exact toN (Gives.mkR [] (.r rfl rfl (.r rfl rfl (.c rfl (sbb (by first | (simp only [g1, g2, Bool.true_or, Bool.or_true, Bool.false_or, Bool.or_false, Bool.true_and, Bool.and_true, Bool.false_and, Bool.and_false, Bool.not_true, Bool.not_false, cond_true, cond_false]; done) | (repeat (first | rw [g1] | rw [g2])) <;> simp only [Bool.true_or, Bool.or_true, Bool.false_or, Bool.or_false, Bool.true_and, Bool.and_true, Bool.false_and, Bool.and_false, Bool.not_true, Bool.not_false, cond_true, cond_false])) rfl .n))) .n rfl rfl rfl)
   ·refine W.pk ?_
    refine .m rfl rfl rfl rfl ?_
    refine .v rfl rfl (O.lenR sl35 rfl rfl) ?_
    refine .v rfl rfl (OpL.binI rfl rfl rfl rfl) ?_
    refine .m rfl rfl rfl rfl ?_
    refine .m rfl (met rfl rfl rfl g1) rfl rfl ?_
    refine .v rfl (met rfl rfl rfl g1) (OpL.binI rfl rfl rfl rfl) ?_
    refine .v rfl rfl (O.pickF g1 rfl rfl rfl) ?_
    refine .m rfl rfl rfl rfl ?_
    refine .m rfl (met rfl rfl rfl g2) rfl rfl ?_
    refine .v rfl (met rfl rfl rfl g2) (OpL.binI rfl rfl rfl rfl) ?_
    refine .v rfl rfl (O.pickF g2 rfl rfl rfl) ?_
    refine .nil ?_
    exact toN (Gives.mkR [] (.r rfl rfl (.r rfl rfl (.c rfl (sbb (by first | (simp only [g1, g2, Bool.true_or, Bool.or_true, Bool.false_or, Bool.or_false, Bool.true_and, Bool.and_true, Bool.false_and, Bool.and_false, Bool.not_true, Bool.not_false, cond_true, cond_false]; done) | (repeat (first | rw [g1] | rw [g2])) <;> simp only [Bool.true_or, Bool.or_true, Bool.false_or, Bool.or_false, Bool.true_and, Bool.and_true, Bool.false_and, Bool.and_false, Bool.not_true, Bool.not_false, cond_true, cond_false])) rfl .n))) .n rfl rfl rfl)

noncomputable def lombardref23_in.f (x0 : Int) (x1 : Int) (x2 : Int) : Option (Bool) :=
  some ((decide (x0 ≥ x1)) && (decide (x0 ≤ x2)))
set_option maxRecDepth 100000 in
set_option maxHeartbeats 4000000 in
theorem lombardref23_in.ok {x0 : Int} {x1 : Int} {x2 : Int} {r : Bool} (h : lombardref23_in.f x0 x1 x2 = some r) : Pm.Spec prog 36 [.imm (.val (.int .i64 x0)), .imm (.val (.int .i64 x1)), .imm (.val (.int .i64 x2))] (.imm (.val (.bool r))) [none, none, none] := by
 unfold lombardref23_in.f at h
 refine Pm.Spec.of_body Try.func36 rfl (by kernel_rfl) (Nat.le_of_ble_eq_true rfl) (Nat.le_of_ble_eq_true rfl) ?_
 refine W.ghost (σ' := (mkSt [(0, some (.i x0)), (1, some (.i x1)), (2, some (.i x2))] [] 1000)) (Gives.entry (.c rfl (.c rfl (.c rfl .n))) .n) ?_
 refine W.seq ?_
 refine W.pk ?_
 refine .a rfl rfl rfl rfl ?_
 refine .nil ?_
 refine W.seq ?_
 refine W.fork (mkSt [(6, some (.b ((decide (x0 ≥ x1)) && (decide (x0 ≤ x2)))))] [] 1000) ?_ ?_
 ·refine W.ret ?_
  cases h
  exact leaves (.inr rfl) rfl (.imm _) (cN (cN (cN .nil))) rfl rfl
 ·clear h
  rcases tf (decide (x0 ≥ x1)) with g1 | g1
  ·refine W.pk ?_
   refine .m rfl rfl rfl rfl ?_
   refine .m rfl rfl rfl rfl ?_
   refine .v rfl rfl (OpL.binI rfl rfl rfl rfl) ?_
   refine .m rfl rfl rfl rfl ?_
   refine .m rfl (met rfl rfl rfl g1) rfl rfl ?_
   refine .m rfl (met rfl rfl rfl g1) rfl rfl ?_
   refine .v rfl (met rfl rfl rfl g1) (OpL.binI rfl rfl rfl rfl) ?_
   refine .v rfl rfl (O.pickT g1 rfl rfl rfl) ?_
   refine .a rfl rfl rfl rfl ?_
   refine .nil ?_
   exact toN (Gives.mkR [] (.c rfl (sbb (by simp only [g1, Bool.true_or, Bool.or_true, Bool.false_or, Bool.or_false, Bool.true_and, Bool.and_true, Bool.false_and, Bool.and_false, Bool.not_true, Bool.not_false, cond_true, cond_false])) rfl .n) .n rfl rfl rfl)
  ·refine W.pk ?_
   refine .m rfl rfl rfl rfl ?_
   refine .m rfl rfl rfl rfl ?_
   refine .v rfl rfl (OpL.binI rfl rfl rfl rfl) ?_
   refine .m rfl rfl rfl rfl ?_
   refine .x rfl (unmet rfl rfl rfl g1) ?_
   refine .x rfl (unmet rfl rfl rfl g1) ?_
   refine .x rfl (unmet rfl rfl rfl g1) ?_
   refine .v rfl rfl (O.pickF g1 rfl rfl rfl) ?_
   refine .a rfl rfl rfl rfl ?_
   refine .nil ?_
   exact toN (Gives.mkR [] (.c rfl (sbb (by simp only [g1, Bool.true_or, Bool.or_true, Bool.false_or, Bool.or_false, Bool.true_and, Bool.and_true, Bool.false_and, Bool.and_false, Bool.not_true, Bool.not_false, cond_true, cond_false])) rfl .n) .n rfl rfl rfl)

noncomputable def lombardref02_Good.f (x0 : Int) : Option (Bool) :=
  some ((decide (x0 ≥ 0)) && (decide (x0 ≤ 200000)))
set_option maxRecDepth 100000 in
set_option maxHeartbeats 4000000 in
theorem lombardref02_Good.ok {x0 : Int} {r : Bool} (h : lombardref02_Good.f x0 = some r) : Pm.Spec prog 50 [.imm (.val (.int .i64 x0))] (.imm (.val (.bool r))) [none] := by
 unfold lombardref02_Good.f at h
 refine Pm.Spec.of_body Try.func50 rfl (by kernel_rfl) (Nat.le_of_ble_eq_true rfl) (Nat.le_of_ble_eq_true rfl) ?_
 refine W.ghost (σ' := (mkSt [(0, some (.i x0))] [] 1000)) (Gives.entry (.c rfl .n) .n) ?_
 refine W.seq ?_
 refine W.pk ?_
 refine .a rfl rfl rfl rfl ?_
 refine .nil ?_
 refine W.seq ?_
 refine W.fork (mkSt [(2, some (.b ((decide (x0 ≥ 0)) && (decide (x0 ≤ 200000)))))] [] 1000) ?_ ?_
 ·refine W.ret ?_
  cases h
  exact leaves (.inr rfl) rfl (.imm _) (cN .nil) rfl rfl
 ·clear h
  rcases tf (decide (x0 ≥ 0)) with g1 | g1
  ·refine W.pk ?_
   refine .m rfl rfl rfl rfl ?_
   refine .v rfl rfl (OpL.binI rfl rfl rfl rfl) ?_
   refine .m rfl rfl rfl rfl ?_
   refine .m rfl (met rfl rfl rfl g1) rfl rfl ?_
   refine .v rfl (met rfl rfl rfl g1) (OpL.binI rfl rfl rfl rfl) ?_
   refine .v rfl rfl (O.pickT g1 rfl rfl rfl) ?_
   refine .a rfl rfl rfl rfl ?_
   refine .nil ?_
   exact toN (Gives.mkR [] (.c rfl (sbb (by simp only [g1, Bool.true_or, Bool.or_true, Bool.false_or, Bool.or_false, Bool.true_and, Bool.and_true, Bool.false_and, Bool.and_false, Bool.not_true, Bool.not_false, cond_true, cond_false])) rfl .n) .n rfl rfl rfl)
  ·refine W.pk ?_
   refine .m rfl rfl rfl rfl ?_
   refine .v rfl rfl (OpL.binI rfl rfl rfl rfl) ?_
   refine .m rfl rfl rfl rfl ?_
   refine .x rfl (unmet rfl rfl rfl g1) ?_
   refine .x rfl (unmet rfl rfl rfl g1) ?_
   refine .v rfl rfl (O.pickF g1 rfl rfl rfl) ?_
   refine .a rfl rfl rfl rfl ?_
   refine .nil ?_
   exact toN (Gives.mkR [] (.c rfl (sbb (by simp only [g1, Bool.true_or, Bool.or_true, Bool.false_or, Bool.or_false, Bool.true_and, Bool.and_true, Bool.false_and, Bool.and_false, Bool.not_true, Bool.not_false, cond_true, cond_false])) rfl .n) .n rfl rfl rfl)

noncomputable def lombardref03_rated.f (x0 : Int) : Option (Bool) :=
  some ((decide (x0 ≥ (-1000000))) && (decide (x0 ≤ 1000000)))
set_option maxRecDepth 100000 in
set_option maxHeartbeats 4000000 in
theorem lombardref03_rated.ok {x0 : Int} {r : Bool} (h : lombardref03_rated.f x0 = some r) : Pm.Spec prog 51 [.imm (.val (.int .i64 x0))] (.imm (.val (.bool r))) [none] := by
 unfold lombardref03_rated.f at h
 refine Pm.Spec.of_body Try.func51 rfl (by kernel_rfl) (Nat.le_of_ble_eq_true rfl) (Nat.le_of_ble_eq_true rfl) ?_
 refine W.ghost (σ' := (mkSt [(0, some (.i x0))] [] 1000)) (Gives.entry (.c rfl .n) .n) ?_
 refine W.seq ?_
 refine W.pk ?_
 refine .a rfl rfl rfl rfl ?_
 refine .nil ?_
 refine W.seq ?_
 refine W.fork (mkSt [(2, some (.b ((decide (x0 ≥ (-1000000))) && (decide (x0 ≤ 1000000)))))] [] 1000) ?_ ?_
 ·refine W.ret ?_
  cases h
  exact leaves (.inr rfl) rfl (.imm _) (cN .nil) rfl rfl
 ·clear h
  rcases tf (decide (x0 ≥ (-1000000))) with g1 | g1
  ·refine W.pk ?_
   refine .m rfl rfl rfl rfl ?_
   refine .v rfl rfl (OpL.binI rfl rfl rfl rfl) ?_
   refine .m rfl rfl rfl rfl ?_
   refine .m rfl (met rfl rfl rfl g1) rfl rfl ?_
   refine .v rfl (met rfl rfl rfl g1) (OpL.binI rfl rfl rfl rfl) ?_
   refine .v rfl rfl (O.pickT g1 rfl rfl rfl) ?_
   refine .a rfl rfl rfl rfl ?_
   refine .nil ?_
   exact toN (Gives.mkR [] (.c rfl (sbb (by simp only [g1, Bool.true_or, Bool.or_true, Bool.false_or, Bool.or_false, Bool.true_and, Bool.and_true, Bool.false_and, Bool.and_false, Bool.not_true, Bool.not_false, cond_true, cond_false])) rfl .n) .n rfl rfl rfl)
  ·refine W.pk ?_
   refine .m rfl rfl rfl rfl ?_
   refine .v rfl rfl (OpL.binI rfl rfl rfl rfl) ?_
   refine .m rfl rfl rfl rfl ?_
   refine .x rfl (unmet rfl rfl rfl g1) ?_
   refine .x rfl (unmet rfl rfl rfl g1) ?_
   refine .v rfl rfl (O.pickF g1 rfl rfl rfl) ?_
   refine .a rfl rfl rfl rfl ?_
   refine .nil ?_
   exact toN (Gives.mkR [] (.c rfl (sbb (by simp only [g1, Bool.true_or, Bool.or_true, Bool.false_or, Bool.or_false, Bool.true_and, Bool.and_true, Bool.false_and, Bool.and_false, Bool.not_true, Bool.not_false, cond_true, cond_false])) rfl .n) .n rfl rfl rfl)

noncomputable def lombardref03_Check.b0 (x0 : List api_Reset) (v16 : Int) : Option (Int ⊕ (Int ⊕ Unit)) :=
  if (decide (v16 < (List.length x0 : Int))) = true then
    if (0 : Int) ≤ v16 ∧ v16 < (List.length x0 : Int) then
    (lombardref02_Good.f ((nth x0 v16).Day)).bind fun t49 =>
    if ((!t49) = false ∧ (decide (v16 > 0)) = true → (0 : Int) ≤ v16 ∧ v16 < (List.length x0 : Int)) then
    if ((!t49) = false ∧ (decide (v16 > 0)) = true → (0 : Int) ≤ (IntKind.wrap .i64 (v16 - 1)) ∧ (IntKind.wrap .i64 (v16 - 1)) < (List.length x0 : Int)) then
    if ((!t49) || ((decide (v16 > 0)) && (decide (((nth x0 v16).Day) ≤ ((nth x0 (IntKind.wrap .i64 (v16 - 1))).Day))))) = true then
      some (.inr (.inl 10))
    else
      if (0 : Int) ≤ v16 ∧ v16 < (List.length x0 : Int) then
      (lombardref03_rated.f ((nth x0 v16).Rate)).bind fun t57 =>
      if (!t57) = true then
        some (.inr (.inl 1))
      else
        some (.inl (IntKind.wrap .i64 (v16 + 1)))
      else none
    else none
    else none
    else none
  else
    some (.inr (.inr ()))
noncomputable def lombardref03_Check.r0 (x0 : List api_Reset) (s : Int) : Option (Int ⊕ (Int ⊕ Unit)) := lombardref03_Check.b0 x0 s
noncomputable def lombardref03_Check.f (x0 : List api_Reset) : Option (Int) :=
  if ((List.length x0 : Int) == 0) = true then
    some 6
  else
    if (decide ((List.length x0 : Int) > 64)) = true then
      some 2
    else
      (loop (lombardref03_Check.r0 x0) 0).bind fun o44 =>
      match o44 with
      | .inl r60 => some r60
      | .inr w43 =>
        some 0
set_option maxRecDepth 100000 in
set_option maxHeartbeats 4000000 in
theorem lombardref03_Check.ok {x0 : List api_Reset} {r : Int} (h : lombardref03_Check.f x0 = some r) : Pm.Spec prog 39 [.imm (.row 2 (List.map api_Reset.enc x0))] (.imm (.val (.int .i64 r))) [none] := by
 unfold lombardref03_Check.f at h
 refine Pm.Spec.of_body Try.func39 rfl (by kernel_rfl) (Nat.le_of_ble_eq_true rfl) (Nat.le_of_ble_eq_true rfl) ?_
 refine W.ghost (σ' := (mkSt [(0, some (.imm (.row 2 (List.map api_Reset.enc x0))))] [] 1000)) (Gives.entry (.c rfl .n) .n) ?_
 refine W.seq ?_
 refine W.pk ?_
 refine .a rfl rfl rfl rfl ?_
 refine .nil ?_
 refine W.seq ?_
 refine W.seq ?_
 refine W.pk ?_
 refine .m rfl rfl rfl rfl ?_
 refine .v rfl rfl (O.lenR sl24 rfl rfl) ?_
 refine .v rfl rfl (OpL.binI rfl rfl rfl rfl) ?_
 refine .nil ?_
 refine W.cond rfl (fun q1 => ?_) (fun q1 => ?_)
 ·have h := ifT q1 h
  refine W.seq ?_
  refine W.pk ?_
  refine .a rfl rfl rfl rfl ?_
  refine .nil ?_
  refine W.ret ?_
  cases h
  exact leaves (.inr rfl) rfl (.imm _) (cN .nil) rfl rfl
 ·have h := ifF q1 h
  refine W.skip ?_
  refine W.seq ?_
  refine W.seq ?_
  refine W.pk ?_
  refine .m rfl rfl rfl rfl ?_
  refine .v rfl rfl (O.lenR sl24 rfl rfl) ?_
  refine .v rfl rfl (OpL.binI rfl rfl rfl rfl) ?_
  refine .nil ?_
  refine W.cond rfl (fun q2 => ?_) (fun q2 => ?_)
  ·have h := ifT q2 h
   refine W.seq ?_
   refine W.pk ?_
   refine .a rfl rfl rfl rfl ?_
   refine .nil ?_
   refine W.ret ?_
   cases h
   exact leaves (.inr rfl) rfl (.imm _) (cN .nil) rfl rfl
  ·have h := ifF q2 h
   refine W.skip ?_
   refine W.seq ?_
   refine W.seq ?_
   refine W.pk ?_
   refine .a rfl rfl rfl rfl ?_
   refine .nil ?_
   obtain ⟨o44, b45, z46⟩ := bnd1 h
   refine W.fork2 (out := o44) (fun (w43 : Unit) => mkSt [] [] 1000) ?_ ?_
   ·clear h
    refine W.block ?_
    refine W.loopF (fun (s_ : Int) => mkSt [(0, some (.imm (.row 2 (List.map api_Reset.enc x0)))), (3, some (.i s_))] [] 1000) b45 (Gives.mkR [] (.r rfl rfl (.r rfl rfl .n)) .n rfl rfl rfl) ?_
    rintro v16 s_ hr
    have h : lombardref03_Check.b0 x0 v16 = some s_ := hr
    unfold lombardref03_Check.b0 at h
    refine W.seq ?_
    refine W.seq ?_
    refine W.pk ?_
    refine .m rfl rfl rfl rfl ?_
    refine .m rfl rfl rfl rfl ?_
    refine .v rfl rfl (O.lenR sl24 rfl rfl) ?_
    refine .v rfl rfl (OpL.binI rfl rfl rfl rfl) ?_
    refine .nil ?_
    refine W.cond rfl (fun q47 => ?_) (fun q47 => ?_)
    ·have h := ifT q47 h
     refine W.skip ?_
     refine W.seq ?_
     refine W.block ?_
     refine W.seq ?_
     refine W.seq ?_
     obtain ⟨c48, h⟩ := chk h
     obtain ⟨t49, b50, h⟩ := bnd1 h
     obtain ⟨c51, h⟩ := chk h
     obtain ⟨c52, h⟩ := chk h
     refine W.fork (mkSt [(0, some (.imm (.row 2 (List.map api_Reset.enc x0)))), (3, some (.i v16)), (40, some (.b ((!t49) || ((decide (v16 > 0)) && (decide (((nth x0 v16).Day) ≤ ((nth x0 (IntKind.wrap .i64 (v16 - 1))).Day)))))))] [] 1000) ?_ ?_
     ·refine W.cond rfl (fun q55 => ?_) (fun q55 => ?_)
      ·have h := ifT q55 h
       refine W.seq ?_
       refine W.pk ?_
       refine .a rfl rfl rfl rfl ?_
       refine .nil ?_
       refine W.ret ?_
       cases h
       refine rdR fun e_ => ?_
       subst e_
       have h := z46
       dsimp only at h
       refine fkR ?_
       cases h
       exact leaves (.inr rfl) rfl (.imm _) (cN .nil) rfl rfl
      ·have h := ifF q55 h
       refine W.skip ?_
       refine W.seq ?_
       obtain ⟨c56, h⟩ := chk h
       obtain ⟨t57, b58, h⟩ := bnd1 h
       refine W.pk ?_
       refine .m rfl rfl rfl rfl ?_
       refine .m rfl rfl rfl rfl ?_
       refine .v rfl rfl (O.idx sl24 c56 rfl rfl rfl) ?_
       refine .v rfl rfl (O.fld fld60_1 rfl rfl rfl) ?_
       refine .v rfl rfl (O.ld (y := .i ((nth x0 v16).Rate)) ty3 rfl rfl rfl) ?_
       refine .call (.b t57) [] 0 (lombardref03_rated.ok b58) rfl rfl rfl ca51 rfl rfl (cC (.imm _) .nil) rfl rfl rfl rfl rfl ?_
       refine .v rfl rfl (OpL.unV rfl rfl rfl) ?_
       refine .nil ?_
       refine W.cond rfl (fun q59 => ?_) (fun q59 => ?_)
       ·have h := ifT q59 h
        refine W.seq ?_
        refine W.pk ?_
        refine .a rfl rfl rfl rfl ?_
        refine .nil ?_
        refine W.ret ?_
        cases h
        refine rdR fun e_ => ?_
        subst e_
        have h := z46
        dsimp only at h
        refine fkR ?_
        cases h
        exact leaves (.inr rfl) rfl (.imm _) (cN .nil) rfl rfl
       ·have h := ifF q59 h
        refine W.skip ?_
        refine W.pk ?_
        refine .m rfl rfl rfl rfl ?_
        refine .v rfl rfl (OpL.binI rfl rfl rfl rfl) ?_
        refine .a rfl rfl rfl rfl ?_
        refine .nil ?_
        cases h
        exact rdN (Gives.mkR [] (.r rfl rfl (.r rfl rfl .n)) .n rfl rfl rfl)
     ·clear h
      rcases tf t49 with g53 | g53
      ·rcases tf (decide (v16 > 0)) with g54 | g54
       ·refine W.dk (unm 25 [0, 0, 3, 7, 15, 31, 63, 127, 255, 511, 1023, 2047, 2047, 8191, 16383, 32767, 2047, 2047, 133119, 460799, 985087, 2033663, 4194303, 8388607, 16777215]) rfl (by kernel_rfl) ?_
        refine .m rfl rfl rfl rfl ?_
        refine .m rfl rfl rfl rfl ?_
        refine .v rfl rfl (O.idx sl24 c48 rfl rfl rfl) ?_
        refine .v rfl rfl (O.fld fld60_0 rfl rfl rfl) ?_
        refine .v rfl rfl (O.ld (y := .i ((nth x0 v16).Day)) ty3 rfl rfl rfl) ?_
        refine .call (.b t49) [] 0 (lombardref02_Good.ok b50) rfl rfl rfl ca50 rfl rfl (cC (.imm _) .nil) rfl rfl rfl rfl rfl ?_
        refine .v rfl rfl (OpL.unV rfl rfl rfl) ?_
        refine .m rfl rfl rfl rfl ?_
        refine .m rfl (met rfl rfl rfl (notT g53)) rfl rfl ?_
        refine .v rfl (met rfl rfl rfl (notT g53)) (OpL.binI rfl rfl rfl rfl) ?_
        refine .m rfl (met rfl rfl rfl (notT g53)) rfl rfl ?_
        refine .m rfl (met rfl rfl rfl g54) rfl rfl ?_
        refine .m rfl (met rfl rfl rfl g54) rfl rfl ?_
        refine .v rfl (met rfl rfl rfl g54) (O.idx sl24 (c51 ⟨(by first | (simp only [g53, g54, Bool.true_or, Bool.or_true, Bool.false_or, Bool.or_false, Bool.true_and, Bool.and_true, Bool.false_and, Bool.and_false, Bool.not_true, Bool.not_false, cond_true, cond_false]; done) | (repeat (first | rw [g53] | rw [g54])) <;> simp only [Bool.true_or, Bool.or_true, Bool.false_or, Bool.or_false, Bool.true_and, Bool.and_true, Bool.false_and, Bool.and_false, Bool.not_true, Bool.not_false, cond_true, cond_false]), (by first | (simp only [g53, g54, Bool.true_or, Bool.or_true, Bool.false_or, Bool.or_false, Bool.true_and, Bool.and_true, Bool.false_and, Bool.and_false, Bool.not_true, Bool.not_false, cond_true, cond_false]; done) | (repeat (first | rw [g53] | rw [g54])) <;> simp only [Bool.true_or, Bool.or_true, Bool.false_or, Bool.or_false, Bool.true_and, Bool.and_true, Bool.false_and, Bool.and_false, Bool.not_true, Bool.not_false, cond_true, cond_false])⟩) rfl rfl rfl) ?_
        refine .v rfl (met rfl rfl rfl g54) (O.fld fld60_0 rfl rfl rfl) ?_
        refine .v rfl (met rfl rfl rfl g54) (O.ld (y := .i ((nth x0 v16).Day)) ty3 rfl rfl rfl) ?_
        refine .m rfl (met rfl rfl rfl g54) rfl rfl ?_
        refine .m rfl (met rfl rfl rfl g54) rfl rfl ?_
        refine .v rfl (met rfl rfl rfl g54) (OpL.binI rfl rfl rfl rfl) ?_
        refine .v rfl (met rfl rfl rfl g54) (O.idx sl24 (c52 ⟨(by first | (simp only [g53, g54, Bool.true_or, Bool.or_true, Bool.false_or, Bool.or_false, Bool.true_and, Bool.and_true, Bool.false_and, Bool.and_false, Bool.not_true, Bool.not_false, cond_true, cond_false]; done) | (repeat (first | rw [g53] | rw [g54])) <;> simp only [Bool.true_or, Bool.or_true, Bool.false_or, Bool.or_false, Bool.true_and, Bool.and_true, Bool.false_and, Bool.and_false, Bool.not_true, Bool.not_false, cond_true, cond_false]), (by first | (simp only [g53, g54, Bool.true_or, Bool.or_true, Bool.false_or, Bool.or_false, Bool.true_and, Bool.and_true, Bool.false_and, Bool.and_false, Bool.not_true, Bool.not_false, cond_true, cond_false]; done) | (repeat (first | rw [g53] | rw [g54])) <;> simp only [Bool.true_or, Bool.or_true, Bool.false_or, Bool.or_false, Bool.true_and, Bool.and_true, Bool.false_and, Bool.and_false, Bool.not_true, Bool.not_false, cond_true, cond_false])⟩) rfl rfl rfl) ?_
        refine .v rfl (met rfl rfl rfl g54) (O.fld fld60_0 rfl rfl rfl) ?_
        refine .v rfl (met rfl rfl rfl g54) (O.ld (y := .i ((nth x0 (IntKind.wrap .i64 (v16 - 1))).Day)) ty3 rfl rfl rfl) ?_
        refine .v rfl (met rfl rfl rfl g54) (OpL.binI rfl rfl rfl rfl) ?_
        refine .v rfl (met rfl rfl rfl (notT g53)) (O.pickT g54 rfl rfl rfl) ?_
        refine .v rfl rfl (O.pickF (notT g53) rfl rfl rfl) ?_
        refine .nil ?_
        refine ⟨by kernel_rfl, by kernel_rfl, ?_⟩
        exact toN (Gives.mkR [] (.r rfl rfl (.r rfl rfl (.c rfl (sbb (by first | (simp only [g53, g54, Bool.true_or, Bool.or_true, Bool.false_or, Bool.or_false, Bool.true_and, Bool.and_true, Bool.false_and, Bool.and_false, Bool.not_true, Bool.not_false, cond_true, cond_false]; done) | (repeat (first | rw [g53] | rw [g54])) <;> simp only [Bool.true_or, Bool.or_true, Bool.false_or, Bool.or_false, Bool.true_and, Bool.and_true, Bool.false_and, Bool.and_false, Bool.not_true, Bool.not_false, cond_true, cond_false])) rfl .n))) .n rfl rfl rfl)
       ·refine W.dk (unm 25 [0, 0, 3, 7, 15, 31, 63, 127, 255, 511, 1023, 2047, 2047, 8191, 16383, 32767, 2047, 2047, 133119, 460799, 985087, 2033663, 4194303, 8388607, 16777215]) rfl (by kernel_rfl) ?_
        refine .m rfl rfl rfl rfl ?_
        refine .m rfl rfl rfl rfl ?_
        refine .v rfl rfl (O.idx sl24 c48 rfl rfl rfl) ?_
        refine .v rfl rfl (O.fld fld60_0 rfl rfl rfl) ?_
        refine .v rfl rfl (O.ld (y := .i ((nth x0 v16).Day)) ty3 rfl rfl rfl) ?_
        refine .call (.b t49) [] 0 (lombardref02_Good.ok b50) rfl rfl rfl ca50 rfl rfl (cC (.imm _) .nil) rfl rfl rfl rfl rfl ?_
        refine .v rfl rfl (OpL.unV rfl rfl rfl) ?_
        refine .m rfl rfl rfl rfl ?_
        refine .m rfl (met rfl rfl rfl (notT g53)) rfl rfl ?_
        refine .v rfl (met rfl rfl rfl (notT g53)) (OpL.binI rfl rfl rfl rfl) ?_
        refine .m rfl (met rfl rfl rfl (notT g53)) rfl rfl ?_
        refine .x rfl (unmet rfl rfl rfl g54) ?_
        refine .x rfl (unmet rfl rfl rfl g54) ?_
        refine .x rfl (unmet rfl rfl rfl g54) ?_
        refine .x rfl (unmet rfl rfl rfl g54) ?_
        refine .x rfl (unmet rfl rfl rfl g54) ?_
        refine .x rfl (unmet rfl rfl rfl g54) ?_
        refine .x rfl (unmet rfl rfl rfl g54) ?_
        refine .x rfl (unmet rfl rfl rfl g54) ?_
        refine .x rfl (unmet rfl rfl rfl g54) ?_
        refine .x rfl (unmet rfl rfl rfl g54) ?_
        refine .x rfl (unmet rfl rfl rfl g54) ?_
        refine .x rfl (unmet rfl rfl rfl g54) ?_
        refine .v rfl (met rfl rfl rfl (notT g53)) (O.pickF g54 rfl rfl rfl) ?_
        refine .v rfl rfl (O.pickF (notT g53) rfl rfl rfl) ?_
        refine .nil ?_
        refine ⟨by kernel_rfl, by kernel_rfl, ?_⟩
        exact toN (Gives.mkR [] (.r rfl rfl (.r rfl rfl (.c rfl (sbb (by first | (simp only [g53, g54, Bool.true_or, Bool.or_true, Bool.false_or, Bool.or_false, Bool.true_and, Bool.and_true, Bool.false_and, Bool.and_false, Bool.not_true, Bool.not_false, cond_true, cond_false]; done) | (repeat (first | rw [g53] | rw [g54])) <;> simp only [Bool.true_or, Bool.or_true, Bool.false_or, Bool.or_false, Bool.true_and, Bool.and_true, Bool.false_and, Bool.and_false, Bool.not_true, Bool.not_false, cond_true, cond_false])) rfl .n))) .n rfl rfl rfl)
      ·refine W.dk (unm 25 [0, 0, 3, 7, 15, 31, 63, 127, 255, 511, 1023, 2047, 2047, 8191, 16383, 32767, 2047, 2047, 133119, 460799, 985087, 2033663, 4194303, 8388607, 16777215]) rfl (by kernel_rfl) ?_
       refine .m rfl rfl rfl rfl ?_
       refine .m rfl rfl rfl rfl ?_
       refine .v rfl rfl (O.idx sl24 c48 rfl rfl rfl) ?_
       refine .v rfl rfl (O.fld fld60_0 rfl rfl rfl) ?_
       refine .v rfl rfl (O.ld (y := .i ((nth x0 v16).Day)) ty3 rfl rfl rfl) ?_
       refine .call (.b t49) [] 0 (lombardref02_Good.ok b50) rfl rfl rfl ca50 rfl rfl (cC (.imm _) .nil) rfl rfl rfl rfl rfl ?_
       refine .v rfl rfl (OpL.unV rfl rfl rfl) ?_
       refine .m rfl rfl rfl rfl ?_
       refine .x rfl (unmet rfl rfl rfl (notF g53)) ?_
       refine .x rfl (unmet rfl rfl rfl (notF g53)) ?_
       refine .x rfl (unmet rfl rfl rfl (notF g53)) ?_
       refine .x rfl (unmetU rfl rfl rfl) ?_
       refine .x rfl (unmetU rfl rfl rfl) ?_
       refine .x rfl (unmetU rfl rfl rfl) ?_
       refine .x rfl (unmetU rfl rfl rfl) ?_
       refine .x rfl (unmetU rfl rfl rfl) ?_
       refine .x rfl (unmetU rfl rfl rfl) ?_
       refine .x rfl (unmetU rfl rfl rfl) ?_
       refine .x rfl (unmetU rfl rfl rfl) ?_
       refine .x rfl (unmetU rfl rfl rfl) ?_
       refine .x rfl (unmetU rfl rfl rfl) ?_
       refine .x rfl (unmetU rfl rfl rfl) ?_
       refine .x rfl (unmetU rfl rfl rfl) ?_
       refine .x rfl (unmet rfl rfl rfl (notF g53)) ?_
       refine .v rfl rfl (O.pickT (notF g53) rfl rfl rfl) ?_
       refine .nil ?_
       refine ⟨by kernel_rfl, by kernel_rfl, ?_⟩
       exact toN (Gives.mkR [] (.r rfl rfl (.r rfl rfl (.c rfl (sbb (by simp only [g53, Bool.true_or, Bool.or_true, Bool.false_or, Bool.or_false, Bool.true_and, Bool.and_true, Bool.false_and, Bool.and_false, Bool.not_true, Bool.not_false, cond_true, cond_false])) rfl .n))) .n rfl rfl rfl)
    ·have h := ifF q47 h
     refine W.exit ?_
     cases h
     refine rdX fun e_ => ?_
     subst e_
     repeat with_reducible refine thru ?_
     refine hit ?_
     exact fkN (Gives.mkR [] .n .n rfl rfl rfl)
   ·intro w43 e_
    subst e_
    clear h
    have h := z46
    dsimp only at h
    refine W.seq ?_
    refine W.pk ?_
    refine .a rfl rfl rfl rfl ?_
    refine .nil ?_
    refine W.ret ?_
    cases h
    exact leaves (.inr rfl) rfl (.imm _) (cN .nil) rfl rfl
end Go.Proofs.Ytidinbjehfodoaa
