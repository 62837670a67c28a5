/- Shows what functions of the program come to, each as a plain function: written by a program of the author's for this claim. -/
import Derived.Test.YtidinbjehfodoaaGx7
namespace Go.Proofs.Ytidinbjehfodoaa
open Go Go.Pm
set_option linter.unusedVariables false
set_option linter.unusedSimpArgs false
noncomputable def lombardref23_Load.b0 (x0 : List api_Trade) (x1 : Int) (v22 : Int) : Option (Int ⊕ (Int ⊕ Unit)) :=
  if (decide (v22 < (List.length x0 : Int))) = true then
    if (0 : Int) ≤ v22 ∧ v22 < (List.length x0 : Int) then
    (lombardref23_Check.f (nth x0 v22)).bind fun t63 =>
    if (t63 != 0) = true then
      if (0 : Int) ≤ v22 ∧ v22 < (List.length x0 : Int) then
      (lombardref23_Check.f (nth x0 v22)).bind fun t67 =>
      some (.inr (.inl t67))
      else none
    else
      if ((decide (v22 > 0)) = true → (0 : Int) ≤ v22 ∧ v22 < (List.length x0 : Int)) then
      if ((decide (v22 > 0)) = true → (0 : Int) ≤ (IntKind.wrap .i64 (v22 - 1)) ∧ (IntKind.wrap .i64 (v22 - 1)) < (List.length x0 : Int)) then
      if (((decide (v22 > 0)) && (decide (((nth x0 v22).ID) ≤ ((nth x0 (IntKind.wrap .i64 (v22 - 1))).ID)))) = false → (0 : Int) ≤ v22 ∧ v22 < (List.length x0 : Int)) then
      if ((((decide (v22 > 0)) && (decide (((nth x0 v22).ID) ≤ ((nth x0 (IntKind.wrap .i64 (v22 - 1))).ID)))) || (decide (((nth x0 v22).ID) > x1))) = false → (0 : Int) ≤ v22 ∧ v22 < (List.length x0 : Int)) then
      if ((((decide (v22 > 0)) && (decide (((nth x0 v22).ID) ≤ ((nth x0 (IntKind.wrap .i64 (v22 - 1))).ID)))) || (decide (((nth x0 v22).ID) > x1))) || (decide (((nth x0 v22).Twin) > x1))) = true then
        some (.inr (.inl 7))
      else
        some (.inl (IntKind.wrap .i64 (v22 + 1)))
      else none
      else none
      else none
      else none
    else none
  else
    some (.inr (.inr ()))
noncomputable def lombardref23_Load.r0 (x0 : List api_Trade) (x1 : Int) (s : Int) : Option (Int ⊕ (Int ⊕ Unit)) := lombardref23_Load.b0 x0 x1 s
noncomputable def lombardref23_Load.b1 (x0 : List api_Trade) (x1 : Int) (v89 : Int) : Option (Int ⊕ (Int ⊕ Unit)) :=
  if (decide (v89 < (List.length x0 : Int))) = true then
    if (0 : Int) ≤ v89 ∧ v89 < (List.length x0 : Int) then
    (lombardref23_Book_Find.f (⟨x0, x1⟩ : lombardref23_Book) ((nth x0 v89).Twin)).bind fun t116 =>
    if ((decide (t116 < 0)) = false → (0 : Int) ≤ v89 ∧ v89 < (List.length x0 : Int)) then
    if ((decide (t116 < 0)) = false → (0 : Int) ≤ t116 ∧ t116 < (List.length x0 : Int)) then
    (if (decide (t116 < 0)) = false then lombardref23_Twins.f (nth x0 v89) (nth x0 t116) else some default).bind fun t120 =>
    if ((decide (t116 < 0)) || (!t120)) = true then
      some (.inr (.inl 32))
    else
      some (.inl (IntKind.wrap .i64 (v89 + 1)))
    else none
    else none
    else none
  else
    some (.inr (.inr ()))
noncomputable def lombardref23_Load.r1 (x0 : List api_Trade) (x1 : Int) (s : Int) : Option (Int ⊕ (Int ⊕ Unit)) := lombardref23_Load.b1 x0 x1 s
noncomputable def lombardref23_Load.f (x0 : List api_Trade) (x1 : Int) : Option (Int) :=
  (if (decide ((List.length x0 : Int) > 64)) = false then lombardref23_in.f x1 0 1125899906842624 else some default).bind fun t1 =>
  if ((decide ((List.length x0 : Int) > 64)) || (!t1)) = true then
    some 2
  else
    (loop (lombardref23_Load.r0 x0 x1) 0).bind fun o58 =>
    match o58 with
    | .inl r78 => some r78
    | .inr w57 =>
      (loop (lombardref23_Load.r1 x0 x1) 0).bind fun o111 =>
      match o111 with
      | .inl r124 => some r124
      | .inr w110 =>
        some 0
set_option maxRecDepth 100000 in
set_option maxHeartbeats 4000000 in
theorem lombardref23_Load.ok {x0 : List api_Trade} {x1 : Int} {r : Int} (h : lombardref23_Load.f x0 x1 = some r) : Pm.Spec prog 16 [.imm (.row 11 (List.map api_Trade.enc x0)), .imm (.val (.int .i64 x1))] (.imm (.val (.int .i64 r))) [none, none] := by
 unfold lombardref23_Load.f at h
 refine Pm.Spec.of_body Try.func16 rfl (by kernel_rfl) (Nat.le_of_ble_eq_true rfl) (Nat.le_of_ble_eq_true rfl) ?_
 refine W.ghost (σ' := (mkSt [(0, some (.imm (.row 11 (List.map api_Trade.enc x0)))), (1, some (.i x1))] [] 1000)) (Gives.entry (.c rfl (.c rfl .n)) .n) ?_
 refine W.seq ?_
 refine W.pk ?_
 refine .a rfl rfl rfl rfl ?_
 refine .nil ?_
 refine W.seq ?_
 refine W.seq ?_
 obtain ⟨t1, b2, h⟩ := bnd1 h
 refine W.fork (mkSt [(0, some (.imm (.row 11 (List.map api_Trade.enc x0)))), (1, some (.i x1)), (16, some (.b ((decide ((List.length x0 : Int) > 64)) || (!t1))))] [] 1000) ?_ ?_
 ·refine W.cond rfl (fun q4 => ?_) (fun q4 => ?_)
  ·have h := ifT q4 h
   refine W.seq ?_
   refine W.pk ?_
   refine .a rfl rfl rfl rfl ?_
   refine .nil ?_
   refine W.ret ?_
   cases h
   exact leaves (.inr rfl) rfl (.imm _) (cN (cN .nil)) rfl rfl
  ·have h := ifF q4 h
   refine W.skip ?_
   refine W.seq ?_
   refine W.seq ?_
   refine W.pk ?_
   refine .a rfl rfl rfl rfl ?_
   refine .nil ?_
   obtain ⟨o58, b59, z60⟩ := bnd1 h
   refine W.fork2 (out := o58) (fun (w57 : Unit) => mkSt [(0, some (.imm (.row 11 (List.map api_Trade.enc x0)))), (1, some (.i x1))] [] 1000) ?_ ?_
   ·clear h
    refine W.block ?_
    refine W.loopF (fun (s_ : Int) => mkSt [(0, some (.imm (.row 11 (List.map api_Trade.enc x0)))), (1, some (.i x1)), (5, some (.i s_))] [] 1000) b59 (Gives.mkR [] (.r rfl rfl (.r rfl rfl (.r rfl rfl .n))) .n rfl rfl rfl) ?_
    rintro v22 s_ hr
    have h : lombardref23_Load.b0 x0 x1 v22 = some s_ := hr
    unfold lombardref23_Load.b0 at h
    refine W.seq ?_
    refine W.seq ?_
    refine W.pk ?_
    refine .m rfl rfl rfl rfl ?_
    refine .m rfl rfl rfl rfl ?_
    refine .v rfl rfl (O.lenR sl35 rfl rfl) ?_
    refine .v rfl rfl (OpL.binI rfl rfl rfl rfl) ?_
    refine .nil ?_
    refine W.cond rfl (fun q61 => ?_) (fun q61 => ?_)
    ·have h := ifT q61 h
     refine W.skip ?_
     refine W.seq ?_
     refine W.block ?_
     refine W.seq ?_
     refine W.seq ?_
     obtain ⟨c62, h⟩ := chk h
     obtain ⟨t63, b64, h⟩ := bnd1 h
     refine W.pk ?_
     refine .m rfl rfl rfl rfl ?_
     refine .m rfl rfl rfl rfl ?_
     refine .v rfl rfl (O.idx sl35 c62 rfl rfl rfl) ?_
     refine .v rfl rfl (O.ldN ty26 rfl rfl rfl) ?_
     refine .call (.i t63) [] 0 (lombardref23_Check.ok b64) rfl rfl rfl ca12 rfl rfl (cC (.agg _ _ _ _ (cC (.imm _) (cC (.imm _) (cC (.imm _) (cC (.imm _) (cC (.imm _) (cC (.imm _) (cC (.imm _) (cC (.imm _) (cC (.imm _) (cC (.imm _) (cC (.imm _) .nil)))))))))))) .nil) rfl rfl rfl rfl rfl ?_
     refine .v rfl rfl (OpL.binI rfl rfl rfl rfl) ?_
     refine .nil ?_
     refine W.cond rfl (fun q65 => ?_) (fun q65 => ?_)
     ·have h := ifT q65 h
      refine W.seq ?_
      obtain ⟨c66, h⟩ := chk h
      obtain ⟨t67, b68, h⟩ := bnd1 h
      refine W.pk ?_
      refine .m rfl rfl rfl rfl ?_
      refine .m rfl rfl rfl rfl ?_
      refine .v rfl rfl (O.idx sl35 c66 rfl rfl rfl) ?_
      refine .v rfl rfl (O.ldN ty26 rfl rfl rfl) ?_
      refine .call (.i t67) [] 0 (lombardref23_Check.ok b68) rfl rfl rfl ca12 rfl rfl (cC (.agg _ _ _ _ (cC (.imm _) (cC (.imm _) (cC (.imm _) (cC (.imm _) (cC (.imm _) (cC (.imm _) (cC (.imm _) (cC (.imm _) (cC (.imm _) (cC (.imm _) (cC (.imm _) .nil)))))))))))) .nil) rfl rfl rfl rfl rfl ?_
      refine .a rfl rfl rfl rfl ?_
      refine .nil ?_
      refine W.ret ?_
      cases h
      refine rdR fun e_ => ?_
      subst e_
      have h := z60
      dsimp only at h
      refine fkR ?_
      cases h
      exact leaves (.inr rfl) rfl (.imm _) (cN (cN .nil)) rfl rfl
     ·have h := ifF q65 h
      refine W.skip ?_
      refine W.seq ?_
      obtain ⟨c69, h⟩ := chk h
      obtain ⟨c70, h⟩ := chk h
      obtain ⟨c71, h⟩ := chk h
      obtain ⟨c72, h⟩ := chk h
      refine W.fork (mkSt [(0, some (.imm (.row 11 (List.map api_Trade.enc x0)))), (1, some (.i x1)), (5, some (.i v22)), (67, some (.b ((((decide (v22 > 0)) && (decide (((nth x0 v22).ID) ≤ ((nth x0 (IntKind.wrap .i64 (v22 - 1))).ID)))) || (decide (((nth x0 v22).ID) > x1))) || (decide (((nth x0 v22).Twin) > x1)))))] [] 1000) ?_ ?_
      ·refine W.cond rfl (fun q77 => ?_) (fun q77 => ?_)
       ·have h := ifT q77 h
        refine W.seq ?_
        refine W.pk ?_
        refine .a rfl rfl rfl rfl ?_
        refine .nil ?_
        refine W.ret ?_
        cases h
        refine rdR fun e_ => ?_
        subst e_
        have h := z60
        dsimp only at h
        refine fkR ?_
        cases h
        exact leaves (.inr rfl) rfl (.imm _) (cN (cN .nil)) rfl rfl
       ·have h := ifF q77 h
        refine W.skip ?_
        refine W.pk ?_
        refine .m rfl rfl rfl rfl ?_
        refine .v rfl rfl (OpL.binI rfl rfl rfl rfl) ?_
        refine .a rfl rfl rfl rfl ?_
        refine .nil ?_
        cases h
        exact rdN (Gives.mkR [] (.r rfl rfl (.r rfl rfl (.r rfl rfl .n))) .n rfl rfl rfl)
      ·clear h
       rcases tf (decide (v22 > 0)) with g73 | g73
       ·rcases tf (decide (((nth x0 v22).ID) ≤ ((nth x0 (IntKind.wrap .i64 (v22 - 1))).ID))) with g74 | g74
        ·refine W.dk (unm 34 [0, 1, 3, 7, 7, 31, 63, 127, 7, 7, 519, 1799, 3847, 7943, 16383, 32767, 65535, 131071, 131071, 524287, 1048575, 2097151, 131071, 8388607, 16777215, 33554431, 67108863, 67108863, 268435455, 536870911, 1073741823, 67108863, 4294967295, 8589934591]) rfl (by kernel_rfl) ?_
         refine .m rfl rfl rfl rfl ?_
         refine .v rfl rfl (OpL.binI rfl rfl rfl rfl) ?_
         refine .m rfl rfl rfl rfl ?_
         refine .m rfl (met rfl rfl rfl g73) rfl rfl ?_
         refine .m rfl (met rfl rfl rfl g73) rfl rfl ?_
         refine .v rfl (met rfl rfl rfl g73) (O.idx sl35 (c69 (by first | (simp only [g73, g74, Bool.true_or, Bool.or_true, Bool.false_or, Bool.or_false, Bool.true_and, Bool.and_true, Bool.false_and, Bool.and_false, Bool.not_true, Bool.not_false, cond_true, cond_false]; done) | (repeat (first | rw [g73] | rw [g74])) <;> simp only [Bool.true_or, Bool.or_true, Bool.false_or, Bool.or_false, Bool.true_and, Bool.and_true, Bool.false_and, Bool.and_false, Bool.not_true, Bool.not_false, cond_true, cond_false])) rfl rfl rfl) ?_
         refine .v rfl (met rfl rfl rfl g73) (O.fld fld26_0 rfl rfl rfl) ?_
         refine .v rfl (met rfl rfl rfl g73) (O.ld (y := .i ((nth x0 v22).ID)) ty3 rfl rfl rfl) ?_
         refine .m rfl (met rfl rfl rfl g73) rfl rfl ?_
         refine .m rfl (met rfl rfl rfl g73) rfl rfl ?_
         refine .v rfl (met rfl rfl rfl g73) (OpL.binI rfl rfl rfl rfl) ?_
         refine .v rfl (met rfl rfl rfl g73) (O.idx sl35 (c70 (by first | (simp only [g73, g74, Bool.true_or, Bool.or_true, Bool.false_or, Bool.or_false, Bool.true_and, Bool.and_true, Bool.false_and, Bool.and_false, Bool.not_true, Bool.not_false, cond_true, cond_false]; done) | (repeat (first | rw [g73] | rw [g74])) <;> simp only [Bool.true_or, Bool.or_true, Bool.false_or, Bool.or_false, Bool.true_and, Bool.and_true, Bool.false_and, Bool.and_false, Bool.not_true, Bool.not_false, cond_true, cond_false])) rfl rfl rfl) ?_
         refine .v rfl (met rfl rfl rfl g73) (O.fld fld26_0 rfl rfl rfl) ?_
         refine .v rfl (met rfl rfl rfl g73) (O.ld (y := .i ((nth x0 (IntKind.wrap .i64 (v22 - 1))).ID)) ty3 rfl rfl rfl) ?_
         refine .v rfl (met rfl rfl rfl g73) (OpL.binI rfl rfl rfl rfl) ?_
         refine .v rfl rfl (O.pickT g73 rfl rfl rfl) ?_
         refine .m rfl rfl rfl rfl ?_
         refine .x rfl (unmet rfl rfl rfl g74) ?_
         refine .x rfl (unmet rfl rfl rfl g74) ?_
         refine .x rfl (unmet rfl rfl rfl g74) ?_
         refine .x rfl (unmet rfl rfl rfl g74) ?_
         refine .x rfl (unmet rfl rfl rfl g74) ?_
         refine .x rfl (unmet rfl rfl rfl g74) ?_
         refine .x rfl (unmet rfl rfl rfl g74) ?_
         refine .v rfl rfl (O.pickT g74 rfl rfl rfl) ?_
         refine .m rfl rfl rfl rfl ?_
         refine .x rfl (unmet rfl rfl rfl rfl) ?_
         refine .x rfl (unmet rfl rfl rfl rfl) ?_
         refine .x rfl (unmet rfl rfl rfl rfl) ?_
         refine .x rfl (unmet rfl rfl rfl rfl) ?_
         refine .x rfl (unmet rfl rfl rfl rfl) ?_
         refine .x rfl (unmet rfl rfl rfl rfl) ?_
         refine .x rfl (unmet rfl rfl rfl rfl) ?_
         refine .v rfl rfl (O.pickT rfl rfl rfl rfl) ?_
         refine .nil ?_
         refine ⟨by kernel_rfl, by kernel_rfl, ?_⟩
         exact toN (Gives.mkR [] (.r rfl rfl (.r rfl rfl (.r rfl rfl (.c rfl (sbb (by first | (simp only [g73, g74, Bool.true_or, Bool.or_true, Bool.false_or, Bool.or_false, Bool.true_and, Bool.and_true, Bool.false_and, Bool.and_false, Bool.not_true, Bool.not_false, cond_true, cond_false]; done) | (repeat (first | rw [g73] | rw [g74])) <;> simp only [Bool.true_or, Bool.or_true, Bool.false_or, Bool.or_false, Bool.true_and, Bool.and_true, Bool.false_and, Bool.and_false, Bool.not_true, Bool.not_false, cond_true, cond_false])) rfl .n)))) .n rfl rfl rfl)
        ·rcases tf (decide (((nth x0 v22).ID) > x1)) with g75 | g75
         ·refine W.dk (unm 34 [0, 1, 3, 7, 7, 31, 63, 127, 7, 7, 519, 1799, 3847, 7943, 16383, 32767, 65535, 131071, 131071, 524287, 1048575, 2097151, 131071, 8388607, 16777215, 33554431, 67108863, 67108863, 268435455, 536870911, 1073741823, 67108863, 4294967295, 8589934591]) rfl (by kernel_rfl) ?_
          refine .m rfl rfl rfl rfl ?_
          refine .v rfl rfl (OpL.binI rfl rfl rfl rfl) ?_
          refine .m rfl rfl rfl rfl ?_
          refine .m rfl (met rfl rfl rfl g73) rfl rfl ?_
          refine .m rfl (met rfl rfl rfl g73) rfl rfl ?_
          refine .v rfl (met rfl rfl rfl g73) (O.idx sl35 (c69 (by first | (simp only [g73, g74, g75, Bool.true_or, Bool.or_true, Bool.false_or, Bool.or_false, Bool.true_and, Bool.and_true, Bool.false_and, Bool.and_false, Bool.not_true, Bool.not_false, cond_true, cond_false]; done) | (repeat (first | rw [g73] | rw [g74] | rw [g75])) <;> simp only [Bool.true_or, Bool.or_true, Bool.false_or, Bool.or_false, Bool.true_and, Bool.and_true, Bool.false_and, Bool.and_false, Bool.not_true, Bool.not_false, cond_true, cond_false])) rfl rfl rfl) ?_
          refine .v rfl (met rfl rfl rfl g73) (O.fld fld26_0 rfl rfl rfl) ?_
          refine .v rfl (met rfl rfl rfl g73) (O.ld (y := .i ((nth x0 v22).ID)) ty3 rfl rfl rfl) ?_
          refine .m rfl (met rfl rfl rfl g73) rfl rfl ?_
          refine .m rfl (met rfl rfl rfl g73) rfl rfl ?_
          refine .v rfl (met rfl rfl rfl g73) (OpL.binI rfl rfl rfl rfl) ?_
          refine .v rfl (met rfl rfl rfl g73) (O.idx sl35 (c70 (by first | (simp only [g73, g74, g75, Bool.true_or, Bool.or_true, Bool.false_or, Bool.or_false, Bool.true_and, Bool.and_true, Bool.false_and, Bool.and_false, Bool.not_true, Bool.not_false, cond_true, cond_false]; done) | (repeat (first | rw [g73] | rw [g74] | rw [g75])) <;> simp only [Bool.true_or, Bool.or_true, Bool.false_or, Bool.or_false, Bool.true_and, Bool.and_true, Bool.false_and, Bool.and_false, Bool.not_true, Bool.not_false, cond_true, cond_false])) rfl rfl rfl) ?_
          refine .v rfl (met rfl rfl rfl g73) (O.fld fld26_0 rfl rfl rfl) ?_
          refine .v rfl (met rfl rfl rfl g73) (O.ld (y := .i ((nth x0 (IntKind.wrap .i64 (v22 - 1))).ID)) ty3 rfl rfl rfl) ?_
          refine .v rfl (met rfl rfl rfl g73) (OpL.binI rfl rfl rfl rfl) ?_
          refine .v rfl rfl (O.pickT g73 rfl rfl rfl) ?_
          refine .m rfl rfl rfl rfl ?_
          refine .m rfl (met rfl rfl rfl g74) rfl rfl ?_
          refine .m rfl (met rfl rfl rfl g74) rfl rfl ?_
          refine .v rfl (met rfl rfl rfl g74) (O.idx sl35 (c71 (by first | (simp only [g73, g74, g75, Bool.true_or, Bool.or_true, Bool.false_or, Bool.or_false, Bool.true_and, Bool.and_true, Bool.false_and, Bool.and_false, Bool.not_true, Bool.not_false, cond_true, cond_false]; done) | (repeat (first | rw [g73] | rw [g74] | rw [g75])) <;> simp only [Bool.true_or, Bool.or_true, Bool.false_or, Bool.or_false, Bool.true_and, Bool.and_true, Bool.false_and, Bool.and_false, Bool.not_true, Bool.not_false, cond_true, cond_false])) rfl rfl rfl) ?_
          refine .v rfl (met rfl rfl rfl g74) (O.fld fld26_0 rfl rfl rfl) ?_
          refine .v rfl (met rfl rfl rfl g74) (O.ld (y := .i ((nth x0 v22).ID)) ty3 rfl rfl rfl) ?_
          refine .m rfl (met rfl rfl rfl g74) rfl rfl ?_
          refine .v rfl (met rfl rfl rfl g74) (OpL.binI rfl rfl rfl rfl) ?_
          refine .v rfl rfl (O.pickF g74 rfl rfl rfl) ?_
          refine .m rfl rfl rfl rfl ?_
          refine .x rfl (unmet rfl rfl rfl g75) ?_
          refine .x rfl (unmet rfl rfl rfl g75) ?_
          refine .x rfl (unmet rfl rfl rfl g75) ?_
          refine .x rfl (unmet rfl rfl rfl g75) ?_
          refine .x rfl (unmet rfl rfl rfl g75) ?_
          refine .x rfl (unmet rfl rfl rfl g75) ?_
          refine .x rfl (unmet rfl rfl rfl g75) ?_
          refine .v rfl rfl (O.pickT g75 rfl rfl rfl) ?_
          refine .nil ?_
          refine ⟨by kernel_rfl, by kernel_rfl, ?_⟩
          exact toN (Gives.mkR [] (.r rfl rfl (.r rfl rfl (.r rfl rfl (.c rfl (sbb (by first | (simp only [g73, g74, g75, Bool.true_or, Bool.or_true, Bool.false_or, Bool.or_false, Bool.true_and, Bool.and_true, Bool.false_and, Bool.and_false, Bool.not_true, Bool.not_false, cond_true, cond_false]; done) | (repeat (first | rw [g73] | rw [g74] | rw [g75])) <;> simp only [Bool.true_or, Bool.or_true, Bool.false_or, Bool.or_false, Bool.true_and, Bool.and_true, Bool.false_and, Bool.and_false, Bool.not_true, Bool.not_false, cond_true, cond_false])) rfl .n)))) .n rfl rfl rfl)
         ·refine W.dk (unm 34 [0, 1, 3, 7, 7, 31, 63, 127, 7, 7, 519, 1799, 3847, 7943, 16383, 32767, 65535, 131071, 131071, 524287, 1048575, 2097151, 131071, 8388607, 16777215, 33554431, 67108863, 67108863, 268435455, 536870911, 1073741823, 67108863, 4294967295, 8589934591]) rfl (by kernel_rfl) ?_
          refine .m rfl rfl rfl rfl ?_
          refine .v rfl rfl (OpL.binI rfl rfl rfl rfl) ?_
          refine .m rfl rfl rfl rfl ?_
          refine .m rfl (met rfl rfl rfl g73) rfl rfl ?_
          refine .m rfl (met rfl rfl rfl g73) rfl rfl ?_
          refine .v rfl (met rfl rfl rfl g73) (O.idx sl35 (c69 (by first | (simp only [g73, g74, g75, Bool.true_or, Bool.or_true, Bool.false_or, Bool.or_false, Bool.true_and, Bool.and_true, Bool.false_and, Bool.and_false, Bool.not_true, Bool.not_false, cond_true, cond_false]; done) | (repeat (first | rw [g73] | rw [g74] | rw [g75])) <;> simp only [Bool.true_or, Bool.or_true, Bool.false_or, Bool.or_false, Bool.true_and, Bool.and_true, Bool.false_and, Bool.and_false, Bool.not_true, Bool.not_false, cond_true, cond_false])) rfl rfl rfl) ?_
          refine .v rfl (met rfl rfl rfl g73) (O.fld fld26_0 rfl rfl rfl) ?_
          refine .v rfl (met rfl rfl rfl g73) (O.ld (y := .i ((nth x0 v22).ID)) ty3 rfl rfl rfl) ?_
          refine .m rfl (met rfl rfl rfl g73) rfl rfl ?_
          refine .m rfl (met rfl rfl rfl g73) rfl rfl ?_
          refine .v rfl (met rfl rfl rfl g73) (OpL.binI rfl rfl rfl rfl) ?_
          refine .v rfl (met rfl rfl rfl g73) (O.idx sl35 (c70 (by first | (simp only [g73, g74, g75, Bool.true_or, Bool.or_true, Bool.false_or, Bool.or_false, Bool.true_and, Bool.and_true, Bool.false_and, Bool.and_false, Bool.not_true, Bool.not_false, cond_true, cond_false]; done) | (repeat (first | rw [g73] | rw [g74] | rw [g75])) <;> simp only [Bool.true_or, Bool.or_true, Bool.false_or, Bool.or_false, Bool.true_and, Bool.and_true, Bool.false_and, Bool.and_false, Bool.not_true, Bool.not_false, cond_true, cond_false])) rfl rfl rfl) ?_
          refine .v rfl (met rfl rfl rfl g73) (O.fld fld26_0 rfl rfl rfl) ?_
          refine .v rfl (met rfl rfl rfl g73) (O.ld (y := .i ((nth x0 (IntKind.wrap .i64 (v22 - 1))).ID)) ty3 rfl rfl rfl) ?_
          refine .v rfl (met rfl rfl rfl g73) (OpL.binI rfl rfl rfl rfl) ?_
          refine .v rfl rfl (O.pickT g73 rfl rfl rfl) ?_
          refine .m rfl rfl rfl rfl ?_
          refine .m rfl (met rfl rfl rfl g74) rfl rfl ?_
          refine .m rfl (met rfl rfl rfl g74) rfl rfl ?_
          refine .v rfl (met rfl rfl rfl g74) (O.idx sl35 (c71 (by first | (simp only [g73, g74, g75, Bool.true_or, Bool.or_true, Bool.false_or, Bool.or_false, Bool.true_and, Bool.and_true, Bool.false_and, Bool.and_false, Bool.not_true, Bool.not_false, cond_true, cond_false]; done) | (repeat (first | rw [g73] | rw [g74] | rw [g75])) <;> simp only [Bool.true_or, Bool.or_true, Bool.false_or, Bool.or_false, Bool.true_and, Bool.and_true, Bool.false_and, Bool.and_false, Bool.not_true, Bool.not_false, cond_true, cond_false])) rfl rfl rfl) ?_
          refine .v rfl (met rfl rfl rfl g74) (O.fld fld26_0 rfl rfl rfl) ?_
          refine .v rfl (met rfl rfl rfl g74) (O.ld (y := .i ((nth x0 v22).ID)) ty3 rfl rfl rfl) ?_
          refine .m rfl (met rfl rfl rfl g74) rfl rfl ?_
          refine .v rfl (met rfl rfl rfl g74) (OpL.binI rfl rfl rfl rfl) ?_
          refine .v rfl rfl (O.pickF g74 rfl rfl rfl) ?_
          refine .m rfl rfl rfl rfl ?_
          refine .m rfl (met rfl rfl rfl g75) rfl rfl ?_
          refine .m rfl (met rfl rfl rfl g75) rfl rfl ?_
          refine .v rfl (met rfl rfl rfl g75) (O.idx sl35 (c72 (by first | (simp only [g73, g74, g75, Bool.true_or, Bool.or_true, Bool.false_or, Bool.or_false, Bool.true_and, Bool.and_true, Bool.false_and, Bool.and_false, Bool.not_true, Bool.not_false, cond_true, cond_false]; done) | (repeat (first | rw [g73] | rw [g74] | rw [g75])) <;> simp only [Bool.true_or, Bool.or_true, Bool.false_or, Bool.or_false, Bool.true_and, Bool.and_true, Bool.false_and, Bool.and_false, Bool.not_true, Bool.not_false, cond_true, cond_false])) rfl rfl rfl) ?_
          refine .v rfl (met rfl rfl rfl g75) (O.fld fld26_1 rfl rfl rfl) ?_
          refine .v rfl (met rfl rfl rfl g75) (O.ld (y := .i ((nth x0 v22).Twin)) ty3 rfl rfl rfl) ?_
          refine .m rfl (met rfl rfl rfl g75) rfl rfl ?_
          refine .v rfl (met rfl rfl rfl g75) (OpL.binI rfl rfl rfl rfl) ?_
          refine .v rfl rfl (O.pickF g75 rfl rfl rfl) ?_
          refine .nil ?_
          refine ⟨by kernel_rfl, by kernel_rfl, ?_⟩
          exact toN (Gives.mkR [] (.r rfl rfl (.r rfl rfl (.r rfl rfl (.c rfl (sbb (by first | (simp only [g73, g74, g75, Bool.true_or, Bool.or_true, Bool.false_or, Bool.or_false, Bool.true_and, Bool.and_true, Bool.false_and, Bool.and_false, Bool.not_true, Bool.not_false, cond_true, cond_false]; done) | (repeat (first | rw [g73] | rw [g74] | rw [g75])) <;> simp only [Bool.true_or, Bool.or_true, Bool.false_or, Bool.or_false, Bool.true_and, Bool.and_true, Bool.false_and, Bool.and_false, Bool.not_true, Bool.not_false, cond_true, cond_false])) rfl .n)))) .n rfl rfl rfl)
       ·rcases tf (decide (((nth x0 v22).ID) > x1)) with g76 | g76
        ·refine W.dk (unm 34 [0, 1, 3, 7, 7, 31, 63, 127, 7, 7, 519, 1799, 3847, 7943, 16383, 32767, 65535, 131071, 131071, 524287, 1048575, 2097151, 131071, 8388607, 16777215, 33554431, 67108863, 67108863, 268435455, 536870911, 1073741823, 67108863, 4294967295, 8589934591]) rfl (by kernel_rfl) ?_
         refine .m rfl rfl rfl rfl ?_
         refine .v rfl rfl (OpL.binI rfl rfl rfl rfl) ?_
         refine .m rfl rfl rfl rfl ?_
         refine .x rfl (unmet rfl rfl rfl g73) ?_
         refine .x rfl (unmet rfl rfl rfl g73) ?_
         refine .x rfl (unmet rfl rfl rfl g73) ?_
         refine .x rfl (unmet rfl rfl rfl g73) ?_
         refine .x rfl (unmet rfl rfl rfl g73) ?_
         refine .x rfl (unmet rfl rfl rfl g73) ?_
         refine .x rfl (unmet rfl rfl rfl g73) ?_
         refine .x rfl (unmet rfl rfl rfl g73) ?_
         refine .x rfl (unmet rfl rfl rfl g73) ?_
         refine .x rfl (unmet rfl rfl rfl g73) ?_
         refine .x rfl (unmet rfl rfl rfl g73) ?_
         refine .x rfl (unmet rfl rfl rfl g73) ?_
         refine .v rfl rfl (O.pickF g73 rfl rfl rfl) ?_
         refine .m rfl rfl rfl rfl ?_
         refine .m rfl (met rfl rfl rfl rfl) rfl rfl ?_
         refine .m rfl (met rfl rfl rfl rfl) rfl rfl ?_
         refine .v rfl (met rfl rfl rfl rfl) (O.idx sl35 (c71 (by first | (simp only [g73, g76, Bool.true_or, Bool.or_true, Bool.false_or, Bool.or_false, Bool.true_and, Bool.and_true, Bool.false_and, Bool.and_false, Bool.not_true, Bool.not_false, cond_true, cond_false]; done) | (repeat (first | rw [g73] | rw [g76])) <;> simp only [Bool.true_or, Bool.or_true, Bool.false_or, Bool.or_false, Bool.true_and, Bool.and_true, Bool.false_and, Bool.and_false, Bool.not_true, Bool.not_false, cond_true, cond_false])) rfl rfl rfl) ?_
         refine .v rfl (met rfl rfl rfl rfl) (O.fld fld26_0 rfl rfl rfl) ?_
         refine .v rfl (met rfl rfl rfl rfl) (O.ld (y := .i ((nth x0 v22).ID)) ty3 rfl rfl rfl) ?_
         refine .m rfl (met rfl rfl rfl rfl) rfl rfl ?_
         refine .v rfl (met rfl rfl rfl rfl) (OpL.binI rfl rfl rfl rfl) ?_
         refine .v rfl rfl (O.pickF rfl rfl rfl rfl) ?_
         refine .m rfl rfl rfl rfl ?_
         refine .x rfl (unmet rfl rfl rfl g76) ?_
         refine .x rfl (unmet rfl rfl rfl g76) ?_
         refine .x rfl (unmet rfl rfl rfl g76) ?_
         refine .x rfl (unmet rfl rfl rfl g76) ?_
         refine .x rfl (unmet rfl rfl rfl g76) ?_
         refine .x rfl (unmet rfl rfl rfl g76) ?_
         refine .x rfl (unmet rfl rfl rfl g76) ?_
         refine .v rfl rfl (O.pickT g76 rfl rfl rfl) ?_
         refine .nil ?_
         refine ⟨by kernel_rfl, by kernel_rfl, ?_⟩
         exact toN (Gives.mkR [] (.r rfl rfl (.r rfl rfl (.r rfl rfl (.c rfl (sbb (by first | (simp only [g73, g76, Bool.true_or, Bool.or_true, Bool.false_or, Bool.or_false, Bool.true_and, Bool.and_true, Bool.false_and, Bool.and_false, Bool.not_true, Bool.not_false, cond_true, cond_false]; done) | (repeat (first | rw [g73] | rw [g76])) <;> simp only [Bool.true_or, Bool.or_true, Bool.false_or, Bool.or_false, Bool.true_and, Bool.and_true, Bool.false_and, Bool.and_false, Bool.not_true, Bool.not_false, cond_true, cond_false])) rfl .n)))) .n rfl rfl rfl)
        ·refine W.dk (unm 34 [0, 1, 3, 7, 7, 31, 63, 127, 7, 7, 519, 1799, 3847, 7943, 16383, 32767, 65535, 131071, 131071, 524287, 1048575, 2097151, 131071, 8388607, 16777215, 33554431, 67108863, 67108863, 268435455, 536870911, 1073741823, 67108863, 4294967295, 8589934591]) rfl (by kernel_rfl) ?_
         refine .m rfl rfl rfl rfl ?_
         refine .v rfl rfl (OpL.binI rfl rfl rfl rfl) ?_
         refine .m rfl rfl rfl rfl ?_
         refine .x rfl (unmet rfl rfl rfl g73) ?_
         refine .x rfl (unmet rfl rfl rfl g73) ?_
         refine .x rfl (unmet rfl rfl rfl g73) ?_
         refine .x rfl (unmet rfl rfl rfl g73) ?_
         refine .x rfl (unmet rfl rfl rfl g73) ?_
         refine .x rfl (unmet rfl rfl rfl g73) ?_
         refine .x rfl (unmet rfl rfl rfl g73) ?_
         refine .x rfl (unmet rfl rfl rfl g73) ?_
         refine .x rfl (unmet rfl rfl rfl g73) ?_
         refine .x rfl (unmet rfl rfl rfl g73) ?_
         refine .x rfl (unmet rfl rfl rfl g73) ?_
         refine .x rfl (unmet rfl rfl rfl g73) ?_
         refine .v rfl rfl (O.pickF g73 rfl rfl rfl) ?_
         refine .m rfl rfl rfl rfl ?_
         refine .m rfl (met rfl rfl rfl rfl) rfl rfl ?_
         refine .m rfl (met rfl rfl rfl rfl) rfl rfl ?_
         refine .v rfl (met rfl rfl rfl rfl) (O.idx sl35 (c71 (by first | (simp only [g73, g76, Bool.true_or, Bool.or_true, Bool.false_or, Bool.or_false, Bool.true_and, Bool.and_true, Bool.false_and, Bool.and_false, Bool.not_true, Bool.not_false, cond_true, cond_false]; done) | (repeat (first | rw [g73] | rw [g76])) <;> simp only [Bool.true_or, Bool.or_true, Bool.false_or, Bool.or_false, Bool.true_and, Bool.and_true, Bool.false_and, Bool.and_false, Bool.not_true, Bool.not_false, cond_true, cond_false])) rfl rfl rfl) ?_
         refine .v rfl (met rfl rfl rfl rfl) (O.fld fld26_0 rfl rfl rfl) ?_
         refine .v rfl (met rfl rfl rfl rfl) (O.ld (y := .i ((nth x0 v22).ID)) ty3 rfl rfl rfl) ?_
         refine .m rfl (met rfl rfl rfl rfl) rfl rfl ?_
         refine .v rfl (met rfl rfl rfl rfl) (OpL.binI rfl rfl rfl rfl) ?_
         refine .v rfl rfl (O.pickF rfl rfl rfl rfl) ?_
         refine .m rfl rfl rfl rfl ?_
         refine .m rfl (met rfl rfl rfl g76) rfl rfl ?_
         refine .m rfl (met rfl rfl rfl g76) rfl rfl ?_
         refine .v rfl (met rfl rfl rfl g76) (O.idx sl35 (c72 (by first | (simp only [g73, g76, Bool.true_or, Bool.or_true, Bool.false_or, Bool.or_false, Bool.true_and, Bool.and_true, Bool.false_and, Bool.and_false, Bool.not_true, Bool.not_false, cond_true, cond_false]; done) | (repeat (first | rw [g73] | rw [g76])) <;> simp only [Bool.true_or, Bool.or_true, Bool.false_or, Bool.or_false, Bool.true_and, Bool.and_true, Bool.false_and, Bool.and_false, Bool.not_true, Bool.not_false, cond_true, cond_false])) rfl rfl rfl) ?_
         refine .v rfl (met rfl rfl rfl g76) (O.fld fld26_1 rfl rfl rfl) ?_
         refine .v rfl (met rfl rfl rfl g76) (O.ld (y := .i ((nth x0 v22).Twin)) ty3 rfl rfl rfl) ?_
         refine .m rfl (met rfl rfl rfl g76) rfl rfl ?_
         refine .v rfl (met rfl rfl rfl g76) (OpL.binI rfl rfl rfl rfl) ?_
         refine .v rfl rfl (O.pickF g76 rfl rfl rfl) ?_
         refine .nil ?_
         refine ⟨by kernel_rfl, by kernel_rfl, ?_⟩
         exact toN (Gives.mkR [] (.r rfl rfl (.r rfl rfl (.r rfl rfl (.c rfl (sbb (by first | (simp only [g73, g76, Bool.true_or, Bool.or_true, Bool.false_or, Bool.or_false, Bool.true_and, Bool.and_true, Bool.false_and, Bool.and_false, Bool.not_true, Bool.not_false, cond_true, cond_false]; done) | (repeat (first | rw [g73] | rw [g76])) <;> simp only [Bool.true_or, Bool.or_true, Bool.false_or, Bool.or_false, Bool.true_and, Bool.and_true, Bool.false_and, Bool.and_false, Bool.not_true, Bool.not_false, cond_true, cond_false])) rfl .n)))) .n rfl rfl rfl)
    ·have h := ifF q61 h
     refine W.exit ?_
     cases h
     refine rdX fun e_ => ?_
     subst e_
     repeat with_reducible refine thru ?_
     refine hit ?_
     exact fkN (Gives.mkR [] (.r rfl rfl (.r rfl rfl .n)) .n rfl rfl rfl)
   ·intro w57 e_
    subst e_
    clear h
    have h := z60
    dsimp only at h
    refine W.seq ?_
    refine W.pk ?_
    refine .m rfl rfl rfl rfl ?_
    refine .m rfl rfl rfl rfl ?_
    refine .v rfl rfl (O.build (out := [.imm (.row 11 (List.map api_Trade.enc x0)), .i x1]) bl47 rfl rfl rfl rfl (by kernel_rfl)) ?_
    refine .t rfl rfl (O.alloc z47 rfl) ?_
    refine .s rfl rfl (O.st ty47 rfl rfl rfl rfl rfl rfl rfl rfl rfl rfl (all' := [.imm (.row 11 (List.map api_Trade.enc x0)), .i x1]) rfl) ?_
    refine .nil ?_
    refine W.seq ?_
    refine W.seq ?_
    refine W.pk ?_
    refine .a rfl rfl rfl rfl ?_
    refine .nil ?_
    obtain ⟨o111, b112, z113⟩ := bnd1 h
    refine W.fork2 (out := o111) (fun (w110 : Unit) => mkSt [] [] 1001) ?_ ?_
    ·clear h
     refine W.block ?_
     refine W.loopF (fun (s_ : Int) => mkSt [(0, some (.imm (.row 11 (List.map api_Trade.enc x0)))), (6, some (.ptr 1000 0)), (7, some (.i s_))] [(1000, some (.box [.imm (.row 11 (List.map api_Trade.enc x0)), .i x1]))] 1001) b112 (Gives.mkR [] (.r rfl rfl (.r rfl rfl (.r rfl rfl .n))) (.r rfl rfl rfl .n) rfl rfl rfl) ?_
     rintro v89 s_ hr
     have h : lombardref23_Load.b1 x0 x1 v89 = some s_ := hr
     unfold lombardref23_Load.b1 at h
     refine W.seq ?_
     refine W.seq ?_
     refine W.pk ?_
     refine .m rfl rfl rfl rfl ?_
     refine .m rfl rfl rfl rfl ?_
     refine .v rfl rfl (O.lenR sl35 rfl rfl) ?_
     refine .v rfl rfl (OpL.binI rfl rfl rfl rfl) ?_
     refine .nil ?_
     refine W.cond rfl (fun q114 => ?_) (fun q114 => ?_)
     ·have h := ifT q114 h
      refine W.skip ?_
      refine W.seq ?_
      refine W.block ?_
      refine W.seq ?_
      obtain ⟨c115, h⟩ := chk h
      obtain ⟨t116, b117, h⟩ := bnd1 h
      refine W.dk (unm 8 [0, 0, 0, 6, 14, 30, 63, 127]) rfl (by kernel_rfl) ?_
      refine .v rfl rfl (O.ldN ty47 rfl rfl rfl) ?_
      refine .m rfl rfl rfl rfl ?_
      refine .m rfl rfl rfl rfl ?_
      refine .v rfl rfl (O.idx sl35 c115 rfl rfl rfl) ?_
      refine .v rfl rfl (O.fld fld26_1 rfl rfl rfl) ?_
      refine .v rfl rfl (O.ld (y := .i ((nth x0 v89).Twin)) ty3 rfl rfl rfl) ?_
      refine .call (.i t116) [] 0 (lombardref23_Book_Find.ok b117) rfl rfl rfl ca24 rfl rfl (cC (.agg _ _ _ _ (cC (.imm _) (cC (.imm _) .nil))) (cC (.imm _) .nil)) rfl rfl rfl rfl rfl ?_
      refine .a rfl rfl rfl rfl ?_
      refine .nil ?_
      refine ⟨by kernel_rfl, by kernel_rfl, ?_⟩
      refine W.seq ?_
      obtain ⟨c118, h⟩ := chk h
      obtain ⟨c119, h⟩ := chk h
      obtain ⟨t120, b121, h⟩ := bnd1 h
      refine W.fork (mkSt [(0, some (.imm (.row 11 (List.map api_Trade.enc x0)))), (6, some (.ptr 1000 0)), (7, some (.i v89)), (97, some (.b ((decide (t116 < 0)) || (!t120))))] [(1000, some (.box [.imm (.row 11 (List.map api_Trade.enc x0)), .i x1]))] 1001) ?_ ?_
      ·refine W.cond rfl (fun q123 => ?_) (fun q123 => ?_)
       ·have h := ifT q123 h
        refine W.seq ?_
        refine W.pk ?_
        refine .a rfl rfl rfl rfl ?_
        refine .nil ?_
        refine W.ret ?_
        cases h
        refine rdR fun e_ => ?_
        subst e_
        have h := z113
        dsimp only at h
        refine fkR ?_
        cases h
        exact leaves (.inr rfl) rfl (.imm _) (cN (cN .nil)) rfl rfl
       ·have h := ifF q123 h
        refine W.skip ?_
        refine W.pk ?_
        refine .m rfl rfl rfl rfl ?_
        refine .v rfl rfl (OpL.binI rfl rfl rfl rfl) ?_
        refine .a rfl rfl rfl rfl ?_
        refine .nil ?_
        cases h
        exact rdN (Gives.mkR [] (.r rfl rfl (.r rfl rfl (.r rfl rfl .n))) (.r rfl rfl rfl .n) rfl rfl rfl)
      ·clear h
       rcases tf (decide (t116 < 0)) with g122 | g122
       ·refine W.dk (unm 14 [0, 1, 3, 7, 7, 31, 63, 7, 7, 391, 903, 2047, 4095, 8191]) rfl (by kernel_rfl) ?_
        refine .m rfl rfl rfl rfl ?_
        refine .v rfl rfl (OpL.binI rfl rfl rfl rfl) ?_
        refine .m rfl rfl rfl rfl ?_
        refine .x rfl (unmet rfl rfl rfl g122) ?_
        refine .x rfl (unmet rfl rfl rfl g122) ?_
        refine .x rfl (unmet rfl rfl rfl g122) ?_
        refine .x rfl (unmet rfl rfl rfl g122) ?_
        refine .x rfl (unmet rfl rfl rfl g122) ?_
        refine .x rfl (unmet rfl rfl rfl g122) ?_
        refine .x rfl (unmet rfl rfl rfl g122) ?_
        refine .x rfl (unmet rfl rfl rfl g122) ?_
        refine .x rfl (unmet rfl rfl rfl g122) ?_
        refine .x rfl (unmet rfl rfl rfl g122) ?_
        refine .v rfl rfl (O.pickT g122 rfl rfl rfl) ?_
        refine .nil ?_
        refine ⟨by kernel_rfl, by kernel_rfl, ?_⟩
        exact toN (Gives.mkR [] (.r rfl rfl (.r rfl rfl (.r rfl rfl (.c rfl (sbb (by simp only [g122, Bool.true_or, Bool.or_true, Bool.false_or, Bool.or_false, Bool.true_and, Bool.and_true, Bool.false_and, Bool.and_false, Bool.not_true, Bool.not_false, cond_true, cond_false])) rfl .n)))) (.r rfl rfl rfl .n) rfl rfl rfl)
       ·refine W.dk (unm 14 [0, 1, 3, 7, 7, 31, 63, 7, 7, 391, 903, 2047, 4095, 8191]) rfl (by kernel_rfl) ?_
        refine .m rfl rfl rfl rfl ?_
        refine .v rfl rfl (OpL.binI rfl rfl rfl rfl) ?_
        refine .m rfl rfl rfl rfl ?_
        refine .m rfl (met rfl rfl rfl g122) rfl rfl ?_
        refine .m rfl (met rfl rfl rfl g122) rfl rfl ?_
        refine .v rfl (met rfl rfl rfl g122) (O.idx sl35 (c118 (by simp only [g122, Bool.true_or, Bool.or_true, Bool.false_or, Bool.or_false, Bool.true_and, Bool.and_true, Bool.false_and, Bool.and_false, Bool.not_true, Bool.not_false, cond_true, cond_false])) rfl rfl rfl) ?_
        refine .v rfl (met rfl rfl rfl g122) (O.ldN ty26 rfl rfl rfl) ?_
        refine .m rfl (met rfl rfl rfl g122) rfl rfl ?_
        refine .m rfl (met rfl rfl rfl g122) rfl rfl ?_
        refine .v rfl (met rfl rfl rfl g122) (O.idx sl35 (c119 (by simp only [g122, Bool.true_or, Bool.or_true, Bool.false_or, Bool.or_false, Bool.true_and, Bool.and_true, Bool.false_and, Bool.and_false, Bool.not_true, Bool.not_false, cond_true, cond_false])) rfl rfl rfl) ?_
        refine .v rfl (met rfl rfl rfl g122) (O.ldN ty26 rfl rfl rfl) ?_
        refine .call (.b t120) [] 0 (lombardref23_Twins.ok ((if_pos (by simp only [g122, Bool.true_or, Bool.or_true, Bool.false_or, Bool.or_false, Bool.true_and, Bool.and_true, Bool.false_and, Bool.and_false, Bool.not_true, Bool.not_false, cond_true, cond_false])).symm.trans b121)) rfl (met rfl rfl rfl g122) rfl ca14 rfl rfl (cC (.agg _ _ _ _ (cC (.imm _) (cC (.imm _) (cC (.imm _) (cC (.imm _) (cC (.imm _) (cC (.imm _) (cC (.imm _) (cC (.imm _) (cC (.imm _) (cC (.imm _) (cC (.imm _) .nil)))))))))))) (cC (.agg _ _ _ _ (cC (.imm _) (cC (.imm _) (cC (.imm _) (cC (.imm _) (cC (.imm _) (cC (.imm _) (cC (.imm _) (cC (.imm _) (cC (.imm _) (cC (.imm _) (cC (.imm _) .nil)))))))))))) .nil)) rfl rfl rfl rfl rfl ?_
        refine .v rfl (met rfl rfl rfl g122) (OpL.unV rfl rfl rfl) ?_
        refine .v rfl rfl (O.pickF g122 rfl rfl rfl) ?_
        refine .nil ?_
        refine ⟨by kernel_rfl, by kernel_rfl, ?_⟩
        exact toN (Gives.mkR [] (.r rfl rfl (.r rfl rfl (.r rfl rfl (.c rfl (sbb (by simp only [g122, Bool.true_or, Bool.or_true, Bool.false_or, Bool.or_false, Bool.true_and, Bool.and_true, Bool.false_and, Bool.and_false, Bool.not_true, Bool.not_false, cond_true, cond_false])) rfl .n)))) (.r rfl rfl rfl .n) rfl rfl rfl)
     ·have h := ifF q114 h
      refine W.exit ?_
      cases h
      refine rdX fun e_ => ?_
      subst e_
      repeat with_reducible refine thru ?_
      refine hit ?_
      exact fkN (Gives.mkR [] .n .n rfl rfl rfl)
    ·intro w110 e_
     subst e_
     clear h
     have h := z113
     dsimp only at h
     refine W.seq ?_
     refine W.pk ?_
     refine .a rfl rfl rfl rfl ?_
     refine .nil ?_
     refine W.ret ?_
     cases h
     exact leaves (.inr rfl) rfl (.imm _) (cN (cN .nil)) rfl rfl
 ·clear h
  rcases tf (decide ((List.length x0 : Int) > 64)) with g3 | g3
  ·refine W.pk ?_
   refine .m rfl rfl rfl rfl ?_
   refine .v rfl rfl (O.lenR sl35 rfl rfl) ?_
   refine .v rfl rfl (OpL.binI rfl rfl rfl rfl) ?_
   refine .m rfl rfl rfl rfl ?_
   refine .x rfl (unmet rfl rfl rfl g3) ?_
   refine .x rfl (unmet rfl rfl rfl g3) ?_
   refine .x rfl (unmet rfl rfl rfl g3) ?_
   refine .v rfl rfl (O.pickT g3 rfl rfl rfl) ?_
   refine .nil ?_
   exact toN (Gives.mkR [] (.r rfl rfl (.r rfl rfl (.c rfl (sbb (by simp only [g3, Bool.true_or, Bool.or_true, Bool.false_or, Bool.or_false, Bool.true_and, Bool.and_true, Bool.false_and, Bool.and_false, Bool.not_true, Bool.not_false, cond_true, cond_false])) rfl .n))) .n rfl rfl rfl)
  ·refine W.pk ?_
   refine .m rfl rfl rfl rfl ?_
   refine .v rfl rfl (O.lenR sl35 rfl rfl) ?_
   refine .v rfl rfl (OpL.binI rfl rfl rfl rfl) ?_
   refine .m rfl rfl rfl rfl ?_
   refine .m rfl (met rfl rfl rfl g3) rfl rfl ?_
   refine .call (.b t1) [] 0 (lombardref23_in.ok ((if_pos (by simp only [g3, Bool.true_or, Bool.or_true, Bool.false_or, Bool.or_false, Bool.true_and, Bool.and_true, Bool.false_and, Bool.and_false, Bool.not_true, Bool.not_false, cond_true, cond_false])).symm.trans b2)) rfl (met rfl rfl rfl g3) rfl ca36 rfl rfl (cC (.imm _) (cC (.imm _) (cC (.imm _) .nil))) rfl rfl rfl rfl rfl ?_
   refine .v rfl (met rfl rfl rfl g3) (OpL.unV rfl rfl rfl) ?_
   refine .v rfl rfl (O.pickF g3 rfl rfl rfl) ?_
   refine .nil ?_
   exact toN (Gives.mkR [] (.r rfl rfl (.r rfl rfl (.c rfl (sbb (by simp only [g3, Bool.true_or, Bool.or_true, Bool.false_or, Bool.or_false, Bool.true_and, Bool.and_true, Bool.false_and, Bool.and_false, Bool.not_true, Bool.not_false, cond_true, cond_false])) rfl .n))) .n rfl rfl rfl)

noncomputable def trade_Book_All_v2.f  : Option (List api_Trade) :=
  some []
set_option maxRecDepth 100000 in
set_option maxHeartbeats 4000000 in
theorem trade_Book_All_v2.ok  {r : List api_Trade} (h : trade_Book_All_v2.f  = some r) : Pm.Spec prog 18 [.imm (.val (.pointer none))] (.imm (.row 11 (List.map api_Trade.enc r))) [none] := by
 unfold trade_Book_All_v2.f at h
 refine Pm.Spec.of_body Try.func18 rfl (by kernel_rfl) (Nat.le_of_ble_eq_true rfl) (Nat.le_of_ble_eq_true rfl) ?_
 refine W.ghost (σ' := (mkSt [(0, some (.imm (.val (.pointer none))))] [] 1000)) (Gives.entry (.c rfl .n) .n) ?_
 refine W.seq ?_
 refine W.pk ?_
 refine .a rfl rfl rfl rfl ?_
 refine .nil ?_
 refine W.seq ?_
 refine W.seq ?_
 refine W.pk ?_
 refine .m rfl rfl rfl rfl ?_
 refine .v rfl rfl (O.eqPnn rfl u36 rfl rfl) ?_
 refine .nil ?_
 refine W.cond rfl (fun _ => ?_) (fun q => by cases q)
 refine W.seq ?_
 refine W.pk ?_
 refine .a rfl rfl rfl rfl ?_
 refine .nil ?_
 refine W.ret ?_
 cases h
 exact leaves (.inr rfl) rfl (.nilrow _) (cN .nil) rfl rfl
end Go.Proofs.Ytidinbjehfodoaa
