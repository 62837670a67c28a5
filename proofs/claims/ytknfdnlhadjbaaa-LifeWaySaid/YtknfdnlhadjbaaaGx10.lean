/- Shows what functions of the program come to, each as a plain function: written by a program of the author's for this claim. -/
import Derived.Test.YtknfdnlhadjbaaaGx9
namespace Go.Proofs.Ytknfdnlhadjbaaa
open Go Go.Pm
set_option linter.unusedVariables false
set_option linter.unusedSimpArgs false
noncomputable def lombardref03_Between.b0 (x1 : List api_Reset) (x2 : Int) (x3 : Int) (v37 : Int) (v38 : Int) : Option ((Int × Int) ⊕ Int) :=
  if (decide (v38 < (List.length x1 : Int))) = true then
    if (0 : Int) ≤ v38 ∧ v38 < (List.length x1 : Int) then
    if ((decide ((IntKind.wrap .i64 (v38 + 1)) < (List.length x1 : Int))) = true → (0 : Int) ≤ (IntKind.wrap .i64 (v38 + 1)) ∧ (IntKind.wrap .i64 (v38 + 1)) < (List.length x1 : Int)) then
    ((
      if ((decide ((IntKind.wrap .i64 (v38 + 1)) < (List.length x1 : Int))) && (decide (((nth x1 (IntKind.wrap .i64 (v38 + 1))).Day) < x3))) = true then
        if (0 : Int) ≤ (IntKind.wrap .i64 (v38 + 1)) ∧ (IntKind.wrap .i64 (v38 + 1)) < (List.length x1 : Int) then
        some ((nth x1 (IntKind.wrap .i64 (v38 + 1))).Day)
        else none
      else
        some x3 : Option (Int))).bind fun o86 =>
    ((
      if (decide (((nth x1 v38).Day) < x2)) = true then
        some x2
      else
        some ((nth x1 v38).Day) : Option (Int))).bind fun o92 =>
    if (decide (o86 > o92)) = true then
      if (0 : Int) ≤ v38 ∧ v38 < (List.length x1 : Int) then
      some (.inl ((IntKind.wrap .i64 (v37 + (IntKind.wrap .i64 (((nth x1 v38).Rate) * (IntKind.wrap .i64 (o86 - o92)))))), (IntKind.wrap .i64 (v38 + 1))))
      else none
    else
      some (.inl (v37, (IntKind.wrap .i64 (v38 + 1))))
    else none
    else none
  else
    some (.inr v37)
noncomputable def lombardref03_Between.r0 (x1 : List api_Reset) (x2 : Int) (x3 : Int) (s : Int × Int) : Option ((Int × Int) ⊕ Int) := lombardref03_Between.b0 x1 x2 x3 s.1 s.2
noncomputable def lombardref03_Between.f (x0 : Int) (x1 : List api_Reset) (x2 : Int) (x3 : Int) : Option (Int × Int) :=
  (lombardref03_Check.f x1).bind fun t1 =>
  if (t1 != 0) = true then
    (lombardref03_Check.f x1).bind fun t4 =>
    some (0, t4)
  else
    (lombardref02_Good.f x2).bind fun t6 =>
    (if (!t6) = false then lombardref02_Good.f x3 else some default).bind fun t8 =>
    if (((((!t6) || (!t8)) || (decide (x2 > x3))) || (decide ((IntKind.wrap .i64 (x3 - x2)) > 3660))) = false → (0 : Int) ≤ 0 ∧ 0 < (List.length x1 : Int)) then
    if (((((!t6) || (!t8)) || (decide (x2 > x3))) || (decide ((IntKind.wrap .i64 (x3 - x2)) > 3660))) || (decide (x2 < ((nth x1 0).Day)))) = true then
      some (0, 10)
    else
      (lombardref03_Amount.f x0).bind fun t16 =>
      if (!t16) = true then
        some (0, 1)
      else
        (loop (lombardref03_Between.r0 x1 x2 x3) (0, 0)).bind fun o76 =>
        (lombardref01_MulDiv.f x0 o76 360000000 1).bind fun t97 =>
        some (t97.1, t97.2)
    else none
set_option maxRecDepth 100000 in
set_option maxHeartbeats 4000000 in
theorem lombardref03_Between.ok {x0 : Int} {x1 : List api_Reset} {x2 : Int} {x3 : Int} {r : Int × Int} (h : lombardref03_Between.f x0 x1 x2 x3 = some r) : Pm.Spec prog 45 [.imm (.val (.int .i64 x0)), .imm (.row 2 (List.map api_Reset.enc x1)), .imm (.val (.int .i64 x2)), .imm (.val (.int .i64 x3))] (.tup [.imm (.val (.int .i64 r.1)), .imm (.val (.int .i64 r.2))]) [none, none, none, none] := by
 unfold lombardref03_Between.f at h
 refine Pm.Spec.of_body Try.func45 rfl (by kernel_rfl) (Nat.le_of_ble_eq_true rfl) (Nat.le_of_ble_eq_true rfl) ?_
 refine W.ghost (σ' := (mkSt [(0, some (.i x0)), (1, some (.imm (.row 2 (List.map api_Reset.enc x1)))), (2, some (.i x2)), (3, some (.i x3))] [] 1000)) (Gives.entry (.c rfl (.c rfl (.c rfl (.c rfl .n)))) .n) ?_
 refine W.seq ?_
 refine W.pk ?_
 refine .a rfl rfl rfl rfl ?_
 refine .a rfl rfl rfl rfl ?_
 refine .nil ?_
 refine W.seq ?_
 refine W.seq ?_
 obtain ⟨t1, b2, h⟩ := bnd1 h
 refine W.pk ?_
 refine .m rfl rfl rfl rfl ?_
 refine .call (.i t1) [] 0 (lombardref03_Check.ok b2) rfl rfl rfl ca51 rfl rfl (cC (.imm _) .nil) rfl rfl rfl rfl rfl ?_
 refine .v rfl rfl (OpL.binI rfl rfl rfl rfl) ?_
 refine .nil ?_
 refine W.cond rfl (fun q3 => ?_) (fun q3 => ?_)
 ·have h := ifT q3 h
  refine W.seq ?_
  obtain ⟨t4, b5, h⟩ := bnd1 h
  refine W.pk ?_
  refine .m rfl rfl rfl rfl ?_
  refine .call (.i t4) [] 0 (lombardref03_Check.ok b5) rfl rfl rfl ca51 rfl rfl (cC (.imm _) .nil) rfl rfl rfl rfl rfl ?_
  refine .a rfl rfl rfl rfl ?_
  refine .a rfl rfl rfl rfl ?_
  refine .nil ?_
  refine W.ret ?_
  cases h
  exact leaves (.inr rfl) rfl (.tup _ _ _ _ (cC (.imm _) (cC (.imm _) .nil))) (cN (cN (cN (cN .nil)))) rfl rfl
 ·have h := ifF q3 h
  refine W.skip ?_
  refine W.seq ?_
  refine W.seq ?_
  obtain ⟨t6, b7, h⟩ := bnd1 h
  obtain ⟨t8, b9, h⟩ := bnd1 h
  obtain ⟨c10, h⟩ := chk h
  refine W.fork (mkSt [(0, some (.i x0)), (1, some (.imm (.row 2 (List.map api_Reset.enc x1)))), (2, some (.i x2)), (3, some (.i x3)), (45, some (.b (((((!t6) || (!t8)) || (decide (x2 > x3))) || (decide ((IntKind.wrap .i64 (x3 - x2)) > 3660))) || (decide (x2 < ((nth x1 0).Day))))))] [] 1000) ?_ ?_
  ·refine W.cond rfl (fun q15 => ?_) (fun q15 => ?_)
   ·have h := ifT q15 h
    refine W.seq ?_
    refine W.pk ?_
    refine .a rfl rfl rfl rfl ?_
    refine .a rfl rfl rfl rfl ?_
    refine .nil ?_
    refine W.ret ?_
    cases h
    exact leaves (.inr rfl) rfl (.tup _ _ _ _ (cC (.imm _) (cC (.imm _) .nil))) (cN (cN (cN (cN .nil)))) rfl rfl
   ·have h := ifF q15 h
    refine W.skip ?_
    refine W.seq ?_
    refine W.seq ?_
    obtain ⟨t16, b17, h⟩ := bnd1 h
    refine W.pk ?_
    refine .m rfl rfl rfl rfl ?_
    refine .call (.b t16) [] 0 (lombardref03_Amount.ok b17) rfl rfl rfl ca54 rfl rfl (cC (.imm _) .nil) rfl rfl rfl rfl rfl ?_
    refine .v rfl rfl (OpL.unV rfl rfl rfl) ?_
    refine .nil ?_
    refine W.cond rfl (fun q18 => ?_) (fun q18 => ?_)
    ·have h := ifT q18 h
     refine W.seq ?_
     refine W.pk ?_
     refine .a rfl rfl rfl rfl ?_
     refine .a rfl rfl rfl rfl ?_
     refine .nil ?_
     refine W.ret ?_
     cases h
     exact leaves (.inr rfl) rfl (.tup _ _ _ _ (cC (.imm _) (cC (.imm _) .nil))) (cN (cN (cN (cN .nil)))) rfl rfl
    ·have h := ifF q18 h
     refine W.skip ?_
     refine W.seq ?_
     refine W.pk ?_
     refine .a rfl rfl rfl rfl ?_
     refine .nil ?_
     refine W.seq ?_
     refine W.seq ?_
     refine W.pk ?_
     refine .a rfl rfl rfl rfl ?_
     refine .nil ?_
     obtain ⟨o76, b77, h⟩ := bnd1 h
     refine W.fork (mkSt [(0, some (.i x0)), (10, some (.i o76))] [] 1000) ?_ ?_
     ·refine W.seq ?_
      obtain ⟨t97, b98, h⟩ := bnd1 h
      refine W.pk ?_
      refine .m rfl rfl rfl rfl ?_
      refine .m rfl rfl rfl rfl ?_
      refine .call (.tup [.i t97.1, .i t97.2]) [] 0 (lombardref01_MulDiv.ok b98) rfl rfl rfl ca55 rfl rfl (cC (.imm _) (cC (.imm _) (cC (.imm _) (cC (.imm _) .nil)))) rfl rfl rfl rfl rfl ?_
      refine .v rfl rfl (OpL.extract rfl rfl rfl) ?_
      refine .v rfl rfl (OpL.extract rfl rfl rfl) ?_
      refine .a rfl rfl rfl rfl ?_
      refine .a rfl rfl rfl rfl ?_
      refine .nil ?_
      refine W.ret ?_
      cases h
      exact leaves (.inr rfl) rfl (.tup _ _ _ _ (cC (.imm _) (cC (.imm _) .nil))) (cN (cN (cN (cN .nil)))) rfl rfl
     ·clear h
      refine W.block ?_
      refine W.loopF (fun (s_ : Int × Int) => mkSt [(0, some (.i x0)), (1, some (.imm (.row 2 (List.map api_Reset.enc x1)))), (2, some (.i x2)), (3, some (.i x3)), (10, some (.i s_.1)), (11, some (.i s_.2))] [] 1000) b77 (Gives.mkR [] (.r rfl rfl (.r rfl rfl (.r rfl rfl (.r rfl rfl (.r rfl rfl (.r rfl rfl .n)))))) .n rfl rfl rfl) ?_
      rintro ⟨v37, v38⟩ s_ hr
      have h : lombardref03_Between.b0 x1 x2 x3 v37 v38 = some s_ := hr
      unfold lombardref03_Between.b0 at h
      refine W.seq ?_
      refine W.seq ?_
      refine W.pk ?_
      refine .m rfl rfl rfl rfl ?_
      refine .m rfl rfl rfl rfl ?_
      refine .v rfl rfl (O.lenR sl22 rfl rfl) ?_
      refine .v rfl rfl (OpL.binI rfl rfl rfl rfl) ?_
      refine .nil ?_
      refine W.cond rfl (fun q79 => ?_) (fun q79 => ?_)
      ·have h := ifT q79 h
       refine W.skip ?_
       refine W.seq ?_
       refine W.block ?_
       refine W.seq ?_
       obtain ⟨c80, h⟩ := chk h
       refine W.pk ?_
       refine .m rfl rfl rfl rfl ?_
       refine .m rfl rfl rfl rfl ?_
       refine .v rfl rfl (O.idx sl22 c80 rfl rfl rfl) ?_
       refine .v rfl rfl (O.fld fld46_0 rfl rfl rfl) ?_
       refine .v rfl rfl (O.ld (y := .i ((nth x1 v38).Day)) ty3 rfl rfl rfl) ?_
       refine .m rfl rfl rfl rfl ?_
       refine .a rfl rfl rfl rfl ?_
       refine .a rfl rfl rfl rfl ?_
       refine .nil ?_
       refine W.seq ?_
       refine W.seq ?_
       obtain ⟨c81, h⟩ := chk h
       refine W.fork (mkSt [(0, some (.i x0)), (1, some (.imm (.row 2 (List.map api_Reset.enc x1)))), (2, some (.i x2)), (3, some (.i x3)), (10, some (.i v37)), (11, some (.i v38)), (12, some (.i ((nth x1 v38).Day))), (13, some (.i x3)), (75, some (.b ((decide ((IntKind.wrap .i64 (v38 + 1)) < (List.length x1 : Int))) && (decide (((nth x1 (IntKind.wrap .i64 (v38 + 1))).Day) < x3)))))] [] 1000) ?_ ?_
       ·obtain ⟨o86, b87, h⟩ := bnd1 h
        refine W.fork (mkSt [(0, some (.i x0)), (1, some (.imm (.row 2 (List.map api_Reset.enc x1)))), (2, some (.i x2)), (3, some (.i x3)), (10, some (.i v37)), (11, some (.i v38)), (12, some (.i ((nth x1 v38).Day))), (13, some (.i o86))] [] 1000) ?_ ?_
        ·refine W.seq ?_
         refine W.seq ?_
         refine W.pk ?_
         refine .m rfl rfl rfl rfl ?_
         refine .m rfl rfl rfl rfl ?_
         refine .v rfl rfl (OpL.binI rfl rfl rfl rfl) ?_
         refine .nil ?_
         obtain ⟨o92, b93, h⟩ := bnd1 h
         refine W.fork (mkSt [(0, some (.i x0)), (1, some (.imm (.row 2 (List.map api_Reset.enc x1)))), (2, some (.i x2)), (3, some (.i x3)), (10, some (.i v37)), (11, some (.i v38)), (12, some (.i o92)), (13, some (.i o86))] [] 1000) ?_ ?_
         ·refine W.seq ?_
          refine W.pk ?_
          refine .m rfl rfl rfl rfl ?_
          refine .m rfl rfl rfl rfl ?_
          refine .v rfl rfl (OpL.binI rfl rfl rfl rfl) ?_
          refine .nil ?_
          refine W.cond rfl (fun q95 => ?_) (fun q95 => ?_)
          ·have h := ifT q95 h
           obtain ⟨c96, h⟩ := chk h
           refine W.pk ?_
           refine .m rfl rfl rfl rfl ?_
           refine .m rfl rfl rfl rfl ?_
           refine .m rfl rfl rfl rfl ?_
           refine .v rfl rfl (O.idx sl22 c96 rfl rfl rfl) ?_
           refine .v rfl rfl (O.fld fld46_1 rfl rfl rfl) ?_
           refine .v rfl rfl (O.ld (y := .i ((nth x1 v38).Rate)) ty3 rfl rfl rfl) ?_
           refine .m rfl rfl rfl rfl ?_
           refine .m rfl rfl rfl rfl ?_
           refine .v rfl rfl (OpL.binI rfl rfl rfl rfl) ?_
           refine .v rfl rfl (OpL.binI rfl rfl rfl rfl) ?_
           refine .v rfl rfl (OpL.binI rfl rfl rfl rfl) ?_
           refine .a rfl rfl rfl rfl ?_
           refine .nil ?_
           refine W.pk ?_
           refine .m rfl rfl rfl rfl ?_
           refine .v rfl rfl (OpL.binI rfl rfl rfl rfl) ?_
           refine .a rfl rfl rfl rfl ?_
           refine .nil ?_
           cases h
           exact rdN (Gives.mkR [] (.r rfl rfl (.r rfl rfl (.r rfl rfl (.r rfl rfl (.r rfl rfl (.r rfl rfl .n)))))) .n rfl rfl rfl)
          ·have h := ifF q95 h
           refine W.skip ?_
           refine W.pk ?_
           refine .m rfl rfl rfl rfl ?_
           refine .v rfl rfl (OpL.binI rfl rfl rfl rfl) ?_
           refine .a rfl rfl rfl rfl ?_
           refine .nil ?_
           cases h
           exact rdN (Gives.mkR [] (.r rfl rfl (.r rfl rfl (.r rfl rfl (.r rfl rfl (.r rfl rfl (.r rfl rfl .n)))))) .n rfl rfl rfl)
         ·clear h
          have h := b93
          refine W.cond rfl (fun q94 => ?_) (fun q94 => ?_)
          ·have h := ifT q94 h
           refine W.pk ?_
           refine .m rfl rfl rfl rfl ?_
           refine .a rfl rfl rfl rfl ?_
           refine .nil ?_
           cases h
           exact toN (Gives.mkR [] (.r rfl rfl (.r rfl rfl (.r rfl rfl (.r rfl rfl (.r rfl rfl (.r rfl rfl (.r rfl rfl (.r rfl rfl .n)))))))) .n rfl rfl rfl)
          ·have h := ifF q94 h
           refine W.skip ?_
           cases h
           exact toN (Gives.mkR [] (.r rfl rfl (.r rfl rfl (.r rfl rfl (.r rfl rfl (.r rfl rfl (.r rfl rfl (.r rfl rfl (.r rfl rfl .n)))))))) .n rfl rfl rfl)
        ·clear h
         have h := b87
         refine W.cond rfl (fun q88 => ?_) (fun q88 => ?_)
         ·have h := ifT q88 h
          obtain ⟨c89, h⟩ := chk h
          refine W.pk ?_
          refine .m rfl rfl rfl rfl ?_
          refine .m rfl rfl rfl rfl ?_
          refine .v rfl rfl (OpL.binI rfl rfl rfl rfl) ?_
          refine .v rfl rfl (O.idx sl22 c89 rfl rfl rfl) ?_
          refine .v rfl rfl (O.fld fld46_0 rfl rfl rfl) ?_
          refine .v rfl rfl (O.ld (y := .i ((nth x1 (IntKind.wrap .i64 (v38 + 1))).Day)) ty3 rfl rfl rfl) ?_
          refine .a rfl rfl rfl rfl ?_
          refine .nil ?_
          cases h
          exact toN (Gives.mkR [] (.r rfl rfl (.r rfl rfl (.r rfl rfl (.r rfl rfl (.r rfl rfl (.r rfl rfl (.r rfl rfl (.r rfl rfl .n)))))))) .n rfl rfl rfl)
         ·have h := ifF q88 h
          refine W.skip ?_
          cases h
          exact toN (Gives.mkR [] (.r rfl rfl (.r rfl rfl (.r rfl rfl (.r rfl rfl (.r rfl rfl (.r rfl rfl (.r rfl rfl (.r rfl rfl .n)))))))) .n rfl rfl rfl)
       ·clear h
        rcases tf (decide ((IntKind.wrap .i64 (v38 + 1)) < (List.length x1 : Int))) with g82 | g82
        ·refine W.pk ?_
         refine .m rfl rfl rfl rfl ?_
         refine .v rfl rfl (OpL.binI rfl rfl rfl rfl) ?_
         refine .m rfl rfl rfl rfl ?_
         refine .v rfl rfl (O.lenR sl22 rfl rfl) ?_
         refine .v rfl rfl (OpL.binI rfl rfl rfl rfl) ?_
         refine .m rfl rfl rfl rfl ?_
         refine .m rfl (met rfl rfl rfl g82) rfl rfl ?_
         refine .m rfl (met rfl rfl rfl g82) rfl rfl ?_
         refine .v rfl (met rfl rfl rfl g82) (OpL.binI rfl rfl rfl rfl) ?_
         refine .v rfl (met rfl rfl rfl g82) (O.idx sl22 (c81 (by simp only [g82, Bool.true_or, Bool.or_true, Bool.false_or, Bool.or_false, Bool.true_and, Bool.and_true, Bool.false_and, Bool.and_false, Bool.not_true, Bool.not_false, cond_true, cond_false])) rfl rfl rfl) ?_
         refine .v rfl (met rfl rfl rfl g82) (O.fld fld46_0 rfl rfl rfl) ?_
         refine .v rfl (met rfl rfl rfl g82) (O.ld (y := .i ((nth x1 (IntKind.wrap .i64 (v38 + 1))).Day)) ty3 rfl rfl rfl) ?_
         refine .m rfl (met rfl rfl rfl g82) rfl rfl ?_
         refine .v rfl (met rfl rfl rfl g82) (OpL.binI rfl rfl rfl rfl) ?_
         refine .v rfl rfl (O.pickT g82 rfl rfl rfl) ?_
         refine .nil ?_
         exact toN (Gives.mkR [] (.r rfl rfl (.r rfl rfl (.r rfl rfl (.r rfl rfl (.r rfl rfl (.r rfl rfl (.r rfl rfl (.r rfl rfl (.c rfl (sbb (by simp only [g82, Bool.true_or, Bool.or_true, Bool.false_or, Bool.or_false, Bool.true_and, Bool.and_true, Bool.false_and, Bool.and_false, Bool.not_true, Bool.not_false, cond_true, cond_false])) rfl .n))))))))) .n rfl rfl rfl)
        ·refine W.pk ?_
         refine .m rfl rfl rfl rfl ?_
         refine .v rfl rfl (OpL.binI rfl rfl rfl rfl) ?_
         refine .m rfl rfl rfl rfl ?_
         refine .v rfl rfl (O.lenR sl22 rfl rfl) ?_
         refine .v rfl rfl (OpL.binI rfl rfl rfl rfl) ?_
         refine .m rfl rfl rfl rfl ?_
         refine .x rfl (unmet rfl rfl rfl g82) ?_
         refine .x rfl (unmet rfl rfl rfl g82) ?_
         refine .x rfl (unmet rfl rfl rfl g82) ?_
         refine .x rfl (unmet rfl rfl rfl g82) ?_
         refine .x rfl (unmet rfl rfl rfl g82) ?_
         refine .x rfl (unmet rfl rfl rfl g82) ?_
         refine .x rfl (unmet rfl rfl rfl g82) ?_
         refine .x rfl (unmet rfl rfl rfl g82) ?_
         refine .v rfl rfl (O.pickF g82 rfl rfl rfl) ?_
         refine .nil ?_
         exact toN (Gives.mkR [] (.r rfl rfl (.r rfl rfl (.r rfl rfl (.r rfl rfl (.r rfl rfl (.r rfl rfl (.r rfl rfl (.r rfl rfl (.c rfl (sbb (by simp only [g82, Bool.true_or, Bool.or_true, Bool.false_or, Bool.or_false, Bool.true_and, Bool.and_true, Bool.false_and, Bool.and_false, Bool.not_true, Bool.not_false, cond_true, cond_false])) rfl .n))))))))) .n rfl rfl rfl)
      ·have h := ifF q79 h
       refine W.exit ?_
       cases h
       refine rdX fun e_ => ?_
       subst e_
       repeat with_reducible refine thru ?_
       refine hit ?_
       exact toN (Gives.mkR [] (.r rfl rfl (.r rfl rfl .n)) .n rfl rfl rfl)
  ·clear h
   rcases tf t6 with g11 | g11
   ·rcases tf t8 with g12 | g12
    ·rcases tf (decide (x2 > x3)) with g13 | g13
     ·refine W.pk ?_
      refine .m rfl rfl rfl rfl ?_
      refine .call (.b t6) [] 0 (lombardref02_Good.ok b7) rfl rfl rfl ca44 rfl rfl (cC (.imm _) .nil) rfl rfl rfl rfl rfl ?_
      refine .v rfl rfl (OpL.unV rfl rfl rfl) ?_
      refine .m rfl rfl rfl rfl ?_
      refine .m rfl (met rfl rfl rfl (notT g11)) rfl rfl ?_
      refine .call (.b t8) [] 0 (lombardref02_Good.ok ((if_pos (by first | (simp only [g11, g12, g13, Bool.true_or, Bool.or_true, Bool.false_or, Bool.or_false, Bool.true_and, Bool.and_true, Bool.false_and, Bool.and_false, Bool.not_true, Bool.not_false, cond_true, cond_false]; done) | (repeat (first | rw [g11] | rw [g12] | rw [g13])) <;> simp only [Bool.true_or, Bool.or_true, Bool.false_or, Bool.or_false, Bool.true_and, Bool.and_true, Bool.false_and, Bool.and_false, Bool.not_true, Bool.not_false, cond_true, cond_false])).symm.trans b9)) rfl (met rfl rfl rfl (notT g11)) rfl ca44 rfl rfl (cC (.imm _) .nil) rfl rfl rfl rfl rfl ?_
      refine .v rfl (met rfl rfl rfl (notT g11)) (OpL.unV rfl rfl rfl) ?_
      refine .v rfl rfl (O.pickF (notT g11) rfl rfl rfl) ?_
      refine .m rfl rfl rfl rfl ?_
      refine .m rfl (met rfl rfl rfl (notT g12)) rfl rfl ?_
      refine .m rfl (met rfl rfl rfl (notT g12)) rfl rfl ?_
      refine .v rfl (met rfl rfl rfl (notT g12)) (OpL.binI rfl rfl rfl rfl) ?_
      refine .v rfl rfl (O.pickF (notT g12) rfl rfl rfl) ?_
      refine .m rfl rfl rfl rfl ?_
      refine .x rfl (unmet rfl rfl rfl g13) ?_
      refine .x rfl (unmet rfl rfl rfl g13) ?_
      refine .x rfl (unmet rfl rfl rfl g13) ?_
      refine .x rfl (unmet rfl rfl rfl g13) ?_
      refine .v rfl rfl (O.pickT g13 rfl rfl rfl) ?_
      refine .m rfl rfl rfl rfl ?_
      refine .x rfl (unmet rfl rfl rfl rfl) ?_
      refine .x rfl (unmet rfl rfl rfl rfl) ?_
      refine .x rfl (unmet rfl rfl rfl rfl) ?_
      refine .x rfl (unmet rfl rfl rfl rfl) ?_
      refine .x rfl (unmet rfl rfl rfl rfl) ?_
      refine .x rfl (unmet rfl rfl rfl rfl) ?_
      refine .v rfl rfl (O.pickT rfl rfl rfl rfl) ?_
      refine .nil ?_
      exact toN (Gives.mkR [] (.r rfl rfl (.r rfl rfl (.r rfl rfl (.r rfl rfl (.c rfl (sbb (by first | (simp only [g11, g12, g13, Bool.true_or, Bool.or_true, Bool.false_or, Bool.or_false, Bool.true_and, Bool.and_true, Bool.false_and, Bool.and_false, Bool.not_true, Bool.not_false, cond_true, cond_false]; done) | (repeat (first | rw [g11] | rw [g12] | rw [g13])) <;> simp only [Bool.true_or, Bool.or_true, Bool.false_or, Bool.or_false, Bool.true_and, Bool.and_true, Bool.false_and, Bool.and_false, Bool.not_true, Bool.not_false, cond_true, cond_false])) rfl .n))))) .n rfl rfl rfl)
     ·rcases tf (decide ((IntKind.wrap .i64 (x3 - x2)) > 3660)) with g14 | g14
      ·refine W.pk ?_
       refine .m rfl rfl rfl rfl ?_
       refine .call (.b t6) [] 0 (lombardref02_Good.ok b7) rfl rfl rfl ca44 rfl rfl (cC (.imm _) .nil) rfl rfl rfl rfl rfl ?_
       refine .v rfl rfl (OpL.unV rfl rfl rfl) ?_
       refine .m rfl rfl rfl rfl ?_
       refine .m rfl (met rfl rfl rfl (notT g11)) rfl rfl ?_
       refine .call (.b t8) [] 0 (lombardref02_Good.ok ((if_pos (by first | (simp only [g11, g12, g13, g14, Bool.true_or, Bool.or_true, Bool.false_or, Bool.or_false, Bool.true_and, Bool.and_true, Bool.false_and, Bool.and_false, Bool.not_true, Bool.not_false, cond_true, cond_false]; done) | (repeat (first | rw [g11] | rw [g12] | rw [g13] | rw [g14])) <;> simp only [Bool.true_or, Bool.or_true, Bool.false_or, Bool.or_false, Bool.true_and, Bool.and_true, Bool.false_and, Bool.and_false, Bool.not_true, Bool.not_false, cond_true, cond_false])).symm.trans b9)) rfl (met rfl rfl rfl (notT g11)) rfl ca44 rfl rfl (cC (.imm _) .nil) rfl rfl rfl rfl rfl ?_
       refine .v rfl (met rfl rfl rfl (notT g11)) (OpL.unV rfl rfl rfl) ?_
       refine .v rfl rfl (O.pickF (notT g11) rfl rfl rfl) ?_
       refine .m rfl rfl rfl rfl ?_
       refine .m rfl (met rfl rfl rfl (notT g12)) rfl rfl ?_
       refine .m rfl (met rfl rfl rfl (notT g12)) rfl rfl ?_
       refine .v rfl (met rfl rfl rfl (notT g12)) (OpL.binI rfl rfl rfl rfl) ?_
       refine .v rfl rfl (O.pickF (notT g12) rfl rfl rfl) ?_
       refine .m rfl rfl rfl rfl ?_
       refine .m rfl (met rfl rfl rfl g13) rfl rfl ?_
       refine .m rfl (met rfl rfl rfl g13) rfl rfl ?_
       refine .v rfl (met rfl rfl rfl g13) (OpL.binI rfl rfl rfl rfl) ?_
       refine .v rfl (met rfl rfl rfl g13) (OpL.binI rfl rfl rfl rfl) ?_
       refine .v rfl rfl (O.pickF g13 rfl rfl rfl) ?_
       refine .m rfl rfl rfl rfl ?_
       refine .x rfl (unmet rfl rfl rfl g14) ?_
       refine .x rfl (unmet rfl rfl rfl g14) ?_
       refine .x rfl (unmet rfl rfl rfl g14) ?_
       refine .x rfl (unmet rfl rfl rfl g14) ?_
       refine .x rfl (unmet rfl rfl rfl g14) ?_
       refine .x rfl (unmet rfl rfl rfl g14) ?_
       refine .v rfl rfl (O.pickT g14 rfl rfl rfl) ?_
       refine .nil ?_
       exact toN (Gives.mkR [] (.r rfl rfl (.r rfl rfl (.r rfl rfl (.r rfl rfl (.c rfl (sbb (by first | (simp only [g11, g12, g13, g14, Bool.true_or, Bool.or_true, Bool.false_or, Bool.or_false, Bool.true_and, Bool.and_true, Bool.false_and, Bool.and_false, Bool.not_true, Bool.not_false, cond_true, cond_false]; done) | (repeat (first | rw [g11] | rw [g12] | rw [g13] | rw [g14])) <;> simp only [Bool.true_or, Bool.or_true, Bool.false_or, Bool.or_false, Bool.true_and, Bool.and_true, Bool.false_and, Bool.and_false, Bool.not_true, Bool.not_false, cond_true, cond_false])) rfl .n))))) .n rfl rfl rfl)
      ·refine W.pk ?_
       refine .m rfl rfl rfl rfl ?_
       refine .call (.b t6) [] 0 (lombardref02_Good.ok b7) rfl rfl rfl ca44 rfl rfl (cC (.imm _) .nil) rfl rfl rfl rfl rfl ?_
       refine .v rfl rfl (OpL.unV rfl rfl rfl) ?_
       refine .m rfl rfl rfl rfl ?_
       refine .m rfl (met rfl rfl rfl (notT g11)) rfl rfl ?_
       refine .call (.b t8) [] 0 (lombardref02_Good.ok ((if_pos (by first | (simp only [g11, g12, g13, g14, Bool.true_or, Bool.or_true, Bool.false_or, Bool.or_false, Bool.true_and, Bool.and_true, Bool.false_and, Bool.and_false, Bool.not_true, Bool.not_false, cond_true, cond_false]; done) | (repeat (first | rw [g11] | rw [g12] | rw [g13] | rw [g14])) <;> simp only [Bool.true_or, Bool.or_true, Bool.false_or, Bool.or_false, Bool.true_and, Bool.and_true, Bool.false_and, Bool.and_false, Bool.not_true, Bool.not_false, cond_true, cond_false])).symm.trans b9)) rfl (met rfl rfl rfl (notT g11)) rfl ca44 rfl rfl (cC (.imm _) .nil) rfl rfl rfl rfl rfl ?_
       refine .v rfl (met rfl rfl rfl (notT g11)) (OpL.unV rfl rfl rfl) ?_
       refine .v rfl rfl (O.pickF (notT g11) rfl rfl rfl) ?_
       refine .m rfl rfl rfl rfl ?_
       refine .m rfl (met rfl rfl rfl (notT g12)) rfl rfl ?_
       refine .m rfl (met rfl rfl rfl (notT g12)) rfl rfl ?_
       refine .v rfl (met rfl rfl rfl (notT g12)) (OpL.binI rfl rfl rfl rfl) ?_
       refine .v rfl rfl (O.pickF (notT g12) rfl rfl rfl) ?_
       refine .m rfl rfl rfl rfl ?_
       refine .m rfl (met rfl rfl rfl g13) rfl rfl ?_
       refine .m rfl (met rfl rfl rfl g13) rfl rfl ?_
       refine .v rfl (met rfl rfl rfl g13) (OpL.binI rfl rfl rfl rfl) ?_
       refine .v rfl (met rfl rfl rfl g13) (OpL.binI rfl rfl rfl rfl) ?_
       refine .v rfl rfl (O.pickF g13 rfl rfl rfl) ?_
       refine .m rfl rfl rfl rfl ?_
       refine .m rfl (met rfl rfl rfl g14) rfl rfl ?_
       refine .m rfl (met rfl rfl rfl g14) rfl rfl ?_
       refine .v rfl (met rfl rfl rfl g14) (O.idx sl22 (c10 (by first | (simp only [g11, g12, g13, g14, Bool.true_or, Bool.or_true, Bool.false_or, Bool.or_false, Bool.true_and, Bool.and_true, Bool.false_and, Bool.and_false, Bool.not_true, Bool.not_false, cond_true, cond_false]; done) | (repeat (first | rw [g11] | rw [g12] | rw [g13] | rw [g14])) <;> simp only [Bool.true_or, Bool.or_true, Bool.false_or, Bool.or_false, Bool.true_and, Bool.and_true, Bool.false_and, Bool.and_false, Bool.not_true, Bool.not_false, cond_true, cond_false])) rfl rfl rfl) ?_
       refine .v rfl (met rfl rfl rfl g14) (O.fld fld46_0 rfl rfl rfl) ?_
       refine .v rfl (met rfl rfl rfl g14) (O.ld (y := .i ((nth x1 0).Day)) ty3 rfl rfl rfl) ?_
       refine .v rfl (met rfl rfl rfl g14) (OpL.binI rfl rfl rfl rfl) ?_
       refine .v rfl rfl (O.pickF g14 rfl rfl rfl) ?_
       refine .nil ?_
       exact toN (Gives.mkR [] (.r rfl rfl (.r rfl rfl (.r rfl rfl (.r rfl rfl (.c rfl (sbb (by first | (simp only [g11, g12, g13, g14, Bool.true_or, Bool.or_true, Bool.false_or, Bool.or_false, Bool.true_and, Bool.and_true, Bool.false_and, Bool.and_false, Bool.not_true, Bool.not_false, cond_true, cond_false]; done) | (repeat (first | rw [g11] | rw [g12] | rw [g13] | rw [g14])) <;> simp only [Bool.true_or, Bool.or_true, Bool.false_or, Bool.or_false, Bool.true_and, Bool.and_true, Bool.false_and, Bool.and_false, Bool.not_true, Bool.not_false, cond_true, cond_false])) rfl .n))))) .n rfl rfl rfl)
    ·refine W.pk ?_
     refine .m rfl rfl rfl rfl ?_
     refine .call (.b t6) [] 0 (lombardref02_Good.ok b7) rfl rfl rfl ca44 rfl rfl (cC (.imm _) .nil) rfl rfl rfl rfl rfl ?_
     refine .v rfl rfl (OpL.unV rfl rfl rfl) ?_
     refine .m rfl rfl rfl rfl ?_
     refine .m rfl (met rfl rfl rfl (notT g11)) rfl rfl ?_
     refine .call (.b t8) [] 0 (lombardref02_Good.ok ((if_pos (by first | (simp only [g11, g12, Bool.true_or, Bool.or_true, Bool.false_or, Bool.or_false, Bool.true_and, Bool.and_true, Bool.false_and, Bool.and_false, Bool.not_true, Bool.not_false, cond_true, cond_false]; done) | (repeat (first | rw [g11] | rw [g12])) <;> simp only [Bool.true_or, Bool.or_true, Bool.false_or, Bool.or_false, Bool.true_and, Bool.and_true, Bool.false_and, Bool.and_false, Bool.not_true, Bool.not_false, cond_true, cond_false])).symm.trans b9)) rfl (met rfl rfl rfl (notT g11)) rfl ca44 rfl rfl (cC (.imm _) .nil) rfl rfl rfl rfl rfl ?_
     refine .v rfl (met rfl rfl rfl (notT g11)) (OpL.unV rfl rfl rfl) ?_
     refine .v rfl rfl (O.pickF (notT g11) rfl rfl rfl) ?_
     refine .m rfl rfl rfl rfl ?_
     refine .x rfl (unmet rfl rfl rfl (notF g12)) ?_
     refine .x rfl (unmet rfl rfl rfl (notF g12)) ?_
     refine .x rfl (unmet rfl rfl rfl (notF g12)) ?_
     refine .v rfl rfl (O.pickT (notF g12) rfl rfl rfl) ?_
     refine .m rfl rfl rfl rfl ?_
     refine .x rfl (unmet rfl rfl rfl rfl) ?_
     refine .x rfl (unmet rfl rfl rfl rfl) ?_
     refine .x rfl (unmet rfl rfl rfl rfl) ?_
     refine .x rfl (unmet rfl rfl rfl rfl) ?_
     refine .v rfl rfl (O.pickT rfl rfl rfl rfl) ?_
     refine .m rfl rfl rfl rfl ?_
     refine .x rfl (unmet rfl rfl rfl rfl) ?_
     refine .x rfl (unmet rfl rfl rfl rfl) ?_
     refine .x rfl (unmet rfl rfl rfl rfl) ?_
     refine .x rfl (unmet rfl rfl rfl rfl) ?_
     refine .x rfl (unmet rfl rfl rfl rfl) ?_
     refine .x rfl (unmet rfl rfl rfl rfl) ?_
     refine .v rfl rfl (O.pickT rfl rfl rfl rfl) ?_
     refine .nil ?_
     exact toN (Gives.mkR [] (.r rfl rfl (.r rfl rfl (.r rfl rfl (.r rfl rfl (.c rfl (sbb (by first | (simp only [g11, g12, Bool.true_or, Bool.or_true, Bool.false_or, Bool.or_false, Bool.true_and, Bool.and_true, Bool.false_and, Bool.and_false, Bool.not_true, Bool.not_false, cond_true, cond_false]; done) | (repeat (first | rw [g11] | rw [g12])) <;> simp only [Bool.true_or, Bool.or_true, Bool.false_or, Bool.or_false, Bool.true_and, Bool.and_true, Bool.false_and, Bool.and_false, Bool.not_true, Bool.not_false, cond_true, cond_false])) rfl .n))))) .n rfl rfl rfl)
   ·refine W.pk ?_
    refine .m rfl rfl rfl rfl ?_
    refine .call (.b t6) [] 0 (lombardref02_Good.ok b7) rfl rfl rfl ca44 rfl rfl (cC (.imm _) .nil) rfl rfl rfl rfl rfl ?_
    refine .v rfl rfl (OpL.unV rfl rfl rfl) ?_
    refine .m rfl rfl rfl rfl ?_
    refine .x rfl (unmet rfl rfl rfl (notF g11)) ?_
    refine .x rfl (unmet rfl rfl rfl (notF g11)) ?_
    refine .x rfl (unmet rfl rfl rfl (notF g11)) ?_
    refine .v rfl rfl (O.pickT (notF g11) rfl rfl rfl) ?_
    refine .m rfl rfl rfl rfl ?_
    refine .x rfl (unmet rfl rfl rfl rfl) ?_
    refine .x rfl (unmet rfl rfl rfl rfl) ?_
    refine .x rfl (unmet rfl rfl rfl rfl) ?_
    refine .v rfl rfl (O.pickT rfl rfl rfl rfl) ?_
    refine .m rfl rfl rfl rfl ?_
    refine .x rfl (unmet rfl rfl rfl rfl) ?_
    refine .x rfl (unmet rfl rfl rfl rfl) ?_
    refine .x rfl (unmet rfl rfl rfl rfl) ?_
    refine .x rfl (unmet rfl rfl rfl rfl) ?_
    refine .v rfl rfl (O.pickT rfl rfl rfl rfl) ?_
    refine .m rfl rfl rfl rfl ?_
    refine .x rfl (unmet rfl rfl rfl rfl) ?_
    refine .x rfl (unmet rfl rfl rfl rfl) ?_
    refine .x rfl (unmet rfl rfl rfl rfl) ?_
    refine .x rfl (unmet rfl rfl rfl rfl) ?_
    refine .x rfl (unmet rfl rfl rfl rfl) ?_
    refine .x rfl (unmet rfl rfl rfl rfl) ?_
    refine .v rfl rfl (O.pickT rfl rfl rfl rfl) ?_
    refine .nil ?_
    exact toN (Gives.mkR [] (.r rfl rfl (.r rfl rfl (.r rfl rfl (.r rfl rfl (.c rfl (sbb (by simp only [g11, Bool.true_or, Bool.or_true, Bool.false_or, Bool.or_false, Bool.true_and, Bool.and_true, Bool.false_and, Bool.and_false, Bool.not_true, Bool.not_false, cond_true, cond_false])) rfl .n))))) .n rfl rfl rfl)

noncomputable def lombardref24_Interest.f (x0 : api_Trade) (x1 : Int) : Option (Int × Int) :=
  (lombardref02_Good.f x1).bind fun t1 =>
  if (!t1) = true then
    some (0, 10)
  else
    ((
      if ((x0.End != 0) && (decide (x1 > x0.End))) = true then
        some x0.End
      else
        some x1 : Option (Int))).bind fun o7 =>
    ((
      if (decide (o7 < x0.Start)) = true then
        some x0.Start
      else
        some o7 : Option (Int))).bind fun o12 =>
    (lombardref03_Between.f x0.Amount x0.Resets x0.Start o12).bind fun t15 =>
    some (t15.1, t15.2)
set_option maxRecDepth 100000 in
set_option maxHeartbeats 4000000 in
theorem lombardref24_Interest.ok {x0 : api_Trade} {x1 : Int} {r : Int × Int} (h : lombardref24_Interest.f x0 x1 = some r) : Pm.Spec prog 13 [.agg [.imm (.val (.int .i64 x0.ID)), .imm (.val (.int .i64 x0.Twin)), .imm (.val (.int .i64 x0.Member)), .imm (.val (.int .i64 x0.Side)), .imm (.val (.int .i64 x0.Basket)), .imm (.val (.int .i64 x0.Amount)), .imm (.val (.int .i64 x0.Start)), .imm (.val (.int .i64 x0.End)), .imm (.row 2 (List.map api_Reset.enc x0.Resets)), .imm (.val (.int .i64 x0.Stage)), .imm (.val (.bool x0.Short))], .imm (.val (.int .i64 x1))] (.tup [.imm (.val (.int .i64 r.1)), .imm (.val (.int .i64 r.2))]) [none, none] := by
 unfold lombardref24_Interest.f at h
 refine Pm.Spec.of_body Try.func13 rfl (by kernel_rfl) (Nat.le_of_ble_eq_true rfl) (Nat.le_of_ble_eq_true rfl) ?_
 refine W.ghost (σ' := (mkSt [(0, some (.agg (api_Trade.av x0))), (1, some (.i x1))] [] 1000)) (Gives.entry (.c rfl (.c rfl .n)) .n) ?_
 refine W.seq ?_
 refine W.pk ?_
 refine .t rfl rfl (O.box rfl rfl rfl rfl rfl) ?_
 refine .a rfl rfl rfl rfl ?_
 refine .a rfl rfl rfl rfl ?_
 refine .nil ?_
 refine W.seq ?_
 refine W.seq ?_
 obtain ⟨t1, b2, h⟩ := bnd1 h
 refine W.pk ?_
 refine .m rfl rfl rfl rfl ?_
 refine .call (.b t1) [] 0 (lombardref02_Good.ok b2) rfl rfl rfl ca44 rfl rfl (cC (.imm _) .nil) rfl rfl rfl rfl rfl ?_
 refine .v rfl rfl (OpL.unV rfl rfl rfl) ?_
 refine .nil ?_
 refine W.cond rfl (fun q3 => ?_) (fun q3 => ?_)
 ·have h := ifT q3 h
  refine W.seq ?_
  refine W.pk ?_
  refine .a rfl rfl rfl rfl ?_
  refine .a rfl rfl rfl rfl ?_
  refine .nil ?_
  refine W.ret ?_
  cases h
  exact leaves (.inr rfl) rfl (.tup _ _ _ _ (cC (.imm _) (cC (.imm _) .nil))) (cN (cN .nil)) rfl rfl
 ·have h := ifF q3 h
  refine W.skip ?_
  refine W.seq ?_
  refine W.seq ?_
  refine W.fork (mkSt [(1, some (.i x1)), (2, some (.ptr 1000 0)), (17, some (.b ((x0.End != 0) && (decide (x1 > x0.End)))))] [(1000, some (.box [.i x0.ID, .i x0.Twin, .i x0.Member, .i x0.Side, .i x0.Basket, .i x0.Amount, .i x0.Start, .i x0.End, .imm (.row 2 (List.map api_Reset.enc x0.Resets)), .i x0.Stage, .b x0.Short]))] 1001) ?_ ?_
  ·obtain ⟨o7, b8, h⟩ := bnd1 h
   refine W.fork (mkSt [(1, some (.i o7)), (2, some (.ptr 1000 0))] [(1000, some (.box [.i x0.ID, .i x0.Twin, .i x0.Member, .i x0.Side, .i x0.Basket, .i x0.Amount, .i x0.Start, .i x0.End, .imm (.row 2 (List.map api_Reset.enc x0.Resets)), .i x0.Stage, .b x0.Short]))] 1001) ?_ ?_
   ·refine W.seq ?_
    refine W.seq ?_
    refine W.pk ?_
    refine .m rfl rfl rfl rfl ?_
    refine .v rfl rfl (O.fld fld24_6 rfl rfl rfl) ?_
    refine .v rfl rfl (O.ld (y := .i x0.Start) ty3 rfl rfl rfl) ?_
    refine .v rfl rfl (OpL.binI rfl rfl rfl rfl) ?_
    refine .nil ?_
    obtain ⟨o12, b13, h⟩ := bnd1 h
    refine W.fork (mkSt [(1, some (.i o12)), (2, some (.ptr 1000 0))] [(1000, some (.box [.i x0.ID, .i x0.Twin, .i x0.Member, .i x0.Side, .i x0.Basket, .i x0.Amount, .i x0.Start, .i x0.End, .imm (.row 2 (List.map api_Reset.enc x0.Resets)), .i x0.Stage, .b x0.Short]))] 1001) ?_ ?_
    ·refine W.seq ?_
     obtain ⟨t15, b16, h⟩ := bnd1 h
     refine W.pk ?_
     refine .v rfl rfl (O.fld fld24_5 rfl rfl rfl) ?_
     refine .v rfl rfl (O.ld (y := .i x0.Amount) ty3 rfl rfl rfl) ?_
     refine .v rfl rfl (O.fld fld24_8 rfl rfl rfl) ?_
     refine .v rfl rfl (O.ld (y := .imm (.row 2 (List.map api_Reset.enc x0.Resets))) ty22 rfl rfl rfl) ?_
     refine .v rfl rfl (O.fld fld24_6 rfl rfl rfl) ?_
     refine .v rfl rfl (O.ld (y := .i x0.Start) ty3 rfl rfl rfl) ?_
     refine .m rfl rfl rfl rfl ?_
     refine .call (.tup [.i t15.1, .i t15.2]) [] 0 (lombardref03_Between.ok b16) rfl rfl rfl ca45 rfl rfl (cC (.imm _) (cC (.imm _) (cC (.imm _) (cC (.imm _) .nil)))) rfl rfl rfl rfl rfl ?_
     refine .v rfl rfl (OpL.extract rfl rfl rfl) ?_
     refine .v rfl rfl (OpL.extract rfl rfl rfl) ?_
     refine .a rfl rfl rfl rfl ?_
     refine .a rfl rfl rfl rfl ?_
     refine .nil ?_
     refine W.ret ?_
     cases h
     exact leaves (.inr rfl) rfl (.tup _ _ _ _ (cC (.imm _) (cC (.imm _) .nil))) (cN (cN .nil)) rfl rfl
    ·clear h
     have h := b13
     refine W.cond rfl (fun q14 => ?_) (fun q14 => ?_)
     ·have h := ifT q14 h
      refine W.pk ?_
      refine .v rfl rfl (O.fld fld24_6 rfl rfl rfl) ?_
      refine .v rfl rfl (O.ld (y := .i x0.Start) ty3 rfl rfl rfl) ?_
      refine .a rfl rfl rfl rfl ?_
      refine .nil ?_
      cases h
      exact toN (Gives.mkR [] (.r rfl rfl (.r rfl rfl .n)) (.r rfl rfl rfl .n) rfl rfl rfl)
     ·have h := ifF q14 h
      refine W.skip ?_
      cases h
      exact toN (Gives.mkR [] (.r rfl rfl (.r rfl rfl .n)) (.r rfl rfl rfl .n) rfl rfl rfl)
   ·clear h
    have h := b8
    refine W.cond rfl (fun q9 => ?_) (fun q9 => ?_)
    ·have h := ifT q9 h
     refine W.pk ?_
     refine .v rfl rfl (O.fld fld24_7 rfl rfl rfl) ?_
     refine .v rfl rfl (O.ld (y := .i x0.End) ty3 rfl rfl rfl) ?_
     refine .a rfl rfl rfl rfl ?_
     refine .nil ?_
     cases h
     exact toN (Gives.mkR [] (.r rfl rfl (.r rfl rfl .n)) (.r rfl rfl rfl .n) rfl rfl rfl)
    ·have h := ifF q9 h
     refine W.skip ?_
     cases h
     exact toN (Gives.mkR [] (.r rfl rfl (.r rfl rfl .n)) (.r rfl rfl rfl .n) rfl rfl rfl)
  ·clear h
   rcases tf (x0.End != 0) with g4 | g4
   ·refine W.pk ?_
    refine .v rfl rfl (O.fld fld24_7 rfl rfl rfl) ?_
    refine .v rfl rfl (O.ld (y := .i x0.End) ty3 rfl rfl rfl) ?_
    refine .v rfl rfl (OpL.binI rfl rfl rfl rfl) ?_
    refine .m rfl rfl rfl rfl ?_
    refine .m rfl (met rfl rfl rfl g4) rfl rfl ?_
    refine .v rfl (met rfl rfl rfl g4) (O.fld fld24_7 rfl rfl rfl) ?_
    refine .v rfl (met rfl rfl rfl g4) (O.ld (y := .i x0.End) ty3 rfl rfl rfl) ?_
    refine .v rfl (met rfl rfl rfl g4) (OpL.binI rfl rfl rfl rfl) ?_
    refine .v rfl rfl (O.pickT g4 rfl rfl rfl) ?_
    refine .nil ?_
    exact toN (Gives.mkR [] (.r rfl rfl (.r rfl rfl (.c rfl (sbb (by simp only [g4, Bool.true_or, Bool.or_true, Bool.false_or, Bool.or_false, Bool.true_and, Bool.and_true, Bool.false_and, Bool.and_false, Bool.not_true, Bool.not_false, cond_true, cond_false])) rfl .n))) (.r rfl rfl rfl .n) rfl rfl rfl)
   ·refine W.pk ?_
    refine .v rfl rfl (O.fld fld24_7 rfl rfl rfl) ?_
    refine .v rfl rfl (O.ld (y := .i x0.End) ty3 rfl rfl rfl) ?_
    refine .v rfl rfl (OpL.binI rfl rfl rfl rfl) ?_
    refine .m rfl rfl rfl rfl ?_
    refine .x rfl (unmet rfl rfl rfl g4) ?_
    refine .x rfl (unmet rfl rfl rfl g4) ?_
    refine .x rfl (unmet rfl rfl rfl g4) ?_
    refine .x rfl (unmet rfl rfl rfl g4) ?_
    refine .v rfl rfl (O.pickF g4 rfl rfl rfl) ?_
    refine .nil ?_
    exact toN (Gives.mkR [] (.r rfl rfl (.r rfl rfl (.c rfl (sbb (by simp only [g4, Bool.true_or, Bool.or_true, Bool.false_or, Bool.or_false, Bool.true_and, Bool.and_true, Bool.false_and, Bool.and_false, Bool.not_true, Bool.not_false, cond_true, cond_false])) rfl .n))) (.r rfl rfl rfl .n) rfl rfl rfl)

noncomputable def lombardref01_Plus.f (x0 : Int) (x1 : Int) : Option (Int × Int) :=
  if (((decide (x1 > 0)) && (decide (x0 > (IntKind.wrap .i64 (9223372036854775807 - x1))))) || ((decide (x1 < 0)) && (decide (x0 < (IntKind.wrap .i64 ((-9223372036854775808) - x1)))))) = true then
    some (0, 9)
  else
    some ((IntKind.wrap .i64 (x0 + x1)), 0)
set_option maxRecDepth 100000 in
set_option maxHeartbeats 4000000 in
theorem lombardref01_Plus.ok {x0 : Int} {x1 : Int} {r : Int × Int} (h : lombardref01_Plus.f x0 x1 = some r) : Pm.Spec prog 47 [.imm (.val (.int .i64 x0)), .imm (.val (.int .i64 x1))] (.tup [.imm (.val (.int .i64 r.1)), .imm (.val (.int .i64 r.2))]) [none, none] := by
 unfold lombardref01_Plus.f at h
 refine Pm.Spec.of_body Try.func47 rfl (by kernel_rfl) (Nat.le_of_ble_eq_true rfl) (Nat.le_of_ble_eq_true rfl) ?_
 refine W.ghost (σ' := (mkSt [(0, some (.i x0)), (1, some (.i x1))] [] 1000)) (Gives.entry (.c rfl (.c rfl .n)) .n) ?_
 refine W.seq ?_
 refine W.pk ?_
 refine .a rfl rfl rfl rfl ?_
 refine .a rfl rfl rfl rfl ?_
 refine .nil ?_
 refine W.seq ?_
 refine W.seq ?_
 refine W.fork (mkSt [(0, some (.i x0)), (1, some (.i x1)), (23, some (.b (((decide (x1 > 0)) && (decide (x0 > (IntKind.wrap .i64 (9223372036854775807 - x1))))) || ((decide (x1 < 0)) && (decide (x0 < (IntKind.wrap .i64 ((-9223372036854775808) - x1))))))))] [] 1000) ?_ ?_
 ·refine W.cond rfl (fun q5 => ?_) (fun q5 => ?_)
  ·have h := ifT q5 h
   refine W.seq ?_
   refine W.pk ?_
   refine .a rfl rfl rfl rfl ?_
   refine .a rfl rfl rfl rfl ?_
   refine .nil ?_
   refine W.ret ?_
   cases h
   exact leaves (.inr rfl) rfl (.tup _ _ _ _ (cC (.imm _) (cC (.imm _) .nil))) (cN (cN .nil)) rfl rfl
  ·have h := ifF q5 h
   refine W.skip ?_
   refine W.seq ?_
   refine W.pk ?_
   refine .m rfl rfl rfl rfl ?_
   refine .m rfl rfl rfl rfl ?_
   refine .v rfl rfl (OpL.binI rfl rfl rfl rfl) ?_
   refine .a rfl rfl rfl rfl ?_
   refine .a rfl rfl rfl rfl ?_
   refine .nil ?_
   refine W.ret ?_
   cases h
   exact leaves (.inr rfl) rfl (.tup _ _ _ _ (cC (.imm _) (cC (.imm _) .nil))) (cN (cN .nil)) rfl rfl
 ·clear h
  rcases tf (decide (x1 > 0)) with g1 | g1
  ·rcases tf (decide (x0 > (IntKind.wrap .i64 (9223372036854775807 - x1)))) with g2 | g2
   ·refine W.pk ?_
    refine .m rfl rfl rfl rfl ?_
    refine .v rfl rfl (OpL.binI rfl rfl rfl rfl) ?_
    refine .m rfl rfl rfl rfl ?_
    refine .m rfl (met rfl rfl rfl g1) rfl rfl ?_
    refine .m rfl (met rfl rfl rfl g1) rfl rfl ?_
    refine .v rfl (met rfl rfl rfl g1) (OpL.binI rfl rfl rfl rfl) ?_
    refine .v rfl (met rfl rfl rfl g1) (OpL.binI rfl rfl rfl rfl) ?_
    refine .v rfl rfl (O.pickT g1 rfl rfl rfl) ?_
    refine .m rfl rfl rfl rfl ?_
    refine .x rfl (unmet rfl rfl rfl g2) ?_
    refine .x rfl (unmet rfl rfl rfl g2) ?_
    refine .x rfl (unmet rfl rfl rfl g2) ?_
    refine .x rfl (unmetU rfl rfl rfl) ?_
    refine .x rfl (unmetU rfl rfl rfl) ?_
    refine .x rfl (unmetU rfl rfl rfl) ?_
    refine .x rfl (unmetU rfl rfl rfl) ?_
    refine .x rfl (unmet rfl rfl rfl g2) ?_
    refine .v rfl rfl (O.pickT g2 rfl rfl rfl) ?_
    refine .nil ?_
    exact toN (Gives.mkR [] (.r rfl rfl (.r rfl rfl (.c rfl (sbb (by first | (simp only [g1, g2, Bool.true_or, Bool.or_true, Bool.false_or, Bool.or_false, Bool.true_and, Bool.and_true, Bool.false_and, Bool.and_false, Bool.not_true, Bool.not_false, cond_true, cond_false]; done) | (repeat (first | rw [g1] | rw [g2])) <;> simp only [Bool.true_or, Bool.or_true, Bool.false_or, Bool.or_false, Bool.true_and, Bool.and_true, Bool.false_and, Bool.and_false, Bool.not_true, Bool.not_false, cond_true, cond_false])) rfl .n))) .n rfl rfl rfl)
   ·rcases tf (decide (x1 < 0)) with g3 | g3
    ·refine W.pk ?_
     refine .m rfl rfl rfl rfl ?_
     refine .v rfl rfl (OpL.binI rfl rfl rfl rfl) ?_
     refine .m rfl rfl rfl rfl ?_
     refine .m rfl (met rfl rfl rfl g1) rfl rfl ?_
     refine .m rfl (met rfl rfl rfl g1) rfl rfl ?_
     refine .v rfl (met rfl rfl rfl g1) (OpL.binI rfl rfl rfl rfl) ?_
     refine .v rfl (met rfl rfl rfl g1) (OpL.binI rfl rfl rfl rfl) ?_
     refine .v rfl rfl (O.pickT g1 rfl rfl rfl) ?_
     refine .m rfl rfl rfl rfl ?_
     refine .m rfl (met rfl rfl rfl g2) rfl rfl ?_
     refine .v rfl (met rfl rfl rfl g2) (OpL.binI rfl rfl rfl rfl) ?_
     refine .m rfl (met rfl rfl rfl g2) rfl rfl ?_
     refine .m rfl (met rfl rfl rfl g3) rfl rfl ?_
     refine .m rfl (met rfl rfl rfl g3) rfl rfl ?_
     refine .v rfl (met rfl rfl rfl g3) (OpL.binI rfl rfl rfl rfl) ?_
     refine .v rfl (met rfl rfl rfl g3) (OpL.binI rfl rfl rfl rfl) ?_
     refine .v rfl (met rfl rfl rfl g2) (O.pickT g3 rfl rfl rfl) ?_
     refine .v rfl rfl (O.pickF g2 rfl rfl rfl) ?_
     refine .nil ?_
     exact toN (Gives.mkR [] (.r rfl rfl (.r rfl rfl (.c rfl (sbb (by first | (simp only [g1, g2, g3, Bool.true_or, Bool.or_true, Bool.false_or, Bool.or_false, Bool.true_and, Bool.and_true, Bool.false_and, Bool.and_false, Bool.not_true, Bool.not_false, cond_true, cond_false]; done) | (repeat (first | rw [g1] | rw [g2] | rw [g3])) <;> simp only [Bool.true_or, Bool.or_true, Bool.false_or, Bool.or_false, Bool.true_and, Bool.and_true, Bool.false_and, Bool.and_false, Bool.not_true, Bool.not_false, cond_true, cond_false])) rfl .n))) .n rfl rfl rfl)
    ·refine W.pk ?_
     refine .m rfl rfl rfl rfl ?_
     refine .v rfl rfl (OpL.binI rfl rfl rfl rfl) ?_
     refine .m rfl rfl rfl rfl ?_
     refine .m rfl (met rfl rfl rfl g1) rfl rfl ?_
     refine .m rfl (met rfl rfl rfl g1) rfl rfl ?_
     refine .v rfl (met rfl rfl rfl g1) (OpL.binI rfl rfl rfl rfl) ?_
     refine .v rfl (met rfl rfl rfl g1) (OpL.binI rfl rfl rfl rfl) ?_
     refine .v rfl rfl (O.pickT g1 rfl rfl rfl) ?_
     refine .m rfl rfl rfl rfl ?_
     refine .m rfl (met rfl rfl rfl g2) rfl rfl ?_
     refine .v rfl (met rfl rfl rfl g2) (OpL.binI rfl rfl rfl rfl) ?_
     refine .m rfl (met rfl rfl rfl g2) rfl rfl ?_
     refine .x rfl (unmet rfl rfl rfl g3) ?_
     refine .x rfl (unmet rfl rfl rfl g3) ?_
     refine .x rfl (unmet rfl rfl rfl g3) ?_
     refine .x rfl (unmet rfl rfl rfl g3) ?_
     refine .v rfl (met rfl rfl rfl g2) (O.pickF g3 rfl rfl rfl) ?_
     refine .v rfl rfl (O.pickF g2 rfl rfl rfl) ?_
     refine .nil ?_
     exact toN (Gives.mkR [] (.r rfl rfl (.r rfl rfl (.c rfl (sbb (by first | (simp only [g1, g2, g3, Bool.true_or, Bool.or_true, Bool.false_or, Bool.or_false, Bool.true_and, Bool.and_true, Bool.false_and, Bool.and_false, Bool.not_true, Bool.not_false, cond_true, cond_false]; done) | (repeat (first | rw [g1] | rw [g2] | rw [g3])) <;> simp only [Bool.true_or, Bool.or_true, Bool.false_or, Bool.or_false, Bool.true_and, Bool.and_true, Bool.false_and, Bool.and_false, Bool.not_true, Bool.not_false, cond_true, cond_false])) rfl .n))) .n rfl rfl rfl)
  ·rcases tf (decide (x1 < 0)) with g4 | g4
   ·refine W.pk ?_
    refine .m rfl rfl rfl rfl ?_
    refine .v rfl rfl (OpL.binI rfl rfl rfl rfl) ?_
    refine .m rfl rfl rfl rfl ?_
    refine .x rfl (unmet rfl rfl rfl g1) ?_
    refine .x rfl (unmet rfl rfl rfl g1) ?_
    refine .x rfl (unmet rfl rfl rfl g1) ?_
    refine .x rfl (unmet rfl rfl rfl g1) ?_
    refine .v rfl rfl (O.pickF g1 rfl rfl rfl) ?_
    refine .m rfl rfl rfl rfl ?_
    refine .m rfl (met rfl rfl rfl rfl) rfl rfl ?_
    refine .v rfl (met rfl rfl rfl rfl) (OpL.binI rfl rfl rfl rfl) ?_
    refine .m rfl (met rfl rfl rfl rfl) rfl rfl ?_
    refine .m rfl (met rfl rfl rfl g4) rfl rfl ?_
    refine .m rfl (met rfl rfl rfl g4) rfl rfl ?_
    refine .v rfl (met rfl rfl rfl g4) (OpL.binI rfl rfl rfl rfl) ?_
    refine .v rfl (met rfl rfl rfl g4) (OpL.binI rfl rfl rfl rfl) ?_
    refine .v rfl (met rfl rfl rfl rfl) (O.pickT g4 rfl rfl rfl) ?_
    refine .v rfl rfl (O.pickF rfl rfl rfl rfl) ?_
    refine .nil ?_
    exact toN (Gives.mkR [] (.r rfl rfl (.r rfl rfl (.c rfl (sbb (by first | (simp only [g1, g4, Bool.true_or, Bool.or_true, Bool.false_or, Bool.or_false, Bool.true_and, Bool.and_true, Bool.false_and, Bool.and_false, Bool.not_true, Bool.not_false, cond_true, cond_false]; done) | (repeat (first | rw [g1] | rw [g4])) <;> simp only [Bool.true_or, Bool.or_true, Bool.false_or, Bool.or_false, Bool.true_and, Bool.and_true, Bool.false_and, Bool.and_false, Bool.not_true, Bool.not_false, cond_true, cond_false])) rfl .n))) .n rfl rfl rfl)
   ·refine W.pk ?_
    refine .m rfl rfl rfl rfl ?_
    refine .v rfl rfl (OpL.binI rfl rfl rfl rfl) ?_
    refine .m rfl rfl rfl rfl ?_
    refine .x rfl (unmet rfl rfl rfl g1) ?_
    refine .x rfl (unmet rfl rfl rfl g1) ?_
    refine .x rfl (unmet rfl rfl rfl g1) ?_
    refine .x rfl (unmet rfl rfl rfl g1) ?_
    refine .v rfl rfl (O.pickF g1 rfl rfl rfl) ?_
    refine .m rfl rfl rfl rfl ?_
    refine .m rfl (met rfl rfl rfl rfl) rfl rfl ?_
    refine .v rfl (met rfl rfl rfl rfl) (OpL.binI rfl rfl rfl rfl) ?_
    refine .m rfl (met rfl rfl rfl rfl) rfl rfl ?_
    refine .x rfl (unmet rfl rfl rfl g4) ?_
    refine .x rfl (unmet rfl rfl rfl g4) ?_
    refine .x rfl (unmet rfl rfl rfl g4) ?_
    refine .x rfl (unmet rfl rfl rfl g4) ?_
    refine .v rfl (met rfl rfl rfl rfl) (O.pickF g4 rfl rfl rfl) ?_
    refine .v rfl rfl (O.pickF rfl rfl rfl rfl) ?_
    refine .nil ?_
    exact toN (Gives.mkR [] (.r rfl rfl (.r rfl rfl (.c rfl (sbb (by first | (simp only [g1, g4, Bool.true_or, Bool.or_true, Bool.false_or, Bool.or_false, Bool.true_and, Bool.and_true, Bool.false_and, Bool.and_false, Bool.not_true, Bool.not_false, cond_true, cond_false]; done) | (repeat (first | rw [g1] | rw [g4])) <;> simp only [Bool.true_or, Bool.or_true, Bool.false_or, Bool.or_false, Bool.true_and, Bool.and_true, Bool.false_and, Bool.and_false, Bool.not_true, Bool.not_false, cond_true, cond_false])) rfl .n))) .n rfl rfl rfl)

noncomputable def lombardref24_Owed.f (x0 : api_Trade) (x1 : Int) : Option (Int × Int) :=
  (lombardref24_Interest.f x0 x1).bind fun t1 =>
  if (t1.2 != 0) = true then
    some (0, t1.2)
  else
    (lombardref01_Plus.f x0.Amount t1.1).bind fun t4 =>
    some (t4.1, t4.2)
set_option maxRecDepth 100000 in
set_option maxHeartbeats 4000000 in
theorem lombardref24_Owed.ok {x0 : api_Trade} {x1 : Int} {r : Int × Int} (h : lombardref24_Owed.f x0 x1 = some r) : Pm.Spec prog 15 [.agg [.imm (.val (.int .i64 x0.ID)), .imm (.val (.int .i64 x0.Twin)), .imm (.val (.int .i64 x0.Member)), .imm (.val (.int .i64 x0.Side)), .imm (.val (.int .i64 x0.Basket)), .imm (.val (.int .i64 x0.Amount)), .imm (.val (.int .i64 x0.Start)), .imm (.val (.int .i64 x0.End)), .imm (.row 2 (List.map api_Reset.enc x0.Resets)), .imm (.val (.int .i64 x0.Stage)), .imm (.val (.bool x0.Short))], .imm (.val (.int .i64 x1))] (.tup [.imm (.val (.int .i64 r.1)), .imm (.val (.int .i64 r.2))]) [none, none] := by
 unfold lombardref24_Owed.f at h
 refine Pm.Spec.of_body Try.func15 rfl (by kernel_rfl) (Nat.le_of_ble_eq_true rfl) (Nat.le_of_ble_eq_true rfl) ?_
 refine W.ghost (σ' := (mkSt [(0, some (.agg (api_Trade.av x0))), (1, some (.i x1))] [] 1000)) (Gives.entry (.c rfl (.c rfl .n)) .n) ?_
 refine W.seq ?_
 refine W.pk ?_
 refine .t rfl rfl (O.box rfl rfl rfl rfl rfl) ?_
 refine .a rfl rfl rfl rfl ?_
 refine .a rfl rfl rfl rfl ?_
 refine .nil ?_
 refine W.seq ?_
 obtain ⟨t1, b2, h⟩ := bnd1 h
 refine W.pk ?_
 refine .v rfl rfl (O.ldN ty24 rfl rfl rfl) ?_
 refine .m rfl rfl rfl rfl ?_
 refine .call (.tup [.i t1.1, .i t1.2]) [] 0 (lombardref24_Interest.ok b2) rfl rfl rfl ca13 rfl rfl (cC (.agg _ _ _ _ (cC (.imm _) (cC (.imm _) (cC (.imm _) (cC (.imm _) (cC (.imm _) (cC (.imm _) (cC (.imm _) (cC (.imm _) (cC (.imm _) (cC (.imm _) (cC (.imm _) .nil)))))))))))) (cC (.imm _) .nil)) rfl rfl rfl rfl rfl ?_
 refine .m rfl rfl rfl rfl ?_
 refine .v rfl rfl (OpL.extract rfl rfl rfl) ?_
 refine .v rfl rfl (OpL.extract rfl rfl rfl) ?_
 refine .a rfl rfl rfl rfl ?_
 refine .a rfl rfl rfl rfl ?_
 refine .nil ?_
 refine W.seq ?_
 refine W.seq ?_
 refine W.pk ?_
 refine .m rfl rfl rfl rfl ?_
 refine .v rfl rfl (OpL.binI rfl rfl rfl rfl) ?_
 refine .nil ?_
 refine W.cond rfl (fun q3 => ?_) (fun q3 => ?_)
 ·have h := ifT q3 h
  refine W.seq ?_
  refine W.pk ?_
  refine .m rfl rfl rfl rfl ?_
  refine .a rfl rfl rfl rfl ?_
  refine .a rfl rfl rfl rfl ?_
  refine .nil ?_
  refine W.ret ?_
  cases h
  exact leaves (.inr rfl) rfl (.tup _ _ _ _ (cC (.imm _) (cC (.imm _) .nil))) (cN (cN .nil)) rfl rfl
 ·have h := ifF q3 h
  refine W.skip ?_
  refine W.seq ?_
  obtain ⟨t4, b5, h⟩ := bnd1 h
  refine W.pk ?_
  refine .v rfl rfl (O.fld fld24_5 rfl rfl rfl) ?_
  refine .v rfl rfl (O.ld (y := .i x0.Amount) ty3 rfl rfl rfl) ?_
  refine .m rfl rfl rfl rfl ?_
  refine .call (.tup [.i t4.1, .i t4.2]) [] 0 (lombardref01_Plus.ok b5) rfl rfl rfl ca47 rfl rfl (cC (.imm _) (cC (.imm _) .nil)) rfl rfl rfl rfl rfl ?_
  refine .v rfl rfl (OpL.extract rfl rfl rfl) ?_
  refine .v rfl rfl (OpL.extract rfl rfl rfl) ?_
  refine .a rfl rfl rfl rfl ?_
  refine .a rfl rfl rfl rfl ?_
  refine .nil ?_
  refine W.ret ?_
  cases h
  exact leaves (.inr rfl) rfl (.tup _ _ _ _ (cC (.imm _) (cC (.imm _) .nil))) (cN (cN .nil)) rfl rfl

noncomputable def life_Owed.f (x0 : api_Trade) (x1 : Int) : Option (Int × Int) :=
  (life_Interest.f x0 x1).bind fun t1 =>
  if (t1.2 != 0) = true then
    some (0, t1.2)
  else
    (fixnum_Plus.f x0.Amount t1.1).bind fun t4 =>
    some (t4.1, t4.2)
set_option maxRecDepth 100000 in
set_option maxHeartbeats 4000000 in
theorem life_Owed.ok {x0 : api_Trade} {x1 : Int} {r : Int × Int} (h : life_Owed.f x0 x1 = some r) : Pm.Spec prog 14 [.agg [.imm (.val (.int .i64 x0.ID)), .imm (.val (.int .i64 x0.Twin)), .imm (.val (.int .i64 x0.Member)), .imm (.val (.int .i64 x0.Side)), .imm (.val (.int .i64 x0.Basket)), .imm (.val (.int .i64 x0.Amount)), .imm (.val (.int .i64 x0.Start)), .imm (.val (.int .i64 x0.End)), .imm (.row 2 (List.map api_Reset.enc x0.Resets)), .imm (.val (.int .i64 x0.Stage)), .imm (.val (.bool x0.Short))], .imm (.val (.int .i64 x1))] (.tup [.imm (.val (.int .i64 r.1)), .imm (.val (.int .i64 r.2))]) [none, none] := by
 unfold life_Owed.f at h
 refine Pm.Spec.of_body Try.func14 rfl (by kernel_rfl) (Nat.le_of_ble_eq_true rfl) (Nat.le_of_ble_eq_true rfl) ?_
 refine W.ghost (σ' := (mkSt [(0, some (.agg (api_Trade.av x0))), (1, some (.i x1))] [] 1000)) (Gives.entry (.c rfl (.c rfl .n)) .n) ?_
 refine W.seq ?_
 refine W.pk ?_
 refine .t rfl rfl (O.box rfl rfl rfl rfl rfl) ?_
 refine .a rfl rfl rfl rfl ?_
 refine .a rfl rfl rfl rfl ?_
 refine .nil ?_
 refine W.seq ?_
 obtain ⟨t1, b2, h⟩ := bnd1 h
 refine W.pk ?_
 refine .v rfl rfl (O.ldN ty24 rfl rfl rfl) ?_
 refine .m rfl rfl rfl rfl ?_
 refine .call (.tup [.i t1.1, .i t1.2]) [] 0 (life_Interest.ok b2) rfl rfl rfl ca11 rfl rfl (cC (.agg _ _ _ _ (cC (.imm _) (cC (.imm _) (cC (.imm _) (cC (.imm _) (cC (.imm _) (cC (.imm _) (cC (.imm _) (cC (.imm _) (cC (.imm _) (cC (.imm _) (cC (.imm _) .nil)))))))))))) (cC (.imm _) .nil)) rfl rfl rfl rfl rfl ?_
 refine .m rfl rfl rfl rfl ?_
 refine .v rfl rfl (OpL.extract rfl rfl rfl) ?_
 refine .v rfl rfl (OpL.extract rfl rfl rfl) ?_
 refine .a rfl rfl rfl rfl ?_
 refine .a rfl rfl rfl rfl ?_
 refine .nil ?_
 refine W.seq ?_
 refine W.seq ?_
 refine W.pk ?_
 refine .m rfl rfl rfl rfl ?_
 refine .v rfl rfl (OpL.binI rfl rfl rfl rfl) ?_
 refine .nil ?_
 refine W.cond rfl (fun q3 => ?_) (fun q3 => ?_)
 ·have h := ifT q3 h
  refine W.seq ?_
  refine W.pk ?_
  refine .m rfl rfl rfl rfl ?_
  refine .a rfl rfl rfl rfl ?_
  refine .a rfl rfl rfl rfl ?_
  refine .nil ?_
  refine W.ret ?_
  cases h
  exact leaves (.inr rfl) rfl (.tup _ _ _ _ (cC (.imm _) (cC (.imm _) .nil))) (cN (cN .nil)) rfl rfl
 ·have h := ifF q3 h
  refine W.skip ?_
  refine W.seq ?_
  obtain ⟨t4, b5, h⟩ := bnd1 h
  refine W.pk ?_
  refine .v rfl rfl (O.fld fld24_5 rfl rfl rfl) ?_
  refine .v rfl rfl (O.ld (y := .i x0.Amount) ty3 rfl rfl rfl) ?_
  refine .m rfl rfl rfl rfl ?_
  refine .call (.tup [.i t4.1, .i t4.2]) [] 0 (fixnum_Plus.ok b5) rfl rfl rfl ca46 rfl rfl (cC (.imm _) (cC (.imm _) .nil)) rfl rfl rfl rfl rfl ?_
  refine .v rfl rfl (OpL.extract rfl rfl rfl) ?_
  refine .v rfl rfl (OpL.extract rfl rfl rfl) ?_
  refine .a rfl rfl rfl rfl ?_
  refine .a rfl rfl rfl rfl ?_
  refine .nil ?_
  refine W.ret ?_
  cases h
  exact leaves (.inr rfl) rfl (.tup _ _ _ _ (cC (.imm _) (cC (.imm _) .nil))) (cN (cN .nil)) rfl rfl
end Go.Proofs.Ytknfdnlhadjbaaa
