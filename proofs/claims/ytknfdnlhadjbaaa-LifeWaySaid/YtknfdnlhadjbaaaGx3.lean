/- Shows what functions of the program come to, each as a plain function: written by a program of the author's for this claim. -/
import Derived.Test.YtknfdnlhadjbaaaGx2
namespace Go.Proofs.Ytknfdnlhadjbaaa
open Go Go.Pm
set_option linter.unusedVariables false
set_option linter.unusedSimpArgs false
noncomputable def fixnum_MulDiv.f (x0 : Int) (x1 : Int) (x2 : Int) (x3 : Int) : Option (Int × Int) :=
  if (((x2 == 0) || (decide (x3 < 1))) || (decide (x3 > 4))) = true then
    some (0, 1)
  else
    (fixnum_size.f x0).bind fun t4 =>
    (fixnum_size.f x1).bind fun t6 =>
    (fixnum_size.f x2).bind fun t8 =>
    (fixnum_Mul.f t4.1 t6.1).bind fun t10 =>
    (fixnum_Wide_Div.f t10 t8.1).bind fun t12 =>
    if (decide (t12.1.Hi > 0)) = true then
      some (0, 9)
    else
      (fixnum_up.f t12.1.Lo t12.2 t8.1 (!((!(t4.2 == t6.2)) == t8.2)) x3).bind fun t15 =>
      ((
        if t15 = true then
          if ((IntKind.wrap .u64 (t12.1.Lo + 1)) == 0) = true then
            some (.inl (0, 9))
          else
            some (.inr (IntKind.wrap .u64 (t12.1.Lo + 1)))
        else
          some (.inr t12.1.Lo) : Option ((Int × Int) ⊕ Int))).bind fun o20 =>
      match o20 with
      | .inl r28 => some r28
      | .inr w22 =>
        (fixnum_signed.f w22 (!((!(t4.2 == t6.2)) == t8.2))).bind fun t26 =>
        some (t26.1, t26.2)
set_option maxRecDepth 100000 in
set_option maxHeartbeats 4000000 in
theorem fixnum_MulDiv.ok {x0 : Int} {x1 : Int} {x2 : Int} {x3 : Int} {r : Int × Int} (h : fixnum_MulDiv.f x0 x1 x2 x3 = some r) : Pm.Spec prog 71 [.imm (.val (.int .i64 x0)), .imm (.val (.int .i64 x1)), .imm (.val (.int .i64 x2)), .imm (.val (.int .i64 x3))] (.tup [.imm (.val (.int .i64 r.1)), .imm (.val (.int .i64 r.2))]) [none, none, none, none] := by
 unfold fixnum_MulDiv.f at h
 refine Pm.Spec.of_body Try.func71 rfl (by kernel_rfl) (Nat.le_of_ble_eq_true rfl) (Nat.le_of_ble_eq_true rfl) ?_
 refine W.ghost (σ' := (mkSt [(0, some (.i x0)), (1, some (.i x1)), (2, some (.i x2)), (3, some (.i x3))] [] 1000)) (Gives.entry (.c rfl (.c rfl (.c rfl (.c rfl .n)))) .n) ?_
 refine W.seq ?_
 refine W.pk ?_
 refine .a rfl rfl rfl rfl ?_
 refine .a rfl rfl rfl rfl ?_
 refine .nil ?_
 refine W.seq ?_
 refine W.seq ?_
 refine W.fork (mkSt [(0, some (.i x0)), (1, some (.i x1)), (2, some (.i x2)), (3, some (.i x3)), (28, some (.b (((x2 == 0) || (decide (x3 < 1))) || (decide (x3 > 4)))))] [] 1000) ?_ ?_
 ·refine W.cond rfl (fun q3 => ?_) (fun q3 => ?_)
  ·have h := ifT q3 h
   refine W.seq ?_
   refine W.pk ?_
   refine .a rfl rfl rfl rfl ?_
   refine .a rfl rfl rfl rfl ?_
   refine .nil ?_
   refine W.ret ?_
   cases h
   exact leaves (.inr rfl) rfl (.tup _ _ _ _ (cC (.imm _) (cC (.imm _) .nil))) (cN (cN (cN (cN .nil)))) rfl rfl
  ·have h := ifF q3 h
   refine W.skip ?_
   refine W.seq ?_
   obtain ⟨t4, b5, h⟩ := bnd1 h
   refine W.pk ?_
   refine .m rfl rfl rfl rfl ?_
   refine .call (.tup [.imm (.val (.int .u64 t4.1)), .b t4.2]) [] 0 (fixnum_size.ok b5) rfl rfl rfl ca76 rfl rfl (cC (.imm _) .nil) rfl rfl rfl rfl rfl ?_
   refine .m rfl rfl rfl rfl ?_
   refine .v rfl rfl (OpL.extract rfl rfl rfl) ?_
   refine .v rfl rfl (OpL.extract rfl rfl rfl) ?_
   refine .a rfl rfl rfl rfl ?_
   refine .a rfl rfl rfl rfl ?_
   refine .nil ?_
   refine W.seq ?_
   obtain ⟨t6, b7, h⟩ := bnd1 h
   refine W.pk ?_
   refine .m rfl rfl rfl rfl ?_
   refine .call (.tup [.imm (.val (.int .u64 t6.1)), .b t6.2]) [] 0 (fixnum_size.ok b7) rfl rfl rfl ca76 rfl rfl (cC (.imm _) .nil) rfl rfl rfl rfl rfl ?_
   refine .m rfl rfl rfl rfl ?_
   refine .v rfl rfl (OpL.extract rfl rfl rfl) ?_
   refine .v rfl rfl (OpL.extract rfl rfl rfl) ?_
   refine .a rfl rfl rfl rfl ?_
   refine .a rfl rfl rfl rfl ?_
   refine .nil ?_
   refine W.seq ?_
   obtain ⟨t8, b9, h⟩ := bnd1 h
   refine W.pk ?_
   refine .m rfl rfl rfl rfl ?_
   refine .call (.tup [.imm (.val (.int .u64 t8.1)), .b t8.2]) [] 0 (fixnum_size.ok b9) rfl rfl rfl ca76 rfl rfl (cC (.imm _) .nil) rfl rfl rfl rfl rfl ?_
   refine .m rfl rfl rfl rfl ?_
   refine .v rfl rfl (OpL.extract rfl rfl rfl) ?_
   refine .v rfl rfl (OpL.extract rfl rfl rfl) ?_
   refine .a rfl rfl rfl rfl ?_
   refine .a rfl rfl rfl rfl ?_
   refine .nil ?_
   refine W.seq ?_
   refine W.pk ?_
   refine .m rfl rfl rfl rfl ?_
   refine .m rfl rfl rfl rfl ?_
   refine .v rfl rfl (OpL.neB rfl u4 rfl rfl) ?_
   refine .m rfl rfl rfl rfl ?_
   refine .v rfl rfl (OpL.neB rfl u4 rfl rfl) ?_
   refine .a rfl rfl rfl rfl ?_
   refine .nil ?_
   refine W.seq ?_
   obtain ⟨t10, b11, h⟩ := bnd1 h
   obtain ⟨t12, b13, h⟩ := bnd1 h
   refine W.pk ?_
   refine .m rfl rfl rfl rfl ?_
   refine .m rfl rfl rfl rfl ?_
   refine .call (.agg [.imm (.val (.int .u64 t10.Hi)), .imm (.val (.int .u64 t10.Lo))]) [] 0 (fixnum_Mul.ok b11) rfl rfl rfl ca72 rfl rfl (cC (.imm _) (cC (.imm _) .nil)) rfl rfl rfl rfl rfl ?_
   refine .m rfl rfl rfl rfl ?_
   refine .call (.tup [.agg [.imm (.val (.int .u64 t12.1.Hi)), .imm (.val (.int .u64 t12.1.Lo))], .imm (.val (.int .u64 t12.2))]) [] 0 (fixnum_Wide_Div.ok b13) rfl rfl rfl ca73 rfl rfl (cC (.agg _ _ _ _ (cC (.imm _) (cC (.imm _) .nil))) (cC (.imm _) .nil)) rfl rfl rfl rfl rfl ?_
   refine .m rfl rfl rfl rfl ?_
   refine .v rfl rfl (OpL.extract rfl rfl rfl) ?_
   refine .v rfl rfl (OpL.extract rfl rfl rfl) ?_
   refine .t rfl rfl (O.alloc z96 rfl) ?_
   refine .s rfl rfl (O.st ty96 rfl rfl rfl rfl rfl rfl rfl rfl rfl rfl (all' := [.imm (.val (.int .u64 t12.1.Hi)), .imm (.val (.int .u64 t12.1.Lo))]) rfl) ?_
   refine .a rfl rfl rfl rfl ?_
   refine .nil ?_
   refine W.seq ?_
   refine W.seq ?_
   refine W.pk ?_
   refine .v rfl rfl (O.fld fld96_0 rfl rfl rfl) ?_
   refine .v rfl rfl (O.ld (y := .imm (.val (.int .u64 t12.1.Hi))) ty88 rfl rfl rfl) ?_
   refine .v rfl rfl (OpL.binI rfl rfl rfl rfl) ?_
   refine .nil ?_
   refine W.cond rfl (fun q14 => ?_) (fun q14 => ?_)
   ·have h := ifT q14 h
    refine W.seq ?_
    refine W.pk ?_
    refine .a rfl rfl rfl rfl ?_
    refine .a rfl rfl rfl rfl ?_
    refine .nil ?_
    refine W.ret ?_
    cases h
    exact leaves (.inr rfl) rfl (.tup _ _ _ _ (cC (.imm _) (cC (.imm _) .nil))) (cN (cN (cN (cN .nil)))) rfl rfl
   ·have h := ifF q14 h
    refine W.skip ?_
    refine W.seq ?_
    refine W.seq ?_
    obtain ⟨t15, b16, h⟩ := bnd1 h
    refine W.pk ?_
    refine .v rfl rfl (O.fld fld96_1 rfl rfl rfl) ?_
    refine .v rfl rfl (O.ld (y := .imm (.val (.int .u64 t12.1.Lo))) ty88 rfl rfl rfl) ?_
    refine .m rfl rfl rfl rfl ?_
    refine .m rfl rfl rfl rfl ?_
    refine .m rfl rfl rfl rfl ?_
    refine .m rfl rfl rfl rfl ?_
    refine .call (.b t15) [] 0 (fixnum_up.ok b16) rfl rfl rfl ca77 rfl rfl (cC (.imm _) (cC (.imm _) (cC (.imm _) (cC (.imm _) (cC (.imm _) .nil))))) rfl rfl rfl rfl rfl ?_
    refine .nil ?_
    obtain ⟨o20, b21, z23⟩ := bnd1 h
    refine W.fork2 (out := o20) (fun (w22 : Int) => mkSt [(16, some (.b (!((!(t4.2 == t6.2)) == t8.2)))), (17, some (.ptr 1000 0))] [(1000, some (.box [.imm (.val (.int .u64 t12.1.Hi)), .imm (.val (.int .u64 w22))]))] 1001) ?_ ?_
    ·clear h
     have h := b21
     refine W.cond rfl (fun q24 => ?_) (fun q24 => ?_)
     ·have h := ifT q24 h
      refine W.seq ?_
      refine W.pk ?_
      refine .v rfl rfl (O.fld fld96_1 rfl rfl rfl) ?_
      refine .v rfl rfl (O.ld (y := .imm (.val (.int .u64 t12.1.Lo))) ty88 rfl rfl rfl) ?_
      refine .v rfl rfl (OpL.binI rfl rfl rfl rfl) ?_
      refine .v rfl rfl (O.fld fld96_1 rfl rfl rfl) ?_
      refine .s rfl rfl (O.st ty88 rfl rfl rfl rfl rfl rfl rfl rfl rfl rfl (all' := [.imm (.val (.int .u64 t12.1.Hi)), .imm (.val (.int .u64 (IntKind.wrap .u64 (t12.1.Lo + 1))))]) rfl) ?_
      refine .nil ?_
      refine W.seq ?_
      refine W.pk ?_
      refine .v rfl rfl (O.fld fld96_1 rfl rfl rfl) ?_
      refine .v rfl rfl (O.ld (y := .imm (.val (.int .u64 (IntKind.wrap .u64 (t12.1.Lo + 1))))) ty88 rfl rfl rfl) ?_
      refine .v rfl rfl (OpL.binI rfl rfl rfl rfl) ?_
      refine .nil ?_
      refine W.cond rfl (fun q25 => ?_) (fun q25 => ?_)
      ·have h := ifT q25 h
       refine W.seq ?_
       refine W.pk ?_
       refine .a rfl rfl rfl rfl ?_
       refine .a rfl rfl rfl rfl ?_
       refine .nil ?_
       refine W.ret ?_
       cases h
       have h := z23
       dsimp only at h
       refine fkR ?_
       cases h
       exact leaves (.inr rfl) rfl (.tup _ _ _ _ (cC (.imm _) (cC (.imm _) .nil))) (cN (cN (cN (cN .nil)))) rfl rfl
      ·have h := ifF q25 h
       refine W.skip ?_
       cases h
       exact fkN (Gives.mkR [] (.r rfl rfl (.r rfl rfl .n)) (.r rfl rfl rfl .n) rfl rfl rfl)
     ·have h := ifF q24 h
      refine W.skip ?_
      cases h
      exact fkN (Gives.mkR [] (.r rfl rfl (.r rfl rfl .n)) (.r rfl rfl rfl .n) rfl rfl rfl)
    ·intro w22 e_
     subst e_
     clear h
     have h := z23
     dsimp only at h
     refine W.seq ?_
     obtain ⟨t26, b27, h⟩ := bnd1 h
     refine W.pk ?_
     refine .v rfl rfl (O.fld fld96_1 rfl rfl rfl) ?_
     refine .v rfl rfl (O.ld (y := .imm (.val (.int .u64 w22))) ty88 rfl rfl rfl) ?_
     refine .m rfl rfl rfl rfl ?_
     refine .call (.tup [.i t26.1, .i t26.2]) [] 0 (fixnum_signed.ok b27) rfl rfl rfl ca78 rfl rfl (cC (.imm _) (cC (.imm _) .nil)) rfl rfl rfl rfl rfl ?_
     refine .v rfl rfl (OpL.extract rfl rfl rfl) ?_
     refine .v rfl rfl (OpL.extract rfl rfl rfl) ?_
     refine .a rfl rfl rfl rfl ?_
     refine .a rfl rfl rfl rfl ?_
     refine .nil ?_
     refine W.ret ?_
     cases h
     exact leaves (.inr rfl) rfl (.tup _ _ _ _ (cC (.imm _) (cC (.imm _) .nil))) (cN (cN (cN (cN .nil)))) rfl rfl
 ·clear h
  rcases tf (x2 == 0) with g1 | g1
  ·refine W.pk ?_
   refine .m rfl rfl rfl rfl ?_
   refine .v rfl rfl (OpL.binI rfl rfl rfl rfl) ?_
   refine .m rfl rfl rfl rfl ?_
   refine .x rfl (unmet rfl rfl rfl g1) ?_
   refine .x rfl (unmet rfl rfl rfl g1) ?_
   refine .v rfl rfl (O.pickT g1 rfl rfl rfl) ?_
   refine .m rfl rfl rfl rfl ?_
   refine .x rfl (unmet rfl rfl rfl rfl) ?_
   refine .x rfl (unmet rfl rfl rfl rfl) ?_
   refine .v rfl rfl (O.pickT rfl rfl rfl rfl) ?_
   refine .nil ?_
   exact toN (Gives.mkR [] (.r rfl rfl (.r rfl rfl (.r rfl rfl (.r rfl rfl (.c rfl (sbb (by simp only [g1, Bool.true_or, Bool.or_true, Bool.false_or, Bool.or_false, Bool.true_and, Bool.and_true, Bool.false_and, Bool.and_false, Bool.not_true, Bool.not_false, cond_true, cond_false])) rfl .n))))) .n rfl rfl rfl)
  ·rcases tf (decide (x3 < 1)) with g2 | g2
   ·refine W.pk ?_
    refine .m rfl rfl rfl rfl ?_
    refine .v rfl rfl (OpL.binI rfl rfl rfl rfl) ?_
    refine .m rfl rfl rfl rfl ?_
    refine .m rfl (met rfl rfl rfl g1) rfl rfl ?_
    refine .v rfl (met rfl rfl rfl g1) (OpL.binI rfl rfl rfl rfl) ?_
    refine .v rfl rfl (O.pickF g1 rfl rfl rfl) ?_
    refine .m rfl rfl rfl rfl ?_
    refine .x rfl (unmet rfl rfl rfl g2) ?_
    refine .x rfl (unmet rfl rfl rfl g2) ?_
    refine .v rfl rfl (O.pickT g2 rfl rfl rfl) ?_
    refine .nil ?_
    exact toN (Gives.mkR [] (.r rfl rfl (.r rfl rfl (.r rfl rfl (.r rfl rfl (.c rfl (sbb (by first | (simp only [g1, g2, Bool.true_or, Bool.or_true, Bool.false_or, Bool.or_false, Bool.true_and, Bool.and_true, Bool.false_and, Bool.and_false, Bool.not_true, Bool.not_false, cond_true, cond_false]; done) | (repeat (first | rw [g1] | rw [g2])) <;> simp only [Bool.true_or, Bool.or_true, Bool.false_or, Bool.or_false, Bool.true_and, Bool.and_true, Bool.false_and, Bool.and_false, Bool.not_true, Bool.not_false, cond_true, cond_false])) rfl .n))))) .n rfl rfl rfl)
   ·refine W.pk ?_
    refine .m rfl rfl rfl rfl ?_
    refine .v rfl rfl (OpL.binI rfl rfl rfl rfl) ?_
    refine .m rfl rfl rfl rfl ?_
    refine .m rfl (met rfl rfl rfl g1) rfl rfl ?_
    refine .v rfl (met rfl rfl rfl g1) (OpL.binI rfl rfl rfl rfl) ?_
    refine .v rfl rfl (O.pickF g1 rfl rfl rfl) ?_
    refine .m rfl rfl rfl rfl ?_
    refine .m rfl (met rfl rfl rfl g2) rfl rfl ?_
    refine .v rfl (met rfl rfl rfl g2) (OpL.binI rfl rfl rfl rfl) ?_
    refine .v rfl rfl (O.pickF g2 rfl rfl rfl) ?_
    refine .nil ?_
    exact toN (Gives.mkR [] (.r rfl rfl (.r rfl rfl (.r rfl rfl (.r rfl rfl (.c rfl (sbb (by first | (simp only [g1, g2, Bool.true_or, Bool.or_true, Bool.false_or, Bool.or_false, Bool.true_and, Bool.and_true, Bool.false_and, Bool.and_false, Bool.not_true, Bool.not_false, cond_true, cond_false]; done) | (repeat (first | rw [g1] | rw [g2])) <;> simp only [Bool.true_or, Bool.or_true, Bool.false_or, Bool.or_false, Bool.true_and, Bool.and_true, Bool.false_and, Bool.and_false, Bool.not_true, Bool.not_false, cond_true, cond_false])) rfl .n))))) .n rfl rfl rfl)

noncomputable def fixnum_Plus.f (x0 : Int) (x1 : Int) : Option (Int × Int) :=
  if ((((decide (x0 > 0)) && (decide (x1 > 0))) && (decide ((IntKind.wrap .i64 (x0 + x1)) < 0))) || (((decide (x0 < 0)) && (decide (x1 < 0))) && (decide ((IntKind.wrap .i64 (x0 + x1)) ≥ 0)))) = true then
    some (0, 9)
  else
    some ((IntKind.wrap .i64 (x0 + x1)), 0)
set_option maxRecDepth 100000 in
set_option maxHeartbeats 4000000 in
theorem fixnum_Plus.ok {x0 : Int} {x1 : Int} {r : Int × Int} (h : fixnum_Plus.f x0 x1 = some r) : Pm.Spec prog 46 [.imm (.val (.int .i64 x0)), .imm (.val (.int .i64 x1))] (.tup [.imm (.val (.int .i64 r.1)), .imm (.val (.int .i64 r.2))]) [none, none] := by
 unfold fixnum_Plus.f at h
 refine Pm.Spec.of_body Try.func46 rfl (by kernel_rfl) (Nat.le_of_ble_eq_true rfl) (Nat.le_of_ble_eq_true rfl) ?_
 refine W.ghost (σ' := (mkSt [(0, some (.i x0)), (1, some (.i x1))] [] 1000)) (Gives.entry (.c rfl (.c rfl .n)) .n) ?_
 refine W.seq ?_
 refine W.pk ?_
 refine .a rfl rfl rfl rfl ?_
 refine .a rfl rfl rfl rfl ?_
 refine .nil ?_
 refine W.seq ?_
 refine W.pk ?_
 refine .m rfl rfl rfl rfl ?_
 refine .m rfl rfl rfl rfl ?_
 refine .v rfl rfl (OpL.binI rfl rfl rfl rfl) ?_
 refine .a rfl rfl rfl rfl ?_
 refine .nil ?_
 refine W.seq ?_
 refine W.seq ?_
 refine W.fork (mkSt [(6, some (.i (IntKind.wrap .i64 (x0 + x1)))), (31, some (.b ((((decide (x0 > 0)) && (decide (x1 > 0))) && (decide ((IntKind.wrap .i64 (x0 + x1)) < 0))) || (((decide (x0 < 0)) && (decide (x1 < 0))) && (decide ((IntKind.wrap .i64 (x0 + x1)) ≥ 0))))))] [] 1000) ?_ ?_
 ·refine W.cond rfl (fun q10 => ?_) (fun q10 => ?_)
  ·have h := ifT q10 h
   refine W.seq ?_
   refine W.pk ?_
   refine .a rfl rfl rfl rfl ?_
   refine .a rfl rfl rfl rfl ?_
   refine .nil ?_
   refine W.ret ?_
   cases h
   exact leaves (.inr rfl) rfl (.tup _ _ _ _ (cC (.imm _) (cC (.imm _) .nil))) (cN (cN .nil)) rfl rfl
  ·have h := ifF q10 h
   refine W.skip ?_
   refine W.seq ?_
   refine W.pk ?_
   refine .m rfl rfl rfl rfl ?_
   refine .a rfl rfl rfl rfl ?_
   refine .a rfl rfl rfl rfl ?_
   refine .nil ?_
   refine W.ret ?_
   cases h
   exact leaves (.inr rfl) rfl (.tup _ _ _ _ (cC (.imm _) (cC (.imm _) .nil))) (cN (cN .nil)) rfl rfl
 ·clear h
  rcases tf (decide (x0 > 0)) with g1 | g1
  ·rcases tf (decide (x1 > 0)) with g2 | g2
   ·rcases tf (decide ((IntKind.wrap .i64 (x0 + x1)) < 0)) with g3 | g3
    ·refine W.pk ?_
     refine .m rfl rfl rfl rfl ?_
     refine .v rfl rfl (OpL.binI rfl rfl rfl rfl) ?_
     refine .m rfl rfl rfl rfl ?_
     refine .m rfl (met rfl rfl rfl g1) rfl rfl ?_
     refine .v rfl (met rfl rfl rfl g1) (OpL.binI rfl rfl rfl rfl) ?_
     refine .v rfl rfl (O.pickT g1 rfl rfl rfl) ?_
     refine .m rfl rfl rfl rfl ?_
     refine .m rfl (met rfl rfl rfl g2) rfl rfl ?_
     refine .v rfl (met rfl rfl rfl g2) (OpL.binI rfl rfl rfl rfl) ?_
     refine .v rfl rfl (O.pickT g2 rfl rfl rfl) ?_
     refine .m rfl rfl rfl rfl ?_
     refine .x rfl (unmet rfl rfl rfl g3) ?_
     refine .x rfl (unmet rfl rfl rfl g3) ?_
     refine .x rfl (unmet rfl rfl rfl g3) ?_
     refine .x rfl (unmetU rfl rfl rfl) ?_
     refine .x rfl (unmetU rfl rfl rfl) ?_
     refine .x rfl (unmet rfl rfl rfl g3) ?_
     refine .x rfl (unmet rfl rfl rfl g3) ?_
     refine .x rfl (unmetU rfl rfl rfl) ?_
     refine .x rfl (unmetU rfl rfl rfl) ?_
     refine .x rfl (unmet rfl rfl rfl g3) ?_
     refine .v rfl rfl (O.pickT g3 rfl rfl rfl) ?_
     refine .nil ?_
     exact toN (Gives.mkR [] (.r rfl rfl (.c rfl (sbb (by first | (simp only [g1, g2, g3, Bool.true_or, Bool.or_true, Bool.false_or, Bool.or_false, Bool.true_and, Bool.and_true, Bool.false_and, Bool.and_false, Bool.not_true, Bool.not_false, cond_true, cond_false]; done) | (repeat (first | rw [g1] | rw [g2] | rw [g3])) <;> simp only [Bool.true_or, Bool.or_true, Bool.false_or, Bool.or_false, Bool.true_and, Bool.and_true, Bool.false_and, Bool.and_false, Bool.not_true, Bool.not_false, cond_true, cond_false])) rfl .n)) .n rfl rfl rfl)
    ·rcases tf (decide (x0 < 0)) with g4 | g4
     ·rcases tf (decide (x1 < 0)) with g5 | g5
      ·refine W.pk ?_
       refine .m rfl rfl rfl rfl ?_
       refine .v rfl rfl (OpL.binI rfl rfl rfl rfl) ?_
       refine .m rfl rfl rfl rfl ?_
       refine .m rfl (met rfl rfl rfl g1) rfl rfl ?_
       refine .v rfl (met rfl rfl rfl g1) (OpL.binI rfl rfl rfl rfl) ?_
       refine .v rfl rfl (O.pickT g1 rfl rfl rfl) ?_
       refine .m rfl rfl rfl rfl ?_
       refine .m rfl (met rfl rfl rfl g2) rfl rfl ?_
       refine .v rfl (met rfl rfl rfl g2) (OpL.binI rfl rfl rfl rfl) ?_
       refine .v rfl rfl (O.pickT g2 rfl rfl rfl) ?_
       refine .m rfl rfl rfl rfl ?_
       refine .m rfl (met rfl rfl rfl g3) rfl rfl ?_
       refine .v rfl (met rfl rfl rfl g3) (OpL.binI rfl rfl rfl rfl) ?_
       refine .m rfl (met rfl rfl rfl g3) rfl rfl ?_
       refine .m rfl (met rfl rfl rfl g4) rfl rfl ?_
       refine .v rfl (met rfl rfl rfl g4) (OpL.binI rfl rfl rfl rfl) ?_
       refine .v rfl (met rfl rfl rfl g3) (O.pickT g4 rfl rfl rfl) ?_
       refine .m rfl (met rfl rfl rfl g3) rfl rfl ?_
       refine .m rfl (met rfl rfl rfl g5) rfl rfl ?_
       refine .v rfl (met rfl rfl rfl g5) (OpL.binI rfl rfl rfl rfl) ?_
       refine .v rfl (met rfl rfl rfl g3) (O.pickT g5 rfl rfl rfl) ?_
       refine .v rfl rfl (O.pickF g3 rfl rfl rfl) ?_
       refine .nil ?_
       exact toN (Gives.mkR [] (.r rfl rfl (.c rfl (sbb (by first | (simp only [g1, g2, g3, g4, g5, Bool.true_or, Bool.or_true, Bool.false_or, Bool.or_false, Bool.true_and, Bool.and_true, Bool.false_and, Bool.and_false, Bool.not_true, Bool.not_false, cond_true, cond_false]; done) | (repeat (first | rw [g1] | rw [g2] | rw [g3] | rw [g4] | rw [g5])) <;> simp only [Bool.true_or, Bool.or_true, Bool.false_or, Bool.or_false, Bool.true_and, Bool.and_true, Bool.false_and, Bool.and_false, Bool.not_true, Bool.not_false, cond_true, cond_false])) rfl .n)) .n rfl rfl rfl)
      ·refine W.pk ?_
       refine .m rfl rfl rfl rfl ?_
       refine .v rfl rfl (OpL.binI rfl rfl rfl rfl) ?_
       refine .m rfl rfl rfl rfl ?_
       refine .m rfl (met rfl rfl rfl g1) rfl rfl ?_
       refine .v rfl (met rfl rfl rfl g1) (OpL.binI rfl rfl rfl rfl) ?_
       refine .v rfl rfl (O.pickT g1 rfl rfl rfl) ?_
       refine .m rfl rfl rfl rfl ?_
       refine .m rfl (met rfl rfl rfl g2) rfl rfl ?_
       refine .v rfl (met rfl rfl rfl g2) (OpL.binI rfl rfl rfl rfl) ?_
       refine .v rfl rfl (O.pickT g2 rfl rfl rfl) ?_
       refine .m rfl rfl rfl rfl ?_
       refine .m rfl (met rfl rfl rfl g3) rfl rfl ?_
       refine .v rfl (met rfl rfl rfl g3) (OpL.binI rfl rfl rfl rfl) ?_
       refine .m rfl (met rfl rfl rfl g3) rfl rfl ?_
       refine .m rfl (met rfl rfl rfl g4) rfl rfl ?_
       refine .v rfl (met rfl rfl rfl g4) (OpL.binI rfl rfl rfl rfl) ?_
       refine .v rfl (met rfl rfl rfl g3) (O.pickT g4 rfl rfl rfl) ?_
       refine .m rfl (met rfl rfl rfl g3) rfl rfl ?_
       refine .x rfl (unmet rfl rfl rfl g5) ?_
       refine .x rfl (unmet rfl rfl rfl g5) ?_
       refine .v rfl (met rfl rfl rfl g3) (O.pickF g5 rfl rfl rfl) ?_
       refine .v rfl rfl (O.pickF g3 rfl rfl rfl) ?_
       refine .nil ?_
       exact toN (Gives.mkR [] (.r rfl rfl (.c rfl (sbb (by first | (simp only [g1, g2, g3, g4, g5, Bool.true_or, Bool.or_true, Bool.false_or, Bool.or_false, Bool.true_and, Bool.and_true, Bool.false_and, Bool.and_false, Bool.not_true, Bool.not_false, cond_true, cond_false]; done) | (repeat (first | rw [g1] | rw [g2] | rw [g3] | rw [g4] | rw [g5])) <;> simp only [Bool.true_or, Bool.or_true, Bool.false_or, Bool.or_false, Bool.true_and, Bool.and_true, Bool.false_and, Bool.and_false, Bool.not_true, Bool.not_false, cond_true, cond_false])) rfl .n)) .n rfl rfl rfl)
     ·refine W.pk ?_
      refine .m rfl rfl rfl rfl ?_
      refine .v rfl rfl (OpL.binI rfl rfl rfl rfl) ?_
      refine .m rfl rfl rfl rfl ?_
      refine .m rfl (met rfl rfl rfl g1) rfl rfl ?_
      refine .v rfl (met rfl rfl rfl g1) (OpL.binI rfl rfl rfl rfl) ?_
      refine .v rfl rfl (O.pickT g1 rfl rfl rfl) ?_
      refine .m rfl rfl rfl rfl ?_
      refine .m rfl (met rfl rfl rfl g2) rfl rfl ?_
      refine .v rfl (met rfl rfl rfl g2) (OpL.binI rfl rfl rfl rfl) ?_
      refine .v rfl rfl (O.pickT g2 rfl rfl rfl) ?_
      refine .m rfl rfl rfl rfl ?_
      refine .m rfl (met rfl rfl rfl g3) rfl rfl ?_
      refine .v rfl (met rfl rfl rfl g3) (OpL.binI rfl rfl rfl rfl) ?_
      refine .m rfl (met rfl rfl rfl g3) rfl rfl ?_
      refine .x rfl (unmet rfl rfl rfl g4) ?_
      refine .x rfl (unmet rfl rfl rfl g4) ?_
      refine .v rfl (met rfl rfl rfl g3) (O.pickF g4 rfl rfl rfl) ?_
      refine .m rfl (met rfl rfl rfl g3) rfl rfl ?_
      refine .x rfl (unmet rfl rfl rfl rfl) ?_
      refine .x rfl (unmet rfl rfl rfl rfl) ?_
      refine .v rfl (met rfl rfl rfl g3) (O.pickF rfl rfl rfl rfl) ?_
      refine .v rfl rfl (O.pickF g3 rfl rfl rfl) ?_
      refine .nil ?_
      exact toN (Gives.mkR [] (.r rfl rfl (.c rfl (sbb (by first | (simp only [g1, g2, g3, g4, Bool.true_or, Bool.or_true, Bool.false_or, Bool.or_false, Bool.true_and, Bool.and_true, Bool.false_and, Bool.and_false, Bool.not_true, Bool.not_false, cond_true, cond_false]; done) | (repeat (first | rw [g1] | rw [g2] | rw [g3] | rw [g4])) <;> simp only [Bool.true_or, Bool.or_true, Bool.false_or, Bool.or_false, Bool.true_and, Bool.and_true, Bool.false_and, Bool.and_false, Bool.not_true, Bool.not_false, cond_true, cond_false])) rfl .n)) .n rfl rfl rfl)
   ·rcases tf (decide (x0 < 0)) with g6 | g6
    ·rcases tf (decide (x1 < 0)) with g7 | g7
     ·refine W.pk ?_
      refine .m rfl rfl rfl rfl ?_
      refine .v rfl rfl (OpL.binI rfl rfl rfl rfl) ?_
      refine .m rfl rfl rfl rfl ?_
      refine .m rfl (met rfl rfl rfl g1) rfl rfl ?_
      refine .v rfl (met rfl rfl rfl g1) (OpL.binI rfl rfl rfl rfl) ?_
      refine .v rfl rfl (O.pickT g1 rfl rfl rfl) ?_
      refine .m rfl rfl rfl rfl ?_
      refine .x rfl (unmet rfl rfl rfl g2) ?_
      refine .x rfl (unmet rfl rfl rfl g2) ?_
      refine .v rfl rfl (O.pickF g2 rfl rfl rfl) ?_
      refine .m rfl rfl rfl rfl ?_
      refine .m rfl (met rfl rfl rfl rfl) rfl rfl ?_
      refine .v rfl (met rfl rfl rfl rfl) (OpL.binI rfl rfl rfl rfl) ?_
      refine .m rfl (met rfl rfl rfl rfl) rfl rfl ?_
      refine .m rfl (met rfl rfl rfl g6) rfl rfl ?_
      refine .v rfl (met rfl rfl rfl g6) (OpL.binI rfl rfl rfl rfl) ?_
      refine .v rfl (met rfl rfl rfl rfl) (O.pickT g6 rfl rfl rfl) ?_
      refine .m rfl (met rfl rfl rfl rfl) rfl rfl ?_
      refine .m rfl (met rfl rfl rfl g7) rfl rfl ?_
      refine .v rfl (met rfl rfl rfl g7) (OpL.binI rfl rfl rfl rfl) ?_
      refine .v rfl (met rfl rfl rfl rfl) (O.pickT g7 rfl rfl rfl) ?_
      refine .v rfl rfl (O.pickF rfl rfl rfl rfl) ?_
      refine .nil ?_
      exact toN (Gives.mkR [] (.r rfl rfl (.c rfl (sbb (by first | (simp only [g1, g2, g6, g7, Bool.true_or, Bool.or_true, Bool.false_or, Bool.or_false, Bool.true_and, Bool.and_true, Bool.false_and, Bool.and_false, Bool.not_true, Bool.not_false, cond_true, cond_false]; done) | (repeat (first | rw [g1] | rw [g2] | rw [g6] | rw [g7])) <;> simp only [Bool.true_or, Bool.or_true, Bool.false_or, Bool.or_false, Bool.true_and, Bool.and_true, Bool.false_and, Bool.and_false, Bool.not_true, Bool.not_false, cond_true, cond_false])) rfl .n)) .n rfl rfl rfl)
     ·refine W.pk ?_
      refine .m rfl rfl rfl rfl ?_
      refine .v rfl rfl (OpL.binI rfl rfl rfl rfl) ?_
      refine .m rfl rfl rfl rfl ?_
      refine .m rfl (met rfl rfl rfl g1) rfl rfl ?_
      refine .v rfl (met rfl rfl rfl g1) (OpL.binI rfl rfl rfl rfl) ?_
      refine .v rfl rfl (O.pickT g1 rfl rfl rfl) ?_
      refine .m rfl rfl rfl rfl ?_
      refine .x rfl (unmet rfl rfl rfl g2) ?_
      refine .x rfl (unmet rfl rfl rfl g2) ?_
      refine .v rfl rfl (O.pickF g2 rfl rfl rfl) ?_
      refine .m rfl rfl rfl rfl ?_
      refine .m rfl (met rfl rfl rfl rfl) rfl rfl ?_
      refine .v rfl (met rfl rfl rfl rfl) (OpL.binI rfl rfl rfl rfl) ?_
      refine .m rfl (met rfl rfl rfl rfl) rfl rfl ?_
      refine .m rfl (met rfl rfl rfl g6) rfl rfl ?_
      refine .v rfl (met rfl rfl rfl g6) (OpL.binI rfl rfl rfl rfl) ?_
      refine .v rfl (met rfl rfl rfl rfl) (O.pickT g6 rfl rfl rfl) ?_
      refine .m rfl (met rfl rfl rfl rfl) rfl rfl ?_
      refine .x rfl (unmet rfl rfl rfl g7) ?_
      refine .x rfl (unmet rfl rfl rfl g7) ?_
      refine .v rfl (met rfl rfl rfl rfl) (O.pickF g7 rfl rfl rfl) ?_
      refine .v rfl rfl (O.pickF rfl rfl rfl rfl) ?_
      refine .nil ?_
      exact toN (Gives.mkR [] (.r rfl rfl (.c rfl (sbb (by first | (simp only [g1, g2, g6, g7, Bool.true_or, Bool.or_true, Bool.false_or, Bool.or_false, Bool.true_and, Bool.and_true, Bool.false_and, Bool.and_false, Bool.not_true, Bool.not_false, cond_true, cond_false]; done) | (repeat (first | rw [g1] | rw [g2] | rw [g6] | rw [g7])) <;> simp only [Bool.true_or, Bool.or_true, Bool.false_or, Bool.or_false, Bool.true_and, Bool.and_true, Bool.false_and, Bool.and_false, Bool.not_true, Bool.not_false, cond_true, cond_false])) rfl .n)) .n rfl rfl rfl)
    ·refine W.pk ?_
     refine .m rfl rfl rfl rfl ?_
     refine .v rfl rfl (OpL.binI rfl rfl rfl rfl) ?_
     refine .m rfl rfl rfl rfl ?_
     refine .m rfl (met rfl rfl rfl g1) rfl rfl ?_
     refine .v rfl (met rfl rfl rfl g1) (OpL.binI rfl rfl rfl rfl) ?_
     refine .v rfl rfl (O.pickT g1 rfl rfl rfl) ?_
     refine .m rfl rfl rfl rfl ?_
     refine .x rfl (unmet rfl rfl rfl g2) ?_
     refine .x rfl (unmet rfl rfl rfl g2) ?_
     refine .v rfl rfl (O.pickF g2 rfl rfl rfl) ?_
     refine .m rfl rfl rfl rfl ?_
     refine .m rfl (met rfl rfl rfl rfl) rfl rfl ?_
     refine .v rfl (met rfl rfl rfl rfl) (OpL.binI rfl rfl rfl rfl) ?_
     refine .m rfl (met rfl rfl rfl rfl) rfl rfl ?_
     refine .x rfl (unmet rfl rfl rfl g6) ?_
     refine .x rfl (unmet rfl rfl rfl g6) ?_
     refine .v rfl (met rfl rfl rfl rfl) (O.pickF g6 rfl rfl rfl) ?_
     refine .m rfl (met rfl rfl rfl rfl) rfl rfl ?_
     refine .x rfl (unmet rfl rfl rfl rfl) ?_
     refine .x rfl (unmet rfl rfl rfl rfl) ?_
     refine .v rfl (met rfl rfl rfl rfl) (O.pickF rfl rfl rfl rfl) ?_
     refine .v rfl rfl (O.pickF rfl rfl rfl rfl) ?_
     refine .nil ?_
     exact toN (Gives.mkR [] (.r rfl rfl (.c rfl (sbb (by first | (simp only [g1, g2, g6, Bool.true_or, Bool.or_true, Bool.false_or, Bool.or_false, Bool.true_and, Bool.and_true, Bool.false_and, Bool.and_false, Bool.not_true, Bool.not_false, cond_true, cond_false]; done) | (repeat (first | rw [g1] | rw [g2] | rw [g6])) <;> simp only [Bool.true_or, Bool.or_true, Bool.false_or, Bool.or_false, Bool.true_and, Bool.and_true, Bool.false_and, Bool.and_false, Bool.not_true, Bool.not_false, cond_true, cond_false])) rfl .n)) .n rfl rfl rfl)
  ·rcases tf (decide (x0 < 0)) with g8 | g8
   ·rcases tf (decide (x1 < 0)) with g9 | g9
    ·refine W.pk ?_
     refine .m rfl rfl rfl rfl ?_
     refine .v rfl rfl (OpL.binI rfl rfl rfl rfl) ?_
     refine .m rfl rfl rfl rfl ?_
     refine .x rfl (unmet rfl rfl rfl g1) ?_
     refine .x rfl (unmet rfl rfl rfl g1) ?_
     refine .v rfl rfl (O.pickF g1 rfl rfl rfl) ?_
     refine .m rfl rfl rfl rfl ?_
     refine .x rfl (unmet rfl rfl rfl rfl) ?_
     refine .x rfl (unmet rfl rfl rfl rfl) ?_
     refine .v rfl rfl (O.pickF rfl rfl rfl rfl) ?_
     refine .m rfl rfl rfl rfl ?_
     refine .m rfl (met rfl rfl rfl rfl) rfl rfl ?_
     refine .v rfl (met rfl rfl rfl rfl) (OpL.binI rfl rfl rfl rfl) ?_
     refine .m rfl (met rfl rfl rfl rfl) rfl rfl ?_
     refine .m rfl (met rfl rfl rfl g8) rfl rfl ?_
     refine .v rfl (met rfl rfl rfl g8) (OpL.binI rfl rfl rfl rfl) ?_
     refine .v rfl (met rfl rfl rfl rfl) (O.pickT g8 rfl rfl rfl) ?_
     refine .m rfl (met rfl rfl rfl rfl) rfl rfl ?_
     refine .m rfl (met rfl rfl rfl g9) rfl rfl ?_
     refine .v rfl (met rfl rfl rfl g9) (OpL.binI rfl rfl rfl rfl) ?_
     refine .v rfl (met rfl rfl rfl rfl) (O.pickT g9 rfl rfl rfl) ?_
     refine .v rfl rfl (O.pickF rfl rfl rfl rfl) ?_
     refine .nil ?_
     exact toN (Gives.mkR [] (.r rfl rfl (.c rfl (sbb (by first | (simp only [g1, g8, g9, Bool.true_or, Bool.or_true, Bool.false_or, Bool.or_false, Bool.true_and, Bool.and_true, Bool.false_and, Bool.and_false, Bool.not_true, Bool.not_false, cond_true, cond_false]; done) | (repeat (first | rw [g1] | rw [g8] | rw [g9])) <;> simp only [Bool.true_or, Bool.or_true, Bool.false_or, Bool.or_false, Bool.true_and, Bool.and_true, Bool.false_and, Bool.and_false, Bool.not_true, Bool.not_false, cond_true, cond_false])) rfl .n)) .n rfl rfl rfl)
    ·refine W.pk ?_
     refine .m rfl rfl rfl rfl ?_
     refine .v rfl rfl (OpL.binI rfl rfl rfl rfl) ?_
     refine .m rfl rfl rfl rfl ?_
     refine .x rfl (unmet rfl rfl rfl g1) ?_
     refine .x rfl (unmet rfl rfl rfl g1) ?_
     refine .v rfl rfl (O.pickF g1 rfl rfl rfl) ?_
     refine .m rfl rfl rfl rfl ?_
     refine .x rfl (unmet rfl rfl rfl rfl) ?_
     refine .x rfl (unmet rfl rfl rfl rfl) ?_
     refine .v rfl rfl (O.pickF rfl rfl rfl rfl) ?_
     refine .m rfl rfl rfl rfl ?_
     refine .m rfl (met rfl rfl rfl rfl) rfl rfl ?_
     refine .v rfl (met rfl rfl rfl rfl) (OpL.binI rfl rfl rfl rfl) ?_
     refine .m rfl (met rfl rfl rfl rfl) rfl rfl ?_
     refine .m rfl (met rfl rfl rfl g8) rfl rfl ?_
     refine .v rfl (met rfl rfl rfl g8) (OpL.binI rfl rfl rfl rfl) ?_
     refine .v rfl (met rfl rfl rfl rfl) (O.pickT g8 rfl rfl rfl) ?_
     refine .m rfl (met rfl rfl rfl rfl) rfl rfl ?_
     refine .x rfl (unmet rfl rfl rfl g9) ?_
     refine .x rfl (unmet rfl rfl rfl g9) ?_
     refine .v rfl (met rfl rfl rfl rfl) (O.pickF g9 rfl rfl rfl) ?_
     refine .v rfl rfl (O.pickF rfl rfl rfl rfl) ?_
     refine .nil ?_
     exact toN (Gives.mkR [] (.r rfl rfl (.c rfl (sbb (by first | (simp only [g1, g8, g9, Bool.true_or, Bool.or_true, Bool.false_or, Bool.or_false, Bool.true_and, Bool.and_true, Bool.false_and, Bool.and_false, Bool.not_true, Bool.not_false, cond_true, cond_false]; done) | (repeat (first | rw [g1] | rw [g8] | rw [g9])) <;> simp only [Bool.true_or, Bool.or_true, Bool.false_or, Bool.or_false, Bool.true_and, Bool.and_true, Bool.false_and, Bool.and_false, Bool.not_true, Bool.not_false, cond_true, cond_false])) rfl .n)) .n rfl rfl rfl)
   ·refine W.pk ?_
    refine .m rfl rfl rfl rfl ?_
    refine .v rfl rfl (OpL.binI rfl rfl rfl rfl) ?_
    refine .m rfl rfl rfl rfl ?_
    refine .x rfl (unmet rfl rfl rfl g1) ?_
    refine .x rfl (unmet rfl rfl rfl g1) ?_
    refine .v rfl rfl (O.pickF g1 rfl rfl rfl) ?_
    refine .m rfl rfl rfl rfl ?_
    refine .x rfl (unmet rfl rfl rfl rfl) ?_
    refine .x rfl (unmet rfl rfl rfl rfl) ?_
    refine .v rfl rfl (O.pickF rfl rfl rfl rfl) ?_
    refine .m rfl rfl rfl rfl ?_
    refine .m rfl (met rfl rfl rfl rfl) rfl rfl ?_
    refine .v rfl (met rfl rfl rfl rfl) (OpL.binI rfl rfl rfl rfl) ?_
    refine .m rfl (met rfl rfl rfl rfl) rfl rfl ?_
    refine .x rfl (unmet rfl rfl rfl g8) ?_
    refine .x rfl (unmet rfl rfl rfl g8) ?_
    refine .v rfl (met rfl rfl rfl rfl) (O.pickF g8 rfl rfl rfl) ?_
    refine .m rfl (met rfl rfl rfl rfl) rfl rfl ?_
    refine .x rfl (unmet rfl rfl rfl rfl) ?_
    refine .x rfl (unmet rfl rfl rfl rfl) ?_
    refine .v rfl (met rfl rfl rfl rfl) (O.pickF rfl rfl rfl rfl) ?_
    refine .v rfl rfl (O.pickF rfl rfl rfl rfl) ?_
    refine .nil ?_
    exact toN (Gives.mkR [] (.r rfl rfl (.c rfl (sbb (by first | (simp only [g1, g8, Bool.true_or, Bool.or_true, Bool.false_or, Bool.or_false, Bool.true_and, Bool.and_true, Bool.false_and, Bool.and_false, Bool.not_true, Bool.not_false, cond_true, cond_false]; done) | (repeat (first | rw [g1] | rw [g8])) <;> simp only [Bool.true_or, Bool.or_true, Bool.false_or, Bool.or_false, Bool.true_and, Bool.and_true, Bool.false_and, Bool.and_false, Bool.not_true, Bool.not_false, cond_true, cond_false])) rfl .n)) .n rfl rfl rfl)

noncomputable def accrue_Meter_Day.f (x0 : accrue_Meter) (x1 : Int) (x2 : Int) : Option (accrue_Meter × Int) :=
  (accrue_good.f x1 x2).bind fun t1 =>
  if (((!t1) || (decide (x0.Rest < 0))) || (decide (x0.Rest ≥ 360000000))) = true then
    some (x0, 1)
  else
    (fixnum_MulDiv.f x1 x2 360000000 1).bind fun t6 =>
    if (t6.2 != 0) = true then
      some (x0, t6.2)
    else
      (fixnum_Mul.f (IntKind.wrap .u64 x1) (IntKind.wrap .u64 (maxI x2 (IntKind.wrap .i64 (0 - x2))))).bind fun t9 =>
      (fixnum_Wide_Div.f t9 360000000).bind fun t11 =>
      ((
        if ((decide (x2 < 0)) && (decide ((IntKind.wrap .i64 t11.2) > 0))) = true then
          some (IntKind.wrap .i64 (360000000 - (IntKind.wrap .i64 t11.2)))
        else
          some (IntKind.wrap .i64 t11.2) : Option (Int))).bind fun o16 =>
      ((
        if (decide ((IntKind.wrap .i64 (x0.Rest + o16)) ≥ 360000000)) = true then
          some ((IntKind.wrap .i64 (t6.1 + 1)), (IntKind.wrap .i64 ((IntKind.wrap .i64 (x0.Rest + o16)) - 360000000)))
        else
          some (t6.1, (IntKind.wrap .i64 (x0.Rest + o16))) : Option (Int × Int))).bind fun o22 =>
      (fixnum_Plus.f x0.Units o22.1).bind fun t25 =>
      if (t25.2 != 0) = true then
        some (x0, t25.2)
      else
        some ((⟨t25.1, o22.2⟩ : accrue_Meter), 0)
set_option maxRecDepth 100000 in
set_option maxHeartbeats 4000000 in
theorem accrue_Meter_Day.ok {x0 : accrue_Meter} {x1 : Int} {x2 : Int} {r : accrue_Meter × Int} (h : accrue_Meter_Day.f x0 x1 x2 = some r) : Pm.Spec prog 61 [.agg [.imm (.val (.int .i64 x0.Units)), .imm (.val (.int .i64 x0.Rest))], .imm (.val (.int .i64 x1)), .imm (.val (.int .i64 x2))] (.tup [.agg [.imm (.val (.int .i64 r.1.Units)), .imm (.val (.int .i64 r.1.Rest))], .imm (.val (.int .i64 r.2))]) [none, none, none] := by
 unfold accrue_Meter_Day.f at h
 refine Pm.Spec.of_body Try.func61 rfl (by kernel_rfl) (Nat.le_of_ble_eq_true rfl) (Nat.le_of_ble_eq_true rfl) ?_
 refine W.ghost (σ' := (mkSt [(0, some (.agg [.i x0.Units, .i x0.Rest])), (1, some (.i x1)), (2, some (.i x2))] [] 1000)) (Gives.entry (.c rfl (.c rfl (.c rfl .n))) .n) ?_
 refine W.seq ?_
 refine W.pk ?_
 refine .t rfl rfl (O.box rfl rfl rfl rfl rfl) ?_
 refine .t rfl rfl (O.alloc z72 rfl) ?_
 refine .a rfl rfl rfl rfl ?_
 refine .nil ?_
 refine W.seq ?_
 refine W.seq ?_
 obtain ⟨t1, b2, h⟩ := bnd1 h
 refine W.fork (mkSt [(1, some (.i x1)), (2, some (.i x2)), (3, some (.ptr 1000 0)), (6, some (.ptr 1001 0)), (28, some (.b (((!t1) || (decide (x0.Rest < 0))) || (decide (x0.Rest ≥ 360000000)))))] [(1000, some (.box [.i x0.Units, .i x0.Rest])), (1001, some (.box [.i 0, .i 0]))] 1002) ?_ ?_
 ·refine W.cond rfl (fun q5 => ?_) (fun q5 => ?_)
  ·have h := ifT q5 h
   refine W.seq ?_
   refine W.pk ?_
   refine .v rfl rfl (O.ldN ty72 rfl rfl rfl) ?_
   refine .s rfl rfl (O.st ty72 rfl rfl rfl rfl rfl rfl rfl rfl rfl rfl (all' := [.i x0.Units, .i x0.Rest]) rfl) ?_
   refine .a rfl rfl rfl rfl ?_
   refine .nil ?_
   refine W.ret ?_
   cases h
   exact leaves (.inr rfl) rfl (.tup _ _ _ _ (cC (.agg _ _ _ _ (cC (.imm _) (cC (.imm _) .nil))) (cC (.imm _) .nil))) (cN (cN (cN .nil))) rfl rfl
  ·have h := ifF q5 h
   refine W.skip ?_
   refine W.seq ?_
   obtain ⟨t6, b7, h⟩ := bnd1 h
   refine W.pk ?_
   refine .m rfl rfl rfl rfl ?_
   refine .m rfl rfl rfl rfl ?_
   refine .call (.tup [.i t6.1, .i t6.2]) [] 0 (fixnum_MulDiv.ok b7) rfl rfl rfl ca71 rfl rfl (cC (.imm _) (cC (.imm _) (cC (.imm _) (cC (.imm _) .nil)))) rfl rfl rfl rfl rfl ?_
   refine .m rfl rfl rfl rfl ?_
   refine .v rfl rfl (OpL.extract rfl rfl rfl) ?_
   refine .v rfl rfl (OpL.extract rfl rfl rfl) ?_
   refine .a rfl rfl rfl rfl ?_
   refine .a rfl rfl rfl rfl ?_
   refine .nil ?_
   refine W.seq ?_
   refine W.seq ?_
   refine W.pk ?_
   refine .m rfl rfl rfl rfl ?_
   refine .v rfl rfl (OpL.binI rfl rfl rfl rfl) ?_
   refine .nil ?_
   refine W.cond rfl (fun q8 => ?_) (fun q8 => ?_)
   ·have h := ifT q8 h
    refine W.seq ?_
    refine W.pk ?_
    refine .v rfl rfl (O.ldN ty72 rfl rfl rfl) ?_
    refine .m rfl rfl rfl rfl ?_
    refine .s rfl rfl (O.st ty72 rfl rfl rfl rfl rfl rfl rfl rfl rfl rfl (all' := [.i x0.Units, .i x0.Rest]) rfl) ?_
    refine .a rfl rfl rfl rfl ?_
    refine .nil ?_
    refine W.ret ?_
    cases h
    exact leaves (.inr rfl) rfl (.tup _ _ _ _ (cC (.agg _ _ _ _ (cC (.imm _) (cC (.imm _) .nil))) (cC (.imm _) .nil))) (cN (cN (cN .nil))) rfl rfl
   ·have h := ifF q8 h
    refine W.skip ?_
    refine W.seq ?_
    obtain ⟨t9, b10, h⟩ := bnd1 h
    refine W.pk ?_
    refine .m rfl rfl rfl rfl ?_
    refine .v rfl rfl (O.conv h3 u88 rfl rfl) ?_
    refine .m rfl rfl rfl rfl ?_
    refine .m rfl rfl rfl rfl ?_
    refine .v rfl rfl (OpL.unV rfl rfl rfl) ?_
    refine .v rfl rfl (O.max2 rfl rfl rfl) ?_
    refine .v rfl rfl (O.conv h3 u88 rfl rfl) ?_
    refine .call (.agg [.imm (.val (.int .u64 t9.Hi)), .imm (.val (.int .u64 t9.Lo))]) [] 0 (fixnum_Mul.ok b10) rfl rfl rfl ca72 rfl rfl (cC (.imm _) (cC (.imm _) .nil)) rfl rfl rfl rfl rfl ?_
    refine .t rfl rfl (O.alloc z96 rfl) ?_
    refine .s rfl rfl (O.st ty96 rfl rfl rfl rfl rfl rfl rfl rfl rfl rfl (all' := [.imm (.val (.int .u64 t9.Hi)), .imm (.val (.int .u64 t9.Lo))]) rfl) ?_
    refine .nil ?_
    refine W.seq ?_
    obtain ⟨t11, b12, h⟩ := bnd1 h
    refine W.pk ?_
    refine .v rfl rfl (O.ldN ty96 rfl rfl rfl) ?_
    refine .call (.tup [.agg [.imm (.val (.int .u64 t11.1.Hi)), .imm (.val (.int .u64 t11.1.Lo))], .imm (.val (.int .u64 t11.2))]) [] 0 (fixnum_Wide_Div.ok b12) rfl rfl rfl ca73 rfl rfl (cC (.agg _ _ _ _ (cC (.imm _) (cC (.imm _) .nil))) (cC (.imm _) .nil)) rfl rfl rfl rfl rfl ?_
    refine .m rfl rfl rfl rfl ?_
    refine .v rfl rfl (OpL.extract rfl rfl rfl) ?_
    refine .v rfl rfl (OpL.extract rfl rfl rfl) ?_
    refine .t rfl rfl (O.alloc z96 rfl) ?_
    refine .s rfl rfl (O.st ty96 rfl rfl rfl rfl rfl rfl rfl rfl rfl rfl (all' := [.imm (.val (.int .u64 t11.1.Hi)), .imm (.val (.int .u64 t11.1.Lo))]) rfl) ?_
    refine .a rfl rfl rfl rfl ?_
    refine .nil ?_
    refine W.seq ?_
    refine W.pk ?_
    refine .m rfl rfl rfl rfl ?_
    refine .v rfl rfl (O.conv h88 u3 rfl rfl) ?_
    refine .a rfl rfl rfl rfl ?_
    refine .nil ?_
    refine W.seq ?_
    refine W.seq ?_
    refine W.fork (mkSt [(3, some (.ptr 1000 0)), (6, some (.ptr 1001 0)), (8, some (.i t6.1)), (13, some (.i (IntKind.wrap .i64 t11.2))), (60, some (.b ((decide (x2 < 0)) && (decide ((IntKind.wrap .i64 t11.2) > 0)))))] [(1000, some (.box [.i x0.Units, .i x0.Rest])), (1001, some (.box [.i 0, .i 0]))] 1004) ?_ ?_
    ·obtain ⟨o16, b17, h⟩ := bnd1 h
     refine W.fork (mkSt [(3, some (.ptr 1000 0)), (6, some (.ptr 1001 0)), (8, some (.i t6.1)), (13, some (.i o16))] [(1000, some (.box [.i x0.Units, .i x0.Rest])), (1001, some (.box [.i 0, .i 0]))] 1004) ?_ ?_
     ·refine W.seq ?_
      refine W.pk ?_
      refine .v rfl rfl (O.fld fld72_0 rfl rfl rfl) ?_
      refine .v rfl rfl (O.ld (y := .i x0.Units) ty3 rfl rfl rfl) ?_
      refine .v rfl rfl (O.fld fld72_1 rfl rfl rfl) ?_
      refine .v rfl rfl (O.ld (y := .i x0.Rest) ty3 rfl rfl rfl) ?_
      refine .m rfl rfl rfl rfl ?_
      refine .v rfl rfl (OpL.binI rfl rfl rfl rfl) ?_
      refine .v rfl rfl (O.build (out := [.i x0.Units, .i (IntKind.wrap .i64 (x0.Rest + o16))]) bl72 rfl rfl rfl rfl (by kernel_rfl)) ?_
      refine .t rfl rfl (O.alloc z72 rfl) ?_
      refine .s rfl rfl (O.st ty72 rfl rfl rfl rfl rfl rfl rfl rfl rfl rfl (all' := [.i x0.Units, .i (IntKind.wrap .i64 (x0.Rest + o16))]) rfl) ?_
      refine .nil ?_
      refine W.seq ?_
      refine W.seq ?_
      refine W.pk ?_
      refine .v rfl rfl (O.fld fld72_1 rfl rfl rfl) ?_
      refine .v rfl rfl (O.ld (y := .i (IntKind.wrap .i64 (x0.Rest + o16))) ty3 rfl rfl rfl) ?_
      refine .v rfl rfl (OpL.binI rfl rfl rfl rfl) ?_
      refine .nil ?_
      obtain ⟨o22, b23, h⟩ := bnd1 h
      refine W.fork (mkSt [(3, some (.ptr 1000 0)), (6, some (.ptr 1001 0)), (8, some (.i o22.1)), (14, some (.ptr 1004 0))] [(1000, some (.box [.i x0.Units, .i x0.Rest])), (1001, some (.box [.i 0, .i 0])), (1004, some (.box [.i x0.Units, .i o22.2]))] 1005) ?_ ?_
      ·refine W.seq ?_
       refine W.seq ?_
       obtain ⟨t25, b26, h⟩ := bnd1 h
       refine W.pk ?_
       refine .v rfl rfl (O.fld fld72_0 rfl rfl rfl) ?_
       refine .v rfl rfl (O.ld (y := .i x0.Units) ty3 rfl rfl rfl) ?_
       refine .m rfl rfl rfl rfl ?_
       refine .call (.tup [.i t25.1, .i t25.2]) [] 0 (fixnum_Plus.ok b26) rfl rfl rfl ca46 rfl rfl (cC (.imm _) (cC (.imm _) .nil)) rfl rfl rfl rfl rfl ?_
       refine .m rfl rfl rfl rfl ?_
       refine .v rfl rfl (OpL.extract rfl rfl rfl) ?_
       refine .v rfl rfl (OpL.extract rfl rfl rfl) ?_
       refine .v rfl rfl (O.fld fld72_0 rfl rfl rfl) ?_
       refine .s rfl rfl (O.st ty3 rfl rfl rfl rfl rfl rfl rfl rfl rfl rfl (all' := [.i t25.1, .i o22.2]) rfl) ?_
       refine .a rfl rfl rfl rfl ?_
       refine .nil ?_
       refine W.seq ?_
       refine W.pk ?_
       refine .m rfl rfl rfl rfl ?_
       refine .v rfl rfl (OpL.binI rfl rfl rfl rfl) ?_
       refine .nil ?_
       refine W.cond rfl (fun q27 => ?_) (fun q27 => ?_)
       ·have h := ifT q27 h
        refine W.seq ?_
        refine W.pk ?_
        refine .v rfl rfl (O.ldN ty72 rfl rfl rfl) ?_
        refine .m rfl rfl rfl rfl ?_
        refine .s rfl rfl (O.st ty72 rfl rfl rfl rfl rfl rfl rfl rfl rfl rfl (all' := [.i x0.Units, .i x0.Rest]) rfl) ?_
        refine .a rfl rfl rfl rfl ?_
        refine .nil ?_
        refine W.ret ?_
        cases h
        exact leaves (.inr rfl) rfl (.tup _ _ _ _ (cC (.agg _ _ _ _ (cC (.imm _) (cC (.imm _) .nil))) (cC (.imm _) .nil))) (cN (cN (cN .nil))) rfl rfl
       ·have h := ifF q27 h
        refine W.skip ?_
        refine W.seq ?_
        refine W.pk ?_
        refine .v rfl rfl (O.ldN ty72 rfl rfl rfl) ?_
        refine .s rfl rfl (O.st ty72 rfl rfl rfl rfl rfl rfl rfl rfl rfl rfl (all' := [.i t25.1, .i o22.2]) rfl) ?_
        refine .a rfl rfl rfl rfl ?_
        refine .nil ?_
        refine W.ret ?_
        cases h
        exact leaves (.inr rfl) rfl (.tup _ _ _ _ (cC (.agg _ _ _ _ (cC (.imm _) (cC (.imm _) .nil))) (cC (.imm _) .nil))) (cN (cN (cN .nil))) rfl rfl
      ·clear h
       have h := b23
       refine W.cond rfl (fun q24 => ?_) (fun q24 => ?_)
       ·have h := ifT q24 h
        refine W.seq ?_
        refine W.pk ?_
        refine .v rfl rfl (O.fld fld72_1 rfl rfl rfl) ?_
        refine .v rfl rfl (O.ld (y := .i (IntKind.wrap .i64 (x0.Rest + o16))) ty3 rfl rfl rfl) ?_
        refine .v rfl rfl (OpL.binI rfl rfl rfl rfl) ?_
        refine .v rfl rfl (O.fld fld72_1 rfl rfl rfl) ?_
        refine .s rfl rfl (O.st ty3 rfl rfl rfl rfl rfl rfl rfl rfl rfl rfl (all' := [.i x0.Units, .i (IntKind.wrap .i64 ((IntKind.wrap .i64 (x0.Rest + o16)) - 360000000))]) rfl) ?_
        refine .nil ?_
        refine W.pk ?_
        refine .m rfl rfl rfl rfl ?_
        refine .v rfl rfl (OpL.binI rfl rfl rfl rfl) ?_
        refine .a rfl rfl rfl rfl ?_
        refine .nil ?_
        cases h
        exact toN (Gives.mkR [] (.r rfl rfl (.r rfl rfl (.r rfl rfl (.r rfl rfl .n)))) (.r rfl rfl rfl (.r rfl rfl rfl (.r rfl rfl rfl .n))) rfl rfl rfl)
       ·have h := ifF q24 h
        refine W.skip ?_
        cases h
        exact toN (Gives.mkR [] (.r rfl rfl (.r rfl rfl (.r rfl rfl (.r rfl rfl .n)))) (.r rfl rfl rfl (.r rfl rfl rfl (.r rfl rfl rfl .n))) rfl rfl rfl)
     ·clear h
      have h := b17
      refine W.cond rfl (fun q18 => ?_) (fun q18 => ?_)
      ·have h := ifT q18 h
       refine W.pk ?_
       refine .m rfl rfl rfl rfl ?_
       refine .v rfl rfl (OpL.binI rfl rfl rfl rfl) ?_
       refine .a rfl rfl rfl rfl ?_
       refine .nil ?_
       cases h
       exact toN (Gives.mkR [] (.r rfl rfl (.r rfl rfl (.r rfl rfl (.r rfl rfl .n)))) (.r rfl rfl rfl (.r rfl rfl rfl .n)) rfl rfl rfl)
      ·have h := ifF q18 h
       refine W.skip ?_
       cases h
       exact toN (Gives.mkR [] (.r rfl rfl (.r rfl rfl (.r rfl rfl (.r rfl rfl .n)))) (.r rfl rfl rfl (.r rfl rfl rfl .n)) rfl rfl rfl)
    ·clear h
     rcases tf (decide (x2 < 0)) with g13 | g13
     ·refine W.pk ?_
      refine .m rfl rfl rfl rfl ?_
      refine .v rfl rfl (OpL.binI rfl rfl rfl rfl) ?_
      refine .m rfl rfl rfl rfl ?_
      refine .m rfl (met rfl rfl rfl g13) rfl rfl ?_
      refine .v rfl (met rfl rfl rfl g13) (OpL.binI rfl rfl rfl rfl) ?_
      refine .v rfl rfl (O.pickT g13 rfl rfl rfl) ?_
      refine .nil ?_
      exact toN (Gives.mkR [] (.r rfl rfl (.r rfl rfl (.r rfl rfl (.r rfl rfl (.c rfl (sbb (by simp only [g13, Bool.true_or, Bool.or_true, Bool.false_or, Bool.or_false, Bool.true_and, Bool.and_true, Bool.false_and, Bool.and_false, Bool.not_true, Bool.not_false, cond_true, cond_false])) rfl .n))))) (.r rfl rfl rfl (.r rfl rfl rfl .n)) rfl rfl rfl)
     ·refine W.pk ?_
      refine .m rfl rfl rfl rfl ?_
      refine .v rfl rfl (OpL.binI rfl rfl rfl rfl) ?_
      refine .m rfl rfl rfl rfl ?_
      refine .x rfl (unmet rfl rfl rfl g13) ?_
      refine .x rfl (unmet rfl rfl rfl g13) ?_
      refine .v rfl rfl (O.pickF g13 rfl rfl rfl) ?_
      refine .nil ?_
      exact toN (Gives.mkR [] (.r rfl rfl (.r rfl rfl (.r rfl rfl (.r rfl rfl (.c rfl (sbb (by simp only [g13, Bool.true_or, Bool.or_true, Bool.false_or, Bool.or_false, Bool.true_and, Bool.and_true, Bool.false_and, Bool.and_false, Bool.not_true, Bool.not_false, cond_true, cond_false])) rfl .n))))) (.r rfl rfl rfl (.r rfl rfl rfl .n)) rfl rfl rfl)
 ·clear h
  rcases tf t1 with g3 | g3
  ·rcases tf (decide (x0.Rest < 0)) with g4 | g4
   ·refine W.pk ?_
    refine .m rfl rfl rfl rfl ?_
    refine .m rfl rfl rfl rfl ?_
    refine .call (.b t1) [] 0 (accrue_good.ok b2) rfl rfl rfl ca70 rfl rfl (cC (.imm _) (cC (.imm _) .nil)) rfl rfl rfl rfl rfl ?_
    refine .v rfl rfl (OpL.unV rfl rfl rfl) ?_
    refine .m rfl rfl rfl rfl ?_
    refine .v rfl (met rfl rfl rfl (notT g3)) (O.fld fld72_1 rfl rfl rfl) ?_
    refine .v rfl (met rfl rfl rfl (notT g3)) (O.ld (y := .i x0.Rest) ty3 rfl rfl rfl) ?_
    refine .v rfl (met rfl rfl rfl (notT g3)) (OpL.binI rfl rfl rfl rfl) ?_
    refine .v rfl rfl (O.pickF (notT g3) rfl rfl rfl) ?_
    refine .m rfl rfl rfl rfl ?_
    refine .x rfl (unmet rfl rfl rfl g4) ?_
    refine .x rfl (unmet rfl rfl rfl g4) ?_
    refine .x rfl (unmet rfl rfl rfl g4) ?_
    refine .v rfl rfl (O.pickT g4 rfl rfl rfl) ?_
    refine .nil ?_
    exact toN (Gives.mkR [] (.r rfl rfl (.r rfl rfl (.r rfl rfl (.r rfl rfl (.c rfl (sbb (by first | (simp only [g3, g4, Bool.true_or, Bool.or_true, Bool.false_or, Bool.or_false, Bool.true_and, Bool.and_true, Bool.false_and, Bool.and_false, Bool.not_true, Bool.not_false, cond_true, cond_false]; done) | (repeat (first | rw [g3] | rw [g4])) <;> simp only [Bool.true_or, Bool.or_true, Bool.false_or, Bool.or_false, Bool.true_and, Bool.and_true, Bool.false_and, Bool.and_false, Bool.not_true, Bool.not_false, cond_true, cond_false])) rfl .n))))) (.r rfl rfl rfl (.r rfl rfl rfl .n)) rfl rfl rfl)
   ·refine W.pk ?_
    refine .m rfl rfl rfl rfl ?_
    refine .m rfl rfl rfl rfl ?_
    refine .call (.b t1) [] 0 (accrue_good.ok b2) rfl rfl rfl ca70 rfl rfl (cC (.imm _) (cC (.imm _) .nil)) rfl rfl rfl rfl rfl ?_
    refine .v rfl rfl (OpL.unV rfl rfl rfl) ?_
    refine .m rfl rfl rfl rfl ?_
    refine .v rfl (met rfl rfl rfl (notT g3)) (O.fld fld72_1 rfl rfl rfl) ?_
    refine .v rfl (met rfl rfl rfl (notT g3)) (O.ld (y := .i x0.Rest) ty3 rfl rfl rfl) ?_
    refine .v rfl (met rfl rfl rfl (notT g3)) (OpL.binI rfl rfl rfl rfl) ?_
    refine .v rfl rfl (O.pickF (notT g3) rfl rfl rfl) ?_
    refine .m rfl rfl rfl rfl ?_
    refine .v rfl (met rfl rfl rfl g4) (O.fld fld72_1 rfl rfl rfl) ?_
    refine .v rfl (met rfl rfl rfl g4) (O.ld (y := .i x0.Rest) ty3 rfl rfl rfl) ?_
    refine .v rfl (met rfl rfl rfl g4) (OpL.binI rfl rfl rfl rfl) ?_
    refine .v rfl rfl (O.pickF g4 rfl rfl rfl) ?_
    refine .nil ?_
    exact toN (Gives.mkR [] (.r rfl rfl (.r rfl rfl (.r rfl rfl (.r rfl rfl (.c rfl (sbb (by first | (simp only [g3, g4, Bool.true_or, Bool.or_true, Bool.false_or, Bool.or_false, Bool.true_and, Bool.and_true, Bool.false_and, Bool.and_false, Bool.not_true, Bool.not_false, cond_true, cond_false]; done) | (repeat (first | rw [g3] | rw [g4])) <;> simp only [Bool.true_or, Bool.or_true, Bool.false_or, Bool.or_false, Bool.true_and, Bool.and_true, Bool.false_and, Bool.and_false, Bool.not_true, Bool.not_false, cond_true, cond_false])) rfl .n))))) (.r rfl rfl rfl (.r rfl rfl rfl .n)) rfl rfl rfl)
  ·refine W.pk ?_
   refine .m rfl rfl rfl rfl ?_
   refine .m rfl rfl rfl rfl ?_
   refine .call (.b t1) [] 0 (accrue_good.ok b2) rfl rfl rfl ca70 rfl rfl (cC (.imm _) (cC (.imm _) .nil)) rfl rfl rfl rfl rfl ?_
   refine .v rfl rfl (OpL.unV rfl rfl rfl) ?_
   refine .m rfl rfl rfl rfl ?_
   refine .x rfl (unmet rfl rfl rfl (notF g3)) ?_
   refine .x rfl (unmet rfl rfl rfl (notF g3)) ?_
   refine .x rfl (unmet rfl rfl rfl (notF g3)) ?_
   refine .v rfl rfl (O.pickT (notF g3) rfl rfl rfl) ?_
   refine .m rfl rfl rfl rfl ?_
   refine .x rfl (unmet rfl rfl rfl rfl) ?_
   refine .x rfl (unmet rfl rfl rfl rfl) ?_
   refine .x rfl (unmet rfl rfl rfl rfl) ?_
   refine .v rfl rfl (O.pickT rfl rfl rfl rfl) ?_
   refine .nil ?_
   exact toN (Gives.mkR [] (.r rfl rfl (.r rfl rfl (.r rfl rfl (.r rfl rfl (.c rfl (sbb (by simp only [g3, Bool.true_or, Bool.or_true, Bool.false_or, Bool.or_false, Bool.true_and, Bool.and_true, Bool.false_and, Bool.and_false, Bool.not_true, Bool.not_false, cond_true, cond_false])) rfl .n))))) (.r rfl rfl rfl (.r rfl rfl rfl .n)) rfl rfl rfl)
end Go.Proofs.Ytknfdnlhadjbaaa
