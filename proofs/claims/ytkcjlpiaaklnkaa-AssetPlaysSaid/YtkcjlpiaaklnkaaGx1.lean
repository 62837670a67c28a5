/- Shows what functions of the program come to, each as a plain function: written by a program of the author's for this claim. -/
import Derived.Test.YtkcjlpiaaklnkaaGx0
namespace Go.Proofs.Ytkcjlpiaaklnkaa
open Go Go.Pm
set_option linter.unusedVariables false
set_option linter.unusedSimpArgs false
noncomputable def lombardlaw13_AssetMore.f (x0 : Int) (x1 : Int) (x2 : Int) : Option (Bool) :=
  if ((((decide (x0 < 0)) || (decide (x1 < 0))) || (decide (x0 > 562949953421312))) || (decide (x1 > 562949953421312))) = true then
    (lombardlaw13_awake.f).bind fun t5 =>
    some t5
  else
    (asset_Worth.f x0 x2).bind fun t7 =>
    (asset_Worth.f x1 x2).bind fun t9 =>
    (asset_Worth.f (IntKind.wrap .i64 (x0 + x1)) x2).bind fun t11 =>
    if (((t7.2 != 0) || (t9.2 != t7.2)) || (t11.2 != t7.2)) = true then
      (if (((((t7.2 == t9.2) && (t9.2 == t11.2)) && (t7.1 == 0)) && (t9.1 == 0)) && (t11.1 == 0)) = true then lombardlaw13_awake.f else some default).bind fun t16 =>
      some ((((((t7.2 == t9.2) && (t9.2 == t11.2)) && (t7.1 == 0)) && (t9.1 == 0)) && (t11.1 == 0)) && t16)
    else
      (if ((((decide (t11.1 ≥ (IntKind.wrap .i64 (t7.1 + t9.1)))) && (decide (t11.1 ≤ (IntKind.wrap .i64 ((IntKind.wrap .i64 (t7.1 + t9.1)) + 1))))) && (decide (t11.1 ≥ t7.1))) && (decide (t11.1 ≥ t9.1))) = true then lombardlaw13_awake.f else some default).bind fun t23 =>
      some (((((decide (t11.1 ≥ (IntKind.wrap .i64 (t7.1 + t9.1)))) && (decide (t11.1 ≤ (IntKind.wrap .i64 ((IntKind.wrap .i64 (t7.1 + t9.1)) + 1))))) && (decide (t11.1 ≥ t7.1))) && (decide (t11.1 ≥ t9.1))) && t23)
set_option maxRecDepth 100000 in
set_option maxHeartbeats 4000000 in
theorem lombardlaw13_AssetMore.ok {x0 : Int} {x1 : Int} {x2 : Int} {r : Bool} (h : lombardlaw13_AssetMore.f x0 x1 x2 = some r) : Pm.Spec prog 3 [.imm (.val (.int .i64 x0)), .imm (.val (.int .i64 x1)), .imm (.val (.int .i64 x2))] (.imm (.val (.bool r))) [none, none, none] := by
 unfold lombardlaw13_AssetMore.f at h
 refine Pm.Spec.of_body Try.func3 rfl (by kernel_rfl) (Nat.le_of_ble_eq_true rfl) (Nat.le_of_ble_eq_true rfl) ?_
 refine W.ghost (σ' := (mkSt [(0, some (.i x0)), (1, some (.i x1)), (2, some (.i x2))] [] 1000)) (Gives.entry (.c rfl (.c rfl (.c rfl .n))) .n) ?_
 refine W.seq ?_
 refine W.pk ?_
 refine .a rfl rfl rfl rfl ?_
 refine .nil ?_
 refine W.seq ?_
 refine W.seq ?_
 refine W.fork (mkSt [(0, some (.i x0)), (1, some (.i x1)), (2, some (.i x2)), (26, some (.b ((((decide (x0 < 0)) || (decide (x1 < 0))) || (decide (x0 > 562949953421312))) || (decide (x1 > 562949953421312)))))] [] 1000) ?_ ?_
 ·refine W.cond rfl (fun q4 => ?_) (fun q4 => ?_)
  ·have h := ifT q4 h
   refine W.seq ?_
   obtain ⟨t5, b6, h⟩ := bnd1 h
   refine W.pk ?_
   refine .call (.b t5) [] 0 (lombardlaw13_awake.ok b6) rfl rfl rfl ca9 rfl rfl .nil rfl rfl rfl rfl rfl ?_
   refine .a rfl rfl rfl rfl ?_
   refine .nil ?_
   refine W.ret ?_
   cases h
   exact leaves (.inr rfl) rfl (.imm _) (cN (cN (cN .nil))) rfl rfl
  ·have h := ifF q4 h
   refine W.skip ?_
   refine W.seq ?_
   obtain ⟨t7, b8, h⟩ := bnd1 h
   refine W.pk ?_
   refine .m rfl rfl rfl rfl ?_
   refine .m rfl rfl rfl rfl ?_
   refine .call (.tup [.i t7.1, .i t7.2]) [] 0 (asset_Worth.ok b8) rfl rfl rfl ca10 rfl rfl (cC (.imm _) (cC (.imm _) .nil)) rfl rfl rfl rfl rfl ?_
   refine .m rfl rfl rfl rfl ?_
   refine .v rfl rfl (OpL.extract rfl rfl rfl) ?_
   refine .v rfl rfl (OpL.extract rfl rfl rfl) ?_
   refine .a rfl rfl rfl rfl ?_
   refine .a rfl rfl rfl rfl ?_
   refine .nil ?_
   refine W.seq ?_
   obtain ⟨t9, b10, h⟩ := bnd1 h
   refine W.pk ?_
   refine .m rfl rfl rfl rfl ?_
   refine .m rfl rfl rfl rfl ?_
   refine .call (.tup [.i t9.1, .i t9.2]) [] 0 (asset_Worth.ok b10) rfl rfl rfl ca10 rfl rfl (cC (.imm _) (cC (.imm _) .nil)) rfl rfl rfl rfl rfl ?_
   refine .m rfl rfl rfl rfl ?_
   refine .v rfl rfl (OpL.extract rfl rfl rfl) ?_
   refine .v rfl rfl (OpL.extract rfl rfl rfl) ?_
   refine .a rfl rfl rfl rfl ?_
   refine .a rfl rfl rfl rfl ?_
   refine .nil ?_
   refine W.seq ?_
   obtain ⟨t11, b12, h⟩ := bnd1 h
   refine W.pk ?_
   refine .m rfl rfl rfl rfl ?_
   refine .m rfl rfl rfl rfl ?_
   refine .v rfl rfl (OpL.binI rfl rfl rfl rfl) ?_
   refine .m rfl rfl rfl rfl ?_
   refine .call (.tup [.i t11.1, .i t11.2]) [] 0 (asset_Worth.ok b12) rfl rfl rfl ca10 rfl rfl (cC (.imm _) (cC (.imm _) .nil)) rfl rfl rfl rfl rfl ?_
   refine .m rfl rfl rfl rfl ?_
   refine .v rfl rfl (OpL.extract rfl rfl rfl) ?_
   refine .v rfl rfl (OpL.extract rfl rfl rfl) ?_
   refine .a rfl rfl rfl rfl ?_
   refine .a rfl rfl rfl rfl ?_
   refine .nil ?_
   refine W.seq ?_
   refine W.seq ?_
   refine W.fork (mkSt [(7, some (.i t7.1)), (8, some (.i t7.2)), (9, some (.i t9.1)), (10, some (.i t9.2)), (11, some (.i t11.1)), (12, some (.i t11.2)), (59, some (.b (((t7.2 != 0) || (t9.2 != t7.2)) || (t11.2 != t7.2))))] [] 1000) ?_ ?_
   ·refine W.cond rfl (fun q15 => ?_) (fun q15 => ?_)
    ·have h := ifT q15 h
     refine W.seq ?_
     obtain ⟨t16, b17, h⟩ := bnd1 h
     refine W.fork (mkSt [(6, some (.b ((((((t7.2 == t9.2) && (t9.2 == t11.2)) && (t7.1 == 0)) && (t9.1 == 0)) && (t11.1 == 0)) && t16)))] [] 1000) ?_ ?_
     ·refine W.ret ?_
      cases h
      exact leaves (.inr rfl) rfl (.imm _) (cN (cN (cN .nil))) rfl rfl
     ·clear h
      rcases tf (t7.2 == t9.2) with g18 | g18
      ·rcases tf (t9.2 == t11.2) with g19 | g19
       ·rcases tf (t7.1 == 0) with g20 | g20
        ·rcases tf (t9.1 == 0) with g21 | g21
         ·rcases tf (t11.1 == 0) with g22 | g22
          ·refine W.pk ?_
           refine .m rfl rfl rfl rfl ?_
           refine .m rfl rfl rfl rfl ?_
           refine .v rfl rfl (OpL.binI rfl rfl rfl rfl) ?_
           refine .m rfl rfl rfl rfl ?_
           refine .m rfl (met rfl rfl rfl g18) rfl rfl ?_
           refine .m rfl (met rfl rfl rfl g18) rfl rfl ?_
           refine .v rfl (met rfl rfl rfl g18) (OpL.binI rfl rfl rfl rfl) ?_
           refine .v rfl rfl (O.pickT g18 rfl rfl rfl) ?_
           refine .m rfl rfl rfl rfl ?_
           refine .m rfl (met rfl rfl rfl g19) rfl rfl ?_
           refine .v rfl (met rfl rfl rfl g19) (OpL.binI rfl rfl rfl rfl) ?_
           refine .v rfl rfl (O.pickT g19 rfl rfl rfl) ?_
           refine .m rfl rfl rfl rfl ?_
           refine .m rfl (met rfl rfl rfl g20) rfl rfl ?_
           refine .v rfl (met rfl rfl rfl g20) (OpL.binI rfl rfl rfl rfl) ?_
           refine .v rfl rfl (O.pickT g20 rfl rfl rfl) ?_
           refine .m rfl rfl rfl rfl ?_
           refine .m rfl (met rfl rfl rfl g21) rfl rfl ?_
           refine .v rfl (met rfl rfl rfl g21) (OpL.binI rfl rfl rfl rfl) ?_
           refine .v rfl rfl (O.pickT g21 rfl rfl rfl) ?_
           refine .m rfl rfl rfl rfl ?_
           refine .call (.b t16) [] 0 (lombardlaw13_awake.ok ((if_pos (by first | (simp only [g18, g19, g20, g21, g22, Bool.true_or, Bool.or_true, Bool.false_or, Bool.or_false, Bool.true_and, Bool.and_true, Bool.false_and, Bool.and_false, Bool.not_true, Bool.not_false, cond_true, cond_false]; done) | (repeat (first | rw [g18] | rw [g19] | rw [g20] | rw [g21] | rw [g22])) <;> simp only [Bool.true_or, Bool.or_true, Bool.false_or, Bool.or_false, Bool.true_and, Bool.and_true, Bool.false_and, Bool.and_false, Bool.not_true, Bool.not_false, cond_true, cond_false])).symm.trans b17)) rfl (met rfl rfl rfl g22) rfl ca9 rfl rfl .nil rfl rfl rfl rfl rfl ?_
           refine .v rfl rfl (O.pickT g22 rfl rfl rfl) ?_
           refine .a rfl rfl rfl rfl ?_
           refine .nil ?_
           exact toN (Gives.mkR [] (.c rfl (sbb (by first | (simp only [g18, g19, g20, g21, g22, Bool.true_or, Bool.or_true, Bool.false_or, Bool.or_false, Bool.true_and, Bool.and_true, Bool.false_and, Bool.and_false, Bool.not_true, Bool.not_false, cond_true, cond_false]; done) | (repeat (first | rw [g18] | rw [g19] | rw [g20] | rw [g21] | rw [g22])) <;> simp only [Bool.true_or, Bool.or_true, Bool.false_or, Bool.or_false, Bool.true_and, Bool.and_true, Bool.false_and, Bool.and_false, Bool.not_true, Bool.not_false, cond_true, cond_false])) rfl .n) .n rfl rfl rfl)
          ·refine W.pk ?_
           refine .m rfl rfl rfl rfl ?_
           refine .m rfl rfl rfl rfl ?_
           refine .v rfl rfl (OpL.binI rfl rfl rfl rfl) ?_
           refine .m rfl rfl rfl rfl ?_
           refine .m rfl (met rfl rfl rfl g18) rfl rfl ?_
           refine .m rfl (met rfl rfl rfl g18) rfl rfl ?_
           refine .v rfl (met rfl rfl rfl g18) (OpL.binI rfl rfl rfl rfl) ?_
           refine .v rfl rfl (O.pickT g18 rfl rfl rfl) ?_
           refine .m rfl rfl rfl rfl ?_
           refine .m rfl (met rfl rfl rfl g19) rfl rfl ?_
           refine .v rfl (met rfl rfl rfl g19) (OpL.binI rfl rfl rfl rfl) ?_
           refine .v rfl rfl (O.pickT g19 rfl rfl rfl) ?_
           refine .m rfl rfl rfl rfl ?_
           refine .m rfl (met rfl rfl rfl g20) rfl rfl ?_
           refine .v rfl (met rfl rfl rfl g20) (OpL.binI rfl rfl rfl rfl) ?_
           refine .v rfl rfl (O.pickT g20 rfl rfl rfl) ?_
           refine .m rfl rfl rfl rfl ?_
           refine .m rfl (met rfl rfl rfl g21) rfl rfl ?_
           refine .v rfl (met rfl rfl rfl g21) (OpL.binI rfl rfl rfl rfl) ?_
           refine .v rfl rfl (O.pickT g21 rfl rfl rfl) ?_
           refine .m rfl rfl rfl rfl ?_
           refine .x rfl (unmet rfl rfl rfl g22) ?_
           refine .v rfl rfl (O.pickF g22 rfl rfl rfl) ?_
           refine .a rfl rfl rfl rfl ?_
           refine .nil ?_
           exact toN (Gives.mkR [] (.c rfl (sbb (by first | (simp only [g18, g19, g20, g21, g22, Bool.true_or, Bool.or_true, Bool.false_or, Bool.or_false, Bool.true_and, Bool.and_true, Bool.false_and, Bool.and_false, Bool.not_true, Bool.not_false, cond_true, cond_false]; done) | (repeat (first | rw [g18] | rw [g19] | rw [g20] | rw [g21] | rw [g22])) <;> simp only [Bool.true_or, Bool.or_true, Bool.false_or, Bool.or_false, Bool.true_and, Bool.and_true, Bool.false_and, Bool.and_false, Bool.not_true, Bool.not_false, cond_true, cond_false])) rfl .n) .n rfl rfl rfl)
         ·refine W.pk ?_
          refine .m rfl rfl rfl rfl ?_
          refine .m rfl rfl rfl rfl ?_
          refine .v rfl rfl (OpL.binI rfl rfl rfl rfl) ?_
          refine .m rfl rfl rfl rfl ?_
          refine .m rfl (met rfl rfl rfl g18) rfl rfl ?_
          refine .m rfl (met rfl rfl rfl g18) rfl rfl ?_
          refine .v rfl (met rfl rfl rfl g18) (OpL.binI rfl rfl rfl rfl) ?_
          refine .v rfl rfl (O.pickT g18 rfl rfl rfl) ?_
          refine .m rfl rfl rfl rfl ?_
          refine .m rfl (met rfl rfl rfl g19) rfl rfl ?_
          refine .v rfl (met rfl rfl rfl g19) (OpL.binI rfl rfl rfl rfl) ?_
          refine .v rfl rfl (O.pickT g19 rfl rfl rfl) ?_
          refine .m rfl rfl rfl rfl ?_
          refine .m rfl (met rfl rfl rfl g20) rfl rfl ?_
          refine .v rfl (met rfl rfl rfl g20) (OpL.binI rfl rfl rfl rfl) ?_
          refine .v rfl rfl (O.pickT g20 rfl rfl rfl) ?_
          refine .m rfl rfl rfl rfl ?_
          refine .x rfl (unmet rfl rfl rfl g21) ?_
          refine .x rfl (unmet rfl rfl rfl g21) ?_
          refine .v rfl rfl (O.pickF g21 rfl rfl rfl) ?_
          refine .m rfl rfl rfl rfl ?_
          refine .x rfl (unmet rfl rfl rfl rfl) ?_
          refine .v rfl rfl (O.pickF rfl rfl rfl rfl) ?_
          refine .a rfl rfl rfl rfl ?_
          refine .nil ?_
          exact toN (Gives.mkR [] (.c rfl (sbb (by first | (simp only [g18, g19, g20, g21, Bool.true_or, Bool.or_true, Bool.false_or, Bool.or_false, Bool.true_and, Bool.and_true, Bool.false_and, Bool.and_false, Bool.not_true, Bool.not_false, cond_true, cond_false]; done) | (repeat (first | rw [g18] | rw [g19] | rw [g20] | rw [g21])) <;> simp only [Bool.true_or, Bool.or_true, Bool.false_or, Bool.or_false, Bool.true_and, Bool.and_true, Bool.false_and, Bool.and_false, Bool.not_true, Bool.not_false, cond_true, cond_false])) rfl .n) .n rfl rfl rfl)
        ·refine W.pk ?_
         refine .m rfl rfl rfl rfl ?_
         refine .m rfl rfl rfl rfl ?_
         refine .v rfl rfl (OpL.binI rfl rfl rfl rfl) ?_
         refine .m rfl rfl rfl rfl ?_
         refine .m rfl (met rfl rfl rfl g18) rfl rfl ?_
         refine .m rfl (met rfl rfl rfl g18) rfl rfl ?_
         refine .v rfl (met rfl rfl rfl g18) (OpL.binI rfl rfl rfl rfl) ?_
         refine .v rfl rfl (O.pickT g18 rfl rfl rfl) ?_
         refine .m rfl rfl rfl rfl ?_
         refine .m rfl (met rfl rfl rfl g19) rfl rfl ?_
         refine .v rfl (met rfl rfl rfl g19) (OpL.binI rfl rfl rfl rfl) ?_
         refine .v rfl rfl (O.pickT g19 rfl rfl rfl) ?_
         refine .m rfl rfl rfl rfl ?_
         refine .x rfl (unmet rfl rfl rfl g20) ?_
         refine .x rfl (unmet rfl rfl rfl g20) ?_
         refine .v rfl rfl (O.pickF g20 rfl rfl rfl) ?_
         refine .m rfl rfl rfl rfl ?_
         refine .x rfl (unmet rfl rfl rfl rfl) ?_
         refine .x rfl (unmet rfl rfl rfl rfl) ?_
         refine .v rfl rfl (O.pickF rfl rfl rfl rfl) ?_
         refine .m rfl rfl rfl rfl ?_
         refine .x rfl (unmet rfl rfl rfl rfl) ?_
         refine .v rfl rfl (O.pickF rfl rfl rfl rfl) ?_
         refine .a rfl rfl rfl rfl ?_
         refine .nil ?_
         exact toN (Gives.mkR [] (.c rfl (sbb (by first | (simp only [g18, g19, g20, Bool.true_or, Bool.or_true, Bool.false_or, Bool.or_false, Bool.true_and, Bool.and_true, Bool.false_and, Bool.and_false, Bool.not_true, Bool.not_false, cond_true, cond_false]; done) | (repeat (first | rw [g18] | rw [g19] | rw [g20])) <;> simp only [Bool.true_or, Bool.or_true, Bool.false_or, Bool.or_false, Bool.true_and, Bool.and_true, Bool.false_and, Bool.and_false, Bool.not_true, Bool.not_false, cond_true, cond_false])) rfl .n) .n rfl rfl rfl)
       ·refine W.pk ?_
        refine .m rfl rfl rfl rfl ?_
        refine .m rfl rfl rfl rfl ?_
        refine .v rfl rfl (OpL.binI rfl rfl rfl rfl) ?_
        refine .m rfl rfl rfl rfl ?_
        refine .m rfl (met rfl rfl rfl g18) rfl rfl ?_
        refine .m rfl (met rfl rfl rfl g18) rfl rfl ?_
        refine .v rfl (met rfl rfl rfl g18) (OpL.binI rfl rfl rfl rfl) ?_
        refine .v rfl rfl (O.pickT g18 rfl rfl rfl) ?_
        refine .m rfl rfl rfl rfl ?_
        refine .x rfl (unmet rfl rfl rfl g19) ?_
        refine .x rfl (unmet rfl rfl rfl g19) ?_
        refine .v rfl rfl (O.pickF g19 rfl rfl rfl) ?_
        refine .m rfl rfl rfl rfl ?_
        refine .x rfl (unmet rfl rfl rfl rfl) ?_
        refine .x rfl (unmet rfl rfl rfl rfl) ?_
        refine .v rfl rfl (O.pickF rfl rfl rfl rfl) ?_
        refine .m rfl rfl rfl rfl ?_
        refine .x rfl (unmet rfl rfl rfl rfl) ?_
        refine .x rfl (unmet rfl rfl rfl rfl) ?_
        refine .v rfl rfl (O.pickF rfl rfl rfl rfl) ?_
        refine .m rfl rfl rfl rfl ?_
        refine .x rfl (unmet rfl rfl rfl rfl) ?_
        refine .v rfl rfl (O.pickF rfl rfl rfl rfl) ?_
        refine .a rfl rfl rfl rfl ?_
        refine .nil ?_
        exact toN (Gives.mkR [] (.c rfl (sbb (by first | (simp only [g18, g19, Bool.true_or, Bool.or_true, Bool.false_or, Bool.or_false, Bool.true_and, Bool.and_true, Bool.false_and, Bool.and_false, Bool.not_true, Bool.not_false, cond_true, cond_false]; done) | (repeat (first | rw [g18] | rw [g19])) <;> simp only [Bool.true_or, Bool.or_true, Bool.false_or, Bool.or_false, Bool.true_and, Bool.and_true, Bool.false_and, Bool.and_false, Bool.not_true, Bool.not_false, cond_true, cond_false])) rfl .n) .n rfl rfl rfl)
      ·refine W.pk ?_
       refine .m rfl rfl rfl rfl ?_
       refine .m rfl rfl rfl rfl ?_
       refine .v rfl rfl (OpL.binI rfl rfl rfl rfl) ?_
       refine .m rfl rfl rfl rfl ?_
       refine .x rfl (unmet rfl rfl rfl g18) ?_
       refine .x rfl (unmet rfl rfl rfl g18) ?_
       refine .x rfl (unmet rfl rfl rfl g18) ?_
       refine .v rfl rfl (O.pickF g18 rfl rfl rfl) ?_
       refine .m rfl rfl rfl rfl ?_
       refine .x rfl (unmet rfl rfl rfl rfl) ?_
       refine .x rfl (unmet rfl rfl rfl rfl) ?_
       refine .v rfl rfl (O.pickF rfl rfl rfl rfl) ?_
       refine .m rfl rfl rfl rfl ?_
       refine .x rfl (unmet rfl rfl rfl rfl) ?_
       refine .x rfl (unmet rfl rfl rfl rfl) ?_
       refine .v rfl rfl (O.pickF rfl rfl rfl rfl) ?_
       refine .m rfl rfl rfl rfl ?_
       refine .x rfl (unmet rfl rfl rfl rfl) ?_
       refine .x rfl (unmet rfl rfl rfl rfl) ?_
       refine .v rfl rfl (O.pickF rfl rfl rfl rfl) ?_
       refine .m rfl rfl rfl rfl ?_
       refine .x rfl (unmet rfl rfl rfl rfl) ?_
       refine .v rfl rfl (O.pickF rfl rfl rfl rfl) ?_
       refine .a rfl rfl rfl rfl ?_
       refine .nil ?_
       exact toN (Gives.mkR [] (.c rfl (sbb (by simp only [g18, Bool.true_or, Bool.or_true, Bool.false_or, Bool.or_false, Bool.true_and, Bool.and_true, Bool.false_and, Bool.and_false, Bool.not_true, Bool.not_false, cond_true, cond_false])) rfl .n) .n rfl rfl rfl)
    ·have h := ifF q15 h
     refine W.skip ?_
     refine W.seq ?_
     obtain ⟨t23, b24, h⟩ := bnd1 h
     refine W.fork (mkSt [(6, some (.b (((((decide (t11.1 ≥ (IntKind.wrap .i64 (t7.1 + t9.1)))) && (decide (t11.1 ≤ (IntKind.wrap .i64 ((IntKind.wrap .i64 (t7.1 + t9.1)) + 1))))) && (decide (t11.1 ≥ t7.1))) && (decide (t11.1 ≥ t9.1))) && t23)))] [] 1000) ?_ ?_
     ·refine W.ret ?_
      cases h
      exact leaves (.inr rfl) rfl (.imm _) (cN (cN (cN .nil))) rfl rfl
     ·clear h
      rcases tf (decide (t11.1 ≥ (IntKind.wrap .i64 (t7.1 + t9.1)))) with g25 | g25
      ·rcases tf (decide (t11.1 ≤ (IntKind.wrap .i64 ((IntKind.wrap .i64 (t7.1 + t9.1)) + 1)))) with g26 | g26
       ·rcases tf (decide (t11.1 ≥ t7.1)) with g27 | g27
        ·rcases tf (decide (t11.1 ≥ t9.1)) with g28 | g28
         ·refine W.pk ?_
          refine .m rfl rfl rfl rfl ?_
          refine .m rfl rfl rfl rfl ?_
          refine .m rfl rfl rfl rfl ?_
          refine .v rfl rfl (OpL.binI rfl rfl rfl rfl) ?_
          refine .v rfl rfl (OpL.binI rfl rfl rfl rfl) ?_
          refine .m rfl rfl rfl rfl ?_
          refine .m rfl (met rfl rfl rfl g25) rfl rfl ?_
          refine .m rfl (met rfl rfl rfl g25) rfl rfl ?_
          refine .m rfl (met rfl rfl rfl g25) rfl rfl ?_
          refine .v rfl (met rfl rfl rfl g25) (OpL.binI rfl rfl rfl rfl) ?_
          refine .v rfl (met rfl rfl rfl g25) (OpL.binI rfl rfl rfl rfl) ?_
          refine .v rfl (met rfl rfl rfl g25) (OpL.binI rfl rfl rfl rfl) ?_
          refine .v rfl rfl (O.pickT g25 rfl rfl rfl) ?_
          refine .m rfl rfl rfl rfl ?_
          refine .m rfl (met rfl rfl rfl g26) rfl rfl ?_
          refine .m rfl (met rfl rfl rfl g26) rfl rfl ?_
          refine .v rfl (met rfl rfl rfl g26) (OpL.binI rfl rfl rfl rfl) ?_
          refine .v rfl rfl (O.pickT g26 rfl rfl rfl) ?_
          refine .m rfl rfl rfl rfl ?_
          refine .m rfl (met rfl rfl rfl g27) rfl rfl ?_
          refine .m rfl (met rfl rfl rfl g27) rfl rfl ?_
          refine .v rfl (met rfl rfl rfl g27) (OpL.binI rfl rfl rfl rfl) ?_
          refine .v rfl rfl (O.pickT g27 rfl rfl rfl) ?_
          refine .m rfl rfl rfl rfl ?_
          refine .call (.b t23) [] 0 (lombardlaw13_awake.ok ((if_pos (by first | (simp only [g25, g26, g27, g28, Bool.true_or, Bool.or_true, Bool.false_or, Bool.or_false, Bool.true_and, Bool.and_true, Bool.false_and, Bool.and_false, Bool.not_true, Bool.not_false, cond_true, cond_false]; done) | (repeat (first | rw [g25] | rw [g26] | rw [g27] | rw [g28])) <;> simp only [Bool.true_or, Bool.or_true, Bool.false_or, Bool.or_false, Bool.true_and, Bool.and_true, Bool.false_and, Bool.and_false, Bool.not_true, Bool.not_false, cond_true, cond_false])).symm.trans b24)) rfl (met rfl rfl rfl g28) rfl ca9 rfl rfl .nil rfl rfl rfl rfl rfl ?_
          refine .v rfl rfl (O.pickT g28 rfl rfl rfl) ?_
          refine .a rfl rfl rfl rfl ?_
          refine .nil ?_
          exact toN (Gives.mkR [] (.c rfl (sbb (by first | (simp only [g25, g26, g27, g28, Bool.true_or, Bool.or_true, Bool.false_or, Bool.or_false, Bool.true_and, Bool.and_true, Bool.false_and, Bool.and_false, Bool.not_true, Bool.not_false, cond_true, cond_false]; done) | (repeat (first | rw [g25] | rw [g26] | rw [g27] | rw [g28])) <;> simp only [Bool.true_or, Bool.or_true, Bool.false_or, Bool.or_false, Bool.true_and, Bool.and_true, Bool.false_and, Bool.and_false, Bool.not_true, Bool.not_false, cond_true, cond_false])) rfl .n) .n rfl rfl rfl)
         ·refine W.pk ?_
          refine .m rfl rfl rfl rfl ?_
          refine .m rfl rfl rfl rfl ?_
          refine .m rfl rfl rfl rfl ?_
          refine .v rfl rfl (OpL.binI rfl rfl rfl rfl) ?_
          refine .v rfl rfl (OpL.binI rfl rfl rfl rfl) ?_
          refine .m rfl rfl rfl rfl ?_
          refine .m rfl (met rfl rfl rfl g25) rfl rfl ?_
          refine .m rfl (met rfl rfl rfl g25) rfl rfl ?_
          refine .m rfl (met rfl rfl rfl g25) rfl rfl ?_
          refine .v rfl (met rfl rfl rfl g25) (OpL.binI rfl rfl rfl rfl) ?_
          refine .v rfl (met rfl rfl rfl g25) (OpL.binI rfl rfl rfl rfl) ?_
          refine .v rfl (met rfl rfl rfl g25) (OpL.binI rfl rfl rfl rfl) ?_
          refine .v rfl rfl (O.pickT g25 rfl rfl rfl) ?_
          refine .m rfl rfl rfl rfl ?_
          refine .m rfl (met rfl rfl rfl g26) rfl rfl ?_
          refine .m rfl (met rfl rfl rfl g26) rfl rfl ?_
          refine .v rfl (met rfl rfl rfl g26) (OpL.binI rfl rfl rfl rfl) ?_
          refine .v rfl rfl (O.pickT g26 rfl rfl rfl) ?_
          refine .m rfl rfl rfl rfl ?_
          refine .m rfl (met rfl rfl rfl g27) rfl rfl ?_
          refine .m rfl (met rfl rfl rfl g27) rfl rfl ?_
          refine .v rfl (met rfl rfl rfl g27) (OpL.binI rfl rfl rfl rfl) ?_
          refine .v rfl rfl (O.pickT g27 rfl rfl rfl) ?_
          refine .m rfl rfl rfl rfl ?_
          refine .x rfl (unmet rfl rfl rfl g28) ?_
          refine .v rfl rfl (O.pickF g28 rfl rfl rfl) ?_
          refine .a rfl rfl rfl rfl ?_
          refine .nil ?_
          exact toN (Gives.mkR [] (.c rfl (sbb (by first | (simp only [g25, g26, g27, g28, Bool.true_or, Bool.or_true, Bool.false_or, Bool.or_false, Bool.true_and, Bool.and_true, Bool.false_and, Bool.and_false, Bool.not_true, Bool.not_false, cond_true, cond_false]; done) | (repeat (first | rw [g25] | rw [g26] | rw [g27] | rw [g28])) <;> simp only [Bool.true_or, Bool.or_true, Bool.false_or, Bool.or_false, Bool.true_and, Bool.and_true, Bool.false_and, Bool.and_false, Bool.not_true, Bool.not_false, cond_true, cond_false])) rfl .n) .n rfl rfl rfl)
        ·refine W.pk ?_
         refine .m rfl rfl rfl rfl ?_
         refine .m rfl rfl rfl rfl ?_
         refine .m rfl rfl rfl rfl ?_
         refine .v rfl rfl (OpL.binI rfl rfl rfl rfl) ?_
         refine .v rfl rfl (OpL.binI rfl rfl rfl rfl) ?_
         refine .m rfl rfl rfl rfl ?_
         refine .m rfl (met rfl rfl rfl g25) rfl rfl ?_
         refine .m rfl (met rfl rfl rfl g25) rfl rfl ?_
         refine .m rfl (met rfl rfl rfl g25) rfl rfl ?_
         refine .v rfl (met rfl rfl rfl g25) (OpL.binI rfl rfl rfl rfl) ?_
         refine .v rfl (met rfl rfl rfl g25) (OpL.binI rfl rfl rfl rfl) ?_
         refine .v rfl (met rfl rfl rfl g25) (OpL.binI rfl rfl rfl rfl) ?_
         refine .v rfl rfl (O.pickT g25 rfl rfl rfl) ?_
         refine .m rfl rfl rfl rfl ?_
         refine .m rfl (met rfl rfl rfl g26) rfl rfl ?_
         refine .m rfl (met rfl rfl rfl g26) rfl rfl ?_
         refine .v rfl (met rfl rfl rfl g26) (OpL.binI rfl rfl rfl rfl) ?_
         refine .v rfl rfl (O.pickT g26 rfl rfl rfl) ?_
         refine .m rfl rfl rfl rfl ?_
         refine .x rfl (unmet rfl rfl rfl g27) ?_
         refine .x rfl (unmet rfl rfl rfl g27) ?_
         refine .x rfl (unmet rfl rfl rfl g27) ?_
         refine .v rfl rfl (O.pickF g27 rfl rfl rfl) ?_
         refine .m rfl rfl rfl rfl ?_
         refine .x rfl (unmet rfl rfl rfl rfl) ?_
         refine .v rfl rfl (O.pickF rfl rfl rfl rfl) ?_
         refine .a rfl rfl rfl rfl ?_
         refine .nil ?_
         exact toN (Gives.mkR [] (.c rfl (sbb (by first | (simp only [g25, g26, g27, Bool.true_or, Bool.or_true, Bool.false_or, Bool.or_false, Bool.true_and, Bool.and_true, Bool.false_and, Bool.and_false, Bool.not_true, Bool.not_false, cond_true, cond_false]; done) | (repeat (first | rw [g25] | rw [g26] | rw [g27])) <;> simp only [Bool.true_or, Bool.or_true, Bool.false_or, Bool.or_false, Bool.true_and, Bool.and_true, Bool.false_and, Bool.and_false, Bool.not_true, Bool.not_false, cond_true, cond_false])) rfl .n) .n rfl rfl rfl)
       ·refine W.pk ?_
        refine .m rfl rfl rfl rfl ?_
        refine .m rfl rfl rfl rfl ?_
        refine .m rfl rfl rfl rfl ?_
        refine .v rfl rfl (OpL.binI rfl rfl rfl rfl) ?_
        refine .v rfl rfl (OpL.binI rfl rfl rfl rfl) ?_
        refine .m rfl rfl rfl rfl ?_
        refine .m rfl (met rfl rfl rfl g25) rfl rfl ?_
        refine .m rfl (met rfl rfl rfl g25) rfl rfl ?_
        refine .m rfl (met rfl rfl rfl g25) rfl rfl ?_
        refine .v rfl (met rfl rfl rfl g25) (OpL.binI rfl rfl rfl rfl) ?_
        refine .v rfl (met rfl rfl rfl g25) (OpL.binI rfl rfl rfl rfl) ?_
        refine .v rfl (met rfl rfl rfl g25) (OpL.binI rfl rfl rfl rfl) ?_
        refine .v rfl rfl (O.pickT g25 rfl rfl rfl) ?_
        refine .m rfl rfl rfl rfl ?_
        refine .x rfl (unmet rfl rfl rfl g26) ?_
        refine .x rfl (unmet rfl rfl rfl g26) ?_
        refine .x rfl (unmet rfl rfl rfl g26) ?_
        refine .v rfl rfl (O.pickF g26 rfl rfl rfl) ?_
        refine .m rfl rfl rfl rfl ?_
        refine .x rfl (unmet rfl rfl rfl rfl) ?_
        refine .x rfl (unmet rfl rfl rfl rfl) ?_
        refine .x rfl (unmet rfl rfl rfl rfl) ?_
        refine .v rfl rfl (O.pickF rfl rfl rfl rfl) ?_
        refine .m rfl rfl rfl rfl ?_
        refine .x rfl (unmet rfl rfl rfl rfl) ?_
        refine .v rfl rfl (O.pickF rfl rfl rfl rfl) ?_
        refine .a rfl rfl rfl rfl ?_
        refine .nil ?_
        exact toN (Gives.mkR [] (.c rfl (sbb (by first | (simp only [g25, g26, Bool.true_or, Bool.or_true, Bool.false_or, Bool.or_false, Bool.true_and, Bool.and_true, Bool.false_and, Bool.and_false, Bool.not_true, Bool.not_false, cond_true, cond_false]; done) | (repeat (first | rw [g25] | rw [g26])) <;> simp only [Bool.true_or, Bool.or_true, Bool.false_or, Bool.or_false, Bool.true_and, Bool.and_true, Bool.false_and, Bool.and_false, Bool.not_true, Bool.not_false, cond_true, cond_false])) rfl .n) .n rfl rfl rfl)
      ·refine W.pk ?_
       refine .m rfl rfl rfl rfl ?_
       refine .m rfl rfl rfl rfl ?_
       refine .m rfl rfl rfl rfl ?_
       refine .v rfl rfl (OpL.binI rfl rfl rfl rfl) ?_
       refine .v rfl rfl (OpL.binI rfl rfl rfl rfl) ?_
       refine .m rfl rfl rfl rfl ?_
       refine .x rfl (unmet rfl rfl rfl g25) ?_
       refine .x rfl (unmet rfl rfl rfl g25) ?_
       refine .x rfl (unmet rfl rfl rfl g25) ?_
       refine .x rfl (unmet rfl rfl rfl g25) ?_
       refine .x rfl (unmet rfl rfl rfl g25) ?_
       refine .x rfl (unmet rfl rfl rfl g25) ?_
       refine .v rfl rfl (O.pickF g25 rfl rfl rfl) ?_
       refine .m rfl rfl rfl rfl ?_
       refine .x rfl (unmet rfl rfl rfl rfl) ?_
       refine .x rfl (unmet rfl rfl rfl rfl) ?_
       refine .x rfl (unmet rfl rfl rfl rfl) ?_
       refine .v rfl rfl (O.pickF rfl rfl rfl rfl) ?_
       refine .m rfl rfl rfl rfl ?_
       refine .x rfl (unmet rfl rfl rfl rfl) ?_
       refine .x rfl (unmet rfl rfl rfl rfl) ?_
       refine .x rfl (unmet rfl rfl rfl rfl) ?_
       refine .v rfl rfl (O.pickF rfl rfl rfl rfl) ?_
       refine .m rfl rfl rfl rfl ?_
       refine .x rfl (unmet rfl rfl rfl rfl) ?_
       refine .v rfl rfl (O.pickF rfl rfl rfl rfl) ?_
       refine .a rfl rfl rfl rfl ?_
       refine .nil ?_
       exact toN (Gives.mkR [] (.c rfl (sbb (by simp only [g25, Bool.true_or, Bool.or_true, Bool.false_or, Bool.or_false, Bool.true_and, Bool.and_true, Bool.false_and, Bool.and_false, Bool.not_true, Bool.not_false, cond_true, cond_false])) rfl .n) .n rfl rfl rfl)
   ·clear h
    rcases tf (t7.2 != 0) with g13 | g13
    ·refine W.pk ?_
     refine .m rfl rfl rfl rfl ?_
     refine .v rfl rfl (OpL.binI rfl rfl rfl rfl) ?_
     refine .m rfl rfl rfl rfl ?_
     refine .x rfl (unmet rfl rfl rfl g13) ?_
     refine .x rfl (unmet rfl rfl rfl g13) ?_
     refine .x rfl (unmet rfl rfl rfl g13) ?_
     refine .v rfl rfl (O.pickT g13 rfl rfl rfl) ?_
     refine .m rfl rfl rfl rfl ?_
     refine .x rfl (unmet rfl rfl rfl rfl) ?_
     refine .x rfl (unmet rfl rfl rfl rfl) ?_
     refine .x rfl (unmet rfl rfl rfl rfl) ?_
     refine .v rfl rfl (O.pickT rfl rfl rfl rfl) ?_
     refine .nil ?_
     exact toN (Gives.mkR [] (.r rfl rfl (.r rfl rfl (.r rfl rfl (.r rfl rfl (.r rfl rfl (.r rfl rfl (.c rfl (sbb (by simp only [g13, Bool.true_or, Bool.or_true, Bool.false_or, Bool.or_false, Bool.true_and, Bool.and_true, Bool.false_and, Bool.and_false, Bool.not_true, Bool.not_false, cond_true, cond_false])) rfl .n))))))) .n rfl rfl rfl)
    ·rcases tf (t9.2 != t7.2) with g14 | g14
     ·refine W.pk ?_
      refine .m rfl rfl rfl rfl ?_
      refine .v rfl rfl (OpL.binI rfl rfl rfl rfl) ?_
      refine .m rfl rfl rfl rfl ?_
      refine .m rfl (met rfl rfl rfl g13) rfl rfl ?_
      refine .m rfl (met rfl rfl rfl g13) rfl rfl ?_
      refine .v rfl (met rfl rfl rfl g13) (OpL.binI rfl rfl rfl rfl) ?_
      refine .v rfl rfl (O.pickF g13 rfl rfl rfl) ?_
      refine .m rfl rfl rfl rfl ?_
      refine .x rfl (unmet rfl rfl rfl g14) ?_
      refine .x rfl (unmet rfl rfl rfl g14) ?_
      refine .x rfl (unmet rfl rfl rfl g14) ?_
      refine .v rfl rfl (O.pickT g14 rfl rfl rfl) ?_
      refine .nil ?_
      exact toN (Gives.mkR [] (.r rfl rfl (.r rfl rfl (.r rfl rfl (.r rfl rfl (.r rfl rfl (.r rfl rfl (.c rfl (sbb (by first | (simp only [g13, g14, Bool.true_or, Bool.or_true, Bool.false_or, Bool.or_false, Bool.true_and, Bool.and_true, Bool.false_and, Bool.and_false, Bool.not_true, Bool.not_false, cond_true, cond_false]; done) | (repeat (first | rw [g13] | rw [g14])) <;> simp only [Bool.true_or, Bool.or_true, Bool.false_or, Bool.or_false, Bool.true_and, Bool.and_true, Bool.false_and, Bool.and_false, Bool.not_true, Bool.not_false, cond_true, cond_false])) rfl .n))))))) .n rfl rfl rfl)
     ·refine W.pk ?_
      refine .m rfl rfl rfl rfl ?_
      refine .v rfl rfl (OpL.binI rfl rfl rfl rfl) ?_
      refine .m rfl rfl rfl rfl ?_
      refine .m rfl (met rfl rfl rfl g13) rfl rfl ?_
      refine .m rfl (met rfl rfl rfl g13) rfl rfl ?_
      refine .v rfl (met rfl rfl rfl g13) (OpL.binI rfl rfl rfl rfl) ?_
      refine .v rfl rfl (O.pickF g13 rfl rfl rfl) ?_
      refine .m rfl rfl rfl rfl ?_
      refine .m rfl (met rfl rfl rfl g14) rfl rfl ?_
      refine .m rfl (met rfl rfl rfl g14) rfl rfl ?_
      refine .v rfl (met rfl rfl rfl g14) (OpL.binI rfl rfl rfl rfl) ?_
      refine .v rfl rfl (O.pickF g14 rfl rfl rfl) ?_
      refine .nil ?_
      exact toN (Gives.mkR [] (.r rfl rfl (.r rfl rfl (.r rfl rfl (.r rfl rfl (.r rfl rfl (.r rfl rfl (.c rfl (sbb (by first | (simp only [g13, g14, Bool.true_or, Bool.or_true, Bool.false_or, Bool.or_false, Bool.true_and, Bool.and_true, Bool.false_and, Bool.and_false, Bool.not_true, Bool.not_false, cond_true, cond_false]; done) | (repeat (first | rw [g13] | rw [g14])) <;> simp only [Bool.true_or, Bool.or_true, Bool.false_or, Bool.or_false, Bool.true_and, Bool.and_true, Bool.false_and, Bool.and_false, Bool.not_true, Bool.not_false, cond_true, cond_false])) rfl .n))))))) .n rfl rfl rfl)
 ·clear h
  rcases tf (decide (x0 < 0)) with g1 | g1
  ·refine W.pk ?_
   refine .m rfl rfl rfl rfl ?_
   refine .v rfl rfl (OpL.binI rfl rfl rfl rfl) ?_
   refine .m rfl rfl rfl rfl ?_
   refine .x rfl (unmet rfl rfl rfl g1) ?_
   refine .x rfl (unmet rfl rfl rfl g1) ?_
   refine .v rfl rfl (O.pickT g1 rfl rfl rfl) ?_
   refine .m rfl rfl rfl rfl ?_
   refine .x rfl (unmet rfl rfl rfl rfl) ?_
   refine .x rfl (unmet rfl rfl rfl rfl) ?_
   refine .v rfl rfl (O.pickT rfl rfl rfl rfl) ?_
   refine .m rfl rfl rfl rfl ?_
   refine .x rfl (unmet rfl rfl rfl rfl) ?_
   refine .x rfl (unmet rfl rfl rfl rfl) ?_
   refine .v rfl rfl (O.pickT rfl rfl rfl rfl) ?_
   refine .nil ?_
   exact toN (Gives.mkR [] (.r rfl rfl (.r rfl rfl (.r rfl rfl (.c rfl (sbb (by simp only [g1, Bool.true_or, Bool.or_true, Bool.false_or, Bool.or_false, Bool.true_and, Bool.and_true, Bool.false_and, Bool.and_false, Bool.not_true, Bool.not_false, cond_true, cond_false])) rfl .n)))) .n rfl rfl rfl)
  ·rcases tf (decide (x1 < 0)) with g2 | g2
   ·refine W.pk ?_
    refine .m rfl rfl rfl rfl ?_
    refine .v rfl rfl (OpL.binI rfl rfl rfl rfl) ?_
    refine .m rfl rfl rfl rfl ?_
    refine .m rfl (met rfl rfl rfl g1) rfl rfl ?_
    refine .v rfl (met rfl rfl rfl g1) (OpL.binI rfl rfl rfl rfl) ?_
    refine .v rfl rfl (O.pickF g1 rfl rfl rfl) ?_
    refine .m rfl rfl rfl rfl ?_
    refine .x rfl (unmet rfl rfl rfl g2) ?_
    refine .x rfl (unmet rfl rfl rfl g2) ?_
    refine .v rfl rfl (O.pickT g2 rfl rfl rfl) ?_
    refine .m rfl rfl rfl rfl ?_
    refine .x rfl (unmet rfl rfl rfl rfl) ?_
    refine .x rfl (unmet rfl rfl rfl rfl) ?_
    refine .v rfl rfl (O.pickT rfl rfl rfl rfl) ?_
    refine .nil ?_
    exact toN (Gives.mkR [] (.r rfl rfl (.r rfl rfl (.r rfl rfl (.c rfl (sbb (by first | (simp only [g1, g2, Bool.true_or, Bool.or_true, Bool.false_or, Bool.or_false, Bool.true_and, Bool.and_true, Bool.false_and, Bool.and_false, Bool.not_true, Bool.not_false, cond_true, cond_false]; done) | (repeat (first | rw [g1] | rw [g2])) <;> simp only [Bool.true_or, Bool.or_true, Bool.false_or, Bool.or_false, Bool.true_and, Bool.and_true, Bool.false_and, Bool.and_false, Bool.not_true, Bool.not_false, cond_true, cond_false])) rfl .n)))) .n rfl rfl rfl)
   ·rcases tf (decide (x0 > 562949953421312)) with g3 | g3
    ·refine W.pk ?_
     refine .m rfl rfl rfl rfl ?_
     refine .v rfl rfl (OpL.binI rfl rfl rfl rfl) ?_
     refine .m rfl rfl rfl rfl ?_
     refine .m rfl (met rfl rfl rfl g1) rfl rfl ?_
     refine .v rfl (met rfl rfl rfl g1) (OpL.binI rfl rfl rfl rfl) ?_
     refine .v rfl rfl (O.pickF g1 rfl rfl rfl) ?_
     refine .m rfl rfl rfl rfl ?_
     refine .m rfl (met rfl rfl rfl g2) rfl rfl ?_
     refine .v rfl (met rfl rfl rfl g2) (OpL.binI rfl rfl rfl rfl) ?_
     refine .v rfl rfl (O.pickF g2 rfl rfl rfl) ?_
     refine .m rfl rfl rfl rfl ?_
     refine .x rfl (unmet rfl rfl rfl g3) ?_
     refine .x rfl (unmet rfl rfl rfl g3) ?_
     refine .v rfl rfl (O.pickT g3 rfl rfl rfl) ?_
     refine .nil ?_
     exact toN (Gives.mkR [] (.r rfl rfl (.r rfl rfl (.r rfl rfl (.c rfl (sbb (by first | (simp only [g1, g2, g3, Bool.true_or, Bool.or_true, Bool.false_or, Bool.or_false, Bool.true_and, Bool.and_true, Bool.false_and, Bool.and_false, Bool.not_true, Bool.not_false, cond_true, cond_false]; done) | (repeat (first | rw [g1] | rw [g2] | rw [g3])) <;> simp only [Bool.true_or, Bool.or_true, Bool.false_or, Bool.or_false, Bool.true_and, Bool.and_true, Bool.false_and, Bool.and_false, Bool.not_true, Bool.not_false, cond_true, cond_false])) rfl .n)))) .n rfl rfl rfl)
    ·refine W.pk ?_
     refine .m rfl rfl rfl rfl ?_
     refine .v rfl rfl (OpL.binI rfl rfl rfl rfl) ?_
     refine .m rfl rfl rfl rfl ?_
     refine .m rfl (met rfl rfl rfl g1) rfl rfl ?_
     refine .v rfl (met rfl rfl rfl g1) (OpL.binI rfl rfl rfl rfl) ?_
     refine .v rfl rfl (O.pickF g1 rfl rfl rfl) ?_
     refine .m rfl rfl rfl rfl ?_
     refine .m rfl (met rfl rfl rfl g2) rfl rfl ?_
     refine .v rfl (met rfl rfl rfl g2) (OpL.binI rfl rfl rfl rfl) ?_
     refine .v rfl rfl (O.pickF g2 rfl rfl rfl) ?_
     refine .m rfl rfl rfl rfl ?_
     refine .m rfl (met rfl rfl rfl g3) rfl rfl ?_
     refine .v rfl (met rfl rfl rfl g3) (OpL.binI rfl rfl rfl rfl) ?_
     refine .v rfl rfl (O.pickF g3 rfl rfl rfl) ?_
     refine .nil ?_
     exact toN (Gives.mkR [] (.r rfl rfl (.r rfl rfl (.r rfl rfl (.c rfl (sbb (by first | (simp only [g1, g2, g3, Bool.true_or, Bool.or_true, Bool.false_or, Bool.or_false, Bool.true_and, Bool.and_true, Bool.false_and, Bool.and_false, Bool.not_true, Bool.not_false, cond_true, cond_false]; done) | (repeat (first | rw [g1] | rw [g2] | rw [g3])) <;> simp only [Bool.true_or, Bool.or_true, Bool.false_or, Bool.or_false, Bool.true_and, Bool.and_true, Bool.false_and, Bool.and_false, Bool.not_true, Bool.not_false, cond_true, cond_false])) rfl .n)))) .n rfl rfl rfl)

noncomputable def asset_New.f  : Option (asset_Book) :=
  some (⟨[], [], true⟩ : asset_Book)
set_option maxRecDepth 100000 in
set_option maxHeartbeats 4000000 in
theorem asset_New.ok  {r : asset_Book} (h : asset_New.f  = some r) : Pm.Spec prog 20 [] (.xbox [.xown 29 5 (List.map api_Asset.enc r.l), .xown 3 1 (List.map (encI .i64) r.prices), .imm (.val (.bool r.made))]) [] := by
 unfold asset_New.f at h
 refine Pm.Spec.of_body Try.func20 rfl (by kernel_rfl) (Nat.le_of_ble_eq_true rfl) (Nat.le_of_ble_eq_true rfl) ?_
 refine W.ghost (σ' := (mkSt [] [] 1000)) (Gives.entry .n .n) ?_
 refine W.seq ?_
 refine W.pk ?_
 refine .a rfl rfl rfl rfl ?_
 refine .nil ?_
 refine W.seq ?_
 refine W.pk ?_
 refine .v rfl rfl (O.build (out := [.imm (.val (.slice none 0 0)), .imm (.val (.slice none 0 0)), .b true]) bl71 rfl rfl rfl rfl (by kernel_rfl)) ?_
 refine .t rfl rfl (O.box rfl rfl rfl rfl rfl) ?_
 refine .a rfl rfl rfl rfl ?_
 refine .nil ?_
 refine W.ret ?_
 cases h
 exact leaves (.inr rfl) rfl (.ptr _ _ _ _ _ rfl (cC (.nilown _ _) (cC (.nilown _ _) (cC (.imm _) .nil)))) .nil rfl rfl

noncomputable def lombardref05_digits.b0 (x0 : Bs) (v18 : Int) (v19 : List Int) : Option ((Int × (List Int)) ⊕ (((List Int) × Bool) ⊕ (List Int))) :=
  if (decide (v18 < (List.length x0 : Int))) = true then
    if (0 : Int) ≤ v18 ∧ v18 < (List.length x0 : Int) then
    if ((decide ((IntKind.wrap .i64 (byte x0 v18)) ≥ 48)) && (decide ((IntKind.wrap .i64 (byte x0 v18)) ≤ 57))) = true then
      if (List.length v19 + List.length [(IntKind.wrap .i64 ((IntKind.wrap .i64 (byte x0 v18)) - 48))]) * 8 ≤ 140737488355328 then
      some (.inl ((IntKind.wrap .i64 (v18 + 1)), (v19 ++ [(IntKind.wrap .i64 ((IntKind.wrap .i64 (byte x0 v18)) - 48))])))
      else none
    else
      if ((decide ((IntKind.wrap .i64 (byte x0 v18)) ≥ 65)) && (decide ((IntKind.wrap .i64 (byte x0 v18)) ≤ 90))) = true then
        if (List.length v19 + List.length [(IntKind.wrap .i64 (Int.tdiv (IntKind.wrap .i64 ((IntKind.wrap .i64 ((IntKind.wrap .i64 (byte x0 v18)) - 65)) + 10)) 10)), (Int.tmod (IntKind.wrap .i64 ((IntKind.wrap .i64 ((IntKind.wrap .i64 (byte x0 v18)) - 65)) + 10)) 10)]) * 8 ≤ 140737488355328 then
        some (.inl ((IntKind.wrap .i64 (v18 + 1)), (v19 ++ [(IntKind.wrap .i64 (Int.tdiv (IntKind.wrap .i64 ((IntKind.wrap .i64 ((IntKind.wrap .i64 (byte x0 v18)) - 65)) + 10)) 10)), (Int.tmod (IntKind.wrap .i64 ((IntKind.wrap .i64 ((IntKind.wrap .i64 (byte x0 v18)) - 65)) + 10)) 10)])))
        else none
      else
        some (.inr (.inl ([], false)))
    else none
  else
    some (.inr (.inr v19))
noncomputable def lombardref05_digits.r0 (x0 : Bs) (s : Int × (List Int)) : Option ((Int × (List Int)) ⊕ (((List Int) × Bool) ⊕ (List Int))) := lombardref05_digits.b0 x0 s.1 s.2
noncomputable def lombardref05_digits.f (x0 : Bs) : Option ((List Int) × Bool) :=
  (loop (lombardref05_digits.r0 x0) (0, [])).bind fun o37 =>
  match o37 with
  | .inl r48 => some r48
  | .inr w36 =>
    some (w36, true)
set_option maxRecDepth 100000 in
set_option maxHeartbeats 4000000 in
theorem lombardref05_digits.ok {x0 : Bs} {r : (List Int) × Bool} (h : lombardref05_digits.f x0 = some r) : Pm.Spec prog 82 [.imm (.val (.string (tx x0)))] (.tup [.xown 3 1 (List.map (encI .i64) r.1), .imm (.val (.bool r.2))]) [none] := by
 unfold lombardref05_digits.f at h
 refine Pm.Spec.of_body Try.func82 rfl (by kernel_rfl) (Nat.le_of_ble_eq_true rfl) (Nat.le_of_ble_eq_true rfl) ?_
 refine W.ghost (σ' := (mkSt [(0, some (.s x0))] [] 1000)) (Gives.entry (.c rfl .n) .n) ?_
 refine W.seq ?_
 refine W.pk ?_
 refine .a rfl rfl rfl rfl ?_
 refine .a rfl rfl rfl rfl ?_
 refine .nil ?_
 refine W.seq ?_
 refine W.pk ?_
 refine .a rfl rfl rfl rfl ?_
 refine .nil ?_
 refine W.seq ?_
 refine W.seq ?_
 refine W.pk ?_
 refine .a rfl rfl rfl rfl ?_
 refine .nil ?_
 refine W.ghost (Gives.mintS 4 3 1 rfl) ?_
 obtain ⟨o37, b38, z39⟩ := bnd1 h
 refine W.fork2 (out := o37) (fun (w36 : List Int) => mkSt [(4, some (.own 1000))] [(1000, some (.rows 3 1 (List.map (encI .i64) w36) false))] 1001) ?_ ?_
 ·clear h
  refine W.block ?_
  refine W.loopF (fun (s_ : Int × (List Int)) => mkSt [(0, some (.s x0)), (4, some (.own 1000)), (5, some (.i s_.1))] [(1000, some (.rows 3 1 (List.map (encI .i64) s_.2) false))] 1001) b38 (Gives.mkR [] (.r rfl rfl (.r rfl rfl (.r rfl rfl .n))) (.r rfl rfl rfl .n) rfl rfl rfl) ?_
  rintro ⟨v18, v19⟩ s_ hr
  have h : lombardref05_digits.b0 x0 v18 v19 = some s_ := hr
  unfold lombardref05_digits.b0 at h
  refine W.seq ?_
  refine W.seq ?_
  refine W.pk ?_
  refine .m rfl rfl rfl rfl ?_
  refine .m rfl rfl rfl rfl ?_
  refine .v rfl rfl (O.lenS u9 rfl rfl) ?_
  refine .v rfl rfl (OpL.binI rfl rfl rfl rfl) ?_
  refine .nil ?_
  refine W.cond rfl (fun q40 => ?_) (fun q40 => ?_)
  ·have h := ifT q40 h
   refine W.skip ?_
   refine W.seq ?_
   refine W.block ?_
   refine W.seq ?_
   obtain ⟨c41, h⟩ := chk h
   refine W.pk ?_
   refine .m rfl rfl rfl rfl ?_
   refine .m rfl rfl rfl rfl ?_
   refine .v rfl rfl (O.idxS u9 c41 rfl rfl rfl) ?_
   refine .v rfl rfl (O.conv h5 u3 rfl rfl) ?_
   refine .a rfl rfl rfl rfl ?_
   refine .nil ?_
   refine W.seq ?_
   refine W.fork (mkSt [(0, some (.s x0)), (4, some (.own 1000)), (5, some (.i v18)), (6, some (.i (IntKind.wrap .i64 (byte x0 v18)))), (22, some (.b ((decide ((IntKind.wrap .i64 (byte x0 v18)) ≥ 48)) && (decide ((IntKind.wrap .i64 (byte x0 v18)) ≤ 57)))))] [(1000, some (.rows 3 1 (List.map (encI .i64) v19) false))] 1001) ?_ ?_
   ·refine W.cond rfl (fun q43 => ?_) (fun q43 => ?_)
    ·have h := ifT q43 h
     obtain ⟨c44, h⟩ := chk h
     refine W.pk ?_
     refine .m rfl rfl rfl rfl ?_
     refine .m rfl rfl rfl rfl ?_
     refine .v rfl rfl (OpL.binI rfl rfl rfl rfl) ?_
     refine .t rfl rfl (O.lit (enc := (encI .i64)) (l := [(IntKind.wrap .i64 ((IntKind.wrap .i64 (byte x0 v18)) - 48))]) sl69 rfl rfl rfl rfl rfl rfl rfl rfl rfl) ?_
     refine .t rfl rfl (O.appO sl69 (EncOk.int .i64) c44 rfl rfl rfl rfl rfl) ?_
     refine .a rfl rfl rfl rfl ?_
     refine .nil ?_
     refine W.pk ?_
     refine .m rfl rfl rfl rfl ?_
     refine .v rfl rfl (OpL.binI rfl rfl rfl rfl) ?_
     refine .a rfl rfl rfl rfl ?_
     refine .nil ?_
     cases h
     exact rdN (Gives.mkR [(1000, 1002)] (.r rfl rfl (.r rfl rfl (.r rfl rfl .n))) (.r rfl rfl rfl .n) rfl rfl rfl)
    ·have h := ifF q43 h
     refine W.seq ?_
     refine W.fork (mkSt [(0, some (.s x0)), (4, some (.own 1000)), (5, some (.i v18)), (6, some (.i (IntKind.wrap .i64 (byte x0 v18)))), (33, some (.b ((decide ((IntKind.wrap .i64 (byte x0 v18)) ≥ 65)) && (decide ((IntKind.wrap .i64 (byte x0 v18)) ≤ 90)))))] [(1000, some (.rows 3 1 (List.map (encI .i64) v19) false))] 1001) ?_ ?_
     ·refine W.cond rfl (fun q46 => ?_) (fun q46 => ?_)
      ·have h := ifT q46 h
       obtain ⟨c47, h⟩ := chk h
       refine W.pk ?_
       refine .m rfl rfl rfl rfl ?_
       refine .m rfl rfl rfl rfl ?_
       refine .v rfl rfl (OpL.binI rfl rfl rfl rfl) ?_
       refine .v rfl rfl (OpL.binI rfl rfl rfl rfl) ?_
       refine .v rfl rfl (O.quo rfl rfl rfl (by decide)) ?_
       refine .m rfl rfl rfl rfl ?_
       refine .v rfl rfl (OpL.binI rfl rfl rfl rfl) ?_
       refine .v rfl rfl (OpL.binI rfl rfl rfl rfl) ?_
       refine .v rfl rfl (O.rem rfl rfl rfl (by decide)) ?_
       refine .t rfl rfl (O.lit (enc := (encI .i64)) (l := [(IntKind.wrap .i64 (Int.tdiv (IntKind.wrap .i64 ((IntKind.wrap .i64 ((IntKind.wrap .i64 (byte x0 v18)) - 65)) + 10)) 10)), (Int.tmod (IntKind.wrap .i64 ((IntKind.wrap .i64 ((IntKind.wrap .i64 (byte x0 v18)) - 65)) + 10)) 10)]) sl69 rfl rfl rfl rfl rfl rfl rfl rfl rfl) ?_
       refine .t rfl rfl (O.appO sl69 (EncOk.int .i64) c47 rfl rfl rfl rfl rfl) ?_
       refine .a rfl rfl rfl rfl ?_
       refine .nil ?_
       refine W.pk ?_
       refine .m rfl rfl rfl rfl ?_
       refine .v rfl rfl (OpL.binI rfl rfl rfl rfl) ?_
       refine .a rfl rfl rfl rfl ?_
       refine .nil ?_
       cases h
       exact rdN (Gives.mkR [(1000, 1002)] (.r rfl rfl (.r rfl rfl (.r rfl rfl .n))) (.r rfl rfl rfl .n) rfl rfl rfl)
      ·have h := ifF q46 h
       refine W.seq ?_
       refine W.pk ?_
       refine .a rfl rfl rfl rfl ?_
       refine .a rfl rfl rfl rfl ?_
       refine .nil ?_
       refine W.ret ?_
       cases h
       refine rdR fun e_ => ?_
       subst e_
       have h := z39
       dsimp only at h
       refine fkR ?_
       cases h
       exact leaves (.inr rfl) rfl (.tup _ _ _ _ (cC (.nilown _ _) (cC (.imm _) .nil))) (cN .nil) rfl rfl
     ·clear h
      rcases tf (decide ((IntKind.wrap .i64 (byte x0 v18)) ≥ 65)) with g45 | g45
      ·refine W.pk ?_
       refine .m rfl rfl rfl rfl ?_
       refine .v rfl rfl (OpL.binI rfl rfl rfl rfl) ?_
       refine .m rfl rfl rfl rfl ?_
       refine .m rfl (met rfl rfl rfl g45) rfl rfl ?_
       refine .v rfl (met rfl rfl rfl g45) (OpL.binI rfl rfl rfl rfl) ?_
       refine .v rfl rfl (O.pickT g45 rfl rfl rfl) ?_
       refine .nil ?_
       exact toN (Gives.mkR [] (.r rfl rfl (.r rfl rfl (.r rfl rfl (.r rfl rfl (.c rfl (sbb (by simp only [g45, Bool.true_or, Bool.or_true, Bool.false_or, Bool.or_false, Bool.true_and, Bool.and_true, Bool.false_and, Bool.and_false, Bool.not_true, Bool.not_false, cond_true, cond_false])) rfl .n))))) (.r rfl rfl rfl .n) rfl rfl rfl)
      ·refine W.pk ?_
       refine .m rfl rfl rfl rfl ?_
       refine .v rfl rfl (OpL.binI rfl rfl rfl rfl) ?_
       refine .m rfl rfl rfl rfl ?_
       refine .x rfl (unmet rfl rfl rfl g45) ?_
       refine .x rfl (unmet rfl rfl rfl g45) ?_
       refine .v rfl rfl (O.pickF g45 rfl rfl rfl) ?_
       refine .nil ?_
       exact toN (Gives.mkR [] (.r rfl rfl (.r rfl rfl (.r rfl rfl (.r rfl rfl (.c rfl (sbb (by simp only [g45, Bool.true_or, Bool.or_true, Bool.false_or, Bool.or_false, Bool.true_and, Bool.and_true, Bool.false_and, Bool.and_false, Bool.not_true, Bool.not_false, cond_true, cond_false])) rfl .n))))) (.r rfl rfl rfl .n) rfl rfl rfl)
   ·clear h
    rcases tf (decide ((IntKind.wrap .i64 (byte x0 v18)) ≥ 48)) with g42 | g42
    ·refine W.pk ?_
     refine .m rfl rfl rfl rfl ?_
     refine .v rfl rfl (OpL.binI rfl rfl rfl rfl) ?_
     refine .m rfl rfl rfl rfl ?_
     refine .m rfl (met rfl rfl rfl g42) rfl rfl ?_
     refine .v rfl (met rfl rfl rfl g42) (OpL.binI rfl rfl rfl rfl) ?_
     refine .v rfl rfl (O.pickT g42 rfl rfl rfl) ?_
     refine .nil ?_
     exact toN (Gives.mkR [] (.r rfl rfl (.r rfl rfl (.r rfl rfl (.r rfl rfl (.c rfl (sbb (by simp only [g42, Bool.true_or, Bool.or_true, Bool.false_or, Bool.or_false, Bool.true_and, Bool.and_true, Bool.false_and, Bool.and_false, Bool.not_true, Bool.not_false, cond_true, cond_false])) rfl .n))))) (.r rfl rfl rfl .n) rfl rfl rfl)
    ·refine W.pk ?_
     refine .m rfl rfl rfl rfl ?_
     refine .v rfl rfl (OpL.binI rfl rfl rfl rfl) ?_
     refine .m rfl rfl rfl rfl ?_
     refine .x rfl (unmet rfl rfl rfl g42) ?_
     refine .x rfl (unmet rfl rfl rfl g42) ?_
     refine .v rfl rfl (O.pickF g42 rfl rfl rfl) ?_
     refine .nil ?_
     exact toN (Gives.mkR [] (.r rfl rfl (.r rfl rfl (.r rfl rfl (.r rfl rfl (.c rfl (sbb (by simp only [g42, Bool.true_or, Bool.or_true, Bool.false_or, Bool.or_false, Bool.true_and, Bool.and_true, Bool.false_and, Bool.and_false, Bool.not_true, Bool.not_false, cond_true, cond_false])) rfl .n))))) (.r rfl rfl rfl .n) rfl rfl rfl)
  ·have h := ifF q40 h
   refine W.exit ?_
   cases h
   refine rdX fun e_ => ?_
   subst e_
   repeat with_reducible refine thru ?_
   refine hit ?_
   exact fkN (Gives.mkR [] (.r rfl rfl .n) (.r rfl rfl rfl .n) rfl rfl rfl)
 ·intro w36 e_
  subst e_
  clear h
  have h := z39
  dsimp only at h
  refine W.seq ?_
  refine W.pk ?_
  refine .m rfl rfl rfl rfl ?_
  refine .a rfl rfl rfl rfl ?_
  refine .a rfl rfl rfl rfl ?_
  refine .nil ?_
  refine W.ret ?_
  cases h
  exact leaves (.inr rfl) rfl (.tup _ _ _ _ (cC (.own _ _ _ _ rfl) (cC (.imm _) .nil))) (cN .nil) rfl rfl

noncomputable def lombardref05_shaped.f (x0 : Bs) : Option (Bool) :=
  (lombardref05_digits.f x0).bind fun t1 =>
  if ((t1.2 && ((List.length x0 : Int) == 11)) = true → (0 : Int) ≤ 0 ∧ 0 < (List.length x0 : Int)) then
  if (((t1.2 && ((List.length x0 : Int) == 11)) && (decide ((byte x0 0) ≥ 65))) = true → (0 : Int) ≤ 1 ∧ 1 < (List.length x0 : Int)) then
  some (((t1.2 && ((List.length x0 : Int) == 11)) && (decide ((byte x0 0) ≥ 65))) && (decide ((byte x0 1) ≥ 65)))
  else none
  else none
set_option maxRecDepth 100000 in
set_option maxHeartbeats 4000000 in
theorem lombardref05_shaped.ok {x0 : Bs} {r : Bool} (h : lombardref05_shaped.f x0 = some r) : Pm.Spec prog 76 [.imm (.val (.string (tx x0)))] (.imm (.val (.bool r))) [none] := by
 unfold lombardref05_shaped.f at h
 refine Pm.Spec.of_body Try.func76 rfl (by kernel_rfl) (Nat.le_of_ble_eq_true rfl) (Nat.le_of_ble_eq_true rfl) ?_
 refine W.ghost (σ' := (mkSt [(0, some (.s x0))] [] 1000)) (Gives.entry (.c rfl .n) .n) ?_
 refine W.seq ?_
 refine W.pk ?_
 refine .a rfl rfl rfl rfl ?_
 refine .nil ?_
 refine W.seq ?_
 obtain ⟨t1, b2, h⟩ := bnd1 h
 refine W.pk ?_
 refine .m rfl rfl rfl rfl ?_
 refine .call (.tup [.own 1000, .b t1.2]) [(1000, some (.rows 3 1 (List.map (encI .i64) t1.1) false))] 1 (lombardref05_digits.ok b2) rfl rfl rfl ca82 rfl rfl (cC (.imm _) .nil) rfl rfl rfl rfl rfl ?_
 refine .m rfl rfl rfl rfl ?_
 refine .v rfl rfl (OpL.extract rfl rfl rfl) ?_
 refine .v rfl rfl (OpL.extract rfl rfl rfl) ?_
 refine .a rfl rfl rfl rfl ?_
 refine .a rfl rfl rfl rfl ?_
 refine .nil ?_
 refine W.seq ?_
 obtain ⟨c3, h⟩ := chk h
 obtain ⟨c4, h⟩ := chk h
 refine W.fork (mkSt [(2, some (.b (((t1.2 && ((List.length x0 : Int) == 11)) && (decide ((byte x0 0) ≥ 65))) && (decide ((byte x0 1) ≥ 65)))))] [] 1001) ?_ ?_
 ·refine W.ret ?_
  cases h
  exact leaves (.inr rfl) rfl (.imm _) (cN .nil) rfl rfl
 ·clear h
  rcases tf t1.2 with g5 | g5
  ·rcases tf ((List.length x0 : Int) == 11) with g6 | g6
   ·rcases tf (decide ((byte x0 0) ≥ 65)) with g7 | g7
    ·refine W.pk ?_
     refine .m rfl rfl rfl rfl ?_
     refine .m rfl rfl rfl rfl ?_
     refine .m rfl (met rfl rfl rfl g5) rfl rfl ?_
     refine .v rfl (met rfl rfl rfl g5) (O.lenS u9 rfl rfl) ?_
     refine .v rfl (met rfl rfl rfl g5) (OpL.binI rfl rfl rfl rfl) ?_
     refine .v rfl rfl (O.pickT g5 rfl rfl rfl) ?_
     refine .m rfl rfl rfl rfl ?_
     refine .m rfl (met rfl rfl rfl g6) rfl rfl ?_
     refine .v rfl (met rfl rfl rfl g6) (O.idxS u9 (c3 (by first | (simp only [g5, g6, g7, Bool.true_or, Bool.or_true, Bool.false_or, Bool.or_false, Bool.true_and, Bool.and_true, Bool.false_and, Bool.and_false, Bool.not_true, Bool.not_false, cond_true, cond_false]; done) | (repeat (first | rw [g5] | rw [g6] | rw [g7])) <;> simp only [Bool.true_or, Bool.or_true, Bool.false_or, Bool.or_false, Bool.true_and, Bool.and_true, Bool.false_and, Bool.and_false, Bool.not_true, Bool.not_false, cond_true, cond_false])) rfl rfl rfl) ?_
     refine .v rfl (met rfl rfl rfl g6) (OpL.binI rfl rfl rfl rfl) ?_
     refine .v rfl rfl (O.pickT g6 rfl rfl rfl) ?_
     refine .m rfl rfl rfl rfl ?_
     refine .m rfl (met rfl rfl rfl g7) rfl rfl ?_
     refine .v rfl (met rfl rfl rfl g7) (O.idxS u9 (c4 (by first | (simp only [g5, g6, g7, Bool.true_or, Bool.or_true, Bool.false_or, Bool.or_false, Bool.true_and, Bool.and_true, Bool.false_and, Bool.and_false, Bool.not_true, Bool.not_false, cond_true, cond_false]; done) | (repeat (first | rw [g5] | rw [g6] | rw [g7])) <;> simp only [Bool.true_or, Bool.or_true, Bool.false_or, Bool.or_false, Bool.true_and, Bool.and_true, Bool.false_and, Bool.and_false, Bool.not_true, Bool.not_false, cond_true, cond_false])) rfl rfl rfl) ?_
     refine .v rfl (met rfl rfl rfl g7) (OpL.binI rfl rfl rfl rfl) ?_
     refine .v rfl rfl (O.pickT g7 rfl rfl rfl) ?_
     refine .a rfl rfl rfl rfl ?_
     refine .nil ?_
     exact toN (Gives.mkR [] (.c rfl (sbb (by first | (simp only [g5, g6, g7, Bool.true_or, Bool.or_true, Bool.false_or, Bool.or_false, Bool.true_and, Bool.and_true, Bool.false_and, Bool.and_false, Bool.not_true, Bool.not_false, cond_true, cond_false]; done) | (repeat (first | rw [g5] | rw [g6] | rw [g7])) <;> simp only [Bool.true_or, Bool.or_true, Bool.false_or, Bool.or_false, Bool.true_and, Bool.and_true, Bool.false_and, Bool.and_false, Bool.not_true, Bool.not_false, cond_true, cond_false])) rfl .n) .n rfl rfl rfl)
    ·refine W.pk ?_
     refine .m rfl rfl rfl rfl ?_
     refine .m rfl rfl rfl rfl ?_
     refine .m rfl (met rfl rfl rfl g5) rfl rfl ?_
     refine .v rfl (met rfl rfl rfl g5) (O.lenS u9 rfl rfl) ?_
     refine .v rfl (met rfl rfl rfl g5) (OpL.binI rfl rfl rfl rfl) ?_
     refine .v rfl rfl (O.pickT g5 rfl rfl rfl) ?_
     refine .m rfl rfl rfl rfl ?_
     refine .m rfl (met rfl rfl rfl g6) rfl rfl ?_
     refine .v rfl (met rfl rfl rfl g6) (O.idxS u9 (c3 (by first | (simp only [g5, g6, g7, Bool.true_or, Bool.or_true, Bool.false_or, Bool.or_false, Bool.true_and, Bool.and_true, Bool.false_and, Bool.and_false, Bool.not_true, Bool.not_false, cond_true, cond_false]; done) | (repeat (first | rw [g5] | rw [g6] | rw [g7])) <;> simp only [Bool.true_or, Bool.or_true, Bool.false_or, Bool.or_false, Bool.true_and, Bool.and_true, Bool.false_and, Bool.and_false, Bool.not_true, Bool.not_false, cond_true, cond_false])) rfl rfl rfl) ?_
     refine .v rfl (met rfl rfl rfl g6) (OpL.binI rfl rfl rfl rfl) ?_
     refine .v rfl rfl (O.pickT g6 rfl rfl rfl) ?_
     refine .m rfl rfl rfl rfl ?_
     refine .x rfl (unmet rfl rfl rfl g7) ?_
     refine .x rfl (unmet rfl rfl rfl g7) ?_
     refine .x rfl (unmet rfl rfl rfl g7) ?_
     refine .v rfl rfl (O.pickF g7 rfl rfl rfl) ?_
     refine .a rfl rfl rfl rfl ?_
     refine .nil ?_
     exact toN (Gives.mkR [] (.c rfl (sbb (by first | (simp only [g5, g6, g7, Bool.true_or, Bool.or_true, Bool.false_or, Bool.or_false, Bool.true_and, Bool.and_true, Bool.false_and, Bool.and_false, Bool.not_true, Bool.not_false, cond_true, cond_false]; done) | (repeat (first | rw [g5] | rw [g6] | rw [g7])) <;> simp only [Bool.true_or, Bool.or_true, Bool.false_or, Bool.or_false, Bool.true_and, Bool.and_true, Bool.false_and, Bool.and_false, Bool.not_true, Bool.not_false, cond_true, cond_false])) rfl .n) .n rfl rfl rfl)
   ·refine W.pk ?_
    refine .m rfl rfl rfl rfl ?_
    refine .m rfl rfl rfl rfl ?_
    refine .m rfl (met rfl rfl rfl g5) rfl rfl ?_
    refine .v rfl (met rfl rfl rfl g5) (O.lenS u9 rfl rfl) ?_
    refine .v rfl (met rfl rfl rfl g5) (OpL.binI rfl rfl rfl rfl) ?_
    refine .v rfl rfl (O.pickT g5 rfl rfl rfl) ?_
    refine .m rfl rfl rfl rfl ?_
    refine .x rfl (unmet rfl rfl rfl g6) ?_
    refine .x rfl (unmet rfl rfl rfl g6) ?_
    refine .x rfl (unmet rfl rfl rfl g6) ?_
    refine .v rfl rfl (O.pickF g6 rfl rfl rfl) ?_
    refine .m rfl rfl rfl rfl ?_
    refine .x rfl (unmet rfl rfl rfl rfl) ?_
    refine .x rfl (unmet rfl rfl rfl rfl) ?_
    refine .x rfl (unmet rfl rfl rfl rfl) ?_
    refine .v rfl rfl (O.pickF rfl rfl rfl rfl) ?_
    refine .a rfl rfl rfl rfl ?_
    refine .nil ?_
    exact toN (Gives.mkR [] (.c rfl (sbb (by first | (simp only [g5, g6, Bool.true_or, Bool.or_true, Bool.false_or, Bool.or_false, Bool.true_and, Bool.and_true, Bool.false_and, Bool.and_false, Bool.not_true, Bool.not_false, cond_true, cond_false]; done) | (repeat (first | rw [g5] | rw [g6])) <;> simp only [Bool.true_or, Bool.or_true, Bool.false_or, Bool.or_false, Bool.true_and, Bool.and_true, Bool.false_and, Bool.and_false, Bool.not_true, Bool.not_false, cond_true, cond_false])) rfl .n) .n rfl rfl rfl)
  ·refine W.pk ?_
   refine .m rfl rfl rfl rfl ?_
   refine .m rfl rfl rfl rfl ?_
   refine .x rfl (unmet rfl rfl rfl g5) ?_
   refine .x rfl (unmet rfl rfl rfl g5) ?_
   refine .x rfl (unmet rfl rfl rfl g5) ?_
   refine .v rfl rfl (O.pickF g5 rfl rfl rfl) ?_
   refine .m rfl rfl rfl rfl ?_
   refine .x rfl (unmet rfl rfl rfl rfl) ?_
   refine .x rfl (unmet rfl rfl rfl rfl) ?_
   refine .x rfl (unmet rfl rfl rfl rfl) ?_
   refine .v rfl rfl (O.pickF rfl rfl rfl rfl) ?_
   refine .m rfl rfl rfl rfl ?_
   refine .x rfl (unmet rfl rfl rfl rfl) ?_
   refine .x rfl (unmet rfl rfl rfl rfl) ?_
   refine .x rfl (unmet rfl rfl rfl rfl) ?_
   refine .v rfl rfl (O.pickF rfl rfl rfl rfl) ?_
   refine .a rfl rfl rfl rfl ?_
   refine .nil ?_
   exact toN (Gives.mkR [] (.c rfl (sbb (by simp only [g5, Bool.true_or, Bool.or_true, Bool.false_or, Bool.or_false, Bool.true_and, Bool.and_true, Bool.false_and, Bool.and_false, Bool.not_true, Bool.not_false, cond_true, cond_false])) rfl .n) .n rfl rfl rfl)
end Go.Proofs.Ytkcjlpiaaklnkaa
