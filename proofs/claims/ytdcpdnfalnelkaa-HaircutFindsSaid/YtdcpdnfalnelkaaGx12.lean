/- Shows what functions of the program come to, each as a plain function: written by a program of the author's for this claim. -/
import Derived.Test.YtdcpdnfalnelkaaGx11
namespace Go.Proofs.Ytdcpdnfalnelkaa
open Go Go.Pm
set_option linter.unusedVariables false
set_option linter.unusedSimpArgs false
noncomputable def lombardref01_MulDiv.f (x0 : Int) (x1 : Int) (x2 : Int) (x3 : Int) : Option (Int × Int) :=
  if (((x2 == 0) || (decide (x3 < 1))) || (decide (x3 > 4))) = true then
    some (0, 1)
  else
    (lombardref01_size.f x0).bind fun t4 =>
    (lombardref01_size.f x1).bind fun t6 =>
    (lombardref01_Mul.f t4 t6).bind fun t8 =>
    (lombardref01_size.f x2).bind fun t10 =>
    (lombardref01_Div.f t8 t10).bind fun t12 =>
    ((
      if (decide ((List.length t12.2 : Int) > 0)) = true then
        (lombardref01_Add.f t12.2 t12.2).bind fun t41 =>
        (lombardref01_size.f x2).bind fun t43 =>
        (lombardref01_Compare.f t41 t43).bind fun t45 =>
        if ((decide ((List.length t12.1 : Int) > 0)) = true → (0 : Int) ≤ 0 ∧ 0 < (List.length t12.1 : Int)) then
        some ((((x3 == 1) && (!((!((decide (x0 < 0)) == (decide (x1 < 0)))) == (decide (x2 < 0))))) || ((x3 == 2) && (!(!((!((decide (x0 < 0)) == (decide (x1 < 0)))) == (decide (x2 < 0))))))) || ((x3 == 4) && ((decide (t45 > 0)) || ((t45 == 0) && ((decide ((List.length t12.1 : Int) > 0)) && ((Int.tmod (nth t12.1 0) 2) == 1))))))
        else none
      else
        some false : Option (Bool))).bind fun o38 =>
    ((
      if o38 = true then
        (lombardref01_Of.f 1).bind fun t72 =>
        (lombardref01_Add.f t12.1 t72).bind fun t74 =>
        some t74
      else
        some t12.1 : Option (List Int))).bind fun o69 =>
    (lombardref01_Halves.f o69).bind fun t76 =>
    if (((decide (t76.1 > 0)) || (decide (t76.2.1 > 9223372036854775808))) || ((t76.2.1 == 9223372036854775808) && (!(!((!((decide (x0 < 0)) == (decide (x1 < 0)))) == (decide (x2 < 0))))))) = true then
      some (0, 9)
    else
      if (t76.2.1 == 9223372036854775808) = true then
        some (-9223372036854775808, 0)
      else
        if (!((!((decide (x0 < 0)) == (decide (x1 < 0)))) == (decide (x2 < 0)))) = true then
          some ((IntKind.wrap .i64 (0 - (IntKind.wrap .i64 t76.2.1))), 0)
        else
          some ((IntKind.wrap .i64 t76.2.1), 0)
set_option maxRecDepth 100000 in
set_option maxHeartbeats 4000000 in
theorem lombardref01_MulDiv.ok {x0 : Int} {x1 : Int} {x2 : Int} {x3 : Int} {r : Int × Int} (h : lombardref01_MulDiv.f x0 x1 x2 x3 = some r) : Pm.Spec prog 38 [.imm (.val (.int .i64 x0)), .imm (.val (.int .i64 x1)), .imm (.val (.int .i64 x2)), .imm (.val (.int .i64 x3))] (.tup [.imm (.val (.int .i64 r.1)), .imm (.val (.int .i64 r.2))]) [none, none, none, none] := by
 unfold lombardref01_MulDiv.f at h
 refine Pm.Spec.of_body Try.func38 rfl (by kernel_rfl) (Nat.le_of_ble_eq_true rfl) (Nat.le_of_ble_eq_true rfl) ?_
 refine W.ghost (σ' := (mkSt [(0, some (.i x0)), (1, some (.i x1)), (2, some (.i x2)), (3, some (.i x3))] [] 1000)) (Gives.entry (.c rfl (.c rfl (.c rfl (.c rfl .n)))) .n) ?_
 refine W.seq ?_
 refine W.pk ?_
 refine .a rfl rfl rfl rfl ?_
 refine .a rfl rfl rfl rfl ?_
 refine .nil ?_
 refine W.seq ?_
 refine W.seq ?_
 refine W.fork (mkSt [(0, some (.i x0)), (1, some (.i x1)), (2, some (.i x2)), (3, some (.i x3)), (28, some (.b (((x2 == 0) || (decide (x3 < 1))) || (decide (x3 > 4)))))] [] 1000) ?_ ?_
 ·refine W.cond rfl (fun q3 => ?_) (fun q3 => ?_)
  ·have h := ifT q3 h
   refine W.seq ?_
   refine W.pk ?_
   refine .a rfl rfl rfl rfl ?_
   refine .a rfl rfl rfl rfl ?_
   refine .nil ?_
   refine W.ret ?_
   cases h
   exact leaves (.inr rfl) rfl (.tup _ _ _ _ (cC (.imm _) (cC (.imm _) .nil))) (cN (cN (cN (cN .nil)))) rfl rfl
  ·have h := ifF q3 h
   refine W.skip ?_
   refine W.seq ?_
   refine W.pk ?_
   refine .m rfl rfl rfl rfl ?_
   refine .v rfl rfl (OpL.binI rfl rfl rfl rfl) ?_
   refine .m rfl rfl rfl rfl ?_
   refine .v rfl rfl (OpL.binI rfl rfl rfl rfl) ?_
   refine .v rfl rfl (OpL.neB rfl u4 rfl rfl) ?_
   refine .m rfl rfl rfl rfl ?_
   refine .v rfl rfl (OpL.binI rfl rfl rfl rfl) ?_
   refine .v rfl rfl (OpL.neB rfl u4 rfl rfl) ?_
   refine .a rfl rfl rfl rfl ?_
   refine .nil ?_
   refine W.seq ?_
   obtain ⟨t4, b5, h⟩ := bnd1 h
   obtain ⟨t6, b7, h⟩ := bnd1 h
   obtain ⟨t8, b9, h⟩ := bnd1 h
   obtain ⟨t10, b11, h⟩ := bnd1 h
   obtain ⟨t12, b13, h⟩ := bnd1 h
   refine W.pk ?_
   refine .m rfl rfl rfl rfl ?_
   refine .call (.own 1000) [(1000, some (.rows 95 1 (List.map (encI .u64) t4) false))] 1 (lombardref01_size.ok b5) rfl rfl rfl ca62 rfl rfl (cC (.imm _) .nil) rfl rfl rfl rfl rfl ?_
   refine .m rfl rfl rfl rfl ?_
   refine .call (.own 1001) [(1001, some (.rows 95 1 (List.map (encI .u64) t6) false))] 1 (lombardref01_size.ok b7) rfl rfl rfl ca62 rfl rfl (cC (.imm _) .nil) rfl rfl rfl rfl rfl ?_
   refine .call (.imm (.row 1 (List.map (encI .u64) t8))) [(1000, some (.rows 95 1 (List.map (encI .u64) t4) false)), (1001, some (.rows 95 1 (List.map (encI .u64) t6) false)), (1000, none), (1001, none)] 0 (lombardref01_Mul.ok b9) rfl rfl rfl ca61 rfl rfl (cC (.own _ _ _ _ rfl) (cC (.own _ _ _ _ rfl) .nil)) rfl rfl rfl rfl rfl ?_
   refine .m rfl rfl rfl rfl ?_
   refine .call (.own 1002) [(1002, some (.rows 95 1 (List.map (encI .u64) t10) false))] 1 (lombardref01_size.ok b11) rfl rfl rfl ca62 rfl rfl (cC (.imm _) .nil) rfl rfl rfl rfl rfl ?_
   refine .call (.tup [.imm (.row 1 (List.map (encI .u64) t12.1)), .imm (.row 1 (List.map (encI .u64) t12.2))]) [(1002, some (.rows 95 1 (List.map (encI .u64) t10) false)), (1002, none)] 0 (lombardref01_Div.ok b13) rfl rfl rfl ca60 rfl rfl (cC (.imm _) (cC (.own _ _ _ _ rfl) .nil)) rfl rfl rfl rfl rfl ?_
   refine .m rfl rfl rfl rfl ?_
   refine .v rfl rfl (OpL.extract rfl rfl rfl) ?_
   refine .v rfl rfl (OpL.extract rfl rfl rfl) ?_
   refine .a rfl rfl rfl rfl ?_
   refine .a rfl rfl rfl rfl ?_
   refine .nil ?_
   refine W.seq ?_
   refine W.pk ?_
   refine .a rfl rfl rfl rfl ?_
   refine .nil ?_
   refine W.seq ?_
   refine W.seq ?_
   refine W.pk ?_
   refine .m rfl rfl rfl rfl ?_
   refine .v rfl rfl (O.lenR sl106 rfl rfl) ?_
   refine .v rfl rfl (OpL.binI rfl rfl rfl rfl) ?_
   refine .nil ?_
   obtain ⟨o38, b39, h⟩ := bnd1 h
   refine W.fork (mkSt [(10, some (.b (!((!((decide (x0 < 0)) == (decide (x1 < 0)))) == (decide (x2 < 0)))))), (11, some (.imm (.row 1 (List.map (encI .u64) t12.1)))), (13, some (.b o38))] [] 1004) ?_ ?_
   ·refine W.seq ?_
    refine W.seq ?_
    refine W.pk ?_
    refine .m rfl rfl rfl rfl ?_
    refine .nil ?_
    obtain ⟨o69, b70, h⟩ := bnd1 h
    refine W.fork (mkSt [(10, some (.b (!((!((decide (x0 < 0)) == (decide (x1 < 0)))) == (decide (x2 < 0)))))), (11, some (.imm (.row 1 (List.map (encI .u64) o69))))] [] 1005) ?_ ?_
    ·refine W.seq ?_
     obtain ⟨t76, b77, h⟩ := bnd1 h
     refine W.pk ?_
     refine .m rfl rfl rfl rfl ?_
     refine .call (.tup [.imm (.val (.int .u64 t76.1)), .imm (.val (.int .u64 t76.2.1)), .b t76.2.2]) [] 0 (lombardref01_Halves.ok b77) rfl rfl rfl ca66 rfl rfl (cC (.imm _) .nil) rfl rfl rfl rfl rfl ?_
     refine .m rfl rfl rfl rfl ?_
     refine .v rfl rfl (OpL.extract rfl rfl rfl) ?_
     refine .v rfl rfl (OpL.extract rfl rfl rfl) ?_
     refine .v rfl rfl (OpL.extract rfl rfl rfl) ?_
     refine .a rfl rfl rfl rfl ?_
     refine .a rfl rfl rfl rfl ?_
     refine .a rfl rfl rfl rfl ?_
     refine .nil ?_
     refine W.seq ?_
     refine W.seq ?_
     refine W.fork (mkSt [(10, some (.b (!((!((decide (x0 < 0)) == (decide (x1 < 0)))) == (decide (x2 < 0)))))), (17, some (.imm (.val (.int .u64 t76.2.1)))), (118, some (.b (((decide (t76.1 > 0)) || (decide (t76.2.1 > 9223372036854775808))) || ((t76.2.1 == 9223372036854775808) && (!(!((!((decide (x0 < 0)) == (decide (x1 < 0)))) == (decide (x2 < 0)))))))))] [] 1005) ?_ ?_
     ·refine W.cond rfl (fun q81 => ?_) (fun q81 => ?_)
      ·have h := ifT q81 h
       refine W.seq ?_
       refine W.pk ?_
       refine .a rfl rfl rfl rfl ?_
       refine .a rfl rfl rfl rfl ?_
       refine .nil ?_
       refine W.ret ?_
       cases h
       exact leaves (.inr rfl) rfl (.tup _ _ _ _ (cC (.imm _) (cC (.imm _) .nil))) (cN (cN (cN (cN .nil)))) rfl rfl
      ·have h := ifF q81 h
       refine W.skip ?_
       refine W.seq ?_
       refine W.seq ?_
       refine W.pk ?_
       refine .m rfl rfl rfl rfl ?_
       refine .v rfl rfl (OpL.binI rfl rfl rfl rfl) ?_
       refine .nil ?_
       refine W.cond rfl (fun q82 => ?_) (fun q82 => ?_)
       ·have h := ifT q82 h
        refine W.seq ?_
        refine W.pk ?_
        refine .a rfl rfl rfl rfl ?_
        refine .a rfl rfl rfl rfl ?_
        refine .nil ?_
        refine W.ret ?_
        cases h
        exact leaves (.inr rfl) rfl (.tup _ _ _ _ (cC (.imm _) (cC (.imm _) .nil))) (cN (cN (cN (cN .nil)))) rfl rfl
       ·have h := ifF q82 h
        refine W.skip ?_
        refine W.seq ?_
        refine W.seq ?_
        refine W.pk ?_
        refine .m rfl rfl rfl rfl ?_
        refine .nil ?_
        refine W.cond rfl (fun q83 => ?_) (fun q83 => ?_)
        ·have h := ifT q83 h
         refine W.seq ?_
         refine W.pk ?_
         refine .m rfl rfl rfl rfl ?_
         refine .v rfl rfl (O.conv h95 u3 rfl rfl) ?_
         refine .v rfl rfl (OpL.binI rfl rfl rfl rfl) ?_
         refine .a rfl rfl rfl rfl ?_
         refine .a rfl rfl rfl rfl ?_
         refine .nil ?_
         refine W.ret ?_
         cases h
         exact leaves (.inr rfl) rfl (.tup _ _ _ _ (cC (.imm _) (cC (.imm _) .nil))) (cN (cN (cN (cN .nil)))) rfl rfl
        ·have h := ifF q83 h
         refine W.skip ?_
         refine W.seq ?_
         refine W.pk ?_
         refine .m rfl rfl rfl rfl ?_
         refine .v rfl rfl (O.conv h95 u3 rfl rfl) ?_
         refine .a rfl rfl rfl rfl ?_
         refine .a rfl rfl rfl rfl ?_
         refine .nil ?_
         refine W.ret ?_
         cases h
         exact leaves (.inr rfl) rfl (.tup _ _ _ _ (cC (.imm _) (cC (.imm _) .nil))) (cN (cN (cN (cN .nil)))) rfl rfl
     ·clear h
      rcases tf (decide (t76.1 > 0)) with g78 | g78
      ·refine W.pk ?_
       refine .m rfl rfl rfl rfl ?_
       refine .v rfl rfl (OpL.binI rfl rfl rfl rfl) ?_
       refine .m rfl rfl rfl rfl ?_
       refine .x rfl (unmet rfl rfl rfl g78) ?_
       refine .x rfl (unmet rfl rfl rfl g78) ?_
       refine .v rfl rfl (O.pickT g78 rfl rfl rfl) ?_
       refine .m rfl rfl rfl rfl ?_
       refine .x rfl (unmet rfl rfl rfl rfl) ?_
       refine .x rfl (unmet rfl rfl rfl rfl) ?_
       refine .x rfl (unmet rfl rfl rfl rfl) ?_
       refine .x rfl (unmetU rfl rfl rfl) ?_
       refine .x rfl (unmetU rfl rfl rfl) ?_
       refine .x rfl (unmet rfl rfl rfl rfl) ?_
       refine .v rfl rfl (O.pickT rfl rfl rfl rfl) ?_
       refine .nil ?_
       exact toN (Gives.mkR [] (.r rfl rfl (.r rfl rfl (.c rfl (sbb (by simp only [g78, Bool.true_or, Bool.or_true, Bool.false_or, Bool.or_false, Bool.true_and, Bool.and_true, Bool.false_and, Bool.and_false, Bool.not_true, Bool.not_false, cond_true, cond_false])) rfl .n))) .n rfl rfl rfl)
      ·rcases tf (decide (t76.2.1 > 9223372036854775808)) with g79 | g79
       ·refine W.pk ?_
        refine .m rfl rfl rfl rfl ?_
        refine .v rfl rfl (OpL.binI rfl rfl rfl rfl) ?_
        refine .m rfl rfl rfl rfl ?_
        refine .m rfl (met rfl rfl rfl g78) rfl rfl ?_
        refine .v rfl (met rfl rfl rfl g78) (OpL.binI rfl rfl rfl rfl) ?_
        refine .v rfl rfl (O.pickF g78 rfl rfl rfl) ?_
        refine .m rfl rfl rfl rfl ?_
        refine .x rfl (unmet rfl rfl rfl g79) ?_
        refine .x rfl (unmet rfl rfl rfl g79) ?_
        refine .x rfl (unmet rfl rfl rfl g79) ?_
        refine .x rfl (unmetU rfl rfl rfl) ?_
        refine .x rfl (unmetU rfl rfl rfl) ?_
        refine .x rfl (unmet rfl rfl rfl g79) ?_
        refine .v rfl rfl (O.pickT g79 rfl rfl rfl) ?_
        refine .nil ?_
        exact toN (Gives.mkR [] (.r rfl rfl (.r rfl rfl (.c rfl (sbb (by first | (simp only [g78, g79, Bool.true_or, Bool.or_true, Bool.false_or, Bool.or_false, Bool.true_and, Bool.and_true, Bool.false_and, Bool.and_false, Bool.not_true, Bool.not_false, cond_true, cond_false]; done) | (repeat (first | rw [g78] | rw [g79])) <;> simp only [Bool.true_or, Bool.or_true, Bool.false_or, Bool.or_false, Bool.true_and, Bool.and_true, Bool.false_and, Bool.and_false, Bool.not_true, Bool.not_false, cond_true, cond_false])) rfl .n))) .n rfl rfl rfl)
       ·rcases tf (t76.2.1 == 9223372036854775808) with g80 | g80
        ·refine W.pk ?_
         refine .m rfl rfl rfl rfl ?_
         refine .v rfl rfl (OpL.binI rfl rfl rfl rfl) ?_
         refine .m rfl rfl rfl rfl ?_
         refine .m rfl (met rfl rfl rfl g78) rfl rfl ?_
         refine .v rfl (met rfl rfl rfl g78) (OpL.binI rfl rfl rfl rfl) ?_
         refine .v rfl rfl (O.pickF g78 rfl rfl rfl) ?_
         refine .m rfl rfl rfl rfl ?_
         refine .m rfl (met rfl rfl rfl g79) rfl rfl ?_
         refine .v rfl (met rfl rfl rfl g79) (OpL.binI rfl rfl rfl rfl) ?_
         refine .m rfl (met rfl rfl rfl g79) rfl rfl ?_
         refine .m rfl (met rfl rfl rfl g80) rfl rfl ?_
         refine .v rfl (met rfl rfl rfl g80) (OpL.unV rfl rfl rfl) ?_
         refine .v rfl (met rfl rfl rfl g79) (O.pickT g80 rfl rfl rfl) ?_
         refine .v rfl rfl (O.pickF g79 rfl rfl rfl) ?_
         refine .nil ?_
         exact toN (Gives.mkR [] (.r rfl rfl (.r rfl rfl (.c rfl (sbb (by first | (simp only [g78, g79, g80, Bool.true_or, Bool.or_true, Bool.false_or, Bool.or_false, Bool.true_and, Bool.and_true, Bool.false_and, Bool.and_false, Bool.not_true, Bool.not_false, cond_true, cond_false]; done) | (repeat (first | rw [g78] | rw [g79] | rw [g80])) <;> simp only [Bool.true_or, Bool.or_true, Bool.false_or, Bool.or_false, Bool.true_and, Bool.and_true, Bool.false_and, Bool.and_false, Bool.not_true, Bool.not_false, cond_true, cond_false])) rfl .n))) .n rfl rfl rfl)
        ·refine W.pk ?_
         refine .m rfl rfl rfl rfl ?_
         refine .v rfl rfl (OpL.binI rfl rfl rfl rfl) ?_
         refine .m rfl rfl rfl rfl ?_
         refine .m rfl (met rfl rfl rfl g78) rfl rfl ?_
         refine .v rfl (met rfl rfl rfl g78) (OpL.binI rfl rfl rfl rfl) ?_
         refine .v rfl rfl (O.pickF g78 rfl rfl rfl) ?_
         refine .m rfl rfl rfl rfl ?_
         refine .m rfl (met rfl rfl rfl g79) rfl rfl ?_
         refine .v rfl (met rfl rfl rfl g79) (OpL.binI rfl rfl rfl rfl) ?_
         refine .m rfl (met rfl rfl rfl g79) rfl rfl ?_
         refine .x rfl (unmet rfl rfl rfl g80) ?_
         refine .x rfl (unmet rfl rfl rfl g80) ?_
         refine .v rfl (met rfl rfl rfl g79) (O.pickF g80 rfl rfl rfl) ?_
         refine .v rfl rfl (O.pickF g79 rfl rfl rfl) ?_
         refine .nil ?_
         exact toN (Gives.mkR [] (.r rfl rfl (.r rfl rfl (.c rfl (sbb (by first | (simp only [g78, g79, g80, Bool.true_or, Bool.or_true, Bool.false_or, Bool.or_false, Bool.true_and, Bool.and_true, Bool.false_and, Bool.and_false, Bool.not_true, Bool.not_false, cond_true, cond_false]; done) | (repeat (first | rw [g78] | rw [g79] | rw [g80])) <;> simp only [Bool.true_or, Bool.or_true, Bool.false_or, Bool.or_false, Bool.true_and, Bool.and_true, Bool.false_and, Bool.and_false, Bool.not_true, Bool.not_false, cond_true, cond_false])) rfl .n))) .n rfl rfl rfl)
    ·clear h
     have h := b70
     refine W.cond rfl (fun q71 => ?_) (fun q71 => ?_)
     ·have h := ifT q71 h
      obtain ⟨t72, b73, h⟩ := bnd1 h
      obtain ⟨t74, b75, h⟩ := bnd1 h
      refine W.pk ?_
      refine .m rfl rfl rfl rfl ?_
      refine .call (.own 1004) [(1004, some (.rows 95 1 (List.map (encI .u64) t72) false))] 1 (lombardref01_Of.ok b73) rfl rfl rfl ca65 rfl rfl (cC (.imm _) .nil) rfl rfl rfl rfl rfl ?_
      refine .call (.imm (.row 1 (List.map (encI .u64) t74))) [(1004, some (.rows 95 1 (List.map (encI .u64) t72) false)), (1004, none)] 0 (lombardref01_Add_v2.ok b75) rfl rfl rfl ca64 rfl rfl (cC (.imm _) (cC (.own _ _ _ _ rfl) .nil)) rfl rfl rfl rfl rfl ?_
      refine .a rfl rfl rfl rfl ?_
      refine .nil ?_
      cases h
      exact toN (Gives.mkR [] (.r rfl rfl (.r rfl rfl .n)) .n rfl rfl rfl)
     ·have h := ifF q71 h
      refine W.skip ?_
      cases h
      exact toN (Gives.mkR [] (.r rfl rfl (.r rfl rfl .n)) .n rfl rfl rfl)
   ·clear h
    have h := b39
    refine W.cond rfl (fun q40 => ?_) (fun q40 => ?_)
    ·have h := ifT q40 h
     refine W.seq ?_
     obtain ⟨t41, b42, h⟩ := bnd1 h
     obtain ⟨t43, b44, h⟩ := bnd1 h
     obtain ⟨t45, b46, h⟩ := bnd1 h
     refine W.pk ?_
     refine .m rfl rfl rfl rfl ?_
     refine .m rfl rfl rfl rfl ?_
     refine .call (.imm (.row 1 (List.map (encI .u64) t41))) [] 0 (lombardref01_Add.ok b42) rfl rfl rfl ca64 rfl rfl (cC (.imm _) (cC (.imm _) .nil)) rfl rfl rfl rfl rfl ?_
     refine .m rfl rfl rfl rfl ?_
     refine .call (.own 1003) [(1003, some (.rows 95 1 (List.map (encI .u64) t43) false))] 1 (lombardref01_size.ok b44) rfl rfl rfl ca62 rfl rfl (cC (.imm _) .nil) rfl rfl rfl rfl rfl ?_
     refine .call (.i t45) [(1003, some (.rows 95 1 (List.map (encI .u64) t43) false)), (1003, none)] 0 (lombardref01_Compare_v2.ok b46) rfl rfl rfl ca63 rfl rfl (cC (.imm _) (cC (.own _ _ _ _ rfl) .nil)) rfl rfl rfl rfl rfl ?_
     refine .a rfl rfl rfl rfl ?_
     refine .nil ?_
     refine W.seq ?_
     obtain ⟨c47, h⟩ := chk h
     refine W.fork (mkSt [(3, some (.i x3)), (10, some (.b (!((!((decide (x0 < 0)) == (decide (x1 < 0)))) == (decide (x2 < 0)))))), (11, some (.imm (.row 1 (List.map (encI .u64) t12.1)))), (14, some (.i t45)), (15, some (.b ((decide ((List.length t12.1 : Int) > 0)) && ((Int.tmod (nth t12.1 0) 2) == 1))))] [] 1004) ?_ ?_
     ·refine W.fork (mkSt [(10, some (.b (!((!((decide (x0 < 0)) == (decide (x1 < 0)))) == (decide (x2 < 0)))))), (11, some (.imm (.row 1 (List.map (encI .u64) t12.1)))), (13, some (.b ((((x3 == 1) && (!((!((decide (x0 < 0)) == (decide (x1 < 0)))) == (decide (x2 < 0))))) || ((x3 == 2) && (!(!((!((decide (x0 < 0)) == (decide (x1 < 0)))) == (decide (x2 < 0))))))) || ((x3 == 4) && ((decide (t45 > 0)) || ((t45 == 0) && ((decide ((List.length t12.1 : Int) > 0)) && ((Int.tmod (nth t12.1 0) 2) == 1))))))))] [] 1004) ?_ ?_
      ·cases h
       exact toN (Gives.mkR [] (.r rfl rfl (.r rfl rfl (.r rfl rfl .n))) .n rfl rfl rfl)
      ·clear h
       rcases tf (x3 == 1) with g49 | g49
       ·rcases tf ((!((decide (x0 < 0)) == (decide (x1 < 0)))) == (decide (x2 < 0))) with g50 | g50
        ·rcases tf (x3 == 2) with g51 | g51
         ·refine W.pk ?_
          refine .m rfl rfl rfl rfl ?_
          refine .v rfl rfl (OpL.binI rfl rfl rfl rfl) ?_
          refine .m rfl rfl rfl rfl ?_
          refine .m rfl (met rfl rfl rfl g49) rfl rfl ?_
          refine .v rfl rfl (O.pickT g49 rfl rfl rfl) ?_
          refine .m rfl rfl rfl rfl ?_
          refine .m rfl (met rfl rfl rfl (notT g50)) rfl rfl ?_
          refine .v rfl (met rfl rfl rfl (notT g50)) (OpL.binI rfl rfl rfl rfl) ?_
          refine .m rfl (met rfl rfl rfl (notT g50)) rfl rfl ?_
          refine .m rfl (met rfl rfl rfl g51) rfl rfl ?_
          refine .v rfl (met rfl rfl rfl g51) (OpL.unV rfl rfl rfl) ?_
          refine .v rfl (met rfl rfl rfl (notT g50)) (O.pickT g51 rfl rfl rfl) ?_
          refine .v rfl rfl (O.pickF (notT g50) rfl rfl rfl) ?_
          refine .m rfl rfl rfl rfl ?_
          refine .x rfl (unmet rfl rfl rfl (notF (notT g50))) ?_
          refine .x rfl (unmet rfl rfl rfl (notF (notT g50))) ?_
          refine .x rfl (unmet rfl rfl rfl (notF (notT g50))) ?_
          refine .x rfl (unmetU rfl rfl rfl) ?_
          refine .x rfl (unmetU rfl rfl rfl) ?_
          refine .x rfl (unmetU rfl rfl rfl) ?_
          refine .x rfl (unmetU rfl rfl rfl) ?_
          refine .x rfl (unmetU rfl rfl rfl) ?_
          refine .x rfl (unmetU rfl rfl rfl) ?_
          refine .x rfl (unmetU rfl rfl rfl) ?_
          refine .x rfl (unmetU rfl rfl rfl) ?_
          refine .x rfl (unmetU rfl rfl rfl) ?_
          refine .x rfl (unmet rfl rfl rfl (notF (notT g50))) ?_
          refine .v rfl rfl (O.pickT (notF (notT g50)) rfl rfl rfl) ?_
          refine .a rfl rfl rfl rfl ?_
          refine .nil ?_
          exact toN (Gives.mkR [] (.r rfl rfl (.r rfl rfl (.c rfl (sbb (by first | (simp only [g49, g50, g51, Bool.true_or, Bool.or_true, Bool.false_or, Bool.or_false, Bool.true_and, Bool.and_true, Bool.false_and, Bool.and_false, Bool.not_true, Bool.not_false, cond_true, cond_false]; done) | (repeat (first | rw [g49] | rw [g50] | rw [g51])) <;> simp only [Bool.true_or, Bool.or_true, Bool.false_or, Bool.or_false, Bool.true_and, Bool.and_true, Bool.false_and, Bool.and_false, Bool.not_true, Bool.not_false, cond_true, cond_false])) rfl .n))) .n rfl rfl rfl)
         ·rcases tf (x3 == 4) with g52 | g52
          ·rcases tf (decide (t45 > 0)) with g53 | g53
           ·refine W.pk ?_
            refine .m rfl rfl rfl rfl ?_
            refine .v rfl rfl (OpL.binI rfl rfl rfl rfl) ?_
            refine .m rfl rfl rfl rfl ?_
            refine .m rfl (met rfl rfl rfl g49) rfl rfl ?_
            refine .v rfl rfl (O.pickT g49 rfl rfl rfl) ?_
            refine .m rfl rfl rfl rfl ?_
            refine .m rfl (met rfl rfl rfl (notT g50)) rfl rfl ?_
            refine .v rfl (met rfl rfl rfl (notT g50)) (OpL.binI rfl rfl rfl rfl) ?_
            refine .m rfl (met rfl rfl rfl (notT g50)) rfl rfl ?_
            refine .x rfl (unmet rfl rfl rfl g51) ?_
            refine .x rfl (unmet rfl rfl rfl g51) ?_
            refine .v rfl (met rfl rfl rfl (notT g50)) (O.pickF g51 rfl rfl rfl) ?_
            refine .v rfl rfl (O.pickF (notT g50) rfl rfl rfl) ?_
            refine .m rfl rfl rfl rfl ?_
            refine .m rfl (met rfl rfl rfl rfl) rfl rfl ?_
            refine .v rfl (met rfl rfl rfl rfl) (OpL.binI rfl rfl rfl rfl) ?_
            refine .m rfl (met rfl rfl rfl rfl) rfl rfl ?_
            refine .m rfl (met rfl rfl rfl g52) rfl rfl ?_
            refine .v rfl (met rfl rfl rfl g52) (OpL.binI rfl rfl rfl rfl) ?_
            refine .m rfl (met rfl rfl rfl g52) rfl rfl ?_
            refine .x rfl (unmet rfl rfl rfl g53) ?_
            refine .x rfl (unmet rfl rfl rfl g53) ?_
            refine .x rfl (unmet rfl rfl rfl g53) ?_
            refine .x rfl (unmetU rfl rfl rfl) ?_
            refine .x rfl (unmet rfl rfl rfl g53) ?_
            refine .v rfl (met rfl rfl rfl g52) (O.pickT g53 rfl rfl rfl) ?_
            refine .v rfl (met rfl rfl rfl rfl) (O.pickT g52 rfl rfl rfl) ?_
            refine .v rfl rfl (O.pickF rfl rfl rfl rfl) ?_
            refine .a rfl rfl rfl rfl ?_
            refine .nil ?_
            exact toN (Gives.mkR [] (.r rfl rfl (.r rfl rfl (.c rfl (sbb (by first | (simp only [g49, g50, g51, g52, g53, Bool.true_or, Bool.or_true, Bool.false_or, Bool.or_false, Bool.true_and, Bool.and_true, Bool.false_and, Bool.and_false, Bool.not_true, Bool.not_false, cond_true, cond_false]; done) | (repeat (first | rw [g49] | rw [g50] | rw [g51] | rw [g52] | rw [g53])) <;> simp only [Bool.true_or, Bool.or_true, Bool.false_or, Bool.or_false, Bool.true_and, Bool.and_true, Bool.false_and, Bool.and_false, Bool.not_true, Bool.not_false, cond_true, cond_false])) rfl .n))) .n rfl rfl rfl)
           ·rcases tf (t45 == 0) with g54 | g54
            ·refine W.pk ?_
             refine .m rfl rfl rfl rfl ?_
             refine .v rfl rfl (OpL.binI rfl rfl rfl rfl) ?_
             refine .m rfl rfl rfl rfl ?_
             refine .m rfl (met rfl rfl rfl g49) rfl rfl ?_
             refine .v rfl rfl (O.pickT g49 rfl rfl rfl) ?_
             refine .m rfl rfl rfl rfl ?_
             refine .m rfl (met rfl rfl rfl (notT g50)) rfl rfl ?_
             refine .v rfl (met rfl rfl rfl (notT g50)) (OpL.binI rfl rfl rfl rfl) ?_
             refine .m rfl (met rfl rfl rfl (notT g50)) rfl rfl ?_
             refine .x rfl (unmet rfl rfl rfl g51) ?_
             refine .x rfl (unmet rfl rfl rfl g51) ?_
             refine .v rfl (met rfl rfl rfl (notT g50)) (O.pickF g51 rfl rfl rfl) ?_
             refine .v rfl rfl (O.pickF (notT g50) rfl rfl rfl) ?_
             refine .m rfl rfl rfl rfl ?_
             refine .m rfl (met rfl rfl rfl rfl) rfl rfl ?_
             refine .v rfl (met rfl rfl rfl rfl) (OpL.binI rfl rfl rfl rfl) ?_
             refine .m rfl (met rfl rfl rfl rfl) rfl rfl ?_
             refine .m rfl (met rfl rfl rfl g52) rfl rfl ?_
             refine .v rfl (met rfl rfl rfl g52) (OpL.binI rfl rfl rfl rfl) ?_
             refine .m rfl (met rfl rfl rfl g52) rfl rfl ?_
             refine .m rfl (met rfl rfl rfl g53) rfl rfl ?_
             refine .v rfl (met rfl rfl rfl g53) (OpL.binI rfl rfl rfl rfl) ?_
             refine .m rfl (met rfl rfl rfl g53) rfl rfl ?_
             refine .m rfl (met rfl rfl rfl g54) rfl rfl ?_
             refine .v rfl (met rfl rfl rfl g53) (O.pickT g54 rfl rfl rfl) ?_
             refine .v rfl (met rfl rfl rfl g52) (O.pickF g53 rfl rfl rfl) ?_
             refine .v rfl (met rfl rfl rfl rfl) (O.pickT g52 rfl rfl rfl) ?_
             refine .v rfl rfl (O.pickF rfl rfl rfl rfl) ?_
             refine .a rfl rfl rfl rfl ?_
             refine .nil ?_
             exact toN (Gives.mkR [] (.r rfl rfl (.r rfl rfl (.c rfl (sbb (by first | (simp only [g49, g50, g51, g52, g53, g54, Bool.true_or, Bool.or_true, Bool.false_or, Bool.or_false, Bool.true_and, Bool.and_true, Bool.false_and, Bool.and_false, Bool.not_true, Bool.not_false, cond_true, cond_false]; done) | (repeat (first | rw [g49] | rw [g50] | rw [g51] | rw [g52] | rw [g53] | rw [g54])) <;> simp only [Bool.true_or, Bool.or_true, Bool.false_or, Bool.or_false, Bool.true_and, Bool.and_true, Bool.false_and, Bool.and_false, Bool.not_true, Bool.not_false, cond_true, cond_false])) rfl .n))) .n rfl rfl rfl)
            ·refine W.pk ?_
             refine .m rfl rfl rfl rfl ?_
             refine .v rfl rfl (OpL.binI rfl rfl rfl rfl) ?_
             refine .m rfl rfl rfl rfl ?_
             refine .m rfl (met rfl rfl rfl g49) rfl rfl ?_
             refine .v rfl rfl (O.pickT g49 rfl rfl rfl) ?_
             refine .m rfl rfl rfl rfl ?_
             refine .m rfl (met rfl rfl rfl (notT g50)) rfl rfl ?_
             refine .v rfl (met rfl rfl rfl (notT g50)) (OpL.binI rfl rfl rfl rfl) ?_
             refine .m rfl (met rfl rfl rfl (notT g50)) rfl rfl ?_
             refine .x rfl (unmet rfl rfl rfl g51) ?_
             refine .x rfl (unmet rfl rfl rfl g51) ?_
             refine .v rfl (met rfl rfl rfl (notT g50)) (O.pickF g51 rfl rfl rfl) ?_
             refine .v rfl rfl (O.pickF (notT g50) rfl rfl rfl) ?_
             refine .m rfl rfl rfl rfl ?_
             refine .m rfl (met rfl rfl rfl rfl) rfl rfl ?_
             refine .v rfl (met rfl rfl rfl rfl) (OpL.binI rfl rfl rfl rfl) ?_
             refine .m rfl (met rfl rfl rfl rfl) rfl rfl ?_
             refine .m rfl (met rfl rfl rfl g52) rfl rfl ?_
             refine .v rfl (met rfl rfl rfl g52) (OpL.binI rfl rfl rfl rfl) ?_
             refine .m rfl (met rfl rfl rfl g52) rfl rfl ?_
             refine .m rfl (met rfl rfl rfl g53) rfl rfl ?_
             refine .v rfl (met rfl rfl rfl g53) (OpL.binI rfl rfl rfl rfl) ?_
             refine .m rfl (met rfl rfl rfl g53) rfl rfl ?_
             refine .x rfl (unmet rfl rfl rfl g54) ?_
             refine .v rfl (met rfl rfl rfl g53) (O.pickF g54 rfl rfl rfl) ?_
             refine .v rfl (met rfl rfl rfl g52) (O.pickF g53 rfl rfl rfl) ?_
             refine .v rfl (met rfl rfl rfl rfl) (O.pickT g52 rfl rfl rfl) ?_
             refine .v rfl rfl (O.pickF rfl rfl rfl rfl) ?_
             refine .a rfl rfl rfl rfl ?_
             refine .nil ?_
             exact toN (Gives.mkR [] (.r rfl rfl (.r rfl rfl (.c rfl (sbb (by first | (simp only [g49, g50, g51, g52, g53, g54, Bool.true_or, Bool.or_true, Bool.false_or, Bool.or_false, Bool.true_and, Bool.and_true, Bool.false_and, Bool.and_false, Bool.not_true, Bool.not_false, cond_true, cond_false]; done) | (repeat (first | rw [g49] | rw [g50] | rw [g51] | rw [g52] | rw [g53] | rw [g54])) <;> simp only [Bool.true_or, Bool.or_true, Bool.false_or, Bool.or_false, Bool.true_and, Bool.and_true, Bool.false_and, Bool.and_false, Bool.not_true, Bool.not_false, cond_true, cond_false])) rfl .n))) .n rfl rfl rfl)
          ·refine W.pk ?_
           refine .m rfl rfl rfl rfl ?_
           refine .v rfl rfl (OpL.binI rfl rfl rfl rfl) ?_
           refine .m rfl rfl rfl rfl ?_
           refine .m rfl (met rfl rfl rfl g49) rfl rfl ?_
           refine .v rfl rfl (O.pickT g49 rfl rfl rfl) ?_
           refine .m rfl rfl rfl rfl ?_
           refine .m rfl (met rfl rfl rfl (notT g50)) rfl rfl ?_
           refine .v rfl (met rfl rfl rfl (notT g50)) (OpL.binI rfl rfl rfl rfl) ?_
           refine .m rfl (met rfl rfl rfl (notT g50)) rfl rfl ?_
           refine .x rfl (unmet rfl rfl rfl g51) ?_
           refine .x rfl (unmet rfl rfl rfl g51) ?_
           refine .v rfl (met rfl rfl rfl (notT g50)) (O.pickF g51 rfl rfl rfl) ?_
           refine .v rfl rfl (O.pickF (notT g50) rfl rfl rfl) ?_
           refine .m rfl rfl rfl rfl ?_
           refine .m rfl (met rfl rfl rfl rfl) rfl rfl ?_
           refine .v rfl (met rfl rfl rfl rfl) (OpL.binI rfl rfl rfl rfl) ?_
           refine .m rfl (met rfl rfl rfl rfl) rfl rfl ?_
           refine .x rfl (unmet rfl rfl rfl g52) ?_
           refine .x rfl (unmet rfl rfl rfl g52) ?_
           refine .x rfl (unmet rfl rfl rfl g52) ?_
           refine .x rfl (unmetU rfl rfl rfl) ?_
           refine .x rfl (unmetU rfl rfl rfl) ?_
           refine .x rfl (unmetU rfl rfl rfl) ?_
           refine .x rfl (unmetU rfl rfl rfl) ?_
           refine .x rfl (unmetU rfl rfl rfl) ?_
           refine .x rfl (unmet rfl rfl rfl g52) ?_
           refine .v rfl (met rfl rfl rfl rfl) (O.pickF g52 rfl rfl rfl) ?_
           refine .v rfl rfl (O.pickF rfl rfl rfl rfl) ?_
           refine .a rfl rfl rfl rfl ?_
           refine .nil ?_
           exact toN (Gives.mkR [] (.r rfl rfl (.r rfl rfl (.c rfl (sbb (by first | (simp only [g49, g50, g51, g52, Bool.true_or, Bool.or_true, Bool.false_or, Bool.or_false, Bool.true_and, Bool.and_true, Bool.false_and, Bool.and_false, Bool.not_true, Bool.not_false, cond_true, cond_false]; done) | (repeat (first | rw [g49] | rw [g50] | rw [g51] | rw [g52])) <;> simp only [Bool.true_or, Bool.or_true, Bool.false_or, Bool.or_false, Bool.true_and, Bool.and_true, Bool.false_and, Bool.and_false, Bool.not_true, Bool.not_false, cond_true, cond_false])) rfl .n))) .n rfl rfl rfl)
        ·refine W.pk ?_
         refine .m rfl rfl rfl rfl ?_
         refine .v rfl rfl (OpL.binI rfl rfl rfl rfl) ?_
         refine .m rfl rfl rfl rfl ?_
         refine .m rfl (met rfl rfl rfl g49) rfl rfl ?_
         refine .v rfl rfl (O.pickT g49 rfl rfl rfl) ?_
         refine .m rfl rfl rfl rfl ?_
         refine .x rfl (unmet rfl rfl rfl (notF g50)) ?_
         refine .x rfl (unmet rfl rfl rfl (notF g50)) ?_
         refine .x rfl (unmet rfl rfl rfl (notF g50)) ?_
         refine .x rfl (unmetU rfl rfl rfl) ?_
         refine .x rfl (unmetU rfl rfl rfl) ?_
         refine .x rfl (unmet rfl rfl rfl (notF g50)) ?_
         refine .v rfl rfl (O.pickT (notF g50) rfl rfl rfl) ?_
         refine .m rfl rfl rfl rfl ?_
         refine .x rfl (unmet rfl rfl rfl rfl) ?_
         refine .x rfl (unmet rfl rfl rfl rfl) ?_
         refine .x rfl (unmet rfl rfl rfl rfl) ?_
         refine .x rfl (unmetU rfl rfl rfl) ?_
         refine .x rfl (unmetU rfl rfl rfl) ?_
         refine .x rfl (unmetU rfl rfl rfl) ?_
         refine .x rfl (unmetU rfl rfl rfl) ?_
         refine .x rfl (unmetU rfl rfl rfl) ?_
         refine .x rfl (unmetU rfl rfl rfl) ?_
         refine .x rfl (unmetU rfl rfl rfl) ?_
         refine .x rfl (unmetU rfl rfl rfl) ?_
         refine .x rfl (unmetU rfl rfl rfl) ?_
         refine .x rfl (unmet rfl rfl rfl rfl) ?_
         refine .v rfl rfl (O.pickT rfl rfl rfl rfl) ?_
         refine .a rfl rfl rfl rfl ?_
         refine .nil ?_
         exact toN (Gives.mkR [] (.r rfl rfl (.r rfl rfl (.c rfl (sbb (by first | (simp only [g49, g50, Bool.true_or, Bool.or_true, Bool.false_or, Bool.or_false, Bool.true_and, Bool.and_true, Bool.false_and, Bool.and_false, Bool.not_true, Bool.not_false, cond_true, cond_false]; done) | (repeat (first | rw [g49] | rw [g50])) <;> simp only [Bool.true_or, Bool.or_true, Bool.false_or, Bool.or_false, Bool.true_and, Bool.and_true, Bool.false_and, Bool.and_false, Bool.not_true, Bool.not_false, cond_true, cond_false])) rfl .n))) .n rfl rfl rfl)
       ·rcases tf (x3 == 2) with g55 | g55
        ·rcases tf ((!((decide (x0 < 0)) == (decide (x1 < 0)))) == (decide (x2 < 0))) with g56 | g56
         ·refine W.pk ?_
          refine .m rfl rfl rfl rfl ?_
          refine .v rfl rfl (OpL.binI rfl rfl rfl rfl) ?_
          refine .m rfl rfl rfl rfl ?_
          refine .x rfl (unmet rfl rfl rfl g49) ?_
          refine .v rfl rfl (O.pickF g49 rfl rfl rfl) ?_
          refine .m rfl rfl rfl rfl ?_
          refine .m rfl (met rfl rfl rfl rfl) rfl rfl ?_
          refine .v rfl (met rfl rfl rfl rfl) (OpL.binI rfl rfl rfl rfl) ?_
          refine .m rfl (met rfl rfl rfl rfl) rfl rfl ?_
          refine .m rfl (met rfl rfl rfl g55) rfl rfl ?_
          refine .v rfl (met rfl rfl rfl g55) (OpL.unV rfl rfl rfl) ?_
          refine .v rfl (met rfl rfl rfl rfl) (O.pickT g55 rfl rfl rfl) ?_
          refine .v rfl rfl (O.pickF rfl rfl rfl rfl) ?_
          refine .m rfl rfl rfl rfl ?_
          refine .x rfl (unmet rfl rfl rfl (notF (notT g56))) ?_
          refine .x rfl (unmet rfl rfl rfl (notF (notT g56))) ?_
          refine .x rfl (unmet rfl rfl rfl (notF (notT g56))) ?_
          refine .x rfl (unmetU rfl rfl rfl) ?_
          refine .x rfl (unmetU rfl rfl rfl) ?_
          refine .x rfl (unmetU rfl rfl rfl) ?_
          refine .x rfl (unmetU rfl rfl rfl) ?_
          refine .x rfl (unmetU rfl rfl rfl) ?_
          refine .x rfl (unmetU rfl rfl rfl) ?_
          refine .x rfl (unmetU rfl rfl rfl) ?_
          refine .x rfl (unmetU rfl rfl rfl) ?_
          refine .x rfl (unmetU rfl rfl rfl) ?_
          refine .x rfl (unmet rfl rfl rfl (notF (notT g56))) ?_
          refine .v rfl rfl (O.pickT (notF (notT g56)) rfl rfl rfl) ?_
          refine .a rfl rfl rfl rfl ?_
          refine .nil ?_
          exact toN (Gives.mkR [] (.r rfl rfl (.r rfl rfl (.c rfl (sbb (by first | (simp only [g49, g55, g56, Bool.true_or, Bool.or_true, Bool.false_or, Bool.or_false, Bool.true_and, Bool.and_true, Bool.false_and, Bool.and_false, Bool.not_true, Bool.not_false, cond_true, cond_false]; done) | (repeat (first | rw [g49] | rw [g55] | rw [g56])) <;> simp only [Bool.true_or, Bool.or_true, Bool.false_or, Bool.or_false, Bool.true_and, Bool.and_true, Bool.false_and, Bool.and_false, Bool.not_true, Bool.not_false, cond_true, cond_false])) rfl .n))) .n rfl rfl rfl)
         ·rcases tf (x3 == 4) with g57 | g57
          ·rcases tf (decide (t45 > 0)) with g58 | g58
           ·refine W.pk ?_
            refine .m rfl rfl rfl rfl ?_
            refine .v rfl rfl (OpL.binI rfl rfl rfl rfl) ?_
            refine .m rfl rfl rfl rfl ?_
            refine .x rfl (unmet rfl rfl rfl g49) ?_
            refine .v rfl rfl (O.pickF g49 rfl rfl rfl) ?_
            refine .m rfl rfl rfl rfl ?_
            refine .m rfl (met rfl rfl rfl rfl) rfl rfl ?_
            refine .v rfl (met rfl rfl rfl rfl) (OpL.binI rfl rfl rfl rfl) ?_
            refine .m rfl (met rfl rfl rfl rfl) rfl rfl ?_
            refine .m rfl (met rfl rfl rfl g55) rfl rfl ?_
            refine .v rfl (met rfl rfl rfl g55) (OpL.unV rfl rfl rfl) ?_
            refine .v rfl (met rfl rfl rfl rfl) (O.pickT g55 rfl rfl rfl) ?_
            refine .v rfl rfl (O.pickF rfl rfl rfl rfl) ?_
            refine .m rfl rfl rfl rfl ?_
            refine .m rfl (met rfl rfl rfl (notT (notF g56))) rfl rfl ?_
            refine .v rfl (met rfl rfl rfl (notT (notF g56))) (OpL.binI rfl rfl rfl rfl) ?_
            refine .m rfl (met rfl rfl rfl (notT (notF g56))) rfl rfl ?_
            refine .m rfl (met rfl rfl rfl g57) rfl rfl ?_
            refine .v rfl (met rfl rfl rfl g57) (OpL.binI rfl rfl rfl rfl) ?_
            refine .m rfl (met rfl rfl rfl g57) rfl rfl ?_
            refine .x rfl (unmet rfl rfl rfl g58) ?_
            refine .x rfl (unmet rfl rfl rfl g58) ?_
            refine .x rfl (unmet rfl rfl rfl g58) ?_
            refine .x rfl (unmetU rfl rfl rfl) ?_
            refine .x rfl (unmet rfl rfl rfl g58) ?_
            refine .v rfl (met rfl rfl rfl g57) (O.pickT g58 rfl rfl rfl) ?_
            refine .v rfl (met rfl rfl rfl (notT (notF g56))) (O.pickT g57 rfl rfl rfl) ?_
            refine .v rfl rfl (O.pickF (notT (notF g56)) rfl rfl rfl) ?_
            refine .a rfl rfl rfl rfl ?_
            refine .nil ?_
            exact toN (Gives.mkR [] (.r rfl rfl (.r rfl rfl (.c rfl (sbb (by first | (simp only [g49, g55, g56, g57, g58, Bool.true_or, Bool.or_true, Bool.false_or, Bool.or_false, Bool.true_and, Bool.and_true, Bool.false_and, Bool.and_false, Bool.not_true, Bool.not_false, cond_true, cond_false]; done) | (repeat (first | rw [g49] | rw [g55] | rw [g56] | rw [g57] | rw [g58])) <;> simp only [Bool.true_or, Bool.or_true, Bool.false_or, Bool.or_false, Bool.true_and, Bool.and_true, Bool.false_and, Bool.and_false, Bool.not_true, Bool.not_false, cond_true, cond_false])) rfl .n))) .n rfl rfl rfl)
           ·rcases tf (t45 == 0) with g59 | g59
            ·refine W.pk ?_
             refine .m rfl rfl rfl rfl ?_
             refine .v rfl rfl (OpL.binI rfl rfl rfl rfl) ?_
             refine .m rfl rfl rfl rfl ?_
             refine .x rfl (unmet rfl rfl rfl g49) ?_
             refine .v rfl rfl (O.pickF g49 rfl rfl rfl) ?_
             refine .m rfl rfl rfl rfl ?_
             refine .m rfl (met rfl rfl rfl rfl) rfl rfl ?_
             refine .v rfl (met rfl rfl rfl rfl) (OpL.binI rfl rfl rfl rfl) ?_
             refine .m rfl (met rfl rfl rfl rfl) rfl rfl ?_
             refine .m rfl (met rfl rfl rfl g55) rfl rfl ?_
             refine .v rfl (met rfl rfl rfl g55) (OpL.unV rfl rfl rfl) ?_
             refine .v rfl (met rfl rfl rfl rfl) (O.pickT g55 rfl rfl rfl) ?_
             refine .v rfl rfl (O.pickF rfl rfl rfl rfl) ?_
             refine .m rfl rfl rfl rfl ?_
             refine .m rfl (met rfl rfl rfl (notT (notF g56))) rfl rfl ?_
             refine .v rfl (met rfl rfl rfl (notT (notF g56))) (OpL.binI rfl rfl rfl rfl) ?_
             refine .m rfl (met rfl rfl rfl (notT (notF g56))) rfl rfl ?_
             refine .m rfl (met rfl rfl rfl g57) rfl rfl ?_
             refine .v rfl (met rfl rfl rfl g57) (OpL.binI rfl rfl rfl rfl) ?_
             refine .m rfl (met rfl rfl rfl g57) rfl rfl ?_
             refine .m rfl (met rfl rfl rfl g58) rfl rfl ?_
             refine .v rfl (met rfl rfl rfl g58) (OpL.binI rfl rfl rfl rfl) ?_
             refine .m rfl (met rfl rfl rfl g58) rfl rfl ?_
             refine .m rfl (met rfl rfl rfl g59) rfl rfl ?_
             refine .v rfl (met rfl rfl rfl g58) (O.pickT g59 rfl rfl rfl) ?_
             refine .v rfl (met rfl rfl rfl g57) (O.pickF g58 rfl rfl rfl) ?_
             refine .v rfl (met rfl rfl rfl (notT (notF g56))) (O.pickT g57 rfl rfl rfl) ?_
             refine .v rfl rfl (O.pickF (notT (notF g56)) rfl rfl rfl) ?_
             refine .a rfl rfl rfl rfl ?_
             refine .nil ?_
             exact toN (Gives.mkR [] (.r rfl rfl (.r rfl rfl (.c rfl (sbb (by first | (simp only [g49, g55, g56, g57, g58, g59, Bool.true_or, Bool.or_true, Bool.false_or, Bool.or_false, Bool.true_and, Bool.and_true, Bool.false_and, Bool.and_false, Bool.not_true, Bool.not_false, cond_true, cond_false]; done) | (repeat (first | rw [g49] | rw [g55] | rw [g56] | rw [g57] | rw [g58] | rw [g59])) <;> simp only [Bool.true_or, Bool.or_true, Bool.false_or, Bool.or_false, Bool.true_and, Bool.and_true, Bool.false_and, Bool.and_false, Bool.not_true, Bool.not_false, cond_true, cond_false])) rfl .n))) .n rfl rfl rfl)
            ·refine W.pk ?_
             refine .m rfl rfl rfl rfl ?_
             refine .v rfl rfl (OpL.binI rfl rfl rfl rfl) ?_
             refine .m rfl rfl rfl rfl ?_
             refine .x rfl (unmet rfl rfl rfl g49) ?_
             refine .v rfl rfl (O.pickF g49 rfl rfl rfl) ?_
             refine .m rfl rfl rfl rfl ?_
             refine .m rfl (met rfl rfl rfl rfl) rfl rfl ?_
             refine .v rfl (met rfl rfl rfl rfl) (OpL.binI rfl rfl rfl rfl) ?_
             refine .m rfl (met rfl rfl rfl rfl) rfl rfl ?_
             refine .m rfl (met rfl rfl rfl g55) rfl rfl ?_
             refine .v rfl (met rfl rfl rfl g55) (OpL.unV rfl rfl rfl) ?_
             refine .v rfl (met rfl rfl rfl rfl) (O.pickT g55 rfl rfl rfl) ?_
             refine .v rfl rfl (O.pickF rfl rfl rfl rfl) ?_
             refine .m rfl rfl rfl rfl ?_
             refine .m rfl (met rfl rfl rfl (notT (notF g56))) rfl rfl ?_
             refine .v rfl (met rfl rfl rfl (notT (notF g56))) (OpL.binI rfl rfl rfl rfl) ?_
             refine .m rfl (met rfl rfl rfl (notT (notF g56))) rfl rfl ?_
             refine .m rfl (met rfl rfl rfl g57) rfl rfl ?_
             refine .v rfl (met rfl rfl rfl g57) (OpL.binI rfl rfl rfl rfl) ?_
             refine .m rfl (met rfl rfl rfl g57) rfl rfl ?_
             refine .m rfl (met rfl rfl rfl g58) rfl rfl ?_
             refine .v rfl (met rfl rfl rfl g58) (OpL.binI rfl rfl rfl rfl) ?_
             refine .m rfl (met rfl rfl rfl g58) rfl rfl ?_
             refine .x rfl (unmet rfl rfl rfl g59) ?_
             refine .v rfl (met rfl rfl rfl g58) (O.pickF g59 rfl rfl rfl) ?_
             refine .v rfl (met rfl rfl rfl g57) (O.pickF g58 rfl rfl rfl) ?_
             refine .v rfl (met rfl rfl rfl (notT (notF g56))) (O.pickT g57 rfl rfl rfl) ?_
             refine .v rfl rfl (O.pickF (notT (notF g56)) rfl rfl rfl) ?_
             refine .a rfl rfl rfl rfl ?_
             refine .nil ?_
             exact toN (Gives.mkR [] (.r rfl rfl (.r rfl rfl (.c rfl (sbb (by first | (simp only [g49, g55, g56, g57, g58, g59, Bool.true_or, Bool.or_true, Bool.false_or, Bool.or_false, Bool.true_and, Bool.and_true, Bool.false_and, Bool.and_false, Bool.not_true, Bool.not_false, cond_true, cond_false]; done) | (repeat (first | rw [g49] | rw [g55] | rw [g56] | rw [g57] | rw [g58] | rw [g59])) <;> simp only [Bool.true_or, Bool.or_true, Bool.false_or, Bool.or_false, Bool.true_and, Bool.and_true, Bool.false_and, Bool.and_false, Bool.not_true, Bool.not_false, cond_true, cond_false])) rfl .n))) .n rfl rfl rfl)
          ·refine W.pk ?_
           refine .m rfl rfl rfl rfl ?_
           refine .v rfl rfl (OpL.binI rfl rfl rfl rfl) ?_
           refine .m rfl rfl rfl rfl ?_
           refine .x rfl (unmet rfl rfl rfl g49) ?_
           refine .v rfl rfl (O.pickF g49 rfl rfl rfl) ?_
           refine .m rfl rfl rfl rfl ?_
           refine .m rfl (met rfl rfl rfl rfl) rfl rfl ?_
           refine .v rfl (met rfl rfl rfl rfl) (OpL.binI rfl rfl rfl rfl) ?_
           refine .m rfl (met rfl rfl rfl rfl) rfl rfl ?_
           refine .m rfl (met rfl rfl rfl g55) rfl rfl ?_
           refine .v rfl (met rfl rfl rfl g55) (OpL.unV rfl rfl rfl) ?_
           refine .v rfl (met rfl rfl rfl rfl) (O.pickT g55 rfl rfl rfl) ?_
           refine .v rfl rfl (O.pickF rfl rfl rfl rfl) ?_
           refine .m rfl rfl rfl rfl ?_
           refine .m rfl (met rfl rfl rfl (notT (notF g56))) rfl rfl ?_
           refine .v rfl (met rfl rfl rfl (notT (notF g56))) (OpL.binI rfl rfl rfl rfl) ?_
           refine .m rfl (met rfl rfl rfl (notT (notF g56))) rfl rfl ?_
           refine .x rfl (unmet rfl rfl rfl g57) ?_
           refine .x rfl (unmet rfl rfl rfl g57) ?_
           refine .x rfl (unmet rfl rfl rfl g57) ?_
           refine .x rfl (unmetU rfl rfl rfl) ?_
           refine .x rfl (unmetU rfl rfl rfl) ?_
           refine .x rfl (unmetU rfl rfl rfl) ?_
           refine .x rfl (unmetU rfl rfl rfl) ?_
           refine .x rfl (unmetU rfl rfl rfl) ?_
           refine .x rfl (unmet rfl rfl rfl g57) ?_
           refine .v rfl (met rfl rfl rfl (notT (notF g56))) (O.pickF g57 rfl rfl rfl) ?_
           refine .v rfl rfl (O.pickF (notT (notF g56)) rfl rfl rfl) ?_
           refine .a rfl rfl rfl rfl ?_
           refine .nil ?_
           exact toN (Gives.mkR [] (.r rfl rfl (.r rfl rfl (.c rfl (sbb (by first | (simp only [g49, g55, g56, g57, Bool.true_or, Bool.or_true, Bool.false_or, Bool.or_false, Bool.true_and, Bool.and_true, Bool.false_and, Bool.and_false, Bool.not_true, Bool.not_false, cond_true, cond_false]; done) | (repeat (first | rw [g49] | rw [g55] | rw [g56] | rw [g57])) <;> simp only [Bool.true_or, Bool.or_true, Bool.false_or, Bool.or_false, Bool.true_and, Bool.and_true, Bool.false_and, Bool.and_false, Bool.not_true, Bool.not_false, cond_true, cond_false])) rfl .n))) .n rfl rfl rfl)
        ·rcases tf (x3 == 4) with g60 | g60
         ·rcases tf (decide (t45 > 0)) with g61 | g61
          ·refine W.pk ?_
           refine .m rfl rfl rfl rfl ?_
           refine .v rfl rfl (OpL.binI rfl rfl rfl rfl) ?_
           refine .m rfl rfl rfl rfl ?_
           refine .x rfl (unmet rfl rfl rfl g49) ?_
           refine .v rfl rfl (O.pickF g49 rfl rfl rfl) ?_
           refine .m rfl rfl rfl rfl ?_
           refine .m rfl (met rfl rfl rfl rfl) rfl rfl ?_
           refine .v rfl (met rfl rfl rfl rfl) (OpL.binI rfl rfl rfl rfl) ?_
           refine .m rfl (met rfl rfl rfl rfl) rfl rfl ?_
           refine .x rfl (unmet rfl rfl rfl g55) ?_
           refine .x rfl (unmet rfl rfl rfl g55) ?_
           refine .v rfl (met rfl rfl rfl rfl) (O.pickF g55 rfl rfl rfl) ?_
           refine .v rfl rfl (O.pickF rfl rfl rfl rfl) ?_
           refine .m rfl rfl rfl rfl ?_
           refine .m rfl (met rfl rfl rfl rfl) rfl rfl ?_
           refine .v rfl (met rfl rfl rfl rfl) (OpL.binI rfl rfl rfl rfl) ?_
           refine .m rfl (met rfl rfl rfl rfl) rfl rfl ?_
           refine .m rfl (met rfl rfl rfl g60) rfl rfl ?_
           refine .v rfl (met rfl rfl rfl g60) (OpL.binI rfl rfl rfl rfl) ?_
           refine .m rfl (met rfl rfl rfl g60) rfl rfl ?_
           refine .x rfl (unmet rfl rfl rfl g61) ?_
           refine .x rfl (unmet rfl rfl rfl g61) ?_
           refine .x rfl (unmet rfl rfl rfl g61) ?_
           refine .x rfl (unmetU rfl rfl rfl) ?_
           refine .x rfl (unmet rfl rfl rfl g61) ?_
           refine .v rfl (met rfl rfl rfl g60) (O.pickT g61 rfl rfl rfl) ?_
           refine .v rfl (met rfl rfl rfl rfl) (O.pickT g60 rfl rfl rfl) ?_
           refine .v rfl rfl (O.pickF rfl rfl rfl rfl) ?_
           refine .a rfl rfl rfl rfl ?_
           refine .nil ?_
           exact toN (Gives.mkR [] (.r rfl rfl (.r rfl rfl (.c rfl (sbb (by first | (simp only [g49, g55, g60, g61, Bool.true_or, Bool.or_true, Bool.false_or, Bool.or_false, Bool.true_and, Bool.and_true, Bool.false_and, Bool.and_false, Bool.not_true, Bool.not_false, cond_true, cond_false]; done) | (repeat (first | rw [g49] | rw [g55] | rw [g60] | rw [g61])) <;> simp only [Bool.true_or, Bool.or_true, Bool.false_or, Bool.or_false, Bool.true_and, Bool.and_true, Bool.false_and, Bool.and_false, Bool.not_true, Bool.not_false, cond_true, cond_false])) rfl .n))) .n rfl rfl rfl)
          ·rcases tf (t45 == 0) with g62 | g62
           ·refine W.pk ?_
            refine .m rfl rfl rfl rfl ?_
            refine .v rfl rfl (OpL.binI rfl rfl rfl rfl) ?_
            refine .m rfl rfl rfl rfl ?_
            refine .x rfl (unmet rfl rfl rfl g49) ?_
            refine .v rfl rfl (O.pickF g49 rfl rfl rfl) ?_
            refine .m rfl rfl rfl rfl ?_
            refine .m rfl (met rfl rfl rfl rfl) rfl rfl ?_
            refine .v rfl (met rfl rfl rfl rfl) (OpL.binI rfl rfl rfl rfl) ?_
            refine .m rfl (met rfl rfl rfl rfl) rfl rfl ?_
            refine .x rfl (unmet rfl rfl rfl g55) ?_
            refine .x rfl (unmet rfl rfl rfl g55) ?_
            refine .v rfl (met rfl rfl rfl rfl) (O.pickF g55 rfl rfl rfl) ?_
            refine .v rfl rfl (O.pickF rfl rfl rfl rfl) ?_
            refine .m rfl rfl rfl rfl ?_
            refine .m rfl (met rfl rfl rfl rfl) rfl rfl ?_
            refine .v rfl (met rfl rfl rfl rfl) (OpL.binI rfl rfl rfl rfl) ?_
            refine .m rfl (met rfl rfl rfl rfl) rfl rfl ?_
            refine .m rfl (met rfl rfl rfl g60) rfl rfl ?_
            refine .v rfl (met rfl rfl rfl g60) (OpL.binI rfl rfl rfl rfl) ?_
            refine .m rfl (met rfl rfl rfl g60) rfl rfl ?_
            refine .m rfl (met rfl rfl rfl g61) rfl rfl ?_
            refine .v rfl (met rfl rfl rfl g61) (OpL.binI rfl rfl rfl rfl) ?_
            refine .m rfl (met rfl rfl rfl g61) rfl rfl ?_
            refine .m rfl (met rfl rfl rfl g62) rfl rfl ?_
            refine .v rfl (met rfl rfl rfl g61) (O.pickT g62 rfl rfl rfl) ?_
            refine .v rfl (met rfl rfl rfl g60) (O.pickF g61 rfl rfl rfl) ?_
            refine .v rfl (met rfl rfl rfl rfl) (O.pickT g60 rfl rfl rfl) ?_
            refine .v rfl rfl (O.pickF rfl rfl rfl rfl) ?_
            refine .a rfl rfl rfl rfl ?_
            refine .nil ?_
            exact toN (Gives.mkR [] (.r rfl rfl (.r rfl rfl (.c rfl (sbb (by first | (simp only [g49, g55, g60, g61, g62, Bool.true_or, Bool.or_true, Bool.false_or, Bool.or_false, Bool.true_and, Bool.and_true, Bool.false_and, Bool.and_false, Bool.not_true, Bool.not_false, cond_true, cond_false]; done) | (repeat (first | rw [g49] | rw [g55] | rw [g60] | rw [g61] | rw [g62])) <;> simp only [Bool.true_or, Bool.or_true, Bool.false_or, Bool.or_false, Bool.true_and, Bool.and_true, Bool.false_and, Bool.and_false, Bool.not_true, Bool.not_false, cond_true, cond_false])) rfl .n))) .n rfl rfl rfl)
           ·refine W.pk ?_
            refine .m rfl rfl rfl rfl ?_
            refine .v rfl rfl (OpL.binI rfl rfl rfl rfl) ?_
            refine .m rfl rfl rfl rfl ?_
            refine .x rfl (unmet rfl rfl rfl g49) ?_
            refine .v rfl rfl (O.pickF g49 rfl rfl rfl) ?_
            refine .m rfl rfl rfl rfl ?_
            refine .m rfl (met rfl rfl rfl rfl) rfl rfl ?_
            refine .v rfl (met rfl rfl rfl rfl) (OpL.binI rfl rfl rfl rfl) ?_
            refine .m rfl (met rfl rfl rfl rfl) rfl rfl ?_
            refine .x rfl (unmet rfl rfl rfl g55) ?_
            refine .x rfl (unmet rfl rfl rfl g55) ?_
            refine .v rfl (met rfl rfl rfl rfl) (O.pickF g55 rfl rfl rfl) ?_
            refine .v rfl rfl (O.pickF rfl rfl rfl rfl) ?_
            refine .m rfl rfl rfl rfl ?_
            refine .m rfl (met rfl rfl rfl rfl) rfl rfl ?_
            refine .v rfl (met rfl rfl rfl rfl) (OpL.binI rfl rfl rfl rfl) ?_
            refine .m rfl (met rfl rfl rfl rfl) rfl rfl ?_
            refine .m rfl (met rfl rfl rfl g60) rfl rfl ?_
            refine .v rfl (met rfl rfl rfl g60) (OpL.binI rfl rfl rfl rfl) ?_
            refine .m rfl (met rfl rfl rfl g60) rfl rfl ?_
            refine .m rfl (met rfl rfl rfl g61) rfl rfl ?_
            refine .v rfl (met rfl rfl rfl g61) (OpL.binI rfl rfl rfl rfl) ?_
            refine .m rfl (met rfl rfl rfl g61) rfl rfl ?_
            refine .x rfl (unmet rfl rfl rfl g62) ?_
            refine .v rfl (met rfl rfl rfl g61) (O.pickF g62 rfl rfl rfl) ?_
            refine .v rfl (met rfl rfl rfl g60) (O.pickF g61 rfl rfl rfl) ?_
            refine .v rfl (met rfl rfl rfl rfl) (O.pickT g60 rfl rfl rfl) ?_
            refine .v rfl rfl (O.pickF rfl rfl rfl rfl) ?_
            refine .a rfl rfl rfl rfl ?_
            refine .nil ?_
            exact toN (Gives.mkR [] (.r rfl rfl (.r rfl rfl (.c rfl (sbb (by first | (simp only [g49, g55, g60, g61, g62, Bool.true_or, Bool.or_true, Bool.false_or, Bool.or_false, Bool.true_and, Bool.and_true, Bool.false_and, Bool.and_false, Bool.not_true, Bool.not_false, cond_true, cond_false]; done) | (repeat (first | rw [g49] | rw [g55] | rw [g60] | rw [g61] | rw [g62])) <;> simp only [Bool.true_or, Bool.or_true, Bool.false_or, Bool.or_false, Bool.true_and, Bool.and_true, Bool.false_and, Bool.and_false, Bool.not_true, Bool.not_false, cond_true, cond_false])) rfl .n))) .n rfl rfl rfl)
         ·refine W.pk ?_
          refine .m rfl rfl rfl rfl ?_
          refine .v rfl rfl (OpL.binI rfl rfl rfl rfl) ?_
          refine .m rfl rfl rfl rfl ?_
          refine .x rfl (unmet rfl rfl rfl g49) ?_
          refine .v rfl rfl (O.pickF g49 rfl rfl rfl) ?_
          refine .m rfl rfl rfl rfl ?_
          refine .m rfl (met rfl rfl rfl rfl) rfl rfl ?_
          refine .v rfl (met rfl rfl rfl rfl) (OpL.binI rfl rfl rfl rfl) ?_
          refine .m rfl (met rfl rfl rfl rfl) rfl rfl ?_
          refine .x rfl (unmet rfl rfl rfl g55) ?_
          refine .x rfl (unmet rfl rfl rfl g55) ?_
          refine .v rfl (met rfl rfl rfl rfl) (O.pickF g55 rfl rfl rfl) ?_
          refine .v rfl rfl (O.pickF rfl rfl rfl rfl) ?_
          refine .m rfl rfl rfl rfl ?_
          refine .m rfl (met rfl rfl rfl rfl) rfl rfl ?_
          refine .v rfl (met rfl rfl rfl rfl) (OpL.binI rfl rfl rfl rfl) ?_
          refine .m rfl (met rfl rfl rfl rfl) rfl rfl ?_
          refine .x rfl (unmet rfl rfl rfl g60) ?_
          refine .x rfl (unmet rfl rfl rfl g60) ?_
          refine .x rfl (unmet rfl rfl rfl g60) ?_
          refine .x rfl (unmetU rfl rfl rfl) ?_
          refine .x rfl (unmetU rfl rfl rfl) ?_
          refine .x rfl (unmetU rfl rfl rfl) ?_
          refine .x rfl (unmetU rfl rfl rfl) ?_
          refine .x rfl (unmetU rfl rfl rfl) ?_
          refine .x rfl (unmet rfl rfl rfl g60) ?_
          refine .v rfl (met rfl rfl rfl rfl) (O.pickF g60 rfl rfl rfl) ?_
          refine .v rfl rfl (O.pickF rfl rfl rfl rfl) ?_
          refine .a rfl rfl rfl rfl ?_
          refine .nil ?_
          exact toN (Gives.mkR [] (.r rfl rfl (.r rfl rfl (.c rfl (sbb (by first | (simp only [g49, g55, g60, Bool.true_or, Bool.or_true, Bool.false_or, Bool.or_false, Bool.true_and, Bool.and_true, Bool.false_and, Bool.and_false, Bool.not_true, Bool.not_false, cond_true, cond_false]; done) | (repeat (first | rw [g49] | rw [g55] | rw [g60])) <;> simp only [Bool.true_or, Bool.or_true, Bool.false_or, Bool.or_false, Bool.true_and, Bool.and_true, Bool.false_and, Bool.and_false, Bool.not_true, Bool.not_false, cond_true, cond_false])) rfl .n))) .n rfl rfl rfl)
     ·clear h
      rcases tf (decide ((List.length t12.1 : Int) > 0)) with g48 | g48
      ·refine W.pk ?_
       refine .m rfl rfl rfl rfl ?_
       refine .v rfl rfl (O.lenR sl106 rfl rfl) ?_
       refine .v rfl rfl (OpL.binI rfl rfl rfl rfl) ?_
       refine .m rfl rfl rfl rfl ?_
       refine .m rfl (met rfl rfl rfl g48) rfl rfl ?_
       refine .v rfl (met rfl rfl rfl g48) (O.idx sl106 (c47 (by simp only [g48, Bool.true_or, Bool.or_true, Bool.false_or, Bool.or_false, Bool.true_and, Bool.and_true, Bool.false_and, Bool.and_false, Bool.not_true, Bool.not_false, cond_true, cond_false])) rfl rfl rfl) ?_
       refine .v rfl (met rfl rfl rfl g48) (O.ld (y := .imm (.val (.int .u64 (nth t12.1 0)))) ty95 rfl rfl rfl) ?_
       refine .v rfl (met rfl rfl rfl g48) (O.rem rfl rfl rfl (by decide)) ?_
       refine .v rfl (met rfl rfl rfl g48) (OpL.binI rfl rfl rfl rfl) ?_
       refine .v rfl rfl (O.pickT g48 rfl rfl rfl) ?_
       refine .a rfl rfl rfl rfl ?_
       refine .nil ?_
       exact toN (Gives.mkR [] (.r rfl rfl (.r rfl rfl (.r rfl rfl (.r rfl rfl (.c rfl (sbb (by simp only [g48, Bool.true_or, Bool.or_true, Bool.false_or, Bool.or_false, Bool.true_and, Bool.and_true, Bool.false_and, Bool.and_false, Bool.not_true, Bool.not_false, cond_true, cond_false])) rfl .n))))) .n rfl rfl rfl)
      ·refine W.pk ?_
       refine .m rfl rfl rfl rfl ?_
       refine .v rfl rfl (O.lenR sl106 rfl rfl) ?_
       refine .v rfl rfl (OpL.binI rfl rfl rfl rfl) ?_
       refine .m rfl rfl rfl rfl ?_
       refine .x rfl (unmet rfl rfl rfl g48) ?_
       refine .x rfl (unmet rfl rfl rfl g48) ?_
       refine .x rfl (unmet rfl rfl rfl g48) ?_
       refine .x rfl (unmet rfl rfl rfl g48) ?_
       refine .x rfl (unmet rfl rfl rfl g48) ?_
       refine .v rfl rfl (O.pickF g48 rfl rfl rfl) ?_
       refine .a rfl rfl rfl rfl ?_
       refine .nil ?_
       exact toN (Gives.mkR [] (.r rfl rfl (.r rfl rfl (.r rfl rfl (.r rfl rfl (.c rfl (sbb (by simp only [g48, Bool.true_or, Bool.or_true, Bool.false_or, Bool.or_false, Bool.true_and, Bool.and_true, Bool.false_and, Bool.and_false, Bool.not_true, Bool.not_false, cond_true, cond_false])) rfl .n))))) .n rfl rfl rfl)
    ·have h := ifF q40 h
     refine W.skip ?_
     cases h
     exact toN (Gives.mkR [] (.r rfl rfl (.r rfl rfl (.r rfl rfl .n))) .n rfl rfl rfl)
 ·clear h
  rcases tf (x2 == 0) with g1 | g1
  ·refine W.pk ?_
   refine .m rfl rfl rfl rfl ?_
   refine .v rfl rfl (OpL.binI rfl rfl rfl rfl) ?_
   refine .m rfl rfl rfl rfl ?_
   refine .x rfl (unmet rfl rfl rfl g1) ?_
   refine .x rfl (unmet rfl rfl rfl g1) ?_
   refine .v rfl rfl (O.pickT g1 rfl rfl rfl) ?_
   refine .m rfl rfl rfl rfl ?_
   refine .x rfl (unmet rfl rfl rfl rfl) ?_
   refine .x rfl (unmet rfl rfl rfl rfl) ?_
   refine .v rfl rfl (O.pickT rfl rfl rfl rfl) ?_
   refine .nil ?_
   exact toN (Gives.mkR [] (.r rfl rfl (.r rfl rfl (.r rfl rfl (.r rfl rfl (.c rfl (sbb (by simp only [g1, Bool.true_or, Bool.or_true, Bool.false_or, Bool.or_false, Bool.true_and, Bool.and_true, Bool.false_and, Bool.and_false, Bool.not_true, Bool.not_false, cond_true, cond_false])) rfl .n))))) .n rfl rfl rfl)
  ·rcases tf (decide (x3 < 1)) with g2 | g2
   ·refine W.pk ?_
    refine .m rfl rfl rfl rfl ?_
    refine .v rfl rfl (OpL.binI rfl rfl rfl rfl) ?_
    refine .m rfl rfl rfl rfl ?_
    refine .m rfl (met rfl rfl rfl g1) rfl rfl ?_
    refine .v rfl (met rfl rfl rfl g1) (OpL.binI rfl rfl rfl rfl) ?_
    refine .v rfl rfl (O.pickF g1 rfl rfl rfl) ?_
    refine .m rfl rfl rfl rfl ?_
    refine .x rfl (unmet rfl rfl rfl g2) ?_
    refine .x rfl (unmet rfl rfl rfl g2) ?_
    refine .v rfl rfl (O.pickT g2 rfl rfl rfl) ?_
    refine .nil ?_
    exact toN (Gives.mkR [] (.r rfl rfl (.r rfl rfl (.r rfl rfl (.r rfl rfl (.c rfl (sbb (by first | (simp only [g1, g2, Bool.true_or, Bool.or_true, Bool.false_or, Bool.or_false, Bool.true_and, Bool.and_true, Bool.false_and, Bool.and_false, Bool.not_true, Bool.not_false, cond_true, cond_false]; done) | (repeat (first | rw [g1] | rw [g2])) <;> simp only [Bool.true_or, Bool.or_true, Bool.false_or, Bool.or_false, Bool.true_and, Bool.and_true, Bool.false_and, Bool.and_false, Bool.not_true, Bool.not_false, cond_true, cond_false])) rfl .n))))) .n rfl rfl rfl)
   ·refine W.pk ?_
    refine .m rfl rfl rfl rfl ?_
    refine .v rfl rfl (OpL.binI rfl rfl rfl rfl) ?_
    refine .m rfl rfl rfl rfl ?_
    refine .m rfl (met rfl rfl rfl g1) rfl rfl ?_
    refine .v rfl (met rfl rfl rfl g1) (OpL.binI rfl rfl rfl rfl) ?_
    refine .v rfl rfl (O.pickF g1 rfl rfl rfl) ?_
    refine .m rfl rfl rfl rfl ?_
    refine .m rfl (met rfl rfl rfl g2) rfl rfl ?_
    refine .v rfl (met rfl rfl rfl g2) (OpL.binI rfl rfl rfl rfl) ?_
    refine .v rfl rfl (O.pickF g2 rfl rfl rfl) ?_
    refine .nil ?_
    exact toN (Gives.mkR [] (.r rfl rfl (.r rfl rfl (.r rfl rfl (.r rfl rfl (.c rfl (sbb (by first | (simp only [g1, g2, Bool.true_or, Bool.or_true, Bool.false_or, Bool.or_false, Bool.true_and, Bool.and_true, Bool.false_and, Bool.and_false, Bool.not_true, Bool.not_false, cond_true, cond_false]; done) | (repeat (first | rw [g1] | rw [g2])) <;> simp only [Bool.true_or, Bool.or_true, Bool.false_or, Bool.or_false, Bool.true_and, Bool.and_true, Bool.false_and, Bool.and_false, Bool.not_true, Bool.not_false, cond_true, cond_false])) rfl .n))))) .n rfl rfl rfl)
end Go.Proofs.Ytdcpdnfalnelkaa
