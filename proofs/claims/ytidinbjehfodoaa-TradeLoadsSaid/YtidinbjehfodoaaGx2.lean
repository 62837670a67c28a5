/- Shows what functions of the program come to, each as a plain function: written by a program of the author's for this claim. -/
import Derived.Test.YtidinbjehfodoaaGx1
namespace Go.Proofs.Ytidinbjehfodoaa
open Go Go.Pm
set_option linter.unusedVariables false
set_option linter.unusedSimpArgs false
noncomputable def lombardlaw23_awake.f  : Option (Bool) :=
  (trade_New.f).bind fun t1 =>
  (trade_Book_Novate.f t1 (⟨1, 2, 1, 100, 0, 0, 0⟩ : api_Fill)).bind fun t3 =>
  (trade_Book_Get.f t3.2.2.2 2).bind fun t5 =>
  (if (((((((t3.2.2.1 == 0) && (t3.1 == 1)) && (t3.2.1 == 2)) && t5.2) && (t5.1.Member == 2)) && (t5.1.Side == 2)) && (t5.1.Twin == 1)) = true then trade_Book_Borrowed.f t3.2.2.2 2 else some default).bind fun t7 =>
  some ((((((((t3.2.2.1 == 0) && (t3.1 == 1)) && (t3.2.1 == 2)) && t5.2) && (t5.1.Member == 2)) && (t5.1.Side == 2)) && (t5.1.Twin == 1)) && (t7 == 100))
set_option maxRecDepth 100000 in
set_option maxHeartbeats 4000000 in
theorem lombardlaw23_awake.ok  {r : Bool} (h : lombardlaw23_awake.f  = some r) : Pm.Spec prog 8 [] (.imm (.val (.bool r))) [] := by
 unfold lombardlaw23_awake.f at h
 refine Pm.Spec.of_body Try.func8 rfl (by kernel_rfl) (Nat.le_of_ble_eq_true rfl) (Nat.le_of_ble_eq_true rfl) ?_
 refine W.ghost (σ' := (mkSt [] [] 1000)) (Gives.entry .n .n) ?_
 refine W.seq ?_
 refine W.pk ?_
 refine .a rfl rfl rfl rfl ?_
 refine .nil ?_
 refine W.seq ?_
 obtain ⟨t1, b2, h⟩ := bnd1 h
 refine W.pk ?_
 refine .call (.ptr 1000 0) [(1000, some (.box [.own 1001, .i t1.next, .b t1.made])), (1001, some (.rows 26 11 (List.map api_Trade.enc t1.l) false))] 2 (trade_New.ok b2) rfl rfl rfl ca20 rfl rfl .nil rfl rfl rfl rfl rfl ?_
 refine .a rfl rfl rfl rfl ?_
 refine .nil ?_
 refine W.seq ?_
 obtain ⟨t3, b4, h⟩ := bnd1 h
 refine W.pk ?_
 refine .m rfl rfl rfl rfl ?_
 refine .v rfl rfl (O.build (out := [.i 1, .i 2, .i 1, .i 100, .i 0, .i 0, .i 0]) bl23 rfl rfl rfl rfl (by kernel_rfl)) ?_
 refine .call (.tup [.i t3.1, .i t3.2.1, .i t3.2.2.1]) [(1000, some (.box [.own 1002, .i t3.2.2.2.next, .b t3.2.2.2.made])), (1002, some (.rows 26 11 (List.map api_Trade.enc t3.2.2.2.l) false)), (1000, none), (1001, none)] 1 (trade_Book_Novate.ok b4) rfl rfl rfl ca31 rfl rfl (cC (.ptr _ _ _ _ _ rfl (cC (.own _ _ _ _ rfl) (cC (.imm _) (cC (.imm _) .nil)))) (cC (.agg _ _ _ _ (cC (.imm _) (cC (.imm _) (cC (.imm _) (cC (.imm _) (cC (.imm _) (cC (.imm _) (cC (.imm _) .nil)))))))) .nil)) rfl rfl rfl rfl rfl ?_
 refine .m rfl rfl rfl rfl ?_
 refine .v rfl rfl (OpL.extract rfl rfl rfl) ?_
 refine .v rfl rfl (OpL.extract rfl rfl rfl) ?_
 refine .v rfl rfl (OpL.extract rfl rfl rfl) ?_
 refine .a rfl rfl rfl rfl ?_
 refine .a rfl rfl rfl rfl ?_
 refine .a rfl rfl rfl rfl ?_
 refine .nil ?_
 refine W.seq ?_
 obtain ⟨t5, b6, h⟩ := bnd1 h
 refine W.pk ?_
 refine .m rfl rfl rfl rfl ?_
 refine .call (.tup [.agg (api_Trade.av t5.1), .b t5.2]) [(1000, some (.box [.own 1003, .i t3.2.2.2.next, .b t3.2.2.2.made])), (1003, some (.rows 26 11 (List.map api_Trade.enc t3.2.2.2.l) false)), (1000, none), (1002, none)] 1 (trade_Book_Get.ok b6) rfl rfl rfl ca23 rfl rfl (cC (.ptr _ _ _ _ _ rfl (cC (.own _ _ _ _ rfl) (cC (.imm _) (cC (.imm _) .nil)))) (cC (.imm _) .nil)) rfl rfl rfl rfl rfl ?_
 refine .m rfl rfl rfl rfl ?_
 refine .v rfl rfl (OpL.extract rfl rfl rfl) ?_
 refine .v rfl rfl (OpL.extract rfl rfl rfl) ?_
 refine .t rfl rfl (O.alloc z26 rfl) ?_
 refine .s rfl rfl (O.st ty26 rfl rfl rfl rfl rfl rfl rfl rfl rfl rfl (all' := [.i t5.1.ID, .i t5.1.Twin, .i t5.1.Member, .i t5.1.Side, .i t5.1.Basket, .i t5.1.Amount, .i t5.1.Start, .i t5.1.End, .imm (.row 2 (List.map api_Reset.enc t5.1.Resets)), .i t5.1.Stage, .b t5.1.Short]) rfl) ?_
 refine .a rfl rfl rfl rfl ?_
 refine .nil ?_
 refine W.seq ?_
 obtain ⟨t7, b8, h⟩ := bnd1 h
 refine W.fork (mkSt [(0, some (.b ((((((((t3.2.2.1 == 0) && (t3.1 == 1)) && (t3.2.1 == 2)) && t5.2) && (t5.1.Member == 2)) && (t5.1.Side == 2)) && (t5.1.Twin == 1)) && (t7 == 100))))] [] 1006) ?_ ?_
 ·refine W.ret ?_
  cases h
  exact leaves (.inr rfl) rfl (.imm _) .nil rfl rfl
 ·clear h
  rcases tf (t3.2.2.1 == 0) with g9 | g9
  ·rcases tf (t3.1 == 1) with g10 | g10
   ·rcases tf (t3.2.1 == 2) with g11 | g11
    ·rcases tf t5.2 with g12 | g12
     ·rcases tf (t5.1.Member == 2) with g13 | g13
      ·rcases tf (t5.1.Side == 2) with g14 | g14
       ·rcases tf (t5.1.Twin == 1) with g15 | g15
        ·refine W.pk ?_
         refine .m rfl rfl rfl rfl ?_
         refine .v rfl rfl (OpL.binI rfl rfl rfl rfl) ?_
         refine .m rfl rfl rfl rfl ?_
         refine .m rfl (met rfl rfl rfl g9) rfl rfl ?_
         refine .v rfl (met rfl rfl rfl g9) (OpL.binI rfl rfl rfl rfl) ?_
         refine .v rfl rfl (O.pickT g9 rfl rfl rfl) ?_
         refine .m rfl rfl rfl rfl ?_
         refine .m rfl (met rfl rfl rfl g10) rfl rfl ?_
         refine .v rfl (met rfl rfl rfl g10) (OpL.binI rfl rfl rfl rfl) ?_
         refine .v rfl rfl (O.pickT g10 rfl rfl rfl) ?_
         refine .m rfl rfl rfl rfl ?_
         refine .m rfl (met rfl rfl rfl g11) rfl rfl ?_
         refine .v rfl rfl (O.pickT g11 rfl rfl rfl) ?_
         refine .m rfl rfl rfl rfl ?_
         refine .v rfl (met rfl rfl rfl g12) (O.fld fld26_2 rfl rfl rfl) ?_
         refine .v rfl (met rfl rfl rfl g12) (O.ld (y := .i t5.1.Member) ty3 rfl rfl rfl) ?_
         refine .v rfl (met rfl rfl rfl g12) (OpL.binI rfl rfl rfl rfl) ?_
         refine .v rfl rfl (O.pickT g12 rfl rfl rfl) ?_
         refine .m rfl rfl rfl rfl ?_
         refine .v rfl (met rfl rfl rfl g13) (O.fld fld26_3 rfl rfl rfl) ?_
         refine .v rfl (met rfl rfl rfl g13) (O.ld (y := .i t5.1.Side) ty3 rfl rfl rfl) ?_
         refine .v rfl (met rfl rfl rfl g13) (OpL.binI rfl rfl rfl rfl) ?_
         refine .v rfl rfl (O.pickT g13 rfl rfl rfl) ?_
         refine .m rfl rfl rfl rfl ?_
         refine .v rfl (met rfl rfl rfl g14) (O.fld fld26_1 rfl rfl rfl) ?_
         refine .v rfl (met rfl rfl rfl g14) (O.ld (y := .i t5.1.Twin) ty3 rfl rfl rfl) ?_
         refine .v rfl (met rfl rfl rfl g14) (OpL.binI rfl rfl rfl rfl) ?_
         refine .v rfl rfl (O.pickT g14 rfl rfl rfl) ?_
         refine .m rfl rfl rfl rfl ?_
         refine .m rfl (met rfl rfl rfl g15) rfl rfl ?_
         refine .call (.i t7) [(1000, some (.box [.own 1005, .i t3.2.2.2.next, .b t3.2.2.2.made])), (1005, some (.rows 26 11 (List.map api_Trade.enc t3.2.2.2.l) false)), (1000, none), (1003, none)] 1 (trade_Book_Borrowed.ok ((if_pos (by first | (simp only [g9, g10, g11, g12, g13, g14, g15, Bool.true_or, Bool.or_true, Bool.false_or, Bool.or_false, Bool.true_and, Bool.and_true, Bool.false_and, Bool.and_false, Bool.not_true, Bool.not_false, cond_true, cond_false]; done) | (repeat (first | rw [g9] | rw [g10] | rw [g11] | rw [g12] | rw [g13] | rw [g14] | rw [g15])) <;> simp only [Bool.true_or, Bool.or_true, Bool.false_or, Bool.or_false, Bool.true_and, Bool.and_true, Bool.false_and, Bool.and_false, Bool.not_true, Bool.not_false, cond_true, cond_false])).symm.trans b8)) rfl (met rfl rfl rfl g15) rfl ca28 rfl rfl (cC (.ptr _ _ _ _ _ rfl (cC (.own _ _ _ _ rfl) (cC (.imm _) (cC (.imm _) .nil)))) (cC (.imm _) .nil)) rfl rfl rfl rfl rfl ?_
         refine .v rfl (met rfl rfl rfl g15) (OpL.binI rfl rfl rfl rfl) ?_
         refine .v rfl rfl (O.pickT g15 rfl rfl rfl) ?_
         refine .a rfl rfl rfl rfl ?_
         refine .nil ?_
         exact toN (Gives.mkR [] (.c rfl (sbb (by first | (simp only [g9, g10, g11, g12, g13, g14, g15, Bool.true_or, Bool.or_true, Bool.false_or, Bool.or_false, Bool.true_and, Bool.and_true, Bool.false_and, Bool.and_false, Bool.not_true, Bool.not_false, cond_true, cond_false]; done) | (repeat (first | rw [g9] | rw [g10] | rw [g11] | rw [g12] | rw [g13] | rw [g14] | rw [g15])) <;> simp only [Bool.true_or, Bool.or_true, Bool.false_or, Bool.or_false, Bool.true_and, Bool.and_true, Bool.false_and, Bool.and_false, Bool.not_true, Bool.not_false, cond_true, cond_false])) rfl .n) .n rfl rfl rfl)
        ·refine W.pk ?_
         refine .m rfl rfl rfl rfl ?_
         refine .v rfl rfl (OpL.binI rfl rfl rfl rfl) ?_
         refine .m rfl rfl rfl rfl ?_
         refine .m rfl (met rfl rfl rfl g9) rfl rfl ?_
         refine .v rfl (met rfl rfl rfl g9) (OpL.binI rfl rfl rfl rfl) ?_
         refine .v rfl rfl (O.pickT g9 rfl rfl rfl) ?_
         refine .m rfl rfl rfl rfl ?_
         refine .m rfl (met rfl rfl rfl g10) rfl rfl ?_
         refine .v rfl (met rfl rfl rfl g10) (OpL.binI rfl rfl rfl rfl) ?_
         refine .v rfl rfl (O.pickT g10 rfl rfl rfl) ?_
         refine .m rfl rfl rfl rfl ?_
         refine .m rfl (met rfl rfl rfl g11) rfl rfl ?_
         refine .v rfl rfl (O.pickT g11 rfl rfl rfl) ?_
         refine .m rfl rfl rfl rfl ?_
         refine .v rfl (met rfl rfl rfl g12) (O.fld fld26_2 rfl rfl rfl) ?_
         refine .v rfl (met rfl rfl rfl g12) (O.ld (y := .i t5.1.Member) ty3 rfl rfl rfl) ?_
         refine .v rfl (met rfl rfl rfl g12) (OpL.binI rfl rfl rfl rfl) ?_
         refine .v rfl rfl (O.pickT g12 rfl rfl rfl) ?_
         refine .m rfl rfl rfl rfl ?_
         refine .v rfl (met rfl rfl rfl g13) (O.fld fld26_3 rfl rfl rfl) ?_
         refine .v rfl (met rfl rfl rfl g13) (O.ld (y := .i t5.1.Side) ty3 rfl rfl rfl) ?_
         refine .v rfl (met rfl rfl rfl g13) (OpL.binI rfl rfl rfl rfl) ?_
         refine .v rfl rfl (O.pickT g13 rfl rfl rfl) ?_
         refine .m rfl rfl rfl rfl ?_
         refine .v rfl (met rfl rfl rfl g14) (O.fld fld26_1 rfl rfl rfl) ?_
         refine .v rfl (met rfl rfl rfl g14) (O.ld (y := .i t5.1.Twin) ty3 rfl rfl rfl) ?_
         refine .v rfl (met rfl rfl rfl g14) (OpL.binI rfl rfl rfl rfl) ?_
         refine .v rfl rfl (O.pickT g14 rfl rfl rfl) ?_
         refine .m rfl rfl rfl rfl ?_
         refine .x rfl (unmet rfl rfl rfl g15) ?_
         refine .x rfl (unmet rfl rfl rfl g15) ?_
         refine .x rfl (unmet rfl rfl rfl g15) ?_
         refine .v rfl rfl (O.pickF g15 rfl rfl rfl) ?_
         refine .a rfl rfl rfl rfl ?_
         refine .nil ?_
         exact toN (Gives.mkR [] (.c rfl (sbb (by first | (simp only [g9, g10, g11, g12, g13, g14, g15, Bool.true_or, Bool.or_true, Bool.false_or, Bool.or_false, Bool.true_and, Bool.and_true, Bool.false_and, Bool.and_false, Bool.not_true, Bool.not_false, cond_true, cond_false]; done) | (repeat (first | rw [g9] | rw [g10] | rw [g11] | rw [g12] | rw [g13] | rw [g14] | rw [g15])) <;> simp only [Bool.true_or, Bool.or_true, Bool.false_or, Bool.or_false, Bool.true_and, Bool.and_true, Bool.false_and, Bool.and_false, Bool.not_true, Bool.not_false, cond_true, cond_false])) rfl .n) .n rfl rfl rfl)
       ·refine W.pk ?_
        refine .m rfl rfl rfl rfl ?_
        refine .v rfl rfl (OpL.binI rfl rfl rfl rfl) ?_
        refine .m rfl rfl rfl rfl ?_
        refine .m rfl (met rfl rfl rfl g9) rfl rfl ?_
        refine .v rfl (met rfl rfl rfl g9) (OpL.binI rfl rfl rfl rfl) ?_
        refine .v rfl rfl (O.pickT g9 rfl rfl rfl) ?_
        refine .m rfl rfl rfl rfl ?_
        refine .m rfl (met rfl rfl rfl g10) rfl rfl ?_
        refine .v rfl (met rfl rfl rfl g10) (OpL.binI rfl rfl rfl rfl) ?_
        refine .v rfl rfl (O.pickT g10 rfl rfl rfl) ?_
        refine .m rfl rfl rfl rfl ?_
        refine .m rfl (met rfl rfl rfl g11) rfl rfl ?_
        refine .v rfl rfl (O.pickT g11 rfl rfl rfl) ?_
        refine .m rfl rfl rfl rfl ?_
        refine .v rfl (met rfl rfl rfl g12) (O.fld fld26_2 rfl rfl rfl) ?_
        refine .v rfl (met rfl rfl rfl g12) (O.ld (y := .i t5.1.Member) ty3 rfl rfl rfl) ?_
        refine .v rfl (met rfl rfl rfl g12) (OpL.binI rfl rfl rfl rfl) ?_
        refine .v rfl rfl (O.pickT g12 rfl rfl rfl) ?_
        refine .m rfl rfl rfl rfl ?_
        refine .v rfl (met rfl rfl rfl g13) (O.fld fld26_3 rfl rfl rfl) ?_
        refine .v rfl (met rfl rfl rfl g13) (O.ld (y := .i t5.1.Side) ty3 rfl rfl rfl) ?_
        refine .v rfl (met rfl rfl rfl g13) (OpL.binI rfl rfl rfl rfl) ?_
        refine .v rfl rfl (O.pickT g13 rfl rfl rfl) ?_
        refine .m rfl rfl rfl rfl ?_
        refine .x rfl (unmet rfl rfl rfl g14) ?_
        refine .x rfl (unmet rfl rfl rfl g14) ?_
        refine .x rfl (unmet rfl rfl rfl g14) ?_
        refine .v rfl rfl (O.pickF g14 rfl rfl rfl) ?_
        refine .m rfl rfl rfl rfl ?_
        refine .x rfl (unmet rfl rfl rfl rfl) ?_
        refine .x rfl (unmet rfl rfl rfl rfl) ?_
        refine .x rfl (unmet rfl rfl rfl rfl) ?_
        refine .v rfl rfl (O.pickF rfl rfl rfl rfl) ?_
        refine .a rfl rfl rfl rfl ?_
        refine .nil ?_
        exact toN (Gives.mkR [] (.c rfl (sbb (by first | (simp only [g9, g10, g11, g12, g13, g14, Bool.true_or, Bool.or_true, Bool.false_or, Bool.or_false, Bool.true_and, Bool.and_true, Bool.false_and, Bool.and_false, Bool.not_true, Bool.not_false, cond_true, cond_false]; done) | (repeat (first | rw [g9] | rw [g10] | rw [g11] | rw [g12] | rw [g13] | rw [g14])) <;> simp only [Bool.true_or, Bool.or_true, Bool.false_or, Bool.or_false, Bool.true_and, Bool.and_true, Bool.false_and, Bool.and_false, Bool.not_true, Bool.not_false, cond_true, cond_false])) rfl .n) .n rfl rfl rfl)
      ·refine W.pk ?_
       refine .m rfl rfl rfl rfl ?_
       refine .v rfl rfl (OpL.binI rfl rfl rfl rfl) ?_
       refine .m rfl rfl rfl rfl ?_
       refine .m rfl (met rfl rfl rfl g9) rfl rfl ?_
       refine .v rfl (met rfl rfl rfl g9) (OpL.binI rfl rfl rfl rfl) ?_
       refine .v rfl rfl (O.pickT g9 rfl rfl rfl) ?_
       refine .m rfl rfl rfl rfl ?_
       refine .m rfl (met rfl rfl rfl g10) rfl rfl ?_
       refine .v rfl (met rfl rfl rfl g10) (OpL.binI rfl rfl rfl rfl) ?_
       refine .v rfl rfl (O.pickT g10 rfl rfl rfl) ?_
       refine .m rfl rfl rfl rfl ?_
       refine .m rfl (met rfl rfl rfl g11) rfl rfl ?_
       refine .v rfl rfl (O.pickT g11 rfl rfl rfl) ?_
       refine .m rfl rfl rfl rfl ?_
       refine .v rfl (met rfl rfl rfl g12) (O.fld fld26_2 rfl rfl rfl) ?_
       refine .v rfl (met rfl rfl rfl g12) (O.ld (y := .i t5.1.Member) ty3 rfl rfl rfl) ?_
       refine .v rfl (met rfl rfl rfl g12) (OpL.binI rfl rfl rfl rfl) ?_
       refine .v rfl rfl (O.pickT g12 rfl rfl rfl) ?_
       refine .m rfl rfl rfl rfl ?_
       refine .x rfl (unmet rfl rfl rfl g13) ?_
       refine .x rfl (unmet rfl rfl rfl g13) ?_
       refine .x rfl (unmet rfl rfl rfl g13) ?_
       refine .v rfl rfl (O.pickF g13 rfl rfl rfl) ?_
       refine .m rfl rfl rfl rfl ?_
       refine .x rfl (unmet rfl rfl rfl rfl) ?_
       refine .x rfl (unmet rfl rfl rfl rfl) ?_
       refine .x rfl (unmet rfl rfl rfl rfl) ?_
       refine .v rfl rfl (O.pickF rfl rfl rfl rfl) ?_
       refine .m rfl rfl rfl rfl ?_
       refine .x rfl (unmet rfl rfl rfl rfl) ?_
       refine .x rfl (unmet rfl rfl rfl rfl) ?_
       refine .x rfl (unmet rfl rfl rfl rfl) ?_
       refine .v rfl rfl (O.pickF rfl rfl rfl rfl) ?_
       refine .a rfl rfl rfl rfl ?_
       refine .nil ?_
       exact toN (Gives.mkR [] (.c rfl (sbb (by first | (simp only [g9, g10, g11, g12, g13, Bool.true_or, Bool.or_true, Bool.false_or, Bool.or_false, Bool.true_and, Bool.and_true, Bool.false_and, Bool.and_false, Bool.not_true, Bool.not_false, cond_true, cond_false]; done) | (repeat (first | rw [g9] | rw [g10] | rw [g11] | rw [g12] | rw [g13])) <;> simp only [Bool.true_or, Bool.or_true, Bool.false_or, Bool.or_false, Bool.true_and, Bool.and_true, Bool.false_and, Bool.and_false, Bool.not_true, Bool.not_false, cond_true, cond_false])) rfl .n) .n rfl rfl rfl)
     ·refine W.pk ?_
      refine .m rfl rfl rfl rfl ?_
      refine .v rfl rfl (OpL.binI rfl rfl rfl rfl) ?_
      refine .m rfl rfl rfl rfl ?_
      refine .m rfl (met rfl rfl rfl g9) rfl rfl ?_
      refine .v rfl (met rfl rfl rfl g9) (OpL.binI rfl rfl rfl rfl) ?_
      refine .v rfl rfl (O.pickT g9 rfl rfl rfl) ?_
      refine .m rfl rfl rfl rfl ?_
      refine .m rfl (met rfl rfl rfl g10) rfl rfl ?_
      refine .v rfl (met rfl rfl rfl g10) (OpL.binI rfl rfl rfl rfl) ?_
      refine .v rfl rfl (O.pickT g10 rfl rfl rfl) ?_
      refine .m rfl rfl rfl rfl ?_
      refine .m rfl (met rfl rfl rfl g11) rfl rfl ?_
      refine .v rfl rfl (O.pickT g11 rfl rfl rfl) ?_
      refine .m rfl rfl rfl rfl ?_
      refine .x rfl (unmet rfl rfl rfl g12) ?_
      refine .x rfl (unmet rfl rfl rfl g12) ?_
      refine .x rfl (unmet rfl rfl rfl g12) ?_
      refine .v rfl rfl (O.pickF g12 rfl rfl rfl) ?_
      refine .m rfl rfl rfl rfl ?_
      refine .x rfl (unmet rfl rfl rfl rfl) ?_
      refine .x rfl (unmet rfl rfl rfl rfl) ?_
      refine .x rfl (unmet rfl rfl rfl rfl) ?_
      refine .v rfl rfl (O.pickF rfl rfl rfl rfl) ?_
      refine .m rfl rfl rfl rfl ?_
      refine .x rfl (unmet rfl rfl rfl rfl) ?_
      refine .x rfl (unmet rfl rfl rfl rfl) ?_
      refine .x rfl (unmet rfl rfl rfl rfl) ?_
      refine .v rfl rfl (O.pickF rfl rfl rfl rfl) ?_
      refine .m rfl rfl rfl rfl ?_
      refine .x rfl (unmet rfl rfl rfl rfl) ?_
      refine .x rfl (unmet rfl rfl rfl rfl) ?_
      refine .x rfl (unmet rfl rfl rfl rfl) ?_
      refine .v rfl rfl (O.pickF rfl rfl rfl rfl) ?_
      refine .a rfl rfl rfl rfl ?_
      refine .nil ?_
      exact toN (Gives.mkR [] (.c rfl (sbb (by first | (simp only [g9, g10, g11, g12, Bool.true_or, Bool.or_true, Bool.false_or, Bool.or_false, Bool.true_and, Bool.and_true, Bool.false_and, Bool.and_false, Bool.not_true, Bool.not_false, cond_true, cond_false]; done) | (repeat (first | rw [g9] | rw [g10] | rw [g11] | rw [g12])) <;> simp only [Bool.true_or, Bool.or_true, Bool.false_or, Bool.or_false, Bool.true_and, Bool.and_true, Bool.false_and, Bool.and_false, Bool.not_true, Bool.not_false, cond_true, cond_false])) rfl .n) .n rfl rfl rfl)
    ·refine W.pk ?_
     refine .m rfl rfl rfl rfl ?_
     refine .v rfl rfl (OpL.binI rfl rfl rfl rfl) ?_
     refine .m rfl rfl rfl rfl ?_
     refine .m rfl (met rfl rfl rfl g9) rfl rfl ?_
     refine .v rfl (met rfl rfl rfl g9) (OpL.binI rfl rfl rfl rfl) ?_
     refine .v rfl rfl (O.pickT g9 rfl rfl rfl) ?_
     refine .m rfl rfl rfl rfl ?_
     refine .m rfl (met rfl rfl rfl g10) rfl rfl ?_
     refine .v rfl (met rfl rfl rfl g10) (OpL.binI rfl rfl rfl rfl) ?_
     refine .v rfl rfl (O.pickT g10 rfl rfl rfl) ?_
     refine .m rfl rfl rfl rfl ?_
     refine .x rfl (unmet rfl rfl rfl g11) ?_
     refine .v rfl rfl (O.pickF g11 rfl rfl rfl) ?_
     refine .m rfl rfl rfl rfl ?_
     refine .x rfl (unmet rfl rfl rfl rfl) ?_
     refine .x rfl (unmet rfl rfl rfl rfl) ?_
     refine .x rfl (unmet rfl rfl rfl rfl) ?_
     refine .v rfl rfl (O.pickF rfl rfl rfl rfl) ?_
     refine .m rfl rfl rfl rfl ?_
     refine .x rfl (unmet rfl rfl rfl rfl) ?_
     refine .x rfl (unmet rfl rfl rfl rfl) ?_
     refine .x rfl (unmet rfl rfl rfl rfl) ?_
     refine .v rfl rfl (O.pickF rfl rfl rfl rfl) ?_
     refine .m rfl rfl rfl rfl ?_
     refine .x rfl (unmet rfl rfl rfl rfl) ?_
     refine .x rfl (unmet rfl rfl rfl rfl) ?_
     refine .x rfl (unmet rfl rfl rfl rfl) ?_
     refine .v rfl rfl (O.pickF rfl rfl rfl rfl) ?_
     refine .m rfl rfl rfl rfl ?_
     refine .x rfl (unmet rfl rfl rfl rfl) ?_
     refine .x rfl (unmet rfl rfl rfl rfl) ?_
     refine .x rfl (unmet rfl rfl rfl rfl) ?_
     refine .v rfl rfl (O.pickF rfl rfl rfl rfl) ?_
     refine .a rfl rfl rfl rfl ?_
     refine .nil ?_
     exact toN (Gives.mkR [] (.c rfl (sbb (by first | (simp only [g9, g10, g11, Bool.true_or, Bool.or_true, Bool.false_or, Bool.or_false, Bool.true_and, Bool.and_true, Bool.false_and, Bool.and_false, Bool.not_true, Bool.not_false, cond_true, cond_false]; done) | (repeat (first | rw [g9] | rw [g10] | rw [g11])) <;> simp only [Bool.true_or, Bool.or_true, Bool.false_or, Bool.or_false, Bool.true_and, Bool.and_true, Bool.false_and, Bool.and_false, Bool.not_true, Bool.not_false, cond_true, cond_false])) rfl .n) .n rfl rfl rfl)
   ·refine W.pk ?_
    refine .m rfl rfl rfl rfl ?_
    refine .v rfl rfl (OpL.binI rfl rfl rfl rfl) ?_
    refine .m rfl rfl rfl rfl ?_
    refine .m rfl (met rfl rfl rfl g9) rfl rfl ?_
    refine .v rfl (met rfl rfl rfl g9) (OpL.binI rfl rfl rfl rfl) ?_
    refine .v rfl rfl (O.pickT g9 rfl rfl rfl) ?_
    refine .m rfl rfl rfl rfl ?_
    refine .x rfl (unmet rfl rfl rfl g10) ?_
    refine .x rfl (unmet rfl rfl rfl g10) ?_
    refine .v rfl rfl (O.pickF g10 rfl rfl rfl) ?_
    refine .m rfl rfl rfl rfl ?_
    refine .x rfl (unmet rfl rfl rfl rfl) ?_
    refine .v rfl rfl (O.pickF rfl rfl rfl rfl) ?_
    refine .m rfl rfl rfl rfl ?_
    refine .x rfl (unmet rfl rfl rfl rfl) ?_
    refine .x rfl (unmet rfl rfl rfl rfl) ?_
    refine .x rfl (unmet rfl rfl rfl rfl) ?_
    refine .v rfl rfl (O.pickF rfl rfl rfl rfl) ?_
    refine .m rfl rfl rfl rfl ?_
    refine .x rfl (unmet rfl rfl rfl rfl) ?_
    refine .x rfl (unmet rfl rfl rfl rfl) ?_
    refine .x rfl (unmet rfl rfl rfl rfl) ?_
    refine .v rfl rfl (O.pickF rfl rfl rfl rfl) ?_
    refine .m rfl rfl rfl rfl ?_
    refine .x rfl (unmet rfl rfl rfl rfl) ?_
    refine .x rfl (unmet rfl rfl rfl rfl) ?_
    refine .x rfl (unmet rfl rfl rfl rfl) ?_
    refine .v rfl rfl (O.pickF rfl rfl rfl rfl) ?_
    refine .m rfl rfl rfl rfl ?_
    refine .x rfl (unmet rfl rfl rfl rfl) ?_
    refine .x rfl (unmet rfl rfl rfl rfl) ?_
    refine .x rfl (unmet rfl rfl rfl rfl) ?_
    refine .v rfl rfl (O.pickF rfl rfl rfl rfl) ?_
    refine .a rfl rfl rfl rfl ?_
    refine .nil ?_
    exact toN (Gives.mkR [] (.c rfl (sbb (by first | (simp only [g9, g10, Bool.true_or, Bool.or_true, Bool.false_or, Bool.or_false, Bool.true_and, Bool.and_true, Bool.false_and, Bool.and_false, Bool.not_true, Bool.not_false, cond_true, cond_false]; done) | (repeat (first | rw [g9] | rw [g10])) <;> simp only [Bool.true_or, Bool.or_true, Bool.false_or, Bool.or_false, Bool.true_and, Bool.and_true, Bool.false_and, Bool.and_false, Bool.not_true, Bool.not_false, cond_true, cond_false])) rfl .n) .n rfl rfl rfl)
  ·refine W.pk ?_
   refine .m rfl rfl rfl rfl ?_
   refine .v rfl rfl (OpL.binI rfl rfl rfl rfl) ?_
   refine .m rfl rfl rfl rfl ?_
   refine .x rfl (unmet rfl rfl rfl g9) ?_
   refine .x rfl (unmet rfl rfl rfl g9) ?_
   refine .v rfl rfl (O.pickF g9 rfl rfl rfl) ?_
   refine .m rfl rfl rfl rfl ?_
   refine .x rfl (unmet rfl rfl rfl rfl) ?_
   refine .x rfl (unmet rfl rfl rfl rfl) ?_
   refine .v rfl rfl (O.pickF rfl rfl rfl rfl) ?_
   refine .m rfl rfl rfl rfl ?_
   refine .x rfl (unmet rfl rfl rfl rfl) ?_
   refine .v rfl rfl (O.pickF rfl rfl rfl rfl) ?_
   refine .m rfl rfl rfl rfl ?_
   refine .x rfl (unmet rfl rfl rfl rfl) ?_
   refine .x rfl (unmet rfl rfl rfl rfl) ?_
   refine .x rfl (unmet rfl rfl rfl rfl) ?_
   refine .v rfl rfl (O.pickF rfl rfl rfl rfl) ?_
   refine .m rfl rfl rfl rfl ?_
   refine .x rfl (unmet rfl rfl rfl rfl) ?_
   refine .x rfl (unmet rfl rfl rfl rfl) ?_
   refine .x rfl (unmet rfl rfl rfl rfl) ?_
   refine .v rfl rfl (O.pickF rfl rfl rfl rfl) ?_
   refine .m rfl rfl rfl rfl ?_
   refine .x rfl (unmet rfl rfl rfl rfl) ?_
   refine .x rfl (unmet rfl rfl rfl rfl) ?_
   refine .x rfl (unmet rfl rfl rfl rfl) ?_
   refine .v rfl rfl (O.pickF rfl rfl rfl rfl) ?_
   refine .m rfl rfl rfl rfl ?_
   refine .x rfl (unmet rfl rfl rfl rfl) ?_
   refine .x rfl (unmet rfl rfl rfl rfl) ?_
   refine .x rfl (unmet rfl rfl rfl rfl) ?_
   refine .v rfl rfl (O.pickF rfl rfl rfl rfl) ?_
   refine .a rfl rfl rfl rfl ?_
   refine .nil ?_
   exact toN (Gives.mkR [] (.c rfl (sbb (by simp only [g9, Bool.true_or, Bool.or_true, Bool.false_or, Bool.or_false, Bool.true_and, Bool.and_true, Bool.false_and, Bool.and_false, Bool.not_true, Bool.not_false, cond_true, cond_false])) rfl .n) .n rfl rfl rfl)

noncomputable def accrue_Check.b0 (x0 : List api_Reset) (v13 : Int) : Option (Int ⊕ (Int ⊕ Unit)) :=
  if (decide (v13 < (List.length x0 : Int))) = true then
    if (0 : Int) ≤ v13 ∧ v13 < (List.length x0 : Int) then
    (calendar_Good.f ((nth x0 v13).Day)).bind fun t40 =>
    if ((!t40) = false ∧ (decide (v13 > 0)) = true → (0 : Int) ≤ (IntKind.wrap .i64 (v13 - 1)) ∧ (IntKind.wrap .i64 (v13 - 1)) < (List.length x0 : Int)) then
    if ((!t40) || ((decide (v13 > 0)) && (decide (((nth x0 v13).Day) ≤ ((nth x0 (IntKind.wrap .i64 (v13 - 1))).Day))))) = true then
      some (.inr (.inl 10))
    else
      if ((decide (((nth x0 v13).Rate) < (-1000000))) || (decide (((nth x0 v13).Rate) > 1000000))) = true then
        some (.inr (.inl 1))
      else
        some (.inl (IntKind.wrap .i64 (v13 + 1)))
    else none
    else none
  else
    some (.inr (.inr ()))
noncomputable def accrue_Check.r0 (x0 : List api_Reset) (s : Int) : Option (Int ⊕ (Int ⊕ Unit)) := accrue_Check.b0 x0 s
noncomputable def accrue_Check.f (x0 : List api_Reset) : Option (Int) :=
  if ((List.length x0 : Int) == 0) = true then
    some 6
  else
    if (decide ((List.length x0 : Int) > 64)) = true then
      some 2
    else
      (loop (accrue_Check.r0 x0) 0).bind fun o35 =>
      match o35 with
      | .inl r48 => some r48
      | .inr w34 =>
        some 0
set_option maxRecDepth 100000 in
set_option maxHeartbeats 4000000 in
theorem accrue_Check.ok {x0 : List api_Reset} {r : Int} (h : accrue_Check.f x0 = some r) : Pm.Spec prog 38 [.imm (.row 2 (List.map api_Reset.enc x0))] (.imm (.val (.int .i64 r))) [none] := by
 unfold accrue_Check.f at h
 refine Pm.Spec.of_body Try.func38 rfl (by kernel_rfl) (Nat.le_of_ble_eq_true rfl) (Nat.le_of_ble_eq_true rfl) ?_
 refine W.ghost (σ' := (mkSt [(0, some (.imm (.row 2 (List.map api_Reset.enc x0))))] [] 1000)) (Gives.entry (.c rfl .n) .n) ?_
 refine W.seq ?_
 refine W.pk ?_
 refine .a rfl rfl rfl rfl ?_
 refine .nil ?_
 refine W.seq ?_
 refine W.block ?_
 refine W.seq ?_
 refine W.pk ?_
 refine .m rfl rfl rfl rfl ?_
 refine .v rfl rfl (O.lenR sl24 rfl rfl) ?_
 refine .v rfl rfl (OpL.binI rfl rfl rfl rfl) ?_
 refine .a rfl rfl rfl rfl ?_
 refine .nil ?_
 refine W.cond rfl (fun q1 => ?_) (fun q1 => ?_)
 ·have h := ifT q1 h
  refine W.seq ?_
  refine W.pk ?_
  refine .a rfl rfl rfl rfl ?_
  refine .nil ?_
  refine W.ret ?_
  cases h
  exact leaves (.inr rfl) rfl (.imm _) (cN .nil) rfl rfl
 ·have h := ifF q1 h
  refine W.seq ?_
  refine W.pk ?_
  refine .m rfl rfl rfl rfl ?_
  refine .v rfl rfl (O.lenR sl24 rfl rfl) ?_
  refine .v rfl rfl (OpL.binI rfl rfl rfl rfl) ?_
  refine .a rfl rfl rfl rfl ?_
  refine .nil ?_
  refine W.cond rfl (fun q2 => ?_) (fun q2 => ?_)
  ·have h := ifT q2 h
   refine W.seq ?_
   refine W.pk ?_
   refine .a rfl rfl rfl rfl ?_
   refine .nil ?_
   refine W.ret ?_
   cases h
   exact leaves (.inr rfl) rfl (.imm _) (cN .nil) rfl rfl
  ·have h := ifF q2 h
   refine W.skip ?_
   refine W.seq ?_
   refine W.seq ?_
   refine W.pk ?_
   refine .m rfl rfl rfl rfl ?_
   refine .v rfl rfl (O.lenR sl24 rfl rfl) ?_
   refine .m rfl rfl rfl rfl ?_
   refine .nil ?_
   obtain ⟨o35, b36, z37⟩ := bnd1 h
   refine W.fork2 (out := o35) (fun (w34 : Unit) => mkSt [] [] 1000) ?_ ?_
   ·clear h
    refine W.block ?_
    refine W.loopF (fun (s_ : Int) => mkSt [(0, some (.imm (.row 2 (List.map api_Reset.enc x0)))), (13, some (.imm (.row 2 (List.map api_Reset.enc x0)))), (14, some (.i (List.length x0 : Int))), (15, some (.i s_))] [] 1000) b36 (Gives.mkR [] (.r rfl rfl (.r rfl rfl (.r rfl rfl (.r rfl rfl .n)))) .n rfl rfl rfl) ?_
    rintro v13 s_ hr
    have h : accrue_Check.b0 x0 v13 = some s_ := hr
    unfold accrue_Check.b0 at h
    refine W.seq ?_
    refine W.pk ?_
    refine .v rfl rfl (OpL.binI rfl rfl rfl rfl) ?_
    refine .nil ?_
    refine W.seq ?_
    refine W.cond rfl (fun q38 => ?_) (fun q38 => ?_)
    ·have h := ifT q38 h
     refine W.skip ?_
     refine W.seq ?_
     refine W.block ?_
     refine W.seq ?_
     obtain ⟨c39, h⟩ := chk h
     refine W.pk ?_
     refine .m rfl rfl rfl rfl ?_
     refine .v rfl rfl (O.idx sl24 c39 rfl rfl rfl) ?_
     refine .v rfl rfl (O.ldN ty60 rfl rfl rfl) ?_
     refine .t rfl rfl (O.alloc z60 rfl) ?_
     refine .a rfl rfl rfl rfl ?_
     refine .s rfl rfl (O.st ty60 rfl rfl rfl rfl rfl rfl rfl rfl rfl rfl (all' := [.i ((nth x0 v13).Day), .i ((nth x0 v13).Rate)]) rfl) ?_
     refine .nil ?_
     refine W.block ?_
     refine W.seq ?_
     obtain ⟨t40, b41, h⟩ := bnd1 h
     obtain ⟨c42, h⟩ := chk h
     refine W.fork (mkSt [(0, some (.imm (.row 2 (List.map api_Reset.enc x0)))), (4, some (.ptr 1000 0)), (13, some (.imm (.row 2 (List.map api_Reset.enc x0)))), (14, some (.i (List.length x0 : Int))), (15, some (.i v13)), (20, some (.b ((!t40) || ((decide (v13 > 0)) && (decide (((nth x0 v13).Day) ≤ ((nth x0 (IntKind.wrap .i64 (v13 - 1))).Day)))))))] [(1000, some (.box [.i ((nth x0 v13).Day), .i ((nth x0 v13).Rate)]))] 1001) ?_ ?_
     ·refine W.cond rfl (fun q45 => ?_) (fun q45 => ?_)
      ·have h := ifT q45 h
       refine W.seq ?_
       refine W.pk ?_
       refine .a rfl rfl rfl rfl ?_
       refine .nil ?_
       refine W.ret ?_
       cases h
       refine rdR fun e_ => ?_
       subst e_
       have h := z37
       dsimp only at h
       refine fkR ?_
       cases h
       exact leaves (.inr rfl) rfl (.imm _) (cN .nil) rfl rfl
      ·have h := ifF q45 h
       refine W.seq ?_
       refine W.fork (mkSt [(0, some (.imm (.row 2 (List.map api_Reset.enc x0)))), (13, some (.imm (.row 2 (List.map api_Reset.enc x0)))), (14, some (.i (List.length x0 : Int))), (15, some (.i v13)), (40, some (.b ((decide (((nth x0 v13).Rate) < (-1000000))) || (decide (((nth x0 v13).Rate) > 1000000)))))] [] 1001) ?_ ?_
       ·refine W.cond rfl (fun q47 => ?_) (fun q47 => ?_)
        ·have h := ifT q47 h
         refine W.seq ?_
         refine W.pk ?_
         refine .a rfl rfl rfl rfl ?_
         refine .nil ?_
         refine W.ret ?_
         cases h
         refine rdR fun e_ => ?_
         subst e_
         have h := z37
         dsimp only at h
         refine fkR ?_
         cases h
         exact leaves (.inr rfl) rfl (.imm _) (cN .nil) rfl rfl
        ·have h := ifF q47 h
         refine W.skip ?_
         refine W.pk ?_
         refine .v rfl rfl (OpL.binI rfl rfl rfl rfl) ?_
         refine .m rfl rfl rfl rfl ?_
         refine .nil ?_
         cases h
         exact rdN (Gives.mkR [] (.r rfl rfl (.r rfl rfl (.r rfl rfl (.r rfl rfl .n)))) .n rfl rfl rfl)
       ·clear h
        rcases tf (decide (((nth x0 v13).Rate) < (-1000000))) with g46 | g46
        ·refine W.pk ?_
         refine .v rfl rfl (O.fld fld60_1 rfl rfl rfl) ?_
         refine .v rfl rfl (O.ld (y := .i ((nth x0 v13).Rate)) ty3 rfl rfl rfl) ?_
         refine .v rfl rfl (OpL.binI rfl rfl rfl rfl) ?_
         refine .m rfl rfl rfl rfl ?_
         refine .x rfl (unmet rfl rfl rfl g46) ?_
         refine .x rfl (unmet rfl rfl rfl g46) ?_
         refine .x rfl (unmet rfl rfl rfl g46) ?_
         refine .v rfl rfl (O.pickT g46 rfl rfl rfl) ?_
         refine .a rfl rfl rfl rfl ?_
         refine .nil ?_
         exact toN (Gives.mkR [] (.r rfl rfl (.r rfl rfl (.r rfl rfl (.r rfl rfl (.c rfl (sbb (by simp only [g46, Bool.true_or, Bool.or_true, Bool.false_or, Bool.or_false, Bool.true_and, Bool.and_true, Bool.false_and, Bool.and_false, Bool.not_true, Bool.not_false, cond_true, cond_false])) rfl .n))))) .n rfl rfl rfl)
        ·refine W.pk ?_
         refine .v rfl rfl (O.fld fld60_1 rfl rfl rfl) ?_
         refine .v rfl rfl (O.ld (y := .i ((nth x0 v13).Rate)) ty3 rfl rfl rfl) ?_
         refine .v rfl rfl (OpL.binI rfl rfl rfl rfl) ?_
         refine .m rfl rfl rfl rfl ?_
         refine .v rfl (met rfl rfl rfl g46) (O.fld fld60_1 rfl rfl rfl) ?_
         refine .v rfl (met rfl rfl rfl g46) (O.ld (y := .i ((nth x0 v13).Rate)) ty3 rfl rfl rfl) ?_
         refine .v rfl (met rfl rfl rfl g46) (OpL.binI rfl rfl rfl rfl) ?_
         refine .v rfl rfl (O.pickF g46 rfl rfl rfl) ?_
         refine .a rfl rfl rfl rfl ?_
         refine .nil ?_
         exact toN (Gives.mkR [] (.r rfl rfl (.r rfl rfl (.r rfl rfl (.r rfl rfl (.c rfl (sbb (by simp only [g46, Bool.true_or, Bool.or_true, Bool.false_or, Bool.or_false, Bool.true_and, Bool.and_true, Bool.false_and, Bool.and_false, Bool.not_true, Bool.not_false, cond_true, cond_false])) rfl .n))))) .n rfl rfl rfl)
     ·clear h
      rcases tf t40 with g43 | g43
      ·rcases tf (decide (v13 > 0)) with g44 | g44
       ·refine W.dk (unm 20 [0, 1, 3, 7, 15, 31, 63, 127, 255, 511, 255, 255, 2303, 7423, 15615, 31999, 65535, 131071, 262143, 524287]) rfl (by kernel_rfl) ?_
        refine .v rfl rfl (O.fld fld60_0 rfl rfl rfl) ?_
        refine .v rfl rfl (O.ld (y := .i ((nth x0 v13).Day)) ty3 rfl rfl rfl) ?_
        refine .call (.b t40) [] 0 (calendar_Good.ok b41) rfl rfl rfl ca35 rfl rfl (cC (.imm _) .nil) rfl rfl rfl rfl rfl ?_
        refine .v rfl rfl (OpL.unV rfl rfl rfl) ?_
        refine .m rfl rfl rfl rfl ?_
        refine .m rfl (met rfl rfl rfl (notT g43)) rfl rfl ?_
        refine .v rfl (met rfl rfl rfl (notT g43)) (OpL.binI rfl rfl rfl rfl) ?_
        refine .m rfl (met rfl rfl rfl (notT g43)) rfl rfl ?_
        refine .v rfl (met rfl rfl rfl g44) (O.fld fld60_0 rfl rfl rfl) ?_
        refine .v rfl (met rfl rfl rfl g44) (O.ld (y := .i ((nth x0 v13).Day)) ty3 rfl rfl rfl) ?_
        refine .m rfl (met rfl rfl rfl g44) rfl rfl ?_
        refine .m rfl (met rfl rfl rfl g44) rfl rfl ?_
        refine .v rfl (met rfl rfl rfl g44) (OpL.binI rfl rfl rfl rfl) ?_
        refine .v rfl (met rfl rfl rfl g44) (O.idx sl24 (c42 ⟨(by first | (simp only [g43, g44, Bool.true_or, Bool.or_true, Bool.false_or, Bool.or_false, Bool.true_and, Bool.and_true, Bool.false_and, Bool.and_false, Bool.not_true, Bool.not_false, cond_true, cond_false]; done) | (repeat (first | rw [g43] | rw [g44])) <;> simp only [Bool.true_or, Bool.or_true, Bool.false_or, Bool.or_false, Bool.true_and, Bool.and_true, Bool.false_and, Bool.and_false, Bool.not_true, Bool.not_false, cond_true, cond_false]), (by first | (simp only [g43, g44, Bool.true_or, Bool.or_true, Bool.false_or, Bool.or_false, Bool.true_and, Bool.and_true, Bool.false_and, Bool.and_false, Bool.not_true, Bool.not_false, cond_true, cond_false]; done) | (repeat (first | rw [g43] | rw [g44])) <;> simp only [Bool.true_or, Bool.or_true, Bool.false_or, Bool.or_false, Bool.true_and, Bool.and_true, Bool.false_and, Bool.and_false, Bool.not_true, Bool.not_false, cond_true, cond_false])⟩) rfl rfl rfl) ?_
        refine .v rfl (met rfl rfl rfl g44) (O.fld fld60_0 rfl rfl rfl) ?_
        refine .v rfl (met rfl rfl rfl g44) (O.ld (y := .i ((nth x0 (IntKind.wrap .i64 (v13 - 1))).Day)) ty3 rfl rfl rfl) ?_
        refine .v rfl (met rfl rfl rfl g44) (OpL.binI rfl rfl rfl rfl) ?_
        refine .v rfl (met rfl rfl rfl (notT g43)) (O.pickT g44 rfl rfl rfl) ?_
        refine .v rfl rfl (O.pickF (notT g43) rfl rfl rfl) ?_
        refine .a rfl rfl rfl rfl ?_
        refine .nil ?_
        refine ⟨by kernel_rfl, by kernel_rfl, ?_⟩
        exact toN (Gives.mkR [] (.r rfl rfl (.r rfl rfl (.r rfl rfl (.r rfl rfl (.r rfl rfl (.c rfl (sbb (by first | (simp only [g43, g44, Bool.true_or, Bool.or_true, Bool.false_or, Bool.or_false, Bool.true_and, Bool.and_true, Bool.false_and, Bool.and_false, Bool.not_true, Bool.not_false, cond_true, cond_false]; done) | (repeat (first | rw [g43] | rw [g44])) <;> simp only [Bool.true_or, Bool.or_true, Bool.false_or, Bool.or_false, Bool.true_and, Bool.and_true, Bool.false_and, Bool.and_false, Bool.not_true, Bool.not_false, cond_true, cond_false])) rfl .n)))))) (.r rfl rfl rfl .n) rfl rfl rfl)
       ·refine W.dk (unm 20 [0, 1, 3, 7, 15, 31, 63, 127, 255, 511, 255, 255, 2303, 7423, 15615, 31999, 65535, 131071, 262143, 524287]) rfl (by kernel_rfl) ?_
        refine .v rfl rfl (O.fld fld60_0 rfl rfl rfl) ?_
        refine .v rfl rfl (O.ld (y := .i ((nth x0 v13).Day)) ty3 rfl rfl rfl) ?_
        refine .call (.b t40) [] 0 (calendar_Good.ok b41) rfl rfl rfl ca35 rfl rfl (cC (.imm _) .nil) rfl rfl rfl rfl rfl ?_
        refine .v rfl rfl (OpL.unV rfl rfl rfl) ?_
        refine .m rfl rfl rfl rfl ?_
        refine .m rfl (met rfl rfl rfl (notT g43)) rfl rfl ?_
        refine .v rfl (met rfl rfl rfl (notT g43)) (OpL.binI rfl rfl rfl rfl) ?_
        refine .m rfl (met rfl rfl rfl (notT g43)) rfl rfl ?_
        refine .x rfl (unmet rfl rfl rfl g44) ?_
        refine .x rfl (unmet rfl rfl rfl g44) ?_
        refine .x rfl (unmet rfl rfl rfl g44) ?_
        refine .x rfl (unmet rfl rfl rfl g44) ?_
        refine .x rfl (unmet rfl rfl rfl g44) ?_
        refine .x rfl (unmet rfl rfl rfl g44) ?_
        refine .x rfl (unmet rfl rfl rfl g44) ?_
        refine .x rfl (unmet rfl rfl rfl g44) ?_
        refine .x rfl (unmet rfl rfl rfl g44) ?_
        refine .v rfl (met rfl rfl rfl (notT g43)) (O.pickF g44 rfl rfl rfl) ?_
        refine .v rfl rfl (O.pickF (notT g43) rfl rfl rfl) ?_
        refine .a rfl rfl rfl rfl ?_
        refine .nil ?_
        refine ⟨by kernel_rfl, by kernel_rfl, ?_⟩
        exact toN (Gives.mkR [] (.r rfl rfl (.r rfl rfl (.r rfl rfl (.r rfl rfl (.r rfl rfl (.c rfl (sbb (by first | (simp only [g43, g44, Bool.true_or, Bool.or_true, Bool.false_or, Bool.or_false, Bool.true_and, Bool.and_true, Bool.false_and, Bool.and_false, Bool.not_true, Bool.not_false, cond_true, cond_false]; done) | (repeat (first | rw [g43] | rw [g44])) <;> simp only [Bool.true_or, Bool.or_true, Bool.false_or, Bool.or_false, Bool.true_and, Bool.and_true, Bool.false_and, Bool.and_false, Bool.not_true, Bool.not_false, cond_true, cond_false])) rfl .n)))))) (.r rfl rfl rfl .n) rfl rfl rfl)
      ·refine W.dk (unm 20 [0, 1, 3, 7, 15, 31, 63, 127, 255, 511, 255, 255, 2303, 7423, 15615, 31999, 65535, 131071, 262143, 524287]) rfl (by kernel_rfl) ?_
       refine .v rfl rfl (O.fld fld60_0 rfl rfl rfl) ?_
       refine .v rfl rfl (O.ld (y := .i ((nth x0 v13).Day)) ty3 rfl rfl rfl) ?_
       refine .call (.b t40) [] 0 (calendar_Good.ok b41) rfl rfl rfl ca35 rfl rfl (cC (.imm _) .nil) rfl rfl rfl rfl rfl ?_
       refine .v rfl rfl (OpL.unV rfl rfl rfl) ?_
       refine .m rfl rfl rfl rfl ?_
       refine .x rfl (unmet rfl rfl rfl (notF g43)) ?_
       refine .x rfl (unmet rfl rfl rfl (notF g43)) ?_
       refine .x rfl (unmet rfl rfl rfl (notF g43)) ?_
       refine .x rfl (unmetU rfl rfl rfl) ?_
       refine .x rfl (unmetU rfl rfl rfl) ?_
       refine .x rfl (unmetU rfl rfl rfl) ?_
       refine .x rfl (unmetU rfl rfl rfl) ?_
       refine .x rfl (unmetU rfl rfl rfl) ?_
       refine .x rfl (unmetU rfl rfl rfl) ?_
       refine .x rfl (unmetU rfl rfl rfl) ?_
       refine .x rfl (unmetU rfl rfl rfl) ?_
       refine .x rfl (unmetU rfl rfl rfl) ?_
       refine .x rfl (unmet rfl rfl rfl (notF g43)) ?_
       refine .v rfl rfl (O.pickT (notF g43) rfl rfl rfl) ?_
       refine .a rfl rfl rfl rfl ?_
       refine .nil ?_
       refine ⟨by kernel_rfl, by kernel_rfl, ?_⟩
       exact toN (Gives.mkR [] (.r rfl rfl (.r rfl rfl (.r rfl rfl (.r rfl rfl (.r rfl rfl (.c rfl (sbb (by simp only [g43, Bool.true_or, Bool.or_true, Bool.false_or, Bool.or_false, Bool.true_and, Bool.and_true, Bool.false_and, Bool.and_false, Bool.not_true, Bool.not_false, cond_true, cond_false])) rfl .n)))))) (.r rfl rfl rfl .n) rfl rfl rfl)
    ·have h := ifF q38 h
     refine W.exit ?_
     cases h
     refine rdX fun e_ => ?_
     subst e_
     repeat with_reducible refine thru ?_
     refine hit ?_
     exact fkN (Gives.mkR [] .n .n rfl rfl rfl)
   ·intro w34 e_
    subst e_
    clear h
    have h := z37
    dsimp only at h
    refine W.seq ?_
    refine W.pk ?_
    refine .a rfl rfl rfl rfl ?_
    refine .nil ?_
    refine W.ret ?_
    cases h
    exact leaves (.inr rfl) rfl (.imm _) (cN .nil) rfl rfl
end Go.Proofs.Ytidinbjehfodoaa
