/- Shows what functions of the program come to, each as a plain function: written by a program of the author's for this claim. -/
import Derived.Test.YtidinbjehfodoaaGx8
namespace Go.Proofs.Ytidinbjehfodoaa
open Go Go.Pm
set_option linter.unusedVariables false
set_option linter.unusedSimpArgs false
noncomputable def lombardref23_Same.f (x0 : api_Trade) (x1 : api_Trade) : Option (Bool) :=
  (if ((((((((((x0.ID == x1.ID) && (x0.Twin == x1.Twin)) && (x0.Side == x1.Side)) && (x0.Member == x1.Member)) && (x0.Basket == x1.Basket)) && (x0.Amount == x1.Amount)) && (x0.Start == x1.Start)) && (x0.End == x1.End)) && (x0.Stage == x1.Stage)) && (x0.Short == x1.Short)) = true then lombardref23_Resets.f x0.Resets x1.Resets else some default).bind fun t1 =>
  some (((((((((((x0.ID == x1.ID) && (x0.Twin == x1.Twin)) && (x0.Side == x1.Side)) && (x0.Member == x1.Member)) && (x0.Basket == x1.Basket)) && (x0.Amount == x1.Amount)) && (x0.Start == x1.Start)) && (x0.End == x1.End)) && (x0.Stage == x1.Stage)) && (x0.Short == x1.Short)) && t1)
set_option maxRecDepth 100000 in
set_option maxHeartbeats 4000000 in
theorem lombardref23_Same.ok {x0 : api_Trade} {x1 : api_Trade} {r : Bool} (h : lombardref23_Same.f x0 x1 = some r) : Pm.Spec prog 25 [.agg [.imm (.val (.int .i64 x0.ID)), .imm (.val (.int .i64 x0.Twin)), .imm (.val (.int .i64 x0.Member)), .imm (.val (.int .i64 x0.Side)), .imm (.val (.int .i64 x0.Basket)), .imm (.val (.int .i64 x0.Amount)), .imm (.val (.int .i64 x0.Start)), .imm (.val (.int .i64 x0.End)), .imm (.row 2 (List.map api_Reset.enc x0.Resets)), .imm (.val (.int .i64 x0.Stage)), .imm (.val (.bool x0.Short))], .agg [.imm (.val (.int .i64 x1.ID)), .imm (.val (.int .i64 x1.Twin)), .imm (.val (.int .i64 x1.Member)), .imm (.val (.int .i64 x1.Side)), .imm (.val (.int .i64 x1.Basket)), .imm (.val (.int .i64 x1.Amount)), .imm (.val (.int .i64 x1.Start)), .imm (.val (.int .i64 x1.End)), .imm (.row 2 (List.map api_Reset.enc x1.Resets)), .imm (.val (.int .i64 x1.Stage)), .imm (.val (.bool x1.Short))]] (.imm (.val (.bool r))) [none, none] := by
 unfold lombardref23_Same.f at h
 refine Pm.Spec.of_body Try.func25 rfl (by kernel_rfl) (Nat.le_of_ble_eq_true rfl) (Nat.le_of_ble_eq_true rfl) ?_
 refine W.ghost (σ' := (mkSt [(0, some (.agg (api_Trade.av x0))), (1, some (.agg (api_Trade.av x1)))] [] 1000)) (Gives.entry (.c rfl (.c rfl .n)) .n) ?_
 refine W.seq ?_
 refine W.pk ?_
 refine .t rfl rfl (O.box rfl rfl rfl rfl rfl) ?_
 refine .t rfl rfl (O.box rfl rfl rfl rfl rfl) ?_
 refine .a rfl rfl rfl rfl ?_
 refine .nil ?_
 refine W.seq ?_
 obtain ⟨t1, b2, h⟩ := bnd1 h
 refine W.fork (mkSt [(4, some (.b (((((((((((x0.ID == x1.ID) && (x0.Twin == x1.Twin)) && (x0.Side == x1.Side)) && (x0.Member == x1.Member)) && (x0.Basket == x1.Basket)) && (x0.Amount == x1.Amount)) && (x0.Start == x1.Start)) && (x0.End == x1.End)) && (x0.Stage == x1.Stage)) && (x0.Short == x1.Short)) && t1)))] [] 1002) ?_ ?_
 ·refine W.ret ?_
  cases h
  exact leaves (.inr rfl) rfl (.imm _) (cN (cN .nil)) rfl rfl
 ·clear h
  rcases tf (x0.ID == x1.ID) with g3 | g3
  ·rcases tf (x0.Twin == x1.Twin) with g4 | g4
   ·rcases tf (x0.Side == x1.Side) with g5 | g5
    ·rcases tf (x0.Member == x1.Member) with g6 | g6
     ·rcases tf (x0.Basket == x1.Basket) with g7 | g7
      ·rcases tf (x0.Amount == x1.Amount) with g8 | g8
       ·rcases tf (x0.Start == x1.Start) with g9 | g9
        ·rcases tf (x0.End == x1.End) with g10 | g10
         ·rcases tf (x0.Stage == x1.Stage) with g11 | g11
          ·rcases tf (x0.Short == x1.Short) with g12 | g12
           ·refine W.pk ?_
            refine .v rfl rfl (O.fld fld26_0 rfl rfl rfl) ?_
            refine .v rfl rfl (O.ld (y := .i x0.ID) ty3 rfl rfl rfl) ?_
            refine .v rfl rfl (O.fld fld26_0 rfl rfl rfl) ?_
            refine .v rfl rfl (O.ld (y := .i x1.ID) ty3 rfl rfl rfl) ?_
            refine .v rfl rfl (OpL.binI rfl rfl rfl rfl) ?_
            refine .m rfl rfl rfl rfl ?_
            refine .v rfl (met rfl rfl rfl g3) (O.fld fld26_1 rfl rfl rfl) ?_
            refine .v rfl (met rfl rfl rfl g3) (O.ld (y := .i x0.Twin) ty3 rfl rfl rfl) ?_
            refine .v rfl (met rfl rfl rfl g3) (O.fld fld26_1 rfl rfl rfl) ?_
            refine .v rfl (met rfl rfl rfl g3) (O.ld (y := .i x1.Twin) ty3 rfl rfl rfl) ?_
            refine .v rfl (met rfl rfl rfl g3) (OpL.binI rfl rfl rfl rfl) ?_
            refine .v rfl rfl (O.pickT g3 rfl rfl rfl) ?_
            refine .m rfl rfl rfl rfl ?_
            refine .v rfl (met rfl rfl rfl g4) (O.fld fld26_3 rfl rfl rfl) ?_
            refine .v rfl (met rfl rfl rfl g4) (O.ld (y := .i x0.Side) ty3 rfl rfl rfl) ?_
            refine .v rfl (met rfl rfl rfl g4) (O.fld fld26_3 rfl rfl rfl) ?_
            refine .v rfl (met rfl rfl rfl g4) (O.ld (y := .i x1.Side) ty3 rfl rfl rfl) ?_
            refine .v rfl (met rfl rfl rfl g4) (OpL.binI rfl rfl rfl rfl) ?_
            refine .v rfl rfl (O.pickT g4 rfl rfl rfl) ?_
            refine .m rfl rfl rfl rfl ?_
            refine .v rfl (met rfl rfl rfl g5) (O.fld fld26_2 rfl rfl rfl) ?_
            refine .v rfl (met rfl rfl rfl g5) (O.ld (y := .i x0.Member) ty3 rfl rfl rfl) ?_
            refine .v rfl (met rfl rfl rfl g5) (O.fld fld26_2 rfl rfl rfl) ?_
            refine .v rfl (met rfl rfl rfl g5) (O.ld (y := .i x1.Member) ty3 rfl rfl rfl) ?_
            refine .v rfl (met rfl rfl rfl g5) (OpL.binI rfl rfl rfl rfl) ?_
            refine .v rfl rfl (O.pickT g5 rfl rfl rfl) ?_
            refine .m rfl rfl rfl rfl ?_
            refine .v rfl (met rfl rfl rfl g6) (O.fld fld26_4 rfl rfl rfl) ?_
            refine .v rfl (met rfl rfl rfl g6) (O.ld (y := .i x0.Basket) ty3 rfl rfl rfl) ?_
            refine .v rfl (met rfl rfl rfl g6) (O.fld fld26_4 rfl rfl rfl) ?_
            refine .v rfl (met rfl rfl rfl g6) (O.ld (y := .i x1.Basket) ty3 rfl rfl rfl) ?_
            refine .v rfl (met rfl rfl rfl g6) (OpL.binI rfl rfl rfl rfl) ?_
            refine .v rfl rfl (O.pickT g6 rfl rfl rfl) ?_
            refine .m rfl rfl rfl rfl ?_
            refine .v rfl (met rfl rfl rfl g7) (O.fld fld26_5 rfl rfl rfl) ?_
            refine .v rfl (met rfl rfl rfl g7) (O.ld (y := .i x0.Amount) ty3 rfl rfl rfl) ?_
            refine .v rfl (met rfl rfl rfl g7) (O.fld fld26_5 rfl rfl rfl) ?_
            refine .v rfl (met rfl rfl rfl g7) (O.ld (y := .i x1.Amount) ty3 rfl rfl rfl) ?_
            refine .v rfl (met rfl rfl rfl g7) (OpL.binI rfl rfl rfl rfl) ?_
            refine .v rfl rfl (O.pickT g7 rfl rfl rfl) ?_
            refine .m rfl rfl rfl rfl ?_
            refine .v rfl (met rfl rfl rfl g8) (O.fld fld26_6 rfl rfl rfl) ?_
            refine .v rfl (met rfl rfl rfl g8) (O.ld (y := .i x0.Start) ty3 rfl rfl rfl) ?_
            refine .v rfl (met rfl rfl rfl g8) (O.fld fld26_6 rfl rfl rfl) ?_
            refine .v rfl (met rfl rfl rfl g8) (O.ld (y := .i x1.Start) ty3 rfl rfl rfl) ?_
            refine .v rfl (met rfl rfl rfl g8) (OpL.binI rfl rfl rfl rfl) ?_
            refine .v rfl rfl (O.pickT g8 rfl rfl rfl) ?_
            refine .m rfl rfl rfl rfl ?_
            refine .v rfl (met rfl rfl rfl g9) (O.fld fld26_7 rfl rfl rfl) ?_
            refine .v rfl (met rfl rfl rfl g9) (O.ld (y := .i x0.End) ty3 rfl rfl rfl) ?_
            refine .v rfl (met rfl rfl rfl g9) (O.fld fld26_7 rfl rfl rfl) ?_
            refine .v rfl (met rfl rfl rfl g9) (O.ld (y := .i x1.End) ty3 rfl rfl rfl) ?_
            refine .v rfl (met rfl rfl rfl g9) (OpL.binI rfl rfl rfl rfl) ?_
            refine .v rfl rfl (O.pickT g9 rfl rfl rfl) ?_
            refine .m rfl rfl rfl rfl ?_
            refine .v rfl (met rfl rfl rfl g10) (O.fld fld26_9 rfl rfl rfl) ?_
            refine .v rfl (met rfl rfl rfl g10) (O.ld (y := .i x0.Stage) ty3 rfl rfl rfl) ?_
            refine .v rfl (met rfl rfl rfl g10) (O.fld fld26_9 rfl rfl rfl) ?_
            refine .v rfl (met rfl rfl rfl g10) (O.ld (y := .i x1.Stage) ty3 rfl rfl rfl) ?_
            refine .v rfl (met rfl rfl rfl g10) (OpL.binI rfl rfl rfl rfl) ?_
            refine .v rfl rfl (O.pickT g10 rfl rfl rfl) ?_
            refine .m rfl rfl rfl rfl ?_
            refine .v rfl (met rfl rfl rfl g11) (O.fld fld26_10 rfl rfl rfl) ?_
            refine .v rfl (met rfl rfl rfl g11) (O.ld (y := .b x0.Short) ty4 rfl rfl rfl) ?_
            refine .v rfl (met rfl rfl rfl g11) (O.fld fld26_10 rfl rfl rfl) ?_
            refine .v rfl (met rfl rfl rfl g11) (O.ld (y := .b x1.Short) ty4 rfl rfl rfl) ?_
            refine .v rfl (met rfl rfl rfl g11) (OpL.eqB rfl u4 rfl rfl) ?_
            refine .v rfl rfl (O.pickT g11 rfl rfl rfl) ?_
            refine .m rfl rfl rfl rfl ?_
            refine .v rfl (met rfl rfl rfl g12) (O.fld fld26_8 rfl rfl rfl) ?_
            refine .v rfl (met rfl rfl rfl g12) (O.ld (y := .imm (.row 2 (List.map api_Reset.enc x0.Resets))) ty24 rfl rfl rfl) ?_
            refine .v rfl (met rfl rfl rfl g12) (O.fld fld26_8 rfl rfl rfl) ?_
            refine .v rfl (met rfl rfl rfl g12) (O.ld (y := .imm (.row 2 (List.map api_Reset.enc x1.Resets))) ty24 rfl rfl rfl) ?_
            refine .call (.b t1) [] 0 (lombardref23_Resets.ok ((if_pos (by first | (simp only [g3, g4, g5, g6, g7, g8, g9, g10, g11, g12, Bool.true_or, Bool.or_true, Bool.false_or, Bool.or_false, Bool.true_and, Bool.and_true, Bool.false_and, Bool.and_false, Bool.not_true, Bool.not_false, cond_true, cond_false]; done) | (repeat (first | rw [g3] | rw [g4] | rw [g5] | rw [g6] | rw [g7] | rw [g8] | rw [g9] | rw [g10] | rw [g11] | rw [g12])) <;> simp only [Bool.true_or, Bool.or_true, Bool.false_or, Bool.or_false, Bool.true_and, Bool.and_true, Bool.false_and, Bool.and_false, Bool.not_true, Bool.not_false, cond_true, cond_false])).symm.trans b2)) rfl (met rfl rfl rfl g12) rfl ca41 rfl rfl (cC (.imm _) (cC (.imm _) .nil)) rfl rfl rfl rfl rfl ?_
            refine .v rfl rfl (O.pickT g12 rfl rfl rfl) ?_
            refine .a rfl rfl rfl rfl ?_
            refine .nil ?_
            exact toN (Gives.mkR [] (.c rfl (sbb (by first | (simp only [g3, g4, g5, g6, g7, g8, g9, g10, g11, g12, Bool.true_or, Bool.or_true, Bool.false_or, Bool.or_false, Bool.true_and, Bool.and_true, Bool.false_and, Bool.and_false, Bool.not_true, Bool.not_false, cond_true, cond_false]; done) | (repeat (first | rw [g3] | rw [g4] | rw [g5] | rw [g6] | rw [g7] | rw [g8] | rw [g9] | rw [g10] | rw [g11] | rw [g12])) <;> simp only [Bool.true_or, Bool.or_true, Bool.false_or, Bool.or_false, Bool.true_and, Bool.and_true, Bool.false_and, Bool.and_false, Bool.not_true, Bool.not_false, cond_true, cond_false])) rfl .n) .n rfl rfl rfl)
           ·refine W.pk ?_
            refine .v rfl rfl (O.fld fld26_0 rfl rfl rfl) ?_
            refine .v rfl rfl (O.ld (y := .i x0.ID) ty3 rfl rfl rfl) ?_
            refine .v rfl rfl (O.fld fld26_0 rfl rfl rfl) ?_
            refine .v rfl rfl (O.ld (y := .i x1.ID) ty3 rfl rfl rfl) ?_
            refine .v rfl rfl (OpL.binI rfl rfl rfl rfl) ?_
            refine .m rfl rfl rfl rfl ?_
            refine .v rfl (met rfl rfl rfl g3) (O.fld fld26_1 rfl rfl rfl) ?_
            refine .v rfl (met rfl rfl rfl g3) (O.ld (y := .i x0.Twin) ty3 rfl rfl rfl) ?_
            refine .v rfl (met rfl rfl rfl g3) (O.fld fld26_1 rfl rfl rfl) ?_
            refine .v rfl (met rfl rfl rfl g3) (O.ld (y := .i x1.Twin) ty3 rfl rfl rfl) ?_
            refine .v rfl (met rfl rfl rfl g3) (OpL.binI rfl rfl rfl rfl) ?_
            refine .v rfl rfl (O.pickT g3 rfl rfl rfl) ?_
            refine .m rfl rfl rfl rfl ?_
            refine .v rfl (met rfl rfl rfl g4) (O.fld fld26_3 rfl rfl rfl) ?_
            refine .v rfl (met rfl rfl rfl g4) (O.ld (y := .i x0.Side) ty3 rfl rfl rfl) ?_
            refine .v rfl (met rfl rfl rfl g4) (O.fld fld26_3 rfl rfl rfl) ?_
            refine .v rfl (met rfl rfl rfl g4) (O.ld (y := .i x1.Side) ty3 rfl rfl rfl) ?_
            refine .v rfl (met rfl rfl rfl g4) (OpL.binI rfl rfl rfl rfl) ?_
            refine .v rfl rfl (O.pickT g4 rfl rfl rfl) ?_
            refine .m rfl rfl rfl rfl ?_
            refine .v rfl (met rfl rfl rfl g5) (O.fld fld26_2 rfl rfl rfl) ?_
            refine .v rfl (met rfl rfl rfl g5) (O.ld (y := .i x0.Member) ty3 rfl rfl rfl) ?_
            refine .v rfl (met rfl rfl rfl g5) (O.fld fld26_2 rfl rfl rfl) ?_
            refine .v rfl (met rfl rfl rfl g5) (O.ld (y := .i x1.Member) ty3 rfl rfl rfl) ?_
            refine .v rfl (met rfl rfl rfl g5) (OpL.binI rfl rfl rfl rfl) ?_
            refine .v rfl rfl (O.pickT g5 rfl rfl rfl) ?_
            refine .m rfl rfl rfl rfl ?_
            refine .v rfl (met rfl rfl rfl g6) (O.fld fld26_4 rfl rfl rfl) ?_
            refine .v rfl (met rfl rfl rfl g6) (O.ld (y := .i x0.Basket) ty3 rfl rfl rfl) ?_
            refine .v rfl (met rfl rfl rfl g6) (O.fld fld26_4 rfl rfl rfl) ?_
            refine .v rfl (met rfl rfl rfl g6) (O.ld (y := .i x1.Basket) ty3 rfl rfl rfl) ?_
            refine .v rfl (met rfl rfl rfl g6) (OpL.binI rfl rfl rfl rfl) ?_
            refine .v rfl rfl (O.pickT g6 rfl rfl rfl) ?_
            refine .m rfl rfl rfl rfl ?_
            refine .v rfl (met rfl rfl rfl g7) (O.fld fld26_5 rfl rfl rfl) ?_
            refine .v rfl (met rfl rfl rfl g7) (O.ld (y := .i x0.Amount) ty3 rfl rfl rfl) ?_
            refine .v rfl (met rfl rfl rfl g7) (O.fld fld26_5 rfl rfl rfl) ?_
            refine .v rfl (met rfl rfl rfl g7) (O.ld (y := .i x1.Amount) ty3 rfl rfl rfl) ?_
            refine .v rfl (met rfl rfl rfl g7) (OpL.binI rfl rfl rfl rfl) ?_
            refine .v rfl rfl (O.pickT g7 rfl rfl rfl) ?_
            refine .m rfl rfl rfl rfl ?_
            refine .v rfl (met rfl rfl rfl g8) (O.fld fld26_6 rfl rfl rfl) ?_
            refine .v rfl (met rfl rfl rfl g8) (O.ld (y := .i x0.Start) ty3 rfl rfl rfl) ?_
            refine .v rfl (met rfl rfl rfl g8) (O.fld fld26_6 rfl rfl rfl) ?_
            refine .v rfl (met rfl rfl rfl g8) (O.ld (y := .i x1.Start) ty3 rfl rfl rfl) ?_
            refine .v rfl (met rfl rfl rfl g8) (OpL.binI rfl rfl rfl rfl) ?_
            refine .v rfl rfl (O.pickT g8 rfl rfl rfl) ?_
            refine .m rfl rfl rfl rfl ?_
            refine .v rfl (met rfl rfl rfl g9) (O.fld fld26_7 rfl rfl rfl) ?_
            refine .v rfl (met rfl rfl rfl g9) (O.ld (y := .i x0.End) ty3 rfl rfl rfl) ?_
            refine .v rfl (met rfl rfl rfl g9) (O.fld fld26_7 rfl rfl rfl) ?_
            refine .v rfl (met rfl rfl rfl g9) (O.ld (y := .i x1.End) ty3 rfl rfl rfl) ?_
            refine .v rfl (met rfl rfl rfl g9) (OpL.binI rfl rfl rfl rfl) ?_
            refine .v rfl rfl (O.pickT g9 rfl rfl rfl) ?_
            refine .m rfl rfl rfl rfl ?_
            refine .v rfl (met rfl rfl rfl g10) (O.fld fld26_9 rfl rfl rfl) ?_
            refine .v rfl (met rfl rfl rfl g10) (O.ld (y := .i x0.Stage) ty3 rfl rfl rfl) ?_
            refine .v rfl (met rfl rfl rfl g10) (O.fld fld26_9 rfl rfl rfl) ?_
            refine .v rfl (met rfl rfl rfl g10) (O.ld (y := .i x1.Stage) ty3 rfl rfl rfl) ?_
            refine .v rfl (met rfl rfl rfl g10) (OpL.binI rfl rfl rfl rfl) ?_
            refine .v rfl rfl (O.pickT g10 rfl rfl rfl) ?_
            refine .m rfl rfl rfl rfl ?_
            refine .v rfl (met rfl rfl rfl g11) (O.fld fld26_10 rfl rfl rfl) ?_
            refine .v rfl (met rfl rfl rfl g11) (O.ld (y := .b x0.Short) ty4 rfl rfl rfl) ?_
            refine .v rfl (met rfl rfl rfl g11) (O.fld fld26_10 rfl rfl rfl) ?_
            refine .v rfl (met rfl rfl rfl g11) (O.ld (y := .b x1.Short) ty4 rfl rfl rfl) ?_
            refine .v rfl (met rfl rfl rfl g11) (OpL.eqB rfl u4 rfl rfl) ?_
            refine .v rfl rfl (O.pickT g11 rfl rfl rfl) ?_
            refine .m rfl rfl rfl rfl ?_
            refine .x rfl (unmet rfl rfl rfl g12) ?_
            refine .x rfl (unmet rfl rfl rfl g12) ?_
            refine .x rfl (unmet rfl rfl rfl g12) ?_
            refine .x rfl (unmet rfl rfl rfl g12) ?_
            refine .x rfl (unmet rfl rfl rfl g12) ?_
            refine .v rfl rfl (O.pickF g12 rfl rfl rfl) ?_
            refine .a rfl rfl rfl rfl ?_
            refine .nil ?_
            exact toN (Gives.mkR [] (.c rfl (sbb (by first | (simp only [g3, g4, g5, g6, g7, g8, g9, g10, g11, g12, Bool.true_or, Bool.or_true, Bool.false_or, Bool.or_false, Bool.true_and, Bool.and_true, Bool.false_and, Bool.and_false, Bool.not_true, Bool.not_false, cond_true, cond_false]; done) | (repeat (first | rw [g3] | rw [g4] | rw [g5] | rw [g6] | rw [g7] | rw [g8] | rw [g9] | rw [g10] | rw [g11] | rw [g12])) <;> simp only [Bool.true_or, Bool.or_true, Bool.false_or, Bool.or_false, Bool.true_and, Bool.and_true, Bool.false_and, Bool.and_false, Bool.not_true, Bool.not_false, cond_true, cond_false])) rfl .n) .n rfl rfl rfl)
          ·refine W.pk ?_
           refine .v rfl rfl (O.fld fld26_0 rfl rfl rfl) ?_
           refine .v rfl rfl (O.ld (y := .i x0.ID) ty3 rfl rfl rfl) ?_
           refine .v rfl rfl (O.fld fld26_0 rfl rfl rfl) ?_
           refine .v rfl rfl (O.ld (y := .i x1.ID) ty3 rfl rfl rfl) ?_
           refine .v rfl rfl (OpL.binI rfl rfl rfl rfl) ?_
           refine .m rfl rfl rfl rfl ?_
           refine .v rfl (met rfl rfl rfl g3) (O.fld fld26_1 rfl rfl rfl) ?_
           refine .v rfl (met rfl rfl rfl g3) (O.ld (y := .i x0.Twin) ty3 rfl rfl rfl) ?_
           refine .v rfl (met rfl rfl rfl g3) (O.fld fld26_1 rfl rfl rfl) ?_
           refine .v rfl (met rfl rfl rfl g3) (O.ld (y := .i x1.Twin) ty3 rfl rfl rfl) ?_
           refine .v rfl (met rfl rfl rfl g3) (OpL.binI rfl rfl rfl rfl) ?_
           refine .v rfl rfl (O.pickT g3 rfl rfl rfl) ?_
           refine .m rfl rfl rfl rfl ?_
           refine .v rfl (met rfl rfl rfl g4) (O.fld fld26_3 rfl rfl rfl) ?_
           refine .v rfl (met rfl rfl rfl g4) (O.ld (y := .i x0.Side) ty3 rfl rfl rfl) ?_
           refine .v rfl (met rfl rfl rfl g4) (O.fld fld26_3 rfl rfl rfl) ?_
           refine .v rfl (met rfl rfl rfl g4) (O.ld (y := .i x1.Side) ty3 rfl rfl rfl) ?_
           refine .v rfl (met rfl rfl rfl g4) (OpL.binI rfl rfl rfl rfl) ?_
           refine .v rfl rfl (O.pickT g4 rfl rfl rfl) ?_
           refine .m rfl rfl rfl rfl ?_
           refine .v rfl (met rfl rfl rfl g5) (O.fld fld26_2 rfl rfl rfl) ?_
           refine .v rfl (met rfl rfl rfl g5) (O.ld (y := .i x0.Member) ty3 rfl rfl rfl) ?_
           refine .v rfl (met rfl rfl rfl g5) (O.fld fld26_2 rfl rfl rfl) ?_
           refine .v rfl (met rfl rfl rfl g5) (O.ld (y := .i x1.Member) ty3 rfl rfl rfl) ?_
           refine .v rfl (met rfl rfl rfl g5) (OpL.binI rfl rfl rfl rfl) ?_
           refine .v rfl rfl (O.pickT g5 rfl rfl rfl) ?_
           refine .m rfl rfl rfl rfl ?_
           refine .v rfl (met rfl rfl rfl g6) (O.fld fld26_4 rfl rfl rfl) ?_
           refine .v rfl (met rfl rfl rfl g6) (O.ld (y := .i x0.Basket) ty3 rfl rfl rfl) ?_
           refine .v rfl (met rfl rfl rfl g6) (O.fld fld26_4 rfl rfl rfl) ?_
           refine .v rfl (met rfl rfl rfl g6) (O.ld (y := .i x1.Basket) ty3 rfl rfl rfl) ?_
           refine .v rfl (met rfl rfl rfl g6) (OpL.binI rfl rfl rfl rfl) ?_
           refine .v rfl rfl (O.pickT g6 rfl rfl rfl) ?_
           refine .m rfl rfl rfl rfl ?_
           refine .v rfl (met rfl rfl rfl g7) (O.fld fld26_5 rfl rfl rfl) ?_
           refine .v rfl (met rfl rfl rfl g7) (O.ld (y := .i x0.Amount) ty3 rfl rfl rfl) ?_
           refine .v rfl (met rfl rfl rfl g7) (O.fld fld26_5 rfl rfl rfl) ?_
           refine .v rfl (met rfl rfl rfl g7) (O.ld (y := .i x1.Amount) ty3 rfl rfl rfl) ?_
           refine .v rfl (met rfl rfl rfl g7) (OpL.binI rfl rfl rfl rfl) ?_
           refine .v rfl rfl (O.pickT g7 rfl rfl rfl) ?_
           refine .m rfl rfl rfl rfl ?_
           refine .v rfl (met rfl rfl rfl g8) (O.fld fld26_6 rfl rfl rfl) ?_
           refine .v rfl (met rfl rfl rfl g8) (O.ld (y := .i x0.Start) ty3 rfl rfl rfl) ?_
           refine .v rfl (met rfl rfl rfl g8) (O.fld fld26_6 rfl rfl rfl) ?_
           refine .v rfl (met rfl rfl rfl g8) (O.ld (y := .i x1.Start) ty3 rfl rfl rfl) ?_
           refine .v rfl (met rfl rfl rfl g8) (OpL.binI rfl rfl rfl rfl) ?_
           refine .v rfl rfl (O.pickT g8 rfl rfl rfl) ?_
           refine .m rfl rfl rfl rfl ?_
           refine .v rfl (met rfl rfl rfl g9) (O.fld fld26_7 rfl rfl rfl) ?_
           refine .v rfl (met rfl rfl rfl g9) (O.ld (y := .i x0.End) ty3 rfl rfl rfl) ?_
           refine .v rfl (met rfl rfl rfl g9) (O.fld fld26_7 rfl rfl rfl) ?_
           refine .v rfl (met rfl rfl rfl g9) (O.ld (y := .i x1.End) ty3 rfl rfl rfl) ?_
           refine .v rfl (met rfl rfl rfl g9) (OpL.binI rfl rfl rfl rfl) ?_
           refine .v rfl rfl (O.pickT g9 rfl rfl rfl) ?_
           refine .m rfl rfl rfl rfl ?_
           refine .v rfl (met rfl rfl rfl g10) (O.fld fld26_9 rfl rfl rfl) ?_
           refine .v rfl (met rfl rfl rfl g10) (O.ld (y := .i x0.Stage) ty3 rfl rfl rfl) ?_
           refine .v rfl (met rfl rfl rfl g10) (O.fld fld26_9 rfl rfl rfl) ?_
           refine .v rfl (met rfl rfl rfl g10) (O.ld (y := .i x1.Stage) ty3 rfl rfl rfl) ?_
           refine .v rfl (met rfl rfl rfl g10) (OpL.binI rfl rfl rfl rfl) ?_
           refine .v rfl rfl (O.pickT g10 rfl rfl rfl) ?_
           refine .m rfl rfl rfl rfl ?_
           refine .x rfl (unmet rfl rfl rfl g11) ?_
           refine .x rfl (unmet rfl rfl rfl g11) ?_
           refine .x rfl (unmet rfl rfl rfl g11) ?_
           refine .x rfl (unmet rfl rfl rfl g11) ?_
           refine .x rfl (unmet rfl rfl rfl g11) ?_
           refine .v rfl rfl (O.pickF g11 rfl rfl rfl) ?_
           refine .m rfl rfl rfl rfl ?_
           refine .x rfl (unmet rfl rfl rfl rfl) ?_
           refine .x rfl (unmet rfl rfl rfl rfl) ?_
           refine .x rfl (unmet rfl rfl rfl rfl) ?_
           refine .x rfl (unmet rfl rfl rfl rfl) ?_
           refine .x rfl (unmet rfl rfl rfl rfl) ?_
           refine .v rfl rfl (O.pickF rfl rfl rfl rfl) ?_
           refine .a rfl rfl rfl rfl ?_
           refine .nil ?_
           exact toN (Gives.mkR [] (.c rfl (sbb (by first | (simp only [g3, g4, g5, g6, g7, g8, g9, g10, g11, Bool.true_or, Bool.or_true, Bool.false_or, Bool.or_false, Bool.true_and, Bool.and_true, Bool.false_and, Bool.and_false, Bool.not_true, Bool.not_false, cond_true, cond_false]; done) | (repeat (first | rw [g3] | rw [g4] | rw [g5] | rw [g6] | rw [g7] | rw [g8] | rw [g9] | rw [g10] | rw [g11])) <;> simp only [Bool.true_or, Bool.or_true, Bool.false_or, Bool.or_false, Bool.true_and, Bool.and_true, Bool.false_and, Bool.and_false, Bool.not_true, Bool.not_false, cond_true, cond_false])) rfl .n) .n rfl rfl rfl)
         ·refine W.pk ?_
          refine .v rfl rfl (O.fld fld26_0 rfl rfl rfl) ?_
          refine .v rfl rfl (O.ld (y := .i x0.ID) ty3 rfl rfl rfl) ?_
          refine .v rfl rfl (O.fld fld26_0 rfl rfl rfl) ?_
          refine .v rfl rfl (O.ld (y := .i x1.ID) ty3 rfl rfl rfl) ?_
          refine .v rfl rfl (OpL.binI rfl rfl rfl rfl) ?_
          refine .m rfl rfl rfl rfl ?_
          refine .v rfl (met rfl rfl rfl g3) (O.fld fld26_1 rfl rfl rfl) ?_
          refine .v rfl (met rfl rfl rfl g3) (O.ld (y := .i x0.Twin) ty3 rfl rfl rfl) ?_
          refine .v rfl (met rfl rfl rfl g3) (O.fld fld26_1 rfl rfl rfl) ?_
          refine .v rfl (met rfl rfl rfl g3) (O.ld (y := .i x1.Twin) ty3 rfl rfl rfl) ?_
          refine .v rfl (met rfl rfl rfl g3) (OpL.binI rfl rfl rfl rfl) ?_
          refine .v rfl rfl (O.pickT g3 rfl rfl rfl) ?_
          refine .m rfl rfl rfl rfl ?_
          refine .v rfl (met rfl rfl rfl g4) (O.fld fld26_3 rfl rfl rfl) ?_
          refine .v rfl (met rfl rfl rfl g4) (O.ld (y := .i x0.Side) ty3 rfl rfl rfl) ?_
          refine .v rfl (met rfl rfl rfl g4) (O.fld fld26_3 rfl rfl rfl) ?_
          refine .v rfl (met rfl rfl rfl g4) (O.ld (y := .i x1.Side) ty3 rfl rfl rfl) ?_
          refine .v rfl (met rfl rfl rfl g4) (OpL.binI rfl rfl rfl rfl) ?_
          refine .v rfl rfl (O.pickT g4 rfl rfl rfl) ?_
          refine .m rfl rfl rfl rfl ?_
          refine .v rfl (met rfl rfl rfl g5) (O.fld fld26_2 rfl rfl rfl) ?_
          refine .v rfl (met rfl rfl rfl g5) (O.ld (y := .i x0.Member) ty3 rfl rfl rfl) ?_
          refine .v rfl (met rfl rfl rfl g5) (O.fld fld26_2 rfl rfl rfl) ?_
          refine .v rfl (met rfl rfl rfl g5) (O.ld (y := .i x1.Member) ty3 rfl rfl rfl) ?_
          refine .v rfl (met rfl rfl rfl g5) (OpL.binI rfl rfl rfl rfl) ?_
          refine .v rfl rfl (O.pickT g5 rfl rfl rfl) ?_
          refine .m rfl rfl rfl rfl ?_
          refine .v rfl (met rfl rfl rfl g6) (O.fld fld26_4 rfl rfl rfl) ?_
          refine .v rfl (met rfl rfl rfl g6) (O.ld (y := .i x0.Basket) ty3 rfl rfl rfl) ?_
          refine .v rfl (met rfl rfl rfl g6) (O.fld fld26_4 rfl rfl rfl) ?_
          refine .v rfl (met rfl rfl rfl g6) (O.ld (y := .i x1.Basket) ty3 rfl rfl rfl) ?_
          refine .v rfl (met rfl rfl rfl g6) (OpL.binI rfl rfl rfl rfl) ?_
          refine .v rfl rfl (O.pickT g6 rfl rfl rfl) ?_
          refine .m rfl rfl rfl rfl ?_
          refine .v rfl (met rfl rfl rfl g7) (O.fld fld26_5 rfl rfl rfl) ?_
          refine .v rfl (met rfl rfl rfl g7) (O.ld (y := .i x0.Amount) ty3 rfl rfl rfl) ?_
          refine .v rfl (met rfl rfl rfl g7) (O.fld fld26_5 rfl rfl rfl) ?_
          refine .v rfl (met rfl rfl rfl g7) (O.ld (y := .i x1.Amount) ty3 rfl rfl rfl) ?_
          refine .v rfl (met rfl rfl rfl g7) (OpL.binI rfl rfl rfl rfl) ?_
          refine .v rfl rfl (O.pickT g7 rfl rfl rfl) ?_
          refine .m rfl rfl rfl rfl ?_
          refine .v rfl (met rfl rfl rfl g8) (O.fld fld26_6 rfl rfl rfl) ?_
          refine .v rfl (met rfl rfl rfl g8) (O.ld (y := .i x0.Start) ty3 rfl rfl rfl) ?_
          refine .v rfl (met rfl rfl rfl g8) (O.fld fld26_6 rfl rfl rfl) ?_
          refine .v rfl (met rfl rfl rfl g8) (O.ld (y := .i x1.Start) ty3 rfl rfl rfl) ?_
          refine .v rfl (met rfl rfl rfl g8) (OpL.binI rfl rfl rfl rfl) ?_
          refine .v rfl rfl (O.pickT g8 rfl rfl rfl) ?_
          refine .m rfl rfl rfl rfl ?_
          refine .v rfl (met rfl rfl rfl g9) (O.fld fld26_7 rfl rfl rfl) ?_
          refine .v rfl (met rfl rfl rfl g9) (O.ld (y := .i x0.End) ty3 rfl rfl rfl) ?_
          refine .v rfl (met rfl rfl rfl g9) (O.fld fld26_7 rfl rfl rfl) ?_
          refine .v rfl (met rfl rfl rfl g9) (O.ld (y := .i x1.End) ty3 rfl rfl rfl) ?_
          refine .v rfl (met rfl rfl rfl g9) (OpL.binI rfl rfl rfl rfl) ?_
          refine .v rfl rfl (O.pickT g9 rfl rfl rfl) ?_
          refine .m rfl rfl rfl rfl ?_
          refine .x rfl (unmet rfl rfl rfl g10) ?_
          refine .x rfl (unmet rfl rfl rfl g10) ?_
          refine .x rfl (unmet rfl rfl rfl g10) ?_
          refine .x rfl (unmet rfl rfl rfl g10) ?_
          refine .x rfl (unmet rfl rfl rfl g10) ?_
          refine .v rfl rfl (O.pickF g10 rfl rfl rfl) ?_
          refine .m rfl rfl rfl rfl ?_
          refine .x rfl (unmet rfl rfl rfl rfl) ?_
          refine .x rfl (unmet rfl rfl rfl rfl) ?_
          refine .x rfl (unmet rfl rfl rfl rfl) ?_
          refine .x rfl (unmet rfl rfl rfl rfl) ?_
          refine .x rfl (unmet rfl rfl rfl rfl) ?_
          refine .v rfl rfl (O.pickF rfl rfl rfl rfl) ?_
          refine .m rfl rfl rfl rfl ?_
          refine .x rfl (unmet rfl rfl rfl rfl) ?_
          refine .x rfl (unmet rfl rfl rfl rfl) ?_
          refine .x rfl (unmet rfl rfl rfl rfl) ?_
          refine .x rfl (unmet rfl rfl rfl rfl) ?_
          refine .x rfl (unmet rfl rfl rfl rfl) ?_
          refine .v rfl rfl (O.pickF rfl rfl rfl rfl) ?_
          refine .a rfl rfl rfl rfl ?_
          refine .nil ?_
          exact toN (Gives.mkR [] (.c rfl (sbb (by first | (simp only [g3, g4, g5, g6, g7, g8, g9, g10, Bool.true_or, Bool.or_true, Bool.false_or, Bool.or_false, Bool.true_and, Bool.and_true, Bool.false_and, Bool.and_false, Bool.not_true, Bool.not_false, cond_true, cond_false]; done) | (repeat (first | rw [g3] | rw [g4] | rw [g5] | rw [g6] | rw [g7] | rw [g8] | rw [g9] | rw [g10])) <;> simp only [Bool.true_or, Bool.or_true, Bool.false_or, Bool.or_false, Bool.true_and, Bool.and_true, Bool.false_and, Bool.and_false, Bool.not_true, Bool.not_false, cond_true, cond_false])) rfl .n) .n rfl rfl rfl)
        ·refine W.pk ?_
         refine .v rfl rfl (O.fld fld26_0 rfl rfl rfl) ?_
         refine .v rfl rfl (O.ld (y := .i x0.ID) ty3 rfl rfl rfl) ?_
         refine .v rfl rfl (O.fld fld26_0 rfl rfl rfl) ?_
         refine .v rfl rfl (O.ld (y := .i x1.ID) ty3 rfl rfl rfl) ?_
         refine .v rfl rfl (OpL.binI rfl rfl rfl rfl) ?_
         refine .m rfl rfl rfl rfl ?_
         refine .v rfl (met rfl rfl rfl g3) (O.fld fld26_1 rfl rfl rfl) ?_
         refine .v rfl (met rfl rfl rfl g3) (O.ld (y := .i x0.Twin) ty3 rfl rfl rfl) ?_
         refine .v rfl (met rfl rfl rfl g3) (O.fld fld26_1 rfl rfl rfl) ?_
         refine .v rfl (met rfl rfl rfl g3) (O.ld (y := .i x1.Twin) ty3 rfl rfl rfl) ?_
         refine .v rfl (met rfl rfl rfl g3) (OpL.binI rfl rfl rfl rfl) ?_
         refine .v rfl rfl (O.pickT g3 rfl rfl rfl) ?_
         refine .m rfl rfl rfl rfl ?_
         refine .v rfl (met rfl rfl rfl g4) (O.fld fld26_3 rfl rfl rfl) ?_
         refine .v rfl (met rfl rfl rfl g4) (O.ld (y := .i x0.Side) ty3 rfl rfl rfl) ?_
         refine .v rfl (met rfl rfl rfl g4) (O.fld fld26_3 rfl rfl rfl) ?_
         refine .v rfl (met rfl rfl rfl g4) (O.ld (y := .i x1.Side) ty3 rfl rfl rfl) ?_
         refine .v rfl (met rfl rfl rfl g4) (OpL.binI rfl rfl rfl rfl) ?_
         refine .v rfl rfl (O.pickT g4 rfl rfl rfl) ?_
         refine .m rfl rfl rfl rfl ?_
         refine .v rfl (met rfl rfl rfl g5) (O.fld fld26_2 rfl rfl rfl) ?_
         refine .v rfl (met rfl rfl rfl g5) (O.ld (y := .i x0.Member) ty3 rfl rfl rfl) ?_
         refine .v rfl (met rfl rfl rfl g5) (O.fld fld26_2 rfl rfl rfl) ?_
         refine .v rfl (met rfl rfl rfl g5) (O.ld (y := .i x1.Member) ty3 rfl rfl rfl) ?_
         refine .v rfl (met rfl rfl rfl g5) (OpL.binI rfl rfl rfl rfl) ?_
         refine .v rfl rfl (O.pickT g5 rfl rfl rfl) ?_
         refine .m rfl rfl rfl rfl ?_
         refine .v rfl (met rfl rfl rfl g6) (O.fld fld26_4 rfl rfl rfl) ?_
         refine .v rfl (met rfl rfl rfl g6) (O.ld (y := .i x0.Basket) ty3 rfl rfl rfl) ?_
         refine .v rfl (met rfl rfl rfl g6) (O.fld fld26_4 rfl rfl rfl) ?_
         refine .v rfl (met rfl rfl rfl g6) (O.ld (y := .i x1.Basket) ty3 rfl rfl rfl) ?_
         refine .v rfl (met rfl rfl rfl g6) (OpL.binI rfl rfl rfl rfl) ?_
         refine .v rfl rfl (O.pickT g6 rfl rfl rfl) ?_
         refine .m rfl rfl rfl rfl ?_
         refine .v rfl (met rfl rfl rfl g7) (O.fld fld26_5 rfl rfl rfl) ?_
         refine .v rfl (met rfl rfl rfl g7) (O.ld (y := .i x0.Amount) ty3 rfl rfl rfl) ?_
         refine .v rfl (met rfl rfl rfl g7) (O.fld fld26_5 rfl rfl rfl) ?_
         refine .v rfl (met rfl rfl rfl g7) (O.ld (y := .i x1.Amount) ty3 rfl rfl rfl) ?_
         refine .v rfl (met rfl rfl rfl g7) (OpL.binI rfl rfl rfl rfl) ?_
         refine .v rfl rfl (O.pickT g7 rfl rfl rfl) ?_
         refine .m rfl rfl rfl rfl ?_
         refine .v rfl (met rfl rfl rfl g8) (O.fld fld26_6 rfl rfl rfl) ?_
         refine .v rfl (met rfl rfl rfl g8) (O.ld (y := .i x0.Start) ty3 rfl rfl rfl) ?_
         refine .v rfl (met rfl rfl rfl g8) (O.fld fld26_6 rfl rfl rfl) ?_
         refine .v rfl (met rfl rfl rfl g8) (O.ld (y := .i x1.Start) ty3 rfl rfl rfl) ?_
         refine .v rfl (met rfl rfl rfl g8) (OpL.binI rfl rfl rfl rfl) ?_
         refine .v rfl rfl (O.pickT g8 rfl rfl rfl) ?_
         refine .m rfl rfl rfl rfl ?_
         refine .x rfl (unmet rfl rfl rfl g9) ?_
         refine .x rfl (unmet rfl rfl rfl g9) ?_
         refine .x rfl (unmet rfl rfl rfl g9) ?_
         refine .x rfl (unmet rfl rfl rfl g9) ?_
         refine .x rfl (unmet rfl rfl rfl g9) ?_
         refine .v rfl rfl (O.pickF g9 rfl rfl rfl) ?_
         refine .m rfl rfl rfl rfl ?_
         refine .x rfl (unmet rfl rfl rfl rfl) ?_
         refine .x rfl (unmet rfl rfl rfl rfl) ?_
         refine .x rfl (unmet rfl rfl rfl rfl) ?_
         refine .x rfl (unmet rfl rfl rfl rfl) ?_
         refine .x rfl (unmet rfl rfl rfl rfl) ?_
         refine .v rfl rfl (O.pickF rfl rfl rfl rfl) ?_
         refine .m rfl rfl rfl rfl ?_
         refine .x rfl (unmet rfl rfl rfl rfl) ?_
         refine .x rfl (unmet rfl rfl rfl rfl) ?_
         refine .x rfl (unmet rfl rfl rfl rfl) ?_
         refine .x rfl (unmet rfl rfl rfl rfl) ?_
         refine .x rfl (unmet rfl rfl rfl rfl) ?_
         refine .v rfl rfl (O.pickF rfl rfl rfl rfl) ?_
         refine .m rfl rfl rfl rfl ?_
         refine .x rfl (unmet rfl rfl rfl rfl) ?_
         refine .x rfl (unmet rfl rfl rfl rfl) ?_
         refine .x rfl (unmet rfl rfl rfl rfl) ?_
         refine .x rfl (unmet rfl rfl rfl rfl) ?_
         refine .x rfl (unmet rfl rfl rfl rfl) ?_
         refine .v rfl rfl (O.pickF rfl rfl rfl rfl) ?_
         refine .a rfl rfl rfl rfl ?_
         refine .nil ?_
         exact toN (Gives.mkR [] (.c rfl (sbb (by first | (simp only [g3, g4, g5, g6, g7, g8, g9, Bool.true_or, Bool.or_true, Bool.false_or, Bool.or_false, Bool.true_and, Bool.and_true, Bool.false_and, Bool.and_false, Bool.not_true, Bool.not_false, cond_true, cond_false]; done) | (repeat (first | rw [g3] | rw [g4] | rw [g5] | rw [g6] | rw [g7] | rw [g8] | rw [g9])) <;> simp only [Bool.true_or, Bool.or_true, Bool.false_or, Bool.or_false, Bool.true_and, Bool.and_true, Bool.false_and, Bool.and_false, Bool.not_true, Bool.not_false, cond_true, cond_false])) rfl .n) .n rfl rfl rfl)
       ·refine W.pk ?_
        refine .v rfl rfl (O.fld fld26_0 rfl rfl rfl) ?_
        refine .v rfl rfl (O.ld (y := .i x0.ID) ty3 rfl rfl rfl) ?_
        refine .v rfl rfl (O.fld fld26_0 rfl rfl rfl) ?_
        refine .v rfl rfl (O.ld (y := .i x1.ID) ty3 rfl rfl rfl) ?_
        refine .v rfl rfl (OpL.binI rfl rfl rfl rfl) ?_
        refine .m rfl rfl rfl rfl ?_
        refine .v rfl (met rfl rfl rfl g3) (O.fld fld26_1 rfl rfl rfl) ?_
        refine .v rfl (met rfl rfl rfl g3) (O.ld (y := .i x0.Twin) ty3 rfl rfl rfl) ?_
        refine .v rfl (met rfl rfl rfl g3) (O.fld fld26_1 rfl rfl rfl) ?_
        refine .v rfl (met rfl rfl rfl g3) (O.ld (y := .i x1.Twin) ty3 rfl rfl rfl) ?_
        refine .v rfl (met rfl rfl rfl g3) (OpL.binI rfl rfl rfl rfl) ?_
        refine .v rfl rfl (O.pickT g3 rfl rfl rfl) ?_
        refine .m rfl rfl rfl rfl ?_
        refine .v rfl (met rfl rfl rfl g4) (O.fld fld26_3 rfl rfl rfl) ?_
        refine .v rfl (met rfl rfl rfl g4) (O.ld (y := .i x0.Side) ty3 rfl rfl rfl) ?_
        refine .v rfl (met rfl rfl rfl g4) (O.fld fld26_3 rfl rfl rfl) ?_
        refine .v rfl (met rfl rfl rfl g4) (O.ld (y := .i x1.Side) ty3 rfl rfl rfl) ?_
        refine .v rfl (met rfl rfl rfl g4) (OpL.binI rfl rfl rfl rfl) ?_
        refine .v rfl rfl (O.pickT g4 rfl rfl rfl) ?_
        refine .m rfl rfl rfl rfl ?_
        refine .v rfl (met rfl rfl rfl g5) (O.fld fld26_2 rfl rfl rfl) ?_
        refine .v rfl (met rfl rfl rfl g5) (O.ld (y := .i x0.Member) ty3 rfl rfl rfl) ?_
        refine .v rfl (met rfl rfl rfl g5) (O.fld fld26_2 rfl rfl rfl) ?_
        refine .v rfl (met rfl rfl rfl g5) (O.ld (y := .i x1.Member) ty3 rfl rfl rfl) ?_
        refine .v rfl (met rfl rfl rfl g5) (OpL.binI rfl rfl rfl rfl) ?_
        refine .v rfl rfl (O.pickT g5 rfl rfl rfl) ?_
        refine .m rfl rfl rfl rfl ?_
        refine .v rfl (met rfl rfl rfl g6) (O.fld fld26_4 rfl rfl rfl) ?_
        refine .v rfl (met rfl rfl rfl g6) (O.ld (y := .i x0.Basket) ty3 rfl rfl rfl) ?_
        refine .v rfl (met rfl rfl rfl g6) (O.fld fld26_4 rfl rfl rfl) ?_
        refine .v rfl (met rfl rfl rfl g6) (O.ld (y := .i x1.Basket) ty3 rfl rfl rfl) ?_
        refine .v rfl (met rfl rfl rfl g6) (OpL.binI rfl rfl rfl rfl) ?_
        refine .v rfl rfl (O.pickT g6 rfl rfl rfl) ?_
        refine .m rfl rfl rfl rfl ?_
        refine .v rfl (met rfl rfl rfl g7) (O.fld fld26_5 rfl rfl rfl) ?_
        refine .v rfl (met rfl rfl rfl g7) (O.ld (y := .i x0.Amount) ty3 rfl rfl rfl) ?_
        refine .v rfl (met rfl rfl rfl g7) (O.fld fld26_5 rfl rfl rfl) ?_
        refine .v rfl (met rfl rfl rfl g7) (O.ld (y := .i x1.Amount) ty3 rfl rfl rfl) ?_
        refine .v rfl (met rfl rfl rfl g7) (OpL.binI rfl rfl rfl rfl) ?_
        refine .v rfl rfl (O.pickT g7 rfl rfl rfl) ?_
        refine .m rfl rfl rfl rfl ?_
        refine .x rfl (unmet rfl rfl rfl g8) ?_
        refine .x rfl (unmet rfl rfl rfl g8) ?_
        refine .x rfl (unmet rfl rfl rfl g8) ?_
        refine .x rfl (unmet rfl rfl rfl g8) ?_
        refine .x rfl (unmet rfl rfl rfl g8) ?_
        refine .v rfl rfl (O.pickF g8 rfl rfl rfl) ?_
        refine .m rfl rfl rfl rfl ?_
        refine .x rfl (unmet rfl rfl rfl rfl) ?_
        refine .x rfl (unmet rfl rfl rfl rfl) ?_
        refine .x rfl (unmet rfl rfl rfl rfl) ?_
        refine .x rfl (unmet rfl rfl rfl rfl) ?_
        refine .x rfl (unmet rfl rfl rfl rfl) ?_
        refine .v rfl rfl (O.pickF rfl rfl rfl rfl) ?_
        refine .m rfl rfl rfl rfl ?_
        refine .x rfl (unmet rfl rfl rfl rfl) ?_
        refine .x rfl (unmet rfl rfl rfl rfl) ?_
        refine .x rfl (unmet rfl rfl rfl rfl) ?_
        refine .x rfl (unmet rfl rfl rfl rfl) ?_
        refine .x rfl (unmet rfl rfl rfl rfl) ?_
        refine .v rfl rfl (O.pickF rfl rfl rfl rfl) ?_
        refine .m rfl rfl rfl rfl ?_
        refine .x rfl (unmet rfl rfl rfl rfl) ?_
        refine .x rfl (unmet rfl rfl rfl rfl) ?_
        refine .x rfl (unmet rfl rfl rfl rfl) ?_
        refine .x rfl (unmet rfl rfl rfl rfl) ?_
        refine .x rfl (unmet rfl rfl rfl rfl) ?_
        refine .v rfl rfl (O.pickF rfl rfl rfl rfl) ?_
        refine .m rfl rfl rfl rfl ?_
        refine .x rfl (unmet rfl rfl rfl rfl) ?_
        refine .x rfl (unmet rfl rfl rfl rfl) ?_
        refine .x rfl (unmet rfl rfl rfl rfl) ?_
        refine .x rfl (unmet rfl rfl rfl rfl) ?_
        refine .x rfl (unmet rfl rfl rfl rfl) ?_
        refine .v rfl rfl (O.pickF rfl rfl rfl rfl) ?_
        refine .a rfl rfl rfl rfl ?_
        refine .nil ?_
        exact toN (Gives.mkR [] (.c rfl (sbb (by first | (simp only [g3, g4, g5, g6, g7, g8, Bool.true_or, Bool.or_true, Bool.false_or, Bool.or_false, Bool.true_and, Bool.and_true, Bool.false_and, Bool.and_false, Bool.not_true, Bool.not_false, cond_true, cond_false]; done) | (repeat (first | rw [g3] | rw [g4] | rw [g5] | rw [g6] | rw [g7] | rw [g8])) <;> simp only [Bool.true_or, Bool.or_true, Bool.false_or, Bool.or_false, Bool.true_and, Bool.and_true, Bool.false_and, Bool.and_false, Bool.not_true, Bool.not_false, cond_true, cond_false])) rfl .n) .n rfl rfl rfl)
      ·refine W.pk ?_
       refine .v rfl rfl (O.fld fld26_0 rfl rfl rfl) ?_
       refine .v rfl rfl (O.ld (y := .i x0.ID) ty3 rfl rfl rfl) ?_
       refine .v rfl rfl (O.fld fld26_0 rfl rfl rfl) ?_
       refine .v rfl rfl (O.ld (y := .i x1.ID) ty3 rfl rfl rfl) ?_
       refine .v rfl rfl (OpL.binI rfl rfl rfl rfl) ?_
       refine .m rfl rfl rfl rfl ?_
       refine .v rfl (met rfl rfl rfl g3) (O.fld fld26_1 rfl rfl rfl) ?_
       refine .v rfl (met rfl rfl rfl g3) (O.ld (y := .i x0.Twin) ty3 rfl rfl rfl) ?_
       refine .v rfl (met rfl rfl rfl g3) (O.fld fld26_1 rfl rfl rfl) ?_
       refine .v rfl (met rfl rfl rfl g3) (O.ld (y := .i x1.Twin) ty3 rfl rfl rfl) ?_
       refine .v rfl (met rfl rfl rfl g3) (OpL.binI rfl rfl rfl rfl) ?_
       refine .v rfl rfl (O.pickT g3 rfl rfl rfl) ?_
       refine .m rfl rfl rfl rfl ?_
       refine .v rfl (met rfl rfl rfl g4) (O.fld fld26_3 rfl rfl rfl) ?_
       refine .v rfl (met rfl rfl rfl g4) (O.ld (y := .i x0.Side) ty3 rfl rfl rfl) ?_
       refine .v rfl (met rfl rfl rfl g4) (O.fld fld26_3 rfl rfl rfl) ?_
       refine .v rfl (met rfl rfl rfl g4) (O.ld (y := .i x1.Side) ty3 rfl rfl rfl) ?_
       refine .v rfl (met rfl rfl rfl g4) (OpL.binI rfl rfl rfl rfl) ?_
       refine .v rfl rfl (O.pickT g4 rfl rfl rfl) ?_
       refine .m rfl rfl rfl rfl ?_
       refine .v rfl (met rfl rfl rfl g5) (O.fld fld26_2 rfl rfl rfl) ?_
       refine .v rfl (met rfl rfl rfl g5) (O.ld (y := .i x0.Member) ty3 rfl rfl rfl) ?_
       refine .v rfl (met rfl rfl rfl g5) (O.fld fld26_2 rfl rfl rfl) ?_
       refine .v rfl (met rfl rfl rfl g5) (O.ld (y := .i x1.Member) ty3 rfl rfl rfl) ?_
       refine .v rfl (met rfl rfl rfl g5) (OpL.binI rfl rfl rfl rfl) ?_
       refine .v rfl rfl (O.pickT g5 rfl rfl rfl) ?_
       refine .m rfl rfl rfl rfl ?_
       refine .v rfl (met rfl rfl rfl g6) (O.fld fld26_4 rfl rfl rfl) ?_
       refine .v rfl (met rfl rfl rfl g6) (O.ld (y := .i x0.Basket) ty3 rfl rfl rfl) ?_
       refine .v rfl (met rfl rfl rfl g6) (O.fld fld26_4 rfl rfl rfl) ?_
       refine .v rfl (met rfl rfl rfl g6) (O.ld (y := .i x1.Basket) ty3 rfl rfl rfl) ?_
       refine .v rfl (met rfl rfl rfl g6) (OpL.binI rfl rfl rfl rfl) ?_
       refine .v rfl rfl (O.pickT g6 rfl rfl rfl) ?_
       refine .m rfl rfl rfl rfl ?_
       refine .x rfl (unmet rfl rfl rfl g7) ?_
       refine .x rfl (unmet rfl rfl rfl g7) ?_
       refine .x rfl (unmet rfl rfl rfl g7) ?_
       refine .x rfl (unmet rfl rfl rfl g7) ?_
       refine .x rfl (unmet rfl rfl rfl g7) ?_
       refine .v rfl rfl (O.pickF g7 rfl rfl rfl) ?_
       refine .m rfl rfl rfl rfl ?_
       refine .x rfl (unmet rfl rfl rfl rfl) ?_
       refine .x rfl (unmet rfl rfl rfl rfl) ?_
       refine .x rfl (unmet rfl rfl rfl rfl) ?_
       refine .x rfl (unmet rfl rfl rfl rfl) ?_
       refine .x rfl (unmet rfl rfl rfl rfl) ?_
       refine .v rfl rfl (O.pickF rfl rfl rfl rfl) ?_
       refine .m rfl rfl rfl rfl ?_
       refine .x rfl (unmet rfl rfl rfl rfl) ?_
       refine .x rfl (unmet rfl rfl rfl rfl) ?_
       refine .x rfl (unmet rfl rfl rfl rfl) ?_
       refine .x rfl (unmet rfl rfl rfl rfl) ?_
       refine .x rfl (unmet rfl rfl rfl rfl) ?_
       refine .v rfl rfl (O.pickF rfl rfl rfl rfl) ?_
       refine .m rfl rfl rfl rfl ?_
       refine .x rfl (unmet rfl rfl rfl rfl) ?_
       refine .x rfl (unmet rfl rfl rfl rfl) ?_
       refine .x rfl (unmet rfl rfl rfl rfl) ?_
       refine .x rfl (unmet rfl rfl rfl rfl) ?_
       refine .x rfl (unmet rfl rfl rfl rfl) ?_
       refine .v rfl rfl (O.pickF rfl rfl rfl rfl) ?_
       refine .m rfl rfl rfl rfl ?_
       refine .x rfl (unmet rfl rfl rfl rfl) ?_
       refine .x rfl (unmet rfl rfl rfl rfl) ?_
       refine .x rfl (unmet rfl rfl rfl rfl) ?_
       refine .x rfl (unmet rfl rfl rfl rfl) ?_
       refine .x rfl (unmet rfl rfl rfl rfl) ?_
       refine .v rfl rfl (O.pickF rfl rfl rfl rfl) ?_
       refine .m rfl rfl rfl rfl ?_
       refine .x rfl (unmet rfl rfl rfl rfl) ?_
       refine .x rfl (unmet rfl rfl rfl rfl) ?_
       refine .x rfl (unmet rfl rfl rfl rfl) ?_
       refine .x rfl (unmet rfl rfl rfl rfl) ?_
       refine .x rfl (unmet rfl rfl rfl rfl) ?_
       refine .v rfl rfl (O.pickF rfl rfl rfl rfl) ?_
       refine .a rfl rfl rfl rfl ?_
       refine .nil ?_
       exact toN (Gives.mkR [] (.c rfl (sbb (by first | (simp only [g3, g4, g5, g6, g7, Bool.true_or, Bool.or_true, Bool.false_or, Bool.or_false, Bool.true_and, Bool.and_true, Bool.false_and, Bool.and_false, Bool.not_true, Bool.not_false, cond_true, cond_false]; done) | (repeat (first | rw [g3] | rw [g4] | rw [g5] | rw [g6] | rw [g7])) <;> simp only [Bool.true_or, Bool.or_true, Bool.false_or, Bool.or_false, Bool.true_and, Bool.and_true, Bool.false_and, Bool.and_false, Bool.not_true, Bool.not_false, cond_true, cond_false])) rfl .n) .n rfl rfl rfl)
     ·refine W.pk ?_
      refine .v rfl rfl (O.fld fld26_0 rfl rfl rfl) ?_
      refine .v rfl rfl (O.ld (y := .i x0.ID) ty3 rfl rfl rfl) ?_
      refine .v rfl rfl (O.fld fld26_0 rfl rfl rfl) ?_
      refine .v rfl rfl (O.ld (y := .i x1.ID) ty3 rfl rfl rfl) ?_
      refine .v rfl rfl (OpL.binI rfl rfl rfl rfl) ?_
      refine .m rfl rfl rfl rfl ?_
      refine .v rfl (met rfl rfl rfl g3) (O.fld fld26_1 rfl rfl rfl) ?_
      refine .v rfl (met rfl rfl rfl g3) (O.ld (y := .i x0.Twin) ty3 rfl rfl rfl) ?_
      refine .v rfl (met rfl rfl rfl g3) (O.fld fld26_1 rfl rfl rfl) ?_
      refine .v rfl (met rfl rfl rfl g3) (O.ld (y := .i x1.Twin) ty3 rfl rfl rfl) ?_
      refine .v rfl (met rfl rfl rfl g3) (OpL.binI rfl rfl rfl rfl) ?_
      refine .v rfl rfl (O.pickT g3 rfl rfl rfl) ?_
      refine .m rfl rfl rfl rfl ?_
      refine .v rfl (met rfl rfl rfl g4) (O.fld fld26_3 rfl rfl rfl) ?_
      refine .v rfl (met rfl rfl rfl g4) (O.ld (y := .i x0.Side) ty3 rfl rfl rfl) ?_
      refine .v rfl (met rfl rfl rfl g4) (O.fld fld26_3 rfl rfl rfl) ?_
      refine .v rfl (met rfl rfl rfl g4) (O.ld (y := .i x1.Side) ty3 rfl rfl rfl) ?_
      refine .v rfl (met rfl rfl rfl g4) (OpL.binI rfl rfl rfl rfl) ?_
      refine .v rfl rfl (O.pickT g4 rfl rfl rfl) ?_
      refine .m rfl rfl rfl rfl ?_
      refine .v rfl (met rfl rfl rfl g5) (O.fld fld26_2 rfl rfl rfl) ?_
      refine .v rfl (met rfl rfl rfl g5) (O.ld (y := .i x0.Member) ty3 rfl rfl rfl) ?_
      refine .v rfl (met rfl rfl rfl g5) (O.fld fld26_2 rfl rfl rfl) ?_
      refine .v rfl (met rfl rfl rfl g5) (O.ld (y := .i x1.Member) ty3 rfl rfl rfl) ?_
      refine .v rfl (met rfl rfl rfl g5) (OpL.binI rfl rfl rfl rfl) ?_
      refine .v rfl rfl (O.pickT g5 rfl rfl rfl) ?_
      refine .m rfl rfl rfl rfl ?_
      refine .x rfl (unmet rfl rfl rfl g6) ?_
      refine .x rfl (unmet rfl rfl rfl g6) ?_
      refine .x rfl (unmet rfl rfl rfl g6) ?_
      refine .x rfl (unmet rfl rfl rfl g6) ?_
      refine .x rfl (unmet rfl rfl rfl g6) ?_
      refine .v rfl rfl (O.pickF g6 rfl rfl rfl) ?_
      refine .m rfl rfl rfl rfl ?_
      refine .x rfl (unmet rfl rfl rfl rfl) ?_
      refine .x rfl (unmet rfl rfl rfl rfl) ?_
      refine .x rfl (unmet rfl rfl rfl rfl) ?_
      refine .x rfl (unmet rfl rfl rfl rfl) ?_
      refine .x rfl (unmet rfl rfl rfl rfl) ?_
      refine .v rfl rfl (O.pickF rfl rfl rfl rfl) ?_
      refine .m rfl rfl rfl rfl ?_
      refine .x rfl (unmet rfl rfl rfl rfl) ?_
      refine .x rfl (unmet rfl rfl rfl rfl) ?_
      refine .x rfl (unmet rfl rfl rfl rfl) ?_
      refine .x rfl (unmet rfl rfl rfl rfl) ?_
      refine .x rfl (unmet rfl rfl rfl rfl) ?_
      refine .v rfl rfl (O.pickF rfl rfl rfl rfl) ?_
      refine .m rfl rfl rfl rfl ?_
      refine .x rfl (unmet rfl rfl rfl rfl) ?_
      refine .x rfl (unmet rfl rfl rfl rfl) ?_
      refine .x rfl (unmet rfl rfl rfl rfl) ?_
      refine .x rfl (unmet rfl rfl rfl rfl) ?_
      refine .x rfl (unmet rfl rfl rfl rfl) ?_
      refine .v rfl rfl (O.pickF rfl rfl rfl rfl) ?_
      refine .m rfl rfl rfl rfl ?_
      refine .x rfl (unmet rfl rfl rfl rfl) ?_
      refine .x rfl (unmet rfl rfl rfl rfl) ?_
      refine .x rfl (unmet rfl rfl rfl rfl) ?_
      refine .x rfl (unmet rfl rfl rfl rfl) ?_
      refine .x rfl (unmet rfl rfl rfl rfl) ?_
      refine .v rfl rfl (O.pickF rfl rfl rfl rfl) ?_
      refine .m rfl rfl rfl rfl ?_
      refine .x rfl (unmet rfl rfl rfl rfl) ?_
      refine .x rfl (unmet rfl rfl rfl rfl) ?_
      refine .x rfl (unmet rfl rfl rfl rfl) ?_
      refine .x rfl (unmet rfl rfl rfl rfl) ?_
      refine .x rfl (unmet rfl rfl rfl rfl) ?_
      refine .v rfl rfl (O.pickF rfl rfl rfl rfl) ?_
      refine .m rfl rfl rfl rfl ?_
      refine .x rfl (unmet rfl rfl rfl rfl) ?_
      refine .x rfl (unmet rfl rfl rfl rfl) ?_
      refine .x rfl (unmet rfl rfl rfl rfl) ?_
      refine .x rfl (unmet rfl rfl rfl rfl) ?_
      refine .x rfl (unmet rfl rfl rfl rfl) ?_
      refine .v rfl rfl (O.pickF rfl rfl rfl rfl) ?_
      refine .a rfl rfl rfl rfl ?_
      refine .nil ?_
      exact toN (Gives.mkR [] (.c rfl (sbb (by first | (simp only [g3, g4, g5, g6, Bool.true_or, Bool.or_true, Bool.false_or, Bool.or_false, Bool.true_and, Bool.and_true, Bool.false_and, Bool.and_false, Bool.not_true, Bool.not_false, cond_true, cond_false]; done) | (repeat (first | rw [g3] | rw [g4] | rw [g5] | rw [g6])) <;> simp only [Bool.true_or, Bool.or_true, Bool.false_or, Bool.or_false, Bool.true_and, Bool.and_true, Bool.false_and, Bool.and_false, Bool.not_true, Bool.not_false, cond_true, cond_false])) rfl .n) .n rfl rfl rfl)
    ·refine W.pk ?_
     refine .v rfl rfl (O.fld fld26_0 rfl rfl rfl) ?_
     refine .v rfl rfl (O.ld (y := .i x0.ID) ty3 rfl rfl rfl) ?_
     refine .v rfl rfl (O.fld fld26_0 rfl rfl rfl) ?_
     refine .v rfl rfl (O.ld (y := .i x1.ID) ty3 rfl rfl rfl) ?_
     refine .v rfl rfl (OpL.binI rfl rfl rfl rfl) ?_
     refine .m rfl rfl rfl rfl ?_
     refine .v rfl (met rfl rfl rfl g3) (O.fld fld26_1 rfl rfl rfl) ?_
     refine .v rfl (met rfl rfl rfl g3) (O.ld (y := .i x0.Twin) ty3 rfl rfl rfl) ?_
     refine .v rfl (met rfl rfl rfl g3) (O.fld fld26_1 rfl rfl rfl) ?_
     refine .v rfl (met rfl rfl rfl g3) (O.ld (y := .i x1.Twin) ty3 rfl rfl rfl) ?_
     refine .v rfl (met rfl rfl rfl g3) (OpL.binI rfl rfl rfl rfl) ?_
     refine .v rfl rfl (O.pickT g3 rfl rfl rfl) ?_
     refine .m rfl rfl rfl rfl ?_
     refine .v rfl (met rfl rfl rfl g4) (O.fld fld26_3 rfl rfl rfl) ?_
     refine .v rfl (met rfl rfl rfl g4) (O.ld (y := .i x0.Side) ty3 rfl rfl rfl) ?_
     refine .v rfl (met rfl rfl rfl g4) (O.fld fld26_3 rfl rfl rfl) ?_
     refine .v rfl (met rfl rfl rfl g4) (O.ld (y := .i x1.Side) ty3 rfl rfl rfl) ?_
     refine .v rfl (met rfl rfl rfl g4) (OpL.binI rfl rfl rfl rfl) ?_
     refine .v rfl rfl (O.pickT g4 rfl rfl rfl) ?_
     refine .m rfl rfl rfl rfl ?_
     refine .x rfl (unmet rfl rfl rfl g5) ?_
     refine .x rfl (unmet rfl rfl rfl g5) ?_
     refine .x rfl (unmet rfl rfl rfl g5) ?_
     refine .x rfl (unmet rfl rfl rfl g5) ?_
     refine .x rfl (unmet rfl rfl rfl g5) ?_
     refine .v rfl rfl (O.pickF g5 rfl rfl rfl) ?_
     refine .m rfl rfl rfl rfl ?_
     refine .x rfl (unmet rfl rfl rfl rfl) ?_
     refine .x rfl (unmet rfl rfl rfl rfl) ?_
     refine .x rfl (unmet rfl rfl rfl rfl) ?_
     refine .x rfl (unmet rfl rfl rfl rfl) ?_
     refine .x rfl (unmet rfl rfl rfl rfl) ?_
     refine .v rfl rfl (O.pickF rfl rfl rfl rfl) ?_
     refine .m rfl rfl rfl rfl ?_
     refine .x rfl (unmet rfl rfl rfl rfl) ?_
     refine .x rfl (unmet rfl rfl rfl rfl) ?_
     refine .x rfl (unmet rfl rfl rfl rfl) ?_
     refine .x rfl (unmet rfl rfl rfl rfl) ?_
     refine .x rfl (unmet rfl rfl rfl rfl) ?_
     refine .v rfl rfl (O.pickF rfl rfl rfl rfl) ?_
     refine .m rfl rfl rfl rfl ?_
     refine .x rfl (unmet rfl rfl rfl rfl) ?_
     refine .x rfl (unmet rfl rfl rfl rfl) ?_
     refine .x rfl (unmet rfl rfl rfl rfl) ?_
     refine .x rfl (unmet rfl rfl rfl rfl) ?_
     refine .x rfl (unmet rfl rfl rfl rfl) ?_
     refine .v rfl rfl (O.pickF rfl rfl rfl rfl) ?_
     refine .m rfl rfl rfl rfl ?_
     refine .x rfl (unmet rfl rfl rfl rfl) ?_
     refine .x rfl (unmet rfl rfl rfl rfl) ?_
     refine .x rfl (unmet rfl rfl rfl rfl) ?_
     refine .x rfl (unmet rfl rfl rfl rfl) ?_
     refine .x rfl (unmet rfl rfl rfl rfl) ?_
     refine .v rfl rfl (O.pickF rfl rfl rfl rfl) ?_
     refine .m rfl rfl rfl rfl ?_
     refine .x rfl (unmet rfl rfl rfl rfl) ?_
     refine .x rfl (unmet rfl rfl rfl rfl) ?_
     refine .x rfl (unmet rfl rfl rfl rfl) ?_
     refine .x rfl (unmet rfl rfl rfl rfl) ?_
     refine .x rfl (unmet rfl rfl rfl rfl) ?_
     refine .v rfl rfl (O.pickF rfl rfl rfl rfl) ?_
     refine .m rfl rfl rfl rfl ?_
     refine .x rfl (unmet rfl rfl rfl rfl) ?_
     refine .x rfl (unmet rfl rfl rfl rfl) ?_
     refine .x rfl (unmet rfl rfl rfl rfl) ?_
     refine .x rfl (unmet rfl rfl rfl rfl) ?_
     refine .x rfl (unmet rfl rfl rfl rfl) ?_
     refine .v rfl rfl (O.pickF rfl rfl rfl rfl) ?_
     refine .m rfl rfl rfl rfl ?_
     refine .x rfl (unmet rfl rfl rfl rfl) ?_
     refine .x rfl (unmet rfl rfl rfl rfl) ?_
     refine .x rfl (unmet rfl rfl rfl rfl) ?_
     refine .x rfl (unmet rfl rfl rfl rfl) ?_
     refine .x rfl (unmet rfl rfl rfl rfl) ?_
     refine .v rfl rfl (O.pickF rfl rfl rfl rfl) ?_
     refine .a rfl rfl rfl rfl ?_
     refine .nil ?_
     exact toN (Gives.mkR [] (.c rfl (sbb (by first | (simp only [g3, g4, g5, Bool.true_or, Bool.or_true, Bool.false_or, Bool.or_false, Bool.true_and, Bool.and_true, Bool.false_and, Bool.and_false, Bool.not_true, Bool.not_false, cond_true, cond_false]; done) | (repeat (first | rw [g3] | rw [g4] | rw [g5])) <;> simp only [Bool.true_or, Bool.or_true, Bool.false_or, Bool.or_false, Bool.true_and, Bool.and_true, Bool.false_and, Bool.and_false, Bool.not_true, Bool.not_false, cond_true, cond_false])) rfl .n) .n rfl rfl rfl)
   ·refine W.pk ?_
    refine .v rfl rfl (O.fld fld26_0 rfl rfl rfl) ?_
    refine .v rfl rfl (O.ld (y := .i x0.ID) ty3 rfl rfl rfl) ?_
    refine .v rfl rfl (O.fld fld26_0 rfl rfl rfl) ?_
    refine .v rfl rfl (O.ld (y := .i x1.ID) ty3 rfl rfl rfl) ?_
    refine .v rfl rfl (OpL.binI rfl rfl rfl rfl) ?_
    refine .m rfl rfl rfl rfl ?_
    refine .v rfl (met rfl rfl rfl g3) (O.fld fld26_1 rfl rfl rfl) ?_
    refine .v rfl (met rfl rfl rfl g3) (O.ld (y := .i x0.Twin) ty3 rfl rfl rfl) ?_
    refine .v rfl (met rfl rfl rfl g3) (O.fld fld26_1 rfl rfl rfl) ?_
    refine .v rfl (met rfl rfl rfl g3) (O.ld (y := .i x1.Twin) ty3 rfl rfl rfl) ?_
    refine .v rfl (met rfl rfl rfl g3) (OpL.binI rfl rfl rfl rfl) ?_
    refine .v rfl rfl (O.pickT g3 rfl rfl rfl) ?_
    refine .m rfl rfl rfl rfl ?_
    refine .x rfl (unmet rfl rfl rfl g4) ?_
    refine .x rfl (unmet rfl rfl rfl g4) ?_
    refine .x rfl (unmet rfl rfl rfl g4) ?_
    refine .x rfl (unmet rfl rfl rfl g4) ?_
    refine .x rfl (unmet rfl rfl rfl g4) ?_
    refine .v rfl rfl (O.pickF g4 rfl rfl rfl) ?_
    refine .m rfl rfl rfl rfl ?_
    refine .x rfl (unmet rfl rfl rfl rfl) ?_
    refine .x rfl (unmet rfl rfl rfl rfl) ?_
    refine .x rfl (unmet rfl rfl rfl rfl) ?_
    refine .x rfl (unmet rfl rfl rfl rfl) ?_
    refine .x rfl (unmet rfl rfl rfl rfl) ?_
    refine .v rfl rfl (O.pickF rfl rfl rfl rfl) ?_
    refine .m rfl rfl rfl rfl ?_
    refine .x rfl (unmet rfl rfl rfl rfl) ?_
    refine .x rfl (unmet rfl rfl rfl rfl) ?_
    refine .x rfl (unmet rfl rfl rfl rfl) ?_
    refine .x rfl (unmet rfl rfl rfl rfl) ?_
    refine .x rfl (unmet rfl rfl rfl rfl) ?_
    refine .v rfl rfl (O.pickF rfl rfl rfl rfl) ?_
    refine .m rfl rfl rfl rfl ?_
    refine .x rfl (unmet rfl rfl rfl rfl) ?_
    refine .x rfl (unmet rfl rfl rfl rfl) ?_
    refine .x rfl (unmet rfl rfl rfl rfl) ?_
    refine .x rfl (unmet rfl rfl rfl rfl) ?_
    refine .x rfl (unmet rfl rfl rfl rfl) ?_
    refine .v rfl rfl (O.pickF rfl rfl rfl rfl) ?_
    refine .m rfl rfl rfl rfl ?_
    refine .x rfl (unmet rfl rfl rfl rfl) ?_
    refine .x rfl (unmet rfl rfl rfl rfl) ?_
    refine .x rfl (unmet rfl rfl rfl rfl) ?_
    refine .x rfl (unmet rfl rfl rfl rfl) ?_
    refine .x rfl (unmet rfl rfl rfl rfl) ?_
    refine .v rfl rfl (O.pickF rfl rfl rfl rfl) ?_
    refine .m rfl rfl rfl rfl ?_
    refine .x rfl (unmet rfl rfl rfl rfl) ?_
    refine .x rfl (unmet rfl rfl rfl rfl) ?_
    refine .x rfl (unmet rfl rfl rfl rfl) ?_
    refine .x rfl (unmet rfl rfl rfl rfl) ?_
    refine .x rfl (unmet rfl rfl rfl rfl) ?_
    refine .v rfl rfl (O.pickF rfl rfl rfl rfl) ?_
    refine .m rfl rfl rfl rfl ?_
    refine .x rfl (unmet rfl rfl rfl rfl) ?_
    refine .x rfl (unmet rfl rfl rfl rfl) ?_
    refine .x rfl (unmet rfl rfl rfl rfl) ?_
    refine .x rfl (unmet rfl rfl rfl rfl) ?_
    refine .x rfl (unmet rfl rfl rfl rfl) ?_
    refine .v rfl rfl (O.pickF rfl rfl rfl rfl) ?_
    refine .m rfl rfl rfl rfl ?_
    refine .x rfl (unmet rfl rfl rfl rfl) ?_
    refine .x rfl (unmet rfl rfl rfl rfl) ?_
    refine .x rfl (unmet rfl rfl rfl rfl) ?_
    refine .x rfl (unmet rfl rfl rfl rfl) ?_
    refine .x rfl (unmet rfl rfl rfl rfl) ?_
    refine .v rfl rfl (O.pickF rfl rfl rfl rfl) ?_
    refine .m rfl rfl rfl rfl ?_
    refine .x rfl (unmet rfl rfl rfl rfl) ?_
    refine .x rfl (unmet rfl rfl rfl rfl) ?_
    refine .x rfl (unmet rfl rfl rfl rfl) ?_
    refine .x rfl (unmet rfl rfl rfl rfl) ?_
    refine .x rfl (unmet rfl rfl rfl rfl) ?_
    refine .v rfl rfl (O.pickF rfl rfl rfl rfl) ?_
    refine .a rfl rfl rfl rfl ?_
    refine .nil ?_
    exact toN (Gives.mkR [] (.c rfl (sbb (by first | (simp only [g3, g4, Bool.true_or, Bool.or_true, Bool.false_or, Bool.or_false, Bool.true_and, Bool.and_true, Bool.false_and, Bool.and_false, Bool.not_true, Bool.not_false, cond_true, cond_false]; done) | (repeat (first | rw [g3] | rw [g4])) <;> simp only [Bool.true_or, Bool.or_true, Bool.false_or, Bool.or_false, Bool.true_and, Bool.and_true, Bool.false_and, Bool.and_false, Bool.not_true, Bool.not_false, cond_true, cond_false])) rfl .n) .n rfl rfl rfl)
  ·refine W.pk ?_
   refine .v rfl rfl (O.fld fld26_0 rfl rfl rfl) ?_
   refine .v rfl rfl (O.ld (y := .i x0.ID) ty3 rfl rfl rfl) ?_
   refine .v rfl rfl (O.fld fld26_0 rfl rfl rfl) ?_
   refine .v rfl rfl (O.ld (y := .i x1.ID) ty3 rfl rfl rfl) ?_
   refine .v rfl rfl (OpL.binI rfl rfl rfl rfl) ?_
   refine .m rfl rfl rfl rfl ?_
   refine .x rfl (unmet rfl rfl rfl g3) ?_
   refine .x rfl (unmet rfl rfl rfl g3) ?_
   refine .x rfl (unmet rfl rfl rfl g3) ?_
   refine .x rfl (unmet rfl rfl rfl g3) ?_
   refine .x rfl (unmet rfl rfl rfl g3) ?_
   refine .v rfl rfl (O.pickF g3 rfl rfl rfl) ?_
   refine .m rfl rfl rfl rfl ?_
   refine .x rfl (unmet rfl rfl rfl rfl) ?_
   refine .x rfl (unmet rfl rfl rfl rfl) ?_
   refine .x rfl (unmet rfl rfl rfl rfl) ?_
   refine .x rfl (unmet rfl rfl rfl rfl) ?_
   refine .x rfl (unmet rfl rfl rfl rfl) ?_
   refine .v rfl rfl (O.pickF rfl rfl rfl rfl) ?_
   refine .m rfl rfl rfl rfl ?_
   refine .x rfl (unmet rfl rfl rfl rfl) ?_
   refine .x rfl (unmet rfl rfl rfl rfl) ?_
   refine .x rfl (unmet rfl rfl rfl rfl) ?_
   refine .x rfl (unmet rfl rfl rfl rfl) ?_
   refine .x rfl (unmet rfl rfl rfl rfl) ?_
   refine .v rfl rfl (O.pickF rfl rfl rfl rfl) ?_
   refine .m rfl rfl rfl rfl ?_
   refine .x rfl (unmet rfl rfl rfl rfl) ?_
   refine .x rfl (unmet rfl rfl rfl rfl) ?_
   refine .x rfl (unmet rfl rfl rfl rfl) ?_
   refine .x rfl (unmet rfl rfl rfl rfl) ?_
   refine .x rfl (unmet rfl rfl rfl rfl) ?_
   refine .v rfl rfl (O.pickF rfl rfl rfl rfl) ?_
   refine .m rfl rfl rfl rfl ?_
   refine .x rfl (unmet rfl rfl rfl rfl) ?_
   refine .x rfl (unmet rfl rfl rfl rfl) ?_
   refine .x rfl (unmet rfl rfl rfl rfl) ?_
   refine .x rfl (unmet rfl rfl rfl rfl) ?_
   refine .x rfl (unmet rfl rfl rfl rfl) ?_
   refine .v rfl rfl (O.pickF rfl rfl rfl rfl) ?_
   refine .m rfl rfl rfl rfl ?_
   refine .x rfl (unmet rfl rfl rfl rfl) ?_
   refine .x rfl (unmet rfl rfl rfl rfl) ?_
   refine .x rfl (unmet rfl rfl rfl rfl) ?_
   refine .x rfl (unmet rfl rfl rfl rfl) ?_
   refine .x rfl (unmet rfl rfl rfl rfl) ?_
   refine .v rfl rfl (O.pickF rfl rfl rfl rfl) ?_
   refine .m rfl rfl rfl rfl ?_
   refine .x rfl (unmet rfl rfl rfl rfl) ?_
   refine .x rfl (unmet rfl rfl rfl rfl) ?_
   refine .x rfl (unmet rfl rfl rfl rfl) ?_
   refine .x rfl (unmet rfl rfl rfl rfl) ?_
   refine .x rfl (unmet rfl rfl rfl rfl) ?_
   refine .v rfl rfl (O.pickF rfl rfl rfl rfl) ?_
   refine .m rfl rfl rfl rfl ?_
   refine .x rfl (unmet rfl rfl rfl rfl) ?_
   refine .x rfl (unmet rfl rfl rfl rfl) ?_
   refine .x rfl (unmet rfl rfl rfl rfl) ?_
   refine .x rfl (unmet rfl rfl rfl rfl) ?_
   refine .x rfl (unmet rfl rfl rfl rfl) ?_
   refine .v rfl rfl (O.pickF rfl rfl rfl rfl) ?_
   refine .m rfl rfl rfl rfl ?_
   refine .x rfl (unmet rfl rfl rfl rfl) ?_
   refine .x rfl (unmet rfl rfl rfl rfl) ?_
   refine .x rfl (unmet rfl rfl rfl rfl) ?_
   refine .x rfl (unmet rfl rfl rfl rfl) ?_
   refine .x rfl (unmet rfl rfl rfl rfl) ?_
   refine .v rfl rfl (O.pickF rfl rfl rfl rfl) ?_
   refine .m rfl rfl rfl rfl ?_
   refine .x rfl (unmet rfl rfl rfl rfl) ?_
   refine .x rfl (unmet rfl rfl rfl rfl) ?_
   refine .x rfl (unmet rfl rfl rfl rfl) ?_
   refine .x rfl (unmet rfl rfl rfl rfl) ?_
   refine .x rfl (unmet rfl rfl rfl rfl) ?_
   refine .v rfl rfl (O.pickF rfl rfl rfl rfl) ?_
   refine .a rfl rfl rfl rfl ?_
   refine .nil ?_
   exact toN (Gives.mkR [] (.c rfl (sbb (by simp only [g3, Bool.true_or, Bool.or_true, Bool.false_or, Bool.or_false, Bool.true_and, Bool.and_true, Bool.false_and, Bool.and_false, Bool.not_true, Bool.not_false, cond_true, cond_false])) rfl .n) .n rfl rfl rfl)
end Go.Proofs.Ytidinbjehfodoaa
