/- Shows what functions of the program come to, each as a plain function: written by a program of the author's for this claim. -/
import Derived.Test.YtidinbjehfodoaaGx5
namespace Go.Proofs.Ytidinbjehfodoaa
open Go Go.Pm
set_option linter.unusedVariables false
set_option linter.unusedSimpArgs false
noncomputable def trade_Twins.f (x0 : api_Trade) (x1 : api_Trade) : Option (Bool) :=
  (if (((((((((x0.ID == x1.Twin) && (x1.ID == x0.Twin)) && (x0.Side != x1.Side)) && (x0.Member != x1.Member)) && (x0.Basket == x1.Basket)) && (x0.Amount == x1.Amount)) && (x0.Start == x1.Start)) && (x0.End == x1.End)) && (x0.Stage == x1.Stage)) = true then slices_Equal_api_Reset.f x0.Resets x1.Resets else some default).bind fun t1 =>
  some ((((((((((x0.ID == x1.Twin) && (x1.ID == x0.Twin)) && (x0.Side != x1.Side)) && (x0.Member != x1.Member)) && (x0.Basket == x1.Basket)) && (x0.Amount == x1.Amount)) && (x0.Start == x1.Start)) && (x0.End == x1.End)) && (x0.Stage == x1.Stage)) && t1)
set_option maxRecDepth 100000 in
set_option maxHeartbeats 4000000 in
theorem trade_Twins.ok {x0 : api_Trade} {x1 : api_Trade} {r : Bool} (h : trade_Twins.f x0 x1 = some r) : Pm.Spec prog 13 [.agg [.imm (.val (.int .i64 x0.ID)), .imm (.val (.int .i64 x0.Twin)), .imm (.val (.int .i64 x0.Member)), .imm (.val (.int .i64 x0.Side)), .imm (.val (.int .i64 x0.Basket)), .imm (.val (.int .i64 x0.Amount)), .imm (.val (.int .i64 x0.Start)), .imm (.val (.int .i64 x0.End)), .imm (.row 2 (List.map api_Reset.enc x0.Resets)), .imm (.val (.int .i64 x0.Stage)), .imm (.val (.bool x0.Short))], .agg [.imm (.val (.int .i64 x1.ID)), .imm (.val (.int .i64 x1.Twin)), .imm (.val (.int .i64 x1.Member)), .imm (.val (.int .i64 x1.Side)), .imm (.val (.int .i64 x1.Basket)), .imm (.val (.int .i64 x1.Amount)), .imm (.val (.int .i64 x1.Start)), .imm (.val (.int .i64 x1.End)), .imm (.row 2 (List.map api_Reset.enc x1.Resets)), .imm (.val (.int .i64 x1.Stage)), .imm (.val (.bool x1.Short))]] (.imm (.val (.bool r))) [none, none] := by
 unfold trade_Twins.f at h
 refine Pm.Spec.of_body Try.func13 rfl (by kernel_rfl) (Nat.le_of_ble_eq_true rfl) (Nat.le_of_ble_eq_true rfl) ?_
 refine W.ghost (σ' := (mkSt [(0, some (.agg (api_Trade.av x0))), (1, some (.agg (api_Trade.av x1)))] [] 1000)) (Gives.entry (.c rfl (.c rfl .n)) .n) ?_
 refine W.seq ?_
 refine W.pk ?_
 refine .t rfl rfl (O.box rfl rfl rfl rfl rfl) ?_
 refine .t rfl rfl (O.box rfl rfl rfl rfl rfl) ?_
 refine .a rfl rfl rfl rfl ?_
 refine .nil ?_
 refine W.seq ?_
 obtain ⟨t1, b2, h⟩ := bnd1 h
 refine W.fork (mkSt [(4, some (.b ((((((((((x0.ID == x1.Twin) && (x1.ID == x0.Twin)) && (x0.Side != x1.Side)) && (x0.Member != x1.Member)) && (x0.Basket == x1.Basket)) && (x0.Amount == x1.Amount)) && (x0.Start == x1.Start)) && (x0.End == x1.End)) && (x0.Stage == x1.Stage)) && t1)))] [] 1002) ?_ ?_
 ·refine W.ret ?_
  cases h
  exact leaves (.inr rfl) rfl (.imm _) (cN (cN .nil)) rfl rfl
 ·clear h
  rcases tf (x0.ID == x1.Twin) with g3 | g3
  ·rcases tf (x1.ID == x0.Twin) with g4 | g4
   ·rcases tf (x0.Side != x1.Side) with g5 | g5
    ·rcases tf (x0.Member != x1.Member) with g6 | g6
     ·rcases tf (x0.Basket == x1.Basket) with g7 | g7
      ·rcases tf (x0.Amount == x1.Amount) with g8 | g8
       ·rcases tf (x0.Start == x1.Start) with g9 | g9
        ·rcases tf (x0.End == x1.End) with g10 | g10
         ·rcases tf (x0.Stage == x1.Stage) with g11 | g11
          ·refine W.pk ?_
           refine .v rfl rfl (O.fld fld26_0 rfl rfl rfl) ?_
           refine .v rfl rfl (O.ld (y := .i x0.ID) ty3 rfl rfl rfl) ?_
           refine .v rfl rfl (O.fld fld26_1 rfl rfl rfl) ?_
           refine .v rfl rfl (O.ld (y := .i x1.Twin) ty3 rfl rfl rfl) ?_
           refine .v rfl rfl (OpL.binI rfl rfl rfl rfl) ?_
           refine .m rfl rfl rfl rfl ?_
           refine .v rfl (met rfl rfl rfl g3) (O.fld fld26_0 rfl rfl rfl) ?_
           refine .v rfl (met rfl rfl rfl g3) (O.ld (y := .i x1.ID) ty3 rfl rfl rfl) ?_
           refine .v rfl (met rfl rfl rfl g3) (O.fld fld26_1 rfl rfl rfl) ?_
           refine .v rfl (met rfl rfl rfl g3) (O.ld (y := .i x0.Twin) ty3 rfl rfl rfl) ?_
           refine .v rfl (met rfl rfl rfl g3) (OpL.binI rfl rfl rfl rfl) ?_
           refine .v rfl rfl (O.pickT g3 rfl rfl rfl) ?_
           refine .m rfl rfl rfl rfl ?_
           refine .v rfl (met rfl rfl rfl g4) (O.fld fld26_3 rfl rfl rfl) ?_
           refine .v rfl (met rfl rfl rfl g4) (O.ld (y := .i x0.Side) ty3 rfl rfl rfl) ?_
           refine .v rfl (met rfl rfl rfl g4) (O.fld fld26_3 rfl rfl rfl) ?_
           refine .v rfl (met rfl rfl rfl g4) (O.ld (y := .i x1.Side) ty3 rfl rfl rfl) ?_
           refine .v rfl (met rfl rfl rfl g4) (OpL.binI rfl rfl rfl rfl) ?_
           refine .v rfl rfl (O.pickT g4 rfl rfl rfl) ?_
           refine .m rfl rfl rfl rfl ?_
           refine .v rfl (met rfl rfl rfl g5) (O.fld fld26_2 rfl rfl rfl) ?_
           refine .v rfl (met rfl rfl rfl g5) (O.ld (y := .i x0.Member) ty3 rfl rfl rfl) ?_
           refine .v rfl (met rfl rfl rfl g5) (O.fld fld26_2 rfl rfl rfl) ?_
           refine .v rfl (met rfl rfl rfl g5) (O.ld (y := .i x1.Member) ty3 rfl rfl rfl) ?_
           refine .v rfl (met rfl rfl rfl g5) (OpL.binI rfl rfl rfl rfl) ?_
           refine .v rfl rfl (O.pickT g5 rfl rfl rfl) ?_
           refine .m rfl rfl rfl rfl ?_
           refine .v rfl (met rfl rfl rfl g6) (O.fld fld26_4 rfl rfl rfl) ?_
           refine .v rfl (met rfl rfl rfl g6) (O.ld (y := .i x0.Basket) ty3 rfl rfl rfl) ?_
           refine .v rfl (met rfl rfl rfl g6) (O.fld fld26_4 rfl rfl rfl) ?_
           refine .v rfl (met rfl rfl rfl g6) (O.ld (y := .i x1.Basket) ty3 rfl rfl rfl) ?_
           refine .v rfl (met rfl rfl rfl g6) (OpL.binI rfl rfl rfl rfl) ?_
           refine .v rfl rfl (O.pickT g6 rfl rfl rfl) ?_
           refine .m rfl rfl rfl rfl ?_
           refine .v rfl (met rfl rfl rfl g7) (O.fld fld26_5 rfl rfl rfl) ?_
           refine .v rfl (met rfl rfl rfl g7) (O.ld (y := .i x0.Amount) ty3 rfl rfl rfl) ?_
           refine .v rfl (met rfl rfl rfl g7) (O.fld fld26_5 rfl rfl rfl) ?_
           refine .v rfl (met rfl rfl rfl g7) (O.ld (y := .i x1.Amount) ty3 rfl rfl rfl) ?_
           refine .v rfl (met rfl rfl rfl g7) (OpL.binI rfl rfl rfl rfl) ?_
           refine .v rfl rfl (O.pickT g7 rfl rfl rfl) ?_
           refine .m rfl rfl rfl rfl ?_
           refine .v rfl (met rfl rfl rfl g8) (O.fld fld26_6 rfl rfl rfl) ?_
           refine .v rfl (met rfl rfl rfl g8) (O.ld (y := .i x0.Start) ty3 rfl rfl rfl) ?_
           refine .v rfl (met rfl rfl rfl g8) (O.fld fld26_6 rfl rfl rfl) ?_
           refine .v rfl (met rfl rfl rfl g8) (O.ld (y := .i x1.Start) ty3 rfl rfl rfl) ?_
           refine .v rfl (met rfl rfl rfl g8) (OpL.binI rfl rfl rfl rfl) ?_
           refine .v rfl rfl (O.pickT g8 rfl rfl rfl) ?_
           refine .m rfl rfl rfl rfl ?_
           refine .v rfl (met rfl rfl rfl g9) (O.fld fld26_7 rfl rfl rfl) ?_
           refine .v rfl (met rfl rfl rfl g9) (O.ld (y := .i x0.End) ty3 rfl rfl rfl) ?_
           refine .v rfl (met rfl rfl rfl g9) (O.fld fld26_7 rfl rfl rfl) ?_
           refine .v rfl (met rfl rfl rfl g9) (O.ld (y := .i x1.End) ty3 rfl rfl rfl) ?_
           refine .v rfl (met rfl rfl rfl g9) (OpL.binI rfl rfl rfl rfl) ?_
           refine .v rfl rfl (O.pickT g9 rfl rfl rfl) ?_
           refine .m rfl rfl rfl rfl ?_
           refine .v rfl (met rfl rfl rfl g10) (O.fld fld26_9 rfl rfl rfl) ?_
           refine .v rfl (met rfl rfl rfl g10) (O.ld (y := .i x0.Stage) ty3 rfl rfl rfl) ?_
           refine .v rfl (met rfl rfl rfl g10) (O.fld fld26_9 rfl rfl rfl) ?_
           refine .v rfl (met rfl rfl rfl g10) (O.ld (y := .i x1.Stage) ty3 rfl rfl rfl) ?_
           refine .v rfl (met rfl rfl rfl g10) (OpL.binI rfl rfl rfl rfl) ?_
           refine .v rfl rfl (O.pickT g10 rfl rfl rfl) ?_
           refine .m rfl rfl rfl rfl ?_
           refine .v rfl (met rfl rfl rfl g11) (O.fld fld26_8 rfl rfl rfl) ?_
           refine .v rfl (met rfl rfl rfl g11) (O.ld (y := .imm (.row 2 (List.map api_Reset.enc x0.Resets))) ty24 rfl rfl rfl) ?_
           refine .v rfl (met rfl rfl rfl g11) (O.fld fld26_8 rfl rfl rfl) ?_
           refine .v rfl (met rfl rfl rfl g11) (O.ld (y := .imm (.row 2 (List.map api_Reset.enc x1.Resets))) ty24 rfl rfl rfl) ?_
           refine .call (.b t1) [] 0 (slices_Equal_api_Reset.ok ((if_pos (by first | (simp only [g3, g4, g5, g6, g7, g8, g9, g10, g11, Bool.true_or, Bool.or_true, Bool.false_or, Bool.or_false, Bool.true_and, Bool.and_true, Bool.false_and, Bool.and_false, Bool.not_true, Bool.not_false, cond_true, cond_false]; done) | (repeat (first | rw [g3] | rw [g4] | rw [g5] | rw [g6] | rw [g7] | rw [g8] | rw [g9] | rw [g10] | rw [g11])) <;> simp only [Bool.true_or, Bool.or_true, Bool.false_or, Bool.or_false, Bool.true_and, Bool.and_true, Bool.false_and, Bool.and_false, Bool.not_true, Bool.not_false, cond_true, cond_false])).symm.trans b2)) rfl (met rfl rfl rfl g11) rfl ca40 rfl rfl (cC (.imm _) (cC (.imm _) .nil)) rfl rfl rfl rfl rfl ?_
           refine .v rfl rfl (O.pickT g11 rfl rfl rfl) ?_
           refine .a rfl rfl rfl rfl ?_
           refine .nil ?_
           exact toN (Gives.mkR [] (.c rfl (sbb (by first | (simp only [g3, g4, g5, g6, g7, g8, g9, g10, g11, Bool.true_or, Bool.or_true, Bool.false_or, Bool.or_false, Bool.true_and, Bool.and_true, Bool.false_and, Bool.and_false, Bool.not_true, Bool.not_false, cond_true, cond_false]; done) | (repeat (first | rw [g3] | rw [g4] | rw [g5] | rw [g6] | rw [g7] | rw [g8] | rw [g9] | rw [g10] | rw [g11])) <;> simp only [Bool.true_or, Bool.or_true, Bool.false_or, Bool.or_false, Bool.true_and, Bool.and_true, Bool.false_and, Bool.and_false, Bool.not_true, Bool.not_false, cond_true, cond_false])) rfl .n) .n rfl rfl rfl)
          ·refine W.pk ?_
           refine .v rfl rfl (O.fld fld26_0 rfl rfl rfl) ?_
           refine .v rfl rfl (O.ld (y := .i x0.ID) ty3 rfl rfl rfl) ?_
           refine .v rfl rfl (O.fld fld26_1 rfl rfl rfl) ?_
           refine .v rfl rfl (O.ld (y := .i x1.Twin) ty3 rfl rfl rfl) ?_
           refine .v rfl rfl (OpL.binI rfl rfl rfl rfl) ?_
           refine .m rfl rfl rfl rfl ?_
           refine .v rfl (met rfl rfl rfl g3) (O.fld fld26_0 rfl rfl rfl) ?_
           refine .v rfl (met rfl rfl rfl g3) (O.ld (y := .i x1.ID) ty3 rfl rfl rfl) ?_
           refine .v rfl (met rfl rfl rfl g3) (O.fld fld26_1 rfl rfl rfl) ?_
           refine .v rfl (met rfl rfl rfl g3) (O.ld (y := .i x0.Twin) ty3 rfl rfl rfl) ?_
           refine .v rfl (met rfl rfl rfl g3) (OpL.binI rfl rfl rfl rfl) ?_
           refine .v rfl rfl (O.pickT g3 rfl rfl rfl) ?_
           refine .m rfl rfl rfl rfl ?_
           refine .v rfl (met rfl rfl rfl g4) (O.fld fld26_3 rfl rfl rfl) ?_
           refine .v rfl (met rfl rfl rfl g4) (O.ld (y := .i x0.Side) ty3 rfl rfl rfl) ?_
           refine .v rfl (met rfl rfl rfl g4) (O.fld fld26_3 rfl rfl rfl) ?_
           refine .v rfl (met rfl rfl rfl g4) (O.ld (y := .i x1.Side) ty3 rfl rfl rfl) ?_
           refine .v rfl (met rfl rfl rfl g4) (OpL.binI rfl rfl rfl rfl) ?_
           refine .v rfl rfl (O.pickT g4 rfl rfl rfl) ?_
           refine .m rfl rfl rfl rfl ?_
           refine .v rfl (met rfl rfl rfl g5) (O.fld fld26_2 rfl rfl rfl) ?_
           refine .v rfl (met rfl rfl rfl g5) (O.ld (y := .i x0.Member) ty3 rfl rfl rfl) ?_
           refine .v rfl (met rfl rfl rfl g5) (O.fld fld26_2 rfl rfl rfl) ?_
           refine .v rfl (met rfl rfl rfl g5) (O.ld (y := .i x1.Member) ty3 rfl rfl rfl) ?_
           refine .v rfl (met rfl rfl rfl g5) (OpL.binI rfl rfl rfl rfl) ?_
           refine .v rfl rfl (O.pickT g5 rfl rfl rfl) ?_
           refine .m rfl rfl rfl rfl ?_
           refine .v rfl (met rfl rfl rfl g6) (O.fld fld26_4 rfl rfl rfl) ?_
           refine .v rfl (met rfl rfl rfl g6) (O.ld (y := .i x0.Basket) ty3 rfl rfl rfl) ?_
           refine .v rfl (met rfl rfl rfl g6) (O.fld fld26_4 rfl rfl rfl) ?_
           refine .v rfl (met rfl rfl rfl g6) (O.ld (y := .i x1.Basket) ty3 rfl rfl rfl) ?_
           refine .v rfl (met rfl rfl rfl g6) (OpL.binI rfl rfl rfl rfl) ?_
           refine .v rfl rfl (O.pickT g6 rfl rfl rfl) ?_
           refine .m rfl rfl rfl rfl ?_
           refine .v rfl (met rfl rfl rfl g7) (O.fld fld26_5 rfl rfl rfl) ?_
           refine .v rfl (met rfl rfl rfl g7) (O.ld (y := .i x0.Amount) ty3 rfl rfl rfl) ?_
           refine .v rfl (met rfl rfl rfl g7) (O.fld fld26_5 rfl rfl rfl) ?_
           refine .v rfl (met rfl rfl rfl g7) (O.ld (y := .i x1.Amount) ty3 rfl rfl rfl) ?_
           refine .v rfl (met rfl rfl rfl g7) (OpL.binI rfl rfl rfl rfl) ?_
           refine .v rfl rfl (O.pickT g7 rfl rfl rfl) ?_
           refine .m rfl rfl rfl rfl ?_
           refine .v rfl (met rfl rfl rfl g8) (O.fld fld26_6 rfl rfl rfl) ?_
           refine .v rfl (met rfl rfl rfl g8) (O.ld (y := .i x0.Start) ty3 rfl rfl rfl) ?_
           refine .v rfl (met rfl rfl rfl g8) (O.fld fld26_6 rfl rfl rfl) ?_
           refine .v rfl (met rfl rfl rfl g8) (O.ld (y := .i x1.Start) ty3 rfl rfl rfl) ?_
           refine .v rfl (met rfl rfl rfl g8) (OpL.binI rfl rfl rfl rfl) ?_
           refine .v rfl rfl (O.pickT g8 rfl rfl rfl) ?_
           refine .m rfl rfl rfl rfl ?_
           refine .v rfl (met rfl rfl rfl g9) (O.fld fld26_7 rfl rfl rfl) ?_
           refine .v rfl (met rfl rfl rfl g9) (O.ld (y := .i x0.End) ty3 rfl rfl rfl) ?_
           refine .v rfl (met rfl rfl rfl g9) (O.fld fld26_7 rfl rfl rfl) ?_
           refine .v rfl (met rfl rfl rfl g9) (O.ld (y := .i x1.End) ty3 rfl rfl rfl) ?_
           refine .v rfl (met rfl rfl rfl g9) (OpL.binI rfl rfl rfl rfl) ?_
           refine .v rfl rfl (O.pickT g9 rfl rfl rfl) ?_
           refine .m rfl rfl rfl rfl ?_
           refine .v rfl (met rfl rfl rfl g10) (O.fld fld26_9 rfl rfl rfl) ?_
           refine .v rfl (met rfl rfl rfl g10) (O.ld (y := .i x0.Stage) ty3 rfl rfl rfl) ?_
           refine .v rfl (met rfl rfl rfl g10) (O.fld fld26_9 rfl rfl rfl) ?_
           refine .v rfl (met rfl rfl rfl g10) (O.ld (y := .i x1.Stage) ty3 rfl rfl rfl) ?_
           refine .v rfl (met rfl rfl rfl g10) (OpL.binI rfl rfl rfl rfl) ?_
           refine .v rfl rfl (O.pickT g10 rfl rfl rfl) ?_
           refine .m rfl rfl rfl rfl ?_
           refine .x rfl (unmet rfl rfl rfl g11) ?_
           refine .x rfl (unmet rfl rfl rfl g11) ?_
           refine .x rfl (unmet rfl rfl rfl g11) ?_
           refine .x rfl (unmet rfl rfl rfl g11) ?_
           refine .x rfl (unmet rfl rfl rfl g11) ?_
           refine .v rfl rfl (O.pickF g11 rfl rfl rfl) ?_
           refine .a rfl rfl rfl rfl ?_
           refine .nil ?_
           exact toN (Gives.mkR [] (.c rfl (sbb (by first | (simp only [g3, g4, g5, g6, g7, g8, g9, g10, g11, Bool.true_or, Bool.or_true, Bool.false_or, Bool.or_false, Bool.true_and, Bool.and_true, Bool.false_and, Bool.and_false, Bool.not_true, Bool.not_false, cond_true, cond_false]; done) | (repeat (first | rw [g3] | rw [g4] | rw [g5] | rw [g6] | rw [g7] | rw [g8] | rw [g9] | rw [g10] | rw [g11])) <;> simp only [Bool.true_or, Bool.or_true, Bool.false_or, Bool.or_false, Bool.true_and, Bool.and_true, Bool.false_and, Bool.and_false, Bool.not_true, Bool.not_false, cond_true, cond_false])) rfl .n) .n rfl rfl rfl)
         ·refine W.pk ?_
          refine .v rfl rfl (O.fld fld26_0 rfl rfl rfl) ?_
          refine .v rfl rfl (O.ld (y := .i x0.ID) ty3 rfl rfl rfl) ?_
          refine .v rfl rfl (O.fld fld26_1 rfl rfl rfl) ?_
          refine .v rfl rfl (O.ld (y := .i x1.Twin) ty3 rfl rfl rfl) ?_
          refine .v rfl rfl (OpL.binI rfl rfl rfl rfl) ?_
          refine .m rfl rfl rfl rfl ?_
          refine .v rfl (met rfl rfl rfl g3) (O.fld fld26_0 rfl rfl rfl) ?_
          refine .v rfl (met rfl rfl rfl g3) (O.ld (y := .i x1.ID) ty3 rfl rfl rfl) ?_
          refine .v rfl (met rfl rfl rfl g3) (O.fld fld26_1 rfl rfl rfl) ?_
          refine .v rfl (met rfl rfl rfl g3) (O.ld (y := .i x0.Twin) ty3 rfl rfl rfl) ?_
          refine .v rfl (met rfl rfl rfl g3) (OpL.binI rfl rfl rfl rfl) ?_
          refine .v rfl rfl (O.pickT g3 rfl rfl rfl) ?_
          refine .m rfl rfl rfl rfl ?_
          refine .v rfl (met rfl rfl rfl g4) (O.fld fld26_3 rfl rfl rfl) ?_
          refine .v rfl (met rfl rfl rfl g4) (O.ld (y := .i x0.Side) ty3 rfl rfl rfl) ?_
          refine .v rfl (met rfl rfl rfl g4) (O.fld fld26_3 rfl rfl rfl) ?_
          refine .v rfl (met rfl rfl rfl g4) (O.ld (y := .i x1.Side) ty3 rfl rfl rfl) ?_
          refine .v rfl (met rfl rfl rfl g4) (OpL.binI rfl rfl rfl rfl) ?_
          refine .v rfl rfl (O.pickT g4 rfl rfl rfl) ?_
          refine .m rfl rfl rfl rfl ?_
          refine .v rfl (met rfl rfl rfl g5) (O.fld fld26_2 rfl rfl rfl) ?_
          refine .v rfl (met rfl rfl rfl g5) (O.ld (y := .i x0.Member) ty3 rfl rfl rfl) ?_
          refine .v rfl (met rfl rfl rfl g5) (O.fld fld26_2 rfl rfl rfl) ?_
          refine .v rfl (met rfl rfl rfl g5) (O.ld (y := .i x1.Member) ty3 rfl rfl rfl) ?_
          refine .v rfl (met rfl rfl rfl g5) (OpL.binI rfl rfl rfl rfl) ?_
          refine .v rfl rfl (O.pickT g5 rfl rfl rfl) ?_
          refine .m rfl rfl rfl rfl ?_
          refine .v rfl (met rfl rfl rfl g6) (O.fld fld26_4 rfl rfl rfl) ?_
          refine .v rfl (met rfl rfl rfl g6) (O.ld (y := .i x0.Basket) ty3 rfl rfl rfl) ?_
          refine .v rfl (met rfl rfl rfl g6) (O.fld fld26_4 rfl rfl rfl) ?_
          refine .v rfl (met rfl rfl rfl g6) (O.ld (y := .i x1.Basket) ty3 rfl rfl rfl) ?_
          refine .v rfl (met rfl rfl rfl g6) (OpL.binI rfl rfl rfl rfl) ?_
          refine .v rfl rfl (O.pickT g6 rfl rfl rfl) ?_
          refine .m rfl rfl rfl rfl ?_
          refine .v rfl (met rfl rfl rfl g7) (O.fld fld26_5 rfl rfl rfl) ?_
          refine .v rfl (met rfl rfl rfl g7) (O.ld (y := .i x0.Amount) ty3 rfl rfl rfl) ?_
          refine .v rfl (met rfl rfl rfl g7) (O.fld fld26_5 rfl rfl rfl) ?_
          refine .v rfl (met rfl rfl rfl g7) (O.ld (y := .i x1.Amount) ty3 rfl rfl rfl) ?_
          refine .v rfl (met rfl rfl rfl g7) (OpL.binI rfl rfl rfl rfl) ?_
          refine .v rfl rfl (O.pickT g7 rfl rfl rfl) ?_
          refine .m rfl rfl rfl rfl ?_
          refine .v rfl (met rfl rfl rfl g8) (O.fld fld26_6 rfl rfl rfl) ?_
          refine .v rfl (met rfl rfl rfl g8) (O.ld (y := .i x0.Start) ty3 rfl rfl rfl) ?_
          refine .v rfl (met rfl rfl rfl g8) (O.fld fld26_6 rfl rfl rfl) ?_
          refine .v rfl (met rfl rfl rfl g8) (O.ld (y := .i x1.Start) ty3 rfl rfl rfl) ?_
          refine .v rfl (met rfl rfl rfl g8) (OpL.binI rfl rfl rfl rfl) ?_
          refine .v rfl rfl (O.pickT g8 rfl rfl rfl) ?_
          refine .m rfl rfl rfl rfl ?_
          refine .v rfl (met rfl rfl rfl g9) (O.fld fld26_7 rfl rfl rfl) ?_
          refine .v rfl (met rfl rfl rfl g9) (O.ld (y := .i x0.End) ty3 rfl rfl rfl) ?_
          refine .v rfl (met rfl rfl rfl g9) (O.fld fld26_7 rfl rfl rfl) ?_
          refine .v rfl (met rfl rfl rfl g9) (O.ld (y := .i x1.End) ty3 rfl rfl rfl) ?_
          refine .v rfl (met rfl rfl rfl g9) (OpL.binI rfl rfl rfl rfl) ?_
          refine .v rfl rfl (O.pickT g9 rfl rfl rfl) ?_
          refine .m rfl rfl rfl rfl ?_
          refine .x rfl (unmet rfl rfl rfl g10) ?_
          refine .x rfl (unmet rfl rfl rfl g10) ?_
          refine .x rfl (unmet rfl rfl rfl g10) ?_
          refine .x rfl (unmet rfl rfl rfl g10) ?_
          refine .x rfl (unmet rfl rfl rfl g10) ?_
          refine .v rfl rfl (O.pickF g10 rfl rfl rfl) ?_
          refine .m rfl rfl rfl rfl ?_
          refine .x rfl (unmet rfl rfl rfl rfl) ?_
          refine .x rfl (unmet rfl rfl rfl rfl) ?_
          refine .x rfl (unmet rfl rfl rfl rfl) ?_
          refine .x rfl (unmet rfl rfl rfl rfl) ?_
          refine .x rfl (unmet rfl rfl rfl rfl) ?_
          refine .v rfl rfl (O.pickF rfl rfl rfl rfl) ?_
          refine .a rfl rfl rfl rfl ?_
          refine .nil ?_
          exact toN (Gives.mkR [] (.c rfl (sbb (by first | (simp only [g3, g4, g5, g6, g7, g8, g9, g10, Bool.true_or, Bool.or_true, Bool.false_or, Bool.or_false, Bool.true_and, Bool.and_true, Bool.false_and, Bool.and_false, Bool.not_true, Bool.not_false, cond_true, cond_false]; done) | (repeat (first | rw [g3] | rw [g4] | rw [g5] | rw [g6] | rw [g7] | rw [g8] | rw [g9] | rw [g10])) <;> simp only [Bool.true_or, Bool.or_true, Bool.false_or, Bool.or_false, Bool.true_and, Bool.and_true, Bool.false_and, Bool.and_false, Bool.not_true, Bool.not_false, cond_true, cond_false])) rfl .n) .n rfl rfl rfl)
        ·refine W.pk ?_
         refine .v rfl rfl (O.fld fld26_0 rfl rfl rfl) ?_
         refine .v rfl rfl (O.ld (y := .i x0.ID) ty3 rfl rfl rfl) ?_
         refine .v rfl rfl (O.fld fld26_1 rfl rfl rfl) ?_
         refine .v rfl rfl (O.ld (y := .i x1.Twin) ty3 rfl rfl rfl) ?_
         refine .v rfl rfl (OpL.binI rfl rfl rfl rfl) ?_
         refine .m rfl rfl rfl rfl ?_
         refine .v rfl (met rfl rfl rfl g3) (O.fld fld26_0 rfl rfl rfl) ?_
         refine .v rfl (met rfl rfl rfl g3) (O.ld (y := .i x1.ID) ty3 rfl rfl rfl) ?_
         refine .v rfl (met rfl rfl rfl g3) (O.fld fld26_1 rfl rfl rfl) ?_
         refine .v rfl (met rfl rfl rfl g3) (O.ld (y := .i x0.Twin) ty3 rfl rfl rfl) ?_
         refine .v rfl (met rfl rfl rfl g3) (OpL.binI rfl rfl rfl rfl) ?_
         refine .v rfl rfl (O.pickT g3 rfl rfl rfl) ?_
         refine .m rfl rfl rfl rfl ?_
         refine .v rfl (met rfl rfl rfl g4) (O.fld fld26_3 rfl rfl rfl) ?_
         refine .v rfl (met rfl rfl rfl g4) (O.ld (y := .i x0.Side) ty3 rfl rfl rfl) ?_
         refine .v rfl (met rfl rfl rfl g4) (O.fld fld26_3 rfl rfl rfl) ?_
         refine .v rfl (met rfl rfl rfl g4) (O.ld (y := .i x1.Side) ty3 rfl rfl rfl) ?_
         refine .v rfl (met rfl rfl rfl g4) (OpL.binI rfl rfl rfl rfl) ?_
         refine .v rfl rfl (O.pickT g4 rfl rfl rfl) ?_
         refine .m rfl rfl rfl rfl ?_
         refine .v rfl (met rfl rfl rfl g5) (O.fld fld26_2 rfl rfl rfl) ?_
         refine .v rfl (met rfl rfl rfl g5) (O.ld (y := .i x0.Member) ty3 rfl rfl rfl) ?_
         refine .v rfl (met rfl rfl rfl g5) (O.fld fld26_2 rfl rfl rfl) ?_
         refine .v rfl (met rfl rfl rfl g5) (O.ld (y := .i x1.Member) ty3 rfl rfl rfl) ?_
         refine .v rfl (met rfl rfl rfl g5) (OpL.binI rfl rfl rfl rfl) ?_
         refine .v rfl rfl (O.pickT g5 rfl rfl rfl) ?_
         refine .m rfl rfl rfl rfl ?_
         refine .v rfl (met rfl rfl rfl g6) (O.fld fld26_4 rfl rfl rfl) ?_
         refine .v rfl (met rfl rfl rfl g6) (O.ld (y := .i x0.Basket) ty3 rfl rfl rfl) ?_
         refine .v rfl (met rfl rfl rfl g6) (O.fld fld26_4 rfl rfl rfl) ?_
         refine .v rfl (met rfl rfl rfl g6) (O.ld (y := .i x1.Basket) ty3 rfl rfl rfl) ?_
         refine .v rfl (met rfl rfl rfl g6) (OpL.binI rfl rfl rfl rfl) ?_
         refine .v rfl rfl (O.pickT g6 rfl rfl rfl) ?_
         refine .m rfl rfl rfl rfl ?_
         refine .v rfl (met rfl rfl rfl g7) (O.fld fld26_5 rfl rfl rfl) ?_
         refine .v rfl (met rfl rfl rfl g7) (O.ld (y := .i x0.Amount) ty3 rfl rfl rfl) ?_
         refine .v rfl (met rfl rfl rfl g7) (O.fld fld26_5 rfl rfl rfl) ?_
         refine .v rfl (met rfl rfl rfl g7) (O.ld (y := .i x1.Amount) ty3 rfl rfl rfl) ?_
         refine .v rfl (met rfl rfl rfl g7) (OpL.binI rfl rfl rfl rfl) ?_
         refine .v rfl rfl (O.pickT g7 rfl rfl rfl) ?_
         refine .m rfl rfl rfl rfl ?_
         refine .v rfl (met rfl rfl rfl g8) (O.fld fld26_6 rfl rfl rfl) ?_
         refine .v rfl (met rfl rfl rfl g8) (O.ld (y := .i x0.Start) ty3 rfl rfl rfl) ?_
         refine .v rfl (met rfl rfl rfl g8) (O.fld fld26_6 rfl rfl rfl) ?_
         refine .v rfl (met rfl rfl rfl g8) (O.ld (y := .i x1.Start) ty3 rfl rfl rfl) ?_
         refine .v rfl (met rfl rfl rfl g8) (OpL.binI rfl rfl rfl rfl) ?_
         refine .v rfl rfl (O.pickT g8 rfl rfl rfl) ?_
         refine .m rfl rfl rfl rfl ?_
         refine .x rfl (unmet rfl rfl rfl g9) ?_
         refine .x rfl (unmet rfl rfl rfl g9) ?_
         refine .x rfl (unmet rfl rfl rfl g9) ?_
         refine .x rfl (unmet rfl rfl rfl g9) ?_
         refine .x rfl (unmet rfl rfl rfl g9) ?_
         refine .v rfl rfl (O.pickF g9 rfl rfl rfl) ?_
         refine .m rfl rfl rfl rfl ?_
         refine .x rfl (unmet rfl rfl rfl rfl) ?_
         refine .x rfl (unmet rfl rfl rfl rfl) ?_
         refine .x rfl (unmet rfl rfl rfl rfl) ?_
         refine .x rfl (unmet rfl rfl rfl rfl) ?_
         refine .x rfl (unmet rfl rfl rfl rfl) ?_
         refine .v rfl rfl (O.pickF rfl rfl rfl rfl) ?_
         refine .m rfl rfl rfl rfl ?_
         refine .x rfl (unmet rfl rfl rfl rfl) ?_
         refine .x rfl (unmet rfl rfl rfl rfl) ?_
         refine .x rfl (unmet rfl rfl rfl rfl) ?_
         refine .x rfl (unmet rfl rfl rfl rfl) ?_
         refine .x rfl (unmet rfl rfl rfl rfl) ?_
         refine .v rfl rfl (O.pickF rfl rfl rfl rfl) ?_
         refine .a rfl rfl rfl rfl ?_
         refine .nil ?_
         exact toN (Gives.mkR [] (.c rfl (sbb (by first | (simp only [g3, g4, g5, g6, g7, g8, g9, Bool.true_or, Bool.or_true, Bool.false_or, Bool.or_false, Bool.true_and, Bool.and_true, Bool.false_and, Bool.and_false, Bool.not_true, Bool.not_false, cond_true, cond_false]; done) | (repeat (first | rw [g3] | rw [g4] | rw [g5] | rw [g6] | rw [g7] | rw [g8] | rw [g9])) <;> simp only [Bool.true_or, Bool.or_true, Bool.false_or, Bool.or_false, Bool.true_and, Bool.and_true, Bool.false_and, Bool.and_false, Bool.not_true, Bool.not_false, cond_true, cond_false])) rfl .n) .n rfl rfl rfl)
       ·refine W.pk ?_
        refine .v rfl rfl (O.fld fld26_0 rfl rfl rfl) ?_
        refine .v rfl rfl (O.ld (y := .i x0.ID) ty3 rfl rfl rfl) ?_
        refine .v rfl rfl (O.fld fld26_1 rfl rfl rfl) ?_
        refine .v rfl rfl (O.ld (y := .i x1.Twin) ty3 rfl rfl rfl) ?_
        refine .v rfl rfl (OpL.binI rfl rfl rfl rfl) ?_
        refine .m rfl rfl rfl rfl ?_
        refine .v rfl (met rfl rfl rfl g3) (O.fld fld26_0 rfl rfl rfl) ?_
        refine .v rfl (met rfl rfl rfl g3) (O.ld (y := .i x1.ID) ty3 rfl rfl rfl) ?_
        refine .v rfl (met rfl rfl rfl g3) (O.fld fld26_1 rfl rfl rfl) ?_
        refine .v rfl (met rfl rfl rfl g3) (O.ld (y := .i x0.Twin) ty3 rfl rfl rfl) ?_
        refine .v rfl (met rfl rfl rfl g3) (OpL.binI rfl rfl rfl rfl) ?_
        refine .v rfl rfl (O.pickT g3 rfl rfl rfl) ?_
        refine .m rfl rfl rfl rfl ?_
        refine .v rfl (met rfl rfl rfl g4) (O.fld fld26_3 rfl rfl rfl) ?_
        refine .v rfl (met rfl rfl rfl g4) (O.ld (y := .i x0.Side) ty3 rfl rfl rfl) ?_
        refine .v rfl (met rfl rfl rfl g4) (O.fld fld26_3 rfl rfl rfl) ?_
        refine .v rfl (met rfl rfl rfl g4) (O.ld (y := .i x1.Side) ty3 rfl rfl rfl) ?_
        refine .v rfl (met rfl rfl rfl g4) (OpL.binI rfl rfl rfl rfl) ?_
        refine .v rfl rfl (O.pickT g4 rfl rfl rfl) ?_
        refine .m rfl rfl rfl rfl ?_
        refine .v rfl (met rfl rfl rfl g5) (O.fld fld26_2 rfl rfl rfl) ?_
        refine .v rfl (met rfl rfl rfl g5) (O.ld (y := .i x0.Member) ty3 rfl rfl rfl) ?_
        refine .v rfl (met rfl rfl rfl g5) (O.fld fld26_2 rfl rfl rfl) ?_
        refine .v rfl (met rfl rfl rfl g5) (O.ld (y := .i x1.Member) ty3 rfl rfl rfl) ?_
        refine .v rfl (met rfl rfl rfl g5) (OpL.binI rfl rfl rfl rfl) ?_
        refine .v rfl rfl (O.pickT g5 rfl rfl rfl) ?_
        refine .m rfl rfl rfl rfl ?_
        refine .v rfl (met rfl rfl rfl g6) (O.fld fld26_4 rfl rfl rfl) ?_
        refine .v rfl (met rfl rfl rfl g6) (O.ld (y := .i x0.Basket) ty3 rfl rfl rfl) ?_
        refine .v rfl (met rfl rfl rfl g6) (O.fld fld26_4 rfl rfl rfl) ?_
        refine .v rfl (met rfl rfl rfl g6) (O.ld (y := .i x1.Basket) ty3 rfl rfl rfl) ?_
        refine .v rfl (met rfl rfl rfl g6) (OpL.binI rfl rfl rfl rfl) ?_
        refine .v rfl rfl (O.pickT g6 rfl rfl rfl) ?_
        refine .m rfl rfl rfl rfl ?_
        refine .v rfl (met rfl rfl rfl g7) (O.fld fld26_5 rfl rfl rfl) ?_
        refine .v rfl (met rfl rfl rfl g7) (O.ld (y := .i x0.Amount) ty3 rfl rfl rfl) ?_
        refine .v rfl (met rfl rfl rfl g7) (O.fld fld26_5 rfl rfl rfl) ?_
        refine .v rfl (met rfl rfl rfl g7) (O.ld (y := .i x1.Amount) ty3 rfl rfl rfl) ?_
        refine .v rfl (met rfl rfl rfl g7) (OpL.binI rfl rfl rfl rfl) ?_
        refine .v rfl rfl (O.pickT g7 rfl rfl rfl) ?_
        refine .m rfl rfl rfl rfl ?_
        refine .x rfl (unmet rfl rfl rfl g8) ?_
        refine .x rfl (unmet rfl rfl rfl g8) ?_
        refine .x rfl (unmet rfl rfl rfl g8) ?_
        refine .x rfl (unmet rfl rfl rfl g8) ?_
        refine .x rfl (unmet rfl rfl rfl g8) ?_
        refine .v rfl rfl (O.pickF g8 rfl rfl rfl) ?_
        refine .m rfl rfl rfl rfl ?_
        refine .x rfl (unmet rfl rfl rfl rfl) ?_
        refine .x rfl (unmet rfl rfl rfl rfl) ?_
        refine .x rfl (unmet rfl rfl rfl rfl) ?_
        refine .x rfl (unmet rfl rfl rfl rfl) ?_
        refine .x rfl (unmet rfl rfl rfl rfl) ?_
        refine .v rfl rfl (O.pickF rfl rfl rfl rfl) ?_
        refine .m rfl rfl rfl rfl ?_
        refine .x rfl (unmet rfl rfl rfl rfl) ?_
        refine .x rfl (unmet rfl rfl rfl rfl) ?_
        refine .x rfl (unmet rfl rfl rfl rfl) ?_
        refine .x rfl (unmet rfl rfl rfl rfl) ?_
        refine .x rfl (unmet rfl rfl rfl rfl) ?_
        refine .v rfl rfl (O.pickF rfl rfl rfl rfl) ?_
        refine .m rfl rfl rfl rfl ?_
        refine .x rfl (unmet rfl rfl rfl rfl) ?_
        refine .x rfl (unmet rfl rfl rfl rfl) ?_
        refine .x rfl (unmet rfl rfl rfl rfl) ?_
        refine .x rfl (unmet rfl rfl rfl rfl) ?_
        refine .x rfl (unmet rfl rfl rfl rfl) ?_
        refine .v rfl rfl (O.pickF rfl rfl rfl rfl) ?_
        refine .a rfl rfl rfl rfl ?_
        refine .nil ?_
        exact toN (Gives.mkR [] (.c rfl (sbb (by first | (simp only [g3, g4, g5, g6, g7, g8, Bool.true_or, Bool.or_true, Bool.false_or, Bool.or_false, Bool.true_and, Bool.and_true, Bool.false_and, Bool.and_false, Bool.not_true, Bool.not_false, cond_true, cond_false]; done) | (repeat (first | rw [g3] | rw [g4] | rw [g5] | rw [g6] | rw [g7] | rw [g8])) <;> simp only [Bool.true_or, Bool.or_true, Bool.false_or, Bool.or_false, Bool.true_and, Bool.and_true, Bool.false_and, Bool.and_false, Bool.not_true, Bool.not_false, cond_true, cond_false])) rfl .n) .n rfl rfl rfl)
      ·refine W.pk ?_
       refine .v rfl rfl (O.fld fld26_0 rfl rfl rfl) ?_
       refine .v rfl rfl (O.ld (y := .i x0.ID) ty3 rfl rfl rfl) ?_
       refine .v rfl rfl (O.fld fld26_1 rfl rfl rfl) ?_
       refine .v rfl rfl (O.ld (y := .i x1.Twin) ty3 rfl rfl rfl) ?_
       refine .v rfl rfl (OpL.binI rfl rfl rfl rfl) ?_
       refine .m rfl rfl rfl rfl ?_
       refine .v rfl (met rfl rfl rfl g3) (O.fld fld26_0 rfl rfl rfl) ?_
       refine .v rfl (met rfl rfl rfl g3) (O.ld (y := .i x1.ID) ty3 rfl rfl rfl) ?_
       refine .v rfl (met rfl rfl rfl g3) (O.fld fld26_1 rfl rfl rfl) ?_
       refine .v rfl (met rfl rfl rfl g3) (O.ld (y := .i x0.Twin) ty3 rfl rfl rfl) ?_
       refine .v rfl (met rfl rfl rfl g3) (OpL.binI rfl rfl rfl rfl) ?_
       refine .v rfl rfl (O.pickT g3 rfl rfl rfl) ?_
       refine .m rfl rfl rfl rfl ?_
       refine .v rfl (met rfl rfl rfl g4) (O.fld fld26_3 rfl rfl rfl) ?_
       refine .v rfl (met rfl rfl rfl g4) (O.ld (y := .i x0.Side) ty3 rfl rfl rfl) ?_
       refine .v rfl (met rfl rfl rfl g4) (O.fld fld26_3 rfl rfl rfl) ?_
       refine .v rfl (met rfl rfl rfl g4) (O.ld (y := .i x1.Side) ty3 rfl rfl rfl) ?_
       refine .v rfl (met rfl rfl rfl g4) (OpL.binI rfl rfl rfl rfl) ?_
       refine .v rfl rfl (O.pickT g4 rfl rfl rfl) ?_
       refine .m rfl rfl rfl rfl ?_
       refine .v rfl (met rfl rfl rfl g5) (O.fld fld26_2 rfl rfl rfl) ?_
       refine .v rfl (met rfl rfl rfl g5) (O.ld (y := .i x0.Member) ty3 rfl rfl rfl) ?_
       refine .v rfl (met rfl rfl rfl g5) (O.fld fld26_2 rfl rfl rfl) ?_
       refine .v rfl (met rfl rfl rfl g5) (O.ld (y := .i x1.Member) ty3 rfl rfl rfl) ?_
       refine .v rfl (met rfl rfl rfl g5) (OpL.binI rfl rfl rfl rfl) ?_
       refine .v rfl rfl (O.pickT g5 rfl rfl rfl) ?_
       refine .m rfl rfl rfl rfl ?_
       refine .v rfl (met rfl rfl rfl g6) (O.fld fld26_4 rfl rfl rfl) ?_
       refine .v rfl (met rfl rfl rfl g6) (O.ld (y := .i x0.Basket) ty3 rfl rfl rfl) ?_
       refine .v rfl (met rfl rfl rfl g6) (O.fld fld26_4 rfl rfl rfl) ?_
       refine .v rfl (met rfl rfl rfl g6) (O.ld (y := .i x1.Basket) ty3 rfl rfl rfl) ?_
       refine .v rfl (met rfl rfl rfl g6) (OpL.binI rfl rfl rfl rfl) ?_
       refine .v rfl rfl (O.pickT g6 rfl rfl rfl) ?_
       refine .m rfl rfl rfl rfl ?_
       refine .x rfl (unmet rfl rfl rfl g7) ?_
       refine .x rfl (unmet rfl rfl rfl g7) ?_
       refine .x rfl (unmet rfl rfl rfl g7) ?_
       refine .x rfl (unmet rfl rfl rfl g7) ?_
       refine .x rfl (unmet rfl rfl rfl g7) ?_
       refine .v rfl rfl (O.pickF g7 rfl rfl rfl) ?_
       refine .m rfl rfl rfl rfl ?_
       refine .x rfl (unmet rfl rfl rfl rfl) ?_
       refine .x rfl (unmet rfl rfl rfl rfl) ?_
       refine .x rfl (unmet rfl rfl rfl rfl) ?_
       refine .x rfl (unmet rfl rfl rfl rfl) ?_
       refine .x rfl (unmet rfl rfl rfl rfl) ?_
       refine .v rfl rfl (O.pickF rfl rfl rfl rfl) ?_
       refine .m rfl rfl rfl rfl ?_
       refine .x rfl (unmet rfl rfl rfl rfl) ?_
       refine .x rfl (unmet rfl rfl rfl rfl) ?_
       refine .x rfl (unmet rfl rfl rfl rfl) ?_
       refine .x rfl (unmet rfl rfl rfl rfl) ?_
       refine .x rfl (unmet rfl rfl rfl rfl) ?_
       refine .v rfl rfl (O.pickF rfl rfl rfl rfl) ?_
       refine .m rfl rfl rfl rfl ?_
       refine .x rfl (unmet rfl rfl rfl rfl) ?_
       refine .x rfl (unmet rfl rfl rfl rfl) ?_
       refine .x rfl (unmet rfl rfl rfl rfl) ?_
       refine .x rfl (unmet rfl rfl rfl rfl) ?_
       refine .x rfl (unmet rfl rfl rfl rfl) ?_
       refine .v rfl rfl (O.pickF rfl rfl rfl rfl) ?_
       refine .m rfl rfl rfl rfl ?_
       refine .x rfl (unmet rfl rfl rfl rfl) ?_
       refine .x rfl (unmet rfl rfl rfl rfl) ?_
       refine .x rfl (unmet rfl rfl rfl rfl) ?_
       refine .x rfl (unmet rfl rfl rfl rfl) ?_
       refine .x rfl (unmet rfl rfl rfl rfl) ?_
       refine .v rfl rfl (O.pickF rfl rfl rfl rfl) ?_
       refine .a rfl rfl rfl rfl ?_
       refine .nil ?_
       exact toN (Gives.mkR [] (.c rfl (sbb (by first | (simp only [g3, g4, g5, g6, g7, Bool.true_or, Bool.or_true, Bool.false_or, Bool.or_false, Bool.true_and, Bool.and_true, Bool.false_and, Bool.and_false, Bool.not_true, Bool.not_false, cond_true, cond_false]; done) | (repeat (first | rw [g3] | rw [g4] | rw [g5] | rw [g6] | rw [g7])) <;> simp only [Bool.true_or, Bool.or_true, Bool.false_or, Bool.or_false, Bool.true_and, Bool.and_true, Bool.false_and, Bool.and_false, Bool.not_true, Bool.not_false, cond_true, cond_false])) rfl .n) .n rfl rfl rfl)
     ·refine W.pk ?_
      refine .v rfl rfl (O.fld fld26_0 rfl rfl rfl) ?_
      refine .v rfl rfl (O.ld (y := .i x0.ID) ty3 rfl rfl rfl) ?_
      refine .v rfl rfl (O.fld fld26_1 rfl rfl rfl) ?_
      refine .v rfl rfl (O.ld (y := .i x1.Twin) ty3 rfl rfl rfl) ?_
      refine .v rfl rfl (OpL.binI rfl rfl rfl rfl) ?_
      refine .m rfl rfl rfl rfl ?_
      refine .v rfl (met rfl rfl rfl g3) (O.fld fld26_0 rfl rfl rfl) ?_
      refine .v rfl (met rfl rfl rfl g3) (O.ld (y := .i x1.ID) ty3 rfl rfl rfl) ?_
      refine .v rfl (met rfl rfl rfl g3) (O.fld fld26_1 rfl rfl rfl) ?_
      refine .v rfl (met rfl rfl rfl g3) (O.ld (y := .i x0.Twin) ty3 rfl rfl rfl) ?_
      refine .v rfl (met rfl rfl rfl g3) (OpL.binI rfl rfl rfl rfl) ?_
      refine .v rfl rfl (O.pickT g3 rfl rfl rfl) ?_
      refine .m rfl rfl rfl rfl ?_
      refine .v rfl (met rfl rfl rfl g4) (O.fld fld26_3 rfl rfl rfl) ?_
      refine .v rfl (met rfl rfl rfl g4) (O.ld (y := .i x0.Side) ty3 rfl rfl rfl) ?_
      refine .v rfl (met rfl rfl rfl g4) (O.fld fld26_3 rfl rfl rfl) ?_
      refine .v rfl (met rfl rfl rfl g4) (O.ld (y := .i x1.Side) ty3 rfl rfl rfl) ?_
      refine .v rfl (met rfl rfl rfl g4) (OpL.binI rfl rfl rfl rfl) ?_
      refine .v rfl rfl (O.pickT g4 rfl rfl rfl) ?_
      refine .m rfl rfl rfl rfl ?_
      refine .v rfl (met rfl rfl rfl g5) (O.fld fld26_2 rfl rfl rfl) ?_
      refine .v rfl (met rfl rfl rfl g5) (O.ld (y := .i x0.Member) ty3 rfl rfl rfl) ?_
      refine .v rfl (met rfl rfl rfl g5) (O.fld fld26_2 rfl rfl rfl) ?_
      refine .v rfl (met rfl rfl rfl g5) (O.ld (y := .i x1.Member) ty3 rfl rfl rfl) ?_
      refine .v rfl (met rfl rfl rfl g5) (OpL.binI rfl rfl rfl rfl) ?_
      refine .v rfl rfl (O.pickT g5 rfl rfl rfl) ?_
      refine .m rfl rfl rfl rfl ?_
      refine .x rfl (unmet rfl rfl rfl g6) ?_
      refine .x rfl (unmet rfl rfl rfl g6) ?_
      refine .x rfl (unmet rfl rfl rfl g6) ?_
      refine .x rfl (unmet rfl rfl rfl g6) ?_
      refine .x rfl (unmet rfl rfl rfl g6) ?_
      refine .v rfl rfl (O.pickF g6 rfl rfl rfl) ?_
      refine .m rfl rfl rfl rfl ?_
      refine .x rfl (unmet rfl rfl rfl rfl) ?_
      refine .x rfl (unmet rfl rfl rfl rfl) ?_
      refine .x rfl (unmet rfl rfl rfl rfl) ?_
      refine .x rfl (unmet rfl rfl rfl rfl) ?_
      refine .x rfl (unmet rfl rfl rfl rfl) ?_
      refine .v rfl rfl (O.pickF rfl rfl rfl rfl) ?_
      refine .m rfl rfl rfl rfl ?_
      refine .x rfl (unmet rfl rfl rfl rfl) ?_
      refine .x rfl (unmet rfl rfl rfl rfl) ?_
      refine .x rfl (unmet rfl rfl rfl rfl) ?_
      refine .x rfl (unmet rfl rfl rfl rfl) ?_
      refine .x rfl (unmet rfl rfl rfl rfl) ?_
      refine .v rfl rfl (O.pickF rfl rfl rfl rfl) ?_
      refine .m rfl rfl rfl rfl ?_
      refine .x rfl (unmet rfl rfl rfl rfl) ?_
      refine .x rfl (unmet rfl rfl rfl rfl) ?_
      refine .x rfl (unmet rfl rfl rfl rfl) ?_
      refine .x rfl (unmet rfl rfl rfl rfl) ?_
      refine .x rfl (unmet rfl rfl rfl rfl) ?_
      refine .v rfl rfl (O.pickF rfl rfl rfl rfl) ?_
      refine .m rfl rfl rfl rfl ?_
      refine .x rfl (unmet rfl rfl rfl rfl) ?_
      refine .x rfl (unmet rfl rfl rfl rfl) ?_
      refine .x rfl (unmet rfl rfl rfl rfl) ?_
      refine .x rfl (unmet rfl rfl rfl rfl) ?_
      refine .x rfl (unmet rfl rfl rfl rfl) ?_
      refine .v rfl rfl (O.pickF rfl rfl rfl rfl) ?_
      refine .m rfl rfl rfl rfl ?_
      refine .x rfl (unmet rfl rfl rfl rfl) ?_
      refine .x rfl (unmet rfl rfl rfl rfl) ?_
      refine .x rfl (unmet rfl rfl rfl rfl) ?_
      refine .x rfl (unmet rfl rfl rfl rfl) ?_
      refine .x rfl (unmet rfl rfl rfl rfl) ?_
      refine .v rfl rfl (O.pickF rfl rfl rfl rfl) ?_
      refine .a rfl rfl rfl rfl ?_
      refine .nil ?_
      exact toN (Gives.mkR [] (.c rfl (sbb (by first | (simp only [g3, g4, g5, g6, Bool.true_or, Bool.or_true, Bool.false_or, Bool.or_false, Bool.true_and, Bool.and_true, Bool.false_and, Bool.and_false, Bool.not_true, Bool.not_false, cond_true, cond_false]; done) | (repeat (first | rw [g3] | rw [g4] | rw [g5] | rw [g6])) <;> simp only [Bool.true_or, Bool.or_true, Bool.false_or, Bool.or_false, Bool.true_and, Bool.and_true, Bool.false_and, Bool.and_false, Bool.not_true, Bool.not_false, cond_true, cond_false])) rfl .n) .n rfl rfl rfl)
    ·refine W.pk ?_
     refine .v rfl rfl (O.fld fld26_0 rfl rfl rfl) ?_
     refine .v rfl rfl (O.ld (y := .i x0.ID) ty3 rfl rfl rfl) ?_
     refine .v rfl rfl (O.fld fld26_1 rfl rfl rfl) ?_
     refine .v rfl rfl (O.ld (y := .i x1.Twin) ty3 rfl rfl rfl) ?_
     refine .v rfl rfl (OpL.binI rfl rfl rfl rfl) ?_
     refine .m rfl rfl rfl rfl ?_
     refine .v rfl (met rfl rfl rfl g3) (O.fld fld26_0 rfl rfl rfl) ?_
     refine .v rfl (met rfl rfl rfl g3) (O.ld (y := .i x1.ID) ty3 rfl rfl rfl) ?_
     refine .v rfl (met rfl rfl rfl g3) (O.fld fld26_1 rfl rfl rfl) ?_
     refine .v rfl (met rfl rfl rfl g3) (O.ld (y := .i x0.Twin) ty3 rfl rfl rfl) ?_
     refine .v rfl (met rfl rfl rfl g3) (OpL.binI rfl rfl rfl rfl) ?_
     refine .v rfl rfl (O.pickT g3 rfl rfl rfl) ?_
     refine .m rfl rfl rfl rfl ?_
     refine .v rfl (met rfl rfl rfl g4) (O.fld fld26_3 rfl rfl rfl) ?_
     refine .v rfl (met rfl rfl rfl g4) (O.ld (y := .i x0.Side) ty3 rfl rfl rfl) ?_
     refine .v rfl (met rfl rfl rfl g4) (O.fld fld26_3 rfl rfl rfl) ?_
     refine .v rfl (met rfl rfl rfl g4) (O.ld (y := .i x1.Side) ty3 rfl rfl rfl) ?_
     refine .v rfl (met rfl rfl rfl g4) (OpL.binI rfl rfl rfl rfl) ?_
     refine .v rfl rfl (O.pickT g4 rfl rfl rfl) ?_
     refine .m rfl rfl rfl rfl ?_
     refine .x rfl (unmet rfl rfl rfl g5) ?_
     refine .x rfl (unmet rfl rfl rfl g5) ?_
     refine .x rfl (unmet rfl rfl rfl g5) ?_
     refine .x rfl (unmet rfl rfl rfl g5) ?_
     refine .x rfl (unmet rfl rfl rfl g5) ?_
     refine .v rfl rfl (O.pickF g5 rfl rfl rfl) ?_
     refine .m rfl rfl rfl rfl ?_
     refine .x rfl (unmet rfl rfl rfl rfl) ?_
     refine .x rfl (unmet rfl rfl rfl rfl) ?_
     refine .x rfl (unmet rfl rfl rfl rfl) ?_
     refine .x rfl (unmet rfl rfl rfl rfl) ?_
     refine .x rfl (unmet rfl rfl rfl rfl) ?_
     refine .v rfl rfl (O.pickF rfl rfl rfl rfl) ?_
     refine .m rfl rfl rfl rfl ?_
     refine .x rfl (unmet rfl rfl rfl rfl) ?_
     refine .x rfl (unmet rfl rfl rfl rfl) ?_
     refine .x rfl (unmet rfl rfl rfl rfl) ?_
     refine .x rfl (unmet rfl rfl rfl rfl) ?_
     refine .x rfl (unmet rfl rfl rfl rfl) ?_
     refine .v rfl rfl (O.pickF rfl rfl rfl rfl) ?_
     refine .m rfl rfl rfl rfl ?_
     refine .x rfl (unmet rfl rfl rfl rfl) ?_
     refine .x rfl (unmet rfl rfl rfl rfl) ?_
     refine .x rfl (unmet rfl rfl rfl rfl) ?_
     refine .x rfl (unmet rfl rfl rfl rfl) ?_
     refine .x rfl (unmet rfl rfl rfl rfl) ?_
     refine .v rfl rfl (O.pickF rfl rfl rfl rfl) ?_
     refine .m rfl rfl rfl rfl ?_
     refine .x rfl (unmet rfl rfl rfl rfl) ?_
     refine .x rfl (unmet rfl rfl rfl rfl) ?_
     refine .x rfl (unmet rfl rfl rfl rfl) ?_
     refine .x rfl (unmet rfl rfl rfl rfl) ?_
     refine .x rfl (unmet rfl rfl rfl rfl) ?_
     refine .v rfl rfl (O.pickF rfl rfl rfl rfl) ?_
     refine .m rfl rfl rfl rfl ?_
     refine .x rfl (unmet rfl rfl rfl rfl) ?_
     refine .x rfl (unmet rfl rfl rfl rfl) ?_
     refine .x rfl (unmet rfl rfl rfl rfl) ?_
     refine .x rfl (unmet rfl rfl rfl rfl) ?_
     refine .x rfl (unmet rfl rfl rfl rfl) ?_
     refine .v rfl rfl (O.pickF rfl rfl rfl rfl) ?_
     refine .m rfl rfl rfl rfl ?_
     refine .x rfl (unmet rfl rfl rfl rfl) ?_
     refine .x rfl (unmet rfl rfl rfl rfl) ?_
     refine .x rfl (unmet rfl rfl rfl rfl) ?_
     refine .x rfl (unmet rfl rfl rfl rfl) ?_
     refine .x rfl (unmet rfl rfl rfl rfl) ?_
     refine .v rfl rfl (O.pickF rfl rfl rfl rfl) ?_
     refine .a rfl rfl rfl rfl ?_
     refine .nil ?_
     exact toN (Gives.mkR [] (.c rfl (sbb (by first | (simp only [g3, g4, g5, Bool.true_or, Bool.or_true, Bool.false_or, Bool.or_false, Bool.true_and, Bool.and_true, Bool.false_and, Bool.and_false, Bool.not_true, Bool.not_false, cond_true, cond_false]; done) | (repeat (first | rw [g3] | rw [g4] | rw [g5])) <;> simp only [Bool.true_or, Bool.or_true, Bool.false_or, Bool.or_false, Bool.true_and, Bool.and_true, Bool.false_and, Bool.and_false, Bool.not_true, Bool.not_false, cond_true, cond_false])) rfl .n) .n rfl rfl rfl)
   ·refine W.pk ?_
    refine .v rfl rfl (O.fld fld26_0 rfl rfl rfl) ?_
    refine .v rfl rfl (O.ld (y := .i x0.ID) ty3 rfl rfl rfl) ?_
    refine .v rfl rfl (O.fld fld26_1 rfl rfl rfl) ?_
    refine .v rfl rfl (O.ld (y := .i x1.Twin) ty3 rfl rfl rfl) ?_
    refine .v rfl rfl (OpL.binI rfl rfl rfl rfl) ?_
    refine .m rfl rfl rfl rfl ?_
    refine .v rfl (met rfl rfl rfl g3) (O.fld fld26_0 rfl rfl rfl) ?_
    refine .v rfl (met rfl rfl rfl g3) (O.ld (y := .i x1.ID) ty3 rfl rfl rfl) ?_
    refine .v rfl (met rfl rfl rfl g3) (O.fld fld26_1 rfl rfl rfl) ?_
    refine .v rfl (met rfl rfl rfl g3) (O.ld (y := .i x0.Twin) ty3 rfl rfl rfl) ?_
    refine .v rfl (met rfl rfl rfl g3) (OpL.binI rfl rfl rfl rfl) ?_
    refine .v rfl rfl (O.pickT g3 rfl rfl rfl) ?_
    refine .m rfl rfl rfl rfl ?_
    refine .x rfl (unmet rfl rfl rfl g4) ?_
    refine .x rfl (unmet rfl rfl rfl g4) ?_
    refine .x rfl (unmet rfl rfl rfl g4) ?_
    refine .x rfl (unmet rfl rfl rfl g4) ?_
    refine .x rfl (unmet rfl rfl rfl g4) ?_
    refine .v rfl rfl (O.pickF g4 rfl rfl rfl) ?_
    refine .m rfl rfl rfl rfl ?_
    refine .x rfl (unmet rfl rfl rfl rfl) ?_
    refine .x rfl (unmet rfl rfl rfl rfl) ?_
    refine .x rfl (unmet rfl rfl rfl rfl) ?_
    refine .x rfl (unmet rfl rfl rfl rfl) ?_
    refine .x rfl (unmet rfl rfl rfl rfl) ?_
    refine .v rfl rfl (O.pickF rfl rfl rfl rfl) ?_
    refine .m rfl rfl rfl rfl ?_
    refine .x rfl (unmet rfl rfl rfl rfl) ?_
    refine .x rfl (unmet rfl rfl rfl rfl) ?_
    refine .x rfl (unmet rfl rfl rfl rfl) ?_
    refine .x rfl (unmet rfl rfl rfl rfl) ?_
    refine .x rfl (unmet rfl rfl rfl rfl) ?_
    refine .v rfl rfl (O.pickF rfl rfl rfl rfl) ?_
    refine .m rfl rfl rfl rfl ?_
    refine .x rfl (unmet rfl rfl rfl rfl) ?_
    refine .x rfl (unmet rfl rfl rfl rfl) ?_
    refine .x rfl (unmet rfl rfl rfl rfl) ?_
    refine .x rfl (unmet rfl rfl rfl rfl) ?_
    refine .x rfl (unmet rfl rfl rfl rfl) ?_
    refine .v rfl rfl (O.pickF rfl rfl rfl rfl) ?_
    refine .m rfl rfl rfl rfl ?_
    refine .x rfl (unmet rfl rfl rfl rfl) ?_
    refine .x rfl (unmet rfl rfl rfl rfl) ?_
    refine .x rfl (unmet rfl rfl rfl rfl) ?_
    refine .x rfl (unmet rfl rfl rfl rfl) ?_
    refine .x rfl (unmet rfl rfl rfl rfl) ?_
    refine .v rfl rfl (O.pickF rfl rfl rfl rfl) ?_
    refine .m rfl rfl rfl rfl ?_
    refine .x rfl (unmet rfl rfl rfl rfl) ?_
    refine .x rfl (unmet rfl rfl rfl rfl) ?_
    refine .x rfl (unmet rfl rfl rfl rfl) ?_
    refine .x rfl (unmet rfl rfl rfl rfl) ?_
    refine .x rfl (unmet rfl rfl rfl rfl) ?_
    refine .v rfl rfl (O.pickF rfl rfl rfl rfl) ?_
    refine .m rfl rfl rfl rfl ?_
    refine .x rfl (unmet rfl rfl rfl rfl) ?_
    refine .x rfl (unmet rfl rfl rfl rfl) ?_
    refine .x rfl (unmet rfl rfl rfl rfl) ?_
    refine .x rfl (unmet rfl rfl rfl rfl) ?_
    refine .x rfl (unmet rfl rfl rfl rfl) ?_
    refine .v rfl rfl (O.pickF rfl rfl rfl rfl) ?_
    refine .m rfl rfl rfl rfl ?_
    refine .x rfl (unmet rfl rfl rfl rfl) ?_
    refine .x rfl (unmet rfl rfl rfl rfl) ?_
    refine .x rfl (unmet rfl rfl rfl rfl) ?_
    refine .x rfl (unmet rfl rfl rfl rfl) ?_
    refine .x rfl (unmet rfl rfl rfl rfl) ?_
    refine .v rfl rfl (O.pickF rfl rfl rfl rfl) ?_
    refine .a rfl rfl rfl rfl ?_
    refine .nil ?_
    exact toN (Gives.mkR [] (.c rfl (sbb (by first | (simp only [g3, g4, Bool.true_or, Bool.or_true, Bool.false_or, Bool.or_false, Bool.true_and, Bool.and_true, Bool.false_and, Bool.and_false, Bool.not_true, Bool.not_false, cond_true, cond_false]; done) | (repeat (first | rw [g3] | rw [g4])) <;> simp only [Bool.true_or, Bool.or_true, Bool.false_or, Bool.or_false, Bool.true_and, Bool.and_true, Bool.false_and, Bool.and_false, Bool.not_true, Bool.not_false, cond_true, cond_false])) rfl .n) .n rfl rfl rfl)
  ·refine W.pk ?_
   refine .v rfl rfl (O.fld fld26_0 rfl rfl rfl) ?_
   refine .v rfl rfl (O.ld (y := .i x0.ID) ty3 rfl rfl rfl) ?_
   refine .v rfl rfl (O.fld fld26_1 rfl rfl rfl) ?_
   refine .v rfl rfl (O.ld (y := .i x1.Twin) ty3 rfl rfl rfl) ?_
   refine .v rfl rfl (OpL.binI rfl rfl rfl rfl) ?_
   refine .m rfl rfl rfl rfl ?_
   refine .x rfl (unmet rfl rfl rfl g3) ?_
   refine .x rfl (unmet rfl rfl rfl g3) ?_
   refine .x rfl (unmet rfl rfl rfl g3) ?_
   refine .x rfl (unmet rfl rfl rfl g3) ?_
   refine .x rfl (unmet rfl rfl rfl g3) ?_
   refine .v rfl rfl (O.pickF g3 rfl rfl rfl) ?_
   refine .m rfl rfl rfl rfl ?_
   refine .x rfl (unmet rfl rfl rfl rfl) ?_
   refine .x rfl (unmet rfl rfl rfl rfl) ?_
   refine .x rfl (unmet rfl rfl rfl rfl) ?_
   refine .x rfl (unmet rfl rfl rfl rfl) ?_
   refine .x rfl (unmet rfl rfl rfl rfl) ?_
   refine .v rfl rfl (O.pickF rfl rfl rfl rfl) ?_
   refine .m rfl rfl rfl rfl ?_
   refine .x rfl (unmet rfl rfl rfl rfl) ?_
   refine .x rfl (unmet rfl rfl rfl rfl) ?_
   refine .x rfl (unmet rfl rfl rfl rfl) ?_
   refine .x rfl (unmet rfl rfl rfl rfl) ?_
   refine .x rfl (unmet rfl rfl rfl rfl) ?_
   refine .v rfl rfl (O.pickF rfl rfl rfl rfl) ?_
   refine .m rfl rfl rfl rfl ?_
   refine .x rfl (unmet rfl rfl rfl rfl) ?_
   refine .x rfl (unmet rfl rfl rfl rfl) ?_
   refine .x rfl (unmet rfl rfl rfl rfl) ?_
   refine .x rfl (unmet rfl rfl rfl rfl) ?_
   refine .x rfl (unmet rfl rfl rfl rfl) ?_
   refine .v rfl rfl (O.pickF rfl rfl rfl rfl) ?_
   refine .m rfl rfl rfl rfl ?_
   refine .x rfl (unmet rfl rfl rfl rfl) ?_
   refine .x rfl (unmet rfl rfl rfl rfl) ?_
   refine .x rfl (unmet rfl rfl rfl rfl) ?_
   refine .x rfl (unmet rfl rfl rfl rfl) ?_
   refine .x rfl (unmet rfl rfl rfl rfl) ?_
   refine .v rfl rfl (O.pickF rfl rfl rfl rfl) ?_
   refine .m rfl rfl rfl rfl ?_
   refine .x rfl (unmet rfl rfl rfl rfl) ?_
   refine .x rfl (unmet rfl rfl rfl rfl) ?_
   refine .x rfl (unmet rfl rfl rfl rfl) ?_
   refine .x rfl (unmet rfl rfl rfl rfl) ?_
   refine .x rfl (unmet rfl rfl rfl rfl) ?_
   refine .v rfl rfl (O.pickF rfl rfl rfl rfl) ?_
   refine .m rfl rfl rfl rfl ?_
   refine .x rfl (unmet rfl rfl rfl rfl) ?_
   refine .x rfl (unmet rfl rfl rfl rfl) ?_
   refine .x rfl (unmet rfl rfl rfl rfl) ?_
   refine .x rfl (unmet rfl rfl rfl rfl) ?_
   refine .x rfl (unmet rfl rfl rfl rfl) ?_
   refine .v rfl rfl (O.pickF rfl rfl rfl rfl) ?_
   refine .m rfl rfl rfl rfl ?_
   refine .x rfl (unmet rfl rfl rfl rfl) ?_
   refine .x rfl (unmet rfl rfl rfl rfl) ?_
   refine .x rfl (unmet rfl rfl rfl rfl) ?_
   refine .x rfl (unmet rfl rfl rfl rfl) ?_
   refine .x rfl (unmet rfl rfl rfl rfl) ?_
   refine .v rfl rfl (O.pickF rfl rfl rfl rfl) ?_
   refine .m rfl rfl rfl rfl ?_
   refine .x rfl (unmet rfl rfl rfl rfl) ?_
   refine .x rfl (unmet rfl rfl rfl rfl) ?_
   refine .x rfl (unmet rfl rfl rfl rfl) ?_
   refine .x rfl (unmet rfl rfl rfl rfl) ?_
   refine .x rfl (unmet rfl rfl rfl rfl) ?_
   refine .v rfl rfl (O.pickF rfl rfl rfl rfl) ?_
   refine .a rfl rfl rfl rfl ?_
   refine .nil ?_
   exact toN (Gives.mkR [] (.c rfl (sbb (by simp only [g3, Bool.true_or, Bool.or_true, Bool.false_or, Bool.or_false, Bool.true_and, Bool.and_true, Bool.false_and, Bool.and_false, Bool.not_true, Bool.not_false, cond_true, cond_false])) rfl .n) .n rfl rfl rfl)

noncomputable def cmp_isNaN_int.f (x0 : Int) : Option (Bool) :=
  some (x0 != x0)
set_option maxRecDepth 100000 in
set_option maxHeartbeats 4000000 in
theorem cmp_isNaN_int.ok {x0 : Int} {r : Bool} (h : cmp_isNaN_int.f x0 = some r) : Pm.Spec prog 57 [.imm (.val (.int .i64 x0))] (.imm (.val (.bool r))) [none] := by
 unfold cmp_isNaN_int.f at h
 refine Pm.Spec.of_body Try.func57 rfl (by kernel_rfl) (Nat.le_of_ble_eq_true rfl) (Nat.le_of_ble_eq_true rfl) ?_
 refine W.ghost (σ' := (mkSt [(0, some (.i x0))] [] 1000)) (Gives.entry (.c rfl .n) .n) ?_
 refine W.seq ?_
 refine W.pk ?_
 refine .a rfl rfl rfl rfl ?_
 refine .nil ?_
 refine W.seq ?_
 refine W.pk ?_
 refine .m rfl rfl rfl rfl ?_
 refine .m rfl rfl rfl rfl ?_
 refine .v rfl rfl (OpL.binI rfl rfl rfl rfl) ?_
 refine .a rfl rfl rfl rfl ?_
 refine .nil ?_
 refine W.ret ?_
 cases h
 exact leaves (.inr rfl) rfl (.imm _) (cN .nil) rfl rfl

noncomputable def cmp_Compare_int.f (x0 : Int) (x1 : Int) : Option (Int) :=
  (cmp_isNaN_int.f x0).bind fun t1 =>
  (cmp_isNaN_int.f x1).bind fun t3 =>
  if t1 = true then
    if t3 = true then
      some 0
    else
      some (-1)
  else
    if t3 = true then
      some 1
    else
      if (decide (x0 < x1)) = true then
        some (-1)
      else
        if (decide (x0 > x1)) = true then
          some 1
        else
          some 0
set_option maxRecDepth 100000 in
set_option maxHeartbeats 4000000 in
theorem cmp_Compare_int.ok {x0 : Int} {x1 : Int} {r : Int} (h : cmp_Compare_int.f x0 x1 = some r) : Pm.Spec prog 55 [.imm (.val (.int .i64 x0)), .imm (.val (.int .i64 x1))] (.imm (.val (.int .i64 r))) [none, none] := by
 unfold cmp_Compare_int.f at h
 refine Pm.Spec.of_body Try.func55 rfl (by kernel_rfl) (Nat.le_of_ble_eq_true rfl) (Nat.le_of_ble_eq_true rfl) ?_
 refine W.ghost (σ' := (mkSt [(0, some (.i x0)), (1, some (.i x1))] [] 1000)) (Gives.entry (.c rfl (.c rfl .n)) .n) ?_
 refine W.seq ?_
 refine W.pk ?_
 refine .a rfl rfl rfl rfl ?_
 refine .nil ?_
 refine W.seq ?_
 obtain ⟨t1, b2, h⟩ := bnd1 h
 refine W.pk ?_
 refine .m rfl rfl rfl rfl ?_
 refine .call (.b t1) [] 0 (cmp_isNaN_int.ok b2) rfl rfl rfl ca57 rfl rfl (cC (.imm _) .nil) rfl rfl rfl rfl rfl ?_
 refine .a rfl rfl rfl rfl ?_
 refine .nil ?_
 refine W.seq ?_
 obtain ⟨t3, b4, h⟩ := bnd1 h
 refine W.pk ?_
 refine .m rfl rfl rfl rfl ?_
 refine .call (.b t3) [] 0 (cmp_isNaN_int.ok b4) rfl rfl rfl ca57 rfl rfl (cC (.imm _) .nil) rfl rfl rfl rfl rfl ?_
 refine .a rfl rfl rfl rfl ?_
 refine .nil ?_
 refine W.seq ?_
 refine W.seq ?_
 refine W.pk ?_
 refine .m rfl rfl rfl rfl ?_
 refine .nil ?_
 refine W.cond rfl (fun q5 => ?_) (fun q5 => ?_)
 ·have h := ifT q5 h
  refine W.seq ?_
  refine W.seq ?_
  refine W.pk ?_
  refine .m rfl rfl rfl rfl ?_
  refine .nil ?_
  refine W.cond rfl (fun q6 => ?_) (fun q6 => ?_)
  ·have h := ifT q6 h
   refine W.seq ?_
   refine W.pk ?_
   refine .a rfl rfl rfl rfl ?_
   refine .nil ?_
   refine W.ret ?_
   cases h
   exact leaves (.inr rfl) rfl (.imm _) (cN (cN .nil)) rfl rfl
  ·have h := ifF q6 h
   refine W.skip ?_
   refine W.seq ?_
   refine W.pk ?_
   refine .a rfl rfl rfl rfl ?_
   refine .nil ?_
   refine W.ret ?_
   cases h
   exact leaves (.inr rfl) rfl (.imm _) (cN (cN .nil)) rfl rfl
 ·have h := ifF q5 h
  refine W.skip ?_
  refine W.seq ?_
  refine W.seq ?_
  refine W.pk ?_
  refine .m rfl rfl rfl rfl ?_
  refine .nil ?_
  refine W.cond rfl (fun q7 => ?_) (fun q7 => ?_)
  ·have h := ifT q7 h
   refine W.seq ?_
   refine W.pk ?_
   refine .a rfl rfl rfl rfl ?_
   refine .nil ?_
   refine W.ret ?_
   cases h
   exact leaves (.inr rfl) rfl (.imm _) (cN (cN .nil)) rfl rfl
  ·have h := ifF q7 h
   refine W.skip ?_
   refine W.seq ?_
   refine W.seq ?_
   refine W.pk ?_
   refine .m rfl rfl rfl rfl ?_
   refine .m rfl rfl rfl rfl ?_
   refine .v rfl rfl (OpL.binI rfl rfl rfl rfl) ?_
   refine .nil ?_
   refine W.cond rfl (fun q8 => ?_) (fun q8 => ?_)
   ·have h := ifT q8 h
    refine W.seq ?_
    refine W.pk ?_
    refine .a rfl rfl rfl rfl ?_
    refine .nil ?_
    refine W.ret ?_
    cases h
    exact leaves (.inr rfl) rfl (.imm _) (cN (cN .nil)) rfl rfl
   ·have h := ifF q8 h
    refine W.skip ?_
    refine W.seq ?_
    refine W.seq ?_
    refine W.pk ?_
    refine .m rfl rfl rfl rfl ?_
    refine .m rfl rfl rfl rfl ?_
    refine .v rfl rfl (OpL.binI rfl rfl rfl rfl) ?_
    refine .nil ?_
    refine W.cond rfl (fun q9 => ?_) (fun q9 => ?_)
    ·have h := ifT q9 h
     refine W.seq ?_
     refine W.pk ?_
     refine .a rfl rfl rfl rfl ?_
     refine .nil ?_
     refine W.ret ?_
     cases h
     exact leaves (.inr rfl) rfl (.imm _) (cN (cN .nil)) rfl rfl
    ·have h := ifF q9 h
     refine W.skip ?_
     refine W.seq ?_
     refine W.pk ?_
     refine .a rfl rfl rfl rfl ?_
     refine .nil ?_
     refine W.ret ?_
     cases h
     exact leaves (.inr rfl) rfl (.imm _) (cN (cN .nil)) rfl rfl

noncomputable def trade_Book_place_1_v2.f (x0 : api_Trade) (x1 : Int) : Option (Int) :=
  (cmp_Compare_int.f x0.ID x1).bind fun t1 =>
  some t1
set_option maxRecDepth 100000 in
set_option maxHeartbeats 4000000 in
theorem trade_Book_place_1_v2.ok {x0 : api_Trade} {x1 : Int} {r : Int} (h : trade_Book_place_1_v2.f x0 x1 = some r) : Pm.Spec prog 54 [.agg [.imm (.val (.int .i64 x0.ID)), .imm (.val (.int .i64 x0.Twin)), .imm (.val (.int .i64 x0.Member)), .imm (.val (.int .i64 x0.Side)), .imm (.val (.int .i64 x0.Basket)), .imm (.val (.int .i64 x0.Amount)), .imm (.val (.int .i64 x0.Start)), .imm (.val (.int .i64 x0.End)), .imm (.row 2 (List.map api_Reset.enc x0.Resets)), .imm (.val (.int .i64 x0.Stage)), .imm (.val (.bool x0.Short))], .imm (.val (.int .i64 x1))] (.imm (.val (.int .i64 r))) [none, none] := by
 unfold trade_Book_place_1_v2.f at h
 refine Pm.Spec.of_body Try.func54 rfl (by kernel_rfl) (Nat.le_of_ble_eq_true rfl) (Nat.le_of_ble_eq_true rfl) ?_
 refine W.ghost (σ' := (mkSt [(0, some (.agg (api_Trade.av x0))), (1, some (.i x1))] [] 1000)) (Gives.entry (.c rfl (.c rfl .n)) .n) ?_
 refine W.seq ?_
 refine W.pk ?_
 refine .t rfl rfl (O.box rfl rfl rfl rfl rfl) ?_
 refine .a rfl rfl rfl rfl ?_
 refine .nil ?_
 refine W.seq ?_
 obtain ⟨t1, b2, h⟩ := bnd1 h
 refine W.pk ?_
 refine .v rfl rfl (O.fld fld26_0 rfl rfl rfl) ?_
 refine .v rfl rfl (O.ld (y := .i x0.ID) ty3 rfl rfl rfl) ?_
 refine .m rfl rfl rfl rfl ?_
 refine .call (.i t1) [] 0 (cmp_Compare_int.ok b2) rfl rfl rfl ca55 rfl rfl (cC (.imm _) (cC (.imm _) .nil)) rfl rfl rfl rfl rfl ?_
 refine .a rfl rfl rfl rfl ?_
 refine .nil ?_
 refine W.ret ?_
 cases h
 exact leaves (.inr rfl) rfl (.imm _) (cN (cN .nil)) rfl rfl
end Go.Proofs.Ytidinbjehfodoaa
