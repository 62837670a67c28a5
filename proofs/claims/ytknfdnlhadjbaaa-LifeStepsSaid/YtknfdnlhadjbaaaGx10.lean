/- Shows what functions of the program come to, each as a plain function: written by a program of the author's for this claim. -/
import Derived.Test.YtknfdnlhadjbaaaGx9
namespace Go.Proofs.Ytknfdnlhadjbaaa
open Go Go.Pm
set_option linter.unusedVariables false
set_option linter.unusedSimpArgs false
noncomputable def life_Fail.f (x0 : api_Trade) : Option (api_Trade × Int) :=
  (life_Over.f x0).bind fun t1 =>
  if ((t1 || (decide (x0.Stage < 1))) || (decide (x0.Stage > 5))) = true then
    some (x0, 8)
  else
    some ((⟨x0.ID, x0.Twin, x0.Member, x0.Side, x0.Basket, x0.Amount, x0.Start, x0.End, x0.Resets, 5, x0.Short⟩ : api_Trade), 0)
set_option maxRecDepth 100000 in
set_option maxHeartbeats 4000000 in
theorem life_Fail.ok {x0 : api_Trade} {r : api_Trade × Int} (h : life_Fail.f x0 = some r) : Pm.Spec prog 32 [.agg [.imm (.val (.int .i64 x0.ID)), .imm (.val (.int .i64 x0.Twin)), .imm (.val (.int .i64 x0.Member)), .imm (.val (.int .i64 x0.Side)), .imm (.val (.int .i64 x0.Basket)), .imm (.val (.int .i64 x0.Amount)), .imm (.val (.int .i64 x0.Start)), .imm (.val (.int .i64 x0.End)), .imm (.row 2 (List.map api_Reset.enc x0.Resets)), .imm (.val (.int .i64 x0.Stage)), .imm (.val (.bool x0.Short))]] (.tup [.agg [.imm (.val (.int .i64 r.1.ID)), .imm (.val (.int .i64 r.1.Twin)), .imm (.val (.int .i64 r.1.Member)), .imm (.val (.int .i64 r.1.Side)), .imm (.val (.int .i64 r.1.Basket)), .imm (.val (.int .i64 r.1.Amount)), .imm (.val (.int .i64 r.1.Start)), .imm (.val (.int .i64 r.1.End)), .imm (.row 2 (List.map api_Reset.enc r.1.Resets)), .imm (.val (.int .i64 r.1.Stage)), .imm (.val (.bool r.1.Short))], .imm (.val (.int .i64 r.2))]) [none] := by
 unfold life_Fail.f at h
 refine Pm.Spec.of_body Try.func32 rfl (by kernel_rfl) (Nat.le_of_ble_eq_true rfl) (Nat.le_of_ble_eq_true rfl) ?_
 refine W.ghost (σ' := (mkSt [(0, some (.agg (api_Trade.av x0)))] [] 1000)) (Gives.entry (.c rfl .n) .n) ?_
 refine W.seq ?_
 refine W.pk ?_
 refine .t rfl rfl (O.box rfl rfl rfl rfl rfl) ?_
 refine .t rfl rfl (O.alloc z24 rfl) ?_
 refine .a rfl rfl rfl rfl ?_
 refine .nil ?_
 refine W.seq ?_
 refine W.seq ?_
 obtain ⟨t1, b2, h⟩ := bnd1 h
 refine W.fork (mkSt [(1, some (.ptr 1000 0)), (2, some (.ptr 1001 0)), (15, some (.b ((t1 || (decide (x0.Stage < 1))) || (decide (x0.Stage > 5)))))] [(1000, some (.box [.i x0.ID, .i x0.Twin, .i x0.Member, .i x0.Side, .i x0.Basket, .i x0.Amount, .i x0.Start, .i x0.End, .imm (.row 2 (List.map api_Reset.enc x0.Resets)), .i x0.Stage, .b x0.Short])), (1001, some (.box [.i 0, .i 0, .i 0, .i 0, .i 0, .i 0, .i 0, .i 0, .imm (.val (.slice none 0 0)), .i 0, .b false]))] 1002) ?_ ?_
 ·refine W.cond rfl (fun q5 => ?_) (fun q5 => ?_)
  ·have h := ifT q5 h
   refine W.seq ?_
   refine W.pk ?_
   refine .v rfl rfl (O.ldN ty24 rfl rfl rfl) ?_
   refine .s rfl rfl (O.st ty24 rfl rfl rfl rfl rfl rfl rfl rfl rfl rfl (all' := [.i x0.ID, .i x0.Twin, .i x0.Member, .i x0.Side, .i x0.Basket, .i x0.Amount, .i x0.Start, .i x0.End, .imm (.row 2 (List.map api_Reset.enc x0.Resets)), .i x0.Stage, .b x0.Short]) rfl) ?_
   refine .a rfl rfl rfl rfl ?_
   refine .nil ?_
   refine W.ret ?_
   cases h
   exact leaves (.inr rfl) rfl (.tup _ _ _ _ (cC (.agg _ _ _ _ (cC (.imm _) (cC (.imm _) (cC (.imm _) (cC (.imm _) (cC (.imm _) (cC (.imm _) (cC (.imm _) (cC (.imm _) (cC (.imm _) (cC (.imm _) (cC (.imm _) .nil)))))))))))) (cC (.imm _) .nil))) (cN .nil) rfl rfl
  ·have h := ifF q5 h
   refine W.skip ?_
   refine W.seq ?_
   refine W.pk ?_
   refine .v rfl rfl (O.fld fld24_9 rfl rfl rfl) ?_
   refine .s rfl rfl (O.st ty3 rfl rfl rfl rfl rfl rfl rfl rfl rfl rfl (all' := [.i x0.ID, .i x0.Twin, .i x0.Member, .i x0.Side, .i x0.Basket, .i x0.Amount, .i x0.Start, .i x0.End, .imm (.row 2 (List.map api_Reset.enc x0.Resets)), .i 5, .b x0.Short]) rfl) ?_
   refine .nil ?_
   refine W.seq ?_
   refine W.pk ?_
   refine .v rfl rfl (O.ldN ty24 rfl rfl rfl) ?_
   refine .s rfl rfl (O.st ty24 rfl rfl rfl rfl rfl rfl rfl rfl rfl rfl (all' := [.i x0.ID, .i x0.Twin, .i x0.Member, .i x0.Side, .i x0.Basket, .i x0.Amount, .i x0.Start, .i x0.End, .imm (.row 2 (List.map api_Reset.enc x0.Resets)), .i 5, .b x0.Short]) rfl) ?_
   refine .a rfl rfl rfl rfl ?_
   refine .nil ?_
   refine W.ret ?_
   cases h
   exact leaves (.inr rfl) rfl (.tup _ _ _ _ (cC (.agg _ _ _ _ (cC (.imm _) (cC (.imm _) (cC (.imm _) (cC (.imm _) (cC (.imm _) (cC (.imm _) (cC (.imm _) (cC (.imm _) (cC (.imm _) (cC (.imm _) (cC (.imm _) .nil)))))))))))) (cC (.imm _) .nil))) (cN .nil) rfl rfl
 ·clear h
  rcases tf t1 with g3 | g3
  ·refine W.pk ?_
   refine .v rfl rfl (O.ldN ty24 rfl rfl rfl) ?_
   refine .call (.b t1) [] 0 (life_Over.ok b2) rfl rfl rfl ca37 rfl rfl (cC (.agg _ _ _ _ (cC (.imm _) (cC (.imm _) (cC (.imm _) (cC (.imm _) (cC (.imm _) (cC (.imm _) (cC (.imm _) (cC (.imm _) (cC (.imm _) (cC (.imm _) (cC (.imm _) .nil)))))))))))) .nil) rfl rfl rfl rfl rfl ?_
   refine .m rfl rfl rfl rfl ?_
   refine .x rfl (unmet rfl rfl rfl g3) ?_
   refine .x rfl (unmet rfl rfl rfl g3) ?_
   refine .x rfl (unmet rfl rfl rfl g3) ?_
   refine .v rfl rfl (O.pickT g3 rfl rfl rfl) ?_
   refine .m rfl rfl rfl rfl ?_
   refine .x rfl (unmet rfl rfl rfl rfl) ?_
   refine .x rfl (unmet rfl rfl rfl rfl) ?_
   refine .x rfl (unmet rfl rfl rfl rfl) ?_
   refine .v rfl rfl (O.pickT rfl rfl rfl rfl) ?_
   refine .nil ?_
   exact toN (Gives.mkR [] (.r rfl rfl (.r rfl rfl (.c rfl (sbb (by simp only [g3, Bool.true_or, Bool.or_true, Bool.false_or, Bool.or_false, Bool.true_and, Bool.and_true, Bool.false_and, Bool.and_false, Bool.not_true, Bool.not_false, cond_true, cond_false])) rfl .n))) (.r rfl rfl rfl (.r rfl rfl rfl .n)) rfl rfl rfl)
  ·rcases tf (decide (x0.Stage < 1)) with g4 | g4
   ·refine W.pk ?_
    refine .v rfl rfl (O.ldN ty24 rfl rfl rfl) ?_
    refine .call (.b t1) [] 0 (life_Over.ok b2) rfl rfl rfl ca37 rfl rfl (cC (.agg _ _ _ _ (cC (.imm _) (cC (.imm _) (cC (.imm _) (cC (.imm _) (cC (.imm _) (cC (.imm _) (cC (.imm _) (cC (.imm _) (cC (.imm _) (cC (.imm _) (cC (.imm _) .nil)))))))))))) .nil) rfl rfl rfl rfl rfl ?_
    refine .m rfl rfl rfl rfl ?_
    refine .v rfl (met rfl rfl rfl g3) (O.fld fld24_9 rfl rfl rfl) ?_
    refine .v rfl (met rfl rfl rfl g3) (O.ld (y := .i x0.Stage) ty3 rfl rfl rfl) ?_
    refine .v rfl (met rfl rfl rfl g3) (OpL.binI rfl rfl rfl rfl) ?_
    refine .v rfl rfl (O.pickF g3 rfl rfl rfl) ?_
    refine .m rfl rfl rfl rfl ?_
    refine .x rfl (unmet rfl rfl rfl g4) ?_
    refine .x rfl (unmet rfl rfl rfl g4) ?_
    refine .x rfl (unmet rfl rfl rfl g4) ?_
    refine .v rfl rfl (O.pickT g4 rfl rfl rfl) ?_
    refine .nil ?_
    exact toN (Gives.mkR [] (.r rfl rfl (.r rfl rfl (.c rfl (sbb (by first | (simp only [g3, g4, Bool.true_or, Bool.or_true, Bool.false_or, Bool.or_false, Bool.true_and, Bool.and_true, Bool.false_and, Bool.and_false, Bool.not_true, Bool.not_false, cond_true, cond_false]; done) | (repeat (first | rw [g3] | rw [g4])) <;> simp only [Bool.true_or, Bool.or_true, Bool.false_or, Bool.or_false, Bool.true_and, Bool.and_true, Bool.false_and, Bool.and_false, Bool.not_true, Bool.not_false, cond_true, cond_false])) rfl .n))) (.r rfl rfl rfl (.r rfl rfl rfl .n)) rfl rfl rfl)
   ·refine W.pk ?_
    refine .v rfl rfl (O.ldN ty24 rfl rfl rfl) ?_
    refine .call (.b t1) [] 0 (life_Over.ok b2) rfl rfl rfl ca37 rfl rfl (cC (.agg _ _ _ _ (cC (.imm _) (cC (.imm _) (cC (.imm _) (cC (.imm _) (cC (.imm _) (cC (.imm _) (cC (.imm _) (cC (.imm _) (cC (.imm _) (cC (.imm _) (cC (.imm _) .nil)))))))))))) .nil) rfl rfl rfl rfl rfl ?_
    refine .m rfl rfl rfl rfl ?_
    refine .v rfl (met rfl rfl rfl g3) (O.fld fld24_9 rfl rfl rfl) ?_
    refine .v rfl (met rfl rfl rfl g3) (O.ld (y := .i x0.Stage) ty3 rfl rfl rfl) ?_
    refine .v rfl (met rfl rfl rfl g3) (OpL.binI rfl rfl rfl rfl) ?_
    refine .v rfl rfl (O.pickF g3 rfl rfl rfl) ?_
    refine .m rfl rfl rfl rfl ?_
    refine .v rfl (met rfl rfl rfl g4) (O.fld fld24_9 rfl rfl rfl) ?_
    refine .v rfl (met rfl rfl rfl g4) (O.ld (y := .i x0.Stage) ty3 rfl rfl rfl) ?_
    refine .v rfl (met rfl rfl rfl g4) (OpL.binI rfl rfl rfl rfl) ?_
    refine .v rfl rfl (O.pickF g4 rfl rfl rfl) ?_
    refine .nil ?_
    exact toN (Gives.mkR [] (.r rfl rfl (.r rfl rfl (.c rfl (sbb (by first | (simp only [g3, g4, Bool.true_or, Bool.or_true, Bool.false_or, Bool.or_false, Bool.true_and, Bool.and_true, Bool.false_and, Bool.and_false, Bool.not_true, Bool.not_false, cond_true, cond_false]; done) | (repeat (first | rw [g3] | rw [g4])) <;> simp only [Bool.true_or, Bool.or_true, Bool.false_or, Bool.or_false, Bool.true_and, Bool.and_true, Bool.false_and, Bool.and_false, Bool.not_true, Bool.not_false, cond_true, cond_false])) rfl .n))) (.r rfl rfl rfl (.r rfl rfl rfl .n)) rfl rfl rfl)

noncomputable def lombardref24_Fail.f (x0 : api_Trade) : Option (api_Trade × Int) :=
  if ((decide (x0.Stage < 1)) || (decide (x0.Stage > 3))) = true then
    some (x0, 8)
  else
    some ((⟨x0.ID, x0.Twin, x0.Member, x0.Side, x0.Basket, x0.Amount, x0.Start, x0.End, x0.Resets, 5, x0.Short⟩ : api_Trade), 0)
set_option maxRecDepth 100000 in
set_option maxHeartbeats 4000000 in
theorem lombardref24_Fail.ok {x0 : api_Trade} {r : api_Trade × Int} (h : lombardref24_Fail.f x0 = some r) : Pm.Spec prog 33 [.agg [.imm (.val (.int .i64 x0.ID)), .imm (.val (.int .i64 x0.Twin)), .imm (.val (.int .i64 x0.Member)), .imm (.val (.int .i64 x0.Side)), .imm (.val (.int .i64 x0.Basket)), .imm (.val (.int .i64 x0.Amount)), .imm (.val (.int .i64 x0.Start)), .imm (.val (.int .i64 x0.End)), .imm (.row 2 (List.map api_Reset.enc x0.Resets)), .imm (.val (.int .i64 x0.Stage)), .imm (.val (.bool x0.Short))]] (.tup [.agg [.imm (.val (.int .i64 r.1.ID)), .imm (.val (.int .i64 r.1.Twin)), .imm (.val (.int .i64 r.1.Member)), .imm (.val (.int .i64 r.1.Side)), .imm (.val (.int .i64 r.1.Basket)), .imm (.val (.int .i64 r.1.Amount)), .imm (.val (.int .i64 r.1.Start)), .imm (.val (.int .i64 r.1.End)), .imm (.row 2 (List.map api_Reset.enc r.1.Resets)), .imm (.val (.int .i64 r.1.Stage)), .imm (.val (.bool r.1.Short))], .imm (.val (.int .i64 r.2))]) [none] := by
 unfold lombardref24_Fail.f at h
 refine Pm.Spec.of_body Try.func33 rfl (by kernel_rfl) (Nat.le_of_ble_eq_true rfl) (Nat.le_of_ble_eq_true rfl) ?_
 refine W.ghost (σ' := (mkSt [(0, some (.agg (api_Trade.av x0)))] [] 1000)) (Gives.entry (.c rfl .n) .n) ?_
 refine W.seq ?_
 refine W.pk ?_
 refine .t rfl rfl (O.box rfl rfl rfl rfl rfl) ?_
 refine .t rfl rfl (O.alloc z24 rfl) ?_
 refine .a rfl rfl rfl rfl ?_
 refine .nil ?_
 refine W.seq ?_
 refine W.seq ?_
 refine W.fork (mkSt [(1, some (.ptr 1000 0)), (2, some (.ptr 1001 0)), (11, some (.b ((decide (x0.Stage < 1)) || (decide (x0.Stage > 3)))))] [(1000, some (.box [.i x0.ID, .i x0.Twin, .i x0.Member, .i x0.Side, .i x0.Basket, .i x0.Amount, .i x0.Start, .i x0.End, .imm (.row 2 (List.map api_Reset.enc x0.Resets)), .i x0.Stage, .b x0.Short])), (1001, some (.box [.i 0, .i 0, .i 0, .i 0, .i 0, .i 0, .i 0, .i 0, .imm (.val (.slice none 0 0)), .i 0, .b false]))] 1002) ?_ ?_
 ·refine W.cond rfl (fun q2 => ?_) (fun q2 => ?_)
  ·have h := ifT q2 h
   refine W.seq ?_
   refine W.pk ?_
   refine .v rfl rfl (O.ldN ty24 rfl rfl rfl) ?_
   refine .s rfl rfl (O.st ty24 rfl rfl rfl rfl rfl rfl rfl rfl rfl rfl (all' := [.i x0.ID, .i x0.Twin, .i x0.Member, .i x0.Side, .i x0.Basket, .i x0.Amount, .i x0.Start, .i x0.End, .imm (.row 2 (List.map api_Reset.enc x0.Resets)), .i x0.Stage, .b x0.Short]) rfl) ?_
   refine .a rfl rfl rfl rfl ?_
   refine .nil ?_
   refine W.ret ?_
   cases h
   exact leaves (.inr rfl) rfl (.tup _ _ _ _ (cC (.agg _ _ _ _ (cC (.imm _) (cC (.imm _) (cC (.imm _) (cC (.imm _) (cC (.imm _) (cC (.imm _) (cC (.imm _) (cC (.imm _) (cC (.imm _) (cC (.imm _) (cC (.imm _) .nil)))))))))))) (cC (.imm _) .nil))) (cN .nil) rfl rfl
  ·have h := ifF q2 h
   refine W.skip ?_
   refine W.seq ?_
   refine W.pk ?_
   refine .v rfl rfl (O.fld fld24_9 rfl rfl rfl) ?_
   refine .s rfl rfl (O.st ty3 rfl rfl rfl rfl rfl rfl rfl rfl rfl rfl (all' := [.i x0.ID, .i x0.Twin, .i x0.Member, .i x0.Side, .i x0.Basket, .i x0.Amount, .i x0.Start, .i x0.End, .imm (.row 2 (List.map api_Reset.enc x0.Resets)), .i 5, .b x0.Short]) rfl) ?_
   refine .nil ?_
   refine W.seq ?_
   refine W.pk ?_
   refine .v rfl rfl (O.ldN ty24 rfl rfl rfl) ?_
   refine .s rfl rfl (O.st ty24 rfl rfl rfl rfl rfl rfl rfl rfl rfl rfl (all' := [.i x0.ID, .i x0.Twin, .i x0.Member, .i x0.Side, .i x0.Basket, .i x0.Amount, .i x0.Start, .i x0.End, .imm (.row 2 (List.map api_Reset.enc x0.Resets)), .i 5, .b x0.Short]) rfl) ?_
   refine .a rfl rfl rfl rfl ?_
   refine .nil ?_
   refine W.ret ?_
   cases h
   exact leaves (.inr rfl) rfl (.tup _ _ _ _ (cC (.agg _ _ _ _ (cC (.imm _) (cC (.imm _) (cC (.imm _) (cC (.imm _) (cC (.imm _) (cC (.imm _) (cC (.imm _) (cC (.imm _) (cC (.imm _) (cC (.imm _) (cC (.imm _) .nil)))))))))))) (cC (.imm _) .nil))) (cN .nil) rfl rfl
 ·clear h
  rcases tf (decide (x0.Stage < 1)) with g1 | g1
  ·refine W.pk ?_
   refine .v rfl rfl (O.fld fld24_9 rfl rfl rfl) ?_
   refine .v rfl rfl (O.ld (y := .i x0.Stage) ty3 rfl rfl rfl) ?_
   refine .v rfl rfl (OpL.binI rfl rfl rfl rfl) ?_
   refine .m rfl rfl rfl rfl ?_
   refine .x rfl (unmet rfl rfl rfl g1) ?_
   refine .x rfl (unmet rfl rfl rfl g1) ?_
   refine .x rfl (unmet rfl rfl rfl g1) ?_
   refine .v rfl rfl (O.pickT g1 rfl rfl rfl) ?_
   refine .nil ?_
   exact toN (Gives.mkR [] (.r rfl rfl (.r rfl rfl (.c rfl (sbb (by simp only [g1, Bool.true_or, Bool.or_true, Bool.false_or, Bool.or_false, Bool.true_and, Bool.and_true, Bool.false_and, Bool.and_false, Bool.not_true, Bool.not_false, cond_true, cond_false])) rfl .n))) (.r rfl rfl rfl (.r rfl rfl rfl .n)) rfl rfl rfl)
  ·refine W.pk ?_
   refine .v rfl rfl (O.fld fld24_9 rfl rfl rfl) ?_
   refine .v rfl rfl (O.ld (y := .i x0.Stage) ty3 rfl rfl rfl) ?_
   refine .v rfl rfl (OpL.binI rfl rfl rfl rfl) ?_
   refine .m rfl rfl rfl rfl ?_
   refine .v rfl (met rfl rfl rfl g1) (O.fld fld24_9 rfl rfl rfl) ?_
   refine .v rfl (met rfl rfl rfl g1) (O.ld (y := .i x0.Stage) ty3 rfl rfl rfl) ?_
   refine .v rfl (met rfl rfl rfl g1) (OpL.binI rfl rfl rfl rfl) ?_
   refine .v rfl rfl (O.pickF g1 rfl rfl rfl) ?_
   refine .nil ?_
   exact toN (Gives.mkR [] (.r rfl rfl (.r rfl rfl (.c rfl (sbb (by simp only [g1, Bool.true_or, Bool.or_true, Bool.false_or, Bool.or_false, Bool.true_and, Bool.and_true, Bool.false_and, Bool.and_false, Bool.not_true, Bool.not_false, cond_true, cond_false])) rfl .n))) (.r rfl rfl rfl (.r rfl rfl rfl .n)) rfl rfl rfl)
end Go.Proofs.Ytknfdnlhadjbaaa
