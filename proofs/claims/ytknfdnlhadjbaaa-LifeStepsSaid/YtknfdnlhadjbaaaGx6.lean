/- Shows what functions of the program come to, each as a plain function: written by a program of the author's for this claim. -/
import Derived.Test.YtknfdnlhadjbaaaGx5
namespace Go.Proofs.Ytknfdnlhadjbaaa
open Go Go.Pm
set_option linter.unusedVariables false
set_option linter.unusedSimpArgs false
noncomputable def lombardref24_Notice.f (x0 : api_Trade) (x1 : Int) (x2 : Int) : Option (api_Trade × Int) :=
  if ((x0.Stage != 2) || (x0.End != 0)) = true then
    some (x0, 8)
  else
    (lombardref02_Good.f x1).bind fun t3 =>
    (if (!t3) = false then lombardref02_Good.f x2 else some default).bind fun t5 =>
    if (((((!t3) || (!t5)) || (decide (x2 ≤ x1))) || (decide (x2 ≤ x0.Start))) || (decide ((IntKind.wrap .i64 (x2 - x0.Start)) > 3660))) = true then
      some (x0, 10)
    else
      some ((⟨x0.ID, x0.Twin, x0.Member, x0.Side, x0.Basket, x0.Amount, x0.Start, x2, x0.Resets, 3, x0.Short⟩ : api_Trade), 0)
set_option maxRecDepth 100000 in
set_option maxHeartbeats 4000000 in
theorem lombardref24_Notice.ok {x0 : api_Trade} {x1 : Int} {x2 : Int} {r : api_Trade × Int} (h : lombardref24_Notice.f x0 x1 x2 = some r) : Pm.Spec prog 26 [.agg [.imm (.val (.int .i64 x0.ID)), .imm (.val (.int .i64 x0.Twin)), .imm (.val (.int .i64 x0.Member)), .imm (.val (.int .i64 x0.Side)), .imm (.val (.int .i64 x0.Basket)), .imm (.val (.int .i64 x0.Amount)), .imm (.val (.int .i64 x0.Start)), .imm (.val (.int .i64 x0.End)), .imm (.row 2 (List.map api_Reset.enc x0.Resets)), .imm (.val (.int .i64 x0.Stage)), .imm (.val (.bool x0.Short))], .imm (.val (.int .i64 x1)), .imm (.val (.int .i64 x2))] (.tup [.agg [.imm (.val (.int .i64 r.1.ID)), .imm (.val (.int .i64 r.1.Twin)), .imm (.val (.int .i64 r.1.Member)), .imm (.val (.int .i64 r.1.Side)), .imm (.val (.int .i64 r.1.Basket)), .imm (.val (.int .i64 r.1.Amount)), .imm (.val (.int .i64 r.1.Start)), .imm (.val (.int .i64 r.1.End)), .imm (.row 2 (List.map api_Reset.enc r.1.Resets)), .imm (.val (.int .i64 r.1.Stage)), .imm (.val (.bool r.1.Short))], .imm (.val (.int .i64 r.2))]) [none, none, none] := by
 unfold lombardref24_Notice.f at h
 refine Pm.Spec.of_body Try.func26 rfl (by kernel_rfl) (Nat.le_of_ble_eq_true rfl) (Nat.le_of_ble_eq_true rfl) ?_
 refine W.ghost (σ' := (mkSt [(0, some (.agg (api_Trade.av x0))), (1, some (.i x1)), (2, some (.i x2))] [] 1000)) (Gives.entry (.c rfl (.c rfl (.c rfl .n))) .n) ?_
 refine W.seq ?_
 refine W.pk ?_
 refine .t rfl rfl (O.box rfl rfl rfl rfl rfl) ?_
 refine .t rfl rfl (O.alloc z24 rfl) ?_
 refine .a rfl rfl rfl rfl ?_
 refine .nil ?_
 refine W.seq ?_
 refine W.seq ?_
 refine W.fork (mkSt [(1, some (.i x1)), (2, some (.i x2)), (3, some (.ptr 1000 0)), (6, some (.ptr 1001 0)), (15, some (.b ((x0.Stage != 2) || (x0.End != 0))))] [(1000, some (.box [.i x0.ID, .i x0.Twin, .i x0.Member, .i x0.Side, .i x0.Basket, .i x0.Amount, .i x0.Start, .i x0.End, .imm (.row 2 (List.map api_Reset.enc x0.Resets)), .i x0.Stage, .b x0.Short])), (1001, some (.box [.i 0, .i 0, .i 0, .i 0, .i 0, .i 0, .i 0, .i 0, .imm (.val (.slice none 0 0)), .i 0, .b false]))] 1002) ?_ ?_
 ·refine W.cond rfl (fun q2 => ?_) (fun q2 => ?_)
  ·have h := ifT q2 h
   refine W.seq ?_
   refine W.pk ?_
   refine .v rfl rfl (O.ldN ty24 rfl rfl rfl) ?_
   refine .s rfl rfl (O.st ty24 rfl rfl rfl rfl rfl rfl rfl rfl rfl rfl (all' := [.i x0.ID, .i x0.Twin, .i x0.Member, .i x0.Side, .i x0.Basket, .i x0.Amount, .i x0.Start, .i x0.End, .imm (.row 2 (List.map api_Reset.enc x0.Resets)), .i x0.Stage, .b x0.Short]) rfl) ?_
   refine .a rfl rfl rfl rfl ?_
   refine .nil ?_
   refine W.ret ?_
   cases h
   exact leaves (.inr rfl) rfl (.tup _ _ _ _ (cC (.agg _ _ _ _ (cC (.imm _) (cC (.imm _) (cC (.imm _) (cC (.imm _) (cC (.imm _) (cC (.imm _) (cC (.imm _) (cC (.imm _) (cC (.imm _) (cC (.imm _) (cC (.imm _) .nil)))))))))))) (cC (.imm _) .nil))) (cN (cN (cN .nil))) rfl rfl
  ·have h := ifF q2 h
   refine W.skip ?_
   refine W.seq ?_
   refine W.seq ?_
   obtain ⟨t3, b4, h⟩ := bnd1 h
   obtain ⟨t5, b6, h⟩ := bnd1 h
   refine W.fork (mkSt [(2, some (.i x2)), (3, some (.ptr 1000 0)), (6, some (.ptr 1001 0)), (42, some (.b (((((!t3) || (!t5)) || (decide (x2 ≤ x1))) || (decide (x2 ≤ x0.Start))) || (decide ((IntKind.wrap .i64 (x2 - x0.Start)) > 3660)))))] [(1000, some (.box [.i x0.ID, .i x0.Twin, .i x0.Member, .i x0.Side, .i x0.Basket, .i x0.Amount, .i x0.Start, .i x0.End, .imm (.row 2 (List.map api_Reset.enc x0.Resets)), .i x0.Stage, .b x0.Short])), (1001, some (.box [.i 0, .i 0, .i 0, .i 0, .i 0, .i 0, .i 0, .i 0, .imm (.val (.slice none 0 0)), .i 0, .b false]))] 1002) ?_ ?_
   ·refine W.cond rfl (fun q11 => ?_) (fun q11 => ?_)
    ·have h := ifT q11 h
     refine W.seq ?_
     refine W.pk ?_
     refine .v rfl rfl (O.ldN ty24 rfl rfl rfl) ?_
     refine .s rfl rfl (O.st ty24 rfl rfl rfl rfl rfl rfl rfl rfl rfl rfl (all' := [.i x0.ID, .i x0.Twin, .i x0.Member, .i x0.Side, .i x0.Basket, .i x0.Amount, .i x0.Start, .i x0.End, .imm (.row 2 (List.map api_Reset.enc x0.Resets)), .i x0.Stage, .b x0.Short]) rfl) ?_
     refine .a rfl rfl rfl rfl ?_
     refine .nil ?_
     refine W.ret ?_
     cases h
     exact leaves (.inr rfl) rfl (.tup _ _ _ _ (cC (.agg _ _ _ _ (cC (.imm _) (cC (.imm _) (cC (.imm _) (cC (.imm _) (cC (.imm _) (cC (.imm _) (cC (.imm _) (cC (.imm _) (cC (.imm _) (cC (.imm _) (cC (.imm _) .nil)))))))))))) (cC (.imm _) .nil))) (cN (cN (cN .nil))) rfl rfl
    ·have h := ifF q11 h
     refine W.skip ?_
     refine W.seq ?_
     refine W.pk ?_
     refine .m rfl rfl rfl rfl ?_
     refine .v rfl rfl (O.fld fld24_7 rfl rfl rfl) ?_
     refine .s rfl rfl (O.st ty3 rfl rfl rfl rfl rfl rfl rfl rfl rfl rfl (all' := [.i x0.ID, .i x0.Twin, .i x0.Member, .i x0.Side, .i x0.Basket, .i x0.Amount, .i x0.Start, .i x2, .imm (.row 2 (List.map api_Reset.enc x0.Resets)), .i x0.Stage, .b x0.Short]) rfl) ?_
     refine .v rfl rfl (O.fld fld24_9 rfl rfl rfl) ?_
     refine .s rfl rfl (O.st ty3 rfl rfl rfl rfl rfl rfl rfl rfl rfl rfl (all' := [.i x0.ID, .i x0.Twin, .i x0.Member, .i x0.Side, .i x0.Basket, .i x0.Amount, .i x0.Start, .i x2, .imm (.row 2 (List.map api_Reset.enc x0.Resets)), .i 3, .b x0.Short]) rfl) ?_
     refine .nil ?_
     refine W.seq ?_
     refine W.pk ?_
     refine .v rfl rfl (O.ldN ty24 rfl rfl rfl) ?_
     refine .s rfl rfl (O.st ty24 rfl rfl rfl rfl rfl rfl rfl rfl rfl rfl (all' := [.i x0.ID, .i x0.Twin, .i x0.Member, .i x0.Side, .i x0.Basket, .i x0.Amount, .i x0.Start, .i x2, .imm (.row 2 (List.map api_Reset.enc x0.Resets)), .i 3, .b x0.Short]) rfl) ?_
     refine .a rfl rfl rfl rfl ?_
     refine .nil ?_
     refine W.ret ?_
     cases h
     exact leaves (.inr rfl) rfl (.tup _ _ _ _ (cC (.agg _ _ _ _ (cC (.imm _) (cC (.imm _) (cC (.imm _) (cC (.imm _) (cC (.imm _) (cC (.imm _) (cC (.imm _) (cC (.imm _) (cC (.imm _) (cC (.imm _) (cC (.imm _) .nil)))))))))))) (cC (.imm _) .nil))) (cN (cN (cN .nil))) rfl rfl
   ·clear h
    rcases tf t3 with g7 | g7
    ·rcases tf t5 with g8 | g8
     ·rcases tf (decide (x2 ≤ x1)) with g9 | g9
      ·refine W.pk ?_
       refine .m rfl rfl rfl rfl ?_
       refine .call (.b t3) [] 0 (lombardref02_Good.ok b4) rfl rfl rfl ca44 rfl rfl (cC (.imm _) .nil) rfl rfl rfl rfl rfl ?_
       refine .v rfl rfl (OpL.unV rfl rfl rfl) ?_
       refine .m rfl rfl rfl rfl ?_
       refine .m rfl (met rfl rfl rfl (notT g7)) rfl rfl ?_
       refine .call (.b t5) [] 0 (lombardref02_Good.ok ((if_pos (by first | (simp only [g7, g8, g9, Bool.true_or, Bool.or_true, Bool.false_or, Bool.or_false, Bool.true_and, Bool.and_true, Bool.false_and, Bool.and_false, Bool.not_true, Bool.not_false, cond_true, cond_false]; done) | (repeat (first | rw [g7] | rw [g8] | rw [g9])) <;> simp only [Bool.true_or, Bool.or_true, Bool.false_or, Bool.or_false, Bool.true_and, Bool.and_true, Bool.false_and, Bool.and_false, Bool.not_true, Bool.not_false, cond_true, cond_false])).symm.trans b6)) rfl (met rfl rfl rfl (notT g7)) rfl ca44 rfl rfl (cC (.imm _) .nil) rfl rfl rfl rfl rfl ?_
       refine .v rfl (met rfl rfl rfl (notT g7)) (OpL.unV rfl rfl rfl) ?_
       refine .v rfl rfl (O.pickF (notT g7) rfl rfl rfl) ?_
       refine .m rfl rfl rfl rfl ?_
       refine .m rfl (met rfl rfl rfl (notT g8)) rfl rfl ?_
       refine .m rfl (met rfl rfl rfl (notT g8)) rfl rfl ?_
       refine .v rfl (met rfl rfl rfl (notT g8)) (OpL.binI rfl rfl rfl rfl) ?_
       refine .v rfl rfl (O.pickF (notT g8) rfl rfl rfl) ?_
       refine .m rfl rfl rfl rfl ?_
       refine .x rfl (unmet rfl rfl rfl g9) ?_
       refine .x rfl (unmet rfl rfl rfl g9) ?_
       refine .x rfl (unmet rfl rfl rfl g9) ?_
       refine .x rfl (unmet rfl rfl rfl g9) ?_
       refine .v rfl rfl (O.pickT g9 rfl rfl rfl) ?_
       refine .m rfl rfl rfl rfl ?_
       refine .x rfl (unmet rfl rfl rfl rfl) ?_
       refine .x rfl (unmet rfl rfl rfl rfl) ?_
       refine .x rfl (unmet rfl rfl rfl rfl) ?_
       refine .x rfl (unmet rfl rfl rfl rfl) ?_
       refine .x rfl (unmet rfl rfl rfl rfl) ?_
       refine .v rfl rfl (O.pickT rfl rfl rfl rfl) ?_
       refine .nil ?_
       exact toN (Gives.mkR [] (.r rfl rfl (.r rfl rfl (.r rfl rfl (.c rfl (sbb (by first | (simp only [g7, g8, g9, Bool.true_or, Bool.or_true, Bool.false_or, Bool.or_false, Bool.true_and, Bool.and_true, Bool.false_and, Bool.and_false, Bool.not_true, Bool.not_false, cond_true, cond_false]; done) | (repeat (first | rw [g7] | rw [g8] | rw [g9])) <;> simp only [Bool.true_or, Bool.or_true, Bool.false_or, Bool.or_false, Bool.true_and, Bool.and_true, Bool.false_and, Bool.and_false, Bool.not_true, Bool.not_false, cond_true, cond_false])) rfl .n)))) (.r rfl rfl rfl (.r rfl rfl rfl .n)) rfl rfl rfl)
      ·rcases tf (decide (x2 ≤ x0.Start)) with g10 | g10
       ·refine W.pk ?_
        refine .m rfl rfl rfl rfl ?_
        refine .call (.b t3) [] 0 (lombardref02_Good.ok b4) rfl rfl rfl ca44 rfl rfl (cC (.imm _) .nil) rfl rfl rfl rfl rfl ?_
        refine .v rfl rfl (OpL.unV rfl rfl rfl) ?_
        refine .m rfl rfl rfl rfl ?_
        refine .m rfl (met rfl rfl rfl (notT g7)) rfl rfl ?_
        refine .call (.b t5) [] 0 (lombardref02_Good.ok ((if_pos (by first | (simp only [g7, g8, g9, g10, Bool.true_or, Bool.or_true, Bool.false_or, Bool.or_false, Bool.true_and, Bool.and_true, Bool.false_and, Bool.and_false, Bool.not_true, Bool.not_false, cond_true, cond_false]; done) | (repeat (first | rw [g7] | rw [g8] | rw [g9] | rw [g10])) <;> simp only [Bool.true_or, Bool.or_true, Bool.false_or, Bool.or_false, Bool.true_and, Bool.and_true, Bool.false_and, Bool.and_false, Bool.not_true, Bool.not_false, cond_true, cond_false])).symm.trans b6)) rfl (met rfl rfl rfl (notT g7)) rfl ca44 rfl rfl (cC (.imm _) .nil) rfl rfl rfl rfl rfl ?_
        refine .v rfl (met rfl rfl rfl (notT g7)) (OpL.unV rfl rfl rfl) ?_
        refine .v rfl rfl (O.pickF (notT g7) rfl rfl rfl) ?_
        refine .m rfl rfl rfl rfl ?_
        refine .m rfl (met rfl rfl rfl (notT g8)) rfl rfl ?_
        refine .m rfl (met rfl rfl rfl (notT g8)) rfl rfl ?_
        refine .v rfl (met rfl rfl rfl (notT g8)) (OpL.binI rfl rfl rfl rfl) ?_
        refine .v rfl rfl (O.pickF (notT g8) rfl rfl rfl) ?_
        refine .m rfl rfl rfl rfl ?_
        refine .m rfl (met rfl rfl rfl g9) rfl rfl ?_
        refine .v rfl (met rfl rfl rfl g9) (O.fld fld24_6 rfl rfl rfl) ?_
        refine .v rfl (met rfl rfl rfl g9) (O.ld (y := .i x0.Start) ty3 rfl rfl rfl) ?_
        refine .v rfl (met rfl rfl rfl g9) (OpL.binI rfl rfl rfl rfl) ?_
        refine .v rfl rfl (O.pickF g9 rfl rfl rfl) ?_
        refine .m rfl rfl rfl rfl ?_
        refine .x rfl (unmet rfl rfl rfl g10) ?_
        refine .x rfl (unmet rfl rfl rfl g10) ?_
        refine .x rfl (unmet rfl rfl rfl g10) ?_
        refine .x rfl (unmet rfl rfl rfl g10) ?_
        refine .x rfl (unmet rfl rfl rfl g10) ?_
        refine .v rfl rfl (O.pickT g10 rfl rfl rfl) ?_
        refine .nil ?_
        exact toN (Gives.mkR [] (.r rfl rfl (.r rfl rfl (.r rfl rfl (.c rfl (sbb (by first | (simp only [g7, g8, g9, g10, Bool.true_or, Bool.or_true, Bool.false_or, Bool.or_false, Bool.true_and, Bool.and_true, Bool.false_and, Bool.and_false, Bool.not_true, Bool.not_false, cond_true, cond_false]; done) | (repeat (first | rw [g7] | rw [g8] | rw [g9] | rw [g10])) <;> simp only [Bool.true_or, Bool.or_true, Bool.false_or, Bool.or_false, Bool.true_and, Bool.and_true, Bool.false_and, Bool.and_false, Bool.not_true, Bool.not_false, cond_true, cond_false])) rfl .n)))) (.r rfl rfl rfl (.r rfl rfl rfl .n)) rfl rfl rfl)
       ·refine W.pk ?_
        refine .m rfl rfl rfl rfl ?_
        refine .call (.b t3) [] 0 (lombardref02_Good.ok b4) rfl rfl rfl ca44 rfl rfl (cC (.imm _) .nil) rfl rfl rfl rfl rfl ?_
        refine .v rfl rfl (OpL.unV rfl rfl rfl) ?_
        refine .m rfl rfl rfl rfl ?_
        refine .m rfl (met rfl rfl rfl (notT g7)) rfl rfl ?_
        refine .call (.b t5) [] 0 (lombardref02_Good.ok ((if_pos (by first | (simp only [g7, g8, g9, g10, Bool.true_or, Bool.or_true, Bool.false_or, Bool.or_false, Bool.true_and, Bool.and_true, Bool.false_and, Bool.and_false, Bool.not_true, Bool.not_false, cond_true, cond_false]; done) | (repeat (first | rw [g7] | rw [g8] | rw [g9] | rw [g10])) <;> simp only [Bool.true_or, Bool.or_true, Bool.false_or, Bool.or_false, Bool.true_and, Bool.and_true, Bool.false_and, Bool.and_false, Bool.not_true, Bool.not_false, cond_true, cond_false])).symm.trans b6)) rfl (met rfl rfl rfl (notT g7)) rfl ca44 rfl rfl (cC (.imm _) .nil) rfl rfl rfl rfl rfl ?_
        refine .v rfl (met rfl rfl rfl (notT g7)) (OpL.unV rfl rfl rfl) ?_
        refine .v rfl rfl (O.pickF (notT g7) rfl rfl rfl) ?_
        refine .m rfl rfl rfl rfl ?_
        refine .m rfl (met rfl rfl rfl (notT g8)) rfl rfl ?_
        refine .m rfl (met rfl rfl rfl (notT g8)) rfl rfl ?_
        refine .v rfl (met rfl rfl rfl (notT g8)) (OpL.binI rfl rfl rfl rfl) ?_
        refine .v rfl rfl (O.pickF (notT g8) rfl rfl rfl) ?_
        refine .m rfl rfl rfl rfl ?_
        refine .m rfl (met rfl rfl rfl g9) rfl rfl ?_
        refine .v rfl (met rfl rfl rfl g9) (O.fld fld24_6 rfl rfl rfl) ?_
        refine .v rfl (met rfl rfl rfl g9) (O.ld (y := .i x0.Start) ty3 rfl rfl rfl) ?_
        refine .v rfl (met rfl rfl rfl g9) (OpL.binI rfl rfl rfl rfl) ?_
        refine .v rfl rfl (O.pickF g9 rfl rfl rfl) ?_
        refine .m rfl rfl rfl rfl ?_
        refine .m rfl (met rfl rfl rfl g10) rfl rfl ?_
        refine .v rfl (met rfl rfl rfl g10) (O.fld fld24_6 rfl rfl rfl) ?_
        refine .v rfl (met rfl rfl rfl g10) (O.ld (y := .i x0.Start) ty3 rfl rfl rfl) ?_
        refine .v rfl (met rfl rfl rfl g10) (OpL.binI rfl rfl rfl rfl) ?_
        refine .v rfl (met rfl rfl rfl g10) (OpL.binI rfl rfl rfl rfl) ?_
        refine .v rfl rfl (O.pickF g10 rfl rfl rfl) ?_
        refine .nil ?_
        exact toN (Gives.mkR [] (.r rfl rfl (.r rfl rfl (.r rfl rfl (.c rfl (sbb (by first | (simp only [g7, g8, g9, g10, Bool.true_or, Bool.or_true, Bool.false_or, Bool.or_false, Bool.true_and, Bool.and_true, Bool.false_and, Bool.and_false, Bool.not_true, Bool.not_false, cond_true, cond_false]; done) | (repeat (first | rw [g7] | rw [g8] | rw [g9] | rw [g10])) <;> simp only [Bool.true_or, Bool.or_true, Bool.false_or, Bool.or_false, Bool.true_and, Bool.and_true, Bool.false_and, Bool.and_false, Bool.not_true, Bool.not_false, cond_true, cond_false])) rfl .n)))) (.r rfl rfl rfl (.r rfl rfl rfl .n)) rfl rfl rfl)
     ·refine W.pk ?_
      refine .m rfl rfl rfl rfl ?_
      refine .call (.b t3) [] 0 (lombardref02_Good.ok b4) rfl rfl rfl ca44 rfl rfl (cC (.imm _) .nil) rfl rfl rfl rfl rfl ?_
      refine .v rfl rfl (OpL.unV rfl rfl rfl) ?_
      refine .m rfl rfl rfl rfl ?_
      refine .m rfl (met rfl rfl rfl (notT g7)) rfl rfl ?_
      refine .call (.b t5) [] 0 (lombardref02_Good.ok ((if_pos (by first | (simp only [g7, g8, Bool.true_or, Bool.or_true, Bool.false_or, Bool.or_false, Bool.true_and, Bool.and_true, Bool.false_and, Bool.and_false, Bool.not_true, Bool.not_false, cond_true, cond_false]; done) | (repeat (first | rw [g7] | rw [g8])) <;> simp only [Bool.true_or, Bool.or_true, Bool.false_or, Bool.or_false, Bool.true_and, Bool.and_true, Bool.false_and, Bool.and_false, Bool.not_true, Bool.not_false, cond_true, cond_false])).symm.trans b6)) rfl (met rfl rfl rfl (notT g7)) rfl ca44 rfl rfl (cC (.imm _) .nil) rfl rfl rfl rfl rfl ?_
      refine .v rfl (met rfl rfl rfl (notT g7)) (OpL.unV rfl rfl rfl) ?_
      refine .v rfl rfl (O.pickF (notT g7) rfl rfl rfl) ?_
      refine .m rfl rfl rfl rfl ?_
      refine .x rfl (unmet rfl rfl rfl (notF g8)) ?_
      refine .x rfl (unmet rfl rfl rfl (notF g8)) ?_
      refine .x rfl (unmet rfl rfl rfl (notF g8)) ?_
      refine .v rfl rfl (O.pickT (notF g8) rfl rfl rfl) ?_
      refine .m rfl rfl rfl rfl ?_
      refine .x rfl (unmet rfl rfl rfl rfl) ?_
      refine .x rfl (unmet rfl rfl rfl rfl) ?_
      refine .x rfl (unmet rfl rfl rfl rfl) ?_
      refine .x rfl (unmet rfl rfl rfl rfl) ?_
      refine .v rfl rfl (O.pickT rfl rfl rfl rfl) ?_
      refine .m rfl rfl rfl rfl ?_
      refine .x rfl (unmet rfl rfl rfl rfl) ?_
      refine .x rfl (unmet rfl rfl rfl rfl) ?_
      refine .x rfl (unmet rfl rfl rfl rfl) ?_
      refine .x rfl (unmet rfl rfl rfl rfl) ?_
      refine .x rfl (unmet rfl rfl rfl rfl) ?_
      refine .v rfl rfl (O.pickT rfl rfl rfl rfl) ?_
      refine .nil ?_
      exact toN (Gives.mkR [] (.r rfl rfl (.r rfl rfl (.r rfl rfl (.c rfl (sbb (by first | (simp only [g7, g8, Bool.true_or, Bool.or_true, Bool.false_or, Bool.or_false, Bool.true_and, Bool.and_true, Bool.false_and, Bool.and_false, Bool.not_true, Bool.not_false, cond_true, cond_false]; done) | (repeat (first | rw [g7] | rw [g8])) <;> simp only [Bool.true_or, Bool.or_true, Bool.false_or, Bool.or_false, Bool.true_and, Bool.and_true, Bool.false_and, Bool.and_false, Bool.not_true, Bool.not_false, cond_true, cond_false])) rfl .n)))) (.r rfl rfl rfl (.r rfl rfl rfl .n)) rfl rfl rfl)
    ·refine W.pk ?_
     refine .m rfl rfl rfl rfl ?_
     refine .call (.b t3) [] 0 (lombardref02_Good.ok b4) rfl rfl rfl ca44 rfl rfl (cC (.imm _) .nil) rfl rfl rfl rfl rfl ?_
     refine .v rfl rfl (OpL.unV rfl rfl rfl) ?_
     refine .m rfl rfl rfl rfl ?_
     refine .x rfl (unmet rfl rfl rfl (notF g7)) ?_
     refine .x rfl (unmet rfl rfl rfl (notF g7)) ?_
     refine .x rfl (unmet rfl rfl rfl (notF g7)) ?_
     refine .v rfl rfl (O.pickT (notF g7) rfl rfl rfl) ?_
     refine .m rfl rfl rfl rfl ?_
     refine .x rfl (unmet rfl rfl rfl rfl) ?_
     refine .x rfl (unmet rfl rfl rfl rfl) ?_
     refine .x rfl (unmet rfl rfl rfl rfl) ?_
     refine .v rfl rfl (O.pickT rfl rfl rfl rfl) ?_
     refine .m rfl rfl rfl rfl ?_
     refine .x rfl (unmet rfl rfl rfl rfl) ?_
     refine .x rfl (unmet rfl rfl rfl rfl) ?_
     refine .x rfl (unmet rfl rfl rfl rfl) ?_
     refine .x rfl (unmet rfl rfl rfl rfl) ?_
     refine .v rfl rfl (O.pickT rfl rfl rfl rfl) ?_
     refine .m rfl rfl rfl rfl ?_
     refine .x rfl (unmet rfl rfl rfl rfl) ?_
     refine .x rfl (unmet rfl rfl rfl rfl) ?_
     refine .x rfl (unmet rfl rfl rfl rfl) ?_
     refine .x rfl (unmet rfl rfl rfl rfl) ?_
     refine .x rfl (unmet rfl rfl rfl rfl) ?_
     refine .v rfl rfl (O.pickT rfl rfl rfl rfl) ?_
     refine .nil ?_
     exact toN (Gives.mkR [] (.r rfl rfl (.r rfl rfl (.r rfl rfl (.c rfl (sbb (by simp only [g7, Bool.true_or, Bool.or_true, Bool.false_or, Bool.or_false, Bool.true_and, Bool.and_true, Bool.false_and, Bool.and_false, Bool.not_true, Bool.not_false, cond_true, cond_false])) rfl .n)))) (.r rfl rfl rfl (.r rfl rfl rfl .n)) rfl rfl rfl)
 ·clear h
  rcases tf (x0.Stage != 2) with g1 | g1
  ·refine W.pk ?_
   refine .v rfl rfl (O.fld fld24_9 rfl rfl rfl) ?_
   refine .v rfl rfl (O.ld (y := .i x0.Stage) ty3 rfl rfl rfl) ?_
   refine .v rfl rfl (OpL.binI rfl rfl rfl rfl) ?_
   refine .m rfl rfl rfl rfl ?_
   refine .x rfl (unmet rfl rfl rfl g1) ?_
   refine .x rfl (unmet rfl rfl rfl g1) ?_
   refine .x rfl (unmet rfl rfl rfl g1) ?_
   refine .v rfl rfl (O.pickT g1 rfl rfl rfl) ?_
   refine .nil ?_
   exact toN (Gives.mkR [] (.r rfl rfl (.r rfl rfl (.r rfl rfl (.r rfl rfl (.c rfl (sbb (by simp only [g1, Bool.true_or, Bool.or_true, Bool.false_or, Bool.or_false, Bool.true_and, Bool.and_true, Bool.false_and, Bool.and_false, Bool.not_true, Bool.not_false, cond_true, cond_false])) rfl .n))))) (.r rfl rfl rfl (.r rfl rfl rfl .n)) rfl rfl rfl)
  ·refine W.pk ?_
   refine .v rfl rfl (O.fld fld24_9 rfl rfl rfl) ?_
   refine .v rfl rfl (O.ld (y := .i x0.Stage) ty3 rfl rfl rfl) ?_
   refine .v rfl rfl (OpL.binI rfl rfl rfl rfl) ?_
   refine .m rfl rfl rfl rfl ?_
   refine .v rfl (met rfl rfl rfl g1) (O.fld fld24_7 rfl rfl rfl) ?_
   refine .v rfl (met rfl rfl rfl g1) (O.ld (y := .i x0.End) ty3 rfl rfl rfl) ?_
   refine .v rfl (met rfl rfl rfl g1) (OpL.binI rfl rfl rfl rfl) ?_
   refine .v rfl rfl (O.pickF g1 rfl rfl rfl) ?_
   refine .nil ?_
   exact toN (Gives.mkR [] (.r rfl rfl (.r rfl rfl (.r rfl rfl (.r rfl rfl (.c rfl (sbb (by simp only [g1, Bool.true_or, Bool.or_true, Bool.false_or, Bool.or_false, Bool.true_and, Bool.and_true, Bool.false_and, Bool.and_false, Bool.not_true, Bool.not_false, cond_true, cond_false])) rfl .n))))) (.r rfl rfl rfl (.r rfl rfl rfl .n)) rfl rfl rfl)

noncomputable def lombardref23_Resets.b0 (x0 : List api_Reset) (x1 : List api_Reset) (v6 : Int) : Option (Int ⊕ (Bool ⊕ Unit)) :=
  if (decide (v6 < (List.length x0 : Int))) = true then
    if (0 : Int) ≤ v6 ∧ v6 < (List.length x0 : Int) then
    if (0 : Int) ≤ v6 ∧ v6 < (List.length x1 : Int) then
    if (!((((nth x0 v6).Day) == ((nth x1 v6).Day)) && (((nth x0 v6).Rate) == ((nth x1 v6).Rate)))) = true then
      some (.inr (.inl false))
    else
      some (.inl (IntKind.wrap .i64 (v6 + 1)))
    else none
    else none
  else
    some (.inr (.inr ()))
noncomputable def lombardref23_Resets.r0 (x0 : List api_Reset) (x1 : List api_Reset) (s : Int) : Option (Int ⊕ (Bool ⊕ Unit)) := lombardref23_Resets.b0 x0 x1 s
noncomputable def lombardref23_Resets.f (x0 : List api_Reset) (x1 : List api_Reset) : Option (Bool) :=
  if ((List.length x0 : Int) != (List.length x1 : Int)) = true then
    some false
  else
    (loop (lombardref23_Resets.r0 x0 x1) 0).bind fun o16 =>
    match o16 with
    | .inl r23 => some r23
    | .inr w15 =>
      some true
set_option maxRecDepth 100000 in
set_option maxHeartbeats 4000000 in
theorem lombardref23_Resets.ok {x0 : List api_Reset} {x1 : List api_Reset} {r : Bool} (h : lombardref23_Resets.f x0 x1 = some r) : Pm.Spec prog 39 [.imm (.row 2 (List.map api_Reset.enc x0)), .imm (.row 2 (List.map api_Reset.enc x1))] (.imm (.val (.bool r))) [none, none] := by
 unfold lombardref23_Resets.f at h
 refine Pm.Spec.of_body Try.func39 rfl (by kernel_rfl) (Nat.le_of_ble_eq_true rfl) (Nat.le_of_ble_eq_true rfl) ?_
 refine W.ghost (σ' := (mkSt [(0, some (.imm (.row 2 (List.map api_Reset.enc x0)))), (1, some (.imm (.row 2 (List.map api_Reset.enc x1))))] [] 1000)) (Gives.entry (.c rfl (.c rfl .n)) .n) ?_
 refine W.seq ?_
 refine W.pk ?_
 refine .a rfl rfl rfl rfl ?_
 refine .nil ?_
 refine W.seq ?_
 refine W.seq ?_
 refine W.pk ?_
 refine .m rfl rfl rfl rfl ?_
 refine .v rfl rfl (O.lenR sl22 rfl rfl) ?_
 refine .m rfl rfl rfl rfl ?_
 refine .v rfl rfl (O.lenR sl22 rfl rfl) ?_
 refine .v rfl rfl (OpL.binI rfl rfl rfl rfl) ?_
 refine .nil ?_
 refine W.cond rfl (fun q1 => ?_) (fun q1 => ?_)
 ·have h := ifT q1 h
  refine W.seq ?_
  refine W.pk ?_
  refine .a rfl rfl rfl rfl ?_
  refine .nil ?_
  refine W.ret ?_
  cases h
  exact leaves (.inr rfl) rfl (.imm _) (cN (cN .nil)) rfl rfl
 ·have h := ifF q1 h
  refine W.skip ?_
  refine W.seq ?_
  refine W.seq ?_
  refine W.pk ?_
  refine .a rfl rfl rfl rfl ?_
  refine .nil ?_
  obtain ⟨o16, b17, z18⟩ := bnd1 h
  refine W.fork2 (out := o16) (fun (w15 : Unit) => mkSt [] [] 1000) ?_ ?_
  ·clear h
   refine W.block ?_
   refine W.loopF (fun (s_ : Int) => mkSt [(0, some (.imm (.row 2 (List.map api_Reset.enc x0)))), (1, some (.imm (.row 2 (List.map api_Reset.enc x1)))), (5, some (.i s_))] [] 1000) b17 (Gives.mkR [] (.r rfl rfl (.r rfl rfl (.r rfl rfl .n))) .n rfl rfl rfl) ?_
   rintro v6 s_ hr
   have h : lombardref23_Resets.b0 x0 x1 v6 = some s_ := hr
   unfold lombardref23_Resets.b0 at h
   refine W.seq ?_
   refine W.seq ?_
   refine W.pk ?_
   refine .m rfl rfl rfl rfl ?_
   refine .m rfl rfl rfl rfl ?_
   refine .v rfl rfl (O.lenR sl22 rfl rfl) ?_
   refine .v rfl rfl (OpL.binI rfl rfl rfl rfl) ?_
   refine .nil ?_
   refine W.cond rfl (fun q19 => ?_) (fun q19 => ?_)
   ·have h := ifT q19 h
    refine W.skip ?_
    refine W.seq ?_
    refine W.block ?_
    refine W.seq ?_
    obtain ⟨c20, h⟩ := chk h
    obtain ⟨c21, h⟩ := chk h
    refine W.dk (unm 9 [0, 0, 3, 7, 0, 0, 48, 112, 255]) rfl (by kernel_rfl) ?_
    refine .m rfl rfl rfl rfl ?_
    refine .m rfl rfl rfl rfl ?_
    refine .v rfl rfl (O.idx sl22 c20 rfl rfl rfl) ?_
    refine .v rfl rfl (O.ldN ty46 rfl rfl rfl) ?_
    refine .m rfl rfl rfl rfl ?_
    refine .m rfl rfl rfl rfl ?_
    refine .v rfl rfl (O.idx sl22 c21 rfl rfl rfl) ?_
    refine .v rfl rfl (O.ldN ty46 rfl rfl rfl) ?_
    refine .v rfl rfl (O.neS (r := ((((nth x0 v6).Day) == ((nth x1 v6).Day)) && (((nth x0 v6).Rate) == ((nth x1 v6).Rate)))) fl46 rfl rfl rfl rfl rfl rfl) ?_
    refine .nil ?_
    refine ⟨by kernel_rfl, by kernel_rfl, ?_⟩
    refine W.cond rfl (fun q22 => ?_) (fun q22 => ?_)
    ·have h := ifT q22 h
     refine W.seq ?_
     refine W.pk ?_
     refine .a rfl rfl rfl rfl ?_
     refine .nil ?_
     refine W.ret ?_
     cases h
     refine rdR fun e_ => ?_
     subst e_
     have h := z18
     dsimp only at h
     refine fkR ?_
     cases h
     exact leaves (.inr rfl) rfl (.imm _) (cN (cN .nil)) rfl rfl
    ·have h := ifF q22 h
     refine W.skip ?_
     refine W.pk ?_
     refine .m rfl rfl rfl rfl ?_
     refine .v rfl rfl (OpL.binI rfl rfl rfl rfl) ?_
     refine .a rfl rfl rfl rfl ?_
     refine .nil ?_
     cases h
     exact rdN (Gives.mkR [] (.r rfl rfl (.r rfl rfl (.r rfl rfl .n))) .n rfl rfl rfl)
   ·have h := ifF q19 h
    refine W.exit ?_
    cases h
    refine rdX fun e_ => ?_
    subst e_
    repeat with_reducible refine thru ?_
    refine hit ?_
    exact fkN (Gives.mkR [] .n .n rfl rfl rfl)
  ·intro w15 e_
   subst e_
   clear h
   have h := z18
   dsimp only at h
   refine W.seq ?_
   refine W.pk ?_
   refine .a rfl rfl rfl rfl ?_
   refine .nil ?_
   refine W.ret ?_
   cases h
   exact leaves (.inr rfl) rfl (.imm _) (cN (cN .nil)) rfl rfl
end Go.Proofs.Ytknfdnlhadjbaaa
