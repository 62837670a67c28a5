/- Shows what functions of the program come to, each as a plain function: written by a program of the author's for this claim. -/
import Derived.Test.YtidinbjehfodoaaGx10
namespace Go.Proofs.Ytidinbjehfodoaa
open Go Go.Pm
set_option linter.unusedVariables false
set_option linter.unusedSimpArgs false
set_option maxRecDepth 100000 in
set_option maxHeartbeats 4000000 in
theorem lombardlaw23_does_v2.ok {x0 : trade_Book} {x1 : lombardref23_Book} {x2 : lombardlaw23_Act} {r : Bool × trade_Book × lombardref23_Book} (h : lombardlaw23_does.f x0 x1 x2 = some r) : Pm.Spec prog 22 [.xbox [.xown 26 11 (List.map api_Trade.enc x0.l), .imm (.val (.int .i64 x0.next)), .imm (.val (.bool x0.made))], .xbox [.imm (.row 11 (List.map api_Trade.enc x1.L)), .imm (.val (.int .i64 x1.Next))], .agg [.imm (.val (.int .i64 x2.Kind)), .imm (.val (.int .i64 x2.Fill.Lender)), .imm (.val (.int .i64 x2.Fill.Borrower)), .imm (.val (.int .i64 x2.Fill.Basket)), .imm (.val (.int .i64 x2.Fill.Amount)), .imm (.val (.int .i64 x2.Fill.Rate)), .imm (.val (.int .i64 x2.Fill.Start)), .imm (.val (.int .i64 x2.Fill.End)), .imm (.val (.int .i64 x2.X.ID)), .imm (.val (.int .i64 x2.X.Twin)), .imm (.val (.int .i64 x2.X.Member)), .imm (.val (.int .i64 x2.X.Side)), .imm (.val (.int .i64 x2.X.Basket)), .imm (.val (.int .i64 x2.X.Amount)), .imm (.val (.int .i64 x2.X.Start)), .imm (.val (.int .i64 x2.X.End)), .imm (.row 2 (List.map api_Reset.enc x2.X.Resets)), .imm (.val (.int .i64 x2.X.Stage)), .imm (.val (.bool x2.X.Short)), .imm (.val (.int .i64 x2.Y.ID)), .imm (.val (.int .i64 x2.Y.Twin)), .imm (.val (.int .i64 x2.Y.Member)), .imm (.val (.int .i64 x2.Y.Side)), .imm (.val (.int .i64 x2.Y.Basket)), .imm (.val (.int .i64 x2.Y.Amount)), .imm (.val (.int .i64 x2.Y.Start)), .imm (.val (.int .i64 x2.Y.End)), .imm (.row 2 (List.map api_Reset.enc x2.Y.Resets)), .imm (.val (.int .i64 x2.Y.Stage)), .imm (.val (.bool x2.Y.Short)), .imm (.val (.int .i64 x2.ID))]] (.imm (.val (.bool r.1))) [some (.xbox [.xown 26 11 (List.map api_Trade.enc r.2.1.l), .imm (.val (.int .i64 r.2.1.next)), .imm (.val (.bool r.2.1.made))]), some (.xbox [.imm (.row 11 (List.map api_Trade.enc r.2.2.L)), .imm (.val (.int .i64 r.2.2.Next))]), none] := by
 unfold lombardlaw23_does.f at h
 refine Pm.Spec.of_body Try.func22 rfl (by kernel_rfl) (Nat.le_of_ble_eq_true rfl) (Nat.le_of_ble_eq_true rfl) ?_
 refine W.ghost (σ' := (mkSt [(0, some (.ptr 0 0)), (1, some (.ptr 2 0)), (2, some (.agg (lombardlaw23_Act.av x2)))] [(0, some (.box [.own 1, .i x0.next, .b x0.made])), (1, some (.rows 26 11 (List.map api_Trade.enc x0.l) false)), (2, some (.box [.imm (.row 11 (List.map api_Trade.enc x1.L)), .i x1.Next]))] 1000)) (Gives.entry (.c rfl (.c rfl (.c rfl .n))) (.c rfl (.c rfl (.c rfl .n)))) ?_
 refine W.ghost (σ' := (mkSt [(0, some (.ptr 0 0)), (1, some (.ptr 2 0)), (2, some (.agg (lombardlaw23_Act.av x2)))] [(0, some (.box [.own 1000, .i x0.next, .b x0.made])), (2, some (.box [.imm (.row 11 (List.map api_Trade.enc x1.L)), .i x1.Next])), (1000, some (.rows 26 11 (List.map api_Trade.enc x0.l) false))] 1001)) (Gives.mkR [(1000, 1)] (.r rfl rfl (.r rfl rfl (.r rfl rfl .n))) (.r rfl rfl rfl (.r rfl rfl rfl (.r rfl rfl rfl .n))) rfl rfl rfl) ?_
 refine W.seq ?_
 refine W.pk ?_
 refine .t rfl rfl (O.box rfl rfl rfl rfl rfl) ?_
 refine .a rfl rfl rfl rfl ?_
 refine .nil ?_
 refine W.seq ?_
 refine W.pk ?_
 refine .m rfl rfl rfl rfl ?_
 refine .v rfl rfl (OpL.nilP rfl rfl rfl) ?_
 refine .v rfl rfl (O.ldN ty47 rfl rfl rfl) ?_
 refine .t rfl rfl (O.alloc z47 rfl) ?_
 refine .s rfl rfl (O.st ty47 rfl rfl rfl rfl rfl rfl rfl rfl rfl rfl (all' := [.imm (.row 11 (List.map api_Trade.enc x1.L)), .i x1.Next]) rfl) ?_
 refine .a rfl rfl rfl rfl ?_
 refine .nil ?_
 refine W.seq ?_
 refine W.pk ?_
 refine .a rfl rfl rfl rfl ?_
 refine .nil ?_
 refine W.seq ?_
 refine W.pk ?_
 refine .a rfl rfl rfl rfl ?_
 refine .nil ?_
 refine W.seq ?_
 refine W.seq ?_
 refine W.pk ?_
 refine .v rfl rfl (O.fld fld50_0 rfl rfl rfl) ?_
 refine .v rfl rfl (O.ld (y := .i x2.Kind) ty3 rfl rfl rfl) ?_
 refine .nil ?_
 obtain ⟨o32, b33, h⟩ := bnd1 h
 refine W.fork (mkSt [(0, some (.ptr 0 0)), (1, some (.ptr 2 0)), (7, some (.ptr 1002 0)), (8, some (.i o32.1)), (9, some (.i o32.2.1)), (10, some (.b o32.2.2.1))] [(0, some (.box [.own 1003, .i o32.2.2.2.1, .b o32.2.2.2.2.1])), (2, some (.box [.imm (.row 11 (List.map api_Trade.enc x1.L)), .i x1.Next])), (1002, some (.box [.imm (.row 11 (List.map api_Trade.enc o32.2.2.2.2.2.1)), .i o32.2.2.2.2.2.2.1])), (1003, some (.rows 26 11 (List.map api_Trade.enc o32.2.2.2.2.2.2.2) false))] 1004) ?_ ?_
 ·refine W.seq ?_
  refine W.pk ?_
  refine .m rfl rfl rfl rfl ?_
  refine .v rfl rfl (O.ldN ty47 rfl rfl rfl) ?_
  refine .v rfl rfl (OpL.nilP rfl rfl rfl) ?_
  refine .s rfl rfl (O.st ty47 rfl rfl rfl rfl rfl rfl rfl rfl rfl rfl (all' := [.imm (.row 11 (List.map api_Trade.enc o32.2.2.2.2.2.1)), .i o32.2.2.2.2.2.2.1]) rfl) ?_
  refine .nil ?_
  refine W.seq ?_
  obtain ⟨t57, b58, h⟩ := bnd1 h
  obtain ⟨t59, b60, h⟩ := bnd1 h
  obtain ⟨t61, b62, h⟩ := bnd1 h
  refine W.fork (mkSt [(6, some (.b (((o32.2.2.1 && (o32.2.1 == o32.1)) && (t57 == o32.2.2.2.2.2.2.1)) && t61)))] [(0, some (.box [.own 1006, .i ((⟨o32.2.2.2.2.2.2.2, o32.2.2.2.1, o32.2.2.2.2.1⟩ : trade_Book).next), .b ((⟨o32.2.2.2.2.2.2.2, o32.2.2.2.1, o32.2.2.2.2.1⟩ : trade_Book).made)])), (2, some (.box [.imm (.row 11 (List.map api_Trade.enc o32.2.2.2.2.2.1)), .i o32.2.2.2.2.2.2.1])), (1006, some (.rows 26 11 (List.map api_Trade.enc ((⟨o32.2.2.2.2.2.2.2, o32.2.2.2.1, o32.2.2.2.2.1⟩ : trade_Book).l)) false))] 1007) ?_ ?_
  ·refine W.ret ?_
   cases h
   exact leaves (.inr rfl) rfl (.imm _) (cS (.ptr _ _ _ _ _ rfl (cC (.own _ _ _ _ rfl) (cC (.imm _) (cC (.imm _) .nil)))) (cS (.ptr _ _ _ _ _ rfl (cC (.imm _) (cC (.imm _) .nil))) (cN .nil))) rfl rfl
  ·clear h
   rcases tf o32.2.2.1 with g63 | g63
   ·rcases tf (o32.2.1 == o32.1) with g64 | g64
    ·rcases tf (t57 == o32.2.2.2.2.2.2.1) with g65 | g65
     ·refine W.dk (unm 25 [0, 1, 3, 3, 15, 31, 63, 127, 255, 127, 639, 1663, 3711, 8191, 16383, 32767, 65535, 131071, 65535, 327679, 851967, 1900543, 4194303, 8388607, 16777215]) rfl (by kernel_rfl) ?_
      refine .m rfl rfl rfl rfl ?_
      refine .m rfl rfl rfl rfl ?_
      refine .m rfl (met rfl rfl rfl g63) rfl rfl ?_
      refine .m rfl (met rfl rfl rfl g63) rfl rfl ?_
      refine .v rfl (met rfl rfl rfl g63) (OpL.binI rfl rfl rfl rfl) ?_
      refine .v rfl rfl (O.pickT g63 rfl rfl rfl) ?_
      refine .m rfl rfl rfl rfl ?_
      refine .m rfl (met rfl rfl rfl g64) rfl rfl ?_
      refine .call (.i t57) [(0, some (.box [.own 1004, .i ((⟨o32.2.2.2.2.2.2.2, o32.2.2.2.1, o32.2.2.2.2.1⟩ : trade_Book).next), .b ((⟨o32.2.2.2.2.2.2.2, o32.2.2.2.1, o32.2.2.2.2.1⟩ : trade_Book).made)])), (1004, some (.rows 26 11 (List.map api_Trade.enc ((⟨o32.2.2.2.2.2.2.2, o32.2.2.2.1, o32.2.2.2.2.1⟩ : trade_Book).l)) false)), (0, none), (1003, none)] 1 (trade_Book_Next.ok ((if_pos (by first | (simp only [g63, g64, g65, Bool.true_or, Bool.or_true, Bool.false_or, Bool.or_false, Bool.true_and, Bool.and_true, Bool.false_and, Bool.and_false, Bool.not_true, Bool.not_false, cond_true, cond_false]; done) | (repeat (first | rw [g63] | rw [g64] | rw [g65])) <;> simp only [Bool.true_or, Bool.or_true, Bool.false_or, Bool.or_false, Bool.true_and, Bool.and_true, Bool.false_and, Bool.and_false, Bool.not_true, Bool.not_false, cond_true, cond_false])).symm.trans b58)) rfl (met rfl rfl rfl g64) rfl ca19 rfl rfl (cC (.ptr _ _ _ _ _ rfl (cC (.own _ _ _ _ rfl) (cC (.imm _) (cC (.imm _) .nil)))) .nil) rfl rfl rfl rfl rfl ?_
      refine .m rfl (met rfl rfl rfl g64) rfl rfl ?_
      refine .v rfl (met rfl rfl rfl g64) (OpL.nilP rfl rfl rfl) ?_
      refine .v rfl (met rfl rfl rfl g64) (O.fld fld47_1 rfl rfl rfl) ?_
      refine .v rfl (met rfl rfl rfl g64) (O.ld (y := .i o32.2.2.2.2.2.2.1) ty3 rfl rfl rfl) ?_
      refine .v rfl (met rfl rfl rfl g64) (OpL.binI rfl rfl rfl rfl) ?_
      refine .v rfl rfl (O.pickT g64 rfl rfl rfl) ?_
      refine .m rfl rfl rfl rfl ?_
      refine .m rfl (met rfl rfl rfl g65) rfl rfl ?_
      refine .call (.own 1005) [(1005, some (.rows 26 11 (List.map api_Trade.enc t59) false)), (0, some (.box [.own 1006, .i ((⟨o32.2.2.2.2.2.2.2, o32.2.2.2.1, o32.2.2.2.2.1⟩ : trade_Book).next), .b ((⟨o32.2.2.2.2.2.2.2, o32.2.2.2.1, o32.2.2.2.2.1⟩ : trade_Book).made)])), (1006, some (.rows 26 11 (List.map api_Trade.enc ((⟨o32.2.2.2.2.2.2.2, o32.2.2.2.1, o32.2.2.2.2.1⟩ : trade_Book).l)) false)), (0, none), (1004, none)] 2 (trade_Book_All.ok ((if_pos (by first | (simp only [g63, g64, g65, Bool.true_or, Bool.or_true, Bool.false_or, Bool.or_false, Bool.true_and, Bool.and_true, Bool.false_and, Bool.and_false, Bool.not_true, Bool.not_false, cond_true, cond_false]; done) | (repeat (first | rw [g63] | rw [g64] | rw [g65])) <;> simp only [Bool.true_or, Bool.or_true, Bool.false_or, Bool.or_false, Bool.true_and, Bool.and_true, Bool.false_and, Bool.and_false, Bool.not_true, Bool.not_false, cond_true, cond_false])).symm.trans b60)) rfl (met rfl rfl rfl g65) rfl ca18 rfl rfl (cC (.ptr _ _ _ _ _ rfl (cC (.own _ _ _ _ rfl) (cC (.imm _) (cC (.imm _) .nil)))) .nil) rfl rfl rfl rfl rfl ?_
      refine .m rfl (met rfl rfl rfl g65) rfl rfl ?_
      refine .v rfl (met rfl rfl rfl g65) (OpL.nilP rfl rfl rfl) ?_
      refine .v rfl (met rfl rfl rfl g65) (O.fld fld47_0 rfl rfl rfl) ?_
      refine .v rfl (met rfl rfl rfl g65) (O.ld (y := .imm (.row 11 (List.map api_Trade.enc o32.2.2.2.2.2.1))) ty35 rfl rfl rfl) ?_
      refine .call (.b t61) [(1005, some (.rows 26 11 (List.map api_Trade.enc t59) false)), (1005, none)] 0 (lombardref23_All.ok ((if_pos (by first | (simp only [g63, g64, g65, Bool.true_or, Bool.or_true, Bool.false_or, Bool.or_false, Bool.true_and, Bool.and_true, Bool.false_and, Bool.and_false, Bool.not_true, Bool.not_false, cond_true, cond_false]; done) | (repeat (first | rw [g63] | rw [g64] | rw [g65])) <;> simp only [Bool.true_or, Bool.or_true, Bool.false_or, Bool.or_false, Bool.true_and, Bool.and_true, Bool.false_and, Bool.and_false, Bool.not_true, Bool.not_false, cond_true, cond_false])).symm.trans b62)) rfl (met rfl rfl rfl g65) rfl ca17 rfl rfl (cC (.own _ _ _ _ rfl) (cC (.imm _) .nil)) rfl rfl rfl rfl rfl ?_
      refine .v rfl rfl (O.pickT g65 rfl rfl rfl) ?_
      refine .a rfl rfl rfl rfl ?_
      refine .nil ?_
      refine ⟨by kernel_rfl, by kernel_rfl, ?_⟩
      exact toN (Gives.mkR [] (.c rfl (sbb (by first | (simp only [g63, g64, g65, Bool.true_or, Bool.or_true, Bool.false_or, Bool.or_false, Bool.true_and, Bool.and_true, Bool.false_and, Bool.and_false, Bool.not_true, Bool.not_false, cond_true, cond_false]; done) | (repeat (first | rw [g63] | rw [g64] | rw [g65])) <;> simp only [Bool.true_or, Bool.or_true, Bool.false_or, Bool.or_false, Bool.true_and, Bool.and_true, Bool.false_and, Bool.and_false, Bool.not_true, Bool.not_false, cond_true, cond_false])) rfl .n) (.r rfl rfl rfl (.r rfl rfl rfl (.r rfl rfl rfl .n))) rfl rfl rfl)
     ·refine W.dk (unm 25 [0, 1, 3, 3, 15, 31, 63, 127, 255, 127, 639, 1663, 3711, 8191, 16383, 32767, 65535, 131071, 65535, 327679, 851967, 1900543, 4194303, 8388607, 16777215]) rfl (by kernel_rfl) ?_
      refine .m rfl rfl rfl rfl ?_
      refine .m rfl rfl rfl rfl ?_
      refine .m rfl (met rfl rfl rfl g63) rfl rfl ?_
      refine .m rfl (met rfl rfl rfl g63) rfl rfl ?_
      refine .v rfl (met rfl rfl rfl g63) (OpL.binI rfl rfl rfl rfl) ?_
      refine .v rfl rfl (O.pickT g63 rfl rfl rfl) ?_
      refine .m rfl rfl rfl rfl ?_
      refine .m rfl (met rfl rfl rfl g64) rfl rfl ?_
      refine .call (.i t57) [(0, some (.box [.own 1004, .i ((⟨o32.2.2.2.2.2.2.2, o32.2.2.2.1, o32.2.2.2.2.1⟩ : trade_Book).next), .b ((⟨o32.2.2.2.2.2.2.2, o32.2.2.2.1, o32.2.2.2.2.1⟩ : trade_Book).made)])), (1004, some (.rows 26 11 (List.map api_Trade.enc ((⟨o32.2.2.2.2.2.2.2, o32.2.2.2.1, o32.2.2.2.2.1⟩ : trade_Book).l)) false)), (0, none), (1003, none)] 1 (trade_Book_Next.ok ((if_pos (by first | (simp only [g63, g64, g65, Bool.true_or, Bool.or_true, Bool.false_or, Bool.or_false, Bool.true_and, Bool.and_true, Bool.false_and, Bool.and_false, Bool.not_true, Bool.not_false, cond_true, cond_false]; done) | (repeat (first | rw [g63] | rw [g64] | rw [g65])) <;> simp only [Bool.true_or, Bool.or_true, Bool.false_or, Bool.or_false, Bool.true_and, Bool.and_true, Bool.false_and, Bool.and_false, Bool.not_true, Bool.not_false, cond_true, cond_false])).symm.trans b58)) rfl (met rfl rfl rfl g64) rfl ca19 rfl rfl (cC (.ptr _ _ _ _ _ rfl (cC (.own _ _ _ _ rfl) (cC (.imm _) (cC (.imm _) .nil)))) .nil) rfl rfl rfl rfl rfl ?_
      refine .m rfl (met rfl rfl rfl g64) rfl rfl ?_
      refine .v rfl (met rfl rfl rfl g64) (OpL.nilP rfl rfl rfl) ?_
      refine .v rfl (met rfl rfl rfl g64) (O.fld fld47_1 rfl rfl rfl) ?_
      refine .v rfl (met rfl rfl rfl g64) (O.ld (y := .i o32.2.2.2.2.2.2.1) ty3 rfl rfl rfl) ?_
      refine .v rfl (met rfl rfl rfl g64) (OpL.binI rfl rfl rfl rfl) ?_
      refine .v rfl rfl (O.pickT g64 rfl rfl rfl) ?_
      refine .m rfl rfl rfl rfl ?_
      refine .x rfl (unmet rfl rfl rfl g65) ?_
      refine .x rfl (unmet rfl rfl rfl g65) ?_
      refine .x rfl (unmet rfl rfl rfl g65) ?_
      refine .x rfl (unmet rfl rfl rfl g65) ?_
      refine .x rfl (unmet rfl rfl rfl g65) ?_
      refine .x rfl (unmet rfl rfl rfl g65) ?_
      refine .x rfl (unmet rfl rfl rfl g65) ?_
      refine .v rfl rfl (O.pickF g65 rfl rfl rfl) ?_
      refine .a rfl rfl rfl rfl ?_
      refine .nil ?_
      refine ⟨by kernel_rfl, by kernel_rfl, ?_⟩
      exact toN (Gives.mkR [(1006, 1004)] (.c rfl (sbb (by first | (simp only [g63, g64, g65, Bool.true_or, Bool.or_true, Bool.false_or, Bool.or_false, Bool.true_and, Bool.and_true, Bool.false_and, Bool.and_false, Bool.not_true, Bool.not_false, cond_true, cond_false]; done) | (repeat (first | rw [g63] | rw [g64] | rw [g65])) <;> simp only [Bool.true_or, Bool.or_true, Bool.false_or, Bool.or_false, Bool.true_and, Bool.and_true, Bool.false_and, Bool.and_false, Bool.not_true, Bool.not_false, cond_true, cond_false])) rfl .n) (.r rfl rfl rfl (.r rfl rfl rfl (.r rfl rfl rfl .n))) rfl rfl rfl)
    ·refine W.dk (unm 25 [0, 1, 3, 3, 15, 31, 63, 127, 255, 127, 639, 1663, 3711, 8191, 16383, 32767, 65535, 131071, 65535, 327679, 851967, 1900543, 4194303, 8388607, 16777215]) rfl (by kernel_rfl) ?_
     refine .m rfl rfl rfl rfl ?_
     refine .m rfl rfl rfl rfl ?_
     refine .m rfl (met rfl rfl rfl g63) rfl rfl ?_
     refine .m rfl (met rfl rfl rfl g63) rfl rfl ?_
     refine .v rfl (met rfl rfl rfl g63) (OpL.binI rfl rfl rfl rfl) ?_
     refine .v rfl rfl (O.pickT g63 rfl rfl rfl) ?_
     refine .m rfl rfl rfl rfl ?_
     refine .x rfl (unmet rfl rfl rfl g64) ?_
     refine .x rfl (unmet rfl rfl rfl g64) ?_
     refine .x rfl (unmet rfl rfl rfl g64) ?_
     refine .x rfl (unmet rfl rfl rfl g64) ?_
     refine .x rfl (unmet rfl rfl rfl g64) ?_
     refine .x rfl (unmet rfl rfl rfl g64) ?_
     refine .x rfl (unmet rfl rfl rfl g64) ?_
     refine .v rfl rfl (O.pickF g64 rfl rfl rfl) ?_
     refine .m rfl rfl rfl rfl ?_
     refine .x rfl (unmet rfl rfl rfl rfl) ?_
     refine .x rfl (unmet rfl rfl rfl rfl) ?_
     refine .x rfl (unmet rfl rfl rfl rfl) ?_
     refine .x rfl (unmet rfl rfl rfl rfl) ?_
     refine .x rfl (unmet rfl rfl rfl rfl) ?_
     refine .x rfl (unmet rfl rfl rfl rfl) ?_
     refine .x rfl (unmet rfl rfl rfl rfl) ?_
     refine .v rfl rfl (O.pickF rfl rfl rfl rfl) ?_
     refine .a rfl rfl rfl rfl ?_
     refine .nil ?_
     refine ⟨by kernel_rfl, by kernel_rfl, ?_⟩
     exact toN (Gives.mkR [(1006, 1003)] (.c rfl (sbb (by first | (simp only [g63, g64, Bool.true_or, Bool.or_true, Bool.false_or, Bool.or_false, Bool.true_and, Bool.and_true, Bool.false_and, Bool.and_false, Bool.not_true, Bool.not_false, cond_true, cond_false]; done) | (repeat (first | rw [g63] | rw [g64])) <;> simp only [Bool.true_or, Bool.or_true, Bool.false_or, Bool.or_false, Bool.true_and, Bool.and_true, Bool.false_and, Bool.and_false, Bool.not_true, Bool.not_false, cond_true, cond_false])) rfl .n) (.c rfl (.box (.cons (.rfl _) (.cons (sii (by first | (simp only [g63, g64, Bool.true_or, Bool.or_true, Bool.false_or, Bool.or_false, Bool.true_and, Bool.and_true, Bool.false_and, Bool.and_false, Bool.not_true, Bool.not_false, cond_true, cond_false]; done) | (repeat (first | rw [g63] | rw [g64])) <;> simp only [Bool.true_or, Bool.or_true, Bool.false_or, Bool.or_false, Bool.true_and, Bool.and_true, Bool.false_and, Bool.and_false, Bool.not_true, Bool.not_false, cond_true, cond_false])) (.cons (sbb (by first | (simp only [g63, g64, Bool.true_or, Bool.or_true, Bool.false_or, Bool.or_false, Bool.true_and, Bool.and_true, Bool.false_and, Bool.and_false, Bool.not_true, Bool.not_false, cond_true, cond_false]; done) | (repeat (first | rw [g63] | rw [g64])) <;> simp only [Bool.true_or, Bool.or_true, Bool.false_or, Bool.or_false, Bool.true_and, Bool.and_true, Bool.false_and, Bool.and_false, Bool.not_true, Bool.not_false, cond_true, cond_false])) .nil)))) rfl rfl (.r rfl rfl rfl (.c rfl (kro (by first | (simp only [g63, g64, Bool.true_or, Bool.or_true, Bool.false_or, Bool.or_false, Bool.true_and, Bool.and_true, Bool.false_and, Bool.and_false, Bool.not_true, Bool.not_false, cond_true, cond_false]; done) | (repeat (first | rw [g63] | rw [g64])) <;> simp only [Bool.true_or, Bool.or_true, Bool.false_or, Bool.or_false, Bool.true_and, Bool.and_true, Bool.false_and, Bool.and_false, Bool.not_true, Bool.not_false, cond_true, cond_false])) rfl rfl .n))) rfl rfl rfl)
   ·refine W.dk (unm 25 [0, 1, 3, 3, 15, 31, 63, 127, 255, 127, 639, 1663, 3711, 8191, 16383, 32767, 65535, 131071, 65535, 327679, 851967, 1900543, 4194303, 8388607, 16777215]) rfl (by kernel_rfl) ?_
    refine .m rfl rfl rfl rfl ?_
    refine .m rfl rfl rfl rfl ?_
    refine .x rfl (unmet rfl rfl rfl g63) ?_
    refine .x rfl (unmet rfl rfl rfl g63) ?_
    refine .x rfl (unmet rfl rfl rfl g63) ?_
    refine .v rfl rfl (O.pickF g63 rfl rfl rfl) ?_
    refine .m rfl rfl rfl rfl ?_
    refine .x rfl (unmet rfl rfl rfl rfl) ?_
    refine .x rfl (unmet rfl rfl rfl rfl) ?_
    refine .x rfl (unmet rfl rfl rfl rfl) ?_
    refine .x rfl (unmet rfl rfl rfl rfl) ?_
    refine .x rfl (unmet rfl rfl rfl rfl) ?_
    refine .x rfl (unmet rfl rfl rfl rfl) ?_
    refine .x rfl (unmet rfl rfl rfl rfl) ?_
    refine .v rfl rfl (O.pickF rfl rfl rfl rfl) ?_
    refine .m rfl rfl rfl rfl ?_
    refine .x rfl (unmet rfl rfl rfl rfl) ?_
    refine .x rfl (unmet rfl rfl rfl rfl) ?_
    refine .x rfl (unmet rfl rfl rfl rfl) ?_
    refine .x rfl (unmet rfl rfl rfl rfl) ?_
    refine .x rfl (unmet rfl rfl rfl rfl) ?_
    refine .x rfl (unmet rfl rfl rfl rfl) ?_
    refine .x rfl (unmet rfl rfl rfl rfl) ?_
    refine .v rfl rfl (O.pickF rfl rfl rfl rfl) ?_
    refine .a rfl rfl rfl rfl ?_
    refine .nil ?_
    refine ⟨by kernel_rfl, by kernel_rfl, ?_⟩
    exact toN (Gives.mkR [(1006, 1003)] (.c rfl (sbb (by simp only [g63, Bool.true_or, Bool.or_true, Bool.false_or, Bool.or_false, Bool.true_and, Bool.and_true, Bool.false_and, Bool.and_false, Bool.not_true, Bool.not_false, cond_true, cond_false])) rfl .n) (.c rfl (.box (.cons (.rfl _) (.cons (sii (by simp only [g63, Bool.true_or, Bool.or_true, Bool.false_or, Bool.or_false, Bool.true_and, Bool.and_true, Bool.false_and, Bool.and_false, Bool.not_true, Bool.not_false, cond_true, cond_false])) (.cons (sbb (by simp only [g63, Bool.true_or, Bool.or_true, Bool.false_or, Bool.or_false, Bool.true_and, Bool.and_true, Bool.false_and, Bool.and_false, Bool.not_true, Bool.not_false, cond_true, cond_false])) .nil)))) rfl rfl (.r rfl rfl rfl (.c rfl (kro (by simp only [g63, Bool.true_or, Bool.or_true, Bool.false_or, Bool.or_false, Bool.true_and, Bool.and_true, Bool.false_and, Bool.and_false, Bool.not_true, Bool.not_false, cond_true, cond_false])) rfl rfl .n))) rfl rfl rfl)
 ·clear h
  have h := b33
  refine W.block ?_
  refine W.seq ?_
  refine W.pk ?_
  refine .v rfl rfl (OpL.binI rfl rfl rfl rfl) ?_
  refine .a rfl rfl rfl rfl ?_
  refine .nil ?_
  refine W.cond rfl (fun q34 => ?_) (fun q34 => ?_)
  ·have h := ifT q34 h
   refine W.seq ?_
   obtain ⟨t35, b36, h⟩ := bnd1 h
   refine W.dk (unm 11 [0, 1, 3, 0, 8, 31, 63, 127, 127, 255, 1023]) rfl (by kernel_rfl) ?_
   refine .m rfl rfl rfl rfl ?_
   refine .v rfl rfl (OpL.nilP rfl rfl rfl) ?_
   refine .v rfl rfl (O.ldN ty47 rfl rfl rfl) ?_
   refine .v rfl rfl (O.fld fld50_1 rfl rfl rfl) ?_
   refine .v rfl rfl (O.ldN ty23 rfl rfl rfl) ?_
   refine .call (.tup [.agg [.imm (.row 11 (List.map api_Trade.enc t35.1.L)), .i t35.1.Next], .i t35.2]) [] 0 (lombardref23_Book_Novate.ok b36) rfl rfl rfl ca43 rfl rfl (cC (.agg _ _ _ _ (cC (.imm _) (cC (.imm _) .nil))) (cC (.agg _ _ _ _ (cC (.imm _) (cC (.imm _) (cC (.imm _) (cC (.imm _) (cC (.imm _) (cC (.imm _) (cC (.imm _) .nil)))))))) .nil)) rfl rfl rfl rfl rfl ?_
   refine .m rfl rfl rfl rfl ?_
   refine .v rfl rfl (OpL.extract rfl rfl rfl) ?_
   refine .v rfl rfl (OpL.extract rfl rfl rfl) ?_
   refine .s rfl rfl (O.st ty47 rfl rfl rfl rfl rfl rfl rfl rfl rfl rfl (all' := [.imm (.row 11 (List.map api_Trade.enc t35.1.L)), .i t35.1.Next]) rfl) ?_
   refine .a rfl rfl rfl rfl ?_
   refine .nil ?_
   refine ⟨by kernel_rfl, by kernel_rfl, ?_⟩
   refine W.seq ?_
   obtain ⟨t37, b38, h⟩ := bnd1 h
   refine W.pk ?_
   refine .m rfl rfl rfl rfl ?_
   refine .v rfl rfl (O.fld fld50_1 rfl rfl rfl) ?_
   refine .v rfl rfl (O.ldN ty23 rfl rfl rfl) ?_
   refine .call (.tup [.i t37.1, .i t37.2.1, .i t37.2.2.1]) [(0, some (.box [.own 1003, .i t37.2.2.2.next, .b t37.2.2.2.made])), (1003, some (.rows 26 11 (List.map api_Trade.enc t37.2.2.2.l) false)), (0, none), (1000, none)] 1 (trade_Book_Novate.ok b38) rfl rfl rfl ca31 rfl rfl (cC (.ptr _ _ _ _ _ rfl (cC (.own _ _ _ _ rfl) (cC (.imm _) (cC (.imm _) .nil)))) (cC (.agg _ _ _ _ (cC (.imm _) (cC (.imm _) (cC (.imm _) (cC (.imm _) (cC (.imm _) (cC (.imm _) (cC (.imm _) .nil)))))))) .nil)) rfl rfl rfl rfl rfl ?_
   refine .m rfl rfl rfl rfl ?_
   refine .v rfl rfl (OpL.extract rfl rfl rfl) ?_
   refine .v rfl rfl (OpL.extract rfl rfl rfl) ?_
   refine .v rfl rfl (OpL.extract rfl rfl rfl) ?_
   refine .a rfl rfl rfl rfl ?_
   refine .a rfl rfl rfl rfl ?_
   refine .a rfl rfl rfl rfl ?_
   refine .nil ?_
   refine W.seq ?_
   refine W.pk ?_
   refine .m rfl rfl rfl rfl ?_
   refine .a rfl rfl rfl rfl ?_
   refine .nil ?_
   refine W.fork (mkSt [(0, some (.ptr 0 0)), (1, some (.ptr 2 0)), (7, some (.ptr 1002 0)), (8, some (.i t35.2)), (9, some (.i t37.2.2.1)), (10, some (.b ((((t37.2.2.1 != 0) && (t37.1 == 0)) && (t37.2.1 == 0)) || (((t37.2.2.1 == 0) && (t37.1 == (IntKind.wrap .i64 (t35.1.Next - 1)))) && (t37.2.1 == t35.1.Next)))))] [(0, some (.box [.own 1003, .i t37.2.2.2.next, .b t37.2.2.2.made])), (2, some (.box [.imm (.row 11 (List.map api_Trade.enc x1.L)), .i x1.Next])), (1002, some (.box [.imm (.row 11 (List.map api_Trade.enc t35.1.L)), .i t35.1.Next])), (1003, some (.rows 26 11 (List.map api_Trade.enc t37.2.2.2.l) false))] 1004) ?_ ?_
   ·cases h
    exact toN (Gives.mkR [] (.r rfl rfl (.r rfl rfl (.r rfl rfl (.r rfl rfl (.r rfl rfl (.r rfl rfl .n)))))) (.r rfl rfl rfl (.r rfl rfl rfl (.r rfl rfl rfl (.r rfl rfl rfl .n)))) rfl rfl rfl)
   ·clear h
    rcases tf (t37.2.2.1 != 0) with g39 | g39
    ·rcases tf (t37.1 == 0) with g40 | g40
     ·rcases tf (t37.2.1 == 0) with g41 | g41
      ·refine W.pk ?_
       refine .m rfl rfl rfl rfl ?_
       refine .v rfl rfl (OpL.binI rfl rfl rfl rfl) ?_
       refine .m rfl rfl rfl rfl ?_
       refine .m rfl (met rfl rfl rfl g39) rfl rfl ?_
       refine .v rfl (met rfl rfl rfl g39) (OpL.binI rfl rfl rfl rfl) ?_
       refine .v rfl rfl (O.pickT g39 rfl rfl rfl) ?_
       refine .m rfl rfl rfl rfl ?_
       refine .m rfl (met rfl rfl rfl g40) rfl rfl ?_
       refine .v rfl (met rfl rfl rfl g40) (OpL.binI rfl rfl rfl rfl) ?_
       refine .v rfl rfl (O.pickT g40 rfl rfl rfl) ?_
       refine .m rfl rfl rfl rfl ?_
       refine .x rfl (unmet rfl rfl rfl g41) ?_
       refine .x rfl (unmet rfl rfl rfl g41) ?_
       refine .x rfl (unmet rfl rfl rfl g41) ?_
       refine .x rfl (unmetU rfl rfl rfl) ?_
       refine .x rfl (unmetU rfl rfl rfl) ?_
       refine .x rfl (unmetU rfl rfl rfl) ?_
       refine .x rfl (unmetU rfl rfl rfl) ?_
       refine .x rfl (unmetU rfl rfl rfl) ?_
       refine .x rfl (unmet rfl rfl rfl g41) ?_
       refine .x rfl (unmet rfl rfl rfl g41) ?_
       refine .x rfl (unmetU rfl rfl rfl) ?_
       refine .x rfl (unmetU rfl rfl rfl) ?_
       refine .x rfl (unmetU rfl rfl rfl) ?_
       refine .x rfl (unmetU rfl rfl rfl) ?_
       refine .x rfl (unmet rfl rfl rfl g41) ?_
       refine .v rfl rfl (O.pickT g41 rfl rfl rfl) ?_
       refine .a rfl rfl rfl rfl ?_
       refine .nil ?_
       exact toN (Gives.mkR [] (.r rfl rfl (.r rfl rfl (.r rfl rfl (.r rfl rfl (.r rfl rfl (.c rfl (sbb (by first | (simp only [g39, g40, g41, Bool.true_or, Bool.or_true, Bool.false_or, Bool.or_false, Bool.true_and, Bool.and_true, Bool.false_and, Bool.and_false, Bool.not_true, Bool.not_false, cond_true, cond_false]; done) | (repeat (first | rw [g39] | rw [g40] | rw [g41])) <;> simp only [Bool.true_or, Bool.or_true, Bool.false_or, Bool.or_false, Bool.true_and, Bool.and_true, Bool.false_and, Bool.and_false, Bool.not_true, Bool.not_false, cond_true, cond_false])) rfl .n)))))) (.r rfl rfl rfl (.r rfl rfl rfl (.r rfl rfl rfl (.r rfl rfl rfl .n)))) rfl rfl rfl)
      ·rcases tf (t37.2.2.1 == 0) with g42 | g42
       ·rcases tf (t37.1 == (IntKind.wrap .i64 (t35.1.Next - 1))) with g43 | g43
        ·refine W.pk ?_
         refine .m rfl rfl rfl rfl ?_
         refine .v rfl rfl (OpL.binI rfl rfl rfl rfl) ?_
         refine .m rfl rfl rfl rfl ?_
         refine .m rfl (met rfl rfl rfl g39) rfl rfl ?_
         refine .v rfl (met rfl rfl rfl g39) (OpL.binI rfl rfl rfl rfl) ?_
         refine .v rfl rfl (O.pickT g39 rfl rfl rfl) ?_
         refine .m rfl rfl rfl rfl ?_
         refine .m rfl (met rfl rfl rfl g40) rfl rfl ?_
         refine .v rfl (met rfl rfl rfl g40) (OpL.binI rfl rfl rfl rfl) ?_
         refine .v rfl rfl (O.pickT g40 rfl rfl rfl) ?_
         refine .m rfl rfl rfl rfl ?_
         refine .m rfl (met rfl rfl rfl g41) rfl rfl ?_
         refine .v rfl (met rfl rfl rfl g41) (OpL.binI rfl rfl rfl rfl) ?_
         refine .m rfl (met rfl rfl rfl g41) rfl rfl ?_
         refine .m rfl (met rfl rfl rfl g42) rfl rfl ?_
         refine .v rfl (met rfl rfl rfl g42) (O.fld fld47_1 rfl rfl rfl) ?_
         refine .v rfl (met rfl rfl rfl g42) (O.ld (y := .i t35.1.Next) ty3 rfl rfl rfl) ?_
         refine .v rfl (met rfl rfl rfl g42) (OpL.binI rfl rfl rfl rfl) ?_
         refine .v rfl (met rfl rfl rfl g42) (OpL.binI rfl rfl rfl rfl) ?_
         refine .v rfl (met rfl rfl rfl g41) (O.pickT g42 rfl rfl rfl) ?_
         refine .m rfl (met rfl rfl rfl g41) rfl rfl ?_
         refine .m rfl (met rfl rfl rfl g43) rfl rfl ?_
         refine .v rfl (met rfl rfl rfl g43) (O.fld fld47_1 rfl rfl rfl) ?_
         refine .v rfl (met rfl rfl rfl g43) (O.ld (y := .i t35.1.Next) ty3 rfl rfl rfl) ?_
         refine .v rfl (met rfl rfl rfl g43) (OpL.binI rfl rfl rfl rfl) ?_
         refine .v rfl (met rfl rfl rfl g41) (O.pickT g43 rfl rfl rfl) ?_
         refine .v rfl rfl (O.pickF g41 rfl rfl rfl) ?_
         refine .a rfl rfl rfl rfl ?_
         refine .nil ?_
         exact toN (Gives.mkR [] (.r rfl rfl (.r rfl rfl (.r rfl rfl (.r rfl rfl (.r rfl rfl (.c rfl (sbb (by first | (simp only [g39, g40, g41, g42, g43, Bool.true_or, Bool.or_true, Bool.false_or, Bool.or_false, Bool.true_and, Bool.and_true, Bool.false_and, Bool.and_false, Bool.not_true, Bool.not_false, cond_true, cond_false]; done) | (repeat (first | rw [g39] | rw [g40] | rw [g41] | rw [g42] | rw [g43])) <;> simp only [Bool.true_or, Bool.or_true, Bool.false_or, Bool.or_false, Bool.true_and, Bool.and_true, Bool.false_and, Bool.and_false, Bool.not_true, Bool.not_false, cond_true, cond_false])) rfl .n)))))) (.r rfl rfl rfl (.r rfl rfl rfl (.r rfl rfl rfl (.r rfl rfl rfl .n)))) rfl rfl rfl)
        ·refine W.pk ?_
         refine .m rfl rfl rfl rfl ?_
         refine .v rfl rfl (OpL.binI rfl rfl rfl rfl) ?_
         refine .m rfl rfl rfl rfl ?_
         refine .m rfl (met rfl rfl rfl g39) rfl rfl ?_
         refine .v rfl (met rfl rfl rfl g39) (OpL.binI rfl rfl rfl rfl) ?_
         refine .v rfl rfl (O.pickT g39 rfl rfl rfl) ?_
         refine .m rfl rfl rfl rfl ?_
         refine .m rfl (met rfl rfl rfl g40) rfl rfl ?_
         refine .v rfl (met rfl rfl rfl g40) (OpL.binI rfl rfl rfl rfl) ?_
         refine .v rfl rfl (O.pickT g40 rfl rfl rfl) ?_
         refine .m rfl rfl rfl rfl ?_
         refine .m rfl (met rfl rfl rfl g41) rfl rfl ?_
         refine .v rfl (met rfl rfl rfl g41) (OpL.binI rfl rfl rfl rfl) ?_
         refine .m rfl (met rfl rfl rfl g41) rfl rfl ?_
         refine .m rfl (met rfl rfl rfl g42) rfl rfl ?_
         refine .v rfl (met rfl rfl rfl g42) (O.fld fld47_1 rfl rfl rfl) ?_
         refine .v rfl (met rfl rfl rfl g42) (O.ld (y := .i t35.1.Next) ty3 rfl rfl rfl) ?_
         refine .v rfl (met rfl rfl rfl g42) (OpL.binI rfl rfl rfl rfl) ?_
         refine .v rfl (met rfl rfl rfl g42) (OpL.binI rfl rfl rfl rfl) ?_
         refine .v rfl (met rfl rfl rfl g41) (O.pickT g42 rfl rfl rfl) ?_
         refine .m rfl (met rfl rfl rfl g41) rfl rfl ?_
         refine .x rfl (unmet rfl rfl rfl g43) ?_
         refine .x rfl (unmet rfl rfl rfl g43) ?_
         refine .x rfl (unmet rfl rfl rfl g43) ?_
         refine .x rfl (unmet rfl rfl rfl g43) ?_
         refine .v rfl (met rfl rfl rfl g41) (O.pickF g43 rfl rfl rfl) ?_
         refine .v rfl rfl (O.pickF g41 rfl rfl rfl) ?_
         refine .a rfl rfl rfl rfl ?_
         refine .nil ?_
         exact toN (Gives.mkR [] (.r rfl rfl (.r rfl rfl (.r rfl rfl (.r rfl rfl (.r rfl rfl (.c rfl (sbb (by first | (simp only [g39, g40, g41, g42, g43, Bool.true_or, Bool.or_true, Bool.false_or, Bool.or_false, Bool.true_and, Bool.and_true, Bool.false_and, Bool.and_false, Bool.not_true, Bool.not_false, cond_true, cond_false]; done) | (repeat (first | rw [g39] | rw [g40] | rw [g41] | rw [g42] | rw [g43])) <;> simp only [Bool.true_or, Bool.or_true, Bool.false_or, Bool.or_false, Bool.true_and, Bool.and_true, Bool.false_and, Bool.and_false, Bool.not_true, Bool.not_false, cond_true, cond_false])) rfl .n)))))) (.r rfl rfl rfl (.r rfl rfl rfl (.r rfl rfl rfl (.r rfl rfl rfl .n)))) rfl rfl rfl)
       ·refine W.pk ?_
        refine .m rfl rfl rfl rfl ?_
        refine .v rfl rfl (OpL.binI rfl rfl rfl rfl) ?_
        refine .m rfl rfl rfl rfl ?_
        refine .m rfl (met rfl rfl rfl g39) rfl rfl ?_
        refine .v rfl (met rfl rfl rfl g39) (OpL.binI rfl rfl rfl rfl) ?_
        refine .v rfl rfl (O.pickT g39 rfl rfl rfl) ?_
        refine .m rfl rfl rfl rfl ?_
        refine .m rfl (met rfl rfl rfl g40) rfl rfl ?_
        refine .v rfl (met rfl rfl rfl g40) (OpL.binI rfl rfl rfl rfl) ?_
        refine .v rfl rfl (O.pickT g40 rfl rfl rfl) ?_
        refine .m rfl rfl rfl rfl ?_
        refine .m rfl (met rfl rfl rfl g41) rfl rfl ?_
        refine .v rfl (met rfl rfl rfl g41) (OpL.binI rfl rfl rfl rfl) ?_
        refine .m rfl (met rfl rfl rfl g41) rfl rfl ?_
        refine .x rfl (unmet rfl rfl rfl g42) ?_
        refine .x rfl (unmet rfl rfl rfl g42) ?_
        refine .x rfl (unmet rfl rfl rfl g42) ?_
        refine .x rfl (unmet rfl rfl rfl g42) ?_
        refine .x rfl (unmet rfl rfl rfl g42) ?_
        refine .v rfl (met rfl rfl rfl g41) (O.pickF g42 rfl rfl rfl) ?_
        refine .m rfl (met rfl rfl rfl g41) rfl rfl ?_
        refine .x rfl (unmet rfl rfl rfl rfl) ?_
        refine .x rfl (unmet rfl rfl rfl rfl) ?_
        refine .x rfl (unmet rfl rfl rfl rfl) ?_
        refine .x rfl (unmet rfl rfl rfl rfl) ?_
        refine .v rfl (met rfl rfl rfl g41) (O.pickF rfl rfl rfl rfl) ?_
        refine .v rfl rfl (O.pickF g41 rfl rfl rfl) ?_
        refine .a rfl rfl rfl rfl ?_
        refine .nil ?_
        exact toN (Gives.mkR [] (.r rfl rfl (.r rfl rfl (.r rfl rfl (.r rfl rfl (.r rfl rfl (.c rfl (sbb (by first | (simp only [g39, g40, g41, g42, Bool.true_or, Bool.or_true, Bool.false_or, Bool.or_false, Bool.true_and, Bool.and_true, Bool.false_and, Bool.and_false, Bool.not_true, Bool.not_false, cond_true, cond_false]; done) | (repeat (first | rw [g39] | rw [g40] | rw [g41] | rw [g42])) <;> simp only [Bool.true_or, Bool.or_true, Bool.false_or, Bool.or_false, Bool.true_and, Bool.and_true, Bool.false_and, Bool.and_false, Bool.not_true, Bool.not_false, cond_true, cond_false])) rfl .n)))))) (.r rfl rfl rfl (.r rfl rfl rfl (.r rfl rfl rfl (.r rfl rfl rfl .n)))) rfl rfl rfl)
     ·rcases tf (t37.2.2.1 == 0) with g44 | g44
      ·rcases tf (t37.1 == (IntKind.wrap .i64 (t35.1.Next - 1))) with g45 | g45
       ·refine W.pk ?_
        refine .m rfl rfl rfl rfl ?_
        refine .v rfl rfl (OpL.binI rfl rfl rfl rfl) ?_
        refine .m rfl rfl rfl rfl ?_
        refine .m rfl (met rfl rfl rfl g39) rfl rfl ?_
        refine .v rfl (met rfl rfl rfl g39) (OpL.binI rfl rfl rfl rfl) ?_
        refine .v rfl rfl (O.pickT g39 rfl rfl rfl) ?_
        refine .m rfl rfl rfl rfl ?_
        refine .x rfl (unmet rfl rfl rfl g40) ?_
        refine .x rfl (unmet rfl rfl rfl g40) ?_
        refine .v rfl rfl (O.pickF g40 rfl rfl rfl) ?_
        refine .m rfl rfl rfl rfl ?_
        refine .m rfl (met rfl rfl rfl rfl) rfl rfl ?_
        refine .v rfl (met rfl rfl rfl rfl) (OpL.binI rfl rfl rfl rfl) ?_
        refine .m rfl (met rfl rfl rfl rfl) rfl rfl ?_
        refine .m rfl (met rfl rfl rfl g44) rfl rfl ?_
        refine .v rfl (met rfl rfl rfl g44) (O.fld fld47_1 rfl rfl rfl) ?_
        refine .v rfl (met rfl rfl rfl g44) (O.ld (y := .i t35.1.Next) ty3 rfl rfl rfl) ?_
        refine .v rfl (met rfl rfl rfl g44) (OpL.binI rfl rfl rfl rfl) ?_
        refine .v rfl (met rfl rfl rfl g44) (OpL.binI rfl rfl rfl rfl) ?_
        refine .v rfl (met rfl rfl rfl rfl) (O.pickT g44 rfl rfl rfl) ?_
        refine .m rfl (met rfl rfl rfl rfl) rfl rfl ?_
        refine .m rfl (met rfl rfl rfl g45) rfl rfl ?_
        refine .v rfl (met rfl rfl rfl g45) (O.fld fld47_1 rfl rfl rfl) ?_
        refine .v rfl (met rfl rfl rfl g45) (O.ld (y := .i t35.1.Next) ty3 rfl rfl rfl) ?_
        refine .v rfl (met rfl rfl rfl g45) (OpL.binI rfl rfl rfl rfl) ?_
        refine .v rfl (met rfl rfl rfl rfl) (O.pickT g45 rfl rfl rfl) ?_
        refine .v rfl rfl (O.pickF rfl rfl rfl rfl) ?_
        refine .a rfl rfl rfl rfl ?_
        refine .nil ?_
        exact toN (Gives.mkR [] (.r rfl rfl (.r rfl rfl (.r rfl rfl (.r rfl rfl (.r rfl rfl (.c rfl (sbb (by first | (simp only [g39, g40, g44, g45, Bool.true_or, Bool.or_true, Bool.false_or, Bool.or_false, Bool.true_and, Bool.and_true, Bool.false_and, Bool.and_false, Bool.not_true, Bool.not_false, cond_true, cond_false]; done) | (repeat (first | rw [g39] | rw [g40] | rw [g44] | rw [g45])) <;> simp only [Bool.true_or, Bool.or_true, Bool.false_or, Bool.or_false, Bool.true_and, Bool.and_true, Bool.false_and, Bool.and_false, Bool.not_true, Bool.not_false, cond_true, cond_false])) rfl .n)))))) (.r rfl rfl rfl (.r rfl rfl rfl (.r rfl rfl rfl (.r rfl rfl rfl .n)))) rfl rfl rfl)
       ·refine W.pk ?_
        refine .m rfl rfl rfl rfl ?_
        refine .v rfl rfl (OpL.binI rfl rfl rfl rfl) ?_
        refine .m rfl rfl rfl rfl ?_
        refine .m rfl (met rfl rfl rfl g39) rfl rfl ?_
        refine .v rfl (met rfl rfl rfl g39) (OpL.binI rfl rfl rfl rfl) ?_
        refine .v rfl rfl (O.pickT g39 rfl rfl rfl) ?_
        refine .m rfl rfl rfl rfl ?_
        refine .x rfl (unmet rfl rfl rfl g40) ?_
        refine .x rfl (unmet rfl rfl rfl g40) ?_
        refine .v rfl rfl (O.pickF g40 rfl rfl rfl) ?_
        refine .m rfl rfl rfl rfl ?_
        refine .m rfl (met rfl rfl rfl rfl) rfl rfl ?_
        refine .v rfl (met rfl rfl rfl rfl) (OpL.binI rfl rfl rfl rfl) ?_
        refine .m rfl (met rfl rfl rfl rfl) rfl rfl ?_
        refine .m rfl (met rfl rfl rfl g44) rfl rfl ?_
        refine .v rfl (met rfl rfl rfl g44) (O.fld fld47_1 rfl rfl rfl) ?_
        refine .v rfl (met rfl rfl rfl g44) (O.ld (y := .i t35.1.Next) ty3 rfl rfl rfl) ?_
        refine .v rfl (met rfl rfl rfl g44) (OpL.binI rfl rfl rfl rfl) ?_
        refine .v rfl (met rfl rfl rfl g44) (OpL.binI rfl rfl rfl rfl) ?_
        refine .v rfl (met rfl rfl rfl rfl) (O.pickT g44 rfl rfl rfl) ?_
        refine .m rfl (met rfl rfl rfl rfl) rfl rfl ?_
        refine .x rfl (unmet rfl rfl rfl g45) ?_
        refine .x rfl (unmet rfl rfl rfl g45) ?_
        refine .x rfl (unmet rfl rfl rfl g45) ?_
        refine .x rfl (unmet rfl rfl rfl g45) ?_
        refine .v rfl (met rfl rfl rfl rfl) (O.pickF g45 rfl rfl rfl) ?_
        refine .v rfl rfl (O.pickF rfl rfl rfl rfl) ?_
        refine .a rfl rfl rfl rfl ?_
        refine .nil ?_
        exact toN (Gives.mkR [] (.r rfl rfl (.r rfl rfl (.r rfl rfl (.r rfl rfl (.r rfl rfl (.c rfl (sbb (by first | (simp only [g39, g40, g44, g45, Bool.true_or, Bool.or_true, Bool.false_or, Bool.or_false, Bool.true_and, Bool.and_true, Bool.false_and, Bool.and_false, Bool.not_true, Bool.not_false, cond_true, cond_false]; done) | (repeat (first | rw [g39] | rw [g40] | rw [g44] | rw [g45])) <;> simp only [Bool.true_or, Bool.or_true, Bool.false_or, Bool.or_false, Bool.true_and, Bool.and_true, Bool.false_and, Bool.and_false, Bool.not_true, Bool.not_false, cond_true, cond_false])) rfl .n)))))) (.r rfl rfl rfl (.r rfl rfl rfl (.r rfl rfl rfl (.r rfl rfl rfl .n)))) rfl rfl rfl)
      ·refine W.pk ?_
       refine .m rfl rfl rfl rfl ?_
       refine .v rfl rfl (OpL.binI rfl rfl rfl rfl) ?_
       refine .m rfl rfl rfl rfl ?_
       refine .m rfl (met rfl rfl rfl g39) rfl rfl ?_
       refine .v rfl (met rfl rfl rfl g39) (OpL.binI rfl rfl rfl rfl) ?_
       refine .v rfl rfl (O.pickT g39 rfl rfl rfl) ?_
       refine .m rfl rfl rfl rfl ?_
       refine .x rfl (unmet rfl rfl rfl g40) ?_
       refine .x rfl (unmet rfl rfl rfl g40) ?_
       refine .v rfl rfl (O.pickF g40 rfl rfl rfl) ?_
       refine .m rfl rfl rfl rfl ?_
       refine .m rfl (met rfl rfl rfl rfl) rfl rfl ?_
       refine .v rfl (met rfl rfl rfl rfl) (OpL.binI rfl rfl rfl rfl) ?_
       refine .m rfl (met rfl rfl rfl rfl) rfl rfl ?_
       refine .x rfl (unmet rfl rfl rfl g44) ?_
       refine .x rfl (unmet rfl rfl rfl g44) ?_
       refine .x rfl (unmet rfl rfl rfl g44) ?_
       refine .x rfl (unmet rfl rfl rfl g44) ?_
       refine .x rfl (unmet rfl rfl rfl g44) ?_
       refine .v rfl (met rfl rfl rfl rfl) (O.pickF g44 rfl rfl rfl) ?_
       refine .m rfl (met rfl rfl rfl rfl) rfl rfl ?_
       refine .x rfl (unmet rfl rfl rfl rfl) ?_
       refine .x rfl (unmet rfl rfl rfl rfl) ?_
       refine .x rfl (unmet rfl rfl rfl rfl) ?_
       refine .x rfl (unmet rfl rfl rfl rfl) ?_
       refine .v rfl (met rfl rfl rfl rfl) (O.pickF rfl rfl rfl rfl) ?_
       refine .v rfl rfl (O.pickF rfl rfl rfl rfl) ?_
       refine .a rfl rfl rfl rfl ?_
       refine .nil ?_
       exact toN (Gives.mkR [] (.r rfl rfl (.r rfl rfl (.r rfl rfl (.r rfl rfl (.r rfl rfl (.c rfl (sbb (by first | (simp only [g39, g40, g44, Bool.true_or, Bool.or_true, Bool.false_or, Bool.or_false, Bool.true_and, Bool.and_true, Bool.false_and, Bool.and_false, Bool.not_true, Bool.not_false, cond_true, cond_false]; done) | (repeat (first | rw [g39] | rw [g40] | rw [g44])) <;> simp only [Bool.true_or, Bool.or_true, Bool.false_or, Bool.or_false, Bool.true_and, Bool.and_true, Bool.false_and, Bool.and_false, Bool.not_true, Bool.not_false, cond_true, cond_false])) rfl .n)))))) (.r rfl rfl rfl (.r rfl rfl rfl (.r rfl rfl rfl (.r rfl rfl rfl .n)))) rfl rfl rfl)
    ·rcases tf (t37.2.2.1 == 0) with g46 | g46
     ·rcases tf (t37.1 == (IntKind.wrap .i64 (t35.1.Next - 1))) with g47 | g47
      ·refine W.pk ?_
       refine .m rfl rfl rfl rfl ?_
       refine .v rfl rfl (OpL.binI rfl rfl rfl rfl) ?_
       refine .m rfl rfl rfl rfl ?_
       refine .x rfl (unmet rfl rfl rfl g39) ?_
       refine .x rfl (unmet rfl rfl rfl g39) ?_
       refine .v rfl rfl (O.pickF g39 rfl rfl rfl) ?_
       refine .m rfl rfl rfl rfl ?_
       refine .x rfl (unmet rfl rfl rfl rfl) ?_
       refine .x rfl (unmet rfl rfl rfl rfl) ?_
       refine .v rfl rfl (O.pickF rfl rfl rfl rfl) ?_
       refine .m rfl rfl rfl rfl ?_
       refine .m rfl (met rfl rfl rfl rfl) rfl rfl ?_
       refine .v rfl (met rfl rfl rfl rfl) (OpL.binI rfl rfl rfl rfl) ?_
       refine .m rfl (met rfl rfl rfl rfl) rfl rfl ?_
       refine .m rfl (met rfl rfl rfl g46) rfl rfl ?_
       refine .v rfl (met rfl rfl rfl g46) (O.fld fld47_1 rfl rfl rfl) ?_
       refine .v rfl (met rfl rfl rfl g46) (O.ld (y := .i t35.1.Next) ty3 rfl rfl rfl) ?_
       refine .v rfl (met rfl rfl rfl g46) (OpL.binI rfl rfl rfl rfl) ?_
       refine .v rfl (met rfl rfl rfl g46) (OpL.binI rfl rfl rfl rfl) ?_
       refine .v rfl (met rfl rfl rfl rfl) (O.pickT g46 rfl rfl rfl) ?_
       refine .m rfl (met rfl rfl rfl rfl) rfl rfl ?_
       refine .m rfl (met rfl rfl rfl g47) rfl rfl ?_
       refine .v rfl (met rfl rfl rfl g47) (O.fld fld47_1 rfl rfl rfl) ?_
       refine .v rfl (met rfl rfl rfl g47) (O.ld (y := .i t35.1.Next) ty3 rfl rfl rfl) ?_
       refine .v rfl (met rfl rfl rfl g47) (OpL.binI rfl rfl rfl rfl) ?_
       refine .v rfl (met rfl rfl rfl rfl) (O.pickT g47 rfl rfl rfl) ?_
       refine .v rfl rfl (O.pickF rfl rfl rfl rfl) ?_
       refine .a rfl rfl rfl rfl ?_
       refine .nil ?_
       exact toN (Gives.mkR [] (.r rfl rfl (.r rfl rfl (.r rfl rfl (.r rfl rfl (.r rfl rfl (.c rfl (sbb (by first | (simp only [g39, g46, g47, Bool.true_or, Bool.or_true, Bool.false_or, Bool.or_false, Bool.true_and, Bool.and_true, Bool.false_and, Bool.and_false, Bool.not_true, Bool.not_false, cond_true, cond_false]; done) | (repeat (first | rw [g39] | rw [g46] | rw [g47])) <;> simp only [Bool.true_or, Bool.or_true, Bool.false_or, Bool.or_false, Bool.true_and, Bool.and_true, Bool.false_and, Bool.and_false, Bool.not_true, Bool.not_false, cond_true, cond_false])) rfl .n)))))) (.r rfl rfl rfl (.r rfl rfl rfl (.r rfl rfl rfl (.r rfl rfl rfl .n)))) rfl rfl rfl)
      ·refine W.pk ?_
       refine .m rfl rfl rfl rfl ?_
       refine .v rfl rfl (OpL.binI rfl rfl rfl rfl) ?_
       refine .m rfl rfl rfl rfl ?_
       refine .x rfl (unmet rfl rfl rfl g39) ?_
       refine .x rfl (unmet rfl rfl rfl g39) ?_
       refine .v rfl rfl (O.pickF g39 rfl rfl rfl) ?_
       refine .m rfl rfl rfl rfl ?_
       refine .x rfl (unmet rfl rfl rfl rfl) ?_
       refine .x rfl (unmet rfl rfl rfl rfl) ?_
       refine .v rfl rfl (O.pickF rfl rfl rfl rfl) ?_
       refine .m rfl rfl rfl rfl ?_
       refine .m rfl (met rfl rfl rfl rfl) rfl rfl ?_
       refine .v rfl (met rfl rfl rfl rfl) (OpL.binI rfl rfl rfl rfl) ?_
       refine .m rfl (met rfl rfl rfl rfl) rfl rfl ?_
       refine .m rfl (met rfl rfl rfl g46) rfl rfl ?_
       refine .v rfl (met rfl rfl rfl g46) (O.fld fld47_1 rfl rfl rfl) ?_
       refine .v rfl (met rfl rfl rfl g46) (O.ld (y := .i t35.1.Next) ty3 rfl rfl rfl) ?_
       refine .v rfl (met rfl rfl rfl g46) (OpL.binI rfl rfl rfl rfl) ?_
       refine .v rfl (met rfl rfl rfl g46) (OpL.binI rfl rfl rfl rfl) ?_
       refine .v rfl (met rfl rfl rfl rfl) (O.pickT g46 rfl rfl rfl) ?_
       refine .m rfl (met rfl rfl rfl rfl) rfl rfl ?_
       refine .x rfl (unmet rfl rfl rfl g47) ?_
       refine .x rfl (unmet rfl rfl rfl g47) ?_
       refine .x rfl (unmet rfl rfl rfl g47) ?_
       refine .x rfl (unmet rfl rfl rfl g47) ?_
       refine .v rfl (met rfl rfl rfl rfl) (O.pickF g47 rfl rfl rfl) ?_
       refine .v rfl rfl (O.pickF rfl rfl rfl rfl) ?_
       refine .a rfl rfl rfl rfl ?_
       refine .nil ?_
       exact toN (Gives.mkR [] (.r rfl rfl (.r rfl rfl (.r rfl rfl (.r rfl rfl (.r rfl rfl (.c rfl (sbb (by first | (simp only [g39, g46, g47, Bool.true_or, Bool.or_true, Bool.false_or, Bool.or_false, Bool.true_and, Bool.and_true, Bool.false_and, Bool.and_false, Bool.not_true, Bool.not_false, cond_true, cond_false]; done) | (repeat (first | rw [g39] | rw [g46] | rw [g47])) <;> simp only [Bool.true_or, Bool.or_true, Bool.false_or, Bool.or_false, Bool.true_and, Bool.and_true, Bool.false_and, Bool.and_false, Bool.not_true, Bool.not_false, cond_true, cond_false])) rfl .n)))))) (.r rfl rfl rfl (.r rfl rfl rfl (.r rfl rfl rfl (.r rfl rfl rfl .n)))) rfl rfl rfl)
     ·refine W.pk ?_
      refine .m rfl rfl rfl rfl ?_
      refine .v rfl rfl (OpL.binI rfl rfl rfl rfl) ?_
      refine .m rfl rfl rfl rfl ?_
      refine .x rfl (unmet rfl rfl rfl g39) ?_
      refine .x rfl (unmet rfl rfl rfl g39) ?_
      refine .v rfl rfl (O.pickF g39 rfl rfl rfl) ?_
      refine .m rfl rfl rfl rfl ?_
      refine .x rfl (unmet rfl rfl rfl rfl) ?_
      refine .x rfl (unmet rfl rfl rfl rfl) ?_
      refine .v rfl rfl (O.pickF rfl rfl rfl rfl) ?_
      refine .m rfl rfl rfl rfl ?_
      refine .m rfl (met rfl rfl rfl rfl) rfl rfl ?_
      refine .v rfl (met rfl rfl rfl rfl) (OpL.binI rfl rfl rfl rfl) ?_
      refine .m rfl (met rfl rfl rfl rfl) rfl rfl ?_
      refine .x rfl (unmet rfl rfl rfl g46) ?_
      refine .x rfl (unmet rfl rfl rfl g46) ?_
      refine .x rfl (unmet rfl rfl rfl g46) ?_
      refine .x rfl (unmet rfl rfl rfl g46) ?_
      refine .x rfl (unmet rfl rfl rfl g46) ?_
      refine .v rfl (met rfl rfl rfl rfl) (O.pickF g46 rfl rfl rfl) ?_
      refine .m rfl (met rfl rfl rfl rfl) rfl rfl ?_
      refine .x rfl (unmet rfl rfl rfl rfl) ?_
      refine .x rfl (unmet rfl rfl rfl rfl) ?_
      refine .x rfl (unmet rfl rfl rfl rfl) ?_
      refine .x rfl (unmet rfl rfl rfl rfl) ?_
      refine .v rfl (met rfl rfl rfl rfl) (O.pickF rfl rfl rfl rfl) ?_
      refine .v rfl rfl (O.pickF rfl rfl rfl rfl) ?_
      refine .a rfl rfl rfl rfl ?_
      refine .nil ?_
      exact toN (Gives.mkR [] (.r rfl rfl (.r rfl rfl (.r rfl rfl (.r rfl rfl (.r rfl rfl (.c rfl (sbb (by first | (simp only [g39, g46, Bool.true_or, Bool.or_true, Bool.false_or, Bool.or_false, Bool.true_and, Bool.and_true, Bool.false_and, Bool.and_false, Bool.not_true, Bool.not_false, cond_true, cond_false]; done) | (repeat (first | rw [g39] | rw [g46])) <;> simp only [Bool.true_or, Bool.or_true, Bool.false_or, Bool.or_false, Bool.true_and, Bool.and_true, Bool.false_and, Bool.and_false, Bool.not_true, Bool.not_false, cond_true, cond_false])) rfl .n)))))) (.r rfl rfl rfl (.r rfl rfl rfl (.r rfl rfl rfl (.r rfl rfl rfl .n)))) rfl rfl rfl)
  ·have h := ifF q34 h
   refine W.seq ?_
   refine W.pk ?_
   refine .v rfl rfl (OpL.binI rfl rfl rfl rfl) ?_
   refine .a rfl rfl rfl rfl ?_
   refine .nil ?_
   refine W.cond rfl (fun q48 => ?_) (fun q48 => ?_)
   ·have h := ifT q48 h
    refine W.seq ?_
    obtain ⟨t49, b50, h⟩ := bnd1 h
    refine W.dk (unm 13 [0, 1, 3, 0, 8, 0, 32, 127, 255, 511, 511, 1023, 4095]) rfl (by kernel_rfl) ?_
    refine .m rfl rfl rfl rfl ?_
    refine .v rfl rfl (OpL.nilP rfl rfl rfl) ?_
    refine .v rfl rfl (O.ldN ty47 rfl rfl rfl) ?_
    refine .v rfl rfl (O.fld fld50_2 rfl rfl rfl) ?_
    refine .v rfl rfl (O.ldN ty26 rfl rfl rfl) ?_
    refine .v rfl rfl (O.fld fld50_3 rfl rfl rfl) ?_
    refine .v rfl rfl (O.ldN ty26 rfl rfl rfl) ?_
    refine .call (.tup [.agg [.imm (.row 11 (List.map api_Trade.enc t49.1.L)), .i t49.1.Next], .i t49.2]) [] 0 (lombardref23_Book_Put.ok b50) rfl rfl rfl ca44 rfl rfl (cC (.agg _ _ _ _ (cC (.imm _) (cC (.imm _) .nil))) (cC (.agg _ _ _ _ (cC (.imm _) (cC (.imm _) (cC (.imm _) (cC (.imm _) (cC (.imm _) (cC (.imm _) (cC (.imm _) (cC (.imm _) (cC (.imm _) (cC (.imm _) (cC (.imm _) .nil)))))))))))) (cC (.agg _ _ _ _ (cC (.imm _) (cC (.imm _) (cC (.imm _) (cC (.imm _) (cC (.imm _) (cC (.imm _) (cC (.imm _) (cC (.imm _) (cC (.imm _) (cC (.imm _) (cC (.imm _) .nil)))))))))))) .nil))) rfl rfl rfl rfl rfl ?_
    refine .m rfl rfl rfl rfl ?_
    refine .v rfl rfl (OpL.extract rfl rfl rfl) ?_
    refine .v rfl rfl (OpL.extract rfl rfl rfl) ?_
    refine .s rfl rfl (O.st ty47 rfl rfl rfl rfl rfl rfl rfl rfl rfl rfl (all' := [.imm (.row 11 (List.map api_Trade.enc t49.1.L)), .i t49.1.Next]) rfl) ?_
    refine .a rfl rfl rfl rfl ?_
    refine .nil ?_
    refine ⟨by kernel_rfl, by kernel_rfl, ?_⟩
    obtain ⟨t51, b52, h⟩ := bnd1 h
    refine W.pk ?_
    refine .m rfl rfl rfl rfl ?_
    refine .v rfl rfl (O.fld fld50_2 rfl rfl rfl) ?_
    refine .v rfl rfl (O.ldN ty26 rfl rfl rfl) ?_
    refine .v rfl rfl (O.fld fld50_3 rfl rfl rfl) ?_
    refine .v rfl rfl (O.ldN ty26 rfl rfl rfl) ?_
    refine .call (.i t51.1) [(0, some (.box [.own 1003, .i t51.2.next, .b t51.2.made])), (1003, some (.rows 26 11 (List.map api_Trade.enc t51.2.l) false)), (0, none), (1000, none)] 1 (trade_Book_Put.ok b52) rfl rfl rfl ca32 rfl rfl (cC (.ptr _ _ _ _ _ rfl (cC (.own _ _ _ _ rfl) (cC (.imm _) (cC (.imm _) .nil)))) (cC (.agg _ _ _ _ (cC (.imm _) (cC (.imm _) (cC (.imm _) (cC (.imm _) (cC (.imm _) (cC (.imm _) (cC (.imm _) (cC (.imm _) (cC (.imm _) (cC (.imm _) (cC (.imm _) .nil)))))))))))) (cC (.agg _ _ _ _ (cC (.imm _) (cC (.imm _) (cC (.imm _) (cC (.imm _) (cC (.imm _) (cC (.imm _) (cC (.imm _) (cC (.imm _) (cC (.imm _) (cC (.imm _) (cC (.imm _) .nil)))))))))))) .nil))) rfl rfl rfl rfl rfl ?_
    refine .a rfl rfl rfl rfl ?_
    refine .nil ?_
    cases h
    exact toN (Gives.mkR [] (.r rfl rfl (.r rfl rfl (.r rfl rfl (.r rfl rfl (.r rfl rfl (.r rfl rfl .n)))))) (.r rfl rfl rfl (.r rfl rfl rfl (.r rfl rfl rfl (.r rfl rfl rfl .n)))) rfl rfl rfl)
   ·have h := ifF q48 h
    refine W.seq ?_
    obtain ⟨t53, b54, h⟩ := bnd1 h
    refine W.dk (unm 11 [0, 1, 3, 0, 8, 31, 63, 127, 127, 255, 1023]) rfl (by kernel_rfl) ?_
    refine .m rfl rfl rfl rfl ?_
    refine .v rfl rfl (OpL.nilP rfl rfl rfl) ?_
    refine .v rfl rfl (O.ldN ty47 rfl rfl rfl) ?_
    refine .v rfl rfl (O.fld fld50_4 rfl rfl rfl) ?_
    refine .v rfl rfl (O.ld (y := .i x2.ID) ty3 rfl rfl rfl) ?_
    refine .call (.tup [.agg [.imm (.row 11 (List.map api_Trade.enc t53.1.L)), .i t53.1.Next], .i t53.2]) [] 0 (lombardref23_Book_Drop.ok b54) rfl rfl rfl ca45 rfl rfl (cC (.agg _ _ _ _ (cC (.imm _) (cC (.imm _) .nil))) (cC (.imm _) .nil)) rfl rfl rfl rfl rfl ?_
    refine .m rfl rfl rfl rfl ?_
    refine .v rfl rfl (OpL.extract rfl rfl rfl) ?_
    refine .v rfl rfl (OpL.extract rfl rfl rfl) ?_
    refine .s rfl rfl (O.st ty47 rfl rfl rfl rfl rfl rfl rfl rfl rfl rfl (all' := [.imm (.row 11 (List.map api_Trade.enc t53.1.L)), .i t53.1.Next]) rfl) ?_
    refine .a rfl rfl rfl rfl ?_
    refine .nil ?_
    refine ⟨by kernel_rfl, by kernel_rfl, ?_⟩
    obtain ⟨t55, b56, h⟩ := bnd1 h
    refine W.pk ?_
    refine .m rfl rfl rfl rfl ?_
    refine .v rfl rfl (O.fld fld50_4 rfl rfl rfl) ?_
    refine .v rfl rfl (O.ld (y := .i x2.ID) ty3 rfl rfl rfl) ?_
    refine .call (.i t55.1) [(0, some (.box [.own 1003, .i t55.2.next, .b t55.2.made])), (1003, some (.rows 26 11 (List.map api_Trade.enc t55.2.l) false)), (0, none), (1000, none)] 1 (trade_Book_Drop.ok b56) rfl rfl rfl ca33 rfl rfl (cC (.ptr _ _ _ _ _ rfl (cC (.own _ _ _ _ rfl) (cC (.imm _) (cC (.imm _) .nil)))) (cC (.imm _) .nil)) rfl rfl rfl rfl rfl ?_
    refine .a rfl rfl rfl rfl ?_
    refine .nil ?_
    cases h
    exact toN (Gives.mkR [] (.r rfl rfl (.r rfl rfl (.r rfl rfl (.r rfl rfl (.r rfl rfl (.r rfl rfl .n)))))) (.r rfl rfl rfl (.r rfl rfl rfl (.r rfl rfl rfl (.r rfl rfl rfl .n)))) rfl rfl rfl)
end Go.Proofs.Ytidinbjehfodoaa
