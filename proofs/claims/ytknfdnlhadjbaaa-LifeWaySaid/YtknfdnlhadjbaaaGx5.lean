/- Shows what functions of the program come to, each as a plain function: written by a program of the author's for this claim. -/
import Derived.Test.YtknfdnlhadjbaaaGx4
namespace Go.Proofs.Ytknfdnlhadjbaaa
open Go Go.Pm
set_option linter.unusedVariables false
set_option linter.unusedSimpArgs false
noncomputable def life_Live.f (x0 : api_Trade) : Option (Bool) :=
  some ((x0.Stage == 2) || (x0.Stage == 3))
set_option maxRecDepth 100000 in
set_option maxHeartbeats 4000000 in
theorem life_Live.ok {x0 : api_Trade} {r : Bool} (h : life_Live.f x0 = some r) : Pm.Spec prog 35 [.agg [.imm (.val (.int .i64 x0.ID)), .imm (.val (.int .i64 x0.Twin)), .imm (.val (.int .i64 x0.Member)), .imm (.val (.int .i64 x0.Side)), .imm (.val (.int .i64 x0.Basket)), .imm (.val (.int .i64 x0.Amount)), .imm (.val (.int .i64 x0.Start)), .imm (.val (.int .i64 x0.End)), .imm (.row 2 (List.map api_Reset.enc x0.Resets)), .imm (.val (.int .i64 x0.Stage)), .imm (.val (.bool x0.Short))]] (.imm (.val (.bool r))) [none] := by
 unfold life_Live.f at h
 refine Pm.Spec.of_body Try.func35 rfl (by kernel_rfl) (Nat.le_of_ble_eq_true rfl) (Nat.le_of_ble_eq_true rfl) ?_
 refine W.ghost (σ' := (mkSt [(0, some (.agg (api_Trade.av x0)))] [] 1000)) (Gives.entry (.c rfl .n) .n) ?_
 refine W.seq ?_
 refine W.pk ?_
 refine .t rfl rfl (O.box rfl rfl rfl rfl rfl) ?_
 refine .a rfl rfl rfl rfl ?_
 refine .nil ?_
 refine W.seq ?_
 refine W.fork (mkSt [(2, some (.b ((x0.Stage == 2) || (x0.Stage == 3))))] [] 1001) ?_ ?_
 ·refine W.ret ?_
  cases h
  exact leaves (.inr rfl) rfl (.imm _) (cN .nil) rfl rfl
 ·clear h
  rcases tf (x0.Stage == 2) with g1 | g1
  ·refine W.pk ?_
   refine .v rfl rfl (O.fld fld24_9 rfl rfl rfl) ?_
   refine .v rfl rfl (O.ld (y := .i x0.Stage) ty3 rfl rfl rfl) ?_
   refine .v rfl rfl (OpL.binI rfl rfl rfl rfl) ?_
   refine .m rfl rfl rfl rfl ?_
   refine .x rfl (unmet rfl rfl rfl g1) ?_
   refine .x rfl (unmet rfl rfl rfl g1) ?_
   refine .x rfl (unmet rfl rfl rfl g1) ?_
   refine .v rfl rfl (O.pickT g1 rfl rfl rfl) ?_
   refine .a rfl rfl rfl rfl ?_
   refine .nil ?_
   exact toN (Gives.mkR [] (.c rfl (sbb (by simp only [g1, Bool.true_or, Bool.or_true, Bool.false_or, Bool.or_false, Bool.true_and, Bool.and_true, Bool.false_and, Bool.and_false, Bool.not_true, Bool.not_false, cond_true, cond_false])) rfl .n) .n rfl rfl rfl)
  ·refine W.pk ?_
   refine .v rfl rfl (O.fld fld24_9 rfl rfl rfl) ?_
   refine .v rfl rfl (O.ld (y := .i x0.Stage) ty3 rfl rfl rfl) ?_
   refine .v rfl rfl (OpL.binI rfl rfl rfl rfl) ?_
   refine .m rfl rfl rfl rfl ?_
   refine .v rfl (met rfl rfl rfl g1) (O.fld fld24_9 rfl rfl rfl) ?_
   refine .v rfl (met rfl rfl rfl g1) (O.ld (y := .i x0.Stage) ty3 rfl rfl rfl) ?_
   refine .v rfl (met rfl rfl rfl g1) (OpL.binI rfl rfl rfl rfl) ?_
   refine .v rfl rfl (O.pickF g1 rfl rfl rfl) ?_
   refine .a rfl rfl rfl rfl ?_
   refine .nil ?_
   exact toN (Gives.mkR [] (.c rfl (sbb (by simp only [g1, Bool.true_or, Bool.or_true, Bool.false_or, Bool.or_false, Bool.true_and, Bool.and_true, Bool.false_and, Bool.and_false, Bool.not_true, Bool.not_false, cond_true, cond_false])) rfl .n) .n rfl rfl rfl)

noncomputable def life_Due.f (x0 : api_Trade) (x1 : Int) : Option (Bool) :=
  (life_Live.f x0).bind fun t1 =>
  (if t1 = true then life_Open.f x0 else some default).bind fun t3 =>
  some ((t1 && (!t3)) && (decide (x0.End ≤ x1)))
set_option maxRecDepth 100000 in
set_option maxHeartbeats 4000000 in
theorem life_Due.ok {x0 : api_Trade} {x1 : Int} {r : Bool} (h : life_Due.f x0 x1 = some r) : Pm.Spec prog 38 [.agg [.imm (.val (.int .i64 x0.ID)), .imm (.val (.int .i64 x0.Twin)), .imm (.val (.int .i64 x0.Member)), .imm (.val (.int .i64 x0.Side)), .imm (.val (.int .i64 x0.Basket)), .imm (.val (.int .i64 x0.Amount)), .imm (.val (.int .i64 x0.Start)), .imm (.val (.int .i64 x0.End)), .imm (.row 2 (List.map api_Reset.enc x0.Resets)), .imm (.val (.int .i64 x0.Stage)), .imm (.val (.bool x0.Short))], .imm (.val (.int .i64 x1))] (.imm (.val (.bool r))) [none, none] := by
 unfold life_Due.f at h
 refine Pm.Spec.of_body Try.func38 rfl (by kernel_rfl) (Nat.le_of_ble_eq_true rfl) (Nat.le_of_ble_eq_true rfl) ?_
 refine W.ghost (σ' := (mkSt [(0, some (.agg (api_Trade.av x0))), (1, some (.i x1))] [] 1000)) (Gives.entry (.c rfl (.c rfl .n)) .n) ?_
 refine W.seq ?_
 refine W.pk ?_
 refine .t rfl rfl (O.box rfl rfl rfl rfl rfl) ?_
 refine .a rfl rfl rfl rfl ?_
 refine .nil ?_
 refine W.seq ?_
 obtain ⟨t1, b2, h⟩ := bnd1 h
 obtain ⟨t3, b4, h⟩ := bnd1 h
 refine W.fork (mkSt [(4, some (.b ((t1 && (!t3)) && (decide (x0.End ≤ x1)))))] [] 1001) ?_ ?_
 ·refine W.ret ?_
  cases h
  exact leaves (.inr rfl) rfl (.imm _) (cN (cN .nil)) rfl rfl
 ·clear h
  rcases tf t1 with g5 | g5
  ·rcases tf t3 with g6 | g6
   ·refine W.pk ?_
    refine .v rfl rfl (O.ldN ty24 rfl rfl rfl) ?_
    refine .call (.b t1) [] 0 (life_Live.ok b2) rfl rfl rfl ca35 rfl rfl (cC (.agg _ _ _ _ (cC (.imm _) (cC (.imm _) (cC (.imm _) (cC (.imm _) (cC (.imm _) (cC (.imm _) (cC (.imm _) (cC (.imm _) (cC (.imm _) (cC (.imm _) (cC (.imm _) .nil)))))))))))) .nil) rfl rfl rfl rfl rfl ?_
    refine .m rfl rfl rfl rfl ?_
    refine .v rfl (met rfl rfl rfl g5) (O.ldN ty24 rfl rfl rfl) ?_
    refine .call (.b t3) [] 0 (life_Open.ok ((if_pos (by first | (simp only [g5, g6, Bool.true_or, Bool.or_true, Bool.false_or, Bool.or_false, Bool.true_and, Bool.and_true, Bool.false_and, Bool.and_false, Bool.not_true, Bool.not_false, cond_true, cond_false]; done) | (repeat (first | rw [g5] | rw [g6])) <;> simp only [Bool.true_or, Bool.or_true, Bool.false_or, Bool.or_false, Bool.true_and, Bool.and_true, Bool.false_and, Bool.and_false, Bool.not_true, Bool.not_false, cond_true, cond_false])).symm.trans b4)) rfl (met rfl rfl rfl g5) rfl ca34 rfl rfl (cC (.agg _ _ _ _ (cC (.imm _) (cC (.imm _) (cC (.imm _) (cC (.imm _) (cC (.imm _) (cC (.imm _) (cC (.imm _) (cC (.imm _) (cC (.imm _) (cC (.imm _) (cC (.imm _) .nil)))))))))))) .nil) rfl rfl rfl rfl rfl ?_
    refine .v rfl (met rfl rfl rfl g5) (OpL.unV rfl rfl rfl) ?_
    refine .v rfl rfl (O.pickT g5 rfl rfl rfl) ?_
    refine .m rfl rfl rfl rfl ?_
    refine .x rfl (unmet rfl rfl rfl (notT g6)) ?_
    refine .x rfl (unmet rfl rfl rfl (notT g6)) ?_
    refine .x rfl (unmet rfl rfl rfl (notT g6)) ?_
    refine .x rfl (unmet rfl rfl rfl (notT g6)) ?_
    refine .v rfl rfl (O.pickF (notT g6) rfl rfl rfl) ?_
    refine .a rfl rfl rfl rfl ?_
    refine .nil ?_
    exact toN (Gives.mkR [] (.c rfl (sbb (by first | (simp only [g5, g6, Bool.true_or, Bool.or_true, Bool.false_or, Bool.or_false, Bool.true_and, Bool.and_true, Bool.false_and, Bool.and_false, Bool.not_true, Bool.not_false, cond_true, cond_false]; done) | (repeat (first | rw [g5] | rw [g6])) <;> simp only [Bool.true_or, Bool.or_true, Bool.false_or, Bool.or_false, Bool.true_and, Bool.and_true, Bool.false_and, Bool.and_false, Bool.not_true, Bool.not_false, cond_true, cond_false])) rfl .n) .n rfl rfl rfl)
   ·refine W.pk ?_
    refine .v rfl rfl (O.ldN ty24 rfl rfl rfl) ?_
    refine .call (.b t1) [] 0 (life_Live.ok b2) rfl rfl rfl ca35 rfl rfl (cC (.agg _ _ _ _ (cC (.imm _) (cC (.imm _) (cC (.imm _) (cC (.imm _) (cC (.imm _) (cC (.imm _) (cC (.imm _) (cC (.imm _) (cC (.imm _) (cC (.imm _) (cC (.imm _) .nil)))))))))))) .nil) rfl rfl rfl rfl rfl ?_
    refine .m rfl rfl rfl rfl ?_
    refine .v rfl (met rfl rfl rfl g5) (O.ldN ty24 rfl rfl rfl) ?_
    refine .call (.b t3) [] 0 (life_Open.ok ((if_pos (by first | (simp only [g5, g6, Bool.true_or, Bool.or_true, Bool.false_or, Bool.or_false, Bool.true_and, Bool.and_true, Bool.false_and, Bool.and_false, Bool.not_true, Bool.not_false, cond_true, cond_false]; done) | (repeat (first | rw [g5] | rw [g6])) <;> simp only [Bool.true_or, Bool.or_true, Bool.false_or, Bool.or_false, Bool.true_and, Bool.and_true, Bool.false_and, Bool.and_false, Bool.not_true, Bool.not_false, cond_true, cond_false])).symm.trans b4)) rfl (met rfl rfl rfl g5) rfl ca34 rfl rfl (cC (.agg _ _ _ _ (cC (.imm _) (cC (.imm _) (cC (.imm _) (cC (.imm _) (cC (.imm _) (cC (.imm _) (cC (.imm _) (cC (.imm _) (cC (.imm _) (cC (.imm _) (cC (.imm _) .nil)))))))))))) .nil) rfl rfl rfl rfl rfl ?_
    refine .v rfl (met rfl rfl rfl g5) (OpL.unV rfl rfl rfl) ?_
    refine .v rfl rfl (O.pickT g5 rfl rfl rfl) ?_
    refine .m rfl rfl rfl rfl ?_
    refine .v rfl (met rfl rfl rfl (notF g6)) (O.fld fld24_7 rfl rfl rfl) ?_
    refine .v rfl (met rfl rfl rfl (notF g6)) (O.ld (y := .i x0.End) ty3 rfl rfl rfl) ?_
    refine .m rfl (met rfl rfl rfl (notF g6)) rfl rfl ?_
    refine .v rfl (met rfl rfl rfl (notF g6)) (OpL.binI rfl rfl rfl rfl) ?_
    refine .v rfl rfl (O.pickT (notF g6) rfl rfl rfl) ?_
    refine .a rfl rfl rfl rfl ?_
    refine .nil ?_
    exact toN (Gives.mkR [] (.c rfl (sbb (by first | (simp only [g5, g6, Bool.true_or, Bool.or_true, Bool.false_or, Bool.or_false, Bool.true_and, Bool.and_true, Bool.false_and, Bool.and_false, Bool.not_true, Bool.not_false, cond_true, cond_false]; done) | (repeat (first | rw [g5] | rw [g6])) <;> simp only [Bool.true_or, Bool.or_true, Bool.false_or, Bool.or_false, Bool.true_and, Bool.and_true, Bool.false_and, Bool.and_false, Bool.not_true, Bool.not_false, cond_true, cond_false])) rfl .n) .n rfl rfl rfl)
  ·refine W.pk ?_
   refine .v rfl rfl (O.ldN ty24 rfl rfl rfl) ?_
   refine .call (.b t1) [] 0 (life_Live.ok b2) rfl rfl rfl ca35 rfl rfl (cC (.agg _ _ _ _ (cC (.imm _) (cC (.imm _) (cC (.imm _) (cC (.imm _) (cC (.imm _) (cC (.imm _) (cC (.imm _) (cC (.imm _) (cC (.imm _) (cC (.imm _) (cC (.imm _) .nil)))))))))))) .nil) rfl rfl rfl rfl rfl ?_
   refine .m rfl rfl rfl rfl ?_
   refine .x rfl (unmet rfl rfl rfl g5) ?_
   refine .x rfl (unmet rfl rfl rfl g5) ?_
   refine .x rfl (unmet rfl rfl rfl g5) ?_
   refine .v rfl rfl (O.pickF g5 rfl rfl rfl) ?_
   refine .m rfl rfl rfl rfl ?_
   refine .x rfl (unmet rfl rfl rfl rfl) ?_
   refine .x rfl (unmet rfl rfl rfl rfl) ?_
   refine .x rfl (unmet rfl rfl rfl rfl) ?_
   refine .x rfl (unmet rfl rfl rfl rfl) ?_
   refine .v rfl rfl (O.pickF rfl rfl rfl rfl) ?_
   refine .a rfl rfl rfl rfl ?_
   refine .nil ?_
   exact toN (Gives.mkR [] (.c rfl (sbb (by simp only [g5, Bool.true_or, Bool.or_true, Bool.false_or, Bool.or_false, Bool.true_and, Bool.and_true, Bool.false_and, Bool.and_false, Bool.not_true, Bool.not_false, cond_true, cond_false])) rfl .n) .n rfl rfl rfl)

noncomputable def lombardlaw24_awake.f  : Option (Bool) :=
  (life_Interest.f (⟨1, 2, 1, 1, 1, 360000000, 5, 0, [(⟨5, 10000⟩ : api_Reset)], 2, false⟩ : api_Trade) 8).bind fun t1 =>
  (life_Today.f (⟨1, 2, 1, 1, 1, 360000000, 5, 0, [(⟨5, 10000⟩ : api_Reset)], 2, false⟩ : api_Trade) 8).bind fun t3 =>
  (life_Notice.f (⟨1, 2, 1, 1, 1, 360000000, 5, 0, [(⟨5, 10000⟩ : api_Reset)], 2, false⟩ : api_Trade) 8 9).bind fun t5 =>
  (life_Interest.f t5.1 20).bind fun t7 =>
  (if (((((((t1.2 == 0) && (t3.2 == t1.2)) && (t5.2 == t1.2)) && (t7.2 == t1.2)) && (t1.1 == 30000)) && (t3.1 == 10000)) && (t7.1 == 40000)) = true then life_Due.f t5.1 9 else some default).bind fun t9 =>
  some ((((((((t1.2 == 0) && (t3.2 == t1.2)) && (t5.2 == t1.2)) && (t7.2 == t1.2)) && (t1.1 == 30000)) && (t3.1 == 10000)) && (t7.1 == 40000)) && t9)
set_option maxRecDepth 100000 in
set_option maxHeartbeats 4000000 in
theorem lombardlaw24_awake.ok  {r : Bool} (h : lombardlaw24_awake.f  = some r) : Pm.Spec prog 10 [] (.imm (.val (.bool r))) [] := by
 unfold lombardlaw24_awake.f at h
 refine Pm.Spec.of_body Try.func10 rfl (by kernel_rfl) (Nat.le_of_ble_eq_true rfl) (Nat.le_of_ble_eq_true rfl) ?_
 refine W.ghost (σ' := (mkSt [] [] 1000)) (Gives.entry .n .n) ?_
 refine W.seq ?_
 refine W.pk ?_
 refine .a rfl rfl rfl rfl ?_
 refine .nil ?_
 refine W.seq ?_
 refine W.pk ?_
 refine .v rfl rfl (O.build (out := [.i 5, .i 10000]) bl46 rfl rfl rfl rfl (by kernel_rfl)) ?_
 refine .t rfl rfl (O.lit (enc := api_Reset.enc) (l := [(⟨5, 10000⟩ : api_Reset)]) sl22 rfl rfl rfl rfl rfl rfl rfl rfl rfl) ?_
 refine .v rfl rfl (O.build (out := [.i 1, .i 2, .i 1, .i 1, .i 1, .i 360000000, .i 5, .i 0, .own 1000, .i 2, .b false]) bl24 rfl rfl rfl rfl (by kernel_rfl)) ?_
 refine .t rfl rfl (O.alloc z24 rfl) ?_
 refine .s rfl rfl (O.st ty24 rfl rfl rfl rfl rfl rfl rfl rfl rfl rfl (all' := [.i 1, .i 2, .i 1, .i 1, .i 1, .i 360000000, .i 5, .i 0, .own 1000, .i 2, .b false]) rfl) ?_
 refine .nil ?_
 refine W.seq ?_
 obtain ⟨t1, b2, h⟩ := bnd1 h
 refine W.pk ?_
 refine .v rfl rfl (O.ldN ty24 rfl rfl rfl) ?_
 refine .call (.tup [.i t1.1, .i t1.2]) [(1000, some (.rows 46 2 (List.map api_Reset.enc [(⟨5, 10000⟩ : api_Reset)]) true))] 0 (life_Interest.ok b2) rfl rfl rfl ca11 rfl rfl (cC (.agg _ _ _ _ (cC (.imm _) (cC (.imm _) (cC (.imm _) (cC (.imm _) (cC (.imm _) (cC (.imm _) (cC (.imm _) (cC (.imm _) (cC (.lend _ _ _ _ _ rfl) (cC (.imm _) (cC (.imm _) .nil)))))))))))) (cC (.imm _) .nil)) rfl rfl rfl rfl rfl ?_
 refine .m rfl rfl rfl rfl ?_
 refine .v rfl rfl (OpL.extract rfl rfl rfl) ?_
 refine .v rfl rfl (OpL.extract rfl rfl rfl) ?_
 refine .a rfl rfl rfl rfl ?_
 refine .a rfl rfl rfl rfl ?_
 refine .nil ?_
 refine W.seq ?_
 obtain ⟨t3, b4, h⟩ := bnd1 h
 refine W.pk ?_
 refine .v rfl rfl (O.ldN ty24 rfl rfl rfl) ?_
 refine .call (.tup [.i t3.1, .i t3.2]) [(1000, some (.rows 46 2 (List.map api_Reset.enc [(⟨5, 10000⟩ : api_Reset)]) true))] 0 (life_Today.ok b4) rfl rfl rfl ca12 rfl rfl (cC (.agg _ _ _ _ (cC (.imm _) (cC (.imm _) (cC (.imm _) (cC (.imm _) (cC (.imm _) (cC (.imm _) (cC (.imm _) (cC (.imm _) (cC (.lend _ _ _ _ _ rfl) (cC (.imm _) (cC (.imm _) .nil)))))))))))) (cC (.imm _) .nil)) rfl rfl rfl rfl rfl ?_
 refine .m rfl rfl rfl rfl ?_
 refine .v rfl rfl (OpL.extract rfl rfl rfl) ?_
 refine .v rfl rfl (OpL.extract rfl rfl rfl) ?_
 refine .a rfl rfl rfl rfl ?_
 refine .a rfl rfl rfl rfl ?_
 refine .nil ?_
 refine W.seq ?_
 obtain ⟨t5, b6, h⟩ := bnd1 h
 refine W.pk ?_
 refine .v rfl rfl (O.ldN ty24 rfl rfl rfl) ?_
 refine .call (.tup [.agg (api_Trade.av t5.1), .i t5.2]) [(1000, some (.rows 46 2 (List.map api_Reset.enc [(⟨5, 10000⟩ : api_Reset)]) true))] 0 (life_Notice.ok b6) rfl rfl rfl ca25 rfl rfl (cC (.agg _ _ _ _ (cC (.imm _) (cC (.imm _) (cC (.imm _) (cC (.imm _) (cC (.imm _) (cC (.imm _) (cC (.imm _) (cC (.imm _) (cC (.lend _ _ _ _ _ rfl) (cC (.imm _) (cC (.imm _) .nil)))))))))))) (cC (.imm _) (cC (.imm _) .nil))) rfl rfl rfl rfl rfl ?_
 refine .m rfl rfl rfl rfl ?_
 refine .v rfl rfl (OpL.extract rfl rfl rfl) ?_
 refine .v rfl rfl (OpL.extract rfl rfl rfl) ?_
 refine .t rfl rfl (O.alloc z24 rfl) ?_
 refine .s rfl rfl (O.st ty24 rfl rfl rfl rfl rfl rfl rfl rfl rfl rfl (all' := [.i t5.1.ID, .i t5.1.Twin, .i t5.1.Member, .i t5.1.Side, .i t5.1.Basket, .i t5.1.Amount, .i t5.1.Start, .i t5.1.End, .imm (.row 2 (List.map api_Reset.enc t5.1.Resets)), .i t5.1.Stage, .b t5.1.Short]) rfl) ?_
 refine .a rfl rfl rfl rfl ?_
 refine .nil ?_
 refine W.seq ?_
 obtain ⟨t7, b8, h⟩ := bnd1 h
 refine W.pk ?_
 refine .v rfl rfl (O.ldN ty24 rfl rfl rfl) ?_
 refine .call (.tup [.i t7.1, .i t7.2]) [] 0 (life_Interest.ok b8) rfl rfl rfl ca11 rfl rfl (cC (.agg _ _ _ _ (cC (.imm _) (cC (.imm _) (cC (.imm _) (cC (.imm _) (cC (.imm _) (cC (.imm _) (cC (.imm _) (cC (.imm _) (cC (.imm _) (cC (.imm _) (cC (.imm _) .nil)))))))))))) (cC (.imm _) .nil)) rfl rfl rfl rfl rfl ?_
 refine .m rfl rfl rfl rfl ?_
 refine .v rfl rfl (OpL.extract rfl rfl rfl) ?_
 refine .v rfl rfl (OpL.extract rfl rfl rfl) ?_
 refine .a rfl rfl rfl rfl ?_
 refine .a rfl rfl rfl rfl ?_
 refine .nil ?_
 refine W.seq ?_
 obtain ⟨t9, b10, h⟩ := bnd1 h
 refine W.fork (mkSt [(0, some (.b ((((((((t1.2 == 0) && (t3.2 == t1.2)) && (t5.2 == t1.2)) && (t7.2 == t1.2)) && (t1.1 == 30000)) && (t3.1 == 10000)) && (t7.1 == 40000)) && t9)))] [] 1003) ?_ ?_
 ·refine W.ret ?_
  cases h
  exact leaves (.inr rfl) rfl (.imm _) .nil rfl rfl
 ·clear h
  rcases tf (t1.2 == 0) with g11 | g11
  ·rcases tf (t3.2 == t1.2) with g12 | g12
   ·rcases tf (t5.2 == t1.2) with g13 | g13
    ·rcases tf (t7.2 == t1.2) with g14 | g14
     ·rcases tf (t1.1 == 30000) with g15 | g15
      ·rcases tf (t3.1 == 10000) with g16 | g16
       ·rcases tf (t7.1 == 40000) with g17 | g17
        ·refine W.pk ?_
         refine .m rfl rfl rfl rfl ?_
         refine .v rfl rfl (OpL.binI rfl rfl rfl rfl) ?_
         refine .m rfl rfl rfl rfl ?_
         refine .m rfl (met rfl rfl rfl g11) rfl rfl ?_
         refine .m rfl (met rfl rfl rfl g11) rfl rfl ?_
         refine .v rfl (met rfl rfl rfl g11) (OpL.binI rfl rfl rfl rfl) ?_
         refine .v rfl rfl (O.pickT g11 rfl rfl rfl) ?_
         refine .m rfl rfl rfl rfl ?_
         refine .m rfl (met rfl rfl rfl g12) rfl rfl ?_
         refine .m rfl (met rfl rfl rfl g12) rfl rfl ?_
         refine .v rfl (met rfl rfl rfl g12) (OpL.binI rfl rfl rfl rfl) ?_
         refine .v rfl rfl (O.pickT g12 rfl rfl rfl) ?_
         refine .m rfl rfl rfl rfl ?_
         refine .m rfl (met rfl rfl rfl g13) rfl rfl ?_
         refine .m rfl (met rfl rfl rfl g13) rfl rfl ?_
         refine .v rfl (met rfl rfl rfl g13) (OpL.binI rfl rfl rfl rfl) ?_
         refine .v rfl rfl (O.pickT g13 rfl rfl rfl) ?_
         refine .m rfl rfl rfl rfl ?_
         refine .m rfl (met rfl rfl rfl g14) rfl rfl ?_
         refine .v rfl (met rfl rfl rfl g14) (OpL.binI rfl rfl rfl rfl) ?_
         refine .v rfl rfl (O.pickT g14 rfl rfl rfl) ?_
         refine .m rfl rfl rfl rfl ?_
         refine .m rfl (met rfl rfl rfl g15) rfl rfl ?_
         refine .v rfl (met rfl rfl rfl g15) (OpL.binI rfl rfl rfl rfl) ?_
         refine .v rfl rfl (O.pickT g15 rfl rfl rfl) ?_
         refine .m rfl rfl rfl rfl ?_
         refine .m rfl (met rfl rfl rfl g16) rfl rfl ?_
         refine .v rfl (met rfl rfl rfl g16) (OpL.binI rfl rfl rfl rfl) ?_
         refine .v rfl rfl (O.pickT g16 rfl rfl rfl) ?_
         refine .m rfl rfl rfl rfl ?_
         refine .v rfl (met rfl rfl rfl g17) (O.ldN ty24 rfl rfl rfl) ?_
         refine .call (.b t9) [] 0 (life_Due.ok ((if_pos (by first | (simp only [g11, g12, g13, g14, g15, g16, g17, Bool.true_or, Bool.or_true, Bool.false_or, Bool.or_false, Bool.true_and, Bool.and_true, Bool.false_and, Bool.and_false, Bool.not_true, Bool.not_false, cond_true, cond_false]; done) | (repeat (first | rw [g11] | rw [g12] | rw [g13] | rw [g14] | rw [g15] | rw [g16] | rw [g17])) <;> simp only [Bool.true_or, Bool.or_true, Bool.false_or, Bool.or_false, Bool.true_and, Bool.and_true, Bool.false_and, Bool.and_false, Bool.not_true, Bool.not_false, cond_true, cond_false])).symm.trans b10)) rfl (met rfl rfl rfl g17) rfl ca38 rfl rfl (cC (.agg _ _ _ _ (cC (.imm _) (cC (.imm _) (cC (.imm _) (cC (.imm _) (cC (.imm _) (cC (.imm _) (cC (.imm _) (cC (.imm _) (cC (.imm _) (cC (.imm _) (cC (.imm _) .nil)))))))))))) (cC (.imm _) .nil)) rfl rfl rfl rfl rfl ?_
         refine .v rfl rfl (O.pickT g17 rfl rfl rfl) ?_
         refine .a rfl rfl rfl rfl ?_
         refine .nil ?_
         exact toN (Gives.mkR [] (.c rfl (sbb (by first | (simp only [g11, g12, g13, g14, g15, g16, g17, Bool.true_or, Bool.or_true, Bool.false_or, Bool.or_false, Bool.true_and, Bool.and_true, Bool.false_and, Bool.and_false, Bool.not_true, Bool.not_false, cond_true, cond_false]; done) | (repeat (first | rw [g11] | rw [g12] | rw [g13] | rw [g14] | rw [g15] | rw [g16] | rw [g17])) <;> simp only [Bool.true_or, Bool.or_true, Bool.false_or, Bool.or_false, Bool.true_and, Bool.and_true, Bool.false_and, Bool.and_false, Bool.not_true, Bool.not_false, cond_true, cond_false])) rfl .n) .n rfl rfl rfl)
        ·refine W.pk ?_
         refine .m rfl rfl rfl rfl ?_
         refine .v rfl rfl (OpL.binI rfl rfl rfl rfl) ?_
         refine .m rfl rfl rfl rfl ?_
         refine .m rfl (met rfl rfl rfl g11) rfl rfl ?_
         refine .m rfl (met rfl rfl rfl g11) rfl rfl ?_
         refine .v rfl (met rfl rfl rfl g11) (OpL.binI rfl rfl rfl rfl) ?_
         refine .v rfl rfl (O.pickT g11 rfl rfl rfl) ?_
         refine .m rfl rfl rfl rfl ?_
         refine .m rfl (met rfl rfl rfl g12) rfl rfl ?_
         refine .m rfl (met rfl rfl rfl g12) rfl rfl ?_
         refine .v rfl (met rfl rfl rfl g12) (OpL.binI rfl rfl rfl rfl) ?_
         refine .v rfl rfl (O.pickT g12 rfl rfl rfl) ?_
         refine .m rfl rfl rfl rfl ?_
         refine .m rfl (met rfl rfl rfl g13) rfl rfl ?_
         refine .m rfl (met rfl rfl rfl g13) rfl rfl ?_
         refine .v rfl (met rfl rfl rfl g13) (OpL.binI rfl rfl rfl rfl) ?_
         refine .v rfl rfl (O.pickT g13 rfl rfl rfl) ?_
         refine .m rfl rfl rfl rfl ?_
         refine .m rfl (met rfl rfl rfl g14) rfl rfl ?_
         refine .v rfl (met rfl rfl rfl g14) (OpL.binI rfl rfl rfl rfl) ?_
         refine .v rfl rfl (O.pickT g14 rfl rfl rfl) ?_
         refine .m rfl rfl rfl rfl ?_
         refine .m rfl (met rfl rfl rfl g15) rfl rfl ?_
         refine .v rfl (met rfl rfl rfl g15) (OpL.binI rfl rfl rfl rfl) ?_
         refine .v rfl rfl (O.pickT g15 rfl rfl rfl) ?_
         refine .m rfl rfl rfl rfl ?_
         refine .m rfl (met rfl rfl rfl g16) rfl rfl ?_
         refine .v rfl (met rfl rfl rfl g16) (OpL.binI rfl rfl rfl rfl) ?_
         refine .v rfl rfl (O.pickT g16 rfl rfl rfl) ?_
         refine .m rfl rfl rfl rfl ?_
         refine .x rfl (unmet rfl rfl rfl g17) ?_
         refine .x rfl (unmet rfl rfl rfl g17) ?_
         refine .v rfl rfl (O.pickF g17 rfl rfl rfl) ?_
         refine .a rfl rfl rfl rfl ?_
         refine .nil ?_
         exact toN (Gives.mkR [] (.c rfl (sbb (by first | (simp only [g11, g12, g13, g14, g15, g16, g17, Bool.true_or, Bool.or_true, Bool.false_or, Bool.or_false, Bool.true_and, Bool.and_true, Bool.false_and, Bool.and_false, Bool.not_true, Bool.not_false, cond_true, cond_false]; done) | (repeat (first | rw [g11] | rw [g12] | rw [g13] | rw [g14] | rw [g15] | rw [g16] | rw [g17])) <;> simp only [Bool.true_or, Bool.or_true, Bool.false_or, Bool.or_false, Bool.true_and, Bool.and_true, Bool.false_and, Bool.and_false, Bool.not_true, Bool.not_false, cond_true, cond_false])) rfl .n) .n rfl rfl rfl)
       ·refine W.pk ?_
        refine .m rfl rfl rfl rfl ?_
        refine .v rfl rfl (OpL.binI rfl rfl rfl rfl) ?_
        refine .m rfl rfl rfl rfl ?_
        refine .m rfl (met rfl rfl rfl g11) rfl rfl ?_
        refine .m rfl (met rfl rfl rfl g11) rfl rfl ?_
        refine .v rfl (met rfl rfl rfl g11) (OpL.binI rfl rfl rfl rfl) ?_
        refine .v rfl rfl (O.pickT g11 rfl rfl rfl) ?_
        refine .m rfl rfl rfl rfl ?_
        refine .m rfl (met rfl rfl rfl g12) rfl rfl ?_
        refine .m rfl (met rfl rfl rfl g12) rfl rfl ?_
        refine .v rfl (met rfl rfl rfl g12) (OpL.binI rfl rfl rfl rfl) ?_
        refine .v rfl rfl (O.pickT g12 rfl rfl rfl) ?_
        refine .m rfl rfl rfl rfl ?_
        refine .m rfl (met rfl rfl rfl g13) rfl rfl ?_
        refine .m rfl (met rfl rfl rfl g13) rfl rfl ?_
        refine .v rfl (met rfl rfl rfl g13) (OpL.binI rfl rfl rfl rfl) ?_
        refine .v rfl rfl (O.pickT g13 rfl rfl rfl) ?_
        refine .m rfl rfl rfl rfl ?_
        refine .m rfl (met rfl rfl rfl g14) rfl rfl ?_
        refine .v rfl (met rfl rfl rfl g14) (OpL.binI rfl rfl rfl rfl) ?_
        refine .v rfl rfl (O.pickT g14 rfl rfl rfl) ?_
        refine .m rfl rfl rfl rfl ?_
        refine .m rfl (met rfl rfl rfl g15) rfl rfl ?_
        refine .v rfl (met rfl rfl rfl g15) (OpL.binI rfl rfl rfl rfl) ?_
        refine .v rfl rfl (O.pickT g15 rfl rfl rfl) ?_
        refine .m rfl rfl rfl rfl ?_
        refine .x rfl (unmet rfl rfl rfl g16) ?_
        refine .x rfl (unmet rfl rfl rfl g16) ?_
        refine .v rfl rfl (O.pickF g16 rfl rfl rfl) ?_
        refine .m rfl rfl rfl rfl ?_
        refine .x rfl (unmet rfl rfl rfl rfl) ?_
        refine .x rfl (unmet rfl rfl rfl rfl) ?_
        refine .v rfl rfl (O.pickF rfl rfl rfl rfl) ?_
        refine .a rfl rfl rfl rfl ?_
        refine .nil ?_
        exact toN (Gives.mkR [] (.c rfl (sbb (by first | (simp only [g11, g12, g13, g14, g15, g16, Bool.true_or, Bool.or_true, Bool.false_or, Bool.or_false, Bool.true_and, Bool.and_true, Bool.false_and, Bool.and_false, Bool.not_true, Bool.not_false, cond_true, cond_false]; done) | (repeat (first | rw [g11] | rw [g12] | rw [g13] | rw [g14] | rw [g15] | rw [g16])) <;> simp only [Bool.true_or, Bool.or_true, Bool.false_or, Bool.or_false, Bool.true_and, Bool.and_true, Bool.false_and, Bool.and_false, Bool.not_true, Bool.not_false, cond_true, cond_false])) rfl .n) .n rfl rfl rfl)
      ·refine W.pk ?_
       refine .m rfl rfl rfl rfl ?_
       refine .v rfl rfl (OpL.binI rfl rfl rfl rfl) ?_
       refine .m rfl rfl rfl rfl ?_
       refine .m rfl (met rfl rfl rfl g11) rfl rfl ?_
       refine .m rfl (met rfl rfl rfl g11) rfl rfl ?_
       refine .v rfl (met rfl rfl rfl g11) (OpL.binI rfl rfl rfl rfl) ?_
       refine .v rfl rfl (O.pickT g11 rfl rfl rfl) ?_
       refine .m rfl rfl rfl rfl ?_
       refine .m rfl (met rfl rfl rfl g12) rfl rfl ?_
       refine .m rfl (met rfl rfl rfl g12) rfl rfl ?_
       refine .v rfl (met rfl rfl rfl g12) (OpL.binI rfl rfl rfl rfl) ?_
       refine .v rfl rfl (O.pickT g12 rfl rfl rfl) ?_
       refine .m rfl rfl rfl rfl ?_
       refine .m rfl (met rfl rfl rfl g13) rfl rfl ?_
       refine .m rfl (met rfl rfl rfl g13) rfl rfl ?_
       refine .v rfl (met rfl rfl rfl g13) (OpL.binI rfl rfl rfl rfl) ?_
       refine .v rfl rfl (O.pickT g13 rfl rfl rfl) ?_
       refine .m rfl rfl rfl rfl ?_
       refine .m rfl (met rfl rfl rfl g14) rfl rfl ?_
       refine .v rfl (met rfl rfl rfl g14) (OpL.binI rfl rfl rfl rfl) ?_
       refine .v rfl rfl (O.pickT g14 rfl rfl rfl) ?_
       refine .m rfl rfl rfl rfl ?_
       refine .x rfl (unmet rfl rfl rfl g15) ?_
       refine .x rfl (unmet rfl rfl rfl g15) ?_
       refine .v rfl rfl (O.pickF g15 rfl rfl rfl) ?_
       refine .m rfl rfl rfl rfl ?_
       refine .x rfl (unmet rfl rfl rfl rfl) ?_
       refine .x rfl (unmet rfl rfl rfl rfl) ?_
       refine .v rfl rfl (O.pickF rfl rfl rfl rfl) ?_
       refine .m rfl rfl rfl rfl ?_
       refine .x rfl (unmet rfl rfl rfl rfl) ?_
       refine .x rfl (unmet rfl rfl rfl rfl) ?_
       refine .v rfl rfl (O.pickF rfl rfl rfl rfl) ?_
       refine .a rfl rfl rfl rfl ?_
       refine .nil ?_
       exact toN (Gives.mkR [] (.c rfl (sbb (by first | (simp only [g11, g12, g13, g14, g15, Bool.true_or, Bool.or_true, Bool.false_or, Bool.or_false, Bool.true_and, Bool.and_true, Bool.false_and, Bool.and_false, Bool.not_true, Bool.not_false, cond_true, cond_false]; done) | (repeat (first | rw [g11] | rw [g12] | rw [g13] | rw [g14] | rw [g15])) <;> simp only [Bool.true_or, Bool.or_true, Bool.false_or, Bool.or_false, Bool.true_and, Bool.and_true, Bool.false_and, Bool.and_false, Bool.not_true, Bool.not_false, cond_true, cond_false])) rfl .n) .n rfl rfl rfl)
     ·refine W.pk ?_
      refine .m rfl rfl rfl rfl ?_
      refine .v rfl rfl (OpL.binI rfl rfl rfl rfl) ?_
      refine .m rfl rfl rfl rfl ?_
      refine .m rfl (met rfl rfl rfl g11) rfl rfl ?_
      refine .m rfl (met rfl rfl rfl g11) rfl rfl ?_
      refine .v rfl (met rfl rfl rfl g11) (OpL.binI rfl rfl rfl rfl) ?_
      refine .v rfl rfl (O.pickT g11 rfl rfl rfl) ?_
      refine .m rfl rfl rfl rfl ?_
      refine .m rfl (met rfl rfl rfl g12) rfl rfl ?_
      refine .m rfl (met rfl rfl rfl g12) rfl rfl ?_
      refine .v rfl (met rfl rfl rfl g12) (OpL.binI rfl rfl rfl rfl) ?_
      refine .v rfl rfl (O.pickT g12 rfl rfl rfl) ?_
      refine .m rfl rfl rfl rfl ?_
      refine .m rfl (met rfl rfl rfl g13) rfl rfl ?_
      refine .m rfl (met rfl rfl rfl g13) rfl rfl ?_
      refine .v rfl (met rfl rfl rfl g13) (OpL.binI rfl rfl rfl rfl) ?_
      refine .v rfl rfl (O.pickT g13 rfl rfl rfl) ?_
      refine .m rfl rfl rfl rfl ?_
      refine .x rfl (unmet rfl rfl rfl g14) ?_
      refine .x rfl (unmet rfl rfl rfl g14) ?_
      refine .v rfl rfl (O.pickF g14 rfl rfl rfl) ?_
      refine .m rfl rfl rfl rfl ?_
      refine .x rfl (unmet rfl rfl rfl rfl) ?_
      refine .x rfl (unmet rfl rfl rfl rfl) ?_
      refine .v rfl rfl (O.pickF rfl rfl rfl rfl) ?_
      refine .m rfl rfl rfl rfl ?_
      refine .x rfl (unmet rfl rfl rfl rfl) ?_
      refine .x rfl (unmet rfl rfl rfl rfl) ?_
      refine .v rfl rfl (O.pickF rfl rfl rfl rfl) ?_
      refine .m rfl rfl rfl rfl ?_
      refine .x rfl (unmet rfl rfl rfl rfl) ?_
      refine .x rfl (unmet rfl rfl rfl rfl) ?_
      refine .v rfl rfl (O.pickF rfl rfl rfl rfl) ?_
      refine .a rfl rfl rfl rfl ?_
      refine .nil ?_
      exact toN (Gives.mkR [] (.c rfl (sbb (by first | (simp only [g11, g12, g13, g14, Bool.true_or, Bool.or_true, Bool.false_or, Bool.or_false, Bool.true_and, Bool.and_true, Bool.false_and, Bool.and_false, Bool.not_true, Bool.not_false, cond_true, cond_false]; done) | (repeat (first | rw [g11] | rw [g12] | rw [g13] | rw [g14])) <;> simp only [Bool.true_or, Bool.or_true, Bool.false_or, Bool.or_false, Bool.true_and, Bool.and_true, Bool.false_and, Bool.and_false, Bool.not_true, Bool.not_false, cond_true, cond_false])) rfl .n) .n rfl rfl rfl)
    ·refine W.pk ?_
     refine .m rfl rfl rfl rfl ?_
     refine .v rfl rfl (OpL.binI rfl rfl rfl rfl) ?_
     refine .m rfl rfl rfl rfl ?_
     refine .m rfl (met rfl rfl rfl g11) rfl rfl ?_
     refine .m rfl (met rfl rfl rfl g11) rfl rfl ?_
     refine .v rfl (met rfl rfl rfl g11) (OpL.binI rfl rfl rfl rfl) ?_
     refine .v rfl rfl (O.pickT g11 rfl rfl rfl) ?_
     refine .m rfl rfl rfl rfl ?_
     refine .m rfl (met rfl rfl rfl g12) rfl rfl ?_
     refine .m rfl (met rfl rfl rfl g12) rfl rfl ?_
     refine .v rfl (met rfl rfl rfl g12) (OpL.binI rfl rfl rfl rfl) ?_
     refine .v rfl rfl (O.pickT g12 rfl rfl rfl) ?_
     refine .m rfl rfl rfl rfl ?_
     refine .x rfl (unmet rfl rfl rfl g13) ?_
     refine .x rfl (unmet rfl rfl rfl g13) ?_
     refine .x rfl (unmet rfl rfl rfl g13) ?_
     refine .v rfl rfl (O.pickF g13 rfl rfl rfl) ?_
     refine .m rfl rfl rfl rfl ?_
     refine .x rfl (unmet rfl rfl rfl rfl) ?_
     refine .x rfl (unmet rfl rfl rfl rfl) ?_
     refine .v rfl rfl (O.pickF rfl rfl rfl rfl) ?_
     refine .m rfl rfl rfl rfl ?_
     refine .x rfl (unmet rfl rfl rfl rfl) ?_
     refine .x rfl (unmet rfl rfl rfl rfl) ?_
     refine .v rfl rfl (O.pickF rfl rfl rfl rfl) ?_
     refine .m rfl rfl rfl rfl ?_
     refine .x rfl (unmet rfl rfl rfl rfl) ?_
     refine .x rfl (unmet rfl rfl rfl rfl) ?_
     refine .v rfl rfl (O.pickF rfl rfl rfl rfl) ?_
     refine .m rfl rfl rfl rfl ?_
     refine .x rfl (unmet rfl rfl rfl rfl) ?_
     refine .x rfl (unmet rfl rfl rfl rfl) ?_
     refine .v rfl rfl (O.pickF rfl rfl rfl rfl) ?_
     refine .a rfl rfl rfl rfl ?_
     refine .nil ?_
     exact toN (Gives.mkR [] (.c rfl (sbb (by first | (simp only [g11, g12, g13, Bool.true_or, Bool.or_true, Bool.false_or, Bool.or_false, Bool.true_and, Bool.and_true, Bool.false_and, Bool.and_false, Bool.not_true, Bool.not_false, cond_true, cond_false]; done) | (repeat (first | rw [g11] | rw [g12] | rw [g13])) <;> simp only [Bool.true_or, Bool.or_true, Bool.false_or, Bool.or_false, Bool.true_and, Bool.and_true, Bool.false_and, Bool.and_false, Bool.not_true, Bool.not_false, cond_true, cond_false])) rfl .n) .n rfl rfl rfl)
   ·refine W.pk ?_
    refine .m rfl rfl rfl rfl ?_
    refine .v rfl rfl (OpL.binI rfl rfl rfl rfl) ?_
    refine .m rfl rfl rfl rfl ?_
    refine .m rfl (met rfl rfl rfl g11) rfl rfl ?_
    refine .m rfl (met rfl rfl rfl g11) rfl rfl ?_
    refine .v rfl (met rfl rfl rfl g11) (OpL.binI rfl rfl rfl rfl) ?_
    refine .v rfl rfl (O.pickT g11 rfl rfl rfl) ?_
    refine .m rfl rfl rfl rfl ?_
    refine .x rfl (unmet rfl rfl rfl g12) ?_
    refine .x rfl (unmet rfl rfl rfl g12) ?_
    refine .x rfl (unmet rfl rfl rfl g12) ?_
    refine .v rfl rfl (O.pickF g12 rfl rfl rfl) ?_
    refine .m rfl rfl rfl rfl ?_
    refine .x rfl (unmet rfl rfl rfl rfl) ?_
    refine .x rfl (unmet rfl rfl rfl rfl) ?_
    refine .x rfl (unmet rfl rfl rfl rfl) ?_
    refine .v rfl rfl (O.pickF rfl rfl rfl rfl) ?_
    refine .m rfl rfl rfl rfl ?_
    refine .x rfl (unmet rfl rfl rfl rfl) ?_
    refine .x rfl (unmet rfl rfl rfl rfl) ?_
    refine .v rfl rfl (O.pickF rfl rfl rfl rfl) ?_
    refine .m rfl rfl rfl rfl ?_
    refine .x rfl (unmet rfl rfl rfl rfl) ?_
    refine .x rfl (unmet rfl rfl rfl rfl) ?_
    refine .v rfl rfl (O.pickF rfl rfl rfl rfl) ?_
    refine .m rfl rfl rfl rfl ?_
    refine .x rfl (unmet rfl rfl rfl rfl) ?_
    refine .x rfl (unmet rfl rfl rfl rfl) ?_
    refine .v rfl rfl (O.pickF rfl rfl rfl rfl) ?_
    refine .m rfl rfl rfl rfl ?_
    refine .x rfl (unmet rfl rfl rfl rfl) ?_
    refine .x rfl (unmet rfl rfl rfl rfl) ?_
    refine .v rfl rfl (O.pickF rfl rfl rfl rfl) ?_
    refine .a rfl rfl rfl rfl ?_
    refine .nil ?_
    exact toN (Gives.mkR [] (.c rfl (sbb (by first | (simp only [g11, g12, Bool.true_or, Bool.or_true, Bool.false_or, Bool.or_false, Bool.true_and, Bool.and_true, Bool.false_and, Bool.and_false, Bool.not_true, Bool.not_false, cond_true, cond_false]; done) | (repeat (first | rw [g11] | rw [g12])) <;> simp only [Bool.true_or, Bool.or_true, Bool.false_or, Bool.or_false, Bool.true_and, Bool.and_true, Bool.false_and, Bool.and_false, Bool.not_true, Bool.not_false, cond_true, cond_false])) rfl .n) .n rfl rfl rfl)
  ·refine W.pk ?_
   refine .m rfl rfl rfl rfl ?_
   refine .v rfl rfl (OpL.binI rfl rfl rfl rfl) ?_
   refine .m rfl rfl rfl rfl ?_
   refine .x rfl (unmet rfl rfl rfl g11) ?_
   refine .x rfl (unmet rfl rfl rfl g11) ?_
   refine .x rfl (unmet rfl rfl rfl g11) ?_
   refine .v rfl rfl (O.pickF g11 rfl rfl rfl) ?_
   refine .m rfl rfl rfl rfl ?_
   refine .x rfl (unmet rfl rfl rfl rfl) ?_
   refine .x rfl (unmet rfl rfl rfl rfl) ?_
   refine .x rfl (unmet rfl rfl rfl rfl) ?_
   refine .v rfl rfl (O.pickF rfl rfl rfl rfl) ?_
   refine .m rfl rfl rfl rfl ?_
   refine .x rfl (unmet rfl rfl rfl rfl) ?_
   refine .x rfl (unmet rfl rfl rfl rfl) ?_
   refine .x rfl (unmet rfl rfl rfl rfl) ?_
   refine .v rfl rfl (O.pickF rfl rfl rfl rfl) ?_
   refine .m rfl rfl rfl rfl ?_
   refine .x rfl (unmet rfl rfl rfl rfl) ?_
   refine .x rfl (unmet rfl rfl rfl rfl) ?_
   refine .v rfl rfl (O.pickF rfl rfl rfl rfl) ?_
   refine .m rfl rfl rfl rfl ?_
   refine .x rfl (unmet rfl rfl rfl rfl) ?_
   refine .x rfl (unmet rfl rfl rfl rfl) ?_
   refine .v rfl rfl (O.pickF rfl rfl rfl rfl) ?_
   refine .m rfl rfl rfl rfl ?_
   refine .x rfl (unmet rfl rfl rfl rfl) ?_
   refine .x rfl (unmet rfl rfl rfl rfl) ?_
   refine .v rfl rfl (O.pickF rfl rfl rfl rfl) ?_
   refine .m rfl rfl rfl rfl ?_
   refine .x rfl (unmet rfl rfl rfl rfl) ?_
   refine .x rfl (unmet rfl rfl rfl rfl) ?_
   refine .v rfl rfl (O.pickF rfl rfl rfl rfl) ?_
   refine .a rfl rfl rfl rfl ?_
   refine .nil ?_
   exact toN (Gives.mkR [] (.c rfl (sbb (by simp only [g11, Bool.true_or, Bool.or_true, Bool.false_or, Bool.or_false, Bool.true_and, Bool.and_true, Bool.false_and, Bool.and_false, Bool.not_true, Bool.not_false, cond_true, cond_false])) rfl .n) .n rfl rfl rfl)

noncomputable def life_Begin.f (x0 : api_Trade) (x1 : Int) : Option (api_Trade × Int) :=
  if (x0.Stage != 1) = true then
    some (x0, 8)
  else
    (calendar_Good.f x1).bind fun t2 =>
    if ((!t2) || (decide (x1 < x0.Start))) = true then
      some (x0, 10)
    else
      some ((⟨x0.ID, x0.Twin, x0.Member, x0.Side, x0.Basket, x0.Amount, x0.Start, x0.End, x0.Resets, 2, x0.Short⟩ : api_Trade), 0)
set_option maxRecDepth 100000 in
set_option maxHeartbeats 4000000 in
theorem life_Begin.ok {x0 : api_Trade} {x1 : Int} {r : api_Trade × Int} (h : life_Begin.f x0 x1 = some r) : Pm.Spec prog 23 [.agg [.imm (.val (.int .i64 x0.ID)), .imm (.val (.int .i64 x0.Twin)), .imm (.val (.int .i64 x0.Member)), .imm (.val (.int .i64 x0.Side)), .imm (.val (.int .i64 x0.Basket)), .imm (.val (.int .i64 x0.Amount)), .imm (.val (.int .i64 x0.Start)), .imm (.val (.int .i64 x0.End)), .imm (.row 2 (List.map api_Reset.enc x0.Resets)), .imm (.val (.int .i64 x0.Stage)), .imm (.val (.bool x0.Short))], .imm (.val (.int .i64 x1))] (.tup [.agg [.imm (.val (.int .i64 r.1.ID)), .imm (.val (.int .i64 r.1.Twin)), .imm (.val (.int .i64 r.1.Member)), .imm (.val (.int .i64 r.1.Side)), .imm (.val (.int .i64 r.1.Basket)), .imm (.val (.int .i64 r.1.Amount)), .imm (.val (.int .i64 r.1.Start)), .imm (.val (.int .i64 r.1.End)), .imm (.row 2 (List.map api_Reset.enc r.1.Resets)), .imm (.val (.int .i64 r.1.Stage)), .imm (.val (.bool r.1.Short))], .imm (.val (.int .i64 r.2))]) [none, none] := by
 unfold life_Begin.f at h
 refine Pm.Spec.of_body Try.func23 rfl (by kernel_rfl) (Nat.le_of_ble_eq_true rfl) (Nat.le_of_ble_eq_true rfl) ?_
 refine W.ghost (σ' := (mkSt [(0, some (.agg (api_Trade.av x0))), (1, some (.i x1))] [] 1000)) (Gives.entry (.c rfl (.c rfl .n)) .n) ?_
 refine W.seq ?_
 refine W.pk ?_
 refine .t rfl rfl (O.box rfl rfl rfl rfl rfl) ?_
 refine .t rfl rfl (O.alloc z24 rfl) ?_
 refine .a rfl rfl rfl rfl ?_
 refine .nil ?_
 refine W.seq ?_
 refine W.block ?_
 refine W.seq ?_
 refine W.pk ?_
 refine .v rfl rfl (O.fld fld24_9 rfl rfl rfl) ?_
 refine .v rfl rfl (O.ld (y := .i x0.Stage) ty3 rfl rfl rfl) ?_
 refine .v rfl rfl (OpL.binI rfl rfl rfl rfl) ?_
 refine .a rfl rfl rfl rfl ?_
 refine .nil ?_
 refine W.cond rfl (fun q1 => ?_) (fun q1 => ?_)
 ·have h := ifT q1 h
  refine W.seq ?_
  refine W.pk ?_
  refine .v rfl rfl (O.ldN ty24 rfl rfl rfl) ?_
  refine .s rfl rfl (O.st ty24 rfl rfl rfl rfl rfl rfl rfl rfl rfl rfl (all' := [.i x0.ID, .i x0.Twin, .i x0.Member, .i x0.Side, .i x0.Basket, .i x0.Amount, .i x0.Start, .i x0.End, .imm (.row 2 (List.map api_Reset.enc x0.Resets)), .i x0.Stage, .b x0.Short]) rfl) ?_
  refine .a rfl rfl rfl rfl ?_
  refine .nil ?_
  refine W.ret ?_
  cases h
  exact leaves (.inr rfl) rfl (.tup _ _ _ _ (cC (.agg _ _ _ _ (cC (.imm _) (cC (.imm _) (cC (.imm _) (cC (.imm _) (cC (.imm _) (cC (.imm _) (cC (.imm _) (cC (.imm _) (cC (.imm _) (cC (.imm _) (cC (.imm _) .nil)))))))))))) (cC (.imm _) .nil))) (cN (cN .nil)) rfl rfl
 ·have h := ifF q1 h
  refine W.seq ?_
  obtain ⟨t2, b3, h⟩ := bnd1 h
  refine W.fork (mkSt [(2, some (.ptr 1000 0)), (4, some (.ptr 1001 0)), (11, some (.b ((!t2) || (decide (x1 < x0.Start)))))] [(1000, some (.box [.i x0.ID, .i x0.Twin, .i x0.Member, .i x0.Side, .i x0.Basket, .i x0.Amount, .i x0.Start, .i x0.End, .imm (.row 2 (List.map api_Reset.enc x0.Resets)), .i x0.Stage, .b x0.Short])), (1001, some (.box [.i 0, .i 0, .i 0, .i 0, .i 0, .i 0, .i 0, .i 0, .imm (.val (.slice none 0 0)), .i 0, .b false]))] 1002) ?_ ?_
  ·refine W.cond rfl (fun q5 => ?_) (fun q5 => ?_)
   ·have h := ifT q5 h
    refine W.seq ?_
    refine W.pk ?_
    refine .v rfl rfl (O.ldN ty24 rfl rfl rfl) ?_
    refine .s rfl rfl (O.st ty24 rfl rfl rfl rfl rfl rfl rfl rfl rfl rfl (all' := [.i x0.ID, .i x0.Twin, .i x0.Member, .i x0.Side, .i x0.Basket, .i x0.Amount, .i x0.Start, .i x0.End, .imm (.row 2 (List.map api_Reset.enc x0.Resets)), .i x0.Stage, .b x0.Short]) rfl) ?_
    refine .a rfl rfl rfl rfl ?_
    refine .nil ?_
    refine W.ret ?_
    cases h
    exact leaves (.inr rfl) rfl (.tup _ _ _ _ (cC (.agg _ _ _ _ (cC (.imm _) (cC (.imm _) (cC (.imm _) (cC (.imm _) (cC (.imm _) (cC (.imm _) (cC (.imm _) (cC (.imm _) (cC (.imm _) (cC (.imm _) (cC (.imm _) .nil)))))))))))) (cC (.imm _) .nil))) (cN (cN .nil)) rfl rfl
   ·have h := ifF q5 h
    refine W.skip ?_
    refine W.seq ?_
    refine W.pk ?_
    refine .v rfl rfl (O.fld fld24_9 rfl rfl rfl) ?_
    refine .s rfl rfl (O.st ty3 rfl rfl rfl rfl rfl rfl rfl rfl rfl rfl (all' := [.i x0.ID, .i x0.Twin, .i x0.Member, .i x0.Side, .i x0.Basket, .i x0.Amount, .i x0.Start, .i x0.End, .imm (.row 2 (List.map api_Reset.enc x0.Resets)), .i 2, .b x0.Short]) rfl) ?_
    refine .nil ?_
    refine W.seq ?_
    refine W.pk ?_
    refine .v rfl rfl (O.ldN ty24 rfl rfl rfl) ?_
    refine .s rfl rfl (O.st ty24 rfl rfl rfl rfl rfl rfl rfl rfl rfl rfl (all' := [.i x0.ID, .i x0.Twin, .i x0.Member, .i x0.Side, .i x0.Basket, .i x0.Amount, .i x0.Start, .i x0.End, .imm (.row 2 (List.map api_Reset.enc x0.Resets)), .i 2, .b x0.Short]) rfl) ?_
    refine .a rfl rfl rfl rfl ?_
    refine .nil ?_
    refine W.ret ?_
    cases h
    exact leaves (.inr rfl) rfl (.tup _ _ _ _ (cC (.agg _ _ _ _ (cC (.imm _) (cC (.imm _) (cC (.imm _) (cC (.imm _) (cC (.imm _) (cC (.imm _) (cC (.imm _) (cC (.imm _) (cC (.imm _) (cC (.imm _) (cC (.imm _) .nil)))))))))))) (cC (.imm _) .nil))) (cN (cN .nil)) rfl rfl
  ·clear h
   rcases tf t2 with g4 | g4
   ·refine W.pk ?_
    refine .m rfl rfl rfl rfl ?_
    refine .call (.b t2) [] 0 (calendar_Good.ok b3) rfl rfl rfl ca41 rfl rfl (cC (.imm _) .nil) rfl rfl rfl rfl rfl ?_
    refine .v rfl rfl (OpL.unV rfl rfl rfl) ?_
    refine .m rfl rfl rfl rfl ?_
    refine .m rfl (met rfl rfl rfl (notT g4)) rfl rfl ?_
    refine .v rfl (met rfl rfl rfl (notT g4)) (O.fld fld24_6 rfl rfl rfl) ?_
    refine .v rfl (met rfl rfl rfl (notT g4)) (O.ld (y := .i x0.Start) ty3 rfl rfl rfl) ?_
    refine .v rfl (met rfl rfl rfl (notT g4)) (OpL.binI rfl rfl rfl rfl) ?_
    refine .v rfl rfl (O.pickF (notT g4) rfl rfl rfl) ?_
    refine .a rfl rfl rfl rfl ?_
    refine .nil ?_
    exact toN (Gives.mkR [] (.r rfl rfl (.r rfl rfl (.c rfl (sbb (by simp only [g4, Bool.true_or, Bool.or_true, Bool.false_or, Bool.or_false, Bool.true_and, Bool.and_true, Bool.false_and, Bool.and_false, Bool.not_true, Bool.not_false, cond_true, cond_false])) rfl .n))) (.r rfl rfl rfl (.r rfl rfl rfl .n)) rfl rfl rfl)
   ·refine W.pk ?_
    refine .m rfl rfl rfl rfl ?_
    refine .call (.b t2) [] 0 (calendar_Good.ok b3) rfl rfl rfl ca41 rfl rfl (cC (.imm _) .nil) rfl rfl rfl rfl rfl ?_
    refine .v rfl rfl (OpL.unV rfl rfl rfl) ?_
    refine .m rfl rfl rfl rfl ?_
    refine .x rfl (unmet rfl rfl rfl (notF g4)) ?_
    refine .x rfl (unmet rfl rfl rfl (notF g4)) ?_
    refine .x rfl (unmet rfl rfl rfl (notF g4)) ?_
    refine .x rfl (unmet rfl rfl rfl (notF g4)) ?_
    refine .v rfl rfl (O.pickT (notF g4) rfl rfl rfl) ?_
    refine .a rfl rfl rfl rfl ?_
    refine .nil ?_
    exact toN (Gives.mkR [] (.r rfl rfl (.r rfl rfl (.c rfl (sbb (by simp only [g4, Bool.true_or, Bool.or_true, Bool.false_or, Bool.or_false, Bool.true_and, Bool.and_true, Bool.false_and, Bool.and_false, Bool.not_true, Bool.not_false, cond_true, cond_false])) rfl .n))) (.r rfl rfl rfl (.r rfl rfl rfl .n)) rfl rfl rfl)

noncomputable def life_Over.f (x0 : api_Trade) : Option (Bool) :=
  some ((x0.Stage == 4) || (x0.Stage == 5))
set_option maxRecDepth 100000 in
set_option maxHeartbeats 4000000 in
theorem life_Over.ok {x0 : api_Trade} {r : Bool} (h : life_Over.f x0 = some r) : Pm.Spec prog 37 [.agg [.imm (.val (.int .i64 x0.ID)), .imm (.val (.int .i64 x0.Twin)), .imm (.val (.int .i64 x0.Member)), .imm (.val (.int .i64 x0.Side)), .imm (.val (.int .i64 x0.Basket)), .imm (.val (.int .i64 x0.Amount)), .imm (.val (.int .i64 x0.Start)), .imm (.val (.int .i64 x0.End)), .imm (.row 2 (List.map api_Reset.enc x0.Resets)), .imm (.val (.int .i64 x0.Stage)), .imm (.val (.bool x0.Short))]] (.imm (.val (.bool r))) [none] := by
 unfold life_Over.f at h
 refine Pm.Spec.of_body Try.func37 rfl (by kernel_rfl) (Nat.le_of_ble_eq_true rfl) (Nat.le_of_ble_eq_true rfl) ?_
 refine W.ghost (σ' := (mkSt [(0, some (.agg (api_Trade.av x0)))] [] 1000)) (Gives.entry (.c rfl .n) .n) ?_
 refine W.seq ?_
 refine W.pk ?_
 refine .t rfl rfl (O.box rfl rfl rfl rfl rfl) ?_
 refine .a rfl rfl rfl rfl ?_
 refine .nil ?_
 refine W.seq ?_
 refine W.fork (mkSt [(2, some (.b ((x0.Stage == 4) || (x0.Stage == 5))))] [] 1001) ?_ ?_
 ·refine W.ret ?_
  cases h
  exact leaves (.inr rfl) rfl (.imm _) (cN .nil) rfl rfl
 ·clear h
  rcases tf (x0.Stage == 4) with g1 | g1
  ·refine W.pk ?_
   refine .v rfl rfl (O.fld fld24_9 rfl rfl rfl) ?_
   refine .v rfl rfl (O.ld (y := .i x0.Stage) ty3 rfl rfl rfl) ?_
   refine .v rfl rfl (OpL.binI rfl rfl rfl rfl) ?_
   refine .m rfl rfl rfl rfl ?_
   refine .x rfl (unmet rfl rfl rfl g1) ?_
   refine .x rfl (unmet rfl rfl rfl g1) ?_
   refine .x rfl (unmet rfl rfl rfl g1) ?_
   refine .v rfl rfl (O.pickT g1 rfl rfl rfl) ?_
   refine .a rfl rfl rfl rfl ?_
   refine .nil ?_
   exact toN (Gives.mkR [] (.c rfl (sbb (by simp only [g1, Bool.true_or, Bool.or_true, Bool.false_or, Bool.or_false, Bool.true_and, Bool.and_true, Bool.false_and, Bool.and_false, Bool.not_true, Bool.not_false, cond_true, cond_false])) rfl .n) .n rfl rfl rfl)
  ·refine W.pk ?_
   refine .v rfl rfl (O.fld fld24_9 rfl rfl rfl) ?_
   refine .v rfl rfl (O.ld (y := .i x0.Stage) ty3 rfl rfl rfl) ?_
   refine .v rfl rfl (OpL.binI rfl rfl rfl rfl) ?_
   refine .m rfl rfl rfl rfl ?_
   refine .v rfl (met rfl rfl rfl g1) (O.fld fld24_9 rfl rfl rfl) ?_
   refine .v rfl (met rfl rfl rfl g1) (O.ld (y := .i x0.Stage) ty3 rfl rfl rfl) ?_
   refine .v rfl (met rfl rfl rfl g1) (OpL.binI rfl rfl rfl rfl) ?_
   refine .v rfl rfl (O.pickF g1 rfl rfl rfl) ?_
   refine .a rfl rfl rfl rfl ?_
   refine .nil ?_
   exact toN (Gives.mkR [] (.c rfl (sbb (by simp only [g1, Bool.true_or, Bool.or_true, Bool.false_or, Bool.or_false, Bool.true_and, Bool.and_true, Bool.false_and, Bool.and_false, Bool.not_true, Bool.not_false, cond_true, cond_false])) rfl .n) .n rfl rfl rfl)

noncomputable def slices_Clone_api_Reset.f (x0 : List api_Reset) : Option (List api_Reset) :=
  if (List.length x0) * 16 ≤ 140737488355328 then some x0 else none
set_option maxRecDepth 100000 in
theorem slices_Clone_api_Reset.ok {x0 r : List api_Reset} (h : slices_Clone_api_Reset.f x0 = some r) : Pm.Spec prog 49 [.imm (.row 2 (List.map api_Reset.enc x0))] (.xown 46 2 (List.map api_Reset.enc r)) [none] := by
 obtain ⟨h1, rfl⟩ : (List.length x0) * 16 ≤ 140737488355328 ∧ x0 = r := by
   unfold slices_Clone_api_Reset.f at h
   split at h
   · rename_i h1; cases h; exact ⟨h1, rfl⟩
   · cases h
 refine Pm.Spec.of_body Try.func49 rfl (by kernel_rfl) (Nat.le_of_ble_eq_true rfl) (Nat.le_of_ble_eq_true rfl) ?_
 refine W.ghost (σ' := (mkSt [(0, some (.imm (.row 2 (List.map api_Reset.enc x0))))] [] 1000)) (Gives.entry (.c rfl .n) .n) ?_
 cases x0 with
 | cons x1 l1 =>
  refine W.seq ?_
  refine W.pk ?_
  refine .v rfl rfl (OpL.move (.inr rfl) rfl) ?_
  refine .nil ?_
  refine W.seq ?_
  refine W.seq ?_
  refine W.pk ?_
  refine .v rfl rfl (OpL.move (.inl rfl) rfl) ?_
  refine .v rfl rfl (O.eqRow sl22 rfl rfl rfl) ?_
  refine .nil ?_
  refine W.cond rfl (fun q => by cases q) (fun _ => ?_)
  refine W.skip ?_
  refine W.seq ?_
  refine W.pk ?_
  refine .t rfl rfl (O.lit (enc := api_Reset.enc) (l := []) sl22 rfl rfl rfl rfl rfl rfl rfl rfl rfl) ?_
  refine .v rfl rfl (OpL.move (.inl rfl) rfl) ?_
  have h2 : (List.length ([] : List api_Reset) + List.length (x1 :: l1 : List api_Reset)) * 16 ≤ 140737488355328 := by simpa using h1
  refine .t rfl rfl (O.app (l := []) sl22 api_Reset.ok h2 rfl rfl rfl rfl) ?_
  refine .v rfl rfl (OpL.move (.inr rfl) rfl) ?_
  refine .nil ?_
  refine W.ret ?_
  exact leaves (.inr rfl) rfl (.own _ _ _ _ rfl) (cN .nil) rfl rfl
 | nil =>
  refine W.emptyS 0 rfl fun A c => ?_
  cases A with
  | none =>
   refine W.seq ?_
   refine W.pk ?_
   refine .v rfl rfl (OpL.move (.inr rfl) rfl) ?_
   refine .nil ?_
   refine W.seq ?_
   refine W.seq ?_
   refine W.pk ?_
   refine .v rfl rfl (OpL.move (.inl rfl) rfl) ?_
   refine .v rfl rfl (O.eqSl sl22 rfl rfl rfl) ?_
   refine .nil ?_
   refine W.cond rfl (fun _ => ?_) (fun q => by cases q)
   refine W.seq ?_
   refine W.pk ?_
   refine .v rfl rfl (OpL.move (.inr rfl) rfl) ?_
   refine .nil ?_
   refine W.ret ?_
   exact leaves (.inr rfl) rfl (.nilown _ _) (cN .nil) rfl rfl
  | some p =>
   refine W.seq ?_
   refine W.pk ?_
   refine .v rfl rfl (OpL.move (.inr rfl) rfl) ?_
   refine .nil ?_
   refine W.seq ?_
   refine W.seq ?_
   refine W.pk ?_
   refine .v rfl rfl (OpL.move (.inl rfl) rfl) ?_
   refine .v rfl rfl (O.eqSl sl22 rfl rfl rfl) ?_
   refine .nil ?_
   refine W.cond rfl (fun q => by cases q) (fun _ => ?_)
   refine W.skip ?_
   refine W.ghost (Gives.emptyS 0 2 rfl) ?_
   refine W.seq ?_
   refine W.pk ?_
   refine .t rfl rfl (O.lit (enc := api_Reset.enc) (l := []) sl22 rfl rfl rfl rfl rfl rfl rfl rfl rfl) ?_
   refine .v rfl rfl (OpL.move (.inl rfl) rfl) ?_
   have h2 : (List.length ([] : List api_Reset) + List.length ([] : List api_Reset)) * 16 ≤ 140737488355328 := by simp
   refine .t rfl rfl (O.app (l := []) sl22 api_Reset.ok h2 rfl rfl rfl rfl) ?_
   refine .v rfl rfl (OpL.move (.inr rfl) rfl) ?_
   refine .nil ?_
   refine W.ret ?_
   exact leaves (.inr rfl) rfl (.own _ _ _ _ rfl) (cN .nil) rfl rfl
end Go.Proofs.Ytknfdnlhadjbaaa
