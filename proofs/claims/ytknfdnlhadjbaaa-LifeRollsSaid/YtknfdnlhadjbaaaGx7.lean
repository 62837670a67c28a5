/- Shows what functions of the program come to, each as a plain function: written by a program of the author's for this claim. -/
import Derived.Test.YtknfdnlhadjbaaaGx6
namespace Go.Proofs.Ytknfdnlhadjbaaa
open Go Go.Pm
set_option linter.unusedVariables false
set_option linter.unusedSimpArgs false
noncomputable def lombardlaw24_awake.f  : Option (Bool) :=
  (life_Interest.f (⟨1, 2, 1, 1, 1, 360000000, 5, 0, [(⟨5, 10000⟩ : api_Reset)], 2, false⟩ : api_Trade) 8).bind fun t1 =>
  (life_Today.f (⟨1, 2, 1, 1, 1, 360000000, 5, 0, [(⟨5, 10000⟩ : api_Reset)], 2, false⟩ : api_Trade) 8).bind fun t3 =>
  (life_Notice.f (⟨1, 2, 1, 1, 1, 360000000, 5, 0, [(⟨5, 10000⟩ : api_Reset)], 2, false⟩ : api_Trade) 8 9).bind fun t5 =>
  (life_Interest.f t5.1 20).bind fun t7 =>
  (if (((((((t1.2 == 0) && (t3.2 == t1.2)) && (t5.2 == t1.2)) && (t7.2 == t1.2)) && (t1.1 == 30000)) && (t3.1 == 10000)) && (t7.1 == 40000)) = true then life_Due.f t5.1 9 else some default).bind fun t9 =>
  some ((((((((t1.2 == 0) && (t3.2 == t1.2)) && (t5.2 == t1.2)) && (t7.2 == t1.2)) && (t1.1 == 30000)) && (t3.1 == 10000)) && (t7.1 == 40000)) && t9)
set_option maxRecDepth 100000 in
set_option maxHeartbeats 4000000 in
theorem lombardlaw24_awake.ok  {r : Bool} (h : lombardlaw24_awake.f  = some r) : Pm.Spec prog 10 [] (.imm (.val (.bool r))) [] := by
  unfold lombardlaw24_awake.f at h
  refine Pm.Spec.of_body Try.func10 rfl (by kernel_rfl) (Nat.le_of_ble_eq_true rfl) (Nat.le_of_ble_eq_true rfl) ?_
  refine W.ghost (σ' := (mkSt [] [] 1000)) (Gives.entry .n .n) ?_
  refine W.seq ?_
  refine W.pk ?_
  refine .v rfl rfl (OpL.move (.inr rfl) rfl) ?_
  refine .nil ?_
  refine W.seq ?_
  refine W.pk ?_
  refine .v rfl rfl (O.build (out := [.imm (.val (.int .i64 5)), .imm (.val (.int .i64 10000))]) bl46 rfl rfl rfl rfl rfl) ?_
  refine .t rfl rfl (O.lit (enc := api_Reset.enc) (l := [(⟨5, 10000⟩ : api_Reset)]) sl22 rfl rfl rfl rfl rfl rfl rfl rfl rfl) ?_
  refine .v rfl rfl (O.build (out := [.imm (.val (.int .i64 1)), .imm (.val (.int .i64 2)), .imm (.val (.int .i64 1)), .imm (.val (.int .i64 1)), .imm (.val (.int .i64 1)), .imm (.val (.int .i64 360000000)), .imm (.val (.int .i64 5)), .imm (.val (.int .i64 0)), .own 1000, .imm (.val (.int .i64 2)), .imm (.val (.bool false))]) bl24 rfl rfl rfl rfl rfl) ?_
  refine .t rfl rfl (O.alloc z24 rfl) ?_
  refine .s rfl rfl (O.st ty24 rfl rfl rfl rfl rfl rfl rfl rfl rfl rfl (all' := [.imm (.val (.int .i64 1)), .imm (.val (.int .i64 2)), .imm (.val (.int .i64 1)), .imm (.val (.int .i64 1)), .imm (.val (.int .i64 1)), .imm (.val (.int .i64 360000000)), .imm (.val (.int .i64 5)), .imm (.val (.int .i64 0)), .own 1000, .imm (.val (.int .i64 2)), .imm (.val (.bool false))]) rfl) ?_
  refine .nil ?_
  refine W.seq ?_
  obtain ⟨t1, b2, h⟩ := bnd1 h
  refine W.pk ?_
  refine .v rfl rfl (O.ldN ty24 rfl rfl rfl) ?_
  refine .call (.tup [.imm (.val (.int .i64 t1.1)), .imm (.val (.int .i64 t1.2))]) [(1000, some (.rows 46 2 (List.map api_Reset.enc [(⟨5, 10000⟩ : api_Reset)]) true))] 0 (life_Interest.ok b2) rfl rfl rfl ca11 rfl rfl (cC (.agg _ _ _ _ (cC (.imm _) (cC (.imm _) (cC (.imm _) (cC (.imm _) (cC (.imm _) (cC (.imm _) (cC (.imm _) (cC (.imm _) (cC (.lend _ _ _ _ _ rfl) (cC (.imm _) (cC (.imm _) .nil)))))))))))) (cC (.imm _) .nil)) rfl rfl rfl rfl rfl ?_
  refine .v rfl rfl (OpL.move (.inl rfl) rfl) ?_
  refine .v rfl rfl (OpL.extract rfl rfl rfl) ?_
  refine .v rfl rfl (OpL.extract rfl rfl rfl) ?_
  refine .v rfl rfl (OpL.move (.inr rfl) rfl) ?_
  refine .v rfl rfl (OpL.move (.inr rfl) rfl) ?_
  refine .nil ?_
  refine W.seq ?_
  obtain ⟨t3, b4, h⟩ := bnd1 h
  refine W.pk ?_
  refine .v rfl rfl (O.ldN ty24 rfl rfl rfl) ?_
  refine .call (.tup [.imm (.val (.int .i64 t3.1)), .imm (.val (.int .i64 t3.2))]) [(1000, some (.rows 46 2 (List.map api_Reset.enc [(⟨5, 10000⟩ : api_Reset)]) true))] 0 (life_Today.ok b4) rfl rfl rfl ca12 rfl rfl (cC (.agg _ _ _ _ (cC (.imm _) (cC (.imm _) (cC (.imm _) (cC (.imm _) (cC (.imm _) (cC (.imm _) (cC (.imm _) (cC (.imm _) (cC (.lend _ _ _ _ _ rfl) (cC (.imm _) (cC (.imm _) .nil)))))))))))) (cC (.imm _) .nil)) rfl rfl rfl rfl rfl ?_
  refine .v rfl rfl (OpL.move (.inl rfl) rfl) ?_
  refine .v rfl rfl (OpL.extract rfl rfl rfl) ?_
  refine .v rfl rfl (OpL.extract rfl rfl rfl) ?_
  refine .v rfl rfl (OpL.move (.inr rfl) rfl) ?_
  refine .v rfl rfl (OpL.move (.inr rfl) rfl) ?_
  refine .nil ?_
  refine W.seq ?_
  obtain ⟨t5, b6, h⟩ := bnd1 h
  refine W.pk ?_
  refine .v rfl rfl (O.ldN ty24 rfl rfl rfl) ?_
  refine .call (.tup [.agg [.imm (.val (.int .i64 t5.1.ID)), .imm (.val (.int .i64 t5.1.Twin)), .imm (.val (.int .i64 t5.1.Member)), .imm (.val (.int .i64 t5.1.Side)), .imm (.val (.int .i64 t5.1.Basket)), .imm (.val (.int .i64 t5.1.Amount)), .imm (.val (.int .i64 t5.1.Start)), .imm (.val (.int .i64 t5.1.End)), .imm (.row 2 (List.map api_Reset.enc t5.1.Resets)), .imm (.val (.int .i64 t5.1.Stage)), .imm (.val (.bool t5.1.Short))], .imm (.val (.int .i64 t5.2))]) [(1000, some (.rows 46 2 (List.map api_Reset.enc [(⟨5, 10000⟩ : api_Reset)]) true))] 0 (life_Notice.ok b6) rfl rfl rfl ca25 rfl rfl (cC (.agg _ _ _ _ (cC (.imm _) (cC (.imm _) (cC (.imm _) (cC (.imm _) (cC (.imm _) (cC (.imm _) (cC (.imm _) (cC (.imm _) (cC (.lend _ _ _ _ _ rfl) (cC (.imm _) (cC (.imm _) .nil)))))))))))) (cC (.imm _) (cC (.imm _) .nil))) rfl rfl rfl rfl rfl ?_
  refine .v rfl rfl (OpL.move (.inl rfl) rfl) ?_
  refine .v rfl rfl (OpL.extract rfl rfl rfl) ?_
  refine .v rfl rfl (OpL.extract rfl rfl rfl) ?_
  refine .t rfl rfl (O.alloc z24 rfl) ?_
  refine .s rfl rfl (O.st ty24 rfl rfl rfl rfl rfl rfl rfl rfl rfl rfl (all' := [.imm (.val (.int .i64 t5.1.ID)), .imm (.val (.int .i64 t5.1.Twin)), .imm (.val (.int .i64 t5.1.Member)), .imm (.val (.int .i64 t5.1.Side)), .imm (.val (.int .i64 t5.1.Basket)), .imm (.val (.int .i64 t5.1.Amount)), .imm (.val (.int .i64 t5.1.Start)), .imm (.val (.int .i64 t5.1.End)), .imm (.row 2 (List.map api_Reset.enc t5.1.Resets)), .imm (.val (.int .i64 t5.1.Stage)), .imm (.val (.bool t5.1.Short))]) rfl) ?_
  refine .v rfl rfl (OpL.move (.inr rfl) rfl) ?_
  refine .nil ?_
  refine W.seq ?_
  obtain ⟨t7, b8, h⟩ := bnd1 h
  refine W.pk ?_
  refine .v rfl rfl (O.ldN ty24 rfl rfl rfl) ?_
  refine .call (.tup [.imm (.val (.int .i64 t7.1)), .imm (.val (.int .i64 t7.2))]) [] 0 (life_Interest.ok b8) rfl rfl rfl ca11 rfl rfl (cC (.agg _ _ _ _ (cC (.imm _) (cC (.imm _) (cC (.imm _) (cC (.imm _) (cC (.imm _) (cC (.imm _) (cC (.imm _) (cC (.imm _) (cC (.imm _) (cC (.imm _) (cC (.imm _) .nil)))))))))))) (cC (.imm _) .nil)) rfl rfl rfl rfl rfl ?_
  refine .v rfl rfl (OpL.move (.inl rfl) rfl) ?_
  refine .v rfl rfl (OpL.extract rfl rfl rfl) ?_
  refine .v rfl rfl (OpL.extract rfl rfl rfl) ?_
  refine .v rfl rfl (OpL.move (.inr rfl) rfl) ?_
  refine .v rfl rfl (OpL.move (.inr rfl) rfl) ?_
  refine .nil ?_
  refine W.seq ?_
  obtain ⟨t9, b10, h⟩ := bnd1 h
  refine W.fork (mkSt [(0, some (.imm (.val (.bool ((((((((t1.2 == 0) && (t3.2 == t1.2)) && (t5.2 == t1.2)) && (t7.2 == t1.2)) && (t1.1 == 30000)) && (t3.1 == 10000)) && (t7.1 == 40000)) && t9)))))] [] 1003) ?_ ?_
  · refine W.ret ?_
    cases h
    exact leaves (.inr rfl) rfl (.imm _) .nil rfl rfl
  · clear h
    rcases tf (t1.2 == 0) with g11 | g11
    · rcases tf (t3.2 == t1.2) with g12 | g12
      · rcases tf (t5.2 == t1.2) with g13 | g13
        · rcases tf (t7.2 == t1.2) with g14 | g14
          · rcases tf (t1.1 == 30000) with g15 | g15
            · rcases tf (t3.1 == 10000) with g16 | g16
              · rcases tf (t7.1 == 40000) with g17 | g17
                · refine W.pk ?_
                  refine .v rfl rfl (OpL.move (.inl rfl) rfl) ?_
                  refine .v rfl rfl (OpL.binI rfl rfl rfl rfl) ?_
                  refine .v rfl rfl (OpL.move (.inl rfl) rfl) ?_
                  refine .v rfl (met rfl rfl rfl g11) (OpL.move (.inl rfl) rfl) ?_
                  refine .v rfl (met rfl rfl rfl g11) (OpL.move (.inl rfl) rfl) ?_
                  refine .v rfl (met rfl rfl rfl g11) (OpL.binI rfl rfl rfl rfl) ?_
                  refine .v rfl rfl (O.pickT g11 rfl rfl rfl) ?_
                  refine .v rfl rfl (OpL.move (.inl rfl) rfl) ?_
                  refine .v rfl (met rfl rfl rfl g12) (OpL.move (.inl rfl) rfl) ?_
                  refine .v rfl (met rfl rfl rfl g12) (OpL.move (.inl rfl) rfl) ?_
                  refine .v rfl (met rfl rfl rfl g12) (OpL.binI rfl rfl rfl rfl) ?_
                  refine .v rfl rfl (O.pickT g12 rfl rfl rfl) ?_
                  refine .v rfl rfl (OpL.move (.inl rfl) rfl) ?_
                  refine .v rfl (met rfl rfl rfl g13) (OpL.move (.inl rfl) rfl) ?_
                  refine .v rfl (met rfl rfl rfl g13) (OpL.move (.inl rfl) rfl) ?_
                  refine .v rfl (met rfl rfl rfl g13) (OpL.binI rfl rfl rfl rfl) ?_
                  refine .v rfl rfl (O.pickT g13 rfl rfl rfl) ?_
                  refine .v rfl rfl (OpL.move (.inl rfl) rfl) ?_
                  refine .v rfl (met rfl rfl rfl g14) (OpL.move (.inl rfl) rfl) ?_
                  refine .v rfl (met rfl rfl rfl g14) (OpL.binI rfl rfl rfl rfl) ?_
                  refine .v rfl rfl (O.pickT g14 rfl rfl rfl) ?_
                  refine .v rfl rfl (OpL.move (.inl rfl) rfl) ?_
                  refine .v rfl (met rfl rfl rfl g15) (OpL.move (.inl rfl) rfl) ?_
                  refine .v rfl (met rfl rfl rfl g15) (OpL.binI rfl rfl rfl rfl) ?_
                  refine .v rfl rfl (O.pickT g15 rfl rfl rfl) ?_
                  refine .v rfl rfl (OpL.move (.inl rfl) rfl) ?_
                  refine .v rfl (met rfl rfl rfl g16) (OpL.move (.inl rfl) rfl) ?_
                  refine .v rfl (met rfl rfl rfl g16) (OpL.binI rfl rfl rfl rfl) ?_
                  refine .v rfl rfl (O.pickT g16 rfl rfl rfl) ?_
                  refine .v rfl rfl (OpL.move (.inl rfl) rfl) ?_
                  refine .v rfl (met rfl rfl rfl g17) (O.ldN ty24 rfl rfl rfl) ?_
                  refine .call (.imm (.val (.bool t9))) [] 0 (life_Due.ok ((if_pos (by simp only [g11, g12, g13, g14, g15, g16, g17, Bool.true_or, Bool.or_true, Bool.false_or, Bool.or_false, Bool.true_and, Bool.and_true, Bool.false_and, Bool.and_false, Bool.not_true, Bool.not_false, cond_true, cond_false])).symm.trans b10)) rfl (met rfl rfl rfl g17) rfl ca38 rfl rfl (cC (.agg _ _ _ _ (cC (.imm _) (cC (.imm _) (cC (.imm _) (cC (.imm _) (cC (.imm _) (cC (.imm _) (cC (.imm _) (cC (.imm _) (cC (.imm _) (cC (.imm _) (cC (.imm _) .nil)))))))))))) (cC (.imm _) .nil)) rfl rfl rfl rfl rfl ?_
                  refine .v rfl rfl (O.pickT g17 rfl rfl rfl) ?_
                  refine .v rfl rfl (OpL.move (.inr rfl) rfl) ?_
                  refine .nil ?_
                  exact toN (Gives.mkR [] (.c rfl (sbb (by simp only [g11, g12, g13, g14, g15, g16, g17, Bool.true_or, Bool.or_true, Bool.false_or, Bool.or_false, Bool.true_and, Bool.and_true, Bool.false_and, Bool.and_false, Bool.not_true, Bool.not_false, cond_true, cond_false])) rfl .n) .n rfl rfl rfl)
                · refine W.pk ?_
                  refine .v rfl rfl (OpL.move (.inl rfl) rfl) ?_
                  refine .v rfl rfl (OpL.binI rfl rfl rfl rfl) ?_
                  refine .v rfl rfl (OpL.move (.inl rfl) rfl) ?_
                  refine .v rfl (met rfl rfl rfl g11) (OpL.move (.inl rfl) rfl) ?_
                  refine .v rfl (met rfl rfl rfl g11) (OpL.move (.inl rfl) rfl) ?_
                  refine .v rfl (met rfl rfl rfl g11) (OpL.binI rfl rfl rfl rfl) ?_
                  refine .v rfl rfl (O.pickT g11 rfl rfl rfl) ?_
                  refine .v rfl rfl (OpL.move (.inl rfl) rfl) ?_
                  refine .v rfl (met rfl rfl rfl g12) (OpL.move (.inl rfl) rfl) ?_
                  refine .v rfl (met rfl rfl rfl g12) (OpL.move (.inl rfl) rfl) ?_
                  refine .v rfl (met rfl rfl rfl g12) (OpL.binI rfl rfl rfl rfl) ?_
                  refine .v rfl rfl (O.pickT g12 rfl rfl rfl) ?_
                  refine .v rfl rfl (OpL.move (.inl rfl) rfl) ?_
                  refine .v rfl (met rfl rfl rfl g13) (OpL.move (.inl rfl) rfl) ?_
                  refine .v rfl (met rfl rfl rfl g13) (OpL.move (.inl rfl) rfl) ?_
                  refine .v rfl (met rfl rfl rfl g13) (OpL.binI rfl rfl rfl rfl) ?_
                  refine .v rfl rfl (O.pickT g13 rfl rfl rfl) ?_
                  refine .v rfl rfl (OpL.move (.inl rfl) rfl) ?_
                  refine .v rfl (met rfl rfl rfl g14) (OpL.move (.inl rfl) rfl) ?_
                  refine .v rfl (met rfl rfl rfl g14) (OpL.binI rfl rfl rfl rfl) ?_
                  refine .v rfl rfl (O.pickT g14 rfl rfl rfl) ?_
                  refine .v rfl rfl (OpL.move (.inl rfl) rfl) ?_
                  refine .v rfl (met rfl rfl rfl g15) (OpL.move (.inl rfl) rfl) ?_
                  refine .v rfl (met rfl rfl rfl g15) (OpL.binI rfl rfl rfl rfl) ?_
                  refine .v rfl rfl (O.pickT g15 rfl rfl rfl) ?_
                  refine .v rfl rfl (OpL.move (.inl rfl) rfl) ?_
                  refine .v rfl (met rfl rfl rfl g16) (OpL.move (.inl rfl) rfl) ?_
                  refine .v rfl (met rfl rfl rfl g16) (OpL.binI rfl rfl rfl rfl) ?_
                  refine .v rfl rfl (O.pickT g16 rfl rfl rfl) ?_
                  refine .v rfl rfl (OpL.move (.inl rfl) rfl) ?_
                  refine .x rfl (unmet rfl rfl rfl g17) ?_
                  refine .x rfl (unmet rfl rfl rfl g17) ?_
                  refine .v rfl rfl (O.pickF g17 rfl rfl rfl) ?_
                  refine .v rfl rfl (OpL.move (.inr rfl) rfl) ?_
                  refine .nil ?_
                  exact toN (Gives.mkR [] (.c rfl (sbb (by simp only [g11, g12, g13, g14, g15, g16, g17, Bool.true_or, Bool.or_true, Bool.false_or, Bool.or_false, Bool.true_and, Bool.and_true, Bool.false_and, Bool.and_false, Bool.not_true, Bool.not_false, cond_true, cond_false])) rfl .n) .n rfl rfl rfl)
              · refine W.pk ?_
                refine .v rfl rfl (OpL.move (.inl rfl) rfl) ?_
                refine .v rfl rfl (OpL.binI rfl rfl rfl rfl) ?_
                refine .v rfl rfl (OpL.move (.inl rfl) rfl) ?_
                refine .v rfl (met rfl rfl rfl g11) (OpL.move (.inl rfl) rfl) ?_
                refine .v rfl (met rfl rfl rfl g11) (OpL.move (.inl rfl) rfl) ?_
                refine .v rfl (met rfl rfl rfl g11) (OpL.binI rfl rfl rfl rfl) ?_
                refine .v rfl rfl (O.pickT g11 rfl rfl rfl) ?_
                refine .v rfl rfl (OpL.move (.inl rfl) rfl) ?_
                refine .v rfl (met rfl rfl rfl g12) (OpL.move (.inl rfl) rfl) ?_
                refine .v rfl (met rfl rfl rfl g12) (OpL.move (.inl rfl) rfl) ?_
                refine .v rfl (met rfl rfl rfl g12) (OpL.binI rfl rfl rfl rfl) ?_
                refine .v rfl rfl (O.pickT g12 rfl rfl rfl) ?_
                refine .v rfl rfl (OpL.move (.inl rfl) rfl) ?_
                refine .v rfl (met rfl rfl rfl g13) (OpL.move (.inl rfl) rfl) ?_
                refine .v rfl (met rfl rfl rfl g13) (OpL.move (.inl rfl) rfl) ?_
                refine .v rfl (met rfl rfl rfl g13) (OpL.binI rfl rfl rfl rfl) ?_
                refine .v rfl rfl (O.pickT g13 rfl rfl rfl) ?_
                refine .v rfl rfl (OpL.move (.inl rfl) rfl) ?_
                refine .v rfl (met rfl rfl rfl g14) (OpL.move (.inl rfl) rfl) ?_
                refine .v rfl (met rfl rfl rfl g14) (OpL.binI rfl rfl rfl rfl) ?_
                refine .v rfl rfl (O.pickT g14 rfl rfl rfl) ?_
                refine .v rfl rfl (OpL.move (.inl rfl) rfl) ?_
                refine .v rfl (met rfl rfl rfl g15) (OpL.move (.inl rfl) rfl) ?_
                refine .v rfl (met rfl rfl rfl g15) (OpL.binI rfl rfl rfl rfl) ?_
                refine .v rfl rfl (O.pickT g15 rfl rfl rfl) ?_
                refine .v rfl rfl (OpL.move (.inl rfl) rfl) ?_
                refine .x rfl (unmet rfl rfl rfl g16) ?_
                refine .x rfl (unmet rfl rfl rfl g16) ?_
                refine .v rfl rfl (O.pickF g16 rfl rfl rfl) ?_
                refine .v rfl rfl (OpL.move (.inl rfl) rfl) ?_
                refine .x rfl (unmet rfl rfl rfl rfl) ?_
                refine .x rfl (unmet rfl rfl rfl rfl) ?_
                refine .v rfl rfl (O.pickF rfl rfl rfl rfl) ?_
                refine .v rfl rfl (OpL.move (.inr rfl) rfl) ?_
                refine .nil ?_
                exact toN (Gives.mkR [] (.c rfl (sbb (by simp only [g11, g12, g13, g14, g15, g16, Bool.true_or, Bool.or_true, Bool.false_or, Bool.or_false, Bool.true_and, Bool.and_true, Bool.false_and, Bool.and_false, Bool.not_true, Bool.not_false, cond_true, cond_false])) rfl .n) .n rfl rfl rfl)
            · refine W.pk ?_
              refine .v rfl rfl (OpL.move (.inl rfl) rfl) ?_
              refine .v rfl rfl (OpL.binI rfl rfl rfl rfl) ?_
              refine .v rfl rfl (OpL.move (.inl rfl) rfl) ?_
              refine .v rfl (met rfl rfl rfl g11) (OpL.move (.inl rfl) rfl) ?_
              refine .v rfl (met rfl rfl rfl g11) (OpL.move (.inl rfl) rfl) ?_
              refine .v rfl (met rfl rfl rfl g11) (OpL.binI rfl rfl rfl rfl) ?_
              refine .v rfl rfl (O.pickT g11 rfl rfl rfl) ?_
              refine .v rfl rfl (OpL.move (.inl rfl) rfl) ?_
              refine .v rfl (met rfl rfl rfl g12) (OpL.move (.inl rfl) rfl) ?_
              refine .v rfl (met rfl rfl rfl g12) (OpL.move (.inl rfl) rfl) ?_
              refine .v rfl (met rfl rfl rfl g12) (OpL.binI rfl rfl rfl rfl) ?_
              refine .v rfl rfl (O.pickT g12 rfl rfl rfl) ?_
              refine .v rfl rfl (OpL.move (.inl rfl) rfl) ?_
              refine .v rfl (met rfl rfl rfl g13) (OpL.move (.inl rfl) rfl) ?_
              refine .v rfl (met rfl rfl rfl g13) (OpL.move (.inl rfl) rfl) ?_
              refine .v rfl (met rfl rfl rfl g13) (OpL.binI rfl rfl rfl rfl) ?_
              refine .v rfl rfl (O.pickT g13 rfl rfl rfl) ?_
              refine .v rfl rfl (OpL.move (.inl rfl) rfl) ?_
              refine .v rfl (met rfl rfl rfl g14) (OpL.move (.inl rfl) rfl) ?_
              refine .v rfl (met rfl rfl rfl g14) (OpL.binI rfl rfl rfl rfl) ?_
              refine .v rfl rfl (O.pickT g14 rfl rfl rfl) ?_
              refine .v rfl rfl (OpL.move (.inl rfl) rfl) ?_
              refine .x rfl (unmet rfl rfl rfl g15) ?_
              refine .x rfl (unmet rfl rfl rfl g15) ?_
              refine .v rfl rfl (O.pickF g15 rfl rfl rfl) ?_
              refine .v rfl rfl (OpL.move (.inl rfl) rfl) ?_
              refine .x rfl (unmet rfl rfl rfl rfl) ?_
              refine .x rfl (unmet rfl rfl rfl rfl) ?_
              refine .v rfl rfl (O.pickF rfl rfl rfl rfl) ?_
              refine .v rfl rfl (OpL.move (.inl rfl) rfl) ?_
              refine .x rfl (unmet rfl rfl rfl rfl) ?_
              refine .x rfl (unmet rfl rfl rfl rfl) ?_
              refine .v rfl rfl (O.pickF rfl rfl rfl rfl) ?_
              refine .v rfl rfl (OpL.move (.inr rfl) rfl) ?_
              refine .nil ?_
              exact toN (Gives.mkR [] (.c rfl (sbb (by simp only [g11, g12, g13, g14, g15, Bool.true_or, Bool.or_true, Bool.false_or, Bool.or_false, Bool.true_and, Bool.and_true, Bool.false_and, Bool.and_false, Bool.not_true, Bool.not_false, cond_true, cond_false])) rfl .n) .n rfl rfl rfl)
          · refine W.pk ?_
            refine .v rfl rfl (OpL.move (.inl rfl) rfl) ?_
            refine .v rfl rfl (OpL.binI rfl rfl rfl rfl) ?_
            refine .v rfl rfl (OpL.move (.inl rfl) rfl) ?_
            refine .v rfl (met rfl rfl rfl g11) (OpL.move (.inl rfl) rfl) ?_
            refine .v rfl (met rfl rfl rfl g11) (OpL.move (.inl rfl) rfl) ?_
            refine .v rfl (met rfl rfl rfl g11) (OpL.binI rfl rfl rfl rfl) ?_
            refine .v rfl rfl (O.pickT g11 rfl rfl rfl) ?_
            refine .v rfl rfl (OpL.move (.inl rfl) rfl) ?_
            refine .v rfl (met rfl rfl rfl g12) (OpL.move (.inl rfl) rfl) ?_
            refine .v rfl (met rfl rfl rfl g12) (OpL.move (.inl rfl) rfl) ?_
            refine .v rfl (met rfl rfl rfl g12) (OpL.binI rfl rfl rfl rfl) ?_
            refine .v rfl rfl (O.pickT g12 rfl rfl rfl) ?_
            refine .v rfl rfl (OpL.move (.inl rfl) rfl) ?_
            refine .v rfl (met rfl rfl rfl g13) (OpL.move (.inl rfl) rfl) ?_
            refine .v rfl (met rfl rfl rfl g13) (OpL.move (.inl rfl) rfl) ?_
            refine .v rfl (met rfl rfl rfl g13) (OpL.binI rfl rfl rfl rfl) ?_
            refine .v rfl rfl (O.pickT g13 rfl rfl rfl) ?_
            refine .v rfl rfl (OpL.move (.inl rfl) rfl) ?_
            refine .x rfl (unmet rfl rfl rfl g14) ?_
            refine .x rfl (unmet rfl rfl rfl g14) ?_
            refine .v rfl rfl (O.pickF g14 rfl rfl rfl) ?_
            refine .v rfl rfl (OpL.move (.inl rfl) rfl) ?_
            refine .x rfl (unmet rfl rfl rfl rfl) ?_
            refine .x rfl (unmet rfl rfl rfl rfl) ?_
            refine .v rfl rfl (O.pickF rfl rfl rfl rfl) ?_
            refine .v rfl rfl (OpL.move (.inl rfl) rfl) ?_
            refine .x rfl (unmet rfl rfl rfl rfl) ?_
            refine .x rfl (unmet rfl rfl rfl rfl) ?_
            refine .v rfl rfl (O.pickF rfl rfl rfl rfl) ?_
            refine .v rfl rfl (OpL.move (.inl rfl) rfl) ?_
            refine .x rfl (unmet rfl rfl rfl rfl) ?_
            refine .x rfl (unmet rfl rfl rfl rfl) ?_
            refine .v rfl rfl (O.pickF rfl rfl rfl rfl) ?_
            refine .v rfl rfl (OpL.move (.inr rfl) rfl) ?_
            refine .nil ?_
            exact toN (Gives.mkR [] (.c rfl (sbb (by simp only [g11, g12, g13, g14, Bool.true_or, Bool.or_true, Bool.false_or, Bool.or_false, Bool.true_and, Bool.and_true, Bool.false_and, Bool.and_false, Bool.not_true, Bool.not_false, cond_true, cond_false])) rfl .n) .n rfl rfl rfl)
        · refine W.pk ?_
          refine .v rfl rfl (OpL.move (.inl rfl) rfl) ?_
          refine .v rfl rfl (OpL.binI rfl rfl rfl rfl) ?_
          refine .v rfl rfl (OpL.move (.inl rfl) rfl) ?_
          refine .v rfl (met rfl rfl rfl g11) (OpL.move (.inl rfl) rfl) ?_
          refine .v rfl (met rfl rfl rfl g11) (OpL.move (.inl rfl) rfl) ?_
          refine .v rfl (met rfl rfl rfl g11) (OpL.binI rfl rfl rfl rfl) ?_
          refine .v rfl rfl (O.pickT g11 rfl rfl rfl) ?_
          refine .v rfl rfl (OpL.move (.inl rfl) rfl) ?_
          refine .v rfl (met rfl rfl rfl g12) (OpL.move (.inl rfl) rfl) ?_
          refine .v rfl (met rfl rfl rfl g12) (OpL.move (.inl rfl) rfl) ?_
          refine .v rfl (met rfl rfl rfl g12) (OpL.binI rfl rfl rfl rfl) ?_
          refine .v rfl rfl (O.pickT g12 rfl rfl rfl) ?_
          refine .v rfl rfl (OpL.move (.inl rfl) rfl) ?_
          refine .x rfl (unmet rfl rfl rfl g13) ?_
          refine .x rfl (unmet rfl rfl rfl g13) ?_
          refine .x rfl (unmet rfl rfl rfl g13) ?_
          refine .v rfl rfl (O.pickF g13 rfl rfl rfl) ?_
          refine .v rfl rfl (OpL.move (.inl rfl) rfl) ?_
          refine .x rfl (unmet rfl rfl rfl rfl) ?_
          refine .x rfl (unmet rfl rfl rfl rfl) ?_
          refine .v rfl rfl (O.pickF rfl rfl rfl rfl) ?_
          refine .v rfl rfl (OpL.move (.inl rfl) rfl) ?_
          refine .x rfl (unmet rfl rfl rfl rfl) ?_
          refine .x rfl (unmet rfl rfl rfl rfl) ?_
          refine .v rfl rfl (O.pickF rfl rfl rfl rfl) ?_
          refine .v rfl rfl (OpL.move (.inl rfl) rfl) ?_
          refine .x rfl (unmet rfl rfl rfl rfl) ?_
          refine .x rfl (unmet rfl rfl rfl rfl) ?_
          refine .v rfl rfl (O.pickF rfl rfl rfl rfl) ?_
          refine .v rfl rfl (OpL.move (.inl rfl) rfl) ?_
          refine .x rfl (unmet rfl rfl rfl rfl) ?_
          refine .x rfl (unmet rfl rfl rfl rfl) ?_
          refine .v rfl rfl (O.pickF rfl rfl rfl rfl) ?_
          refine .v rfl rfl (OpL.move (.inr rfl) rfl) ?_
          refine .nil ?_
          exact toN (Gives.mkR [] (.c rfl (sbb (by simp only [g11, g12, g13, Bool.true_or, Bool.or_true, Bool.false_or, Bool.or_false, Bool.true_and, Bool.and_true, Bool.false_and, Bool.and_false, Bool.not_true, Bool.not_false, cond_true, cond_false])) rfl .n) .n rfl rfl rfl)
      · refine W.pk ?_
        refine .v rfl rfl (OpL.move (.inl rfl) rfl) ?_
        refine .v rfl rfl (OpL.binI rfl rfl rfl rfl) ?_
        refine .v rfl rfl (OpL.move (.inl rfl) rfl) ?_
        refine .v rfl (met rfl rfl rfl g11) (OpL.move (.inl rfl) rfl) ?_
        refine .v rfl (met rfl rfl rfl g11) (OpL.move (.inl rfl) rfl) ?_
        refine .v rfl (met rfl rfl rfl g11) (OpL.binI rfl rfl rfl rfl) ?_
        refine .v rfl rfl (O.pickT g11 rfl rfl rfl) ?_
        refine .v rfl rfl (OpL.move (.inl rfl) rfl) ?_
        refine .x rfl (unmet rfl rfl rfl g12) ?_
        refine .x rfl (unmet rfl rfl rfl g12) ?_
        refine .x rfl (unmet rfl rfl rfl g12) ?_
        refine .v rfl rfl (O.pickF g12 rfl rfl rfl) ?_
        refine .v rfl rfl (OpL.move (.inl rfl) rfl) ?_
        refine .x rfl (unmet rfl rfl rfl rfl) ?_
        refine .x rfl (unmet rfl rfl rfl rfl) ?_
        refine .x rfl (unmet rfl rfl rfl rfl) ?_
        refine .v rfl rfl (O.pickF rfl rfl rfl rfl) ?_
        refine .v rfl rfl (OpL.move (.inl rfl) rfl) ?_
        refine .x rfl (unmet rfl rfl rfl rfl) ?_
        refine .x rfl (unmet rfl rfl rfl rfl) ?_
        refine .v rfl rfl (O.pickF rfl rfl rfl rfl) ?_
        refine .v rfl rfl (OpL.move (.inl rfl) rfl) ?_
        refine .x rfl (unmet rfl rfl rfl rfl) ?_
        refine .x rfl (unmet rfl rfl rfl rfl) ?_
        refine .v rfl rfl (O.pickF rfl rfl rfl rfl) ?_
        refine .v rfl rfl (OpL.move (.inl rfl) rfl) ?_
        refine .x rfl (unmet rfl rfl rfl rfl) ?_
        refine .x rfl (unmet rfl rfl rfl rfl) ?_
        refine .v rfl rfl (O.pickF rfl rfl rfl rfl) ?_
        refine .v rfl rfl (OpL.move (.inl rfl) rfl) ?_
        refine .x rfl (unmet rfl rfl rfl rfl) ?_
        refine .x rfl (unmet rfl rfl rfl rfl) ?_
        refine .v rfl rfl (O.pickF rfl rfl rfl rfl) ?_
        refine .v rfl rfl (OpL.move (.inr rfl) rfl) ?_
        refine .nil ?_
        exact toN (Gives.mkR [] (.c rfl (sbb (by simp only [g11, g12, Bool.true_or, Bool.or_true, Bool.false_or, Bool.or_false, Bool.true_and, Bool.and_true, Bool.false_and, Bool.and_false, Bool.not_true, Bool.not_false, cond_true, cond_false])) rfl .n) .n rfl rfl rfl)
    · refine W.pk ?_
      refine .v rfl rfl (OpL.move (.inl rfl) rfl) ?_
      refine .v rfl rfl (OpL.binI rfl rfl rfl rfl) ?_
      refine .v rfl rfl (OpL.move (.inl rfl) rfl) ?_
      refine .x rfl (unmet rfl rfl rfl g11) ?_
      refine .x rfl (unmet rfl rfl rfl g11) ?_
      refine .x rfl (unmet rfl rfl rfl g11) ?_
      refine .v rfl rfl (O.pickF g11 rfl rfl rfl) ?_
      refine .v rfl rfl (OpL.move (.inl rfl) rfl) ?_
      refine .x rfl (unmet rfl rfl rfl rfl) ?_
      refine .x rfl (unmet rfl rfl rfl rfl) ?_
      refine .x rfl (unmet rfl rfl rfl rfl) ?_
      refine .v rfl rfl (O.pickF rfl rfl rfl rfl) ?_
      refine .v rfl rfl (OpL.move (.inl rfl) rfl) ?_
      refine .x rfl (unmet rfl rfl rfl rfl) ?_
      refine .x rfl (unmet rfl rfl rfl rfl) ?_
      refine .x rfl (unmet rfl rfl rfl rfl) ?_
      refine .v rfl rfl (O.pickF rfl rfl rfl rfl) ?_
      refine .v rfl rfl (OpL.move (.inl rfl) rfl) ?_
      refine .x rfl (unmet rfl rfl rfl rfl) ?_
      refine .x rfl (unmet rfl rfl rfl rfl) ?_
      refine .v rfl rfl (O.pickF rfl rfl rfl rfl) ?_
      refine .v rfl rfl (OpL.move (.inl rfl) rfl) ?_
      refine .x rfl (unmet rfl rfl rfl rfl) ?_
      refine .x rfl (unmet rfl rfl rfl rfl) ?_
      refine .v rfl rfl (O.pickF rfl rfl rfl rfl) ?_
      refine .v rfl rfl (OpL.move (.inl rfl) rfl) ?_
      refine .x rfl (unmet rfl rfl rfl rfl) ?_
      refine .x rfl (unmet rfl rfl rfl rfl) ?_
      refine .v rfl rfl (O.pickF rfl rfl rfl rfl) ?_
      refine .v rfl rfl (OpL.move (.inl rfl) rfl) ?_
      refine .x rfl (unmet rfl rfl rfl rfl) ?_
      refine .x rfl (unmet rfl rfl rfl rfl) ?_
      refine .v rfl rfl (O.pickF rfl rfl rfl rfl) ?_
      refine .v rfl rfl (OpL.move (.inr rfl) rfl) ?_
      refine .nil ?_
      exact toN (Gives.mkR [] (.c rfl (sbb (by simp only [g11, Bool.true_or, Bool.or_true, Bool.false_or, Bool.or_false, Bool.true_and, Bool.and_true, Bool.false_and, Bool.and_false, Bool.not_true, Bool.not_false, cond_true, cond_false])) rfl .n) .n rfl rfl rfl)

noncomputable def lombardlaw24_LifeGrows.b0 (x0 : api_Trade) (x1 : Int) (x2 : Int) (v23 : Int) (v24 : Int) : Option ((Int × Int) ⊕ (Bool ⊕ Int)) :=
  if (decide (v24 < (IntKind.wrap .i64 (Int.tmod x2 40)))) = true then
    (life_Today.f x0 (IntKind.wrap .i64 (x1 + v24))).bind fun t48 =>
    if (t48.2 != 0) = true then
      (lombardlaw24_awake.f).bind fun t51 =>
      some (.inr (.inl t51))
    else
      if (((x0.End != 0) && (decide ((IntKind.wrap .i64 (x1 + v24)) ≥ x0.End))) && (t48.1 != 0)) = true then
        some (.inr (.inl false))
      else
        some (.inl ((IntKind.wrap .i64 (v23 + t48.1)), (IntKind.wrap .i64 (v24 + 1))))
  else
    some (.inr (.inr v23))
noncomputable def lombardlaw24_LifeGrows.r0 (x0 : api_Trade) (x1 : Int) (x2 : Int) (s : Int × Int) : Option ((Int × Int) ⊕ (Bool ⊕ Int)) := lombardlaw24_LifeGrows.b0 x0 x1 x2 s.1 s.2
noncomputable def lombardlaw24_LifeGrows.f (x0 : api_Trade) (x1 : Int) (x2 : Int) : Option (Bool) :=
  (lombardlaw24_good.f x0).bind fun t1 =>
  if ((((!t1) || (decide (x1 < 0))) || (decide (x1 > 100000))) || (decide ((IntKind.wrap .i64 (x1 - x0.Start)) > 3000))) = true then
    (lombardlaw24_awake.f).bind fun t7 =>
    some t7
  else
    (life_Interest.f x0 x1).bind fun t9 =>
    if (t9.2 != 0) = true then
      (lombardlaw24_awake.f).bind fun t12 =>
      some t12
    else
      (loop (lombardlaw24_LifeGrows.r0 x0 x1 x2) (t9.1, 0)).bind fun o44 =>
      match o44 with
      | .inl r56 => some r56
      | .inr w43 =>
        (life_Interest.f x0 (IntKind.wrap .i64 (x1 + (IntKind.wrap .i64 (Int.tmod x2 40))))).bind fun t57 =>
        (if ((t57.2 == 0) && (t57.1 == w43)) = true then lombardlaw24_awake.f else some default).bind fun t59 =>
        some (((t57.2 == 0) && (t57.1 == w43)) && t59)
set_option maxRecDepth 100000 in
set_option maxHeartbeats 4000000 in
theorem lombardlaw24_LifeGrows.ok {x0 : api_Trade} {x1 : Int} {x2 : Int} {r : Bool} (h : lombardlaw24_LifeGrows.f x0 x1 x2 = some r) : Pm.Spec prog 3 [.agg [.imm (.val (.int .i64 x0.ID)), .imm (.val (.int .i64 x0.Twin)), .imm (.val (.int .i64 x0.Member)), .imm (.val (.int .i64 x0.Side)), .imm (.val (.int .i64 x0.Basket)), .imm (.val (.int .i64 x0.Amount)), .imm (.val (.int .i64 x0.Start)), .imm (.val (.int .i64 x0.End)), .imm (.row 2 (List.map api_Reset.enc x0.Resets)), .imm (.val (.int .i64 x0.Stage)), .imm (.val (.bool x0.Short))], .imm (.val (.int .i64 x1)), .imm (.val (.int .u8 x2))] (.imm (.val (.bool r))) [none, none, none] := by
  unfold lombardlaw24_LifeGrows.f at h
  refine Pm.Spec.of_body Try.func3 rfl (by kernel_rfl) (Nat.le_of_ble_eq_true rfl) (Nat.le_of_ble_eq_true rfl) ?_
  refine W.ghost (σ' := (mkSt [(0, some (.agg [.imm (.val (.int .i64 x0.ID)), .imm (.val (.int .i64 x0.Twin)), .imm (.val (.int .i64 x0.Member)), .imm (.val (.int .i64 x0.Side)), .imm (.val (.int .i64 x0.Basket)), .imm (.val (.int .i64 x0.Amount)), .imm (.val (.int .i64 x0.Start)), .imm (.val (.int .i64 x0.End)), .imm (.row 2 (List.map api_Reset.enc x0.Resets)), .imm (.val (.int .i64 x0.Stage)), .imm (.val (.bool x0.Short))])), (1, some (.imm (.val (.int .i64 x1)))), (2, some (.imm (.val (.int .u8 x2))))] [] 1000)) (Gives.entry (.c rfl (.c rfl (.c rfl .n))) .n) ?_
  refine W.seq ?_
  refine W.pk ?_
  refine .t rfl rfl (O.box rfl rfl rfl rfl rfl) ?_
  refine .v rfl rfl (OpL.move (.inr rfl) rfl) ?_
  refine .nil ?_
  refine W.seq ?_
  refine W.seq ?_
  obtain ⟨t1, b2, h⟩ := bnd1 h
  refine W.fork (mkSt [(1, some (.imm (.val (.int .i64 x1)))), (2, some (.imm (.val (.int .u8 x2)))), (3, some (.ptr 1000 0)), (32, some (.imm (.val (.bool ((((!t1) || (decide (x1 < 0))) || (decide (x1 > 100000))) || (decide ((IntKind.wrap .i64 (x1 - x0.Start)) > 3000)))))))] [(1000, some (.box [.imm (.val (.int .i64 x0.ID)), .imm (.val (.int .i64 x0.Twin)), .imm (.val (.int .i64 x0.Member)), .imm (.val (.int .i64 x0.Side)), .imm (.val (.int .i64 x0.Basket)), .imm (.val (.int .i64 x0.Amount)), .imm (.val (.int .i64 x0.Start)), .imm (.val (.int .i64 x0.End)), .imm (.row 2 (List.map api_Reset.enc x0.Resets)), .imm (.val (.int .i64 x0.Stage)), .imm (.val (.bool x0.Short))]))] 1001) ?_ ?_
  · refine W.cond rfl (fun q6 => ?_) (fun q6 => ?_)
    · have h := ifT q6 h
      refine W.seq ?_
      obtain ⟨t7, b8, h⟩ := bnd1 h
      refine W.pk ?_
      refine .call (.imm (.val (.bool t7))) [] 0 (lombardlaw24_awake.ok b8) rfl rfl rfl ca10 rfl rfl .nil rfl rfl rfl rfl rfl ?_
      refine .v rfl rfl (OpL.move (.inr rfl) rfl) ?_
      refine .nil ?_
      refine W.ret ?_
      cases h
      exact leaves (.inr rfl) rfl (.imm _) (cN (cN (cN .nil))) rfl rfl
    · have h := ifF q6 h
      refine W.skip ?_
      refine W.seq ?_
      refine W.pk ?_
      refine .v rfl rfl (OpL.move (.inl rfl) rfl) ?_
      refine .v rfl rfl (O.rem rfl rfl rfl (by decide)) ?_
      refine .v rfl rfl (O.conv h5 u3 rfl rfl) ?_
      refine .v rfl rfl (OpL.move (.inr rfl) rfl) ?_
      refine .nil ?_
      refine W.seq ?_
      obtain ⟨t9, b10, h⟩ := bnd1 h
      refine W.pk ?_
      refine .v rfl rfl (O.ldN ty24 rfl rfl rfl) ?_
      refine .v rfl rfl (OpL.move (.inl rfl) rfl) ?_
      refine .call (.tup [.imm (.val (.int .i64 t9.1)), .imm (.val (.int .i64 t9.2))]) [] 0 (life_Interest.ok b10) rfl rfl rfl ca11 rfl rfl (cC (.agg _ _ _ _ (cC (.imm _) (cC (.imm _) (cC (.imm _) (cC (.imm _) (cC (.imm _) (cC (.imm _) (cC (.imm _) (cC (.imm _) (cC (.imm _) (cC (.imm _) (cC (.imm _) .nil)))))))))))) (cC (.imm _) .nil)) rfl rfl rfl rfl rfl ?_
      refine .v rfl rfl (OpL.move (.inl rfl) rfl) ?_
      refine .v rfl rfl (OpL.extract rfl rfl rfl) ?_
      refine .v rfl rfl (OpL.extract rfl rfl rfl) ?_
      refine .v rfl rfl (OpL.move (.inr rfl) rfl) ?_
      refine .v rfl rfl (OpL.move (.inr rfl) rfl) ?_
      refine .nil ?_
      refine W.seq ?_
      refine W.seq ?_
      refine W.pk ?_
      refine .v rfl rfl (OpL.move (.inl rfl) rfl) ?_
      refine .v rfl rfl (OpL.binI rfl rfl rfl rfl) ?_
      refine .nil ?_
      refine W.cond rfl (fun q11 => ?_) (fun q11 => ?_)
      · have h := ifT q11 h
        refine W.seq ?_
        obtain ⟨t12, b13, h⟩ := bnd1 h
        refine W.pk ?_
        refine .call (.imm (.val (.bool t12))) [] 0 (lombardlaw24_awake.ok b13) rfl rfl rfl ca10 rfl rfl .nil rfl rfl rfl rfl rfl ?_
        refine .v rfl rfl (OpL.move (.inr rfl) rfl) ?_
        refine .nil ?_
        refine W.ret ?_
        cases h
        exact leaves (.inr rfl) rfl (.imm _) (cN (cN (cN .nil))) rfl rfl
      · have h := ifF q11 h
        refine W.skip ?_
        refine W.seq ?_
        refine W.seq ?_
        refine W.pk ?_
        refine .v rfl rfl (OpL.move (.inr rfl) rfl) ?_
        refine .nil ?_
        obtain ⟨o44, b45, z46⟩ := bnd1 h
        refine W.fork2 (out := o44) (fun (w43 : Int) => mkSt [(1, some (.imm (.val (.int .i64 x1)))), (3, some (.ptr 1000 0)), (7, some (.imm (.val (.int .i64 (IntKind.wrap .i64 (Int.tmod x2 40)))))), (8, some (.imm (.val (.int .i64 w43))))] [(1000, some (.box [.imm (.val (.int .i64 x0.ID)), .imm (.val (.int .i64 x0.Twin)), .imm (.val (.int .i64 x0.Member)), .imm (.val (.int .i64 x0.Side)), .imm (.val (.int .i64 x0.Basket)), .imm (.val (.int .i64 x0.Amount)), .imm (.val (.int .i64 x0.Start)), .imm (.val (.int .i64 x0.End)), .imm (.row 2 (List.map api_Reset.enc x0.Resets)), .imm (.val (.int .i64 x0.Stage)), .imm (.val (.bool x0.Short))]))] 1001) ?_ ?_
        · clear h
          refine W.block ?_
          refine W.loopF (fun (s_ : Int × Int) => mkSt [(1, some (.imm (.val (.int .i64 x1)))), (3, some (.ptr 1000 0)), (7, some (.imm (.val (.int .i64 (IntKind.wrap .i64 (Int.tmod x2 40)))))), (8, some (.imm (.val (.int .i64 s_.1)))), (10, some (.imm (.val (.int .i64 s_.2))))] [(1000, some (.box [.imm (.val (.int .i64 x0.ID)), .imm (.val (.int .i64 x0.Twin)), .imm (.val (.int .i64 x0.Member)), .imm (.val (.int .i64 x0.Side)), .imm (.val (.int .i64 x0.Basket)), .imm (.val (.int .i64 x0.Amount)), .imm (.val (.int .i64 x0.Start)), .imm (.val (.int .i64 x0.End)), .imm (.row 2 (List.map api_Reset.enc x0.Resets)), .imm (.val (.int .i64 x0.Stage)), .imm (.val (.bool x0.Short))]))] 1001) b45 (Gives.mkR [] (.c rfl (.rfl _) rfl (.c rfl (.rfl _) rfl (.c rfl (.rfl _) rfl (.c rfl (.rfl _) rfl (.c rfl (.rfl _) rfl .n))))) (.c rfl (.rfl _) rfl rfl .n) rfl rfl rfl) ?_
          rintro ⟨v23, v24⟩ s_ hr
          have h : lombardlaw24_LifeGrows.b0 x0 x1 x2 v23 v24 = some s_ := hr
          unfold lombardlaw24_LifeGrows.b0 at h
          refine W.seq ?_
          refine W.seq ?_
          refine W.pk ?_
          refine .v rfl rfl (OpL.move (.inl rfl) rfl) ?_
          refine .v rfl rfl (OpL.move (.inl rfl) rfl) ?_
          refine .v rfl rfl (OpL.binI rfl rfl rfl rfl) ?_
          refine .nil ?_
          refine W.cond rfl (fun q47 => ?_) (fun q47 => ?_)
          · have h := ifT q47 h
            refine W.skip ?_
            refine W.seq ?_
            refine W.block ?_
            refine W.seq ?_
            obtain ⟨t48, b49, h⟩ := bnd1 h
            refine W.pk ?_
            refine .v rfl rfl (O.ldN ty24 rfl rfl rfl) ?_
            refine .v rfl rfl (OpL.move (.inl rfl) rfl) ?_
            refine .v rfl rfl (OpL.move (.inl rfl) rfl) ?_
            refine .v rfl rfl (OpL.binI rfl rfl rfl rfl) ?_
            refine .call (.tup [.imm (.val (.int .i64 t48.1)), .imm (.val (.int .i64 t48.2))]) [] 0 (life_Today.ok b49) rfl rfl rfl ca12 rfl rfl (cC (.agg _ _ _ _ (cC (.imm _) (cC (.imm _) (cC (.imm _) (cC (.imm _) (cC (.imm _) (cC (.imm _) (cC (.imm _) (cC (.imm _) (cC (.imm _) (cC (.imm _) (cC (.imm _) .nil)))))))))))) (cC (.imm _) .nil)) rfl rfl rfl rfl rfl ?_
            refine .v rfl rfl (OpL.move (.inl rfl) rfl) ?_
            refine .v rfl rfl (OpL.extract rfl rfl rfl) ?_
            refine .v rfl rfl (OpL.extract rfl rfl rfl) ?_
            refine .v rfl rfl (OpL.move (.inr rfl) rfl) ?_
            refine .v rfl rfl (OpL.move (.inr rfl) rfl) ?_
            refine .nil ?_
            refine W.seq ?_
            refine W.seq ?_
            refine W.pk ?_
            refine .v rfl rfl (OpL.move (.inl rfl) rfl) ?_
            refine .v rfl rfl (OpL.binI rfl rfl rfl rfl) ?_
            refine .nil ?_
            refine W.cond rfl (fun q50 => ?_) (fun q50 => ?_)
            · have h := ifT q50 h
              refine W.seq ?_
              obtain ⟨t51, b52, h⟩ := bnd1 h
              refine W.pk ?_
              refine .call (.imm (.val (.bool t51))) [] 0 (lombardlaw24_awake.ok b52) rfl rfl rfl ca10 rfl rfl .nil rfl rfl rfl rfl rfl ?_
              refine .v rfl rfl (OpL.move (.inr rfl) rfl) ?_
              refine .nil ?_
              refine W.ret ?_
              cases h
              refine rdR fun e_ => ?_
              subst e_
              have h := z46
              dsimp only at h
              refine fkR ?_
              cases h
              exact leaves (.inr rfl) rfl (.imm _) (cN (cN (cN .nil))) rfl rfl
            · have h := ifF q50 h
              refine W.skip ?_
              refine W.seq ?_
              refine W.seq ?_
              refine W.fork (mkSt [(1, some (.imm (.val (.int .i64 x1)))), (3, some (.ptr 1000 0)), (7, some (.imm (.val (.int .i64 (IntKind.wrap .i64 (Int.tmod x2 40)))))), (8, some (.imm (.val (.int .i64 v23)))), (10, some (.imm (.val (.int .i64 v24)))), (11, some (.imm (.val (.int .i64 t48.1)))), (76, some (.imm (.val (.bool (((x0.End != 0) && (decide ((IntKind.wrap .i64 (x1 + v24)) ≥ x0.End))) && (t48.1 != 0))))))] [(1000, some (.box [.imm (.val (.int .i64 x0.ID)), .imm (.val (.int .i64 x0.Twin)), .imm (.val (.int .i64 x0.Member)), .imm (.val (.int .i64 x0.Side)), .imm (.val (.int .i64 x0.Basket)), .imm (.val (.int .i64 x0.Amount)), .imm (.val (.int .i64 x0.Start)), .imm (.val (.int .i64 x0.End)), .imm (.row 2 (List.map api_Reset.enc x0.Resets)), .imm (.val (.int .i64 x0.Stage)), .imm (.val (.bool x0.Short))]))] 1001) ?_ ?_
              · refine W.cond rfl (fun q55 => ?_) (fun q55 => ?_)
                · have h := ifT q55 h
                  refine W.seq ?_
                  refine W.pk ?_
                  refine .v rfl rfl (OpL.move (.inr rfl) rfl) ?_
                  refine .nil ?_
                  refine W.ret ?_
                  cases h
                  refine rdR fun e_ => ?_
                  subst e_
                  have h := z46
                  dsimp only at h
                  refine fkR ?_
                  cases h
                  exact leaves (.inr rfl) rfl (.imm _) (cN (cN (cN .nil))) rfl rfl
                · have h := ifF q55 h
                  refine W.skip ?_
                  refine W.pk ?_
                  refine .v rfl rfl (OpL.move (.inl rfl) rfl) ?_
                  refine .v rfl rfl (OpL.move (.inl rfl) rfl) ?_
                  refine .v rfl rfl (OpL.binI rfl rfl rfl rfl) ?_
                  refine .v rfl rfl (OpL.move (.inr rfl) rfl) ?_
                  refine .nil ?_
                  refine W.pk ?_
                  refine .v rfl rfl (OpL.move (.inl rfl) rfl) ?_
                  refine .v rfl rfl (OpL.binI rfl rfl rfl rfl) ?_
                  refine .v rfl rfl (OpL.move (.inr rfl) rfl) ?_
                  refine .nil ?_
                  cases h
                  exact rdN (Gives.mkR [] (.c rfl (.rfl _) rfl (.c rfl (.rfl _) rfl (.c rfl (.rfl _) rfl (.c rfl (.rfl _) rfl (.c rfl (.rfl _) rfl .n))))) (.c rfl (.rfl _) rfl rfl .n) rfl rfl rfl)
              · clear h
                rcases tf (x0.End != 0) with g53 | g53
                · rcases tf (decide ((IntKind.wrap .i64 (x1 + v24)) ≥ x0.End)) with g54 | g54
                  · refine W.pk ?_
                    refine .v rfl rfl (O.fld fld24_7 rfl rfl rfl) ?_
                    refine .v rfl rfl (O.ld ty3 rfl rfl rfl) ?_
                    refine .v rfl rfl (OpL.binI rfl rfl rfl rfl) ?_
                    refine .v rfl rfl (OpL.move (.inl rfl) rfl) ?_
                    refine .v rfl (met rfl rfl rfl g53) (OpL.move (.inl rfl) rfl) ?_
                    refine .v rfl (met rfl rfl rfl g53) (OpL.move (.inl rfl) rfl) ?_
                    refine .v rfl (met rfl rfl rfl g53) (OpL.binI rfl rfl rfl rfl) ?_
                    refine .v rfl (met rfl rfl rfl g53) (O.fld fld24_7 rfl rfl rfl) ?_
                    refine .v rfl (met rfl rfl rfl g53) (O.ld ty3 rfl rfl rfl) ?_
                    refine .v rfl (met rfl rfl rfl g53) (OpL.binI rfl rfl rfl rfl) ?_
                    refine .v rfl rfl (O.pickT g53 rfl rfl rfl) ?_
                    refine .v rfl rfl (OpL.move (.inl rfl) rfl) ?_
                    refine .v rfl (met rfl rfl rfl g54) (OpL.move (.inl rfl) rfl) ?_
                    refine .v rfl (met rfl rfl rfl g54) (OpL.binI rfl rfl rfl rfl) ?_
                    refine .v rfl rfl (O.pickT g54 rfl rfl rfl) ?_
                    refine .nil ?_
                    exact toN (Gives.mkR [] (.c rfl (.rfl _) rfl (.c rfl (.rfl _) rfl (.c rfl (.rfl _) rfl (.c rfl (.rfl _) rfl (.c rfl (.rfl _) rfl (.c rfl (.rfl _) rfl (.c rfl (sbb (by simp only [g53, g54, Bool.true_or, Bool.or_true, Bool.false_or, Bool.or_false, Bool.true_and, Bool.and_true, Bool.false_and, Bool.and_false, Bool.not_true, Bool.not_false, cond_true, cond_false])) rfl .n))))))) (.c rfl (.rfl _) rfl rfl .n) rfl rfl rfl)
                  · refine W.pk ?_
                    refine .v rfl rfl (O.fld fld24_7 rfl rfl rfl) ?_
                    refine .v rfl rfl (O.ld ty3 rfl rfl rfl) ?_
                    refine .v rfl rfl (OpL.binI rfl rfl rfl rfl) ?_
                    refine .v rfl rfl (OpL.move (.inl rfl) rfl) ?_
                    refine .v rfl (met rfl rfl rfl g53) (OpL.move (.inl rfl) rfl) ?_
                    refine .v rfl (met rfl rfl rfl g53) (OpL.move (.inl rfl) rfl) ?_
                    refine .v rfl (met rfl rfl rfl g53) (OpL.binI rfl rfl rfl rfl) ?_
                    refine .v rfl (met rfl rfl rfl g53) (O.fld fld24_7 rfl rfl rfl) ?_
                    refine .v rfl (met rfl rfl rfl g53) (O.ld ty3 rfl rfl rfl) ?_
                    refine .v rfl (met rfl rfl rfl g53) (OpL.binI rfl rfl rfl rfl) ?_
                    refine .v rfl rfl (O.pickT g53 rfl rfl rfl) ?_
                    refine .v rfl rfl (OpL.move (.inl rfl) rfl) ?_
                    refine .x rfl (unmet rfl rfl rfl g54) ?_
                    refine .x rfl (unmet rfl rfl rfl g54) ?_
                    refine .v rfl rfl (O.pickF g54 rfl rfl rfl) ?_
                    refine .nil ?_
                    exact toN (Gives.mkR [] (.c rfl (.rfl _) rfl (.c rfl (.rfl _) rfl (.c rfl (.rfl _) rfl (.c rfl (.rfl _) rfl (.c rfl (.rfl _) rfl (.c rfl (.rfl _) rfl (.c rfl (sbb (by simp only [g53, g54, Bool.true_or, Bool.or_true, Bool.false_or, Bool.or_false, Bool.true_and, Bool.and_true, Bool.false_and, Bool.and_false, Bool.not_true, Bool.not_false, cond_true, cond_false])) rfl .n))))))) (.c rfl (.rfl _) rfl rfl .n) rfl rfl rfl)
                · refine W.pk ?_
                  refine .v rfl rfl (O.fld fld24_7 rfl rfl rfl) ?_
                  refine .v rfl rfl (O.ld ty3 rfl rfl rfl) ?_
                  refine .v rfl rfl (OpL.binI rfl rfl rfl rfl) ?_
                  refine .v rfl rfl (OpL.move (.inl rfl) rfl) ?_
                  refine .x rfl (unmet rfl rfl rfl g53) ?_
                  refine .x rfl (unmet rfl rfl rfl g53) ?_
                  refine .x rfl (unmet rfl rfl rfl g53) ?_
                  refine .x rfl (unmet rfl rfl rfl g53) ?_
                  refine .x rfl (unmet rfl rfl rfl g53) ?_
                  refine .x rfl (unmet rfl rfl rfl g53) ?_
                  refine .v rfl rfl (O.pickF g53 rfl rfl rfl) ?_
                  refine .v rfl rfl (OpL.move (.inl rfl) rfl) ?_
                  refine .x rfl (unmet rfl rfl rfl rfl) ?_
                  refine .x rfl (unmet rfl rfl rfl rfl) ?_
                  refine .v rfl rfl (O.pickF rfl rfl rfl rfl) ?_
                  refine .nil ?_
                  exact toN (Gives.mkR [] (.c rfl (.rfl _) rfl (.c rfl (.rfl _) rfl (.c rfl (.rfl _) rfl (.c rfl (.rfl _) rfl (.c rfl (.rfl _) rfl (.c rfl (.rfl _) rfl (.c rfl (sbb (by simp only [g53, Bool.true_or, Bool.or_true, Bool.false_or, Bool.or_false, Bool.true_and, Bool.and_true, Bool.false_and, Bool.and_false, Bool.not_true, Bool.not_false, cond_true, cond_false])) rfl .n))))))) (.c rfl (.rfl _) rfl rfl .n) rfl rfl rfl)
          · have h := ifF q47 h
            refine W.exit ?_
            cases h
            refine rdX fun e_ => ?_
            subst e_
            refine hit ?_
            exact fkN (Gives.mkR [] (.c rfl (.rfl _) rfl (.c rfl (.rfl _) rfl (.c rfl (.rfl _) rfl (.c rfl (.rfl _) rfl .n)))) (.c rfl (.rfl _) rfl rfl .n) rfl rfl rfl)
        · intro w43 e_
          subst e_
          clear h
          have h := z46
          dsimp only at h
          refine W.seq ?_
          obtain ⟨t57, b58, h⟩ := bnd1 h
          refine W.pk ?_
          refine .v rfl rfl (O.ldN ty24 rfl rfl rfl) ?_
          refine .v rfl rfl (OpL.move (.inl rfl) rfl) ?_
          refine .v rfl rfl (OpL.move (.inl rfl) rfl) ?_
          refine .v rfl rfl (OpL.binI rfl rfl rfl rfl) ?_
          refine .call (.tup [.imm (.val (.int .i64 t57.1)), .imm (.val (.int .i64 t57.2))]) [] 0 (life_Interest.ok b58) rfl rfl rfl ca11 rfl rfl (cC (.agg _ _ _ _ (cC (.imm _) (cC (.imm _) (cC (.imm _) (cC (.imm _) (cC (.imm _) (cC (.imm _) (cC (.imm _) (cC (.imm _) (cC (.imm _) (cC (.imm _) (cC (.imm _) .nil)))))))))))) (cC (.imm _) .nil)) rfl rfl rfl rfl rfl ?_
          refine .v rfl rfl (OpL.move (.inl rfl) rfl) ?_
          refine .v rfl rfl (OpL.extract rfl rfl rfl) ?_
          refine .v rfl rfl (OpL.extract rfl rfl rfl) ?_
          refine .v rfl rfl (OpL.move (.inr rfl) rfl) ?_
          refine .v rfl rfl (OpL.move (.inr rfl) rfl) ?_
          refine .nil ?_
          refine W.seq ?_
          obtain ⟨t59, b60, h⟩ := bnd1 h
          refine W.fork (mkSt [(6, some (.imm (.val (.bool (((t57.2 == 0) && (t57.1 == w43)) && t59)))))] [] 1001) ?_ ?_
          · refine W.ret ?_
            cases h
            exact leaves (.inr rfl) rfl (.imm _) (cN (cN (cN .nil))) rfl rfl
          · clear h
            rcases tf (t57.2 == 0) with g61 | g61
            · rcases tf (t57.1 == w43) with g62 | g62
              · refine W.pk ?_
                refine .v rfl rfl (OpL.move (.inl rfl) rfl) ?_
                refine .v rfl rfl (OpL.binI rfl rfl rfl rfl) ?_
                refine .v rfl rfl (OpL.move (.inl rfl) rfl) ?_
                refine .v rfl (met rfl rfl rfl g61) (OpL.move (.inl rfl) rfl) ?_
                refine .v rfl (met rfl rfl rfl g61) (OpL.move (.inl rfl) rfl) ?_
                refine .v rfl (met rfl rfl rfl g61) (OpL.binI rfl rfl rfl rfl) ?_
                refine .v rfl rfl (O.pickT g61 rfl rfl rfl) ?_
                refine .v rfl rfl (OpL.move (.inl rfl) rfl) ?_
                refine .call (.imm (.val (.bool t59))) [] 0 (lombardlaw24_awake.ok ((if_pos (by simp only [g61, g62, Bool.true_or, Bool.or_true, Bool.false_or, Bool.or_false, Bool.true_and, Bool.and_true, Bool.false_and, Bool.and_false, Bool.not_true, Bool.not_false, cond_true, cond_false])).symm.trans b60)) rfl (met rfl rfl rfl g62) rfl ca10 rfl rfl .nil rfl rfl rfl rfl rfl ?_
                refine .v rfl rfl (O.pickT g62 rfl rfl rfl) ?_
                refine .v rfl rfl (OpL.move (.inr rfl) rfl) ?_
                refine .nil ?_
                exact toN (Gives.mkR [] (.c rfl (sbb (by simp only [g61, g62, Bool.true_or, Bool.or_true, Bool.false_or, Bool.or_false, Bool.true_and, Bool.and_true, Bool.false_and, Bool.and_false, Bool.not_true, Bool.not_false, cond_true, cond_false])) rfl .n) .n rfl rfl rfl)
              · refine W.pk ?_
                refine .v rfl rfl (OpL.move (.inl rfl) rfl) ?_
                refine .v rfl rfl (OpL.binI rfl rfl rfl rfl) ?_
                refine .v rfl rfl (OpL.move (.inl rfl) rfl) ?_
                refine .v rfl (met rfl rfl rfl g61) (OpL.move (.inl rfl) rfl) ?_
                refine .v rfl (met rfl rfl rfl g61) (OpL.move (.inl rfl) rfl) ?_
                refine .v rfl (met rfl rfl rfl g61) (OpL.binI rfl rfl rfl rfl) ?_
                refine .v rfl rfl (O.pickT g61 rfl rfl rfl) ?_
                refine .v rfl rfl (OpL.move (.inl rfl) rfl) ?_
                refine .x rfl (unmet rfl rfl rfl g62) ?_
                refine .v rfl rfl (O.pickF g62 rfl rfl rfl) ?_
                refine .v rfl rfl (OpL.move (.inr rfl) rfl) ?_
                refine .nil ?_
                exact toN (Gives.mkR [] (.c rfl (sbb (by simp only [g61, g62, Bool.true_or, Bool.or_true, Bool.false_or, Bool.or_false, Bool.true_and, Bool.and_true, Bool.false_and, Bool.and_false, Bool.not_true, Bool.not_false, cond_true, cond_false])) rfl .n) .n rfl rfl rfl)
            · refine W.pk ?_
              refine .v rfl rfl (OpL.move (.inl rfl) rfl) ?_
              refine .v rfl rfl (OpL.binI rfl rfl rfl rfl) ?_
              refine .v rfl rfl (OpL.move (.inl rfl) rfl) ?_
              refine .x rfl (unmet rfl rfl rfl g61) ?_
              refine .x rfl (unmet rfl rfl rfl g61) ?_
              refine .x rfl (unmet rfl rfl rfl g61) ?_
              refine .v rfl rfl (O.pickF g61 rfl rfl rfl) ?_
              refine .v rfl rfl (OpL.move (.inl rfl) rfl) ?_
              refine .x rfl (unmet rfl rfl rfl rfl) ?_
              refine .v rfl rfl (O.pickF rfl rfl rfl rfl) ?_
              refine .v rfl rfl (OpL.move (.inr rfl) rfl) ?_
              refine .nil ?_
              exact toN (Gives.mkR [] (.c rfl (sbb (by simp only [g61, Bool.true_or, Bool.or_true, Bool.false_or, Bool.or_false, Bool.true_and, Bool.and_true, Bool.false_and, Bool.and_false, Bool.not_true, Bool.not_false, cond_true, cond_false])) rfl .n) .n rfl rfl rfl)
  · clear h
    rcases tf t1 with g3 | g3
    · rcases tf (decide (x1 < 0)) with g4 | g4
      · refine W.pk ?_
        refine .v rfl rfl (O.ldN ty24 rfl rfl rfl) ?_
        refine .call (.imm (.val (.bool t1))) [] 0 (lombardlaw24_good.ok b2) rfl rfl rfl ca9 rfl rfl (cC (.agg _ _ _ _ (cC (.imm _) (cC (.imm _) (cC (.imm _) (cC (.imm _) (cC (.imm _) (cC (.imm _) (cC (.imm _) (cC (.imm _) (cC (.imm _) (cC (.imm _) (cC (.imm _) .nil)))))))))))) .nil) rfl rfl rfl rfl rfl ?_
        refine .v rfl rfl (OpL.unV rfl rfl rfl) ?_
        refine .v rfl rfl (OpL.move (.inl rfl) rfl) ?_
        refine .v rfl (met rfl rfl rfl (notT g3)) (OpL.move (.inl rfl) rfl) ?_
        refine .v rfl (met rfl rfl rfl (notT g3)) (OpL.binI rfl rfl rfl rfl) ?_
        refine .v rfl rfl (O.pickF (notT g3) rfl rfl rfl) ?_
        refine .v rfl rfl (OpL.move (.inl rfl) rfl) ?_
        refine .x rfl (unmet rfl rfl rfl g4) ?_
        refine .x rfl (unmet rfl rfl rfl g4) ?_
        refine .v rfl rfl (O.pickT g4 rfl rfl rfl) ?_
        refine .v rfl rfl (OpL.move (.inl rfl) rfl) ?_
        refine .x rfl (unmet rfl rfl rfl rfl) ?_
        refine .x rfl (unmet rfl rfl rfl rfl) ?_
        refine .x rfl (unmet rfl rfl rfl rfl) ?_
        refine .x rfl (unmet rfl rfl rfl rfl) ?_
        refine .x rfl (unmet rfl rfl rfl rfl) ?_
        refine .v rfl rfl (O.pickT rfl rfl rfl rfl) ?_
        refine .nil ?_
        exact toN (Gives.mkR [] (.c rfl (.rfl _) rfl (.c rfl (.rfl _) rfl (.c rfl (.rfl _) rfl (.c rfl (sbb (by simp only [g3, g4, Bool.true_or, Bool.or_true, Bool.false_or, Bool.or_false, Bool.true_and, Bool.and_true, Bool.false_and, Bool.and_false, Bool.not_true, Bool.not_false, cond_true, cond_false])) rfl .n)))) (.c rfl (.rfl _) rfl rfl .n) rfl rfl rfl)
      · rcases tf (decide (x1 > 100000)) with g5 | g5
        · refine W.pk ?_
          refine .v rfl rfl (O.ldN ty24 rfl rfl rfl) ?_
          refine .call (.imm (.val (.bool t1))) [] 0 (lombardlaw24_good.ok b2) rfl rfl rfl ca9 rfl rfl (cC (.agg _ _ _ _ (cC (.imm _) (cC (.imm _) (cC (.imm _) (cC (.imm _) (cC (.imm _) (cC (.imm _) (cC (.imm _) (cC (.imm _) (cC (.imm _) (cC (.imm _) (cC (.imm _) .nil)))))))))))) .nil) rfl rfl rfl rfl rfl ?_
          refine .v rfl rfl (OpL.unV rfl rfl rfl) ?_
          refine .v rfl rfl (OpL.move (.inl rfl) rfl) ?_
          refine .v rfl (met rfl rfl rfl (notT g3)) (OpL.move (.inl rfl) rfl) ?_
          refine .v rfl (met rfl rfl rfl (notT g3)) (OpL.binI rfl rfl rfl rfl) ?_
          refine .v rfl rfl (O.pickF (notT g3) rfl rfl rfl) ?_
          refine .v rfl rfl (OpL.move (.inl rfl) rfl) ?_
          refine .v rfl (met rfl rfl rfl g4) (OpL.move (.inl rfl) rfl) ?_
          refine .v rfl (met rfl rfl rfl g4) (OpL.binI rfl rfl rfl rfl) ?_
          refine .v rfl rfl (O.pickF g4 rfl rfl rfl) ?_
          refine .v rfl rfl (OpL.move (.inl rfl) rfl) ?_
          refine .x rfl (unmet rfl rfl rfl g5) ?_
          refine .x rfl (unmet rfl rfl rfl g5) ?_
          refine .x rfl (unmet rfl rfl rfl g5) ?_
          refine .x rfl (unmet rfl rfl rfl g5) ?_
          refine .x rfl (unmet rfl rfl rfl g5) ?_
          refine .v rfl rfl (O.pickT g5 rfl rfl rfl) ?_
          refine .nil ?_
          exact toN (Gives.mkR [] (.c rfl (.rfl _) rfl (.c rfl (.rfl _) rfl (.c rfl (.rfl _) rfl (.c rfl (sbb (by simp only [g3, g4, g5, Bool.true_or, Bool.or_true, Bool.false_or, Bool.or_false, Bool.true_and, Bool.and_true, Bool.false_and, Bool.and_false, Bool.not_true, Bool.not_false, cond_true, cond_false])) rfl .n)))) (.c rfl (.rfl _) rfl rfl .n) rfl rfl rfl)
        · refine W.pk ?_
          refine .v rfl rfl (O.ldN ty24 rfl rfl rfl) ?_
          refine .call (.imm (.val (.bool t1))) [] 0 (lombardlaw24_good.ok b2) rfl rfl rfl ca9 rfl rfl (cC (.agg _ _ _ _ (cC (.imm _) (cC (.imm _) (cC (.imm _) (cC (.imm _) (cC (.imm _) (cC (.imm _) (cC (.imm _) (cC (.imm _) (cC (.imm _) (cC (.imm _) (cC (.imm _) .nil)))))))))))) .nil) rfl rfl rfl rfl rfl ?_
          refine .v rfl rfl (OpL.unV rfl rfl rfl) ?_
          refine .v rfl rfl (OpL.move (.inl rfl) rfl) ?_
          refine .v rfl (met rfl rfl rfl (notT g3)) (OpL.move (.inl rfl) rfl) ?_
          refine .v rfl (met rfl rfl rfl (notT g3)) (OpL.binI rfl rfl rfl rfl) ?_
          refine .v rfl rfl (O.pickF (notT g3) rfl rfl rfl) ?_
          refine .v rfl rfl (OpL.move (.inl rfl) rfl) ?_
          refine .v rfl (met rfl rfl rfl g4) (OpL.move (.inl rfl) rfl) ?_
          refine .v rfl (met rfl rfl rfl g4) (OpL.binI rfl rfl rfl rfl) ?_
          refine .v rfl rfl (O.pickF g4 rfl rfl rfl) ?_
          refine .v rfl rfl (OpL.move (.inl rfl) rfl) ?_
          refine .v rfl (met rfl rfl rfl g5) (OpL.move (.inl rfl) rfl) ?_
          refine .v rfl (met rfl rfl rfl g5) (O.fld fld24_6 rfl rfl rfl) ?_
          refine .v rfl (met rfl rfl rfl g5) (O.ld ty3 rfl rfl rfl) ?_
          refine .v rfl (met rfl rfl rfl g5) (OpL.binI rfl rfl rfl rfl) ?_
          refine .v rfl (met rfl rfl rfl g5) (OpL.binI rfl rfl rfl rfl) ?_
          refine .v rfl rfl (O.pickF g5 rfl rfl rfl) ?_
          refine .nil ?_
          exact toN (Gives.mkR [] (.c rfl (.rfl _) rfl (.c rfl (.rfl _) rfl (.c rfl (.rfl _) rfl (.c rfl (sbb (by simp only [g3, g4, g5, Bool.true_or, Bool.or_true, Bool.false_or, Bool.or_false, Bool.true_and, Bool.and_true, Bool.false_and, Bool.and_false, Bool.not_true, Bool.not_false, cond_true, cond_false])) rfl .n)))) (.c rfl (.rfl _) rfl rfl .n) rfl rfl rfl)
    · refine W.pk ?_
      refine .v rfl rfl (O.ldN ty24 rfl rfl rfl) ?_
      refine .call (.imm (.val (.bool t1))) [] 0 (lombardlaw24_good.ok b2) rfl rfl rfl ca9 rfl rfl (cC (.agg _ _ _ _ (cC (.imm _) (cC (.imm _) (cC (.imm _) (cC (.imm _) (cC (.imm _) (cC (.imm _) (cC (.imm _) (cC (.imm _) (cC (.imm _) (cC (.imm _) (cC (.imm _) .nil)))))))))))) .nil) rfl rfl rfl rfl rfl ?_
      refine .v rfl rfl (OpL.unV rfl rfl rfl) ?_
      refine .v rfl rfl (OpL.move (.inl rfl) rfl) ?_
      refine .x rfl (unmet rfl rfl rfl (notF g3)) ?_
      refine .x rfl (unmet rfl rfl rfl (notF g3)) ?_
      refine .v rfl rfl (O.pickT (notF g3) rfl rfl rfl) ?_
      refine .v rfl rfl (OpL.move (.inl rfl) rfl) ?_
      refine .x rfl (unmet rfl rfl rfl rfl) ?_
      refine .x rfl (unmet rfl rfl rfl rfl) ?_
      refine .v rfl rfl (O.pickT rfl rfl rfl rfl) ?_
      refine .v rfl rfl (OpL.move (.inl rfl) rfl) ?_
      refine .x rfl (unmet rfl rfl rfl rfl) ?_
      refine .x rfl (unmet rfl rfl rfl rfl) ?_
      refine .x rfl (unmet rfl rfl rfl rfl) ?_
      refine .x rfl (unmet rfl rfl rfl rfl) ?_
      refine .x rfl (unmet rfl rfl rfl rfl) ?_
      refine .v rfl rfl (O.pickT rfl rfl rfl rfl) ?_
      refine .nil ?_
      exact toN (Gives.mkR [] (.c rfl (.rfl _) rfl (.c rfl (.rfl _) rfl (.c rfl (.rfl _) rfl (.c rfl (sbb (by simp only [g3, Bool.true_or, Bool.or_true, Bool.false_or, Bool.or_false, Bool.true_and, Bool.and_true, Bool.false_and, Bool.and_false, Bool.not_true, Bool.not_false, cond_true, cond_false])) rfl .n)))) (.c rfl (.rfl _) rfl rfl .n) rfl rfl rfl)
end Go.Proofs.Ytknfdnlhadjbaaa
