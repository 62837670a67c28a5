/- Shows what functions of the program come to, each as a plain function: written by a program of the author's for this claim. -/
import Derived.Test.YtdcpdnfalnelkaaGx5
namespace Go.Proofs.Ytdcpdnfalnelkaa
open Go Go.Pm
set_option linter.unusedVariables false
set_option linter.unusedSimpArgs false
noncomputable def lombardlaw15_HaircutCovers.f (x0 : Int) (x1 : Int) (x2 : Int) (x3 : Int) : Option (Bool) :=
  (haircut_Cover.f x0 x1 x2).bind fun t1 =>
  (lombardref15_Cover.f x0 x1 x2).bind fun t3 =>
  (haircut_Least.f x3 x1 x2).bind fun t5 =>
  (lombardref15_Least.f x3 x1 x2).bind fun t7 =>
  (if ((((t1.1 == t3.1) && (t1.2 == t3.2)) && (t5.1 == t7.1)) && (t5.2 == t7.2)) = true then haircut_Most.f x3 x1 x2 x0 else some default).bind fun t9 =>
  (if ((((t1.1 == t3.1) && (t1.2 == t3.2)) && (t5.1 == t7.1)) && (t5.2 == t7.2)) = true then lombardref15_Most.f x3 x1 x2 x0 else some default).bind fun t11 =>
  (if (((((t1.1 == t3.1) && (t1.2 == t3.2)) && (t5.1 == t7.1)) && (t5.2 == t7.2)) && (t9 == t11)) = true then lombardlaw15_awake.f else some default).bind fun t13 =>
  some ((((((t1.1 == t3.1) && (t1.2 == t3.2)) && (t5.1 == t7.1)) && (t5.2 == t7.2)) && (t9 == t11)) && t13)
set_option maxRecDepth 100000 in
set_option maxHeartbeats 4000000 in
theorem lombardlaw15_HaircutCovers.ok {x0 : Int} {x1 : Int} {x2 : Int} {x3 : Int} {r : Bool} (h : lombardlaw15_HaircutCovers.f x0 x1 x2 x3 = some r) : Pm.Spec prog 4 [.imm (.val (.int .i64 x0)), .imm (.val (.int .i64 x1)), .imm (.val (.int .i64 x2)), .imm (.val (.int .i64 x3))] (.imm (.val (.bool r))) [none, none, none, none] := by
  unfold lombardlaw15_HaircutCovers.f at h
  refine Pm.Spec.of_body Try.func4 rfl (by kernel_rfl) (Nat.le_of_ble_eq_true rfl) (Nat.le_of_ble_eq_true rfl) ?_
  refine W.ghost (σ' := (mkSt [(0, some (.imm (.val (.int .i64 x0)))), (1, some (.imm (.val (.int .i64 x1)))), (2, some (.imm (.val (.int .i64 x2)))), (3, some (.imm (.val (.int .i64 x3))))] [] 1000)) (Gives.entry (.c rfl (.c rfl (.c rfl (.c rfl .n)))) .n) ?_
  refine W.seq ?_
  refine W.pk ?_
  refine .v rfl rfl (OpL.move (.inr rfl) rfl) ?_
  refine .nil ?_
  refine W.seq ?_
  obtain ⟨t1, b2, h⟩ := bnd1 h
  refine W.pk ?_
  refine .v rfl rfl (OpL.move (.inl rfl) rfl) ?_
  refine .v rfl rfl (OpL.move (.inl rfl) rfl) ?_
  refine .v rfl rfl (OpL.move (.inl rfl) rfl) ?_
  refine .call (.tup [.imm (.val (.int .i64 t1.1)), .imm (.val (.int .i64 t1.2))]) [] 0 (haircut_Cover.ok b2) rfl rfl rfl ca10 rfl rfl (cC (.imm _) (cC (.imm _) (cC (.imm _) .nil))) rfl rfl rfl rfl rfl ?_
  refine .v rfl rfl (OpL.move (.inl rfl) rfl) ?_
  refine .v rfl rfl (OpL.extract rfl rfl rfl) ?_
  refine .v rfl rfl (OpL.extract rfl rfl rfl) ?_
  refine .v rfl rfl (OpL.move (.inr rfl) rfl) ?_
  refine .v rfl rfl (OpL.move (.inr rfl) rfl) ?_
  refine .nil ?_
  refine W.seq ?_
  obtain ⟨t3, b4, h⟩ := bnd1 h
  refine W.pk ?_
  refine .v rfl rfl (OpL.move (.inl rfl) rfl) ?_
  refine .v rfl rfl (OpL.move (.inl rfl) rfl) ?_
  refine .v rfl rfl (OpL.move (.inl rfl) rfl) ?_
  refine .call (.tup [.imm (.val (.int .i64 t3.1)), .imm (.val (.int .i64 t3.2))]) [] 0 (lombardref15_Cover.ok b4) rfl rfl rfl ca11 rfl rfl (cC (.imm _) (cC (.imm _) (cC (.imm _) .nil))) rfl rfl rfl rfl rfl ?_
  refine .v rfl rfl (OpL.move (.inl rfl) rfl) ?_
  refine .v rfl rfl (OpL.extract rfl rfl rfl) ?_
  refine .v rfl rfl (OpL.extract rfl rfl rfl) ?_
  refine .v rfl rfl (OpL.move (.inr rfl) rfl) ?_
  refine .v rfl rfl (OpL.move (.inr rfl) rfl) ?_
  refine .nil ?_
  refine W.seq ?_
  obtain ⟨t5, b6, h⟩ := bnd1 h
  refine W.pk ?_
  refine .v rfl rfl (OpL.move (.inl rfl) rfl) ?_
  refine .v rfl rfl (OpL.move (.inl rfl) rfl) ?_
  refine .v rfl rfl (OpL.move (.inl rfl) rfl) ?_
  refine .call (.tup [.imm (.val (.int .i64 t5.1)), .imm (.val (.bool t5.2))]) [] 0 (haircut_Least.ok b6) rfl rfl rfl ca12 rfl rfl (cC (.imm _) (cC (.imm _) (cC (.imm _) .nil))) rfl rfl rfl rfl rfl ?_
  refine .v rfl rfl (OpL.move (.inl rfl) rfl) ?_
  refine .v rfl rfl (OpL.extract rfl rfl rfl) ?_
  refine .v rfl rfl (OpL.extract rfl rfl rfl) ?_
  refine .v rfl rfl (OpL.move (.inr rfl) rfl) ?_
  refine .v rfl rfl (OpL.move (.inr rfl) rfl) ?_
  refine .nil ?_
  refine W.seq ?_
  obtain ⟨t7, b8, h⟩ := bnd1 h
  refine W.pk ?_
  refine .v rfl rfl (OpL.move (.inl rfl) rfl) ?_
  refine .v rfl rfl (OpL.move (.inl rfl) rfl) ?_
  refine .v rfl rfl (OpL.move (.inl rfl) rfl) ?_
  refine .call (.tup [.imm (.val (.int .i64 t7.1)), .imm (.val (.bool t7.2))]) [] 0 (lombardref15_Least.ok b8) rfl rfl rfl ca13 rfl rfl (cC (.imm _) (cC (.imm _) (cC (.imm _) .nil))) rfl rfl rfl rfl rfl ?_
  refine .v rfl rfl (OpL.move (.inl rfl) rfl) ?_
  refine .v rfl rfl (OpL.extract rfl rfl rfl) ?_
  refine .v rfl rfl (OpL.extract rfl rfl rfl) ?_
  refine .v rfl rfl (OpL.move (.inr rfl) rfl) ?_
  refine .v rfl rfl (OpL.move (.inr rfl) rfl) ?_
  refine .nil ?_
  refine W.seq ?_
  obtain ⟨t9, b10, h⟩ := bnd1 h
  obtain ⟨t11, b12, h⟩ := bnd1 h
  obtain ⟨t13, b14, h⟩ := bnd1 h
  refine W.fork (mkSt [(8, some (.imm (.val (.bool ((((((t1.1 == t3.1) && (t1.2 == t3.2)) && (t5.1 == t7.1)) && (t5.2 == t7.2)) && (t9 == t11)) && t13)))))] [] 1000) ?_ ?_
  · refine W.ret ?_
    cases h
    exact leaves (.inr rfl) rfl (.imm _) (cN (cN (cN (cN .nil)))) rfl rfl
  · clear h
    rcases tf (t1.1 == t3.1) with g15 | g15
    · rcases tf (t1.2 == t3.2) with g16 | g16
      · rcases tf (t5.1 == t7.1) with g17 | g17
        · rcases tf (t5.2 == t7.2) with g18 | g18
          · rcases tf (t9 == t11) with g19 | g19
            · refine W.pk ?_
              refine .v rfl rfl (OpL.move (.inl rfl) rfl) ?_
              refine .v rfl rfl (OpL.move (.inl rfl) rfl) ?_
              refine .v rfl rfl (OpL.binI rfl rfl rfl rfl) ?_
              refine .v rfl rfl (OpL.move (.inl rfl) rfl) ?_
              refine .v rfl (met rfl rfl rfl g15) (OpL.move (.inl rfl) rfl) ?_
              refine .v rfl (met rfl rfl rfl g15) (OpL.move (.inl rfl) rfl) ?_
              refine .v rfl (met rfl rfl rfl g15) (OpL.binI rfl rfl rfl rfl) ?_
              refine .v rfl rfl (O.pickT g15 rfl rfl rfl) ?_
              refine .v rfl rfl (OpL.move (.inl rfl) rfl) ?_
              refine .v rfl (met rfl rfl rfl g16) (OpL.move (.inl rfl) rfl) ?_
              refine .v rfl (met rfl rfl rfl g16) (OpL.move (.inl rfl) rfl) ?_
              refine .v rfl (met rfl rfl rfl g16) (OpL.binI rfl rfl rfl rfl) ?_
              refine .v rfl rfl (O.pickT g16 rfl rfl rfl) ?_
              refine .v rfl rfl (OpL.move (.inl rfl) rfl) ?_
              refine .v rfl (met rfl rfl rfl g17) (OpL.move (.inl rfl) rfl) ?_
              refine .v rfl (met rfl rfl rfl g17) (OpL.move (.inl rfl) rfl) ?_
              refine .v rfl (met rfl rfl rfl g17) (OpL.eqB rfl u4 rfl rfl) ?_
              refine .v rfl rfl (O.pickT g17 rfl rfl rfl) ?_
              refine .v rfl rfl (OpL.move (.inl rfl) rfl) ?_
              refine .v rfl (met rfl rfl rfl g18) (OpL.move (.inl rfl) rfl) ?_
              refine .v rfl (met rfl rfl rfl g18) (OpL.move (.inl rfl) rfl) ?_
              refine .v rfl (met rfl rfl rfl g18) (OpL.move (.inl rfl) rfl) ?_
              refine .v rfl (met rfl rfl rfl g18) (OpL.move (.inl rfl) rfl) ?_
              refine .call (.imm (.val (.int .i64 t9))) [] 0 (haircut_Most.ok ((if_pos (by simp only [g15, g16, g17, g18, g19, Bool.true_or, Bool.or_true, Bool.false_or, Bool.or_false, Bool.true_and, Bool.and_true, Bool.false_and, Bool.and_false, Bool.not_true, Bool.not_false, cond_true, cond_false])).symm.trans b10)) rfl (met rfl rfl rfl g18) rfl ca14 rfl rfl (cC (.imm _) (cC (.imm _) (cC (.imm _) (cC (.imm _) .nil)))) rfl rfl rfl rfl rfl ?_
              refine .v rfl (met rfl rfl rfl g18) (OpL.move (.inl rfl) rfl) ?_
              refine .v rfl (met rfl rfl rfl g18) (OpL.move (.inl rfl) rfl) ?_
              refine .v rfl (met rfl rfl rfl g18) (OpL.move (.inl rfl) rfl) ?_
              refine .v rfl (met rfl rfl rfl g18) (OpL.move (.inl rfl) rfl) ?_
              refine .call (.imm (.val (.int .i64 t11))) [] 0 (lombardref15_Most.ok ((if_pos (by simp only [g15, g16, g17, g18, g19, Bool.true_or, Bool.or_true, Bool.false_or, Bool.or_false, Bool.true_and, Bool.and_true, Bool.false_and, Bool.and_false, Bool.not_true, Bool.not_false, cond_true, cond_false])).symm.trans b12)) rfl (met rfl rfl rfl g18) rfl ca15 rfl rfl (cC (.imm _) (cC (.imm _) (cC (.imm _) (cC (.imm _) .nil)))) rfl rfl rfl rfl rfl ?_
              refine .v rfl (met rfl rfl rfl g18) (OpL.binI rfl rfl rfl rfl) ?_
              refine .v rfl rfl (O.pickT g18 rfl rfl rfl) ?_
              refine .v rfl rfl (OpL.move (.inl rfl) rfl) ?_
              refine .call (.imm (.val (.bool t13))) [] 0 (lombardlaw15_awake.ok ((if_pos (by simp only [g15, g16, g17, g18, g19, Bool.true_or, Bool.or_true, Bool.false_or, Bool.or_false, Bool.true_and, Bool.and_true, Bool.false_and, Bool.and_false, Bool.not_true, Bool.not_false, cond_true, cond_false])).symm.trans b14)) rfl (met rfl rfl rfl g19) rfl ca9 rfl rfl .nil rfl rfl rfl rfl rfl ?_
              refine .v rfl rfl (O.pickT g19 rfl rfl rfl) ?_
              refine .v rfl rfl (OpL.move (.inr rfl) rfl) ?_
              refine .nil ?_
              exact toN (Gives.mkR [] (.c rfl (sbb (by simp only [g15, g16, g17, g18, g19, Bool.true_or, Bool.or_true, Bool.false_or, Bool.or_false, Bool.true_and, Bool.and_true, Bool.false_and, Bool.and_false, Bool.not_true, Bool.not_false, cond_true, cond_false])) rfl .n) .n rfl rfl rfl)
            · refine W.pk ?_
              refine .v rfl rfl (OpL.move (.inl rfl) rfl) ?_
              refine .v rfl rfl (OpL.move (.inl rfl) rfl) ?_
              refine .v rfl rfl (OpL.binI rfl rfl rfl rfl) ?_
              refine .v rfl rfl (OpL.move (.inl rfl) rfl) ?_
              refine .v rfl (met rfl rfl rfl g15) (OpL.move (.inl rfl) rfl) ?_
              refine .v rfl (met rfl rfl rfl g15) (OpL.move (.inl rfl) rfl) ?_
              refine .v rfl (met rfl rfl rfl g15) (OpL.binI rfl rfl rfl rfl) ?_
              refine .v rfl rfl (O.pickT g15 rfl rfl rfl) ?_
              refine .v rfl rfl (OpL.move (.inl rfl) rfl) ?_
              refine .v rfl (met rfl rfl rfl g16) (OpL.move (.inl rfl) rfl) ?_
              refine .v rfl (met rfl rfl rfl g16) (OpL.move (.inl rfl) rfl) ?_
              refine .v rfl (met rfl rfl rfl g16) (OpL.binI rfl rfl rfl rfl) ?_
              refine .v rfl rfl (O.pickT g16 rfl rfl rfl) ?_
              refine .v rfl rfl (OpL.move (.inl rfl) rfl) ?_
              refine .v rfl (met rfl rfl rfl g17) (OpL.move (.inl rfl) rfl) ?_
              refine .v rfl (met rfl rfl rfl g17) (OpL.move (.inl rfl) rfl) ?_
              refine .v rfl (met rfl rfl rfl g17) (OpL.eqB rfl u4 rfl rfl) ?_
              refine .v rfl rfl (O.pickT g17 rfl rfl rfl) ?_
              refine .v rfl rfl (OpL.move (.inl rfl) rfl) ?_
              refine .v rfl (met rfl rfl rfl g18) (OpL.move (.inl rfl) rfl) ?_
              refine .v rfl (met rfl rfl rfl g18) (OpL.move (.inl rfl) rfl) ?_
              refine .v rfl (met rfl rfl rfl g18) (OpL.move (.inl rfl) rfl) ?_
              refine .v rfl (met rfl rfl rfl g18) (OpL.move (.inl rfl) rfl) ?_
              refine .call (.imm (.val (.int .i64 t9))) [] 0 (haircut_Most.ok ((if_pos (by simp only [g15, g16, g17, g18, g19, Bool.true_or, Bool.or_true, Bool.false_or, Bool.or_false, Bool.true_and, Bool.and_true, Bool.false_and, Bool.and_false, Bool.not_true, Bool.not_false, cond_true, cond_false])).symm.trans b10)) rfl (met rfl rfl rfl g18) rfl ca14 rfl rfl (cC (.imm _) (cC (.imm _) (cC (.imm _) (cC (.imm _) .nil)))) rfl rfl rfl rfl rfl ?_
              refine .v rfl (met rfl rfl rfl g18) (OpL.move (.inl rfl) rfl) ?_
              refine .v rfl (met rfl rfl rfl g18) (OpL.move (.inl rfl) rfl) ?_
              refine .v rfl (met rfl rfl rfl g18) (OpL.move (.inl rfl) rfl) ?_
              refine .v rfl (met rfl rfl rfl g18) (OpL.move (.inl rfl) rfl) ?_
              refine .call (.imm (.val (.int .i64 t11))) [] 0 (lombardref15_Most.ok ((if_pos (by simp only [g15, g16, g17, g18, g19, Bool.true_or, Bool.or_true, Bool.false_or, Bool.or_false, Bool.true_and, Bool.and_true, Bool.false_and, Bool.and_false, Bool.not_true, Bool.not_false, cond_true, cond_false])).symm.trans b12)) rfl (met rfl rfl rfl g18) rfl ca15 rfl rfl (cC (.imm _) (cC (.imm _) (cC (.imm _) (cC (.imm _) .nil)))) rfl rfl rfl rfl rfl ?_
              refine .v rfl (met rfl rfl rfl g18) (OpL.binI rfl rfl rfl rfl) ?_
              refine .v rfl rfl (O.pickT g18 rfl rfl rfl) ?_
              refine .v rfl rfl (OpL.move (.inl rfl) rfl) ?_
              refine .x rfl (unmet rfl rfl rfl g19) ?_
              refine .v rfl rfl (O.pickF g19 rfl rfl rfl) ?_
              refine .v rfl rfl (OpL.move (.inr rfl) rfl) ?_
              refine .nil ?_
              exact toN (Gives.mkR [] (.c rfl (sbb (by simp only [g15, g16, g17, g18, g19, Bool.true_or, Bool.or_true, Bool.false_or, Bool.or_false, Bool.true_and, Bool.and_true, Bool.false_and, Bool.and_false, Bool.not_true, Bool.not_false, cond_true, cond_false])) rfl .n) .n rfl rfl rfl)
          · refine W.pk ?_
            refine .v rfl rfl (OpL.move (.inl rfl) rfl) ?_
            refine .v rfl rfl (OpL.move (.inl rfl) rfl) ?_
            refine .v rfl rfl (OpL.binI rfl rfl rfl rfl) ?_
            refine .v rfl rfl (OpL.move (.inl rfl) rfl) ?_
            refine .v rfl (met rfl rfl rfl g15) (OpL.move (.inl rfl) rfl) ?_
            refine .v rfl (met rfl rfl rfl g15) (OpL.move (.inl rfl) rfl) ?_
            refine .v rfl (met rfl rfl rfl g15) (OpL.binI rfl rfl rfl rfl) ?_
            refine .v rfl rfl (O.pickT g15 rfl rfl rfl) ?_
            refine .v rfl rfl (OpL.move (.inl rfl) rfl) ?_
            refine .v rfl (met rfl rfl rfl g16) (OpL.move (.inl rfl) rfl) ?_
            refine .v rfl (met rfl rfl rfl g16) (OpL.move (.inl rfl) rfl) ?_
            refine .v rfl (met rfl rfl rfl g16) (OpL.binI rfl rfl rfl rfl) ?_
            refine .v rfl rfl (O.pickT g16 rfl rfl rfl) ?_
            refine .v rfl rfl (OpL.move (.inl rfl) rfl) ?_
            refine .v rfl (met rfl rfl rfl g17) (OpL.move (.inl rfl) rfl) ?_
            refine .v rfl (met rfl rfl rfl g17) (OpL.move (.inl rfl) rfl) ?_
            refine .v rfl (met rfl rfl rfl g17) (OpL.eqB rfl u4 rfl rfl) ?_
            refine .v rfl rfl (O.pickT g17 rfl rfl rfl) ?_
            refine .v rfl rfl (OpL.move (.inl rfl) rfl) ?_
            refine .x rfl (unmet rfl rfl rfl g18) ?_
            refine .x rfl (unmet rfl rfl rfl g18) ?_
            refine .x rfl (unmet rfl rfl rfl g18) ?_
            refine .x rfl (unmet rfl rfl rfl g18) ?_
            refine .x rfl (unmet rfl rfl rfl g18) ?_
            refine .x rfl (unmet rfl rfl rfl g18) ?_
            refine .x rfl (unmet rfl rfl rfl g18) ?_
            refine .x rfl (unmet rfl rfl rfl g18) ?_
            refine .x rfl (unmet rfl rfl rfl g18) ?_
            refine .x rfl (unmet rfl rfl rfl g18) ?_
            refine .x rfl (unmet rfl rfl rfl g18) ?_
            refine .v rfl rfl (O.pickF g18 rfl rfl rfl) ?_
            refine .v rfl rfl (OpL.move (.inl rfl) rfl) ?_
            refine .x rfl (unmet rfl rfl rfl rfl) ?_
            refine .v rfl rfl (O.pickF rfl rfl rfl rfl) ?_
            refine .v rfl rfl (OpL.move (.inr rfl) rfl) ?_
            refine .nil ?_
            exact toN (Gives.mkR [] (.c rfl (sbb (by simp only [g15, g16, g17, g18, Bool.true_or, Bool.or_true, Bool.false_or, Bool.or_false, Bool.true_and, Bool.and_true, Bool.false_and, Bool.and_false, Bool.not_true, Bool.not_false, cond_true, cond_false])) rfl .n) .n rfl rfl rfl)
        · refine W.pk ?_
          refine .v rfl rfl (OpL.move (.inl rfl) rfl) ?_
          refine .v rfl rfl (OpL.move (.inl rfl) rfl) ?_
          refine .v rfl rfl (OpL.binI rfl rfl rfl rfl) ?_
          refine .v rfl rfl (OpL.move (.inl rfl) rfl) ?_
          refine .v rfl (met rfl rfl rfl g15) (OpL.move (.inl rfl) rfl) ?_
          refine .v rfl (met rfl rfl rfl g15) (OpL.move (.inl rfl) rfl) ?_
          refine .v rfl (met rfl rfl rfl g15) (OpL.binI rfl rfl rfl rfl) ?_
          refine .v rfl rfl (O.pickT g15 rfl rfl rfl) ?_
          refine .v rfl rfl (OpL.move (.inl rfl) rfl) ?_
          refine .v rfl (met rfl rfl rfl g16) (OpL.move (.inl rfl) rfl) ?_
          refine .v rfl (met rfl rfl rfl g16) (OpL.move (.inl rfl) rfl) ?_
          refine .v rfl (met rfl rfl rfl g16) (OpL.binI rfl rfl rfl rfl) ?_
          refine .v rfl rfl (O.pickT g16 rfl rfl rfl) ?_
          refine .v rfl rfl (OpL.move (.inl rfl) rfl) ?_
          refine .x rfl (unmet rfl rfl rfl g17) ?_
          refine .x rfl (unmet rfl rfl rfl g17) ?_
          refine .x rfl (unmet rfl rfl rfl g17) ?_
          refine .v rfl rfl (O.pickF g17 rfl rfl rfl) ?_
          refine .v rfl rfl (OpL.move (.inl rfl) rfl) ?_
          refine .x rfl (unmet rfl rfl rfl rfl) ?_
          refine .x rfl (unmet rfl rfl rfl rfl) ?_
          refine .x rfl (unmet rfl rfl rfl rfl) ?_
          refine .x rfl (unmet rfl rfl rfl rfl) ?_
          refine .x rfl (unmet rfl rfl rfl rfl) ?_
          refine .x rfl (unmet rfl rfl rfl rfl) ?_
          refine .x rfl (unmet rfl rfl rfl rfl) ?_
          refine .x rfl (unmet rfl rfl rfl rfl) ?_
          refine .x rfl (unmet rfl rfl rfl rfl) ?_
          refine .x rfl (unmet rfl rfl rfl rfl) ?_
          refine .x rfl (unmet rfl rfl rfl rfl) ?_
          refine .v rfl rfl (O.pickF rfl rfl rfl rfl) ?_
          refine .v rfl rfl (OpL.move (.inl rfl) rfl) ?_
          refine .x rfl (unmet rfl rfl rfl rfl) ?_
          refine .v rfl rfl (O.pickF rfl rfl rfl rfl) ?_
          refine .v rfl rfl (OpL.move (.inr rfl) rfl) ?_
          refine .nil ?_
          exact toN (Gives.mkR [] (.c rfl (sbb (by simp only [g15, g16, g17, Bool.true_or, Bool.or_true, Bool.false_or, Bool.or_false, Bool.true_and, Bool.and_true, Bool.false_and, Bool.and_false, Bool.not_true, Bool.not_false, cond_true, cond_false])) rfl .n) .n rfl rfl rfl)
      · refine W.pk ?_
        refine .v rfl rfl (OpL.move (.inl rfl) rfl) ?_
        refine .v rfl rfl (OpL.move (.inl rfl) rfl) ?_
        refine .v rfl rfl (OpL.binI rfl rfl rfl rfl) ?_
        refine .v rfl rfl (OpL.move (.inl rfl) rfl) ?_
        refine .v rfl (met rfl rfl rfl g15) (OpL.move (.inl rfl) rfl) ?_
        refine .v rfl (met rfl rfl rfl g15) (OpL.move (.inl rfl) rfl) ?_
        refine .v rfl (met rfl rfl rfl g15) (OpL.binI rfl rfl rfl rfl) ?_
        refine .v rfl rfl (O.pickT g15 rfl rfl rfl) ?_
        refine .v rfl rfl (OpL.move (.inl rfl) rfl) ?_
        refine .x rfl (unmet rfl rfl rfl g16) ?_
        refine .x rfl (unmet rfl rfl rfl g16) ?_
        refine .x rfl (unmet rfl rfl rfl g16) ?_
        refine .v rfl rfl (O.pickF g16 rfl rfl rfl) ?_
        refine .v rfl rfl (OpL.move (.inl rfl) rfl) ?_
        refine .x rfl (unmet rfl rfl rfl rfl) ?_
        refine .x rfl (unmet rfl rfl rfl rfl) ?_
        refine .x rfl (unmet rfl rfl rfl rfl) ?_
        refine .v rfl rfl (O.pickF rfl rfl rfl rfl) ?_
        refine .v rfl rfl (OpL.move (.inl rfl) rfl) ?_
        refine .x rfl (unmet rfl rfl rfl rfl) ?_
        refine .x rfl (unmet rfl rfl rfl rfl) ?_
        refine .x rfl (unmet rfl rfl rfl rfl) ?_
        refine .x rfl (unmet rfl rfl rfl rfl) ?_
        refine .x rfl (unmet rfl rfl rfl rfl) ?_
        refine .x rfl (unmet rfl rfl rfl rfl) ?_
        refine .x rfl (unmet rfl rfl rfl rfl) ?_
        refine .x rfl (unmet rfl rfl rfl rfl) ?_
        refine .x rfl (unmet rfl rfl rfl rfl) ?_
        refine .x rfl (unmet rfl rfl rfl rfl) ?_
        refine .x rfl (unmet rfl rfl rfl rfl) ?_
        refine .v rfl rfl (O.pickF rfl rfl rfl rfl) ?_
        refine .v rfl rfl (OpL.move (.inl rfl) rfl) ?_
        refine .x rfl (unmet rfl rfl rfl rfl) ?_
        refine .v rfl rfl (O.pickF rfl rfl rfl rfl) ?_
        refine .v rfl rfl (OpL.move (.inr rfl) rfl) ?_
        refine .nil ?_
        exact toN (Gives.mkR [] (.c rfl (sbb (by simp only [g15, g16, Bool.true_or, Bool.or_true, Bool.false_or, Bool.or_false, Bool.true_and, Bool.and_true, Bool.false_and, Bool.and_false, Bool.not_true, Bool.not_false, cond_true, cond_false])) rfl .n) .n rfl rfl rfl)
    · refine W.pk ?_
      refine .v rfl rfl (OpL.move (.inl rfl) rfl) ?_
      refine .v rfl rfl (OpL.move (.inl rfl) rfl) ?_
      refine .v rfl rfl (OpL.binI rfl rfl rfl rfl) ?_
      refine .v rfl rfl (OpL.move (.inl rfl) rfl) ?_
      refine .x rfl (unmet rfl rfl rfl g15) ?_
      refine .x rfl (unmet rfl rfl rfl g15) ?_
      refine .x rfl (unmet rfl rfl rfl g15) ?_
      refine .v rfl rfl (O.pickF g15 rfl rfl rfl) ?_
      refine .v rfl rfl (OpL.move (.inl rfl) rfl) ?_
      refine .x rfl (unmet rfl rfl rfl rfl) ?_
      refine .x rfl (unmet rfl rfl rfl rfl) ?_
      refine .x rfl (unmet rfl rfl rfl rfl) ?_
      refine .v rfl rfl (O.pickF rfl rfl rfl rfl) ?_
      refine .v rfl rfl (OpL.move (.inl rfl) rfl) ?_
      refine .x rfl (unmet rfl rfl rfl rfl) ?_
      refine .x rfl (unmet rfl rfl rfl rfl) ?_
      refine .x rfl (unmet rfl rfl rfl rfl) ?_
      refine .v rfl rfl (O.pickF rfl rfl rfl rfl) ?_
      refine .v rfl rfl (OpL.move (.inl rfl) rfl) ?_
      refine .x rfl (unmet rfl rfl rfl rfl) ?_
      refine .x rfl (unmet rfl rfl rfl rfl) ?_
      refine .x rfl (unmet rfl rfl rfl rfl) ?_
      refine .x rfl (unmet rfl rfl rfl rfl) ?_
      refine .x rfl (unmet rfl rfl rfl rfl) ?_
      refine .x rfl (unmet rfl rfl rfl rfl) ?_
      refine .x rfl (unmet rfl rfl rfl rfl) ?_
      refine .x rfl (unmet rfl rfl rfl rfl) ?_
      refine .x rfl (unmet rfl rfl rfl rfl) ?_
      refine .x rfl (unmet rfl rfl rfl rfl) ?_
      refine .x rfl (unmet rfl rfl rfl rfl) ?_
      refine .v rfl rfl (O.pickF rfl rfl rfl rfl) ?_
      refine .v rfl rfl (OpL.move (.inl rfl) rfl) ?_
      refine .x rfl (unmet rfl rfl rfl rfl) ?_
      refine .v rfl rfl (O.pickF rfl rfl rfl rfl) ?_
      refine .v rfl rfl (OpL.move (.inr rfl) rfl) ?_
      refine .nil ?_
      exact toN (Gives.mkR [] (.c rfl (sbb (by simp only [g15, Bool.true_or, Bool.or_true, Bool.false_or, Bool.or_false, Bool.true_and, Bool.and_true, Bool.false_and, Bool.and_false, Bool.not_true, Bool.not_false, cond_true, cond_false])) rfl .n) .n rfl rfl rfl)

noncomputable def lombardlaw15_HaircutTight.f (x0 : Int) (x1 : Int) (x2 : Int) (x3 : Int) : Option (Bool) :=
  (haircut_Least.f x3 x1 x2).bind fun t1 =>
  ((
    if t1.2 = true then
      (haircut_Cover.f t1.1 x1 x2).bind fun t18 =>
      if ((t18.2 != 0) || (decide (t18.1 < x3))) = true then
        some (.inl false)
      else
        if (decide (t1.1 > 0)) = true then
          (haircut_Cover.f (IntKind.wrap .i64 (t1.1 - 1)) x1 x2).bind fun t23 =>
          if ((t23.2 != 0) || (decide (t23.1 ≥ x3))) = true then
            some (.inl false)
          else
            some (.inr ())
        else
          some (.inr ())
    else
      some (.inr ()) : Option (Bool ⊕ Unit))).bind fun o13 =>
  match o13 with
  | .inl r47 => some r47
  | .inr w15 =>
    (haircut_Most.f x3 x1 x2 x0).bind fun t27 =>
    if (decide (t27 < 0)) = true then
      (if (t27 == (-1)) = true then lombardlaw15_awake.f else some default).bind fun t30 =>
      some ((t27 == (-1)) && t30)
    else
      (haircut_Cover.f t27 x1 x2).bind fun t33 =>
      if (((t33.2 != 0) || (decide (t33.1 > x3))) || (decide (t27 > x0))) = true then
        some false
      else
        if (t27 == x0) = true then
          (lombardlaw15_awake.f).bind fun t39 =>
          some t39
        else
          (haircut_Cover.f (IntKind.wrap .i64 (t27 + 1)) x1 x2).bind fun t41 =>
          (if ((t41.2 == 0) && (decide (t41.1 > x3))) = true then lombardlaw15_awake.f else some default).bind fun t43 =>
          some (((t41.2 == 0) && (decide (t41.1 > x3))) && t43)
set_option maxRecDepth 100000 in
set_option maxHeartbeats 4000000 in
theorem lombardlaw15_HaircutTight.ok {x0 : Int} {x1 : Int} {x2 : Int} {x3 : Int} {r : Bool} (h : lombardlaw15_HaircutTight.f x0 x1 x2 x3 = some r) : Pm.Spec prog 5 [.imm (.val (.int .i64 x0)), .imm (.val (.int .i64 x1)), .imm (.val (.int .i64 x2)), .imm (.val (.int .i64 x3))] (.imm (.val (.bool r))) [none, none, none, none] := by
  unfold lombardlaw15_HaircutTight.f at h
  refine Pm.Spec.of_body Try.func5 rfl (by kernel_rfl) (Nat.le_of_ble_eq_true rfl) (Nat.le_of_ble_eq_true rfl) ?_
  refine W.ghost (σ' := (mkSt [(0, some (.imm (.val (.int .i64 x0)))), (1, some (.imm (.val (.int .i64 x1)))), (2, some (.imm (.val (.int .i64 x2)))), (3, some (.imm (.val (.int .i64 x3))))] [] 1000)) (Gives.entry (.c rfl (.c rfl (.c rfl (.c rfl .n)))) .n) ?_
  refine W.seq ?_
  refine W.pk ?_
  refine .v rfl rfl (OpL.move (.inr rfl) rfl) ?_
  refine .nil ?_
  refine W.seq ?_
  obtain ⟨t1, b2, h⟩ := bnd1 h
  refine W.pk ?_
  refine .v rfl rfl (OpL.move (.inl rfl) rfl) ?_
  refine .v rfl rfl (OpL.move (.inl rfl) rfl) ?_
  refine .v rfl rfl (OpL.move (.inl rfl) rfl) ?_
  refine .call (.tup [.imm (.val (.int .i64 t1.1)), .imm (.val (.bool t1.2))]) [] 0 (haircut_Least.ok b2) rfl rfl rfl ca12 rfl rfl (cC (.imm _) (cC (.imm _) (cC (.imm _) .nil))) rfl rfl rfl rfl rfl ?_
  refine .v rfl rfl (OpL.move (.inl rfl) rfl) ?_
  refine .v rfl rfl (OpL.extract rfl rfl rfl) ?_
  refine .v rfl rfl (OpL.extract rfl rfl rfl) ?_
  refine .v rfl rfl (OpL.move (.inr rfl) rfl) ?_
  refine .v rfl rfl (OpL.move (.inr rfl) rfl) ?_
  refine .nil ?_
  refine W.seq ?_
  refine W.seq ?_
  refine W.pk ?_
  refine .v rfl rfl (OpL.move (.inl rfl) rfl) ?_
  refine .nil ?_
  obtain ⟨o13, b14, z16⟩ := bnd1 h
  refine W.fork2 (out := o13) (fun (w15 : Unit) => mkSt [(0, some (.imm (.val (.int .i64 x0)))), (1, some (.imm (.val (.int .i64 x1)))), (2, some (.imm (.val (.int .i64 x2)))), (3, some (.imm (.val (.int .i64 x3))))] [] 1000) ?_ ?_
  · clear h
    have h := b14
    refine W.cond rfl (fun q17 => ?_) (fun q17 => ?_)
    · have h := ifT q17 h
      refine W.seq ?_
      obtain ⟨t18, b19, h⟩ := bnd1 h
      refine W.pk ?_
      refine .v rfl rfl (OpL.move (.inl rfl) rfl) ?_
      refine .v rfl rfl (OpL.move (.inl rfl) rfl) ?_
      refine .v rfl rfl (OpL.move (.inl rfl) rfl) ?_
      refine .call (.tup [.imm (.val (.int .i64 t18.1)), .imm (.val (.int .i64 t18.2))]) [] 0 (haircut_Cover.ok b19) rfl rfl rfl ca10 rfl rfl (cC (.imm _) (cC (.imm _) (cC (.imm _) .nil))) rfl rfl rfl rfl rfl ?_
      refine .v rfl rfl (OpL.move (.inl rfl) rfl) ?_
      refine .v rfl rfl (OpL.extract rfl rfl rfl) ?_
      refine .v rfl rfl (OpL.extract rfl rfl rfl) ?_
      refine .v rfl rfl (OpL.move (.inr rfl) rfl) ?_
      refine .v rfl rfl (OpL.move (.inr rfl) rfl) ?_
      refine .nil ?_
      refine W.seq ?_
      refine W.seq ?_
      refine W.fork (mkSt [(0, some (.imm (.val (.int .i64 x0)))), (1, some (.imm (.val (.int .i64 x1)))), (2, some (.imm (.val (.int .i64 x2)))), (3, some (.imm (.val (.int .i64 x3)))), (9, some (.imm (.val (.int .i64 t1.1)))), (41, some (.imm (.val (.bool ((t18.2 != 0) || (decide (t18.1 < x3)))))))] [] 1000) ?_ ?_
      · refine W.cond rfl (fun q21 => ?_) (fun q21 => ?_)
        · have h := ifT q21 h
          refine W.seq ?_
          refine W.pk ?_
          refine .v rfl rfl (OpL.move (.inr rfl) rfl) ?_
          refine .nil ?_
          refine W.ret ?_
          cases h
          have h := z16
          dsimp only at h
          refine fkR ?_
          cases h
          exact leaves (.inr rfl) rfl (.imm _) (cN (cN (cN (cN .nil)))) rfl rfl
        · have h := ifF q21 h
          refine W.skip ?_
          refine W.seq ?_
          refine W.pk ?_
          refine .v rfl rfl (OpL.move (.inl rfl) rfl) ?_
          refine .v rfl rfl (OpL.binI rfl rfl rfl rfl) ?_
          refine .nil ?_
          refine W.cond rfl (fun q22 => ?_) (fun q22 => ?_)
          · have h := ifT q22 h
            refine W.seq ?_
            obtain ⟨t23, b24, h⟩ := bnd1 h
            refine W.pk ?_
            refine .v rfl rfl (OpL.move (.inl rfl) rfl) ?_
            refine .v rfl rfl (OpL.binI rfl rfl rfl rfl) ?_
            refine .v rfl rfl (OpL.move (.inl rfl) rfl) ?_
            refine .v rfl rfl (OpL.move (.inl rfl) rfl) ?_
            refine .call (.tup [.imm (.val (.int .i64 t23.1)), .imm (.val (.int .i64 t23.2))]) [] 0 (haircut_Cover.ok b24) rfl rfl rfl ca10 rfl rfl (cC (.imm _) (cC (.imm _) (cC (.imm _) .nil))) rfl rfl rfl rfl rfl ?_
            refine .v rfl rfl (OpL.move (.inl rfl) rfl) ?_
            refine .v rfl rfl (OpL.extract rfl rfl rfl) ?_
            refine .v rfl rfl (OpL.extract rfl rfl rfl) ?_
            refine .v rfl rfl (OpL.move (.inr rfl) rfl) ?_
            refine .v rfl rfl (OpL.move (.inr rfl) rfl) ?_
            refine .nil ?_
            refine W.seq ?_
            refine W.fork (mkSt [(0, some (.imm (.val (.int .i64 x0)))), (1, some (.imm (.val (.int .i64 x1)))), (2, some (.imm (.val (.int .i64 x2)))), (3, some (.imm (.val (.int .i64 x3)))), (58, some (.imm (.val (.bool ((t23.2 != 0) || (decide (t23.1 ≥ x3)))))))] [] 1000) ?_ ?_
            · refine W.cond rfl (fun q26 => ?_) (fun q26 => ?_)
              · have h := ifT q26 h
                refine W.seq ?_
                refine W.pk ?_
                refine .v rfl rfl (OpL.move (.inr rfl) rfl) ?_
                refine .nil ?_
                refine W.ret ?_
                cases h
                have h := z16
                dsimp only at h
                refine fkR ?_
                cases h
                exact leaves (.inr rfl) rfl (.imm _) (cN (cN (cN (cN .nil)))) rfl rfl
              · have h := ifF q26 h
                refine W.skip ?_
                cases h
                exact fkN (Gives.mkR [] (.c rfl (.rfl _) rfl (.c rfl (.rfl _) rfl (.c rfl (.rfl _) rfl (.c rfl (.rfl _) rfl .n)))) .n rfl rfl rfl)
            · clear h
              rcases tf (t23.2 != 0) with g25 | g25
              · refine W.pk ?_
                refine .v rfl rfl (OpL.move (.inl rfl) rfl) ?_
                refine .v rfl rfl (OpL.binI rfl rfl rfl rfl) ?_
                refine .v rfl rfl (OpL.move (.inl rfl) rfl) ?_
                refine .x rfl (unmet rfl rfl rfl g25) ?_
                refine .x rfl (unmet rfl rfl rfl g25) ?_
                refine .x rfl (unmet rfl rfl rfl g25) ?_
                refine .v rfl rfl (O.pickT g25 rfl rfl rfl) ?_
                refine .nil ?_
                exact toN (Gives.mkR [] (.c rfl (.rfl _) rfl (.c rfl (.rfl _) rfl (.c rfl (.rfl _) rfl (.c rfl (.rfl _) rfl (.c rfl (sbb (by simp only [g25, Bool.true_or, Bool.or_true, Bool.false_or, Bool.or_false, Bool.true_and, Bool.and_true, Bool.false_and, Bool.and_false, Bool.not_true, Bool.not_false, cond_true, cond_false])) rfl .n))))) .n rfl rfl rfl)
              · refine W.pk ?_
                refine .v rfl rfl (OpL.move (.inl rfl) rfl) ?_
                refine .v rfl rfl (OpL.binI rfl rfl rfl rfl) ?_
                refine .v rfl rfl (OpL.move (.inl rfl) rfl) ?_
                refine .v rfl (met rfl rfl rfl g25) (OpL.move (.inl rfl) rfl) ?_
                refine .v rfl (met rfl rfl rfl g25) (OpL.move (.inl rfl) rfl) ?_
                refine .v rfl (met rfl rfl rfl g25) (OpL.binI rfl rfl rfl rfl) ?_
                refine .v rfl rfl (O.pickF g25 rfl rfl rfl) ?_
                refine .nil ?_
                exact toN (Gives.mkR [] (.c rfl (.rfl _) rfl (.c rfl (.rfl _) rfl (.c rfl (.rfl _) rfl (.c rfl (.rfl _) rfl (.c rfl (sbb (by simp only [g25, Bool.true_or, Bool.or_true, Bool.false_or, Bool.or_false, Bool.true_and, Bool.and_true, Bool.false_and, Bool.and_false, Bool.not_true, Bool.not_false, cond_true, cond_false])) rfl .n))))) .n rfl rfl rfl)
          · have h := ifF q22 h
            refine W.skip ?_
            cases h
            exact fkN (Gives.mkR [] (.c rfl (.rfl _) rfl (.c rfl (.rfl _) rfl (.c rfl (.rfl _) rfl (.c rfl (.rfl _) rfl .n)))) .n rfl rfl rfl)
      · clear h
        rcases tf (t18.2 != 0) with g20 | g20
        · refine W.pk ?_
          refine .v rfl rfl (OpL.move (.inl rfl) rfl) ?_
          refine .v rfl rfl (OpL.binI rfl rfl rfl rfl) ?_
          refine .v rfl rfl (OpL.move (.inl rfl) rfl) ?_
          refine .x rfl (unmet rfl rfl rfl g20) ?_
          refine .x rfl (unmet rfl rfl rfl g20) ?_
          refine .x rfl (unmet rfl rfl rfl g20) ?_
          refine .v rfl rfl (O.pickT g20 rfl rfl rfl) ?_
          refine .nil ?_
          exact toN (Gives.mkR [] (.c rfl (.rfl _) rfl (.c rfl (.rfl _) rfl (.c rfl (.rfl _) rfl (.c rfl (.rfl _) rfl (.c rfl (.rfl _) rfl (.c rfl (sbb (by simp only [g20, Bool.true_or, Bool.or_true, Bool.false_or, Bool.or_false, Bool.true_and, Bool.and_true, Bool.false_and, Bool.and_false, Bool.not_true, Bool.not_false, cond_true, cond_false])) rfl .n)))))) .n rfl rfl rfl)
        · refine W.pk ?_
          refine .v rfl rfl (OpL.move (.inl rfl) rfl) ?_
          refine .v rfl rfl (OpL.binI rfl rfl rfl rfl) ?_
          refine .v rfl rfl (OpL.move (.inl rfl) rfl) ?_
          refine .v rfl (met rfl rfl rfl g20) (OpL.move (.inl rfl) rfl) ?_
          refine .v rfl (met rfl rfl rfl g20) (OpL.move (.inl rfl) rfl) ?_
          refine .v rfl (met rfl rfl rfl g20) (OpL.binI rfl rfl rfl rfl) ?_
          refine .v rfl rfl (O.pickF g20 rfl rfl rfl) ?_
          refine .nil ?_
          exact toN (Gives.mkR [] (.c rfl (.rfl _) rfl (.c rfl (.rfl _) rfl (.c rfl (.rfl _) rfl (.c rfl (.rfl _) rfl (.c rfl (.rfl _) rfl (.c rfl (sbb (by simp only [g20, Bool.true_or, Bool.or_true, Bool.false_or, Bool.or_false, Bool.true_and, Bool.and_true, Bool.false_and, Bool.and_false, Bool.not_true, Bool.not_false, cond_true, cond_false])) rfl .n)))))) .n rfl rfl rfl)
    · have h := ifF q17 h
      refine W.skip ?_
      cases h
      exact fkN (Gives.mkR [] (.c rfl (.rfl _) rfl (.c rfl (.rfl _) rfl (.c rfl (.rfl _) rfl (.c rfl (.rfl _) rfl .n)))) .n rfl rfl rfl)
  · intro w15 e_
    subst e_
    clear h
    have h := z16
    dsimp only at h
    refine W.seq ?_
    obtain ⟨t27, b28, h⟩ := bnd1 h
    refine W.pk ?_
    refine .v rfl rfl (OpL.move (.inl rfl) rfl) ?_
    refine .v rfl rfl (OpL.move (.inl rfl) rfl) ?_
    refine .v rfl rfl (OpL.move (.inl rfl) rfl) ?_
    refine .v rfl rfl (OpL.move (.inl rfl) rfl) ?_
    refine .call (.imm (.val (.int .i64 t27))) [] 0 (haircut_Most.ok b28) rfl rfl rfl ca14 rfl rfl (cC (.imm _) (cC (.imm _) (cC (.imm _) (cC (.imm _) .nil)))) rfl rfl rfl rfl rfl ?_
    refine .v rfl rfl (OpL.move (.inr rfl) rfl) ?_
    refine .nil ?_
    refine W.seq ?_
    refine W.seq ?_
    refine W.pk ?_
    refine .v rfl rfl (OpL.move (.inl rfl) rfl) ?_
    refine .v rfl rfl (OpL.binI rfl rfl rfl rfl) ?_
    refine .nil ?_
    refine W.cond rfl (fun q29 => ?_) (fun q29 => ?_)
    · have h := ifT q29 h
      refine W.seq ?_
      obtain ⟨t30, b31, h⟩ := bnd1 h
      refine W.fork (mkSt [(8, some (.imm (.val (.bool ((t27 == (-1)) && t30)))))] [] 1000) ?_ ?_
      · refine W.ret ?_
        cases h
        exact leaves (.inr rfl) rfl (.imm _) (cN (cN (cN (cN .nil)))) rfl rfl
      · clear h
        rcases tf (t27 == (-1)) with g32 | g32
        · refine W.pk ?_
          refine .v rfl rfl (OpL.move (.inl rfl) rfl) ?_
          refine .v rfl rfl (OpL.binI rfl rfl rfl rfl) ?_
          refine .v rfl rfl (OpL.move (.inl rfl) rfl) ?_
          refine .call (.imm (.val (.bool t30))) [] 0 (lombardlaw15_awake.ok ((if_pos (by simp only [g32, Bool.true_or, Bool.or_true, Bool.false_or, Bool.or_false, Bool.true_and, Bool.and_true, Bool.false_and, Bool.and_false, Bool.not_true, Bool.not_false, cond_true, cond_false])).symm.trans b31)) rfl (met rfl rfl rfl g32) rfl ca9 rfl rfl .nil rfl rfl rfl rfl rfl ?_
          refine .v rfl rfl (O.pickT g32 rfl rfl rfl) ?_
          refine .v rfl rfl (OpL.move (.inr rfl) rfl) ?_
          refine .nil ?_
          exact toN (Gives.mkR [] (.c rfl (sbb (by simp only [g32, Bool.true_or, Bool.or_true, Bool.false_or, Bool.or_false, Bool.true_and, Bool.and_true, Bool.false_and, Bool.and_false, Bool.not_true, Bool.not_false, cond_true, cond_false])) rfl .n) .n rfl rfl rfl)
        · refine W.pk ?_
          refine .v rfl rfl (OpL.move (.inl rfl) rfl) ?_
          refine .v rfl rfl (OpL.binI rfl rfl rfl rfl) ?_
          refine .v rfl rfl (OpL.move (.inl rfl) rfl) ?_
          refine .x rfl (unmet rfl rfl rfl g32) ?_
          refine .v rfl rfl (O.pickF g32 rfl rfl rfl) ?_
          refine .v rfl rfl (OpL.move (.inr rfl) rfl) ?_
          refine .nil ?_
          exact toN (Gives.mkR [] (.c rfl (sbb (by simp only [g32, Bool.true_or, Bool.or_true, Bool.false_or, Bool.or_false, Bool.true_and, Bool.and_true, Bool.false_and, Bool.and_false, Bool.not_true, Bool.not_false, cond_true, cond_false])) rfl .n) .n rfl rfl rfl)
    · have h := ifF q29 h
      refine W.skip ?_
      refine W.seq ?_
      obtain ⟨t33, b34, h⟩ := bnd1 h
      refine W.pk ?_
      refine .v rfl rfl (OpL.move (.inl rfl) rfl) ?_
      refine .v rfl rfl (OpL.move (.inl rfl) rfl) ?_
      refine .v rfl rfl (OpL.move (.inl rfl) rfl) ?_
      refine .call (.tup [.imm (.val (.int .i64 t33.1)), .imm (.val (.int .i64 t33.2))]) [] 0 (haircut_Cover.ok b34) rfl rfl rfl ca10 rfl rfl (cC (.imm _) (cC (.imm _) (cC (.imm _) .nil))) rfl rfl rfl rfl rfl ?_
      refine .v rfl rfl (OpL.move (.inl rfl) rfl) ?_
      refine .v rfl rfl (OpL.extract rfl rfl rfl) ?_
      refine .v rfl rfl (OpL.extract rfl rfl rfl) ?_
      refine .v rfl rfl (OpL.move (.inr rfl) rfl) ?_
      refine .v rfl rfl (OpL.move (.inr rfl) rfl) ?_
      refine .nil ?_
      refine W.seq ?_
      refine W.seq ?_
      refine W.fork (mkSt [(0, some (.imm (.val (.int .i64 x0)))), (1, some (.imm (.val (.int .i64 x1)))), (2, some (.imm (.val (.int .i64 x2)))), (3, some (.imm (.val (.int .i64 x3)))), (15, some (.imm (.val (.int .i64 t27)))), (89, some (.imm (.val (.bool (((t33.2 != 0) || (decide (t33.1 > x3))) || (decide (t27 > x0)))))))] [] 1000) ?_ ?_
      · refine W.cond rfl (fun q37 => ?_) (fun q37 => ?_)
        · have h := ifT q37 h
          refine W.seq ?_
          refine W.pk ?_
          refine .v rfl rfl (OpL.move (.inr rfl) rfl) ?_
          refine .nil ?_
          refine W.ret ?_
          cases h
          exact leaves (.inr rfl) rfl (.imm _) (cN (cN (cN (cN .nil)))) rfl rfl
        · have h := ifF q37 h
          refine W.skip ?_
          refine W.seq ?_
          refine W.seq ?_
          refine W.pk ?_
          refine .v rfl rfl (OpL.move (.inl rfl) rfl) ?_
          refine .v rfl rfl (OpL.move (.inl rfl) rfl) ?_
          refine .v rfl rfl (OpL.binI rfl rfl rfl rfl) ?_
          refine .nil ?_
          refine W.cond rfl (fun q38 => ?_) (fun q38 => ?_)
          · have h := ifT q38 h
            refine W.seq ?_
            obtain ⟨t39, b40, h⟩ := bnd1 h
            refine W.pk ?_
            refine .call (.imm (.val (.bool t39))) [] 0 (lombardlaw15_awake.ok b40) rfl rfl rfl ca9 rfl rfl .nil rfl rfl rfl rfl rfl ?_
            refine .v rfl rfl (OpL.move (.inr rfl) rfl) ?_
            refine .nil ?_
            refine W.ret ?_
            cases h
            exact leaves (.inr rfl) rfl (.imm _) (cN (cN (cN (cN .nil)))) rfl rfl
          · have h := ifF q38 h
            refine W.skip ?_
            refine W.seq ?_
            obtain ⟨t41, b42, h⟩ := bnd1 h
            refine W.pk ?_
            refine .v rfl rfl (OpL.move (.inl rfl) rfl) ?_
            refine .v rfl rfl (OpL.binI rfl rfl rfl rfl) ?_
            refine .v rfl rfl (OpL.move (.inl rfl) rfl) ?_
            refine .v rfl rfl (OpL.move (.inl rfl) rfl) ?_
            refine .call (.tup [.imm (.val (.int .i64 t41.1)), .imm (.val (.int .i64 t41.2))]) [] 0 (haircut_Cover.ok b42) rfl rfl rfl ca10 rfl rfl (cC (.imm _) (cC (.imm _) (cC (.imm _) .nil))) rfl rfl rfl rfl rfl ?_
            refine .v rfl rfl (OpL.move (.inl rfl) rfl) ?_
            refine .v rfl rfl (OpL.extract rfl rfl rfl) ?_
            refine .v rfl rfl (OpL.extract rfl rfl rfl) ?_
            refine .v rfl rfl (OpL.move (.inr rfl) rfl) ?_
            refine .v rfl rfl (OpL.move (.inr rfl) rfl) ?_
            refine .nil ?_
            refine W.seq ?_
            obtain ⟨t43, b44, h⟩ := bnd1 h
            refine W.fork (mkSt [(8, some (.imm (.val (.bool (((t41.2 == 0) && (decide (t41.1 > x3))) && t43)))))] [] 1000) ?_ ?_
            · refine W.ret ?_
              cases h
              exact leaves (.inr rfl) rfl (.imm _) (cN (cN (cN (cN .nil)))) rfl rfl
            · clear h
              rcases tf (t41.2 == 0) with g45 | g45
              · rcases tf (decide (t41.1 > x3)) with g46 | g46
                · refine W.pk ?_
                  refine .v rfl rfl (OpL.move (.inl rfl) rfl) ?_
                  refine .v rfl rfl (OpL.binI rfl rfl rfl rfl) ?_
                  refine .v rfl rfl (OpL.move (.inl rfl) rfl) ?_
                  refine .v rfl (met rfl rfl rfl g45) (OpL.move (.inl rfl) rfl) ?_
                  refine .v rfl (met rfl rfl rfl g45) (OpL.move (.inl rfl) rfl) ?_
                  refine .v rfl (met rfl rfl rfl g45) (OpL.binI rfl rfl rfl rfl) ?_
                  refine .v rfl rfl (O.pickT g45 rfl rfl rfl) ?_
                  refine .v rfl rfl (OpL.move (.inl rfl) rfl) ?_
                  refine .call (.imm (.val (.bool t43))) [] 0 (lombardlaw15_awake.ok ((if_pos (by simp only [g45, g46, Bool.true_or, Bool.or_true, Bool.false_or, Bool.or_false, Bool.true_and, Bool.and_true, Bool.false_and, Bool.and_false, Bool.not_true, Bool.not_false, cond_true, cond_false])).symm.trans b44)) rfl (met rfl rfl rfl g46) rfl ca9 rfl rfl .nil rfl rfl rfl rfl rfl ?_
                  refine .v rfl rfl (O.pickT g46 rfl rfl rfl) ?_
                  refine .v rfl rfl (OpL.move (.inr rfl) rfl) ?_
                  refine .nil ?_
                  exact toN (Gives.mkR [] (.c rfl (sbb (by simp only [g45, g46, Bool.true_or, Bool.or_true, Bool.false_or, Bool.or_false, Bool.true_and, Bool.and_true, Bool.false_and, Bool.and_false, Bool.not_true, Bool.not_false, cond_true, cond_false])) rfl .n) .n rfl rfl rfl)
                · refine W.pk ?_
                  refine .v rfl rfl (OpL.move (.inl rfl) rfl) ?_
                  refine .v rfl rfl (OpL.binI rfl rfl rfl rfl) ?_
                  refine .v rfl rfl (OpL.move (.inl rfl) rfl) ?_
                  refine .v rfl (met rfl rfl rfl g45) (OpL.move (.inl rfl) rfl) ?_
                  refine .v rfl (met rfl rfl rfl g45) (OpL.move (.inl rfl) rfl) ?_
                  refine .v rfl (met rfl rfl rfl g45) (OpL.binI rfl rfl rfl rfl) ?_
                  refine .v rfl rfl (O.pickT g45 rfl rfl rfl) ?_
                  refine .v rfl rfl (OpL.move (.inl rfl) rfl) ?_
                  refine .x rfl (unmet rfl rfl rfl g46) ?_
                  refine .v rfl rfl (O.pickF g46 rfl rfl rfl) ?_
                  refine .v rfl rfl (OpL.move (.inr rfl) rfl) ?_
                  refine .nil ?_
                  exact toN (Gives.mkR [] (.c rfl (sbb (by simp only [g45, g46, Bool.true_or, Bool.or_true, Bool.false_or, Bool.or_false, Bool.true_and, Bool.and_true, Bool.false_and, Bool.and_false, Bool.not_true, Bool.not_false, cond_true, cond_false])) rfl .n) .n rfl rfl rfl)
              · refine W.pk ?_
                refine .v rfl rfl (OpL.move (.inl rfl) rfl) ?_
                refine .v rfl rfl (OpL.binI rfl rfl rfl rfl) ?_
                refine .v rfl rfl (OpL.move (.inl rfl) rfl) ?_
                refine .x rfl (unmet rfl rfl rfl g45) ?_
                refine .x rfl (unmet rfl rfl rfl g45) ?_
                refine .x rfl (unmet rfl rfl rfl g45) ?_
                refine .v rfl rfl (O.pickF g45 rfl rfl rfl) ?_
                refine .v rfl rfl (OpL.move (.inl rfl) rfl) ?_
                refine .x rfl (unmet rfl rfl rfl rfl) ?_
                refine .v rfl rfl (O.pickF rfl rfl rfl rfl) ?_
                refine .v rfl rfl (OpL.move (.inr rfl) rfl) ?_
                refine .nil ?_
                exact toN (Gives.mkR [] (.c rfl (sbb (by simp only [g45, Bool.true_or, Bool.or_true, Bool.false_or, Bool.or_false, Bool.true_and, Bool.and_true, Bool.false_and, Bool.and_false, Bool.not_true, Bool.not_false, cond_true, cond_false])) rfl .n) .n rfl rfl rfl)
      · clear h
        rcases tf (t33.2 != 0) with g35 | g35
        · refine W.pk ?_
          refine .v rfl rfl (OpL.move (.inl rfl) rfl) ?_
          refine .v rfl rfl (OpL.binI rfl rfl rfl rfl) ?_
          refine .v rfl rfl (OpL.move (.inl rfl) rfl) ?_
          refine .x rfl (unmet rfl rfl rfl g35) ?_
          refine .x rfl (unmet rfl rfl rfl g35) ?_
          refine .x rfl (unmet rfl rfl rfl g35) ?_
          refine .v rfl rfl (O.pickT g35 rfl rfl rfl) ?_
          refine .v rfl rfl (OpL.move (.inl rfl) rfl) ?_
          refine .x rfl (unmet rfl rfl rfl rfl) ?_
          refine .x rfl (unmet rfl rfl rfl rfl) ?_
          refine .x rfl (unmet rfl rfl rfl rfl) ?_
          refine .v rfl rfl (O.pickT rfl rfl rfl rfl) ?_
          refine .nil ?_
          exact toN (Gives.mkR [] (.c rfl (.rfl _) rfl (.c rfl (.rfl _) rfl (.c rfl (.rfl _) rfl (.c rfl (.rfl _) rfl (.c rfl (.rfl _) rfl (.c rfl (sbb (by simp only [g35, Bool.true_or, Bool.or_true, Bool.false_or, Bool.or_false, Bool.true_and, Bool.and_true, Bool.false_and, Bool.and_false, Bool.not_true, Bool.not_false, cond_true, cond_false])) rfl .n)))))) .n rfl rfl rfl)
        · rcases tf (decide (t33.1 > x3)) with g36 | g36
          · refine W.pk ?_
            refine .v rfl rfl (OpL.move (.inl rfl) rfl) ?_
            refine .v rfl rfl (OpL.binI rfl rfl rfl rfl) ?_
            refine .v rfl rfl (OpL.move (.inl rfl) rfl) ?_
            refine .v rfl (met rfl rfl rfl g35) (OpL.move (.inl rfl) rfl) ?_
            refine .v rfl (met rfl rfl rfl g35) (OpL.move (.inl rfl) rfl) ?_
            refine .v rfl (met rfl rfl rfl g35) (OpL.binI rfl rfl rfl rfl) ?_
            refine .v rfl rfl (O.pickF g35 rfl rfl rfl) ?_
            refine .v rfl rfl (OpL.move (.inl rfl) rfl) ?_
            refine .x rfl (unmet rfl rfl rfl g36) ?_
            refine .x rfl (unmet rfl rfl rfl g36) ?_
            refine .x rfl (unmet rfl rfl rfl g36) ?_
            refine .v rfl rfl (O.pickT g36 rfl rfl rfl) ?_
            refine .nil ?_
            exact toN (Gives.mkR [] (.c rfl (.rfl _) rfl (.c rfl (.rfl _) rfl (.c rfl (.rfl _) rfl (.c rfl (.rfl _) rfl (.c rfl (.rfl _) rfl (.c rfl (sbb (by simp only [g35, g36, Bool.true_or, Bool.or_true, Bool.false_or, Bool.or_false, Bool.true_and, Bool.and_true, Bool.false_and, Bool.and_false, Bool.not_true, Bool.not_false, cond_true, cond_false])) rfl .n)))))) .n rfl rfl rfl)
          · refine W.pk ?_
            refine .v rfl rfl (OpL.move (.inl rfl) rfl) ?_
            refine .v rfl rfl (OpL.binI rfl rfl rfl rfl) ?_
            refine .v rfl rfl (OpL.move (.inl rfl) rfl) ?_
            refine .v rfl (met rfl rfl rfl g35) (OpL.move (.inl rfl) rfl) ?_
            refine .v rfl (met rfl rfl rfl g35) (OpL.move (.inl rfl) rfl) ?_
            refine .v rfl (met rfl rfl rfl g35) (OpL.binI rfl rfl rfl rfl) ?_
            refine .v rfl rfl (O.pickF g35 rfl rfl rfl) ?_
            refine .v rfl rfl (OpL.move (.inl rfl) rfl) ?_
            refine .v rfl (met rfl rfl rfl g36) (OpL.move (.inl rfl) rfl) ?_
            refine .v rfl (met rfl rfl rfl g36) (OpL.move (.inl rfl) rfl) ?_
            refine .v rfl (met rfl rfl rfl g36) (OpL.binI rfl rfl rfl rfl) ?_
            refine .v rfl rfl (O.pickF g36 rfl rfl rfl) ?_
            refine .nil ?_
            exact toN (Gives.mkR [] (.c rfl (.rfl _) rfl (.c rfl (.rfl _) rfl (.c rfl (.rfl _) rfl (.c rfl (.rfl _) rfl (.c rfl (.rfl _) rfl (.c rfl (sbb (by simp only [g35, g36, Bool.true_or, Bool.or_true, Bool.false_or, Bool.or_false, Bool.true_and, Bool.and_true, Bool.false_and, Bool.and_false, Bool.not_true, Bool.not_false, cond_true, cond_false])) rfl .n)))))) .n rfl rfl rfl)

noncomputable def lombardref10_in.f (x0 : Int) (x1 : Int) (x2 : Int) : Option (Bool) :=
  some ((decide (x0 ≥ x1)) && (decide (x0 ≤ x2)))
set_option maxRecDepth 100000 in
set_option maxHeartbeats 4000000 in
theorem lombardref10_in.ok {x0 : Int} {x1 : Int} {x2 : Int} {r : Bool} (h : lombardref10_in.f x0 x1 x2 = some r) : Pm.Spec prog 39 [.imm (.val (.int .i64 x0)), .imm (.val (.int .i64 x1)), .imm (.val (.int .i64 x2))] (.imm (.val (.bool r))) [none, none, none] := by
  unfold lombardref10_in.f at h
  refine Pm.Spec.of_body Try.func39 rfl (by kernel_rfl) (Nat.le_of_ble_eq_true rfl) (Nat.le_of_ble_eq_true rfl) ?_
  refine W.ghost (σ' := (mkSt [(0, some (.imm (.val (.int .i64 x0)))), (1, some (.imm (.val (.int .i64 x1)))), (2, some (.imm (.val (.int .i64 x2))))] [] 1000)) (Gives.entry (.c rfl (.c rfl (.c rfl .n))) .n) ?_
  refine W.seq ?_
  refine W.pk ?_
  refine .v rfl rfl (OpL.move (.inr rfl) rfl) ?_
  refine .nil ?_
  refine W.seq ?_
  refine W.fork (mkSt [(6, some (.imm (.val (.bool ((decide (x0 ≥ x1)) && (decide (x0 ≤ x2)))))))] [] 1000) ?_ ?_
  · refine W.ret ?_
    cases h
    exact leaves (.inr rfl) rfl (.imm _) (cN (cN (cN .nil))) rfl rfl
  · clear h
    rcases tf (decide (x0 ≥ x1)) with g1 | g1
    · refine W.pk ?_
      refine .v rfl rfl (OpL.move (.inl rfl) rfl) ?_
      refine .v rfl rfl (OpL.move (.inl rfl) rfl) ?_
      refine .v rfl rfl (OpL.binI rfl rfl rfl rfl) ?_
      refine .v rfl rfl (OpL.move (.inl rfl) rfl) ?_
      refine .v rfl (met rfl rfl rfl g1) (OpL.move (.inl rfl) rfl) ?_
      refine .v rfl (met rfl rfl rfl g1) (OpL.move (.inl rfl) rfl) ?_
      refine .v rfl (met rfl rfl rfl g1) (OpL.binI rfl rfl rfl rfl) ?_
      refine .v rfl rfl (O.pickT g1 rfl rfl rfl) ?_
      refine .v rfl rfl (OpL.move (.inr rfl) rfl) ?_
      refine .nil ?_
      exact toN (Gives.mkR [] (.c rfl (sbb (by simp only [g1, Bool.true_or, Bool.or_true, Bool.false_or, Bool.or_false, Bool.true_and, Bool.and_true, Bool.false_and, Bool.and_false, Bool.not_true, Bool.not_false, cond_true, cond_false])) rfl .n) .n rfl rfl rfl)
    · refine W.pk ?_
      refine .v rfl rfl (OpL.move (.inl rfl) rfl) ?_
      refine .v rfl rfl (OpL.move (.inl rfl) rfl) ?_
      refine .v rfl rfl (OpL.binI rfl rfl rfl rfl) ?_
      refine .v rfl rfl (OpL.move (.inl rfl) rfl) ?_
      refine .x rfl (unmet rfl rfl rfl g1) ?_
      refine .x rfl (unmet rfl rfl rfl g1) ?_
      refine .x rfl (unmet rfl rfl rfl g1) ?_
      refine .v rfl rfl (O.pickF g1 rfl rfl rfl) ?_
      refine .v rfl rfl (OpL.move (.inr rfl) rfl) ?_
      refine .nil ?_
      exact toN (Gives.mkR [] (.c rfl (sbb (by simp only [g1, Bool.true_or, Bool.or_true, Bool.false_or, Bool.or_false, Bool.true_and, Bool.and_true, Bool.false_and, Bool.and_false, Bool.not_true, Bool.not_false, cond_true, cond_false])) rfl .n) .n rfl rfl rfl)

noncomputable def lombardref10_Amount.f (x0 : Int) : Option (Bool) :=
  some ((decide (x0 ≥ 1)) && (decide (x0 ≤ 1125899906842624)))
set_option maxRecDepth 100000 in
set_option maxHeartbeats 4000000 in
theorem lombardref10_Amount.ok {x0 : Int} {r : Bool} (h : lombardref10_Amount.f x0 = some r) : Pm.Spec prog 40 [.imm (.val (.int .i64 x0))] (.imm (.val (.bool r))) [none] := by
  unfold lombardref10_Amount.f at h
  refine Pm.Spec.of_body Try.func40 rfl (by kernel_rfl) (Nat.le_of_ble_eq_true rfl) (Nat.le_of_ble_eq_true rfl) ?_
  refine W.ghost (σ' := (mkSt [(0, some (.imm (.val (.int .i64 x0))))] [] 1000)) (Gives.entry (.c rfl .n) .n) ?_
  refine W.seq ?_
  refine W.pk ?_
  refine .v rfl rfl (OpL.move (.inr rfl) rfl) ?_
  refine .nil ?_
  refine W.seq ?_
  refine W.fork (mkSt [(2, some (.imm (.val (.bool ((decide (x0 ≥ 1)) && (decide (x0 ≤ 1125899906842624)))))))] [] 1000) ?_ ?_
  · refine W.ret ?_
    cases h
    exact leaves (.inr rfl) rfl (.imm _) (cN .nil) rfl rfl
  · clear h
    rcases tf (decide (x0 ≥ 1)) with g1 | g1
    · refine W.pk ?_
      refine .v rfl rfl (OpL.move (.inl rfl) rfl) ?_
      refine .v rfl rfl (OpL.binI rfl rfl rfl rfl) ?_
      refine .v rfl rfl (OpL.move (.inl rfl) rfl) ?_
      refine .v rfl (met rfl rfl rfl g1) (OpL.move (.inl rfl) rfl) ?_
      refine .v rfl (met rfl rfl rfl g1) (OpL.binI rfl rfl rfl rfl) ?_
      refine .v rfl rfl (O.pickT g1 rfl rfl rfl) ?_
      refine .v rfl rfl (OpL.move (.inr rfl) rfl) ?_
      refine .nil ?_
      exact toN (Gives.mkR [] (.c rfl (sbb (by simp only [g1, Bool.true_or, Bool.or_true, Bool.false_or, Bool.or_false, Bool.true_and, Bool.and_true, Bool.false_and, Bool.and_false, Bool.not_true, Bool.not_false, cond_true, cond_false])) rfl .n) .n rfl rfl rfl)
    · refine W.pk ?_
      refine .v rfl rfl (OpL.move (.inl rfl) rfl) ?_
      refine .v rfl rfl (OpL.binI rfl rfl rfl rfl) ?_
      refine .v rfl rfl (OpL.move (.inl rfl) rfl) ?_
      refine .x rfl (unmet rfl rfl rfl g1) ?_
      refine .x rfl (unmet rfl rfl rfl g1) ?_
      refine .v rfl rfl (O.pickF g1 rfl rfl rfl) ?_
      refine .v rfl rfl (OpL.move (.inr rfl) rfl) ?_
      refine .nil ?_
      exact toN (Gives.mkR [] (.c rfl (sbb (by simp only [g1, Bool.true_or, Bool.or_true, Bool.false_or, Bool.or_false, Bool.true_and, Bool.and_true, Bool.false_and, Bool.and_false, Bool.not_true, Bool.not_false, cond_true, cond_false])) rfl .n) .n rfl rfl rfl)

noncomputable def lombardref05_Currency.b0 (x0 : Bs) (v4 : Int) : Option (Int ⊕ (Bool ⊕ Unit)) :=
  if (decide (v4 < 32)) = true then
    if (0 : Int) ≤ v4 ∧ v4 ≤ (IntKind.wrap .i64 (v4 + 3)) ∧ (IntKind.wrap .i64 (v4 + 3)) ≤ (List.length [69, 85, 82, 32, 85, 83, 68, 32, 71, 66, 80, 32, 67, 72, 70, 32, 74, 80, 89, 32, 83, 69, 75, 32, 78, 79, 75, 32, 68, 75, 75, 32] : Int) then
    if ((List.take (Int.toNat (IntKind.wrap .i64 (v4 + 3)) - Int.toNat v4) (List.drop (Int.toNat v4) [69, 85, 82, 32, 85, 83, 68, 32, 71, 66, 80, 32, 67, 72, 70, 32, 74, 80, 89, 32, 83, 69, 75, 32, 78, 79, 75, 32, 68, 75, 75, 32])) == x0) = true then
      some (.inr (.inl true))
    else
      some (.inl (IntKind.wrap .i64 (v4 + 4)))
    else none
  else
    some (.inr (.inr ()))
noncomputable def lombardref05_Currency.r0 (x0 : Bs) (s : Int) : Option (Int ⊕ (Bool ⊕ Unit)) := lombardref05_Currency.b0 x0 s
noncomputable def lombardref05_Currency.f (x0 : Bs) : Option (Bool) :=
  (loop (lombardref05_Currency.r0 x0) 0).bind fun o12 =>
  match o12 with
  | .inl r18 => some r18
  | .inr w11 =>
    some false
set_option maxRecDepth 100000 in
set_option maxHeartbeats 4000000 in
theorem lombardref05_Currency.ok {x0 : Bs} {r : Bool} (h : lombardref05_Currency.f x0 = some r) : Pm.Spec prog 41 [.imm (.val (.string (tx x0)))] (.imm (.val (.bool r))) [none] := by
  unfold lombardref05_Currency.f at h
  refine Pm.Spec.of_body Try.func41 rfl (by kernel_rfl) (Nat.le_of_ble_eq_true rfl) (Nat.le_of_ble_eq_true rfl) ?_
  refine W.ghost (σ' := (mkSt [(0, some (.imm (.val (.string (tx x0)))))] [] 1000)) (Gives.entry (.c rfl .n) .n) ?_
  refine W.seq ?_
  refine W.pk ?_
  refine .v rfl rfl (OpL.move (.inr rfl) rfl) ?_
  refine .nil ?_
  refine W.seq ?_
  refine W.seq ?_
  refine W.pk ?_
  refine .v rfl rfl (OpL.move (.inr rfl) rfl) ?_
  refine .nil ?_
  obtain ⟨o12, b13, z14⟩ := bnd1 h
  refine W.fork2 (out := o12) (fun (w11 : Unit) => mkSt [] [] 1000) ?_ ?_
  · clear h
    refine W.block ?_
    refine W.loopF (fun (s_ : Int) => mkSt [(0, some (.imm (.val (.string (tx x0))))), (3, some (.imm (.val (.int .i64 s_))))] [] 1000) b13 (Gives.mkR [] (.c rfl (.rfl _) rfl (.c rfl (.rfl _) rfl .n)) .n rfl rfl rfl) ?_
    rintro v4 s_ hr
    have h : lombardref05_Currency.b0 x0 v4 = some s_ := hr
    unfold lombardref05_Currency.b0 at h
    refine W.seq ?_
    refine W.seq ?_
    refine W.pk ?_
    refine .v rfl rfl (OpL.move (.inl rfl) rfl) ?_
    refine .v rfl rfl (OpL.binI rfl rfl rfl rfl) ?_
    refine .nil ?_
    refine W.cond rfl (fun q15 => ?_) (fun q15 => ?_)
    · have h := ifT q15 h
      refine W.skip ?_
      refine W.seq ?_
      refine W.block ?_
      refine W.seq ?_
      obtain ⟨c16, h⟩ := chk h
      refine W.pk ?_
      refine .v rfl rfl (OpL.move (.inl rfl) rfl) ?_
      refine .v rfl rfl (OpL.move (.inl rfl) rfl) ?_
      refine .v rfl rfl (OpL.binI rfl rfl rfl rfl) ?_
      refine .v rfl rfl (O.partS u9 c16 rfl rfl rfl rfl) ?_
      refine .v rfl rfl (OpL.move (.inl rfl) rfl) ?_
      refine .v rfl rfl (O.cmpS rfl rfl rfl rfl) ?_
      refine .nil ?_
      refine W.cond rfl (fun q17 => ?_) (fun q17 => ?_)
      · have h := ifT q17 h
        refine W.seq ?_
        refine W.pk ?_
        refine .v rfl rfl (OpL.move (.inr rfl) rfl) ?_
        refine .nil ?_
        refine W.ret ?_
        cases h
        refine rdR fun e_ => ?_
        subst e_
        have h := z14
        dsimp only at h
        refine fkR ?_
        cases h
        exact leaves (.inr rfl) rfl (.imm _) (cN .nil) rfl rfl
      · have h := ifF q17 h
        refine W.skip ?_
        refine W.pk ?_
        refine .v rfl rfl (OpL.move (.inl rfl) rfl) ?_
        refine .v rfl rfl (OpL.binI rfl rfl rfl rfl) ?_
        refine .v rfl rfl (OpL.move (.inr rfl) rfl) ?_
        refine .nil ?_
        cases h
        exact rdN (Gives.mkR [] (.c rfl (.rfl _) rfl (.c rfl (.rfl _) rfl .n)) .n rfl rfl rfl)
    · have h := ifF q15 h
      refine W.exit ?_
      cases h
      refine rdX fun e_ => ?_
      subst e_
      refine hit ?_
      exact fkN (Gives.mkR [] .n .n rfl rfl rfl)
  · intro w11 e_
    subst e_
    clear h
    have h := z14
    dsimp only at h
    refine W.seq ?_
    refine W.pk ?_
    refine .v rfl rfl (OpL.move (.inr rfl) rfl) ?_
    refine .nil ?_
    refine W.ret ?_
    cases h
    exact leaves (.inr rfl) rfl (.imm _) (cN .nil) rfl rfl
end Go.Proofs.Ytdcpdnfalnelkaa
