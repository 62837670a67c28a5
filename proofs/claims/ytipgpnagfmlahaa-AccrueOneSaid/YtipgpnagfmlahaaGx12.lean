/- Shows what functions of the program come to, each as a plain function: written by a program of the author's for this claim. -/
import Derived.Test.YtipgpnagfmlahaaGx11
namespace Go.Proofs.Ytipgpnagfmlahaa
open Go Go.Pm
set_option linter.unusedVariables false
set_option linter.unusedSimpArgs false
noncomputable def lombardlaw03_AccrueBetween.f (x0 : Int) (x1 : List api_Reset) (x2 : Int) (x3 : Int) : Option (Bool) :=
  (accrue_Between.f x0 x1 x2 x3).bind fun t1 =>
  (lombardref03_Between.f x0 x1 x2 x3).bind fun t3 =>
  if ((t1.1 != t3.1) || (t1.2 != t3.2)) = true then
    some false
  else
    (accrue_Back.f x0 x1 x2 x3).bind fun t7 =>
    (if ((t7.2 == t3.2) && (((t3.2 != 0) && (t7.1 == 0)) || ((t3.2 == 0) && (t7.1 == (IntKind.wrap .i64 (x0 + t3.1)))))) = true then lombardlaw03_awake.f else some default).bind fun t9 =>
    some (((t7.2 == t3.2) && (((t3.2 != 0) && (t7.1 == 0)) || ((t3.2 == 0) && (t7.1 == (IntKind.wrap .i64 (x0 + t3.1)))))) && t9)
set_option maxRecDepth 100000 in
set_option maxHeartbeats 4000000 in
theorem lombardlaw03_AccrueBetween.ok {x0 : Int} {x1 : List api_Reset} {x2 : Int} {x3 : Int} {r : Bool} (h : lombardlaw03_AccrueBetween.f x0 x1 x2 x3 = some r) : Pm.Spec prog 9 [.imm (.val (.int .i64 x0)), .imm (.row 2 (List.map api_Reset.enc x1)), .imm (.val (.int .i64 x2)), .imm (.val (.int .i64 x3))] (.imm (.val (.bool r))) [none, none, none, none] := by
  unfold lombardlaw03_AccrueBetween.f at h
  refine Pm.Spec.of_body Try.func9 rfl (by kernel_rfl) (Nat.le_of_ble_eq_true rfl) (Nat.le_of_ble_eq_true rfl) ?_
  refine W.ghost (σ' := (mkSt [(0, some (.imm (.val (.int .i64 x0)))), (1, some (.imm (.row 2 (List.map api_Reset.enc x1)))), (2, some (.imm (.val (.int .i64 x2)))), (3, some (.imm (.val (.int .i64 x3))))] [] 1000)) (Gives.entry (.c rfl (.c rfl (.c rfl (.c rfl .n)))) .n) ?_
  refine W.seq ?_
  refine W.pk ?_
  refine .v rfl rfl (OpL.move (.inr rfl) rfl) ?_
  refine .nil ?_
  refine W.seq ?_
  obtain ⟨t1, b2, h⟩ := bnd1 h
  refine W.pk ?_
  refine .v rfl rfl (OpL.move (.inl rfl) rfl) ?_
  refine .v rfl rfl (OpL.move (.inl rfl) rfl) ?_
  refine .v rfl rfl (OpL.move (.inl rfl) rfl) ?_
  refine .v rfl rfl (OpL.move (.inl rfl) rfl) ?_
  refine .call (.tup [.imm (.val (.int .i64 t1.1)), .imm (.val (.int .i64 t1.2))]) [] 0 (accrue_Between_v2.ok b2) rfl rfl rfl ca23 rfl rfl (cC (.imm _) (cC (.imm _) (cC (.imm _) (cC (.imm _) .nil)))) rfl rfl rfl rfl rfl ?_
  refine .v rfl rfl (OpL.move (.inl rfl) rfl) ?_
  refine .v rfl rfl (OpL.extract rfl rfl rfl) ?_
  refine .v rfl rfl (OpL.extract rfl rfl rfl) ?_
  refine .v rfl rfl (OpL.move (.inr rfl) rfl) ?_
  refine .v rfl rfl (OpL.move (.inr rfl) rfl) ?_
  refine .nil ?_
  refine W.seq ?_
  obtain ⟨t3, b4, h⟩ := bnd1 h
  refine W.pk ?_
  refine .v rfl rfl (OpL.move (.inl rfl) rfl) ?_
  refine .v rfl rfl (OpL.move (.inl rfl) rfl) ?_
  refine .v rfl rfl (OpL.move (.inl rfl) rfl) ?_
  refine .v rfl rfl (OpL.move (.inl rfl) rfl) ?_
  refine .call (.tup [.imm (.val (.int .i64 t3.1)), .imm (.val (.int .i64 t3.2))]) [] 0 (lombardref03_Between.ok b4) rfl rfl rfl ca24 rfl rfl (cC (.imm _) (cC (.imm _) (cC (.imm _) (cC (.imm _) .nil)))) rfl rfl rfl rfl rfl ?_
  refine .v rfl rfl (OpL.move (.inl rfl) rfl) ?_
  refine .v rfl rfl (OpL.extract rfl rfl rfl) ?_
  refine .v rfl rfl (OpL.extract rfl rfl rfl) ?_
  refine .v rfl rfl (OpL.move (.inr rfl) rfl) ?_
  refine .v rfl rfl (OpL.move (.inr rfl) rfl) ?_
  refine .nil ?_
  refine W.seq ?_
  refine W.seq ?_
  refine W.fork (mkSt [(0, some (.imm (.val (.int .i64 x0)))), (1, some (.imm (.row 2 (List.map api_Reset.enc x1)))), (2, some (.imm (.val (.int .i64 x2)))), (3, some (.imm (.val (.int .i64 x3)))), (11, some (.imm (.val (.int .i64 t3.1)))), (12, some (.imm (.val (.int .i64 t3.2)))), (38, some (.imm (.val (.bool ((t1.1 != t3.1) || (t1.2 != t3.2))))))] [] 1000) ?_ ?_
  · refine W.cond rfl (fun q6 => ?_) (fun q6 => ?_)
    · have h := ifT q6 h
      refine W.seq ?_
      refine W.pk ?_
      refine .v rfl rfl (OpL.move (.inr rfl) rfl) ?_
      refine .nil ?_
      refine W.ret ?_
      cases h
      exact leaves (.inr rfl) rfl (.imm _) (cN (cN (cN (cN .nil)))) rfl rfl
    · have h := ifF q6 h
      refine W.skip ?_
      refine W.seq ?_
      obtain ⟨t7, b8, h⟩ := bnd1 h
      refine W.pk ?_
      refine .v rfl rfl (OpL.move (.inl rfl) rfl) ?_
      refine .v rfl rfl (OpL.move (.inl rfl) rfl) ?_
      refine .v rfl rfl (OpL.move (.inl rfl) rfl) ?_
      refine .v rfl rfl (OpL.move (.inl rfl) rfl) ?_
      refine .call (.tup [.imm (.val (.int .i64 t7.1)), .imm (.val (.int .i64 t7.2))]) [] 0 (accrue_Back.ok b8) rfl rfl rfl ca25 rfl rfl (cC (.imm _) (cC (.imm _) (cC (.imm _) (cC (.imm _) .nil)))) rfl rfl rfl rfl rfl ?_
      refine .v rfl rfl (OpL.move (.inl rfl) rfl) ?_
      refine .v rfl rfl (OpL.extract rfl rfl rfl) ?_
      refine .v rfl rfl (OpL.extract rfl rfl rfl) ?_
      refine .v rfl rfl (OpL.move (.inr rfl) rfl) ?_
      refine .v rfl rfl (OpL.move (.inr rfl) rfl) ?_
      refine .nil ?_
      refine W.seq ?_
      obtain ⟨t9, b10, h⟩ := bnd1 h
      refine W.fork (mkSt [(8, some (.imm (.val (.bool (((t7.2 == t3.2) && (((t3.2 != 0) && (t7.1 == 0)) || ((t3.2 == 0) && (t7.1 == (IntKind.wrap .i64 (x0 + t3.1)))))) && t9)))))] [] 1000) ?_ ?_
      · refine W.ret ?_
        cases h
        exact leaves (.inr rfl) rfl (.imm _) (cN (cN (cN (cN .nil)))) rfl rfl
      · clear h
        rcases tf (t7.2 == t3.2) with g11 | g11
        · rcases tf (t3.2 != 0) with g12 | g12
          · rcases tf (t7.1 == 0) with g13 | g13
            · refine W.pk ?_
              refine .v rfl rfl (OpL.move (.inl rfl) rfl) ?_
              refine .v rfl rfl (OpL.move (.inl rfl) rfl) ?_
              refine .v rfl rfl (OpL.binI rfl rfl rfl rfl) ?_
              refine .v rfl rfl (OpL.move (.inl rfl) rfl) ?_
              refine .v rfl (met rfl rfl rfl g11) (OpL.move (.inl rfl) rfl) ?_
              refine .v rfl (met rfl rfl rfl g11) (OpL.binI rfl rfl rfl rfl) ?_
              refine .v rfl (met rfl rfl rfl g11) (OpL.move (.inl rfl) rfl) ?_
              refine .v rfl (met rfl rfl rfl g12) (OpL.move (.inl rfl) rfl) ?_
              refine .v rfl (met rfl rfl rfl g12) (OpL.binI rfl rfl rfl rfl) ?_
              refine .v rfl (met rfl rfl rfl g11) (O.pickT g12 rfl rfl rfl) ?_
              refine .v rfl (met rfl rfl rfl g11) (OpL.move (.inl rfl) rfl) ?_
              refine .x rfl (unmet rfl rfl rfl g13) ?_
              refine .x rfl (unmet rfl rfl rfl g13) ?_
              refine .x rfl (unmet rfl rfl rfl g13) ?_
              refine .x rfl (unmetU rfl rfl rfl) ?_
              refine .x rfl (unmetU rfl rfl rfl) ?_
              refine .x rfl (unmetU rfl rfl rfl) ?_
              refine .x rfl (unmetU rfl rfl rfl) ?_
              refine .x rfl (unmetU rfl rfl rfl) ?_
              refine .x rfl (unmet rfl rfl rfl g13) ?_
              refine .v rfl (met rfl rfl rfl g11) (O.pickT g13 rfl rfl rfl) ?_
              refine .v rfl rfl (O.pickT g11 rfl rfl rfl) ?_
              refine .v rfl rfl (OpL.move (.inl rfl) rfl) ?_
              refine .call (.imm (.val (.bool t9))) [] 0 (lombardlaw03_awake.ok ((if_pos (by simp only [g11, g12, g13, Bool.true_or, Bool.or_true, Bool.false_or, Bool.or_false, Bool.true_and, Bool.and_true, Bool.false_and, Bool.and_false, Bool.not_true, Bool.not_false, cond_true, cond_false])).symm.trans b10)) rfl (met rfl rfl rfl rfl) rfl ca12 rfl rfl .nil rfl rfl rfl rfl rfl ?_
              refine .v rfl rfl (O.pickT rfl rfl rfl rfl) ?_
              refine .v rfl rfl (OpL.move (.inr rfl) rfl) ?_
              refine .nil ?_
              exact toN (Gives.mkR [] (.c rfl (sbb (by simp only [g11, g12, g13, Bool.true_or, Bool.or_true, Bool.false_or, Bool.or_false, Bool.true_and, Bool.and_true, Bool.false_and, Bool.and_false, Bool.not_true, Bool.not_false, cond_true, cond_false])) rfl .n) .n rfl rfl rfl)
            · rcases tf (t3.2 == 0) with g14 | g14
              · rcases tf (t7.1 == (IntKind.wrap .i64 (x0 + t3.1))) with g15 | g15
                · refine W.pk ?_
                  refine .v rfl rfl (OpL.move (.inl rfl) rfl) ?_
                  refine .v rfl rfl (OpL.move (.inl rfl) rfl) ?_
                  refine .v rfl rfl (OpL.binI rfl rfl rfl rfl) ?_
                  refine .v rfl rfl (OpL.move (.inl rfl) rfl) ?_
                  refine .v rfl (met rfl rfl rfl g11) (OpL.move (.inl rfl) rfl) ?_
                  refine .v rfl (met rfl rfl rfl g11) (OpL.binI rfl rfl rfl rfl) ?_
                  refine .v rfl (met rfl rfl rfl g11) (OpL.move (.inl rfl) rfl) ?_
                  refine .v rfl (met rfl rfl rfl g12) (OpL.move (.inl rfl) rfl) ?_
                  refine .v rfl (met rfl rfl rfl g12) (OpL.binI rfl rfl rfl rfl) ?_
                  refine .v rfl (met rfl rfl rfl g11) (O.pickT g12 rfl rfl rfl) ?_
                  refine .v rfl (met rfl rfl rfl g11) (OpL.move (.inl rfl) rfl) ?_
                  refine .v rfl (met rfl rfl rfl g13) (OpL.move (.inl rfl) rfl) ?_
                  refine .v rfl (met rfl rfl rfl g13) (OpL.binI rfl rfl rfl rfl) ?_
                  refine .v rfl (met rfl rfl rfl g13) (OpL.move (.inl rfl) rfl) ?_
                  refine .v rfl (met rfl rfl rfl g14) (OpL.move (.inl rfl) rfl) ?_
                  refine .v rfl (met rfl rfl rfl g14) (OpL.move (.inl rfl) rfl) ?_
                  refine .v rfl (met rfl rfl rfl g14) (OpL.move (.inl rfl) rfl) ?_
                  refine .v rfl (met rfl rfl rfl g14) (OpL.binI rfl rfl rfl rfl) ?_
                  refine .v rfl (met rfl rfl rfl g14) (OpL.binI rfl rfl rfl rfl) ?_
                  refine .v rfl (met rfl rfl rfl g13) (O.pickT g14 rfl rfl rfl) ?_
                  refine .v rfl (met rfl rfl rfl g11) (O.pickF g13 rfl rfl rfl) ?_
                  refine .v rfl rfl (O.pickT g11 rfl rfl rfl) ?_
                  refine .v rfl rfl (OpL.move (.inl rfl) rfl) ?_
                  refine .call (.imm (.val (.bool t9))) [] 0 (lombardlaw03_awake.ok ((if_pos (by simp only [g11, g12, g13, g14, g15, Bool.true_or, Bool.or_true, Bool.false_or, Bool.or_false, Bool.true_and, Bool.and_true, Bool.false_and, Bool.and_false, Bool.not_true, Bool.not_false, cond_true, cond_false])).symm.trans b10)) rfl (met rfl rfl rfl g15) rfl ca12 rfl rfl .nil rfl rfl rfl rfl rfl ?_
                  refine .v rfl rfl (O.pickT g15 rfl rfl rfl) ?_
                  refine .v rfl rfl (OpL.move (.inr rfl) rfl) ?_
                  refine .nil ?_
                  exact toN (Gives.mkR [] (.c rfl (sbb (by simp only [g11, g12, g13, g14, g15, Bool.true_or, Bool.or_true, Bool.false_or, Bool.or_false, Bool.true_and, Bool.and_true, Bool.false_and, Bool.and_false, Bool.not_true, Bool.not_false, cond_true, cond_false])) rfl .n) .n rfl rfl rfl)
                · refine W.pk ?_
                  refine .v rfl rfl (OpL.move (.inl rfl) rfl) ?_
                  refine .v rfl rfl (OpL.move (.inl rfl) rfl) ?_
                  refine .v rfl rfl (OpL.binI rfl rfl rfl rfl) ?_
                  refine .v rfl rfl (OpL.move (.inl rfl) rfl) ?_
                  refine .v rfl (met rfl rfl rfl g11) (OpL.move (.inl rfl) rfl) ?_
                  refine .v rfl (met rfl rfl rfl g11) (OpL.binI rfl rfl rfl rfl) ?_
                  refine .v rfl (met rfl rfl rfl g11) (OpL.move (.inl rfl) rfl) ?_
                  refine .v rfl (met rfl rfl rfl g12) (OpL.move (.inl rfl) rfl) ?_
                  refine .v rfl (met rfl rfl rfl g12) (OpL.binI rfl rfl rfl rfl) ?_
                  refine .v rfl (met rfl rfl rfl g11) (O.pickT g12 rfl rfl rfl) ?_
                  refine .v rfl (met rfl rfl rfl g11) (OpL.move (.inl rfl) rfl) ?_
                  refine .v rfl (met rfl rfl rfl g13) (OpL.move (.inl rfl) rfl) ?_
                  refine .v rfl (met rfl rfl rfl g13) (OpL.binI rfl rfl rfl rfl) ?_
                  refine .v rfl (met rfl rfl rfl g13) (OpL.move (.inl rfl) rfl) ?_
                  refine .v rfl (met rfl rfl rfl g14) (OpL.move (.inl rfl) rfl) ?_
                  refine .v rfl (met rfl rfl rfl g14) (OpL.move (.inl rfl) rfl) ?_
                  refine .v rfl (met rfl rfl rfl g14) (OpL.move (.inl rfl) rfl) ?_
                  refine .v rfl (met rfl rfl rfl g14) (OpL.binI rfl rfl rfl rfl) ?_
                  refine .v rfl (met rfl rfl rfl g14) (OpL.binI rfl rfl rfl rfl) ?_
                  refine .v rfl (met rfl rfl rfl g13) (O.pickT g14 rfl rfl rfl) ?_
                  refine .v rfl (met rfl rfl rfl g11) (O.pickF g13 rfl rfl rfl) ?_
                  refine .v rfl rfl (O.pickT g11 rfl rfl rfl) ?_
                  refine .v rfl rfl (OpL.move (.inl rfl) rfl) ?_
                  refine .x rfl (unmet rfl rfl rfl g15) ?_
                  refine .v rfl rfl (O.pickF g15 rfl rfl rfl) ?_
                  refine .v rfl rfl (OpL.move (.inr rfl) rfl) ?_
                  refine .nil ?_
                  exact toN (Gives.mkR [] (.c rfl (sbb (by simp only [g11, g12, g13, g14, g15, Bool.true_or, Bool.or_true, Bool.false_or, Bool.or_false, Bool.true_and, Bool.and_true, Bool.false_and, Bool.and_false, Bool.not_true, Bool.not_false, cond_true, cond_false])) rfl .n) .n rfl rfl rfl)
              · refine W.pk ?_
                refine .v rfl rfl (OpL.move (.inl rfl) rfl) ?_
                refine .v rfl rfl (OpL.move (.inl rfl) rfl) ?_
                refine .v rfl rfl (OpL.binI rfl rfl rfl rfl) ?_
                refine .v rfl rfl (OpL.move (.inl rfl) rfl) ?_
                refine .v rfl (met rfl rfl rfl g11) (OpL.move (.inl rfl) rfl) ?_
                refine .v rfl (met rfl rfl rfl g11) (OpL.binI rfl rfl rfl rfl) ?_
                refine .v rfl (met rfl rfl rfl g11) (OpL.move (.inl rfl) rfl) ?_
                refine .v rfl (met rfl rfl rfl g12) (OpL.move (.inl rfl) rfl) ?_
                refine .v rfl (met rfl rfl rfl g12) (OpL.binI rfl rfl rfl rfl) ?_
                refine .v rfl (met rfl rfl rfl g11) (O.pickT g12 rfl rfl rfl) ?_
                refine .v rfl (met rfl rfl rfl g11) (OpL.move (.inl rfl) rfl) ?_
                refine .v rfl (met rfl rfl rfl g13) (OpL.move (.inl rfl) rfl) ?_
                refine .v rfl (met rfl rfl rfl g13) (OpL.binI rfl rfl rfl rfl) ?_
                refine .v rfl (met rfl rfl rfl g13) (OpL.move (.inl rfl) rfl) ?_
                refine .x rfl (unmet rfl rfl rfl g14) ?_
                refine .x rfl (unmet rfl rfl rfl g14) ?_
                refine .x rfl (unmet rfl rfl rfl g14) ?_
                refine .x rfl (unmet rfl rfl rfl g14) ?_
                refine .x rfl (unmet rfl rfl rfl g14) ?_
                refine .v rfl (met rfl rfl rfl g13) (O.pickF g14 rfl rfl rfl) ?_
                refine .v rfl (met rfl rfl rfl g11) (O.pickF g13 rfl rfl rfl) ?_
                refine .v rfl rfl (O.pickT g11 rfl rfl rfl) ?_
                refine .v rfl rfl (OpL.move (.inl rfl) rfl) ?_
                refine .x rfl (unmet rfl rfl rfl rfl) ?_
                refine .v rfl rfl (O.pickF rfl rfl rfl rfl) ?_
                refine .v rfl rfl (OpL.move (.inr rfl) rfl) ?_
                refine .nil ?_
                exact toN (Gives.mkR [] (.c rfl (sbb (by simp only [g11, g12, g13, g14, Bool.true_or, Bool.or_true, Bool.false_or, Bool.or_false, Bool.true_and, Bool.and_true, Bool.false_and, Bool.and_false, Bool.not_true, Bool.not_false, cond_true, cond_false])) rfl .n) .n rfl rfl rfl)
          · rcases tf (t3.2 == 0) with g16 | g16
            · rcases tf (t7.1 == (IntKind.wrap .i64 (x0 + t3.1))) with g17 | g17
              · refine W.pk ?_
                refine .v rfl rfl (OpL.move (.inl rfl) rfl) ?_
                refine .v rfl rfl (OpL.move (.inl rfl) rfl) ?_
                refine .v rfl rfl (OpL.binI rfl rfl rfl rfl) ?_
                refine .v rfl rfl (OpL.move (.inl rfl) rfl) ?_
                refine .v rfl (met rfl rfl rfl g11) (OpL.move (.inl rfl) rfl) ?_
                refine .v rfl (met rfl rfl rfl g11) (OpL.binI rfl rfl rfl rfl) ?_
                refine .v rfl (met rfl rfl rfl g11) (OpL.move (.inl rfl) rfl) ?_
                refine .x rfl (unmet rfl rfl rfl g12) ?_
                refine .x rfl (unmet rfl rfl rfl g12) ?_
                refine .v rfl (met rfl rfl rfl g11) (O.pickF g12 rfl rfl rfl) ?_
                refine .v rfl (met rfl rfl rfl g11) (OpL.move (.inl rfl) rfl) ?_
                refine .v rfl (met rfl rfl rfl rfl) (OpL.move (.inl rfl) rfl) ?_
                refine .v rfl (met rfl rfl rfl rfl) (OpL.binI rfl rfl rfl rfl) ?_
                refine .v rfl (met rfl rfl rfl rfl) (OpL.move (.inl rfl) rfl) ?_
                refine .v rfl (met rfl rfl rfl g16) (OpL.move (.inl rfl) rfl) ?_
                refine .v rfl (met rfl rfl rfl g16) (OpL.move (.inl rfl) rfl) ?_
                refine .v rfl (met rfl rfl rfl g16) (OpL.move (.inl rfl) rfl) ?_
                refine .v rfl (met rfl rfl rfl g16) (OpL.binI rfl rfl rfl rfl) ?_
                refine .v rfl (met rfl rfl rfl g16) (OpL.binI rfl rfl rfl rfl) ?_
                refine .v rfl (met rfl rfl rfl rfl) (O.pickT g16 rfl rfl rfl) ?_
                refine .v rfl (met rfl rfl rfl g11) (O.pickF rfl rfl rfl rfl) ?_
                refine .v rfl rfl (O.pickT g11 rfl rfl rfl) ?_
                refine .v rfl rfl (OpL.move (.inl rfl) rfl) ?_
                refine .call (.imm (.val (.bool t9))) [] 0 (lombardlaw03_awake.ok ((if_pos (by simp only [g11, g12, g16, g17, Bool.true_or, Bool.or_true, Bool.false_or, Bool.or_false, Bool.true_and, Bool.and_true, Bool.false_and, Bool.and_false, Bool.not_true, Bool.not_false, cond_true, cond_false])).symm.trans b10)) rfl (met rfl rfl rfl g17) rfl ca12 rfl rfl .nil rfl rfl rfl rfl rfl ?_
                refine .v rfl rfl (O.pickT g17 rfl rfl rfl) ?_
                refine .v rfl rfl (OpL.move (.inr rfl) rfl) ?_
                refine .nil ?_
                exact toN (Gives.mkR [] (.c rfl (sbb (by simp only [g11, g12, g16, g17, Bool.true_or, Bool.or_true, Bool.false_or, Bool.or_false, Bool.true_and, Bool.and_true, Bool.false_and, Bool.and_false, Bool.not_true, Bool.not_false, cond_true, cond_false])) rfl .n) .n rfl rfl rfl)
              · refine W.pk ?_
                refine .v rfl rfl (OpL.move (.inl rfl) rfl) ?_
                refine .v rfl rfl (OpL.move (.inl rfl) rfl) ?_
                refine .v rfl rfl (OpL.binI rfl rfl rfl rfl) ?_
                refine .v rfl rfl (OpL.move (.inl rfl) rfl) ?_
                refine .v rfl (met rfl rfl rfl g11) (OpL.move (.inl rfl) rfl) ?_
                refine .v rfl (met rfl rfl rfl g11) (OpL.binI rfl rfl rfl rfl) ?_
                refine .v rfl (met rfl rfl rfl g11) (OpL.move (.inl rfl) rfl) ?_
                refine .x rfl (unmet rfl rfl rfl g12) ?_
                refine .x rfl (unmet rfl rfl rfl g12) ?_
                refine .v rfl (met rfl rfl rfl g11) (O.pickF g12 rfl rfl rfl) ?_
                refine .v rfl (met rfl rfl rfl g11) (OpL.move (.inl rfl) rfl) ?_
                refine .v rfl (met rfl rfl rfl rfl) (OpL.move (.inl rfl) rfl) ?_
                refine .v rfl (met rfl rfl rfl rfl) (OpL.binI rfl rfl rfl rfl) ?_
                refine .v rfl (met rfl rfl rfl rfl) (OpL.move (.inl rfl) rfl) ?_
                refine .v rfl (met rfl rfl rfl g16) (OpL.move (.inl rfl) rfl) ?_
                refine .v rfl (met rfl rfl rfl g16) (OpL.move (.inl rfl) rfl) ?_
                refine .v rfl (met rfl rfl rfl g16) (OpL.move (.inl rfl) rfl) ?_
                refine .v rfl (met rfl rfl rfl g16) (OpL.binI rfl rfl rfl rfl) ?_
                refine .v rfl (met rfl rfl rfl g16) (OpL.binI rfl rfl rfl rfl) ?_
                refine .v rfl (met rfl rfl rfl rfl) (O.pickT g16 rfl rfl rfl) ?_
                refine .v rfl (met rfl rfl rfl g11) (O.pickF rfl rfl rfl rfl) ?_
                refine .v rfl rfl (O.pickT g11 rfl rfl rfl) ?_
                refine .v rfl rfl (OpL.move (.inl rfl) rfl) ?_
                refine .x rfl (unmet rfl rfl rfl g17) ?_
                refine .v rfl rfl (O.pickF g17 rfl rfl rfl) ?_
                refine .v rfl rfl (OpL.move (.inr rfl) rfl) ?_
                refine .nil ?_
                exact toN (Gives.mkR [] (.c rfl (sbb (by simp only [g11, g12, g16, g17, Bool.true_or, Bool.or_true, Bool.false_or, Bool.or_false, Bool.true_and, Bool.and_true, Bool.false_and, Bool.and_false, Bool.not_true, Bool.not_false, cond_true, cond_false])) rfl .n) .n rfl rfl rfl)
            · refine W.pk ?_
              refine .v rfl rfl (OpL.move (.inl rfl) rfl) ?_
              refine .v rfl rfl (OpL.move (.inl rfl) rfl) ?_
              refine .v rfl rfl (OpL.binI rfl rfl rfl rfl) ?_
              refine .v rfl rfl (OpL.move (.inl rfl) rfl) ?_
              refine .v rfl (met rfl rfl rfl g11) (OpL.move (.inl rfl) rfl) ?_
              refine .v rfl (met rfl rfl rfl g11) (OpL.binI rfl rfl rfl rfl) ?_
              refine .v rfl (met rfl rfl rfl g11) (OpL.move (.inl rfl) rfl) ?_
              refine .x rfl (unmet rfl rfl rfl g12) ?_
              refine .x rfl (unmet rfl rfl rfl g12) ?_
              refine .v rfl (met rfl rfl rfl g11) (O.pickF g12 rfl rfl rfl) ?_
              refine .v rfl (met rfl rfl rfl g11) (OpL.move (.inl rfl) rfl) ?_
              refine .v rfl (met rfl rfl rfl rfl) (OpL.move (.inl rfl) rfl) ?_
              refine .v rfl (met rfl rfl rfl rfl) (OpL.binI rfl rfl rfl rfl) ?_
              refine .v rfl (met rfl rfl rfl rfl) (OpL.move (.inl rfl) rfl) ?_
              refine .x rfl (unmet rfl rfl rfl g16) ?_
              refine .x rfl (unmet rfl rfl rfl g16) ?_
              refine .x rfl (unmet rfl rfl rfl g16) ?_
              refine .x rfl (unmet rfl rfl rfl g16) ?_
              refine .x rfl (unmet rfl rfl rfl g16) ?_
              refine .v rfl (met rfl rfl rfl rfl) (O.pickF g16 rfl rfl rfl) ?_
              refine .v rfl (met rfl rfl rfl g11) (O.pickF rfl rfl rfl rfl) ?_
              refine .v rfl rfl (O.pickT g11 rfl rfl rfl) ?_
              refine .v rfl rfl (OpL.move (.inl rfl) rfl) ?_
              refine .x rfl (unmet rfl rfl rfl rfl) ?_
              refine .v rfl rfl (O.pickF rfl rfl rfl rfl) ?_
              refine .v rfl rfl (OpL.move (.inr rfl) rfl) ?_
              refine .nil ?_
              exact toN (Gives.mkR [] (.c rfl (sbb (by simp only [g11, g12, g16, Bool.true_or, Bool.or_true, Bool.false_or, Bool.or_false, Bool.true_and, Bool.and_true, Bool.false_and, Bool.and_false, Bool.not_true, Bool.not_false, cond_true, cond_false])) rfl .n) .n rfl rfl rfl)
        · refine W.pk ?_
          refine .v rfl rfl (OpL.move (.inl rfl) rfl) ?_
          refine .v rfl rfl (OpL.move (.inl rfl) rfl) ?_
          refine .v rfl rfl (OpL.binI rfl rfl rfl rfl) ?_
          refine .v rfl rfl (OpL.move (.inl rfl) rfl) ?_
          refine .x rfl (unmet rfl rfl rfl g11) ?_
          refine .x rfl (unmet rfl rfl rfl g11) ?_
          refine .x rfl (unmet rfl rfl rfl g11) ?_
          refine .x rfl (unmetU rfl rfl rfl) ?_
          refine .x rfl (unmetU rfl rfl rfl) ?_
          refine .x rfl (unmet rfl rfl rfl g11) ?_
          refine .x rfl (unmet rfl rfl rfl g11) ?_
          refine .x rfl (unmetU rfl rfl rfl) ?_
          refine .x rfl (unmetU rfl rfl rfl) ?_
          refine .x rfl (unmetU rfl rfl rfl) ?_
          refine .x rfl (unmetU rfl rfl rfl) ?_
          refine .x rfl (unmetU rfl rfl rfl) ?_
          refine .x rfl (unmetU rfl rfl rfl) ?_
          refine .x rfl (unmetU rfl rfl rfl) ?_
          refine .x rfl (unmetU rfl rfl rfl) ?_
          refine .x rfl (unmetU rfl rfl rfl) ?_
          refine .x rfl (unmet rfl rfl rfl g11) ?_
          refine .v rfl rfl (O.pickF g11 rfl rfl rfl) ?_
          refine .v rfl rfl (OpL.move (.inl rfl) rfl) ?_
          refine .x rfl (unmet rfl rfl rfl rfl) ?_
          refine .v rfl rfl (O.pickF rfl rfl rfl rfl) ?_
          refine .v rfl rfl (OpL.move (.inr rfl) rfl) ?_
          refine .nil ?_
          exact toN (Gives.mkR [] (.c rfl (sbb (by simp only [g11, Bool.true_or, Bool.or_true, Bool.false_or, Bool.or_false, Bool.true_and, Bool.and_true, Bool.false_and, Bool.and_false, Bool.not_true, Bool.not_false, cond_true, cond_false])) rfl .n) .n rfl rfl rfl)
  · clear h
    rcases tf (t1.1 != t3.1) with g5 | g5
    · refine W.pk ?_
      refine .v rfl rfl (OpL.move (.inl rfl) rfl) ?_
      refine .v rfl rfl (OpL.move (.inl rfl) rfl) ?_
      refine .v rfl rfl (OpL.binI rfl rfl rfl rfl) ?_
      refine .v rfl rfl (OpL.move (.inl rfl) rfl) ?_
      refine .x rfl (unmet rfl rfl rfl g5) ?_
      refine .x rfl (unmet rfl rfl rfl g5) ?_
      refine .x rfl (unmet rfl rfl rfl g5) ?_
      refine .v rfl rfl (O.pickT g5 rfl rfl rfl) ?_
      refine .nil ?_
      exact toN (Gives.mkR [] (.c rfl (.rfl _) rfl (.c rfl (.rfl _) rfl (.c rfl (.rfl _) rfl (.c rfl (.rfl _) rfl (.c rfl (.rfl _) rfl (.c rfl (.rfl _) rfl (.c rfl (sbb (by simp only [g5, Bool.true_or, Bool.or_true, Bool.false_or, Bool.or_false, Bool.true_and, Bool.and_true, Bool.false_and, Bool.and_false, Bool.not_true, Bool.not_false, cond_true, cond_false])) rfl .n))))))) .n rfl rfl rfl)
    · refine W.pk ?_
      refine .v rfl rfl (OpL.move (.inl rfl) rfl) ?_
      refine .v rfl rfl (OpL.move (.inl rfl) rfl) ?_
      refine .v rfl rfl (OpL.binI rfl rfl rfl rfl) ?_
      refine .v rfl rfl (OpL.move (.inl rfl) rfl) ?_
      refine .v rfl (met rfl rfl rfl g5) (OpL.move (.inl rfl) rfl) ?_
      refine .v rfl (met rfl rfl rfl g5) (OpL.move (.inl rfl) rfl) ?_
      refine .v rfl (met rfl rfl rfl g5) (OpL.binI rfl rfl rfl rfl) ?_
      refine .v rfl rfl (O.pickF g5 rfl rfl rfl) ?_
      refine .nil ?_
      exact toN (Gives.mkR [] (.c rfl (.rfl _) rfl (.c rfl (.rfl _) rfl (.c rfl (.rfl _) rfl (.c rfl (.rfl _) rfl (.c rfl (.rfl _) rfl (.c rfl (.rfl _) rfl (.c rfl (sbb (by simp only [g5, Bool.true_or, Bool.or_true, Bool.false_or, Bool.or_false, Bool.true_and, Bool.and_true, Bool.false_and, Bool.and_false, Bool.not_true, Bool.not_false, cond_true, cond_false])) rfl .n))))))) .n rfl rfl rfl)
end Go.Proofs.Ytipgpnagfmlahaa
