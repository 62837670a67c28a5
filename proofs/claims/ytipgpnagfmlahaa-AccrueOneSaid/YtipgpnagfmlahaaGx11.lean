/- Shows what functions of the program come to, each as a plain function: written by a program of the author's for this claim. -/
import Derived.Test.YtipgpnagfmlahaaGx10
namespace Go.Proofs.Ytipgpnagfmlahaa
open Go Go.Pm
set_option linter.unusedVariables false
set_option linter.unusedSimpArgs false
noncomputable def accrue_Between.f (x0 : Int) (x1 : List api_Reset) (x2 : Int) (x3 : Int) : Option (Int × Int) :=
  (accrue_Run.f x0 x1 x2 x3).bind fun t1 =>
  some (t1.1.Units, t1.2)
set_option maxRecDepth 100000 in
set_option maxHeartbeats 4000000 in
theorem accrue_Between.ok {x0 : Int} {x1 : List api_Reset} {x2 : Int} {x3 : Int} {r : Int × Int} (h : accrue_Between.f x0 x1 x2 x3 = some r) : Pm.Spec prog 23 [.imm (.val (.int .i64 x0)), .xown 50 2 (List.map api_Reset.enc x1), .imm (.val (.int .i64 x2)), .imm (.val (.int .i64 x3))] (.tup [.imm (.val (.int .i64 r.1)), .imm (.val (.int .i64 r.2))]) [none, some (.xown 50 2 (List.map api_Reset.enc x1)), none, none] := by
  unfold accrue_Between.f at h
  refine Pm.Spec.of_body Try.func23 rfl (by kernel_rfl) (Nat.le_of_ble_eq_true rfl) (Nat.le_of_ble_eq_true rfl) ?_
  refine W.ghost (σ' := (mkSt [(0, some (.imm (.val (.int .i64 x0)))), (1, some (.own 0)), (2, some (.imm (.val (.int .i64 x2)))), (3, some (.imm (.val (.int .i64 x3))))] [(0, some (.rows 50 2 (List.map api_Reset.enc x1) false))] 1000)) (Gives.entry (.c rfl (.c rfl (.c rfl (.c rfl .n)))) (.c rfl .n)) ?_
  refine W.seq ?_
  refine W.pk ?_
  refine .v rfl rfl (OpL.move (.inr rfl) rfl) ?_
  refine .v rfl rfl (OpL.move (.inr rfl) rfl) ?_
  refine .nil ?_
  refine W.seq ?_
  obtain ⟨t1, b2, h⟩ := bnd1 h
  refine W.pk ?_
  refine .v rfl rfl (OpL.move (.inl rfl) rfl) ?_
  refine .v rfl rfl (OpL.move (.inl rfl) rfl) ?_
  refine .v rfl rfl (OpL.move (.inl rfl) rfl) ?_
  refine .v rfl rfl (OpL.move (.inl rfl) rfl) ?_
  refine .call (.tup [.agg [.imm (.val (.int .i64 t1.1.Units)), .imm (.val (.int .i64 t1.1.Rest))], .imm (.val (.int .i64 t1.2))]) [(0, some (.rows 50 2 (List.map api_Reset.enc x1) false)), (0, none)] 0 (accrue_Run_v2.ok b2) rfl rfl rfl ca22 rfl rfl (cC (.imm _) (cC (.own _ _ _ _ rfl) (cC (.imm _) (cC (.imm _) .nil)))) rfl rfl rfl rfl rfl ?_
  refine .v rfl rfl (OpL.move (.inl rfl) rfl) ?_
  refine .v rfl rfl (OpL.extract rfl rfl rfl) ?_
  refine .v rfl rfl (OpL.extract rfl rfl rfl) ?_
  refine .t rfl rfl (O.alloc z31 rfl) ?_
  refine .s rfl rfl (O.st ty31 rfl rfl rfl rfl rfl rfl rfl rfl rfl rfl (all' := [.imm (.val (.int .i64 t1.1.Units)), .imm (.val (.int .i64 t1.1.Rest))]) rfl) ?_
  refine .v rfl rfl (OpL.move (.inr rfl) rfl) ?_
  refine .nil ?_
  refine W.seq ?_
  refine W.pk ?_
  refine .v rfl rfl (O.fld fld31_0 rfl rfl rfl) ?_
  refine .v rfl rfl (O.ld ty3 rfl rfl rfl) ?_
  refine .v rfl rfl (OpL.move (.inl rfl) rfl) ?_
  refine .v rfl rfl (OpL.move (.inr rfl) rfl) ?_
  refine .v rfl rfl (OpL.move (.inr rfl) rfl) ?_
  refine .nil ?_
  refine W.ret ?_
  cases h
  exact leaves (.inr rfl) rfl (.tup _ _ _ _ (cC (.imm _) (cC (.imm _) .nil))) (cN (cS (.own _ _ _ _ rfl) (cN (cN .nil)))) rfl rfl

noncomputable def lombardlaw03_AccrueOne.f (x0 : Int) (x1 : Int) (x2 : Int) (x3 : Int) : Option (Bool) :=
  if ((((decide (x3 < 0)) || (decide (x3 > 3660))) || (decide (x2 < 0))) || (decide (x2 > 100000))) = true then
    (lombardlaw03_awake.f).bind fun t5 =>
    some t5
  else
    (accrue_Between.f x0 [(⟨0, x1⟩ : api_Reset)] x2 (IntKind.wrap .i64 (x2 + x3))).bind fun t7 =>
    (accrue_Simple.f x0 x1 x3).bind fun t9 =>
    (if ((t7.2 == t9.2) && (t7.1 == t9.1)) = true then lombardlaw03_awake.f else some default).bind fun t11 =>
    some (((t7.2 == t9.2) && (t7.1 == t9.1)) && t11)
set_option maxRecDepth 100000 in
set_option maxHeartbeats 4000000 in
theorem lombardlaw03_AccrueOne.ok {x0 : Int} {x1 : Int} {x2 : Int} {x3 : Int} {r : Bool} (h : lombardlaw03_AccrueOne.f x0 x1 x2 x3 = some r) : Pm.Spec prog 8 [.imm (.val (.int .i64 x0)), .imm (.val (.int .i64 x1)), .imm (.val (.int .i64 x2)), .imm (.val (.int .i64 x3))] (.imm (.val (.bool r))) [none, none, none, none] := by
  unfold lombardlaw03_AccrueOne.f at h
  refine Pm.Spec.of_body Try.func8 rfl (by kernel_rfl) (Nat.le_of_ble_eq_true rfl) (Nat.le_of_ble_eq_true rfl) ?_
  refine W.ghost (σ' := (mkSt [(0, some (.imm (.val (.int .i64 x0)))), (1, some (.imm (.val (.int .i64 x1)))), (2, some (.imm (.val (.int .i64 x2)))), (3, some (.imm (.val (.int .i64 x3))))] [] 1000)) (Gives.entry (.c rfl (.c rfl (.c rfl (.c rfl .n)))) .n) ?_
  refine W.seq ?_
  refine W.pk ?_
  refine .v rfl rfl (OpL.move (.inr rfl) rfl) ?_
  refine .nil ?_
  refine W.seq ?_
  refine W.seq ?_
  refine W.fork (mkSt [(0, some (.imm (.val (.int .i64 x0)))), (1, some (.imm (.val (.int .i64 x1)))), (2, some (.imm (.val (.int .i64 x2)))), (3, some (.imm (.val (.int .i64 x3)))), (26, some (.imm (.val (.bool ((((decide (x3 < 0)) || (decide (x3 > 3660))) || (decide (x2 < 0))) || (decide (x2 > 100000)))))))] [] 1000) ?_ ?_
  · refine W.cond rfl (fun q4 => ?_) (fun q4 => ?_)
    · have h := ifT q4 h
      refine W.seq ?_
      obtain ⟨t5, b6, h⟩ := bnd1 h
      refine W.pk ?_
      refine .call (.imm (.val (.bool t5))) [] 0 (lombardlaw03_awake.ok b6) rfl rfl rfl ca12 rfl rfl .nil rfl rfl rfl rfl rfl ?_
      refine .v rfl rfl (OpL.move (.inr rfl) rfl) ?_
      refine .nil ?_
      refine W.ret ?_
      cases h
      exact leaves (.inr rfl) rfl (.imm _) (cN (cN (cN (cN .nil)))) rfl rfl
    · have h := ifF q4 h
      refine W.skip ?_
      refine W.seq ?_
      obtain ⟨t7, b8, h⟩ := bnd1 h
      refine W.pk ?_
      refine .v rfl rfl (OpL.move (.inl rfl) rfl) ?_
      refine .v rfl rfl (OpL.move (.inl rfl) rfl) ?_
      refine .v rfl rfl (O.build (out := [.imm (.val (.int .i64 0)), .imm (.val (.int .i64 x1))]) bl50 rfl rfl rfl rfl rfl) ?_
      refine .t rfl rfl (O.lit (enc := api_Reset.enc) (l := [(⟨0, x1⟩ : api_Reset)]) sl40 rfl rfl rfl rfl rfl rfl rfl rfl rfl) ?_
      refine .v rfl rfl (OpL.move (.inl rfl) rfl) ?_
      refine .v rfl rfl (OpL.move (.inl rfl) rfl) ?_
      refine .v rfl rfl (OpL.move (.inl rfl) rfl) ?_
      refine .v rfl rfl (OpL.binI rfl rfl rfl rfl) ?_
      refine .call (.tup [.imm (.val (.int .i64 t7.1)), .imm (.val (.int .i64 t7.2))]) [(1000, some (.rows 50 2 (List.map api_Reset.enc [(⟨0, x1⟩ : api_Reset)]) false)), (1000, none)] 0 (accrue_Between.ok b8) rfl rfl rfl ca23 rfl rfl (cC (.imm _) (cC (.own _ _ _ _ rfl) (cC (.imm _) (cC (.imm _) .nil)))) rfl rfl rfl rfl rfl ?_
      refine .v rfl rfl (OpL.move (.inl rfl) rfl) ?_
      refine .v rfl rfl (OpL.extract rfl rfl rfl) ?_
      refine .v rfl rfl (OpL.extract rfl rfl rfl) ?_
      refine .v rfl rfl (OpL.move (.inr rfl) rfl) ?_
      refine .v rfl rfl (OpL.move (.inr rfl) rfl) ?_
      refine .nil ?_
      refine W.seq ?_
      obtain ⟨t9, b10, h⟩ := bnd1 h
      refine W.pk ?_
      refine .v rfl rfl (OpL.move (.inl rfl) rfl) ?_
      refine .v rfl rfl (OpL.move (.inl rfl) rfl) ?_
      refine .v rfl rfl (OpL.move (.inl rfl) rfl) ?_
      refine .call (.tup [.imm (.val (.int .i64 t9.1)), .imm (.val (.int .i64 t9.2))]) [] 0 (accrue_Simple.ok b10) rfl rfl rfl ca10 rfl rfl (cC (.imm _) (cC (.imm _) (cC (.imm _) .nil))) rfl rfl rfl rfl rfl ?_
      refine .v rfl rfl (OpL.move (.inl rfl) rfl) ?_
      refine .v rfl rfl (OpL.extract rfl rfl rfl) ?_
      refine .v rfl rfl (OpL.extract rfl rfl rfl) ?_
      refine .v rfl rfl (OpL.move (.inr rfl) rfl) ?_
      refine .v rfl rfl (OpL.move (.inr rfl) rfl) ?_
      refine .nil ?_
      refine W.seq ?_
      obtain ⟨t11, b12, h⟩ := bnd1 h
      refine W.fork (mkSt [(8, some (.imm (.val (.bool (((t7.2 == t9.2) && (t7.1 == t9.1)) && t11)))))] [] 1001) ?_ ?_
      · refine W.ret ?_
        cases h
        exact leaves (.inr rfl) rfl (.imm _) (cN (cN (cN (cN .nil)))) rfl rfl
      · clear h
        rcases tf (t7.2 == t9.2) with g13 | g13
        · rcases tf (t7.1 == t9.1) with g14 | g14
          · refine W.pk ?_
            refine .v rfl rfl (OpL.move (.inl rfl) rfl) ?_
            refine .v rfl rfl (OpL.move (.inl rfl) rfl) ?_
            refine .v rfl rfl (OpL.binI rfl rfl rfl rfl) ?_
            refine .v rfl rfl (OpL.move (.inl rfl) rfl) ?_
            refine .v rfl (met rfl rfl rfl g13) (OpL.move (.inl rfl) rfl) ?_
            refine .v rfl (met rfl rfl rfl g13) (OpL.move (.inl rfl) rfl) ?_
            refine .v rfl (met rfl rfl rfl g13) (OpL.binI rfl rfl rfl rfl) ?_
            refine .v rfl rfl (O.pickT g13 rfl rfl rfl) ?_
            refine .v rfl rfl (OpL.move (.inl rfl) rfl) ?_
            refine .call (.imm (.val (.bool t11))) [] 0 (lombardlaw03_awake.ok ((if_pos (by simp only [g13, g14, Bool.true_or, Bool.or_true, Bool.false_or, Bool.or_false, Bool.true_and, Bool.and_true, Bool.false_and, Bool.and_false, Bool.not_true, Bool.not_false, cond_true, cond_false])).symm.trans b12)) rfl (met rfl rfl rfl g14) rfl ca12 rfl rfl .nil rfl rfl rfl rfl rfl ?_
            refine .v rfl rfl (O.pickT g14 rfl rfl rfl) ?_
            refine .v rfl rfl (OpL.move (.inr rfl) rfl) ?_
            refine .nil ?_
            exact toN (Gives.mkR [] (.c rfl (sbb (by simp only [g13, g14, Bool.true_or, Bool.or_true, Bool.false_or, Bool.or_false, Bool.true_and, Bool.and_true, Bool.false_and, Bool.and_false, Bool.not_true, Bool.not_false, cond_true, cond_false])) rfl .n) .n rfl rfl rfl)
          · refine W.pk ?_
            refine .v rfl rfl (OpL.move (.inl rfl) rfl) ?_
            refine .v rfl rfl (OpL.move (.inl rfl) rfl) ?_
            refine .v rfl rfl (OpL.binI rfl rfl rfl rfl) ?_
            refine .v rfl rfl (OpL.move (.inl rfl) rfl) ?_
            refine .v rfl (met rfl rfl rfl g13) (OpL.move (.inl rfl) rfl) ?_
            refine .v rfl (met rfl rfl rfl g13) (OpL.move (.inl rfl) rfl) ?_
            refine .v rfl (met rfl rfl rfl g13) (OpL.binI rfl rfl rfl rfl) ?_
            refine .v rfl rfl (O.pickT g13 rfl rfl rfl) ?_
            refine .v rfl rfl (OpL.move (.inl rfl) rfl) ?_
            refine .x rfl (unmet rfl rfl rfl g14) ?_
            refine .v rfl rfl (O.pickF g14 rfl rfl rfl) ?_
            refine .v rfl rfl (OpL.move (.inr rfl) rfl) ?_
            refine .nil ?_
            exact toN (Gives.mkR [] (.c rfl (sbb (by simp only [g13, g14, Bool.true_or, Bool.or_true, Bool.false_or, Bool.or_false, Bool.true_and, Bool.and_true, Bool.false_and, Bool.and_false, Bool.not_true, Bool.not_false, cond_true, cond_false])) rfl .n) .n rfl rfl rfl)
        · refine W.pk ?_
          refine .v rfl rfl (OpL.move (.inl rfl) rfl) ?_
          refine .v rfl rfl (OpL.move (.inl rfl) rfl) ?_
          refine .v rfl rfl (OpL.binI rfl rfl rfl rfl) ?_
          refine .v rfl rfl (OpL.move (.inl rfl) rfl) ?_
          refine .x rfl (unmet rfl rfl rfl g13) ?_
          refine .x rfl (unmet rfl rfl rfl g13) ?_
          refine .x rfl (unmet rfl rfl rfl g13) ?_
          refine .v rfl rfl (O.pickF g13 rfl rfl rfl) ?_
          refine .v rfl rfl (OpL.move (.inl rfl) rfl) ?_
          refine .x rfl (unmet rfl rfl rfl rfl) ?_
          refine .v rfl rfl (O.pickF rfl rfl rfl rfl) ?_
          refine .v rfl rfl (OpL.move (.inr rfl) rfl) ?_
          refine .nil ?_
          exact toN (Gives.mkR [] (.c rfl (sbb (by simp only [g13, Bool.true_or, Bool.or_true, Bool.false_or, Bool.or_false, Bool.true_and, Bool.and_true, Bool.false_and, Bool.and_false, Bool.not_true, Bool.not_false, cond_true, cond_false])) rfl .n) .n rfl rfl rfl)
  · clear h
    rcases tf (decide (x3 < 0)) with g1 | g1
    · refine W.pk ?_
      refine .v rfl rfl (OpL.move (.inl rfl) rfl) ?_
      refine .v rfl rfl (OpL.binI rfl rfl rfl rfl) ?_
      refine .v rfl rfl (OpL.move (.inl rfl) rfl) ?_
      refine .x rfl (unmet rfl rfl rfl g1) ?_
      refine .x rfl (unmet rfl rfl rfl g1) ?_
      refine .v rfl rfl (O.pickT g1 rfl rfl rfl) ?_
      refine .v rfl rfl (OpL.move (.inl rfl) rfl) ?_
      refine .x rfl (unmet rfl rfl rfl rfl) ?_
      refine .x rfl (unmet rfl rfl rfl rfl) ?_
      refine .v rfl rfl (O.pickT rfl rfl rfl rfl) ?_
      refine .v rfl rfl (OpL.move (.inl rfl) rfl) ?_
      refine .x rfl (unmet rfl rfl rfl rfl) ?_
      refine .x rfl (unmet rfl rfl rfl rfl) ?_
      refine .v rfl rfl (O.pickT rfl rfl rfl rfl) ?_
      refine .nil ?_
      exact toN (Gives.mkR [] (.c rfl (.rfl _) rfl (.c rfl (.rfl _) rfl (.c rfl (.rfl _) rfl (.c rfl (.rfl _) rfl (.c rfl (sbb (by simp only [g1, Bool.true_or, Bool.or_true, Bool.false_or, Bool.or_false, Bool.true_and, Bool.and_true, Bool.false_and, Bool.and_false, Bool.not_true, Bool.not_false, cond_true, cond_false])) rfl .n))))) .n rfl rfl rfl)
    · rcases tf (decide (x3 > 3660)) with g2 | g2
      · refine W.pk ?_
        refine .v rfl rfl (OpL.move (.inl rfl) rfl) ?_
        refine .v rfl rfl (OpL.binI rfl rfl rfl rfl) ?_
        refine .v rfl rfl (OpL.move (.inl rfl) rfl) ?_
        refine .v rfl (met rfl rfl rfl g1) (OpL.move (.inl rfl) rfl) ?_
        refine .v rfl (met rfl rfl rfl g1) (OpL.binI rfl rfl rfl rfl) ?_
        refine .v rfl rfl (O.pickF g1 rfl rfl rfl) ?_
        refine .v rfl rfl (OpL.move (.inl rfl) rfl) ?_
        refine .x rfl (unmet rfl rfl rfl g2) ?_
        refine .x rfl (unmet rfl rfl rfl g2) ?_
        refine .v rfl rfl (O.pickT g2 rfl rfl rfl) ?_
        refine .v rfl rfl (OpL.move (.inl rfl) rfl) ?_
        refine .x rfl (unmet rfl rfl rfl rfl) ?_
        refine .x rfl (unmet rfl rfl rfl rfl) ?_
        refine .v rfl rfl (O.pickT rfl rfl rfl rfl) ?_
        refine .nil ?_
        exact toN (Gives.mkR [] (.c rfl (.rfl _) rfl (.c rfl (.rfl _) rfl (.c rfl (.rfl _) rfl (.c rfl (.rfl _) rfl (.c rfl (sbb (by simp only [g1, g2, Bool.true_or, Bool.or_true, Bool.false_or, Bool.or_false, Bool.true_and, Bool.and_true, Bool.false_and, Bool.and_false, Bool.not_true, Bool.not_false, cond_true, cond_false])) rfl .n))))) .n rfl rfl rfl)
      · rcases tf (decide (x2 < 0)) with g3 | g3
        · refine W.pk ?_
          refine .v rfl rfl (OpL.move (.inl rfl) rfl) ?_
          refine .v rfl rfl (OpL.binI rfl rfl rfl rfl) ?_
          refine .v rfl rfl (OpL.move (.inl rfl) rfl) ?_
          refine .v rfl (met rfl rfl rfl g1) (OpL.move (.inl rfl) rfl) ?_
          refine .v rfl (met rfl rfl rfl g1) (OpL.binI rfl rfl rfl rfl) ?_
          refine .v rfl rfl (O.pickF g1 rfl rfl rfl) ?_
          refine .v rfl rfl (OpL.move (.inl rfl) rfl) ?_
          refine .v rfl (met rfl rfl rfl g2) (OpL.move (.inl rfl) rfl) ?_
          refine .v rfl (met rfl rfl rfl g2) (OpL.binI rfl rfl rfl rfl) ?_
          refine .v rfl rfl (O.pickF g2 rfl rfl rfl) ?_
          refine .v rfl rfl (OpL.move (.inl rfl) rfl) ?_
          refine .x rfl (unmet rfl rfl rfl g3) ?_
          refine .x rfl (unmet rfl rfl rfl g3) ?_
          refine .v rfl rfl (O.pickT g3 rfl rfl rfl) ?_
          refine .nil ?_
          exact toN (Gives.mkR [] (.c rfl (.rfl _) rfl (.c rfl (.rfl _) rfl (.c rfl (.rfl _) rfl (.c rfl (.rfl _) rfl (.c rfl (sbb (by simp only [g1, g2, g3, Bool.true_or, Bool.or_true, Bool.false_or, Bool.or_false, Bool.true_and, Bool.and_true, Bool.false_and, Bool.and_false, Bool.not_true, Bool.not_false, cond_true, cond_false])) rfl .n))))) .n rfl rfl rfl)
        · refine W.pk ?_
          refine .v rfl rfl (OpL.move (.inl rfl) rfl) ?_
          refine .v rfl rfl (OpL.binI rfl rfl rfl rfl) ?_
          refine .v rfl rfl (OpL.move (.inl rfl) rfl) ?_
          refine .v rfl (met rfl rfl rfl g1) (OpL.move (.inl rfl) rfl) ?_
          refine .v rfl (met rfl rfl rfl g1) (OpL.binI rfl rfl rfl rfl) ?_
          refine .v rfl rfl (O.pickF g1 rfl rfl rfl) ?_
          refine .v rfl rfl (OpL.move (.inl rfl) rfl) ?_
          refine .v rfl (met rfl rfl rfl g2) (OpL.move (.inl rfl) rfl) ?_
          refine .v rfl (met rfl rfl rfl g2) (OpL.binI rfl rfl rfl rfl) ?_
          refine .v rfl rfl (O.pickF g2 rfl rfl rfl) ?_
          refine .v rfl rfl (OpL.move (.inl rfl) rfl) ?_
          refine .v rfl (met rfl rfl rfl g3) (OpL.move (.inl rfl) rfl) ?_
          refine .v rfl (met rfl rfl rfl g3) (OpL.binI rfl rfl rfl rfl) ?_
          refine .v rfl rfl (O.pickF g3 rfl rfl rfl) ?_
          refine .nil ?_
          exact toN (Gives.mkR [] (.c rfl (.rfl _) rfl (.c rfl (.rfl _) rfl (.c rfl (.rfl _) rfl (.c rfl (.rfl _) rfl (.c rfl (sbb (by simp only [g1, g2, g3, Bool.true_or, Bool.or_true, Bool.false_or, Bool.or_false, Bool.true_and, Bool.and_true, Bool.false_and, Bool.and_false, Bool.not_true, Bool.not_false, cond_true, cond_false])) rfl .n))))) .n rfl rfl rfl)

set_option maxRecDepth 100000 in
set_option maxHeartbeats 4000000 in
theorem accrue_Between_v2.ok {x0 : Int} {x1 : List api_Reset} {x2 : Int} {x3 : Int} {r : Int × Int} (h : accrue_Between.f x0 x1 x2 x3 = some r) : Pm.Spec prog 23 [.imm (.val (.int .i64 x0)), .imm (.row 2 (List.map api_Reset.enc x1)), .imm (.val (.int .i64 x2)), .imm (.val (.int .i64 x3))] (.tup [.imm (.val (.int .i64 r.1)), .imm (.val (.int .i64 r.2))]) [none, none, none, none] := by
  unfold accrue_Between.f at h
  refine Pm.Spec.of_body Try.func23 rfl (by kernel_rfl) (Nat.le_of_ble_eq_true rfl) (Nat.le_of_ble_eq_true rfl) ?_
  refine W.ghost (σ' := (mkSt [(0, some (.imm (.val (.int .i64 x0)))), (1, some (.imm (.row 2 (List.map api_Reset.enc x1)))), (2, some (.imm (.val (.int .i64 x2)))), (3, some (.imm (.val (.int .i64 x3))))] [] 1000)) (Gives.entry (.c rfl (.c rfl (.c rfl (.c rfl .n)))) .n) ?_
  refine W.seq ?_
  refine W.pk ?_
  refine .v rfl rfl (OpL.move (.inr rfl) rfl) ?_
  refine .v rfl rfl (OpL.move (.inr rfl) rfl) ?_
  refine .nil ?_
  refine W.seq ?_
  obtain ⟨t1, b2, h⟩ := bnd1 h
  refine W.pk ?_
  refine .v rfl rfl (OpL.move (.inl rfl) rfl) ?_
  refine .v rfl rfl (OpL.move (.inl rfl) rfl) ?_
  refine .v rfl rfl (OpL.move (.inl rfl) rfl) ?_
  refine .v rfl rfl (OpL.move (.inl rfl) rfl) ?_
  refine .call (.tup [.agg [.imm (.val (.int .i64 t1.1.Units)), .imm (.val (.int .i64 t1.1.Rest))], .imm (.val (.int .i64 t1.2))]) [] 0 (accrue_Run.ok b2) rfl rfl rfl ca22 rfl rfl (cC (.imm _) (cC (.imm _) (cC (.imm _) (cC (.imm _) .nil)))) rfl rfl rfl rfl rfl ?_
  refine .v rfl rfl (OpL.move (.inl rfl) rfl) ?_
  refine .v rfl rfl (OpL.extract rfl rfl rfl) ?_
  refine .v rfl rfl (OpL.extract rfl rfl rfl) ?_
  refine .t rfl rfl (O.alloc z31 rfl) ?_
  refine .s rfl rfl (O.st ty31 rfl rfl rfl rfl rfl rfl rfl rfl rfl rfl (all' := [.imm (.val (.int .i64 t1.1.Units)), .imm (.val (.int .i64 t1.1.Rest))]) rfl) ?_
  refine .v rfl rfl (OpL.move (.inr rfl) rfl) ?_
  refine .nil ?_
  refine W.seq ?_
  refine W.pk ?_
  refine .v rfl rfl (O.fld fld31_0 rfl rfl rfl) ?_
  refine .v rfl rfl (O.ld ty3 rfl rfl rfl) ?_
  refine .v rfl rfl (OpL.move (.inl rfl) rfl) ?_
  refine .v rfl rfl (OpL.move (.inr rfl) rfl) ?_
  refine .v rfl rfl (OpL.move (.inr rfl) rfl) ?_
  refine .nil ?_
  refine W.ret ?_
  cases h
  exact leaves (.inr rfl) rfl (.tup _ _ _ _ (cC (.imm _) (cC (.imm _) .nil))) (cN (cN (cN (cN .nil)))) rfl rfl

noncomputable def lombardref03_Between.b0 (x1 : List api_Reset) (x2 : Int) (x3 : Int) (v37 : Int) (v38 : Int) : Option ((Int × Int) ⊕ Int) :=
  if (decide (v38 < (List.length x1 : Int))) = true then
    if (0 : Int) ≤ v38 ∧ v38 < (List.length x1 : Int) then
    if ((decide ((IntKind.wrap .i64 (v38 + 1)) < (List.length x1 : Int))) = true → (0 : Int) ≤ (IntKind.wrap .i64 (v38 + 1)) ∧ (IntKind.wrap .i64 (v38 + 1)) < (List.length x1 : Int)) then
    ((
      if ((decide ((IntKind.wrap .i64 (v38 + 1)) < (List.length x1 : Int))) && (decide (((nth x1 (IntKind.wrap .i64 (v38 + 1))).Day) < x3))) = true then
        if (0 : Int) ≤ (IntKind.wrap .i64 (v38 + 1)) ∧ (IntKind.wrap .i64 (v38 + 1)) < (List.length x1 : Int) then
        some ((nth x1 (IntKind.wrap .i64 (v38 + 1))).Day)
        else none
      else
        some x3 : Option (Int))).bind fun o86 =>
    ((
      if (decide (((nth x1 v38).Day) < x2)) = true then
        some x2
      else
        some ((nth x1 v38).Day) : Option (Int))).bind fun o92 =>
    if (decide (o86 > o92)) = true then
      if (0 : Int) ≤ v38 ∧ v38 < (List.length x1 : Int) then
      some (.inl ((IntKind.wrap .i64 (v37 + (IntKind.wrap .i64 (((nth x1 v38).Rate) * (IntKind.wrap .i64 (o86 - o92)))))), (IntKind.wrap .i64 (v38 + 1))))
      else none
    else
      some (.inl (v37, (IntKind.wrap .i64 (v38 + 1))))
    else none
    else none
  else
    some (.inr v37)
noncomputable def lombardref03_Between.r0 (x1 : List api_Reset) (x2 : Int) (x3 : Int) (s : Int × Int) : Option ((Int × Int) ⊕ Int) := lombardref03_Between.b0 x1 x2 x3 s.1 s.2
noncomputable def lombardref03_Between.f (x0 : Int) (x1 : List api_Reset) (x2 : Int) (x3 : Int) : Option (Int × Int) :=
  (lombardref03_Check.f x1).bind fun t1 =>
  if (t1 != 0) = true then
    (lombardref03_Check.f x1).bind fun t4 =>
    some (0, t4)
  else
    (lombardref02_Good.f x2).bind fun t6 =>
    (if (!t6) = false then lombardref02_Good.f x3 else some default).bind fun t8 =>
    if (((((!t6) || (!t8)) || (decide (x2 > x3))) || (decide ((IntKind.wrap .i64 (x3 - x2)) > 3660))) = false → (0 : Int) ≤ 0 ∧ 0 < (List.length x1 : Int)) then
    if (((((!t6) || (!t8)) || (decide (x2 > x3))) || (decide ((IntKind.wrap .i64 (x3 - x2)) > 3660))) || (decide (x2 < ((nth x1 0).Day)))) = true then
      some (0, 10)
    else
      (lombardref03_Amount.f x0).bind fun t16 =>
      if (!t16) = true then
        some (0, 1)
      else
        (loop (lombardref03_Between.r0 x1 x2 x3) (0, 0)).bind fun o76 =>
        (lombardref01_MulDiv.f x0 o76 360000000 1).bind fun t97 =>
        some (t97.1, t97.2)
    else none
set_option maxRecDepth 100000 in
set_option maxHeartbeats 4000000 in
theorem lombardref03_Between.ok {x0 : Int} {x1 : List api_Reset} {x2 : Int} {x3 : Int} {r : Int × Int} (h : lombardref03_Between.f x0 x1 x2 x3 = some r) : Pm.Spec prog 24 [.imm (.val (.int .i64 x0)), .imm (.row 2 (List.map api_Reset.enc x1)), .imm (.val (.int .i64 x2)), .imm (.val (.int .i64 x3))] (.tup [.imm (.val (.int .i64 r.1)), .imm (.val (.int .i64 r.2))]) [none, none, none, none] := by
  unfold lombardref03_Between.f at h
  refine Pm.Spec.of_body Try.func24 rfl (by kernel_rfl) (Nat.le_of_ble_eq_true rfl) (Nat.le_of_ble_eq_true rfl) ?_
  refine W.ghost (σ' := (mkSt [(0, some (.imm (.val (.int .i64 x0)))), (1, some (.imm (.row 2 (List.map api_Reset.enc x1)))), (2, some (.imm (.val (.int .i64 x2)))), (3, some (.imm (.val (.int .i64 x3))))] [] 1000)) (Gives.entry (.c rfl (.c rfl (.c rfl (.c rfl .n)))) .n) ?_
  refine W.seq ?_
  refine W.pk ?_
  refine .v rfl rfl (OpL.move (.inr rfl) rfl) ?_
  refine .v rfl rfl (OpL.move (.inr rfl) rfl) ?_
  refine .nil ?_
  refine W.seq ?_
  refine W.seq ?_
  obtain ⟨t1, b2, h⟩ := bnd1 h
  refine W.pk ?_
  refine .v rfl rfl (OpL.move (.inl rfl) rfl) ?_
  refine .call (.imm (.val (.int .i64 t1))) [] 0 (lombardref03_Check.ok b2) rfl rfl rfl ca19 rfl rfl (cC (.imm _) .nil) rfl rfl rfl rfl rfl ?_
  refine .v rfl rfl (OpL.binI rfl rfl rfl rfl) ?_
  refine .nil ?_
  refine W.cond rfl (fun q3 => ?_) (fun q3 => ?_)
  · have h := ifT q3 h
    refine W.seq ?_
    obtain ⟨t4, b5, h⟩ := bnd1 h
    refine W.pk ?_
    refine .v rfl rfl (OpL.move (.inl rfl) rfl) ?_
    refine .call (.imm (.val (.int .i64 t4))) [] 0 (lombardref03_Check.ok b5) rfl rfl rfl ca19 rfl rfl (cC (.imm _) .nil) rfl rfl rfl rfl rfl ?_
    refine .v rfl rfl (OpL.move (.inr rfl) rfl) ?_
    refine .v rfl rfl (OpL.move (.inr rfl) rfl) ?_
    refine .nil ?_
    refine W.ret ?_
    cases h
    exact leaves (.inr rfl) rfl (.tup _ _ _ _ (cC (.imm _) (cC (.imm _) .nil))) (cN (cN (cN (cN .nil)))) rfl rfl
  · have h := ifF q3 h
    refine W.skip ?_
    refine W.seq ?_
    refine W.seq ?_
    obtain ⟨t6, b7, h⟩ := bnd1 h
    obtain ⟨t8, b9, h⟩ := bnd1 h
    obtain ⟨c10, h⟩ := chk h
    refine W.fork (mkSt [(0, some (.imm (.val (.int .i64 x0)))), (1, some (.imm (.row 2 (List.map api_Reset.enc x1)))), (2, some (.imm (.val (.int .i64 x2)))), (3, some (.imm (.val (.int .i64 x3)))), (45, some (.imm (.val (.bool (((((!t6) || (!t8)) || (decide (x2 > x3))) || (decide ((IntKind.wrap .i64 (x3 - x2)) > 3660))) || (decide (x2 < ((nth x1 0).Day))))))))] [] 1000) ?_ ?_
    · refine W.cond rfl (fun q15 => ?_) (fun q15 => ?_)
      · have h := ifT q15 h
        refine W.seq ?_
        refine W.pk ?_
        refine .v rfl rfl (OpL.move (.inr rfl) rfl) ?_
        refine .v rfl rfl (OpL.move (.inr rfl) rfl) ?_
        refine .nil ?_
        refine W.ret ?_
        cases h
        exact leaves (.inr rfl) rfl (.tup _ _ _ _ (cC (.imm _) (cC (.imm _) .nil))) (cN (cN (cN (cN .nil)))) rfl rfl
      · have h := ifF q15 h
        refine W.skip ?_
        refine W.seq ?_
        refine W.seq ?_
        obtain ⟨t16, b17, h⟩ := bnd1 h
        refine W.pk ?_
        refine .v rfl rfl (OpL.move (.inl rfl) rfl) ?_
        refine .call (.imm (.val (.bool t16))) [] 0 (lombardref03_Amount.ok b17) rfl rfl rfl ca28 rfl rfl (cC (.imm _) .nil) rfl rfl rfl rfl rfl ?_
        refine .v rfl rfl (OpL.unV rfl rfl rfl) ?_
        refine .nil ?_
        refine W.cond rfl (fun q18 => ?_) (fun q18 => ?_)
        · have h := ifT q18 h
          refine W.seq ?_
          refine W.pk ?_
          refine .v rfl rfl (OpL.move (.inr rfl) rfl) ?_
          refine .v rfl rfl (OpL.move (.inr rfl) rfl) ?_
          refine .nil ?_
          refine W.ret ?_
          cases h
          exact leaves (.inr rfl) rfl (.tup _ _ _ _ (cC (.imm _) (cC (.imm _) .nil))) (cN (cN (cN (cN .nil)))) rfl rfl
        · have h := ifF q18 h
          refine W.skip ?_
          refine W.seq ?_
          refine W.pk ?_
          refine .v rfl rfl (OpL.move (.inr rfl) rfl) ?_
          refine .nil ?_
          refine W.seq ?_
          refine W.seq ?_
          refine W.pk ?_
          refine .v rfl rfl (OpL.move (.inr rfl) rfl) ?_
          refine .nil ?_
          obtain ⟨o76, b77, h⟩ := bnd1 h
          refine W.fork (mkSt [(0, some (.imm (.val (.int .i64 x0)))), (10, some (.imm (.val (.int .i64 o76))))] [] 1000) ?_ ?_
          · refine W.seq ?_
            obtain ⟨t97, b98, h⟩ := bnd1 h
            refine W.pk ?_
            refine .v rfl rfl (OpL.move (.inl rfl) rfl) ?_
            refine .v rfl rfl (OpL.move (.inl rfl) rfl) ?_
            refine .call (.tup [.imm (.val (.int .i64 t97.1)), .imm (.val (.int .i64 t97.2))]) [] 0 (lombardref01_MulDiv.ok b98) rfl rfl rfl ca17 rfl rfl (cC (.imm _) (cC (.imm _) (cC (.imm _) (cC (.imm _) .nil)))) rfl rfl rfl rfl rfl ?_
            refine .v rfl rfl (OpL.extract rfl rfl rfl) ?_
            refine .v rfl rfl (OpL.extract rfl rfl rfl) ?_
            refine .v rfl rfl (OpL.move (.inr rfl) rfl) ?_
            refine .v rfl rfl (OpL.move (.inr rfl) rfl) ?_
            refine .nil ?_
            refine W.ret ?_
            cases h
            exact leaves (.inr rfl) rfl (.tup _ _ _ _ (cC (.imm _) (cC (.imm _) .nil))) (cN (cN (cN (cN .nil)))) rfl rfl
          · clear h
            refine W.block ?_
            refine W.loopF (fun (s_ : Int × Int) => mkSt [(0, some (.imm (.val (.int .i64 x0)))), (1, some (.imm (.row 2 (List.map api_Reset.enc x1)))), (2, some (.imm (.val (.int .i64 x2)))), (3, some (.imm (.val (.int .i64 x3)))), (10, some (.imm (.val (.int .i64 s_.1)))), (11, some (.imm (.val (.int .i64 s_.2))))] [] 1000) b77 (Gives.mkR [] (.c rfl (.rfl _) rfl (.c rfl (.rfl _) rfl (.c rfl (.rfl _) rfl (.c rfl (.rfl _) rfl (.c rfl (.rfl _) rfl (.c rfl (.rfl _) rfl .n)))))) .n rfl rfl rfl) ?_
            rintro ⟨v37, v38⟩ s_ hr
            have h : lombardref03_Between.b0 x1 x2 x3 v37 v38 = some s_ := hr
            unfold lombardref03_Between.b0 at h
            refine W.seq ?_
            refine W.seq ?_
            refine W.pk ?_
            refine .v rfl rfl (OpL.move (.inl rfl) rfl) ?_
            refine .v rfl rfl (OpL.move (.inl rfl) rfl) ?_
            refine .v rfl rfl (O.lenR sl40 rfl rfl) ?_
            refine .v rfl rfl (OpL.binI rfl rfl rfl rfl) ?_
            refine .nil ?_
            refine W.cond rfl (fun q79 => ?_) (fun q79 => ?_)
            · have h := ifT q79 h
              refine W.skip ?_
              refine W.seq ?_
              refine W.block ?_
              refine W.seq ?_
              obtain ⟨c80, h⟩ := chk h
              refine W.pk ?_
              refine .v rfl rfl (OpL.move (.inl rfl) rfl) ?_
              refine .v rfl rfl (OpL.move (.inl rfl) rfl) ?_
              refine .v rfl rfl (O.idx sl40 c80 rfl rfl rfl) ?_
              refine .v rfl rfl (O.fld fld50_0 rfl rfl rfl) ?_
              refine .v rfl rfl (O.ld ty3 rfl rfl rfl) ?_
              refine .v rfl rfl (OpL.move (.inl rfl) rfl) ?_
              refine .v rfl rfl (OpL.move (.inr rfl) rfl) ?_
              refine .v rfl rfl (OpL.move (.inr rfl) rfl) ?_
              refine .nil ?_
              refine W.seq ?_
              refine W.seq ?_
              obtain ⟨c81, h⟩ := chk h
              refine W.fork (mkSt [(0, some (.imm (.val (.int .i64 x0)))), (1, some (.imm (.row 2 (List.map api_Reset.enc x1)))), (2, some (.imm (.val (.int .i64 x2)))), (3, some (.imm (.val (.int .i64 x3)))), (10, some (.imm (.val (.int .i64 v37)))), (11, some (.imm (.val (.int .i64 v38)))), (12, some (.imm (.val (.int .i64 ((nth x1 v38).Day))))), (13, some (.imm (.val (.int .i64 x3)))), (75, some (.imm (.val (.bool ((decide ((IntKind.wrap .i64 (v38 + 1)) < (List.length x1 : Int))) && (decide (((nth x1 (IntKind.wrap .i64 (v38 + 1))).Day) < x3)))))))] [] 1000) ?_ ?_
              · obtain ⟨o86, b87, h⟩ := bnd1 h
                refine W.fork (mkSt [(0, some (.imm (.val (.int .i64 x0)))), (1, some (.imm (.row 2 (List.map api_Reset.enc x1)))), (2, some (.imm (.val (.int .i64 x2)))), (3, some (.imm (.val (.int .i64 x3)))), (10, some (.imm (.val (.int .i64 v37)))), (11, some (.imm (.val (.int .i64 v38)))), (12, some (.imm (.val (.int .i64 ((nth x1 v38).Day))))), (13, some (.imm (.val (.int .i64 o86))))] [] 1000) ?_ ?_
                · refine W.seq ?_
                  refine W.seq ?_
                  refine W.pk ?_
                  refine .v rfl rfl (OpL.move (.inl rfl) rfl) ?_
                  refine .v rfl rfl (OpL.move (.inl rfl) rfl) ?_
                  refine .v rfl rfl (OpL.binI rfl rfl rfl rfl) ?_
                  refine .nil ?_
                  obtain ⟨o92, b93, h⟩ := bnd1 h
                  refine W.fork (mkSt [(0, some (.imm (.val (.int .i64 x0)))), (1, some (.imm (.row 2 (List.map api_Reset.enc x1)))), (2, some (.imm (.val (.int .i64 x2)))), (3, some (.imm (.val (.int .i64 x3)))), (10, some (.imm (.val (.int .i64 v37)))), (11, some (.imm (.val (.int .i64 v38)))), (12, some (.imm (.val (.int .i64 o92)))), (13, some (.imm (.val (.int .i64 o86))))] [] 1000) ?_ ?_
                  · refine W.seq ?_
                    refine W.pk ?_
                    refine .v rfl rfl (OpL.move (.inl rfl) rfl) ?_
                    refine .v rfl rfl (OpL.move (.inl rfl) rfl) ?_
                    refine .v rfl rfl (OpL.binI rfl rfl rfl rfl) ?_
                    refine .nil ?_
                    refine W.cond rfl (fun q95 => ?_) (fun q95 => ?_)
                    · have h := ifT q95 h
                      obtain ⟨c96, h⟩ := chk h
                      refine W.pk ?_
                      refine .v rfl rfl (OpL.move (.inl rfl) rfl) ?_
                      refine .v rfl rfl (OpL.move (.inl rfl) rfl) ?_
                      refine .v rfl rfl (OpL.move (.inl rfl) rfl) ?_
                      refine .v rfl rfl (O.idx sl40 c96 rfl rfl rfl) ?_
                      refine .v rfl rfl (O.fld fld50_1 rfl rfl rfl) ?_
                      refine .v rfl rfl (O.ld ty3 rfl rfl rfl) ?_
                      refine .v rfl rfl (OpL.move (.inl rfl) rfl) ?_
                      refine .v rfl rfl (OpL.move (.inl rfl) rfl) ?_
                      refine .v rfl rfl (OpL.binI rfl rfl rfl rfl) ?_
                      refine .v rfl rfl (OpL.binI rfl rfl rfl rfl) ?_
                      refine .v rfl rfl (OpL.binI rfl rfl rfl rfl) ?_
                      refine .v rfl rfl (OpL.move (.inr rfl) rfl) ?_
                      refine .nil ?_
                      refine W.pk ?_
                      refine .v rfl rfl (OpL.move (.inl rfl) rfl) ?_
                      refine .v rfl rfl (OpL.binI rfl rfl rfl rfl) ?_
                      refine .v rfl rfl (OpL.move (.inr rfl) rfl) ?_
                      refine .nil ?_
                      cases h
                      exact rdN (Gives.mkR [] (.c rfl (.rfl _) rfl (.c rfl (.rfl _) rfl (.c rfl (.rfl _) rfl (.c rfl (.rfl _) rfl (.c rfl (.rfl _) rfl (.c rfl (.rfl _) rfl .n)))))) .n rfl rfl rfl)
                    · have h := ifF q95 h
                      refine W.skip ?_
                      refine W.pk ?_
                      refine .v rfl rfl (OpL.move (.inl rfl) rfl) ?_
                      refine .v rfl rfl (OpL.binI rfl rfl rfl rfl) ?_
                      refine .v rfl rfl (OpL.move (.inr rfl) rfl) ?_
                      refine .nil ?_
                      cases h
                      exact rdN (Gives.mkR [] (.c rfl (.rfl _) rfl (.c rfl (.rfl _) rfl (.c rfl (.rfl _) rfl (.c rfl (.rfl _) rfl (.c rfl (.rfl _) rfl (.c rfl (.rfl _) rfl .n)))))) .n rfl rfl rfl)
                  · clear h
                    have h := b93
                    refine W.cond rfl (fun q94 => ?_) (fun q94 => ?_)
                    · have h := ifT q94 h
                      refine W.pk ?_
                      refine .v rfl rfl (OpL.move (.inl rfl) rfl) ?_
                      refine .v rfl rfl (OpL.move (.inr rfl) rfl) ?_
                      refine .nil ?_
                      cases h
                      exact toN (Gives.mkR [] (.c rfl (.rfl _) rfl (.c rfl (.rfl _) rfl (.c rfl (.rfl _) rfl (.c rfl (.rfl _) rfl (.c rfl (.rfl _) rfl (.c rfl (.rfl _) rfl (.c rfl (.rfl _) rfl (.c rfl (.rfl _) rfl .n)))))))) .n rfl rfl rfl)
                    · have h := ifF q94 h
                      refine W.skip ?_
                      cases h
                      exact toN (Gives.mkR [] (.c rfl (.rfl _) rfl (.c rfl (.rfl _) rfl (.c rfl (.rfl _) rfl (.c rfl (.rfl _) rfl (.c rfl (.rfl _) rfl (.c rfl (.rfl _) rfl (.c rfl (.rfl _) rfl (.c rfl (.rfl _) rfl .n)))))))) .n rfl rfl rfl)
                · clear h
                  have h := b87
                  refine W.cond rfl (fun q88 => ?_) (fun q88 => ?_)
                  · have h := ifT q88 h
                    obtain ⟨c89, h⟩ := chk h
                    refine W.pk ?_
                    refine .v rfl rfl (OpL.move (.inl rfl) rfl) ?_
                    refine .v rfl rfl (OpL.move (.inl rfl) rfl) ?_
                    refine .v rfl rfl (OpL.binI rfl rfl rfl rfl) ?_
                    refine .v rfl rfl (O.idx sl40 c89 rfl rfl rfl) ?_
                    refine .v rfl rfl (O.fld fld50_0 rfl rfl rfl) ?_
                    refine .v rfl rfl (O.ld ty3 rfl rfl rfl) ?_
                    refine .v rfl rfl (OpL.move (.inr rfl) rfl) ?_
                    refine .nil ?_
                    cases h
                    exact toN (Gives.mkR [] (.c rfl (.rfl _) rfl (.c rfl (.rfl _) rfl (.c rfl (.rfl _) rfl (.c rfl (.rfl _) rfl (.c rfl (.rfl _) rfl (.c rfl (.rfl _) rfl (.c rfl (.rfl _) rfl (.c rfl (.rfl _) rfl .n)))))))) .n rfl rfl rfl)
                  · have h := ifF q88 h
                    refine W.skip ?_
                    cases h
                    exact toN (Gives.mkR [] (.c rfl (.rfl _) rfl (.c rfl (.rfl _) rfl (.c rfl (.rfl _) rfl (.c rfl (.rfl _) rfl (.c rfl (.rfl _) rfl (.c rfl (.rfl _) rfl (.c rfl (.rfl _) rfl (.c rfl (.rfl _) rfl .n)))))))) .n rfl rfl rfl)
              · clear h
                rcases tf (decide ((IntKind.wrap .i64 (v38 + 1)) < (List.length x1 : Int))) with g82 | g82
                · refine W.pk ?_
                  refine .v rfl rfl (OpL.move (.inl rfl) rfl) ?_
                  refine .v rfl rfl (OpL.binI rfl rfl rfl rfl) ?_
                  refine .v rfl rfl (OpL.move (.inl rfl) rfl) ?_
                  refine .v rfl rfl (O.lenR sl40 rfl rfl) ?_
                  refine .v rfl rfl (OpL.binI rfl rfl rfl rfl) ?_
                  refine .v rfl rfl (OpL.move (.inl rfl) rfl) ?_
                  refine .v rfl (met rfl rfl rfl g82) (OpL.move (.inl rfl) rfl) ?_
                  refine .v rfl (met rfl rfl rfl g82) (OpL.move (.inl rfl) rfl) ?_
                  refine .v rfl (met rfl rfl rfl g82) (OpL.binI rfl rfl rfl rfl) ?_
                  refine .v rfl (met rfl rfl rfl g82) (O.idx sl40 (c81 (by simp only [g82, Bool.true_or, Bool.or_true, Bool.false_or, Bool.or_false, Bool.true_and, Bool.and_true, Bool.false_and, Bool.and_false, Bool.not_true, Bool.not_false, cond_true, cond_false])) rfl rfl rfl) ?_
                  refine .v rfl (met rfl rfl rfl g82) (O.fld fld50_0 rfl rfl rfl) ?_
                  refine .v rfl (met rfl rfl rfl g82) (O.ld ty3 rfl rfl rfl) ?_
                  refine .v rfl (met rfl rfl rfl g82) (OpL.move (.inl rfl) rfl) ?_
                  refine .v rfl (met rfl rfl rfl g82) (OpL.binI rfl rfl rfl rfl) ?_
                  refine .v rfl rfl (O.pickT g82 rfl rfl rfl) ?_
                  refine .nil ?_
                  exact toN (Gives.mkR [] (.c rfl (.rfl _) rfl (.c rfl (.rfl _) rfl (.c rfl (.rfl _) rfl (.c rfl (.rfl _) rfl (.c rfl (.rfl _) rfl (.c rfl (.rfl _) rfl (.c rfl (.rfl _) rfl (.c rfl (.rfl _) rfl (.c rfl (sbb (by simp only [g82, Bool.true_or, Bool.or_true, Bool.false_or, Bool.or_false, Bool.true_and, Bool.and_true, Bool.false_and, Bool.and_false, Bool.not_true, Bool.not_false, cond_true, cond_false])) rfl .n))))))))) .n rfl rfl rfl)
                · refine W.pk ?_
                  refine .v rfl rfl (OpL.move (.inl rfl) rfl) ?_
                  refine .v rfl rfl (OpL.binI rfl rfl rfl rfl) ?_
                  refine .v rfl rfl (OpL.move (.inl rfl) rfl) ?_
                  refine .v rfl rfl (O.lenR sl40 rfl rfl) ?_
                  refine .v rfl rfl (OpL.binI rfl rfl rfl rfl) ?_
                  refine .v rfl rfl (OpL.move (.inl rfl) rfl) ?_
                  refine .x rfl (unmet rfl rfl rfl g82) ?_
                  refine .x rfl (unmet rfl rfl rfl g82) ?_
                  refine .x rfl (unmet rfl rfl rfl g82) ?_
                  refine .x rfl (unmet rfl rfl rfl g82) ?_
                  refine .x rfl (unmet rfl rfl rfl g82) ?_
                  refine .x rfl (unmet rfl rfl rfl g82) ?_
                  refine .x rfl (unmet rfl rfl rfl g82) ?_
                  refine .x rfl (unmet rfl rfl rfl g82) ?_
                  refine .v rfl rfl (O.pickF g82 rfl rfl rfl) ?_
                  refine .nil ?_
                  exact toN (Gives.mkR [] (.c rfl (.rfl _) rfl (.c rfl (.rfl _) rfl (.c rfl (.rfl _) rfl (.c rfl (.rfl _) rfl (.c rfl (.rfl _) rfl (.c rfl (.rfl _) rfl (.c rfl (.rfl _) rfl (.c rfl (.rfl _) rfl (.c rfl (sbb (by simp only [g82, Bool.true_or, Bool.or_true, Bool.false_or, Bool.or_false, Bool.true_and, Bool.and_true, Bool.false_and, Bool.and_false, Bool.not_true, Bool.not_false, cond_true, cond_false])) rfl .n))))))))) .n rfl rfl rfl)
            · have h := ifF q79 h
              refine W.exit ?_
              cases h
              refine rdX fun e_ => ?_
              subst e_
              refine hit ?_
              exact toN (Gives.mkR [] (.c rfl (.rfl _) rfl (.c rfl (.rfl _) rfl .n)) .n rfl rfl rfl)
    · clear h
      rcases tf t6 with g11 | g11
      · rcases tf t8 with g12 | g12
        · rcases tf (decide (x2 > x3)) with g13 | g13
          · refine W.pk ?_
            refine .v rfl rfl (OpL.move (.inl rfl) rfl) ?_
            refine .call (.imm (.val (.bool t6))) [] 0 (lombardref02_Good.ok b7) rfl rfl rfl ca42 rfl rfl (cC (.imm _) .nil) rfl rfl rfl rfl rfl ?_
            refine .v rfl rfl (OpL.unV rfl rfl rfl) ?_
            refine .v rfl rfl (OpL.move (.inl rfl) rfl) ?_
            refine .v rfl (met rfl rfl rfl (notT g11)) (OpL.move (.inl rfl) rfl) ?_
            refine .call (.imm (.val (.bool t8))) [] 0 (lombardref02_Good.ok ((if_pos (by simp only [g11, g12, g13, Bool.true_or, Bool.or_true, Bool.false_or, Bool.or_false, Bool.true_and, Bool.and_true, Bool.false_and, Bool.and_false, Bool.not_true, Bool.not_false, cond_true, cond_false])).symm.trans b9)) rfl (met rfl rfl rfl (notT g11)) rfl ca42 rfl rfl (cC (.imm _) .nil) rfl rfl rfl rfl rfl ?_
            refine .v rfl (met rfl rfl rfl (notT g11)) (OpL.unV rfl rfl rfl) ?_
            refine .v rfl rfl (O.pickF (notT g11) rfl rfl rfl) ?_
            refine .v rfl rfl (OpL.move (.inl rfl) rfl) ?_
            refine .v rfl (met rfl rfl rfl (notT g12)) (OpL.move (.inl rfl) rfl) ?_
            refine .v rfl (met rfl rfl rfl (notT g12)) (OpL.move (.inl rfl) rfl) ?_
            refine .v rfl (met rfl rfl rfl (notT g12)) (OpL.binI rfl rfl rfl rfl) ?_
            refine .v rfl rfl (O.pickF (notT g12) rfl rfl rfl) ?_
            refine .v rfl rfl (OpL.move (.inl rfl) rfl) ?_
            refine .x rfl (unmet rfl rfl rfl g13) ?_
            refine .x rfl (unmet rfl rfl rfl g13) ?_
            refine .x rfl (unmet rfl rfl rfl g13) ?_
            refine .x rfl (unmet rfl rfl rfl g13) ?_
            refine .v rfl rfl (O.pickT g13 rfl rfl rfl) ?_
            refine .v rfl rfl (OpL.move (.inl rfl) rfl) ?_
            refine .x rfl (unmet rfl rfl rfl rfl) ?_
            refine .x rfl (unmet rfl rfl rfl rfl) ?_
            refine .x rfl (unmet rfl rfl rfl rfl) ?_
            refine .x rfl (unmet rfl rfl rfl rfl) ?_
            refine .x rfl (unmet rfl rfl rfl rfl) ?_
            refine .x rfl (unmet rfl rfl rfl rfl) ?_
            refine .v rfl rfl (O.pickT rfl rfl rfl rfl) ?_
            refine .nil ?_
            exact toN (Gives.mkR [] (.c rfl (.rfl _) rfl (.c rfl (.rfl _) rfl (.c rfl (.rfl _) rfl (.c rfl (.rfl _) rfl (.c rfl (sbb (by simp only [g11, g12, g13, Bool.true_or, Bool.or_true, Bool.false_or, Bool.or_false, Bool.true_and, Bool.and_true, Bool.false_and, Bool.and_false, Bool.not_true, Bool.not_false, cond_true, cond_false])) rfl .n))))) .n rfl rfl rfl)
          · rcases tf (decide ((IntKind.wrap .i64 (x3 - x2)) > 3660)) with g14 | g14
            · refine W.pk ?_
              refine .v rfl rfl (OpL.move (.inl rfl) rfl) ?_
              refine .call (.imm (.val (.bool t6))) [] 0 (lombardref02_Good.ok b7) rfl rfl rfl ca42 rfl rfl (cC (.imm _) .nil) rfl rfl rfl rfl rfl ?_
              refine .v rfl rfl (OpL.unV rfl rfl rfl) ?_
              refine .v rfl rfl (OpL.move (.inl rfl) rfl) ?_
              refine .v rfl (met rfl rfl rfl (notT g11)) (OpL.move (.inl rfl) rfl) ?_
              refine .call (.imm (.val (.bool t8))) [] 0 (lombardref02_Good.ok ((if_pos (by simp only [g11, g12, g13, g14, Bool.true_or, Bool.or_true, Bool.false_or, Bool.or_false, Bool.true_and, Bool.and_true, Bool.false_and, Bool.and_false, Bool.not_true, Bool.not_false, cond_true, cond_false])).symm.trans b9)) rfl (met rfl rfl rfl (notT g11)) rfl ca42 rfl rfl (cC (.imm _) .nil) rfl rfl rfl rfl rfl ?_
              refine .v rfl (met rfl rfl rfl (notT g11)) (OpL.unV rfl rfl rfl) ?_
              refine .v rfl rfl (O.pickF (notT g11) rfl rfl rfl) ?_
              refine .v rfl rfl (OpL.move (.inl rfl) rfl) ?_
              refine .v rfl (met rfl rfl rfl (notT g12)) (OpL.move (.inl rfl) rfl) ?_
              refine .v rfl (met rfl rfl rfl (notT g12)) (OpL.move (.inl rfl) rfl) ?_
              refine .v rfl (met rfl rfl rfl (notT g12)) (OpL.binI rfl rfl rfl rfl) ?_
              refine .v rfl rfl (O.pickF (notT g12) rfl rfl rfl) ?_
              refine .v rfl rfl (OpL.move (.inl rfl) rfl) ?_
              refine .v rfl (met rfl rfl rfl g13) (OpL.move (.inl rfl) rfl) ?_
              refine .v rfl (met rfl rfl rfl g13) (OpL.move (.inl rfl) rfl) ?_
              refine .v rfl (met rfl rfl rfl g13) (OpL.binI rfl rfl rfl rfl) ?_
              refine .v rfl (met rfl rfl rfl g13) (OpL.binI rfl rfl rfl rfl) ?_
              refine .v rfl rfl (O.pickF g13 rfl rfl rfl) ?_
              refine .v rfl rfl (OpL.move (.inl rfl) rfl) ?_
              refine .x rfl (unmet rfl rfl rfl g14) ?_
              refine .x rfl (unmet rfl rfl rfl g14) ?_
              refine .x rfl (unmet rfl rfl rfl g14) ?_
              refine .x rfl (unmet rfl rfl rfl g14) ?_
              refine .x rfl (unmet rfl rfl rfl g14) ?_
              refine .x rfl (unmet rfl rfl rfl g14) ?_
              refine .v rfl rfl (O.pickT g14 rfl rfl rfl) ?_
              refine .nil ?_
              exact toN (Gives.mkR [] (.c rfl (.rfl _) rfl (.c rfl (.rfl _) rfl (.c rfl (.rfl _) rfl (.c rfl (.rfl _) rfl (.c rfl (sbb (by simp only [g11, g12, g13, g14, Bool.true_or, Bool.or_true, Bool.false_or, Bool.or_false, Bool.true_and, Bool.and_true, Bool.false_and, Bool.and_false, Bool.not_true, Bool.not_false, cond_true, cond_false])) rfl .n))))) .n rfl rfl rfl)
            · refine W.pk ?_
              refine .v rfl rfl (OpL.move (.inl rfl) rfl) ?_
              refine .call (.imm (.val (.bool t6))) [] 0 (lombardref02_Good.ok b7) rfl rfl rfl ca42 rfl rfl (cC (.imm _) .nil) rfl rfl rfl rfl rfl ?_
              refine .v rfl rfl (OpL.unV rfl rfl rfl) ?_
              refine .v rfl rfl (OpL.move (.inl rfl) rfl) ?_
              refine .v rfl (met rfl rfl rfl (notT g11)) (OpL.move (.inl rfl) rfl) ?_
              refine .call (.imm (.val (.bool t8))) [] 0 (lombardref02_Good.ok ((if_pos (by simp only [g11, g12, g13, g14, Bool.true_or, Bool.or_true, Bool.false_or, Bool.or_false, Bool.true_and, Bool.and_true, Bool.false_and, Bool.and_false, Bool.not_true, Bool.not_false, cond_true, cond_false])).symm.trans b9)) rfl (met rfl rfl rfl (notT g11)) rfl ca42 rfl rfl (cC (.imm _) .nil) rfl rfl rfl rfl rfl ?_
              refine .v rfl (met rfl rfl rfl (notT g11)) (OpL.unV rfl rfl rfl) ?_
              refine .v rfl rfl (O.pickF (notT g11) rfl rfl rfl) ?_
              refine .v rfl rfl (OpL.move (.inl rfl) rfl) ?_
              refine .v rfl (met rfl rfl rfl (notT g12)) (OpL.move (.inl rfl) rfl) ?_
              refine .v rfl (met rfl rfl rfl (notT g12)) (OpL.move (.inl rfl) rfl) ?_
              refine .v rfl (met rfl rfl rfl (notT g12)) (OpL.binI rfl rfl rfl rfl) ?_
              refine .v rfl rfl (O.pickF (notT g12) rfl rfl rfl) ?_
              refine .v rfl rfl (OpL.move (.inl rfl) rfl) ?_
              refine .v rfl (met rfl rfl rfl g13) (OpL.move (.inl rfl) rfl) ?_
              refine .v rfl (met rfl rfl rfl g13) (OpL.move (.inl rfl) rfl) ?_
              refine .v rfl (met rfl rfl rfl g13) (OpL.binI rfl rfl rfl rfl) ?_
              refine .v rfl (met rfl rfl rfl g13) (OpL.binI rfl rfl rfl rfl) ?_
              refine .v rfl rfl (O.pickF g13 rfl rfl rfl) ?_
              refine .v rfl rfl (OpL.move (.inl rfl) rfl) ?_
              refine .v rfl (met rfl rfl rfl g14) (OpL.move (.inl rfl) rfl) ?_
              refine .v rfl (met rfl rfl rfl g14) (OpL.move (.inl rfl) rfl) ?_
              refine .v rfl (met rfl rfl rfl g14) (O.idx sl40 (c10 (by simp only [g11, g12, g13, g14, Bool.true_or, Bool.or_true, Bool.false_or, Bool.or_false, Bool.true_and, Bool.and_true, Bool.false_and, Bool.and_false, Bool.not_true, Bool.not_false, cond_true, cond_false])) rfl rfl rfl) ?_
              refine .v rfl (met rfl rfl rfl g14) (O.fld fld50_0 rfl rfl rfl) ?_
              refine .v rfl (met rfl rfl rfl g14) (O.ld ty3 rfl rfl rfl) ?_
              refine .v rfl (met rfl rfl rfl g14) (OpL.binI rfl rfl rfl rfl) ?_
              refine .v rfl rfl (O.pickF g14 rfl rfl rfl) ?_
              refine .nil ?_
              exact toN (Gives.mkR [] (.c rfl (.rfl _) rfl (.c rfl (.rfl _) rfl (.c rfl (.rfl _) rfl (.c rfl (.rfl _) rfl (.c rfl (sbb (by simp only [g11, g12, g13, g14, Bool.true_or, Bool.or_true, Bool.false_or, Bool.or_false, Bool.true_and, Bool.and_true, Bool.false_and, Bool.and_false, Bool.not_true, Bool.not_false, cond_true, cond_false])) rfl .n))))) .n rfl rfl rfl)
        · refine W.pk ?_
          refine .v rfl rfl (OpL.move (.inl rfl) rfl) ?_
          refine .call (.imm (.val (.bool t6))) [] 0 (lombardref02_Good.ok b7) rfl rfl rfl ca42 rfl rfl (cC (.imm _) .nil) rfl rfl rfl rfl rfl ?_
          refine .v rfl rfl (OpL.unV rfl rfl rfl) ?_
          refine .v rfl rfl (OpL.move (.inl rfl) rfl) ?_
          refine .v rfl (met rfl rfl rfl (notT g11)) (OpL.move (.inl rfl) rfl) ?_
          refine .call (.imm (.val (.bool t8))) [] 0 (lombardref02_Good.ok ((if_pos (by simp only [g11, g12, Bool.true_or, Bool.or_true, Bool.false_or, Bool.or_false, Bool.true_and, Bool.and_true, Bool.false_and, Bool.and_false, Bool.not_true, Bool.not_false, cond_true, cond_false])).symm.trans b9)) rfl (met rfl rfl rfl (notT g11)) rfl ca42 rfl rfl (cC (.imm _) .nil) rfl rfl rfl rfl rfl ?_
          refine .v rfl (met rfl rfl rfl (notT g11)) (OpL.unV rfl rfl rfl) ?_
          refine .v rfl rfl (O.pickF (notT g11) rfl rfl rfl) ?_
          refine .v rfl rfl (OpL.move (.inl rfl) rfl) ?_
          refine .x rfl (unmet rfl rfl rfl (notF g12)) ?_
          refine .x rfl (unmet rfl rfl rfl (notF g12)) ?_
          refine .x rfl (unmet rfl rfl rfl (notF g12)) ?_
          refine .v rfl rfl (O.pickT (notF g12) rfl rfl rfl) ?_
          refine .v rfl rfl (OpL.move (.inl rfl) rfl) ?_
          refine .x rfl (unmet rfl rfl rfl rfl) ?_
          refine .x rfl (unmet rfl rfl rfl rfl) ?_
          refine .x rfl (unmet rfl rfl rfl rfl) ?_
          refine .x rfl (unmet rfl rfl rfl rfl) ?_
          refine .v rfl rfl (O.pickT rfl rfl rfl rfl) ?_
          refine .v rfl rfl (OpL.move (.inl rfl) rfl) ?_
          refine .x rfl (unmet rfl rfl rfl rfl) ?_
          refine .x rfl (unmet rfl rfl rfl rfl) ?_
          refine .x rfl (unmet rfl rfl rfl rfl) ?_
          refine .x rfl (unmet rfl rfl rfl rfl) ?_
          refine .x rfl (unmet rfl rfl rfl rfl) ?_
          refine .x rfl (unmet rfl rfl rfl rfl) ?_
          refine .v rfl rfl (O.pickT rfl rfl rfl rfl) ?_
          refine .nil ?_
          exact toN (Gives.mkR [] (.c rfl (.rfl _) rfl (.c rfl (.rfl _) rfl (.c rfl (.rfl _) rfl (.c rfl (.rfl _) rfl (.c rfl (sbb (by simp only [g11, g12, Bool.true_or, Bool.or_true, Bool.false_or, Bool.or_false, Bool.true_and, Bool.and_true, Bool.false_and, Bool.and_false, Bool.not_true, Bool.not_false, cond_true, cond_false])) rfl .n))))) .n rfl rfl rfl)
      · refine W.pk ?_
        refine .v rfl rfl (OpL.move (.inl rfl) rfl) ?_
        refine .call (.imm (.val (.bool t6))) [] 0 (lombardref02_Good.ok b7) rfl rfl rfl ca42 rfl rfl (cC (.imm _) .nil) rfl rfl rfl rfl rfl ?_
        refine .v rfl rfl (OpL.unV rfl rfl rfl) ?_
        refine .v rfl rfl (OpL.move (.inl rfl) rfl) ?_
        refine .x rfl (unmet rfl rfl rfl (notF g11)) ?_
        refine .x rfl (unmet rfl rfl rfl (notF g11)) ?_
        refine .x rfl (unmet rfl rfl rfl (notF g11)) ?_
        refine .v rfl rfl (O.pickT (notF g11) rfl rfl rfl) ?_
        refine .v rfl rfl (OpL.move (.inl rfl) rfl) ?_
        refine .x rfl (unmet rfl rfl rfl rfl) ?_
        refine .x rfl (unmet rfl rfl rfl rfl) ?_
        refine .x rfl (unmet rfl rfl rfl rfl) ?_
        refine .v rfl rfl (O.pickT rfl rfl rfl rfl) ?_
        refine .v rfl rfl (OpL.move (.inl rfl) rfl) ?_
        refine .x rfl (unmet rfl rfl rfl rfl) ?_
        refine .x rfl (unmet rfl rfl rfl rfl) ?_
        refine .x rfl (unmet rfl rfl rfl rfl) ?_
        refine .x rfl (unmet rfl rfl rfl rfl) ?_
        refine .v rfl rfl (O.pickT rfl rfl rfl rfl) ?_
        refine .v rfl rfl (OpL.move (.inl rfl) rfl) ?_
        refine .x rfl (unmet rfl rfl rfl rfl) ?_
        refine .x rfl (unmet rfl rfl rfl rfl) ?_
        refine .x rfl (unmet rfl rfl rfl rfl) ?_
        refine .x rfl (unmet rfl rfl rfl rfl) ?_
        refine .x rfl (unmet rfl rfl rfl rfl) ?_
        refine .x rfl (unmet rfl rfl rfl rfl) ?_
        refine .v rfl rfl (O.pickT rfl rfl rfl rfl) ?_
        refine .nil ?_
        exact toN (Gives.mkR [] (.c rfl (.rfl _) rfl (.c rfl (.rfl _) rfl (.c rfl (.rfl _) rfl (.c rfl (.rfl _) rfl (.c rfl (sbb (by simp only [g11, Bool.true_or, Bool.or_true, Bool.false_or, Bool.or_false, Bool.true_and, Bool.and_true, Bool.false_and, Bool.and_false, Bool.not_true, Bool.not_false, cond_true, cond_false])) rfl .n))))) .n rfl rfl rfl)

noncomputable def accrue_Back.f (x0 : Int) (x1 : List api_Reset) (x2 : Int) (x3 : Int) : Option (Int × Int) :=
  (accrue_Between.f x0 x1 x2 x3).bind fun t1 =>
  if (t1.2 != 0) = true then
    some (0, t1.2)
  else
    (fixnum_Plus.f x0 t1.1).bind fun t4 =>
    some (t4.1, t4.2)
set_option maxRecDepth 100000 in
set_option maxHeartbeats 4000000 in
theorem accrue_Back.ok {x0 : Int} {x1 : List api_Reset} {x2 : Int} {x3 : Int} {r : Int × Int} (h : accrue_Back.f x0 x1 x2 x3 = some r) : Pm.Spec prog 25 [.imm (.val (.int .i64 x0)), .imm (.row 2 (List.map api_Reset.enc x1)), .imm (.val (.int .i64 x2)), .imm (.val (.int .i64 x3))] (.tup [.imm (.val (.int .i64 r.1)), .imm (.val (.int .i64 r.2))]) [none, none, none, none] := by
  unfold accrue_Back.f at h
  refine Pm.Spec.of_body Try.func25 rfl (by kernel_rfl) (Nat.le_of_ble_eq_true rfl) (Nat.le_of_ble_eq_true rfl) ?_
  refine W.ghost (σ' := (mkSt [(0, some (.imm (.val (.int .i64 x0)))), (1, some (.imm (.row 2 (List.map api_Reset.enc x1)))), (2, some (.imm (.val (.int .i64 x2)))), (3, some (.imm (.val (.int .i64 x3))))] [] 1000)) (Gives.entry (.c rfl (.c rfl (.c rfl (.c rfl .n)))) .n) ?_
  refine W.seq ?_
  refine W.pk ?_
  refine .v rfl rfl (OpL.move (.inr rfl) rfl) ?_
  refine .v rfl rfl (OpL.move (.inr rfl) rfl) ?_
  refine .nil ?_
  refine W.seq ?_
  obtain ⟨t1, b2, h⟩ := bnd1 h
  refine W.pk ?_
  refine .v rfl rfl (OpL.move (.inl rfl) rfl) ?_
  refine .v rfl rfl (OpL.move (.inl rfl) rfl) ?_
  refine .v rfl rfl (OpL.move (.inl rfl) rfl) ?_
  refine .v rfl rfl (OpL.move (.inl rfl) rfl) ?_
  refine .call (.tup [.imm (.val (.int .i64 t1.1)), .imm (.val (.int .i64 t1.2))]) [] 0 (accrue_Between_v2.ok b2) rfl rfl rfl ca23 rfl rfl (cC (.imm _) (cC (.imm _) (cC (.imm _) (cC (.imm _) .nil)))) rfl rfl rfl rfl rfl ?_
  refine .v rfl rfl (OpL.move (.inl rfl) rfl) ?_
  refine .v rfl rfl (OpL.extract rfl rfl rfl) ?_
  refine .v rfl rfl (OpL.extract rfl rfl rfl) ?_
  refine .v rfl rfl (OpL.move (.inr rfl) rfl) ?_
  refine .v rfl rfl (OpL.move (.inr rfl) rfl) ?_
  refine .nil ?_
  refine W.seq ?_
  refine W.seq ?_
  refine W.pk ?_
  refine .v rfl rfl (OpL.move (.inl rfl) rfl) ?_
  refine .v rfl rfl (OpL.binI rfl rfl rfl rfl) ?_
  refine .nil ?_
  refine W.cond rfl (fun q3 => ?_) (fun q3 => ?_)
  · have h := ifT q3 h
    refine W.seq ?_
    refine W.pk ?_
    refine .v rfl rfl (OpL.move (.inl rfl) rfl) ?_
    refine .v rfl rfl (OpL.move (.inr rfl) rfl) ?_
    refine .v rfl rfl (OpL.move (.inr rfl) rfl) ?_
    refine .nil ?_
    refine W.ret ?_
    cases h
    exact leaves (.inr rfl) rfl (.tup _ _ _ _ (cC (.imm _) (cC (.imm _) .nil))) (cN (cN (cN (cN .nil)))) rfl rfl
  · have h := ifF q3 h
    refine W.skip ?_
    refine W.seq ?_
    obtain ⟨t4, b5, h⟩ := bnd1 h
    refine W.pk ?_
    refine .v rfl rfl (OpL.move (.inl rfl) rfl) ?_
    refine .v rfl rfl (OpL.move (.inl rfl) rfl) ?_
    refine .call (.tup [.imm (.val (.int .i64 t4.1)), .imm (.val (.int .i64 t4.2))]) [] 0 (fixnum_Plus.ok b5) rfl rfl rfl ca32 rfl rfl (cC (.imm _) (cC (.imm _) .nil)) rfl rfl rfl rfl rfl ?_
    refine .v rfl rfl (OpL.extract rfl rfl rfl) ?_
    refine .v rfl rfl (OpL.extract rfl rfl rfl) ?_
    refine .v rfl rfl (OpL.move (.inr rfl) rfl) ?_
    refine .v rfl rfl (OpL.move (.inr rfl) rfl) ?_
    refine .nil ?_
    refine W.ret ?_
    cases h
    exact leaves (.inr rfl) rfl (.tup _ _ _ _ (cC (.imm _) (cC (.imm _) .nil))) (cN (cN (cN (cN .nil)))) rfl rfl
end Go.Proofs.Ytipgpnagfmlahaa
