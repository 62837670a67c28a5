/- Shows what functions of the program come to, each as a plain function: written by a program of the author's for this claim. -/
import Derived.Test.YtipgpnagfmlahaaGx9
namespace Go.Proofs.Ytipgpnagfmlahaa
open Go Go.Pm
set_option linter.unusedVariables false
set_option linter.unusedSimpArgs false
set_option maxRecDepth 100000 in
set_option maxHeartbeats 4000000 in
theorem accrue_Check_v2.ok {x0 : List api_Reset} {r : Int} (h : accrue_Check.f x0 = some r) : Pm.Spec prog 18 [.xown 50 2 (List.map api_Reset.enc x0)] (.imm (.val (.int .i64 r))) [some (.xown 50 2 (List.map api_Reset.enc x0))] := by
  unfold accrue_Check.f at h
  refine Pm.Spec.of_body Try.func18 rfl (by kernel_rfl) (Nat.le_of_ble_eq_true rfl) (Nat.le_of_ble_eq_true rfl) ?_
  refine W.ghost (σ' := (mkSt [(0, some (.own 0))] [(0, some (.rows 50 2 (List.map api_Reset.enc x0) false))] 1000)) (Gives.entry (.c rfl .n) (.c rfl .n)) ?_
  refine W.seq ?_
  refine W.pk ?_
  refine .v rfl rfl (OpL.move (.inr rfl) rfl) ?_
  refine .nil ?_
  refine W.seq ?_
  refine W.block ?_
  refine W.seq ?_
  refine W.pk ?_
  refine .v rfl rfl (OpL.move (.inl rfl) rfl) ?_
  refine .v rfl rfl (O.lenO sl40 rfl rfl rfl) ?_
  refine .v rfl rfl (OpL.binI rfl rfl rfl rfl) ?_
  refine .v rfl rfl (OpL.move (.inr rfl) rfl) ?_
  refine .nil ?_
  refine W.cond rfl (fun q1 => ?_) (fun q1 => ?_)
  · have h := ifT q1 h
    refine W.seq ?_
    refine W.pk ?_
    refine .v rfl rfl (OpL.move (.inr rfl) rfl) ?_
    refine .nil ?_
    refine W.ret ?_
    cases h
    exact leaves (.inr rfl) rfl (.imm _) (cS (.own _ _ _ _ rfl) .nil) rfl rfl
  · have h := ifF q1 h
    refine W.seq ?_
    refine W.pk ?_
    refine .v rfl rfl (OpL.move (.inl rfl) rfl) ?_
    refine .v rfl rfl (O.lenO sl40 rfl rfl rfl) ?_
    refine .v rfl rfl (OpL.binI rfl rfl rfl rfl) ?_
    refine .v rfl rfl (OpL.move (.inr rfl) rfl) ?_
    refine .nil ?_
    refine W.cond rfl (fun q2 => ?_) (fun q2 => ?_)
    · have h := ifT q2 h
      refine W.seq ?_
      refine W.pk ?_
      refine .v rfl rfl (OpL.move (.inr rfl) rfl) ?_
      refine .nil ?_
      refine W.ret ?_
      cases h
      exact leaves (.inr rfl) rfl (.imm _) (cS (.own _ _ _ _ rfl) .nil) rfl rfl
    · have h := ifF q2 h
      refine W.skip ?_
      refine W.seq ?_
      refine W.seq ?_
      refine W.pk ?_
      refine .v rfl rfl (OpL.move (.inl rfl) rfl) ?_
      refine .v rfl rfl (O.lenO sl40 rfl rfl rfl) ?_
      refine .v rfl rfl (OpL.move (.inl rfl) rfl) ?_
      refine .nil ?_
      obtain ⟨o35, b36, z37⟩ := bnd1 h
      refine W.fork2 (out := o35) (fun (w34 : Unit) => mkSt [] [(0, some (.rows 50 2 (List.map api_Reset.enc x0) false))] 1000) ?_ ?_
      · clear h
        refine W.block ?_
        refine W.loopF (fun (s_ : Int) => mkSt [(0, some (.own 0)), (13, some (.own 0)), (14, some (.imm (.val (.int .i64 (List.length x0 : Int))))), (15, some (.imm (.val (.int .i64 s_))))] [(0, some (.rows 50 2 (List.map api_Reset.enc x0) false))] 1000) b36 (Gives.mkR [] (.c rfl (.rfl _) rfl (.c rfl (.rfl _) rfl (.c rfl (.rfl _) rfl (.c rfl (.rfl _) rfl .n)))) (.c rfl (.rfl _) rfl rfl .n) rfl rfl rfl) ?_
        rintro v13 s_ hr
        have h : accrue_Check.b0 x0 v13 = some s_ := hr
        unfold accrue_Check.b0 at h
        refine W.seq ?_
        refine W.pk ?_
        refine .v rfl rfl (OpL.binI rfl rfl rfl rfl) ?_
        refine .nil ?_
        refine W.seq ?_
        refine W.cond rfl (fun q38 => ?_) (fun q38 => ?_)
        · have h := ifT q38 h
          refine W.skip ?_
          refine W.seq ?_
          refine W.block ?_
          refine W.seq ?_
          obtain ⟨c39, h⟩ := chk h
          refine W.pk ?_
          refine .v rfl rfl (OpL.move (.inl rfl) rfl) ?_
          refine .v rfl rfl (O.idxO sl40 c39 rfl rfl rfl rfl) ?_
          refine .v rfl rfl (O.ldEN ty50 c39 rfl rfl rfl rfl rfl) ?_
          refine .t rfl rfl (O.alloc z50 rfl) ?_
          refine .v rfl rfl (OpL.move (.inr rfl) rfl) ?_
          refine .s rfl rfl (O.st ty50 rfl rfl rfl rfl rfl rfl rfl rfl rfl rfl (all' := [.imm (.val (.int .i64 ((nth x0 v13).Day))), .imm (.val (.int .i64 ((nth x0 v13).Rate)))]) rfl) ?_
          refine .nil ?_
          refine W.block ?_
          refine W.seq ?_
          obtain ⟨t40, b41, h⟩ := bnd1 h
          obtain ⟨c42, h⟩ := chk h
          refine W.fork (mkSt [(0, some (.own 0)), (4, some (.ptr 1000 0)), (13, some (.own 0)), (14, some (.imm (.val (.int .i64 (List.length x0 : Int))))), (15, some (.imm (.val (.int .i64 v13)))), (20, some (.imm (.val (.bool ((!t40) || ((decide (v13 > 0)) && (decide (((nth x0 v13).Day) ≤ ((nth x0 (IntKind.wrap .i64 (v13 - 1))).Day)))))))))] [(0, some (.rows 50 2 (List.map api_Reset.enc x0) false)), (1000, some (.box [.imm (.val (.int .i64 ((nth x0 v13).Day))), .imm (.val (.int .i64 ((nth x0 v13).Rate)))]))] 1001) ?_ ?_
          · refine W.cond rfl (fun q45 => ?_) (fun q45 => ?_)
            · have h := ifT q45 h
              refine W.seq ?_
              refine W.pk ?_
              refine .v rfl rfl (OpL.move (.inr rfl) rfl) ?_
              refine .nil ?_
              refine W.ret ?_
              cases h
              refine rdR fun e_ => ?_
              subst e_
              have h := z37
              dsimp only at h
              refine fkR ?_
              cases h
              exact leaves (.inr rfl) rfl (.imm _) (cS (.own _ _ _ _ rfl) .nil) rfl rfl
            · have h := ifF q45 h
              refine W.seq ?_
              refine W.fork (mkSt [(0, some (.own 0)), (13, some (.own 0)), (14, some (.imm (.val (.int .i64 (List.length x0 : Int))))), (15, some (.imm (.val (.int .i64 v13)))), (40, some (.imm (.val (.bool ((decide (((nth x0 v13).Rate) < (-1000000))) || (decide (((nth x0 v13).Rate) > 1000000)))))))] [(0, some (.rows 50 2 (List.map api_Reset.enc x0) false))] 1001) ?_ ?_
              · refine W.cond rfl (fun q47 => ?_) (fun q47 => ?_)
                · have h := ifT q47 h
                  refine W.seq ?_
                  refine W.pk ?_
                  refine .v rfl rfl (OpL.move (.inr rfl) rfl) ?_
                  refine .nil ?_
                  refine W.ret ?_
                  cases h
                  refine rdR fun e_ => ?_
                  subst e_
                  have h := z37
                  dsimp only at h
                  refine fkR ?_
                  cases h
                  exact leaves (.inr rfl) rfl (.imm _) (cS (.own _ _ _ _ rfl) .nil) rfl rfl
                · have h := ifF q47 h
                  refine W.skip ?_
                  refine W.pk ?_
                  refine .v rfl rfl (OpL.binI rfl rfl rfl rfl) ?_
                  refine .v rfl rfl (OpL.move (.inl rfl) rfl) ?_
                  refine .nil ?_
                  cases h
                  exact rdN (Gives.mkR [] (.c rfl (.rfl _) rfl (.c rfl (.rfl _) rfl (.c rfl (.rfl _) rfl (.c rfl (.rfl _) rfl .n)))) (.c rfl (.rfl _) rfl rfl .n) rfl rfl rfl)
              · clear h
                rcases tf (decide (((nth x0 v13).Rate) < (-1000000))) with g46 | g46
                · refine W.pk ?_
                  refine .v rfl rfl (O.fld fld50_1 rfl rfl rfl) ?_
                  refine .v rfl rfl (O.ld ty3 rfl rfl rfl) ?_
                  refine .v rfl rfl (OpL.binI rfl rfl rfl rfl) ?_
                  refine .v rfl rfl (OpL.move (.inl rfl) rfl) ?_
                  refine .x rfl (unmet rfl rfl rfl g46) ?_
                  refine .x rfl (unmet rfl rfl rfl g46) ?_
                  refine .x rfl (unmet rfl rfl rfl g46) ?_
                  refine .v rfl rfl (O.pickT g46 rfl rfl rfl) ?_
                  refine .v rfl rfl (OpL.move (.inr rfl) rfl) ?_
                  refine .nil ?_
                  exact toN (Gives.mkR [] (.c rfl (.rfl _) rfl (.c rfl (.rfl _) rfl (.c rfl (.rfl _) rfl (.c rfl (.rfl _) rfl (.c rfl (sbb (by simp only [g46, Bool.true_or, Bool.or_true, Bool.false_or, Bool.or_false, Bool.true_and, Bool.and_true, Bool.false_and, Bool.and_false, Bool.not_true, Bool.not_false, cond_true, cond_false])) rfl .n))))) (.c rfl (.rfl _) rfl rfl .n) rfl rfl rfl)
                · refine W.pk ?_
                  refine .v rfl rfl (O.fld fld50_1 rfl rfl rfl) ?_
                  refine .v rfl rfl (O.ld ty3 rfl rfl rfl) ?_
                  refine .v rfl rfl (OpL.binI rfl rfl rfl rfl) ?_
                  refine .v rfl rfl (OpL.move (.inl rfl) rfl) ?_
                  refine .v rfl (met rfl rfl rfl g46) (O.fld fld50_1 rfl rfl rfl) ?_
                  refine .v rfl (met rfl rfl rfl g46) (O.ld ty3 rfl rfl rfl) ?_
                  refine .v rfl (met rfl rfl rfl g46) (OpL.binI rfl rfl rfl rfl) ?_
                  refine .v rfl rfl (O.pickF g46 rfl rfl rfl) ?_
                  refine .v rfl rfl (OpL.move (.inr rfl) rfl) ?_
                  refine .nil ?_
                  exact toN (Gives.mkR [] (.c rfl (.rfl _) rfl (.c rfl (.rfl _) rfl (.c rfl (.rfl _) rfl (.c rfl (.rfl _) rfl (.c rfl (sbb (by simp only [g46, Bool.true_or, Bool.or_true, Bool.false_or, Bool.or_false, Bool.true_and, Bool.and_true, Bool.false_and, Bool.and_false, Bool.not_true, Bool.not_false, cond_true, cond_false])) rfl .n))))) (.c rfl (.rfl _) rfl rfl .n) rfl rfl rfl)
          · clear h
            rcases tf t40 with g43 | g43
            · rcases tf (decide (v13 > 0)) with g44 | g44
              · refine W.dk [[], [0], [0, 1], [0, 1, 2], [0, 1, 2, 3], [0, 1, 2, 3, 4], [0, 1, 2, 3, 4, 5], [0, 1, 2, 3, 4, 5, 6], [0, 1, 2, 3, 4, 5, 6, 7], [0, 1, 2, 3, 4, 5, 6, 7, 8], [0, 1, 2, 3, 4, 5, 6, 7], [0, 1, 2, 3, 4, 5, 6, 7], [0, 1, 2, 3, 4, 5, 6, 7, 11], [0, 1, 2, 3, 4, 5, 6, 7, 10, 11, 12], [0, 1, 2, 3, 4, 5, 6, 7, 10, 11, 12, 13], [0, 1, 2, 3, 4, 5, 6, 7, 10, 11, 12, 13, 14], [0, 1, 2, 3, 4, 5, 6, 7, 8, 9, 10, 11, 12, 13, 14, 15], [0, 1, 2, 3, 4, 5, 6, 7, 8, 9, 10, 11, 12, 13, 14, 15, 16], [0, 1, 2, 3, 4, 5, 6, 7, 8, 9, 10, 11, 12, 13, 14, 15, 16, 17], [0, 1, 2, 3, 4, 5, 6, 7, 8, 9, 10, 11, 12, 13, 14, 15, 16, 17, 18]] rfl (by kernel_rfl) ?_
                refine .v rfl rfl (O.fld fld50_0 rfl rfl rfl) ?_
                refine .v rfl rfl (O.ld ty3 rfl rfl rfl) ?_
                refine .call (.imm (.val (.bool t40))) [] 0 (calendar_Good.ok b41) rfl rfl rfl ca41 rfl rfl (cC (.imm _) .nil) rfl rfl rfl rfl rfl ?_
                refine .v rfl rfl (OpL.unV rfl rfl rfl) ?_
                refine .v rfl rfl (OpL.move (.inl rfl) rfl) ?_
                refine .v rfl (met rfl rfl rfl (notT g43)) (OpL.move (.inl rfl) rfl) ?_
                refine .v rfl (met rfl rfl rfl (notT g43)) (OpL.binI rfl rfl rfl rfl) ?_
                refine .v rfl (met rfl rfl rfl (notT g43)) (OpL.move (.inl rfl) rfl) ?_
                refine .v rfl (met rfl rfl rfl g44) (O.fld fld50_0 rfl rfl rfl) ?_
                refine .v rfl (met rfl rfl rfl g44) (O.ld ty3 rfl rfl rfl) ?_
                refine .v rfl (met rfl rfl rfl g44) (OpL.move (.inl rfl) rfl) ?_
                refine .v rfl (met rfl rfl rfl g44) (OpL.move (.inl rfl) rfl) ?_
                refine .v rfl (met rfl rfl rfl g44) (OpL.binI rfl rfl rfl rfl) ?_
                refine .v rfl (met rfl rfl rfl g44) (O.idxO sl40 (c42 ⟨(by simp only [g43, g44, Bool.true_or, Bool.or_true, Bool.false_or, Bool.or_false, Bool.true_and, Bool.and_true, Bool.false_and, Bool.and_false, Bool.not_true, Bool.not_false, cond_true, cond_false]), (by simp only [g43, g44, Bool.true_or, Bool.or_true, Bool.false_or, Bool.or_false, Bool.true_and, Bool.and_true, Bool.false_and, Bool.and_false, Bool.not_true, Bool.not_false, cond_true, cond_false])⟩) rfl rfl rfl rfl) ?_
                refine .v rfl (met rfl rfl rfl g44) (O.fld fld50_0 rfl rfl rfl) ?_
                refine .v rfl (met rfl rfl rfl g44) (O.ldE ty3 (c42 ⟨(by simp only [g43, g44, Bool.true_or, Bool.or_true, Bool.false_or, Bool.or_false, Bool.true_and, Bool.and_true, Bool.false_and, Bool.and_false, Bool.not_true, Bool.not_false, cond_true, cond_false]), (by simp only [g43, g44, Bool.true_or, Bool.or_true, Bool.false_or, Bool.or_false, Bool.true_and, Bool.and_true, Bool.false_and, Bool.and_false, Bool.not_true, Bool.not_false, cond_true, cond_false])⟩) rfl rfl rfl rfl rfl) ?_
                refine .v rfl (met rfl rfl rfl g44) (OpL.binI rfl rfl rfl rfl) ?_
                refine .v rfl (met rfl rfl rfl (notT g43)) (O.pickT g44 rfl rfl rfl) ?_
                refine .v rfl rfl (O.pickF (notT g43) rfl rfl rfl) ?_
                refine .v rfl rfl (OpL.move (.inr rfl) rfl) ?_
                refine .nil ?_
                refine ⟨by kernel_rfl, by kernel_rfl, ?_⟩
                exact toN (Gives.mkR [] (.c rfl (.rfl _) rfl (.c rfl (.rfl _) rfl (.c rfl (.rfl _) rfl (.c rfl (.rfl _) rfl (.c rfl (.rfl _) rfl (.c rfl (sbb (by simp only [g43, g44, Bool.true_or, Bool.or_true, Bool.false_or, Bool.or_false, Bool.true_and, Bool.and_true, Bool.false_and, Bool.and_false, Bool.not_true, Bool.not_false, cond_true, cond_false])) rfl .n)))))) (.c rfl (.rfl _) rfl rfl (.c rfl (.rfl _) rfl rfl .n)) rfl rfl rfl)
              · refine W.dk [[], [0], [0, 1], [0, 1, 2], [0, 1, 2, 3], [0, 1, 2, 3, 4], [0, 1, 2, 3, 4, 5], [0, 1, 2, 3, 4, 5, 6], [0, 1, 2, 3, 4, 5, 6, 7], [0, 1, 2, 3, 4, 5, 6, 7, 8], [0, 1, 2, 3, 4, 5, 6, 7], [0, 1, 2, 3, 4, 5, 6, 7], [0, 1, 2, 3, 4, 5, 6, 7, 11], [0, 1, 2, 3, 4, 5, 6, 7, 10, 11, 12], [0, 1, 2, 3, 4, 5, 6, 7, 10, 11, 12, 13], [0, 1, 2, 3, 4, 5, 6, 7, 10, 11, 12, 13, 14], [0, 1, 2, 3, 4, 5, 6, 7, 8, 9, 10, 11, 12, 13, 14, 15], [0, 1, 2, 3, 4, 5, 6, 7, 8, 9, 10, 11, 12, 13, 14, 15, 16], [0, 1, 2, 3, 4, 5, 6, 7, 8, 9, 10, 11, 12, 13, 14, 15, 16, 17], [0, 1, 2, 3, 4, 5, 6, 7, 8, 9, 10, 11, 12, 13, 14, 15, 16, 17, 18]] rfl (by kernel_rfl) ?_
                refine .v rfl rfl (O.fld fld50_0 rfl rfl rfl) ?_
                refine .v rfl rfl (O.ld ty3 rfl rfl rfl) ?_
                refine .call (.imm (.val (.bool t40))) [] 0 (calendar_Good.ok b41) rfl rfl rfl ca41 rfl rfl (cC (.imm _) .nil) rfl rfl rfl rfl rfl ?_
                refine .v rfl rfl (OpL.unV rfl rfl rfl) ?_
                refine .v rfl rfl (OpL.move (.inl rfl) rfl) ?_
                refine .v rfl (met rfl rfl rfl (notT g43)) (OpL.move (.inl rfl) rfl) ?_
                refine .v rfl (met rfl rfl rfl (notT g43)) (OpL.binI rfl rfl rfl rfl) ?_
                refine .v rfl (met rfl rfl rfl (notT g43)) (OpL.move (.inl rfl) rfl) ?_
                refine .x rfl (unmet rfl rfl rfl g44) ?_
                refine .x rfl (unmet rfl rfl rfl g44) ?_
                refine .x rfl (unmet rfl rfl rfl g44) ?_
                refine .x rfl (unmet rfl rfl rfl g44) ?_
                refine .x rfl (unmet rfl rfl rfl g44) ?_
                refine .x rfl (unmet rfl rfl rfl g44) ?_
                refine .x rfl (unmet rfl rfl rfl g44) ?_
                refine .x rfl (unmet rfl rfl rfl g44) ?_
                refine .x rfl (unmet rfl rfl rfl g44) ?_
                refine .v rfl (met rfl rfl rfl (notT g43)) (O.pickF g44 rfl rfl rfl) ?_
                refine .v rfl rfl (O.pickF (notT g43) rfl rfl rfl) ?_
                refine .v rfl rfl (OpL.move (.inr rfl) rfl) ?_
                refine .nil ?_
                refine ⟨by kernel_rfl, by kernel_rfl, ?_⟩
                exact toN (Gives.mkR [] (.c rfl (.rfl _) rfl (.c rfl (.rfl _) rfl (.c rfl (.rfl _) rfl (.c rfl (.rfl _) rfl (.c rfl (.rfl _) rfl (.c rfl (sbb (by simp only [g43, g44, Bool.true_or, Bool.or_true, Bool.false_or, Bool.or_false, Bool.true_and, Bool.and_true, Bool.false_and, Bool.and_false, Bool.not_true, Bool.not_false, cond_true, cond_false])) rfl .n)))))) (.c rfl (.rfl _) rfl rfl (.c rfl (.rfl _) rfl rfl .n)) rfl rfl rfl)
            · refine W.dk [[], [0], [0, 1], [0, 1, 2], [0, 1, 2, 3], [0, 1, 2, 3, 4], [0, 1, 2, 3, 4, 5], [0, 1, 2, 3, 4, 5, 6], [0, 1, 2, 3, 4, 5, 6, 7], [0, 1, 2, 3, 4, 5, 6, 7, 8], [0, 1, 2, 3, 4, 5, 6, 7], [0, 1, 2, 3, 4, 5, 6, 7], [0, 1, 2, 3, 4, 5, 6, 7, 11], [0, 1, 2, 3, 4, 5, 6, 7, 10, 11, 12], [0, 1, 2, 3, 4, 5, 6, 7, 10, 11, 12, 13], [0, 1, 2, 3, 4, 5, 6, 7, 10, 11, 12, 13, 14], [0, 1, 2, 3, 4, 5, 6, 7, 8, 9, 10, 11, 12, 13, 14, 15], [0, 1, 2, 3, 4, 5, 6, 7, 8, 9, 10, 11, 12, 13, 14, 15, 16], [0, 1, 2, 3, 4, 5, 6, 7, 8, 9, 10, 11, 12, 13, 14, 15, 16, 17], [0, 1, 2, 3, 4, 5, 6, 7, 8, 9, 10, 11, 12, 13, 14, 15, 16, 17, 18]] rfl (by kernel_rfl) ?_
              refine .v rfl rfl (O.fld fld50_0 rfl rfl rfl) ?_
              refine .v rfl rfl (O.ld ty3 rfl rfl rfl) ?_
              refine .call (.imm (.val (.bool t40))) [] 0 (calendar_Good.ok b41) rfl rfl rfl ca41 rfl rfl (cC (.imm _) .nil) rfl rfl rfl rfl rfl ?_
              refine .v rfl rfl (OpL.unV rfl rfl rfl) ?_
              refine .v rfl rfl (OpL.move (.inl rfl) rfl) ?_
              refine .x rfl (unmet rfl rfl rfl (notF g43)) ?_
              refine .x rfl (unmet rfl rfl rfl (notF g43)) ?_
              refine .x rfl (unmet rfl rfl rfl (notF g43)) ?_
              refine .x rfl (unmetU rfl rfl rfl) ?_
              refine .x rfl (unmetU rfl rfl rfl) ?_
              refine .x rfl (unmetU rfl rfl rfl) ?_
              refine .x rfl (unmetU rfl rfl rfl) ?_
              refine .x rfl (unmetU rfl rfl rfl) ?_
              refine .x rfl (unmetU rfl rfl rfl) ?_
              refine .x rfl (unmetU rfl rfl rfl) ?_
              refine .x rfl (unmetU rfl rfl rfl) ?_
              refine .x rfl (unmetU rfl rfl rfl) ?_
              refine .x rfl (unmet rfl rfl rfl (notF g43)) ?_
              refine .v rfl rfl (O.pickT (notF g43) rfl rfl rfl) ?_
              refine .v rfl rfl (OpL.move (.inr rfl) rfl) ?_
              refine .nil ?_
              refine ⟨by kernel_rfl, by kernel_rfl, ?_⟩
              exact toN (Gives.mkR [] (.c rfl (.rfl _) rfl (.c rfl (.rfl _) rfl (.c rfl (.rfl _) rfl (.c rfl (.rfl _) rfl (.c rfl (.rfl _) rfl (.c rfl (sbb (by simp only [g43, Bool.true_or, Bool.or_true, Bool.false_or, Bool.or_false, Bool.true_and, Bool.and_true, Bool.false_and, Bool.and_false, Bool.not_true, Bool.not_false, cond_true, cond_false])) rfl .n)))))) (.c rfl (.rfl _) rfl rfl (.c rfl (.rfl _) rfl rfl .n)) rfl rfl rfl)
        · have h := ifF q38 h
          refine W.exit ?_
          cases h
          refine rdX fun e_ => ?_
          subst e_
          refine hit ?_
          exact fkN (Gives.mkR [] .n (.c rfl (.rfl _) rfl rfl .n) rfl rfl rfl)
      · intro w34 e_
        subst e_
        clear h
        have h := z37
        dsimp only at h
        refine W.seq ?_
        refine W.pk ?_
        refine .v rfl rfl (OpL.move (.inr rfl) rfl) ?_
        refine .nil ?_
        refine W.ret ?_
        cases h
        exact leaves (.inr rfl) rfl (.imm _) (cS (.own _ _ _ _ rfl) .nil) rfl rfl

set_option maxRecDepth 100000 in
set_option maxHeartbeats 4000000 in
theorem slices_BinarySearchFunc_int__accrue_Rate_1_v2.ok {x0 : List api_Reset} {x1 : Int} {r : Int × Bool} (h : slices_BinarySearchFunc_int__accrue_Rate_1.f x0 x1 = some r) : Pm.Spec prog 43 [.xown 50 2 (List.map api_Reset.enc x0), .imm (.val (.int .i64 x1)), .fn 44 []] (.tup [.imm (.val (.int .i64 r.1)), .imm (.val (.bool r.2))]) [some (.xown 50 2 (List.map api_Reset.enc x0)), none, none] := by
  unfold slices_BinarySearchFunc_int__accrue_Rate_1.f at h
  refine Pm.Spec.of_body Try.func43 rfl (by kernel_rfl) (Nat.le_of_ble_eq_true rfl) (Nat.le_of_ble_eq_true rfl) ?_
  refine W.ghost (σ' := (mkSt [(0, some (.own 0)), (1, some (.imm (.val (.int .i64 x1)))), (2, some (.fn 44 []))] [(0, some (.rows 50 2 (List.map api_Reset.enc x0) false))] 1000)) (Gives.entry (.c rfl (.c rfl (.c rfl .n))) (.c rfl .n)) ?_
  refine W.seq ?_
  refine W.pk ?_
  refine .v rfl rfl (OpL.move (.inr rfl) rfl) ?_
  refine .v rfl rfl (OpL.move (.inr rfl) rfl) ?_
  refine .nil ?_
  refine W.seq ?_
  refine W.pk ?_
  refine .v rfl rfl (OpL.move (.inl rfl) rfl) ?_
  refine .v rfl rfl (O.lenO sl40 rfl rfl rfl) ?_
  refine .v rfl rfl (OpL.move (.inr rfl) rfl) ?_
  refine .nil ?_
  refine W.seq ?_
  refine W.pk ?_
  refine .v rfl rfl (OpL.move (.inl rfl) rfl) ?_
  refine .v rfl rfl (OpL.move (.inr rfl) rfl) ?_
  refine .v rfl rfl (OpL.move (.inr rfl) rfl) ?_
  refine .nil ?_
  refine W.seq ?_
  obtain ⟨o19, b20, h⟩ := bnd1 h
  refine W.fork (mkSt [(0, some (.own 0)), (1, some (.imm (.val (.int .i64 x1)))), (2, some (.fn 44 [])), (8, some (.imm (.val (.int .i64 (List.length x0 : Int))))), (9, some (.imm (.val (.int .i64 o19))))] [(0, some (.rows 50 2 (List.map api_Reset.enc x0) false))] 1000) ?_ ?_
  · refine W.seq ?_
    obtain ⟨c27, h⟩ := chk h
    obtain ⟨t28, b29, h⟩ := bnd1 h
    refine W.fork (mkSt [(6, some (.imm (.val (.int .i64 o19)))), (7, some (.imm (.val (.bool ((decide (o19 < (List.length x0 : Int))) && (t28 == 0))))))] [(0, some (.rows 50 2 (List.map api_Reset.enc x0) false))] 1000) ?_ ?_
    · refine W.ret ?_
      cases h
      exact leaves (.inr rfl) rfl (.tup _ _ _ _ (cC (.imm _) (cC (.imm _) .nil))) (cS (.own _ _ _ _ rfl) (cN (cN .nil))) rfl rfl
    · clear h
      rcases tf (decide (o19 < (List.length x0 : Int))) with g30 | g30
      · refine W.pk ?_
        refine .v rfl rfl (OpL.move (.inl rfl) rfl) ?_
        refine .v rfl rfl (OpL.move (.inl rfl) rfl) ?_
        refine .v rfl rfl (OpL.move (.inl rfl) rfl) ?_
        refine .v rfl rfl (OpL.binI rfl rfl rfl rfl) ?_
        refine .v rfl rfl (OpL.move (.inl rfl) rfl) ?_
        refine .v rfl (met rfl rfl rfl g30) (OpL.move (.inl rfl) rfl) ?_
        refine .v rfl (met rfl rfl rfl g30) (OpL.move (.inl rfl) rfl) ?_
        refine .v rfl (met rfl rfl rfl g30) (OpL.move (.inl rfl) rfl) ?_
        refine .v rfl (met rfl rfl rfl g30) (O.idxO sl40 (c27 (by simp only [g30, Bool.true_or, Bool.or_true, Bool.false_or, Bool.or_false, Bool.true_and, Bool.and_true, Bool.false_and, Bool.and_false, Bool.not_true, Bool.not_false, cond_true, cond_false])) rfl rfl rfl rfl) ?_
        refine .v rfl (met rfl rfl rfl g30) (O.ldEN ty50 (c27 (by simp only [g30, Bool.true_or, Bool.or_true, Bool.false_or, Bool.or_false, Bool.true_and, Bool.and_true, Bool.false_and, Bool.and_false, Bool.not_true, Bool.not_false, cond_true, cond_false])) rfl rfl rfl rfl rfl) ?_
        refine .v rfl (met rfl rfl rfl g30) (OpL.move (.inl rfl) rfl) ?_
        refine .call (.imm (.val (.int .i64 t28))) [] 0 (accrue_Rate_1_v2.ok ((if_pos (by simp only [g30, Bool.true_or, Bool.or_true, Bool.false_or, Bool.or_false, Bool.true_and, Bool.and_true, Bool.false_and, Bool.and_false, Bool.not_true, Bool.not_false, cond_true, cond_false])).symm.trans b29)) rfl (met rfl rfl rfl g30) rfl ca44 rfl rfl (cC (.agg _ _ _ _ (cC (.imm _) (cC (.imm _) .nil))) (cC (.imm _) .nil)) rfl rfl rfl rfl rfl ?_
        refine .v rfl (met rfl rfl rfl g30) (OpL.binI rfl rfl rfl rfl) ?_
        refine .v rfl rfl (O.pickT g30 rfl rfl rfl) ?_
        refine .v rfl rfl (OpL.move (.inr rfl) rfl) ?_
        refine .v rfl rfl (OpL.move (.inr rfl) rfl) ?_
        refine .nil ?_
        exact toN (Gives.mkR [] (.c rfl (.rfl _) rfl (.c rfl (sbb (by simp only [g30, Bool.true_or, Bool.or_true, Bool.false_or, Bool.or_false, Bool.true_and, Bool.and_true, Bool.false_and, Bool.and_false, Bool.not_true, Bool.not_false, cond_true, cond_false])) rfl .n)) (.c rfl (.rfl _) rfl rfl .n) rfl rfl rfl)
      · refine W.pk ?_
        refine .v rfl rfl (OpL.move (.inl rfl) rfl) ?_
        refine .v rfl rfl (OpL.move (.inl rfl) rfl) ?_
        refine .v rfl rfl (OpL.move (.inl rfl) rfl) ?_
        refine .v rfl rfl (OpL.binI rfl rfl rfl rfl) ?_
        refine .v rfl rfl (OpL.move (.inl rfl) rfl) ?_
        refine .x rfl (unmet rfl rfl rfl g30) ?_
        refine .x rfl (unmet rfl rfl rfl g30) ?_
        refine .x rfl (unmet rfl rfl rfl g30) ?_
        refine .x rfl (unmet rfl rfl rfl g30) ?_
        refine .x rfl (unmet rfl rfl rfl g30) ?_
        refine .x rfl (unmet rfl rfl rfl g30) ?_
        refine .x rfl (unmet rfl rfl rfl g30) ?_
        refine .x rfl (unmet rfl rfl rfl g30) ?_
        refine .v rfl rfl (O.pickF g30 rfl rfl rfl) ?_
        refine .v rfl rfl (OpL.move (.inr rfl) rfl) ?_
        refine .v rfl rfl (OpL.move (.inr rfl) rfl) ?_
        refine .nil ?_
        exact toN (Gives.mkR [] (.c rfl (.rfl _) rfl (.c rfl (sbb (by simp only [g30, Bool.true_or, Bool.or_true, Bool.false_or, Bool.or_false, Bool.true_and, Bool.and_true, Bool.false_and, Bool.and_false, Bool.not_true, Bool.not_false, cond_true, cond_false])) rfl .n)) (.c rfl (.rfl _) rfl rfl .n) rfl rfl rfl)
  · clear h
    refine W.block ?_
    refine W.loopF (fun (s_ : Int × Int) => mkSt [(0, some (.own 0)), (1, some (.imm (.val (.int .i64 x1)))), (2, some (.fn 44 [])), (8, some (.imm (.val (.int .i64 (List.length x0 : Int))))), (9, some (.imm (.val (.int .i64 s_.1)))), (10, some (.imm (.val (.int .i64 s_.2))))] [(0, some (.rows 50 2 (List.map api_Reset.enc x0) false))] 1000) b20 (Gives.mkR [] (.c rfl (.rfl _) rfl (.c rfl (.rfl _) rfl (.c rfl (.rfl _) rfl (.c rfl (.rfl _) rfl (.c rfl (.rfl _) rfl (.c rfl (.rfl _) rfl .n)))))) (.c rfl (.rfl _) rfl rfl .n) rfl rfl rfl) ?_
    rintro ⟨v6, v7⟩ s_ hr
    have h : slices_BinarySearchFunc_int__accrue_Rate_1.b0 x0 x1 v6 v7 = some s_ := hr
    unfold slices_BinarySearchFunc_int__accrue_Rate_1.b0 at h
    refine W.seq ?_
    refine W.seq ?_
    refine W.pk ?_
    refine .v rfl rfl (OpL.move (.inl rfl) rfl) ?_
    refine .v rfl rfl (OpL.move (.inl rfl) rfl) ?_
    refine .v rfl rfl (OpL.binI rfl rfl rfl rfl) ?_
    refine .nil ?_
    refine W.cond rfl (fun q22 => ?_) (fun q22 => ?_)
    · have h := ifT q22 h
      refine W.skip ?_
      refine W.block ?_
      refine W.seq ?_
      refine W.pk ?_
      refine .v rfl rfl (OpL.move (.inl rfl) rfl) ?_
      refine .v rfl rfl (OpL.move (.inl rfl) rfl) ?_
      refine .v rfl rfl (OpL.binI rfl rfl rfl rfl) ?_
      refine .v rfl rfl (O.conv h3 u82 rfl rfl) ?_
      refine .v rfl rfl (O.shr (by decide) rfl rfl rfl) ?_
      refine .v rfl rfl (O.conv h82 u3 rfl rfl) ?_
      refine .v rfl rfl (OpL.move (.inr rfl) rfl) ?_
      refine .nil ?_
      refine W.seq ?_
      obtain ⟨c23, h⟩ := chk h
      obtain ⟨t24, b25, h⟩ := bnd1 h
      refine W.pk ?_
      refine .v rfl rfl (OpL.move (.inl rfl) rfl) ?_
      refine .v rfl rfl (OpL.move (.inl rfl) rfl) ?_
      refine .v rfl rfl (OpL.move (.inl rfl) rfl) ?_
      refine .v rfl rfl (O.idxO sl40 c23 rfl rfl rfl rfl) ?_
      refine .v rfl rfl (O.ldEN ty50 c23 rfl rfl rfl rfl rfl) ?_
      refine .v rfl rfl (OpL.move (.inl rfl) rfl) ?_
      refine .call (.imm (.val (.int .i64 t24))) [] 0 (accrue_Rate_1_v2.ok b25) rfl rfl rfl ca44 rfl rfl (cC (.agg _ _ _ _ (cC (.imm _) (cC (.imm _) .nil))) (cC (.imm _) .nil)) rfl rfl rfl rfl rfl ?_
      refine .v rfl rfl (OpL.binI rfl rfl rfl rfl) ?_
      refine .nil ?_
      refine W.cond rfl (fun q26 => ?_) (fun q26 => ?_)
      · have h := ifT q26 h
        refine W.pk ?_
        refine .v rfl rfl (OpL.move (.inl rfl) rfl) ?_
        refine .v rfl rfl (OpL.binI rfl rfl rfl rfl) ?_
        refine .v rfl rfl (OpL.move (.inr rfl) rfl) ?_
        refine .nil ?_
        cases h
        exact rdN (Gives.mkR [] (.c rfl (.rfl _) rfl (.c rfl (.rfl _) rfl (.c rfl (.rfl _) rfl (.c rfl (.rfl _) rfl (.c rfl (.rfl _) rfl (.c rfl (.rfl _) rfl .n)))))) (.c rfl (.rfl _) rfl rfl .n) rfl rfl rfl)
      · have h := ifF q26 h
        refine W.pk ?_
        refine .v rfl rfl (OpL.move (.inl rfl) rfl) ?_
        refine .v rfl rfl (OpL.move (.inr rfl) rfl) ?_
        refine .nil ?_
        cases h
        exact rdN (Gives.mkR [] (.c rfl (.rfl _) rfl (.c rfl (.rfl _) rfl (.c rfl (.rfl _) rfl (.c rfl (.rfl _) rfl (.c rfl (.rfl _) rfl (.c rfl (.rfl _) rfl .n)))))) (.c rfl (.rfl _) rfl rfl .n) rfl rfl rfl)
    · have h := ifF q22 h
      refine W.exit ?_
      cases h
      refine rdX fun e_ => ?_
      subst e_
      refine hit ?_
      exact toN (Gives.mkR [] (.c rfl (.rfl _) rfl (.c rfl (.rfl _) rfl (.c rfl (.rfl _) rfl (.c rfl (.rfl _) rfl (.c rfl (.rfl _) rfl .n))))) (.c rfl (.rfl _) rfl rfl .n) rfl rfl rfl)

set_option maxRecDepth 100000 in
set_option maxHeartbeats 4000000 in
theorem accrue_Rate_v2.ok {x0 : List api_Reset} {x1 : Int} {r : Int × Bool} (h : accrue_Rate.f x0 x1 = some r) : Pm.Spec prog 20 [.xown 50 2 (List.map api_Reset.enc x0), .imm (.val (.int .i64 x1))] (.tup [.imm (.val (.int .i64 r.1)), .imm (.val (.bool r.2))]) [some (.xown 50 2 (List.map api_Reset.enc x0)), none] := by
  unfold accrue_Rate.f at h
  refine Pm.Spec.of_body Try.func20 rfl (by kernel_rfl) (Nat.le_of_ble_eq_true rfl) (Nat.le_of_ble_eq_true rfl) ?_
  refine W.ghost (σ' := (mkSt [(0, some (.own 0)), (1, some (.imm (.val (.int .i64 x1))))] [(0, some (.rows 50 2 (List.map api_Reset.enc x0) false))] 1000)) (Gives.entry (.c rfl (.c rfl .n)) (.c rfl .n)) ?_
  refine W.seq ?_
  refine W.pk ?_
  refine .v rfl rfl (OpL.move (.inr rfl) rfl) ?_
  refine .v rfl rfl (OpL.move (.inr rfl) rfl) ?_
  refine .nil ?_
  refine W.seq ?_
  obtain ⟨t1, b2, h⟩ := bnd1 h
  refine W.pk ?_
  refine .v rfl rfl (OpL.move (.inl rfl) rfl) ?_
  refine .v rfl rfl (OpL.move (.inl rfl) rfl) ?_
  refine .call (.tup [.imm (.val (.int .i64 t1.1)), .imm (.val (.bool t1.2))]) [(0, some (.rows 50 2 (List.map api_Reset.enc x0) false)), (0, none)] 0 (slices_BinarySearchFunc_int__accrue_Rate_1_v2.ok b2) rfl rfl rfl ca43 rfl rfl (cC (.own _ _ _ _ rfl) (cC (.imm _) (cC (.fn _ _ _ _ _ .nil) .nil))) rfl rfl rfl rfl rfl ?_
  refine .v rfl rfl (OpL.move (.inl rfl) rfl) ?_
  refine .v rfl rfl (OpL.extract rfl rfl rfl) ?_
  refine .v rfl rfl (OpL.extract rfl rfl rfl) ?_
  refine .v rfl rfl (OpL.move (.inr rfl) rfl) ?_
  refine .v rfl rfl (OpL.move (.inr rfl) rfl) ?_
  refine .nil ?_
  refine W.seq ?_
  refine W.seq ?_
  refine W.pk ?_
  refine .v rfl rfl (OpL.move (.inl rfl) rfl) ?_
  refine .v rfl rfl (OpL.unV rfl rfl rfl) ?_
  refine .nil ?_
  obtain ⟨o5, b6, h⟩ := bnd1 h
  refine W.fork (mkSt [(0, some (.own 0)), (6, some (.imm (.val (.int .i64 o5))))] [(0, some (.rows 50 2 (List.map api_Reset.enc x0) false))] 1000) ?_ ?_
  · refine W.seq ?_
    refine W.seq ?_
    refine W.pk ?_
    refine .v rfl rfl (OpL.move (.inl rfl) rfl) ?_
    refine .v rfl rfl (OpL.binI rfl rfl rfl rfl) ?_
    refine .nil ?_
    refine W.cond rfl (fun q8 => ?_) (fun q8 => ?_)
    · have h := ifT q8 h
      refine W.seq ?_
      refine W.pk ?_
      refine .v rfl rfl (OpL.move (.inr rfl) rfl) ?_
      refine .v rfl rfl (OpL.move (.inr rfl) rfl) ?_
      refine .nil ?_
      refine W.ret ?_
      cases h
      exact leaves (.inr rfl) rfl (.tup _ _ _ _ (cC (.imm _) (cC (.imm _) .nil))) (cS (.own _ _ _ _ rfl) (cN .nil)) rfl rfl
    · have h := ifF q8 h
      refine W.skip ?_
      refine W.seq ?_
      obtain ⟨c9, h⟩ := chk h
      refine W.pk ?_
      refine .v rfl rfl (OpL.move (.inl rfl) rfl) ?_
      refine .v rfl rfl (OpL.move (.inl rfl) rfl) ?_
      refine .v rfl rfl (O.idxO sl40 c9 rfl rfl rfl rfl) ?_
      refine .v rfl rfl (O.fld fld50_1 rfl rfl rfl) ?_
      refine .v rfl rfl (O.ldE ty3 c9 rfl rfl rfl rfl rfl) ?_
      refine .v rfl rfl (OpL.move (.inr rfl) rfl) ?_
      refine .v rfl rfl (OpL.move (.inr rfl) rfl) ?_
      refine .nil ?_
      refine W.ret ?_
      cases h
      exact leaves (.inr rfl) rfl (.tup _ _ _ _ (cC (.imm _) (cC (.imm _) .nil))) (cS (.own _ _ _ _ rfl) (cN .nil)) rfl rfl
  · clear h
    have h := b6
    refine W.cond rfl (fun q7 => ?_) (fun q7 => ?_)
    · have h := ifT q7 h
      refine W.pk ?_
      refine .v rfl rfl (OpL.move (.inl rfl) rfl) ?_
      refine .v rfl rfl (OpL.binI rfl rfl rfl rfl) ?_
      refine .v rfl rfl (OpL.move (.inr rfl) rfl) ?_
      refine .nil ?_
      cases h
      exact toN (Gives.mkR [] (.c rfl (.rfl _) rfl (.c rfl (.rfl _) rfl .n)) (.c rfl (.rfl _) rfl rfl .n) rfl rfl rfl)
    · have h := ifF q7 h
      refine W.skip ?_
      cases h
      exact toN (Gives.mkR [] (.c rfl (.rfl _) rfl (.c rfl (.rfl _) rfl .n)) (.c rfl (.rfl _) rfl rfl .n) rfl rfl rfl)

set_option maxRecDepth 100000 in
set_option maxHeartbeats 4000000 in
theorem accrue_Run_v2.ok {x0 : Int} {x1 : List api_Reset} {x2 : Int} {x3 : Int} {r : accrue_Meter × Int} (h : accrue_Run.f x0 x1 x2 x3 = some r) : Pm.Spec prog 22 [.imm (.val (.int .i64 x0)), .xown 50 2 (List.map api_Reset.enc x1), .imm (.val (.int .i64 x2)), .imm (.val (.int .i64 x3))] (.tup [.agg [.imm (.val (.int .i64 r.1.Units)), .imm (.val (.int .i64 r.1.Rest))], .imm (.val (.int .i64 r.2))]) [none, some (.xown 50 2 (List.map api_Reset.enc x1)), none, none] := by
  unfold accrue_Run.f at h
  refine Pm.Spec.of_body Try.func22 rfl (by kernel_rfl) (Nat.le_of_ble_eq_true rfl) (Nat.le_of_ble_eq_true rfl) ?_
  refine W.ghost (σ' := (mkSt [(0, some (.imm (.val (.int .i64 x0)))), (1, some (.own 0)), (2, some (.imm (.val (.int .i64 x2)))), (3, some (.imm (.val (.int .i64 x3))))] [(0, some (.rows 50 2 (List.map api_Reset.enc x1) false))] 1000)) (Gives.entry (.c rfl (.c rfl (.c rfl (.c rfl .n)))) (.c rfl .n)) ?_
  refine W.seq ?_
  refine W.pk ?_
  refine .t rfl rfl (O.alloc z31 rfl) ?_
  refine .v rfl rfl (OpL.move (.inr rfl) rfl) ?_
  refine .nil ?_
  refine W.seq ?_
  refine W.seq ?_
  obtain ⟨t1, b2, h⟩ := bnd1 h
  refine W.pk ?_
  refine .v rfl rfl (OpL.move (.inl rfl) rfl) ?_
  refine .call (.imm (.val (.int .i64 t1))) [(0, some (.rows 50 2 (List.map api_Reset.enc x1) false)), (0, none)] 0 (accrue_Check_v2.ok b2) rfl rfl rfl ca18 rfl rfl (cC (.own _ _ _ _ rfl) .nil) rfl rfl rfl rfl rfl ?_
  refine .v rfl rfl (OpL.move (.inr rfl) rfl) ?_
  refine .nil ?_
  refine W.seq ?_
  refine W.pk ?_
  refine .v rfl rfl (OpL.move (.inl rfl) rfl) ?_
  refine .v rfl rfl (OpL.binI rfl rfl rfl rfl) ?_
  refine .nil ?_
  refine W.cond rfl (fun q3 => ?_) (fun q3 => ?_)
  · have h := ifT q3 h
    refine W.seq ?_
    refine W.pk ?_
    refine .v rfl rfl (O.build (out := [.imm (.val (.int .i64 0)), .imm (.val (.int .i64 0))]) bl31 rfl rfl rfl rfl rfl) ?_
    refine .v rfl rfl (OpL.move (.inl rfl) rfl) ?_
    refine .s rfl rfl (O.st ty31 rfl rfl rfl rfl rfl rfl rfl rfl rfl rfl (all' := [.imm (.val (.int .i64 0)), .imm (.val (.int .i64 0))]) rfl) ?_
    refine .v rfl rfl (OpL.move (.inr rfl) rfl) ?_
    refine .nil ?_
    refine W.ret ?_
    cases h
    exact leaves (.inr rfl) rfl (.tup _ _ _ _ (cC (.agg _ _ _ _ (cC (.imm _) (cC (.imm _) .nil))) (cC (.imm _) .nil))) (cN (cS (.own _ _ _ _ rfl) (cN (cN .nil)))) rfl rfl
  · have h := ifF q3 h
    refine W.skip ?_
    refine W.seq ?_
    refine W.block ?_
    refine W.seq ?_
    obtain ⟨t4, b5, h⟩ := bnd1 h
    obtain ⟨t6, b7, h⟩ := bnd1 h
    obtain ⟨c8, h⟩ := chk h
    refine W.fork (mkSt [(0, some (.imm (.val (.int .i64 x0)))), (1, some (.own 0)), (2, some (.imm (.val (.int .i64 x2)))), (3, some (.imm (.val (.int .i64 x3)))), (8, some (.ptr 1000 0)), (22, some (.imm (.val (.bool (((((!t4) || (!t6)) || (decide (x2 > x3))) || (decide ((IntKind.wrap .i64 (x3 - x2)) > 3660))) || (decide (x2 < ((nth x1 0).Day))))))))] [(0, some (.rows 50 2 (List.map api_Reset.enc x1) false)), (1000, some (.box [.imm (.val (.int .i64 0)), .imm (.val (.int .i64 0))]))] 1001) ?_ ?_
    · refine W.cond rfl (fun q13 => ?_) (fun q13 => ?_)
      · have h := ifT q13 h
        refine W.seq ?_
        refine W.pk ?_
        refine .v rfl rfl (O.build (out := [.imm (.val (.int .i64 0)), .imm (.val (.int .i64 0))]) bl31 rfl rfl rfl rfl rfl) ?_
        refine .s rfl rfl (O.st ty31 rfl rfl rfl rfl rfl rfl rfl rfl rfl rfl (all' := [.imm (.val (.int .i64 0)), .imm (.val (.int .i64 0))]) rfl) ?_
        refine .v rfl rfl (OpL.move (.inr rfl) rfl) ?_
        refine .nil ?_
        refine W.ret ?_
        cases h
        exact leaves (.inr rfl) rfl (.tup _ _ _ _ (cC (.agg _ _ _ _ (cC (.imm _) (cC (.imm _) .nil))) (cC (.imm _) .nil))) (cN (cS (.own _ _ _ _ rfl) (cN (cN .nil)))) rfl rfl
      · have h := ifF q13 h
        refine W.seq ?_
        refine W.fork (mkSt [(0, some (.imm (.val (.int .i64 x0)))), (1, some (.own 0)), (2, some (.imm (.val (.int .i64 x2)))), (3, some (.imm (.val (.int .i64 x3)))), (8, some (.ptr 1000 0)), (51, some (.imm (.val (.bool ((decide (x0 < 0)) || (decide (x0 > 1125899906842624)))))))] [(0, some (.rows 50 2 (List.map api_Reset.enc x1) false)), (1000, some (.box [.imm (.val (.int .i64 0)), .imm (.val (.int .i64 0))]))] 1001) ?_ ?_
        · refine W.cond rfl (fun q15 => ?_) (fun q15 => ?_)
          · have h := ifT q15 h
            refine W.seq ?_
            refine W.pk ?_
            refine .v rfl rfl (O.build (out := [.imm (.val (.int .i64 0)), .imm (.val (.int .i64 0))]) bl31 rfl rfl rfl rfl rfl) ?_
            refine .s rfl rfl (O.st ty31 rfl rfl rfl rfl rfl rfl rfl rfl rfl rfl (all' := [.imm (.val (.int .i64 0)), .imm (.val (.int .i64 0))]) rfl) ?_
            refine .v rfl rfl (OpL.move (.inr rfl) rfl) ?_
            refine .nil ?_
            refine W.ret ?_
            cases h
            exact leaves (.inr rfl) rfl (.tup _ _ _ _ (cC (.agg _ _ _ _ (cC (.imm _) (cC (.imm _) .nil))) (cC (.imm _) .nil))) (cN (cS (.own _ _ _ _ rfl) (cN (cN .nil)))) rfl rfl
          · have h := ifF q15 h
            refine W.skip ?_
            refine W.seq ?_
            refine W.pk ?_
            refine .t rfl rfl (O.alloc z31 rfl) ?_
            refine .nil ?_
            refine W.seq ?_
            refine W.pk ?_
            refine .v rfl rfl (OpL.move (.inr rfl) rfl) ?_
            refine .nil ?_
            refine W.seq ?_
            refine W.seq ?_
            refine W.pk ?_
            refine .v rfl rfl (OpL.move (.inl rfl) rfl) ?_
            refine .v rfl rfl (OpL.move (.inr rfl) rfl) ?_
            refine .nil ?_
            obtain ⟨o38, b39, z40⟩ := bnd1 h
            refine W.fork2 (out := o38) (fun (w37 : Int × Int) => mkSt [(8, some (.ptr 1000 0)), (11, some (.ptr 1001 0))] [(0, some (.rows 50 2 (List.map api_Reset.enc x1) false)), (1000, some (.box [.imm (.val (.int .i64 0)), .imm (.val (.int .i64 0))])), (1001, some (.box [.imm (.val (.int .i64 w37.1)), .imm (.val (.int .i64 w37.2))]))] 1002) ?_ ?_
            · clear h
              refine W.block ?_
              refine W.loopF (fun (s_ : Int × Int × Int) => mkSt [(0, some (.imm (.val (.int .i64 x0)))), (1, some (.own 0)), (3, some (.imm (.val (.int .i64 x3)))), (8, some (.ptr 1000 0)), (11, some (.ptr 1001 0)), (13, some (.imm (.val (.int .i64 s_.1))))] [(0, some (.rows 50 2 (List.map api_Reset.enc x1) false)), (1000, some (.box [.imm (.val (.int .i64 0)), .imm (.val (.int .i64 0))])), (1001, some (.box [.imm (.val (.int .i64 s_.2.1)), .imm (.val (.int .i64 s_.2.2))]))] 1002) b39 (Gives.mkR [] (.c rfl (.rfl _) rfl (.c rfl (.rfl _) rfl (.c rfl (.rfl _) rfl (.c rfl (.rfl _) rfl (.c rfl (.rfl _) rfl (.c rfl (.rfl _) rfl .n)))))) (.c rfl (.rfl _) rfl rfl (.c rfl (.rfl _) rfl rfl (.c rfl (.rfl _) rfl rfl .n))) rfl rfl rfl) ?_
              rintro ⟨v22, v23, v24⟩ s_ hr
              have h : accrue_Run.b0 x0 x1 x3 v22 v23 v24 = some s_ := hr
              unfold accrue_Run.b0 at h
              refine W.seq ?_
              refine W.seq ?_
              refine W.pk ?_
              refine .v rfl rfl (OpL.move (.inl rfl) rfl) ?_
              refine .v rfl rfl (OpL.move (.inl rfl) rfl) ?_
              refine .v rfl rfl (OpL.binI rfl rfl rfl rfl) ?_
              refine .nil ?_
              refine W.cond rfl (fun q41 => ?_) (fun q41 => ?_)
              · have h := ifT q41 h
                refine W.skip ?_
                refine W.seq ?_
                refine W.block ?_
                refine W.seq ?_
                obtain ⟨t42, b43, h⟩ := bnd1 h
                refine W.pk ?_
                refine .v rfl rfl (OpL.move (.inl rfl) rfl) ?_
                refine .v rfl rfl (OpL.move (.inl rfl) rfl) ?_
                refine .call (.tup [.imm (.val (.int .i64 t42.1)), .imm (.val (.bool t42.2))]) [(0, some (.rows 50 2 (List.map api_Reset.enc x1) false)), (0, none)] 0 (accrue_Rate_v2.ok b43) rfl rfl rfl ca20 rfl rfl (cC (.own _ _ _ _ rfl) (cC (.imm _) .nil)) rfl rfl rfl rfl rfl ?_
                refine .v rfl rfl (OpL.move (.inl rfl) rfl) ?_
                refine .v rfl rfl (OpL.extract rfl rfl rfl) ?_
                refine .v rfl rfl (OpL.extract rfl rfl rfl) ?_
                refine .v rfl rfl (OpL.move (.inr rfl) rfl) ?_
                refine .v rfl rfl (OpL.move (.inr rfl) rfl) ?_
                refine .nil ?_
                refine W.seq ?_
                obtain ⟨t44, b45, h⟩ := bnd1 h
                refine W.pk ?_
                refine .v rfl rfl (O.ldN ty31 rfl rfl rfl) ?_
                refine .v rfl rfl (OpL.move (.inl rfl) rfl) ?_
                refine .v rfl rfl (OpL.move (.inl rfl) rfl) ?_
                refine .call (.tup [.agg [.imm (.val (.int .i64 t44.1.Units)), .imm (.val (.int .i64 t44.1.Rest))], .imm (.val (.int .i64 t44.2))]) [] 0 (accrue_Meter_Day.ok b45) rfl rfl rfl ca13 rfl rfl (cC (.agg _ _ _ _ (cC (.imm _) (cC (.imm _) .nil))) (cC (.imm _) (cC (.imm _) .nil))) rfl rfl rfl rfl rfl ?_
                refine .v rfl rfl (OpL.move (.inl rfl) rfl) ?_
                refine .v rfl rfl (OpL.extract rfl rfl rfl) ?_
                refine .v rfl rfl (OpL.extract rfl rfl rfl) ?_
                refine .s rfl rfl (O.st ty31 rfl rfl rfl rfl rfl rfl rfl rfl rfl rfl (all' := [.imm (.val (.int .i64 t44.1.Units)), .imm (.val (.int .i64 t44.1.Rest))]) rfl) ?_
                refine .v rfl rfl (OpL.move (.inr rfl) rfl) ?_
                refine .nil ?_
                refine W.seq ?_
                refine W.pk ?_
                refine .v rfl rfl (OpL.move (.inl rfl) rfl) ?_
                refine .v rfl rfl (OpL.binI rfl rfl rfl rfl) ?_
                refine .nil ?_
                refine W.cond rfl (fun q46 => ?_) (fun q46 => ?_)
                · have h := ifT q46 h
                  refine W.seq ?_
                  refine W.pk ?_
                  refine .v rfl rfl (O.build (out := [.imm (.val (.int .i64 0)), .imm (.val (.int .i64 0))]) bl31 rfl rfl rfl rfl rfl) ?_
                  refine .v rfl rfl (OpL.move (.inl rfl) rfl) ?_
                  refine .s rfl rfl (O.st ty31 rfl rfl rfl rfl rfl rfl rfl rfl rfl rfl (all' := [.imm (.val (.int .i64 0)), .imm (.val (.int .i64 0))]) rfl) ?_
                  refine .v rfl rfl (OpL.move (.inr rfl) rfl) ?_
                  refine .nil ?_
                  refine W.ret ?_
                  cases h
                  refine rdR fun e_ => ?_
                  subst e_
                  have h := z40
                  dsimp only at h
                  refine fkR ?_
                  cases h
                  exact leaves (.inr rfl) rfl (.tup _ _ _ _ (cC (.agg _ _ _ _ (cC (.imm _) (cC (.imm _) .nil))) (cC (.imm _) .nil))) (cN (cS (.own _ _ _ _ rfl) (cN (cN .nil)))) rfl rfl
                · have h := ifF q46 h
                  refine W.skip ?_
                  refine W.pk ?_
                  refine .v rfl rfl (OpL.move (.inl rfl) rfl) ?_
                  refine .v rfl rfl (OpL.binI rfl rfl rfl rfl) ?_
                  refine .v rfl rfl (OpL.move (.inr rfl) rfl) ?_
                  refine .nil ?_
                  cases h
                  exact rdN (Gives.mkR [] (.c rfl (.rfl _) rfl (.c rfl (.rfl _) rfl (.c rfl (.rfl _) rfl (.c rfl (.rfl _) rfl (.c rfl (.rfl _) rfl (.c rfl (.rfl _) rfl .n)))))) (.c rfl (.rfl _) rfl rfl (.c rfl (.rfl _) rfl rfl (.c rfl (.rfl _) rfl rfl .n))) rfl rfl rfl)
              · have h := ifF q41 h
                refine W.exit ?_
                cases h
                refine rdX fun e_ => ?_
                subst e_
                refine hit ?_
                exact fkN (Gives.mkR [] (.c rfl (.rfl _) rfl (.c rfl (.rfl _) rfl .n)) (.c rfl (.rfl _) rfl rfl (.c rfl (.rfl _) rfl rfl (.c rfl (.rfl _) rfl rfl .n))) rfl rfl rfl)
            · intro w37 e_
              subst e_
              clear h
              have h := z40
              dsimp only at h
              refine W.seq ?_
              refine W.pk ?_
              refine .v rfl rfl (O.ldN ty31 rfl rfl rfl) ?_
              refine .s rfl rfl (O.st ty31 rfl rfl rfl rfl rfl rfl rfl rfl rfl rfl (all' := [.imm (.val (.int .i64 w37.1)), .imm (.val (.int .i64 w37.2))]) rfl) ?_
              refine .v rfl rfl (OpL.move (.inr rfl) rfl) ?_
              refine .nil ?_
              refine W.ret ?_
              cases h
              exact leaves (.inr rfl) rfl (.tup _ _ _ _ (cC (.agg _ _ _ _ (cC (.imm _) (cC (.imm _) .nil))) (cC (.imm _) .nil))) (cN (cS (.own _ _ _ _ rfl) (cN (cN .nil)))) rfl rfl
        · clear h
          rcases tf (decide (x0 < 0)) with g14 | g14
          · refine W.pk ?_
            refine .v rfl rfl (OpL.move (.inl rfl) rfl) ?_
            refine .v rfl rfl (OpL.binI rfl rfl rfl rfl) ?_
            refine .v rfl rfl (OpL.move (.inl rfl) rfl) ?_
            refine .x rfl (unmet rfl rfl rfl g14) ?_
            refine .x rfl (unmet rfl rfl rfl g14) ?_
            refine .v rfl rfl (O.pickT g14 rfl rfl rfl) ?_
            refine .v rfl rfl (OpL.move (.inr rfl) rfl) ?_
            refine .nil ?_
            exact toN (Gives.mkR [] (.c rfl (.rfl _) rfl (.c rfl (.rfl _) rfl (.c rfl (.rfl _) rfl (.c rfl (.rfl _) rfl (.c rfl (.rfl _) rfl (.c rfl (sbb (by simp only [g14, Bool.true_or, Bool.or_true, Bool.false_or, Bool.or_false, Bool.true_and, Bool.and_true, Bool.false_and, Bool.and_false, Bool.not_true, Bool.not_false, cond_true, cond_false])) rfl .n)))))) (.c rfl (.rfl _) rfl rfl (.c rfl (.rfl _) rfl rfl .n)) rfl rfl rfl)
          · refine W.pk ?_
            refine .v rfl rfl (OpL.move (.inl rfl) rfl) ?_
            refine .v rfl rfl (OpL.binI rfl rfl rfl rfl) ?_
            refine .v rfl rfl (OpL.move (.inl rfl) rfl) ?_
            refine .v rfl (met rfl rfl rfl g14) (OpL.move (.inl rfl) rfl) ?_
            refine .v rfl (met rfl rfl rfl g14) (OpL.binI rfl rfl rfl rfl) ?_
            refine .v rfl rfl (O.pickF g14 rfl rfl rfl) ?_
            refine .v rfl rfl (OpL.move (.inr rfl) rfl) ?_
            refine .nil ?_
            exact toN (Gives.mkR [] (.c rfl (.rfl _) rfl (.c rfl (.rfl _) rfl (.c rfl (.rfl _) rfl (.c rfl (.rfl _) rfl (.c rfl (.rfl _) rfl (.c rfl (sbb (by simp only [g14, Bool.true_or, Bool.or_true, Bool.false_or, Bool.or_false, Bool.true_and, Bool.and_true, Bool.false_and, Bool.and_false, Bool.not_true, Bool.not_false, cond_true, cond_false])) rfl .n)))))) (.c rfl (.rfl _) rfl rfl (.c rfl (.rfl _) rfl rfl .n)) rfl rfl rfl)
    · clear h
      rcases tf t4 with g9 | g9
      · rcases tf t6 with g10 | g10
        · rcases tf (decide (x2 > x3)) with g11 | g11
          · refine W.pk ?_
            refine .v rfl rfl (OpL.move (.inl rfl) rfl) ?_
            refine .call (.imm (.val (.bool t4))) [] 0 (calendar_Good.ok b5) rfl rfl rfl ca41 rfl rfl (cC (.imm _) .nil) rfl rfl rfl rfl rfl ?_
            refine .v rfl rfl (OpL.unV rfl rfl rfl) ?_
            refine .v rfl rfl (OpL.move (.inl rfl) rfl) ?_
            refine .v rfl (met rfl rfl rfl (notT g9)) (OpL.move (.inl rfl) rfl) ?_
            refine .call (.imm (.val (.bool t6))) [] 0 (calendar_Good.ok ((if_pos (by simp only [g9, g10, g11, Bool.true_or, Bool.or_true, Bool.false_or, Bool.or_false, Bool.true_and, Bool.and_true, Bool.false_and, Bool.and_false, Bool.not_true, Bool.not_false, cond_true, cond_false])).symm.trans b7)) rfl (met rfl rfl rfl (notT g9)) rfl ca41 rfl rfl (cC (.imm _) .nil) rfl rfl rfl rfl rfl ?_
            refine .v rfl (met rfl rfl rfl (notT g9)) (OpL.unV rfl rfl rfl) ?_
            refine .v rfl rfl (O.pickF (notT g9) rfl rfl rfl) ?_
            refine .v rfl rfl (OpL.move (.inl rfl) rfl) ?_
            refine .v rfl (met rfl rfl rfl (notT g10)) (OpL.move (.inl rfl) rfl) ?_
            refine .v rfl (met rfl rfl rfl (notT g10)) (OpL.move (.inl rfl) rfl) ?_
            refine .v rfl (met rfl rfl rfl (notT g10)) (OpL.binI rfl rfl rfl rfl) ?_
            refine .v rfl rfl (O.pickF (notT g10) rfl rfl rfl) ?_
            refine .v rfl rfl (OpL.move (.inl rfl) rfl) ?_
            refine .x rfl (unmet rfl rfl rfl g11) ?_
            refine .x rfl (unmet rfl rfl rfl g11) ?_
            refine .x rfl (unmet rfl rfl rfl g11) ?_
            refine .x rfl (unmet rfl rfl rfl g11) ?_
            refine .v rfl rfl (O.pickT g11 rfl rfl rfl) ?_
            refine .v rfl rfl (OpL.move (.inl rfl) rfl) ?_
            refine .x rfl (unmet rfl rfl rfl rfl) ?_
            refine .x rfl (unmet rfl rfl rfl rfl) ?_
            refine .x rfl (unmet rfl rfl rfl rfl) ?_
            refine .x rfl (unmet rfl rfl rfl rfl) ?_
            refine .x rfl (unmet rfl rfl rfl rfl) ?_
            refine .x rfl (unmet rfl rfl rfl rfl) ?_
            refine .v rfl rfl (O.pickT rfl rfl rfl rfl) ?_
            refine .v rfl rfl (OpL.move (.inr rfl) rfl) ?_
            refine .nil ?_
            exact toN (Gives.mkR [] (.c rfl (.rfl _) rfl (.c rfl (.rfl _) rfl (.c rfl (.rfl _) rfl (.c rfl (.rfl _) rfl (.c rfl (.rfl _) rfl (.c rfl (sbb (by simp only [g9, g10, g11, Bool.true_or, Bool.or_true, Bool.false_or, Bool.or_false, Bool.true_and, Bool.and_true, Bool.false_and, Bool.and_false, Bool.not_true, Bool.not_false, cond_true, cond_false])) rfl .n)))))) (.c rfl (.rfl _) rfl rfl (.c rfl (.rfl _) rfl rfl .n)) rfl rfl rfl)
          · rcases tf (decide ((IntKind.wrap .i64 (x3 - x2)) > 3660)) with g12 | g12
            · refine W.pk ?_
              refine .v rfl rfl (OpL.move (.inl rfl) rfl) ?_
              refine .call (.imm (.val (.bool t4))) [] 0 (calendar_Good.ok b5) rfl rfl rfl ca41 rfl rfl (cC (.imm _) .nil) rfl rfl rfl rfl rfl ?_
              refine .v rfl rfl (OpL.unV rfl rfl rfl) ?_
              refine .v rfl rfl (OpL.move (.inl rfl) rfl) ?_
              refine .v rfl (met rfl rfl rfl (notT g9)) (OpL.move (.inl rfl) rfl) ?_
              refine .call (.imm (.val (.bool t6))) [] 0 (calendar_Good.ok ((if_pos (by simp only [g9, g10, g11, g12, Bool.true_or, Bool.or_true, Bool.false_or, Bool.or_false, Bool.true_and, Bool.and_true, Bool.false_and, Bool.and_false, Bool.not_true, Bool.not_false, cond_true, cond_false])).symm.trans b7)) rfl (met rfl rfl rfl (notT g9)) rfl ca41 rfl rfl (cC (.imm _) .nil) rfl rfl rfl rfl rfl ?_
              refine .v rfl (met rfl rfl rfl (notT g9)) (OpL.unV rfl rfl rfl) ?_
              refine .v rfl rfl (O.pickF (notT g9) rfl rfl rfl) ?_
              refine .v rfl rfl (OpL.move (.inl rfl) rfl) ?_
              refine .v rfl (met rfl rfl rfl (notT g10)) (OpL.move (.inl rfl) rfl) ?_
              refine .v rfl (met rfl rfl rfl (notT g10)) (OpL.move (.inl rfl) rfl) ?_
              refine .v rfl (met rfl rfl rfl (notT g10)) (OpL.binI rfl rfl rfl rfl) ?_
              refine .v rfl rfl (O.pickF (notT g10) rfl rfl rfl) ?_
              refine .v rfl rfl (OpL.move (.inl rfl) rfl) ?_
              refine .v rfl (met rfl rfl rfl g11) (OpL.move (.inl rfl) rfl) ?_
              refine .v rfl (met rfl rfl rfl g11) (OpL.move (.inl rfl) rfl) ?_
              refine .v rfl (met rfl rfl rfl g11) (OpL.binI rfl rfl rfl rfl) ?_
              refine .v rfl (met rfl rfl rfl g11) (OpL.binI rfl rfl rfl rfl) ?_
              refine .v rfl rfl (O.pickF g11 rfl rfl rfl) ?_
              refine .v rfl rfl (OpL.move (.inl rfl) rfl) ?_
              refine .x rfl (unmet rfl rfl rfl g12) ?_
              refine .x rfl (unmet rfl rfl rfl g12) ?_
              refine .x rfl (unmet rfl rfl rfl g12) ?_
              refine .x rfl (unmet rfl rfl rfl g12) ?_
              refine .x rfl (unmet rfl rfl rfl g12) ?_
              refine .x rfl (unmet rfl rfl rfl g12) ?_
              refine .v rfl rfl (O.pickT g12 rfl rfl rfl) ?_
              refine .v rfl rfl (OpL.move (.inr rfl) rfl) ?_
              refine .nil ?_
              exact toN (Gives.mkR [] (.c rfl (.rfl _) rfl (.c rfl (.rfl _) rfl (.c rfl (.rfl _) rfl (.c rfl (.rfl _) rfl (.c rfl (.rfl _) rfl (.c rfl (sbb (by simp only [g9, g10, g11, g12, Bool.true_or, Bool.or_true, Bool.false_or, Bool.or_false, Bool.true_and, Bool.and_true, Bool.false_and, Bool.and_false, Bool.not_true, Bool.not_false, cond_true, cond_false])) rfl .n)))))) (.c rfl (.rfl _) rfl rfl (.c rfl (.rfl _) rfl rfl .n)) rfl rfl rfl)
            · refine W.pk ?_
              refine .v rfl rfl (OpL.move (.inl rfl) rfl) ?_
              refine .call (.imm (.val (.bool t4))) [] 0 (calendar_Good.ok b5) rfl rfl rfl ca41 rfl rfl (cC (.imm _) .nil) rfl rfl rfl rfl rfl ?_
              refine .v rfl rfl (OpL.unV rfl rfl rfl) ?_
              refine .v rfl rfl (OpL.move (.inl rfl) rfl) ?_
              refine .v rfl (met rfl rfl rfl (notT g9)) (OpL.move (.inl rfl) rfl) ?_
              refine .call (.imm (.val (.bool t6))) [] 0 (calendar_Good.ok ((if_pos (by simp only [g9, g10, g11, g12, Bool.true_or, Bool.or_true, Bool.false_or, Bool.or_false, Bool.true_and, Bool.and_true, Bool.false_and, Bool.and_false, Bool.not_true, Bool.not_false, cond_true, cond_false])).symm.trans b7)) rfl (met rfl rfl rfl (notT g9)) rfl ca41 rfl rfl (cC (.imm _) .nil) rfl rfl rfl rfl rfl ?_
              refine .v rfl (met rfl rfl rfl (notT g9)) (OpL.unV rfl rfl rfl) ?_
              refine .v rfl rfl (O.pickF (notT g9) rfl rfl rfl) ?_
              refine .v rfl rfl (OpL.move (.inl rfl) rfl) ?_
              refine .v rfl (met rfl rfl rfl (notT g10)) (OpL.move (.inl rfl) rfl) ?_
              refine .v rfl (met rfl rfl rfl (notT g10)) (OpL.move (.inl rfl) rfl) ?_
              refine .v rfl (met rfl rfl rfl (notT g10)) (OpL.binI rfl rfl rfl rfl) ?_
              refine .v rfl rfl (O.pickF (notT g10) rfl rfl rfl) ?_
              refine .v rfl rfl (OpL.move (.inl rfl) rfl) ?_
              refine .v rfl (met rfl rfl rfl g11) (OpL.move (.inl rfl) rfl) ?_
              refine .v rfl (met rfl rfl rfl g11) (OpL.move (.inl rfl) rfl) ?_
              refine .v rfl (met rfl rfl rfl g11) (OpL.binI rfl rfl rfl rfl) ?_
              refine .v rfl (met rfl rfl rfl g11) (OpL.binI rfl rfl rfl rfl) ?_
              refine .v rfl rfl (O.pickF g11 rfl rfl rfl) ?_
              refine .v rfl rfl (OpL.move (.inl rfl) rfl) ?_
              refine .v rfl (met rfl rfl rfl g12) (OpL.move (.inl rfl) rfl) ?_
              refine .v rfl (met rfl rfl rfl g12) (OpL.move (.inl rfl) rfl) ?_
              refine .v rfl (met rfl rfl rfl g12) (O.idxO sl40 (c8 (by simp only [g9, g10, g11, g12, Bool.true_or, Bool.or_true, Bool.false_or, Bool.or_false, Bool.true_and, Bool.and_true, Bool.false_and, Bool.and_false, Bool.not_true, Bool.not_false, cond_true, cond_false])) rfl rfl rfl rfl) ?_
              refine .v rfl (met rfl rfl rfl g12) (O.fld fld50_0 rfl rfl rfl) ?_
              refine .v rfl (met rfl rfl rfl g12) (O.ldE ty3 (c8 (by simp only [g9, g10, g11, g12, Bool.true_or, Bool.or_true, Bool.false_or, Bool.or_false, Bool.true_and, Bool.and_true, Bool.false_and, Bool.and_false, Bool.not_true, Bool.not_false, cond_true, cond_false])) rfl rfl rfl rfl rfl) ?_
              refine .v rfl (met rfl rfl rfl g12) (OpL.binI rfl rfl rfl rfl) ?_
              refine .v rfl rfl (O.pickF g12 rfl rfl rfl) ?_
              refine .v rfl rfl (OpL.move (.inr rfl) rfl) ?_
              refine .nil ?_
              exact toN (Gives.mkR [] (.c rfl (.rfl _) rfl (.c rfl (.rfl _) rfl (.c rfl (.rfl _) rfl (.c rfl (.rfl _) rfl (.c rfl (.rfl _) rfl (.c rfl (sbb (by simp only [g9, g10, g11, g12, Bool.true_or, Bool.or_true, Bool.false_or, Bool.or_false, Bool.true_and, Bool.and_true, Bool.false_and, Bool.and_false, Bool.not_true, Bool.not_false, cond_true, cond_false])) rfl .n)))))) (.c rfl (.rfl _) rfl rfl (.c rfl (.rfl _) rfl rfl .n)) rfl rfl rfl)
        · refine W.pk ?_
          refine .v rfl rfl (OpL.move (.inl rfl) rfl) ?_
          refine .call (.imm (.val (.bool t4))) [] 0 (calendar_Good.ok b5) rfl rfl rfl ca41 rfl rfl (cC (.imm _) .nil) rfl rfl rfl rfl rfl ?_
          refine .v rfl rfl (OpL.unV rfl rfl rfl) ?_
          refine .v rfl rfl (OpL.move (.inl rfl) rfl) ?_
          refine .v rfl (met rfl rfl rfl (notT g9)) (OpL.move (.inl rfl) rfl) ?_
          refine .call (.imm (.val (.bool t6))) [] 0 (calendar_Good.ok ((if_pos (by simp only [g9, g10, Bool.true_or, Bool.or_true, Bool.false_or, Bool.or_false, Bool.true_and, Bool.and_true, Bool.false_and, Bool.and_false, Bool.not_true, Bool.not_false, cond_true, cond_false])).symm.trans b7)) rfl (met rfl rfl rfl (notT g9)) rfl ca41 rfl rfl (cC (.imm _) .nil) rfl rfl rfl rfl rfl ?_
          refine .v rfl (met rfl rfl rfl (notT g9)) (OpL.unV rfl rfl rfl) ?_
          refine .v rfl rfl (O.pickF (notT g9) rfl rfl rfl) ?_
          refine .v rfl rfl (OpL.move (.inl rfl) rfl) ?_
          refine .x rfl (unmet rfl rfl rfl (notF g10)) ?_
          refine .x rfl (unmet rfl rfl rfl (notF g10)) ?_
          refine .x rfl (unmet rfl rfl rfl (notF g10)) ?_
          refine .v rfl rfl (O.pickT (notF g10) rfl rfl rfl) ?_
          refine .v rfl rfl (OpL.move (.inl rfl) rfl) ?_
          refine .x rfl (unmet rfl rfl rfl rfl) ?_
          refine .x rfl (unmet rfl rfl rfl rfl) ?_
          refine .x rfl (unmet rfl rfl rfl rfl) ?_
          refine .x rfl (unmet rfl rfl rfl rfl) ?_
          refine .v rfl rfl (O.pickT rfl rfl rfl rfl) ?_
          refine .v rfl rfl (OpL.move (.inl rfl) rfl) ?_
          refine .x rfl (unmet rfl rfl rfl rfl) ?_
          refine .x rfl (unmet rfl rfl rfl rfl) ?_
          refine .x rfl (unmet rfl rfl rfl rfl) ?_
          refine .x rfl (unmet rfl rfl rfl rfl) ?_
          refine .x rfl (unmet rfl rfl rfl rfl) ?_
          refine .x rfl (unmet rfl rfl rfl rfl) ?_
          refine .v rfl rfl (O.pickT rfl rfl rfl rfl) ?_
          refine .v rfl rfl (OpL.move (.inr rfl) rfl) ?_
          refine .nil ?_
          exact toN (Gives.mkR [] (.c rfl (.rfl _) rfl (.c rfl (.rfl _) rfl (.c rfl (.rfl _) rfl (.c rfl (.rfl _) rfl (.c rfl (.rfl _) rfl (.c rfl (sbb (by simp only [g9, g10, Bool.true_or, Bool.or_true, Bool.false_or, Bool.or_false, Bool.true_and, Bool.and_true, Bool.false_and, Bool.and_false, Bool.not_true, Bool.not_false, cond_true, cond_false])) rfl .n)))))) (.c rfl (.rfl _) rfl rfl (.c rfl (.rfl _) rfl rfl .n)) rfl rfl rfl)
      · refine W.pk ?_
        refine .v rfl rfl (OpL.move (.inl rfl) rfl) ?_
        refine .call (.imm (.val (.bool t4))) [] 0 (calendar_Good.ok b5) rfl rfl rfl ca41 rfl rfl (cC (.imm _) .nil) rfl rfl rfl rfl rfl ?_
        refine .v rfl rfl (OpL.unV rfl rfl rfl) ?_
        refine .v rfl rfl (OpL.move (.inl rfl) rfl) ?_
        refine .x rfl (unmet rfl rfl rfl (notF g9)) ?_
        refine .x rfl (unmet rfl rfl rfl (notF g9)) ?_
        refine .x rfl (unmet rfl rfl rfl (notF g9)) ?_
        refine .v rfl rfl (O.pickT (notF g9) rfl rfl rfl) ?_
        refine .v rfl rfl (OpL.move (.inl rfl) rfl) ?_
        refine .x rfl (unmet rfl rfl rfl rfl) ?_
        refine .x rfl (unmet rfl rfl rfl rfl) ?_
        refine .x rfl (unmet rfl rfl rfl rfl) ?_
        refine .v rfl rfl (O.pickT rfl rfl rfl rfl) ?_
        refine .v rfl rfl (OpL.move (.inl rfl) rfl) ?_
        refine .x rfl (unmet rfl rfl rfl rfl) ?_
        refine .x rfl (unmet rfl rfl rfl rfl) ?_
        refine .x rfl (unmet rfl rfl rfl rfl) ?_
        refine .x rfl (unmet rfl rfl rfl rfl) ?_
        refine .v rfl rfl (O.pickT rfl rfl rfl rfl) ?_
        refine .v rfl rfl (OpL.move (.inl rfl) rfl) ?_
        refine .x rfl (unmet rfl rfl rfl rfl) ?_
        refine .x rfl (unmet rfl rfl rfl rfl) ?_
        refine .x rfl (unmet rfl rfl rfl rfl) ?_
        refine .x rfl (unmet rfl rfl rfl rfl) ?_
        refine .x rfl (unmet rfl rfl rfl rfl) ?_
        refine .x rfl (unmet rfl rfl rfl rfl) ?_
        refine .v rfl rfl (O.pickT rfl rfl rfl rfl) ?_
        refine .v rfl rfl (OpL.move (.inr rfl) rfl) ?_
        refine .nil ?_
        exact toN (Gives.mkR [] (.c rfl (.rfl _) rfl (.c rfl (.rfl _) rfl (.c rfl (.rfl _) rfl (.c rfl (.rfl _) rfl (.c rfl (.rfl _) rfl (.c rfl (sbb (by simp only [g9, Bool.true_or, Bool.or_true, Bool.false_or, Bool.or_false, Bool.true_and, Bool.and_true, Bool.false_and, Bool.and_false, Bool.not_true, Bool.not_false, cond_true, cond_false])) rfl .n)))))) (.c rfl (.rfl _) rfl rfl (.c rfl (.rfl _) rfl rfl .n)) rfl rfl rfl)
end Go.Proofs.Ytipgpnagfmlahaa
