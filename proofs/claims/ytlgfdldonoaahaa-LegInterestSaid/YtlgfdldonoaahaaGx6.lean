/- Shows what functions of the program come to, each as a plain function: written by a program of the author's for this claim. -/
import Derived.Test.YtlgfdldonoaahaaGx5
namespace Go.Proofs.Ytlgfdldonoaahaa
open Go Go.Pm
set_option linter.unusedVariables false
set_option linter.unusedSimpArgs false
noncomputable def accrue_Run.b0 (x0 : Int) (x1 : List api_Reset) (x3 : Int) (v22 : Int) (v23 : Int) (v24 : Int) : Option ((Int × Int × Int) ⊕ ((accrue_Meter × Int) ⊕ (Int × Int))) :=
  if (decide (v22 < x3)) = true then
    (accrue_Rate.f x1 v22).bind fun t42 =>
    (accrue_Meter_Day.f (⟨v23, v24⟩ : accrue_Meter) x0 t42.1).bind fun t44 =>
    if (t44.2 != 0) = true then
      some (.inr (.inl ((⟨0, 0⟩ : accrue_Meter), t44.2)))
    else
      some (.inl ((IntKind.wrap .i64 (v22 + 1)), t44.1.Units, t44.1.Rest))
  else
    some (.inr (.inr (v23, v24)))
noncomputable def accrue_Run.r0 (x0 : Int) (x1 : List api_Reset) (x3 : Int) (s : Int × Int × Int) : Option ((Int × Int × Int) ⊕ ((accrue_Meter × Int) ⊕ (Int × Int))) := accrue_Run.b0 x0 x1 x3 s.1 s.2.1 s.2.2
noncomputable def accrue_Run.f (x0 : Int) (x1 : List api_Reset) (x2 : Int) (x3 : Int) : Option (accrue_Meter × Int) :=
  (accrue_Check.f x1).bind fun t1 =>
  if (t1 != 0) = true then
    some ((⟨0, 0⟩ : accrue_Meter), t1)
  else
    (calendar_Good.f x2).bind fun t4 =>
    (if (!t4) = false then calendar_Good.f x3 else some default).bind fun t6 =>
    if (((((!t4) || (!t6)) || (decide (x2 > x3))) || (decide ((IntKind.wrap .i64 (x3 - x2)) > 3660))) = false → (0 : Int) ≤ 0 ∧ 0 < (List.length x1 : Int)) then
    if (((((!t4) || (!t6)) || (decide (x2 > x3))) || (decide ((IntKind.wrap .i64 (x3 - x2)) > 3660))) || (decide (x2 < ((nth x1 0).Day)))) = true then
      some ((⟨0, 0⟩ : accrue_Meter), 10)
    else
      if ((decide (x0 < 0)) || (decide (x0 > 1125899906842624))) = true then
        some ((⟨0, 0⟩ : accrue_Meter), 1)
      else
        (loop (accrue_Run.r0 x0 x1 x3) (x2, 0, 0)).bind fun o38 =>
        match o38 with
        | .inl r47 => some r47
        | .inr w37 =>
          some ((⟨w37.1, w37.2⟩ : accrue_Meter), 0)
    else none
set_option maxRecDepth 100000 in
set_option maxHeartbeats 4000000 in
theorem accrue_Run.ok {x0 : Int} {x1 : List api_Reset} {x2 : Int} {x3 : Int} {r : accrue_Meter × Int} (h : accrue_Run.f x0 x1 x2 x3 = some r) : Pm.Spec prog 80 [.imm (.val (.int .i64 x0)), .imm (.row 2 (List.map api_Reset.enc x1)), .imm (.val (.int .i64 x2)), .imm (.val (.int .i64 x3))] (.tup [.agg [.imm (.val (.int .i64 r.1.Units)), .imm (.val (.int .i64 r.1.Rest))], .imm (.val (.int .i64 r.2))]) [none, none, none, none] := by
  unfold accrue_Run.f at h
  refine Pm.Spec.of_body Try.func80 rfl (by kernel_rfl) (Nat.le_of_ble_eq_true rfl) (Nat.le_of_ble_eq_true rfl) ?_
  refine W.ghost (σ' := (mkSt [(0, some (.imm (.val (.int .i64 x0)))), (1, some (.imm (.row 2 (List.map api_Reset.enc x1)))), (2, some (.imm (.val (.int .i64 x2)))), (3, some (.imm (.val (.int .i64 x3))))] [] 1000)) (Gives.entry (.c rfl (.c rfl (.c rfl (.c rfl .n)))) .n) ?_
  refine W.seq ?_
  refine W.pk ?_
  refine .t rfl rfl (O.alloc z109 rfl) ?_
  refine .v rfl rfl (OpL.move (.inr rfl) rfl) ?_
  refine .nil ?_
  refine W.seq ?_
  refine W.seq ?_
  obtain ⟨t1, b2, h⟩ := bnd1 h
  refine W.pk ?_
  refine .v rfl rfl (OpL.move (.inl rfl) rfl) ?_
  refine .call (.imm (.val (.int .i64 t1))) [] 0 (accrue_Check.ok b2) rfl rfl rfl ca62 rfl rfl (cC (.imm _) .nil) rfl rfl rfl rfl rfl ?_
  refine .v rfl rfl (OpL.move (.inr rfl) rfl) ?_
  refine .nil ?_
  refine W.seq ?_
  refine W.pk ?_
  refine .v rfl rfl (OpL.move (.inl rfl) rfl) ?_
  refine .v rfl rfl (OpL.binI rfl rfl rfl rfl) ?_
  refine .nil ?_
  refine W.cond rfl (fun q3 => ?_) (fun q3 => ?_)
  · have h := ifT q3 h
    refine W.seq ?_
    refine W.pk ?_
    refine .v rfl rfl (O.build (out := [.imm (.val (.int .i64 0)), .imm (.val (.int .i64 0))]) bl109 rfl rfl rfl rfl rfl) ?_
    refine .v rfl rfl (OpL.move (.inl rfl) rfl) ?_
    refine .s rfl rfl (O.st ty109 rfl rfl rfl rfl rfl rfl rfl rfl rfl rfl (all' := [.imm (.val (.int .i64 0)), .imm (.val (.int .i64 0))]) rfl) ?_
    refine .v rfl rfl (OpL.move (.inr rfl) rfl) ?_
    refine .nil ?_
    refine W.ret ?_
    cases h
    exact leaves (.inr rfl) rfl (.tup _ _ _ _ (cC (.agg _ _ _ _ (cC (.imm _) (cC (.imm _) .nil))) (cC (.imm _) .nil))) (cN (cN (cN (cN .nil)))) rfl rfl
  · have h := ifF q3 h
    refine W.skip ?_
    refine W.seq ?_
    refine W.block ?_
    refine W.seq ?_
    obtain ⟨t4, b5, h⟩ := bnd1 h
    obtain ⟨t6, b7, h⟩ := bnd1 h
    obtain ⟨c8, h⟩ := chk h
    refine W.fork (mkSt [(0, some (.imm (.val (.int .i64 x0)))), (1, some (.imm (.row 2 (List.map api_Reset.enc x1)))), (2, some (.imm (.val (.int .i64 x2)))), (3, some (.imm (.val (.int .i64 x3)))), (8, some (.ptr 1000 0)), (22, some (.imm (.val (.bool (((((!t4) || (!t6)) || (decide (x2 > x3))) || (decide ((IntKind.wrap .i64 (x3 - x2)) > 3660))) || (decide (x2 < ((nth x1 0).Day))))))))] [(1000, some (.box [.imm (.val (.int .i64 0)), .imm (.val (.int .i64 0))]))] 1001) ?_ ?_
    · refine W.cond rfl (fun q13 => ?_) (fun q13 => ?_)
      · have h := ifT q13 h
        refine W.seq ?_
        refine W.pk ?_
        refine .v rfl rfl (O.build (out := [.imm (.val (.int .i64 0)), .imm (.val (.int .i64 0))]) bl109 rfl rfl rfl rfl rfl) ?_
        refine .s rfl rfl (O.st ty109 rfl rfl rfl rfl rfl rfl rfl rfl rfl rfl (all' := [.imm (.val (.int .i64 0)), .imm (.val (.int .i64 0))]) rfl) ?_
        refine .v rfl rfl (OpL.move (.inr rfl) rfl) ?_
        refine .nil ?_
        refine W.ret ?_
        cases h
        exact leaves (.inr rfl) rfl (.tup _ _ _ _ (cC (.agg _ _ _ _ (cC (.imm _) (cC (.imm _) .nil))) (cC (.imm _) .nil))) (cN (cN (cN (cN .nil)))) rfl rfl
      · have h := ifF q13 h
        refine W.seq ?_
        refine W.fork (mkSt [(0, some (.imm (.val (.int .i64 x0)))), (1, some (.imm (.row 2 (List.map api_Reset.enc x1)))), (2, some (.imm (.val (.int .i64 x2)))), (3, some (.imm (.val (.int .i64 x3)))), (8, some (.ptr 1000 0)), (51, some (.imm (.val (.bool ((decide (x0 < 0)) || (decide (x0 > 1125899906842624)))))))] [(1000, some (.box [.imm (.val (.int .i64 0)), .imm (.val (.int .i64 0))]))] 1001) ?_ ?_
        · refine W.cond rfl (fun q15 => ?_) (fun q15 => ?_)
          · have h := ifT q15 h
            refine W.seq ?_
            refine W.pk ?_
            refine .v rfl rfl (O.build (out := [.imm (.val (.int .i64 0)), .imm (.val (.int .i64 0))]) bl109 rfl rfl rfl rfl rfl) ?_
            refine .s rfl rfl (O.st ty109 rfl rfl rfl rfl rfl rfl rfl rfl rfl rfl (all' := [.imm (.val (.int .i64 0)), .imm (.val (.int .i64 0))]) rfl) ?_
            refine .v rfl rfl (OpL.move (.inr rfl) rfl) ?_
            refine .nil ?_
            refine W.ret ?_
            cases h
            exact leaves (.inr rfl) rfl (.tup _ _ _ _ (cC (.agg _ _ _ _ (cC (.imm _) (cC (.imm _) .nil))) (cC (.imm _) .nil))) (cN (cN (cN (cN .nil)))) rfl rfl
          · have h := ifF q15 h
            refine W.skip ?_
            refine W.seq ?_
            refine W.pk ?_
            refine .t rfl rfl (O.alloc z109 rfl) ?_
            refine .nil ?_
            refine W.seq ?_
            refine W.pk ?_
            refine .v rfl rfl (OpL.move (.inr rfl) rfl) ?_
            refine .nil ?_
            refine W.seq ?_
            refine W.seq ?_
            refine W.pk ?_
            refine .v rfl rfl (OpL.move (.inl rfl) rfl) ?_
            refine .v rfl rfl (OpL.move (.inr rfl) rfl) ?_
            refine .nil ?_
            obtain ⟨o38, b39, z40⟩ := bnd1 h
            refine W.fork2 (out := o38) (fun (w37 : Int × Int) => mkSt [(8, some (.ptr 1000 0)), (11, some (.ptr 1001 0))] [(1000, some (.box [.imm (.val (.int .i64 0)), .imm (.val (.int .i64 0))])), (1001, some (.box [.imm (.val (.int .i64 w37.1)), .imm (.val (.int .i64 w37.2))]))] 1002) ?_ ?_
            · clear h
              refine W.block ?_
              refine W.loopF (fun (s_ : Int × Int × Int) => mkSt [(0, some (.imm (.val (.int .i64 x0)))), (1, some (.imm (.row 2 (List.map api_Reset.enc x1)))), (3, some (.imm (.val (.int .i64 x3)))), (8, some (.ptr 1000 0)), (11, some (.ptr 1001 0)), (13, some (.imm (.val (.int .i64 s_.1))))] [(1000, some (.box [.imm (.val (.int .i64 0)), .imm (.val (.int .i64 0))])), (1001, some (.box [.imm (.val (.int .i64 s_.2.1)), .imm (.val (.int .i64 s_.2.2))]))] 1002) b39 (Gives.mkR [] (.c rfl (.rfl _) rfl (.c rfl (.rfl _) rfl (.c rfl (.rfl _) rfl (.c rfl (.rfl _) rfl (.c rfl (.rfl _) rfl (.c rfl (.rfl _) rfl .n)))))) (.c rfl (.rfl _) rfl rfl (.c rfl (.rfl _) rfl rfl .n)) rfl rfl rfl) ?_
              rintro ⟨v22, v23, v24⟩ s_ hr
              have h : accrue_Run.b0 x0 x1 x3 v22 v23 v24 = some s_ := hr
              unfold accrue_Run.b0 at h
              refine W.seq ?_
              refine W.seq ?_
              refine W.pk ?_
              refine .v rfl rfl (OpL.move (.inl rfl) rfl) ?_
              refine .v rfl rfl (OpL.move (.inl rfl) rfl) ?_
              refine .v rfl rfl (OpL.binI rfl rfl rfl rfl) ?_
              refine .nil ?_
              refine W.cond rfl (fun q41 => ?_) (fun q41 => ?_)
              · have h := ifT q41 h
                refine W.skip ?_
                refine W.seq ?_
                refine W.block ?_
                refine W.seq ?_
                obtain ⟨t42, b43, h⟩ := bnd1 h
                refine W.pk ?_
                refine .v rfl rfl (OpL.move (.inl rfl) rfl) ?_
                refine .v rfl rfl (OpL.move (.inl rfl) rfl) ?_
                refine .call (.tup [.imm (.val (.int .i64 t42.1)), .imm (.val (.bool t42.2))]) [] 0 (accrue_Rate.ok b43) rfl rfl rfl ca84 rfl rfl (cC (.imm _) (cC (.imm _) .nil)) rfl rfl rfl rfl rfl ?_
                refine .v rfl rfl (OpL.move (.inl rfl) rfl) ?_
                refine .v rfl rfl (OpL.extract rfl rfl rfl) ?_
                refine .v rfl rfl (OpL.extract rfl rfl rfl) ?_
                refine .v rfl rfl (OpL.move (.inr rfl) rfl) ?_
                refine .v rfl rfl (OpL.move (.inr rfl) rfl) ?_
                refine .nil ?_
                refine W.seq ?_
                obtain ⟨t44, b45, h⟩ := bnd1 h
                refine W.pk ?_
                refine .v rfl rfl (O.ldN ty109 rfl rfl rfl) ?_
                refine .v rfl rfl (OpL.move (.inl rfl) rfl) ?_
                refine .v rfl rfl (OpL.move (.inl rfl) rfl) ?_
                refine .call (.tup [.agg [.imm (.val (.int .i64 t44.1.Units)), .imm (.val (.int .i64 t44.1.Rest))], .imm (.val (.int .i64 t44.2))]) [] 0 (accrue_Meter_Day.ok b45) rfl rfl rfl ca85 rfl rfl (cC (.agg _ _ _ _ (cC (.imm _) (cC (.imm _) .nil))) (cC (.imm _) (cC (.imm _) .nil))) rfl rfl rfl rfl rfl ?_
                refine .v rfl rfl (OpL.move (.inl rfl) rfl) ?_
                refine .v rfl rfl (OpL.extract rfl rfl rfl) ?_
                refine .v rfl rfl (OpL.extract rfl rfl rfl) ?_
                refine .s rfl rfl (O.st ty109 rfl rfl rfl rfl rfl rfl rfl rfl rfl rfl (all' := [.imm (.val (.int .i64 t44.1.Units)), .imm (.val (.int .i64 t44.1.Rest))]) rfl) ?_
                refine .v rfl rfl (OpL.move (.inr rfl) rfl) ?_
                refine .nil ?_
                refine W.seq ?_
                refine W.pk ?_
                refine .v rfl rfl (OpL.move (.inl rfl) rfl) ?_
                refine .v rfl rfl (OpL.binI rfl rfl rfl rfl) ?_
                refine .nil ?_
                refine W.cond rfl (fun q46 => ?_) (fun q46 => ?_)
                · have h := ifT q46 h
                  refine W.seq ?_
                  refine W.pk ?_
                  refine .v rfl rfl (O.build (out := [.imm (.val (.int .i64 0)), .imm (.val (.int .i64 0))]) bl109 rfl rfl rfl rfl rfl) ?_
                  refine .v rfl rfl (OpL.move (.inl rfl) rfl) ?_
                  refine .s rfl rfl (O.st ty109 rfl rfl rfl rfl rfl rfl rfl rfl rfl rfl (all' := [.imm (.val (.int .i64 0)), .imm (.val (.int .i64 0))]) rfl) ?_
                  refine .v rfl rfl (OpL.move (.inr rfl) rfl) ?_
                  refine .nil ?_
                  refine W.ret ?_
                  cases h
                  refine rdR fun e_ => ?_
                  subst e_
                  have h := z40
                  dsimp only at h
                  refine fkR ?_
                  cases h
                  exact leaves (.inr rfl) rfl (.tup _ _ _ _ (cC (.agg _ _ _ _ (cC (.imm _) (cC (.imm _) .nil))) (cC (.imm _) .nil))) (cN (cN (cN (cN .nil)))) rfl rfl
                · have h := ifF q46 h
                  refine W.skip ?_
                  refine W.pk ?_
                  refine .v rfl rfl (OpL.move (.inl rfl) rfl) ?_
                  refine .v rfl rfl (OpL.binI rfl rfl rfl rfl) ?_
                  refine .v rfl rfl (OpL.move (.inr rfl) rfl) ?_
                  refine .nil ?_
                  cases h
                  exact rdN (Gives.mkR [] (.c rfl (.rfl _) rfl (.c rfl (.rfl _) rfl (.c rfl (.rfl _) rfl (.c rfl (.rfl _) rfl (.c rfl (.rfl _) rfl (.c rfl (.rfl _) rfl .n)))))) (.c rfl (.rfl _) rfl rfl (.c rfl (.rfl _) rfl rfl .n)) rfl rfl rfl)
              · have h := ifF q41 h
                refine W.exit ?_
                cases h
                refine rdX fun e_ => ?_
                subst e_
                refine hit ?_
                exact fkN (Gives.mkR [] (.c rfl (.rfl _) rfl (.c rfl (.rfl _) rfl .n)) (.c rfl (.rfl _) rfl rfl (.c rfl (.rfl _) rfl rfl .n)) rfl rfl rfl)
            · intro w37 e_
              subst e_
              clear h
              have h := z40
              dsimp only at h
              refine W.seq ?_
              refine W.pk ?_
              refine .v rfl rfl (O.ldN ty109 rfl rfl rfl) ?_
              refine .s rfl rfl (O.st ty109 rfl rfl rfl rfl rfl rfl rfl rfl rfl rfl (all' := [.imm (.val (.int .i64 w37.1)), .imm (.val (.int .i64 w37.2))]) rfl) ?_
              refine .v rfl rfl (OpL.move (.inr rfl) rfl) ?_
              refine .nil ?_
              refine W.ret ?_
              cases h
              exact leaves (.inr rfl) rfl (.tup _ _ _ _ (cC (.agg _ _ _ _ (cC (.imm _) (cC (.imm _) .nil))) (cC (.imm _) .nil))) (cN (cN (cN (cN .nil)))) rfl rfl
        · clear h
          rcases tf (decide (x0 < 0)) with g14 | g14
          · refine W.pk ?_
            refine .v rfl rfl (OpL.move (.inl rfl) rfl) ?_
            refine .v rfl rfl (OpL.binI rfl rfl rfl rfl) ?_
            refine .v rfl rfl (OpL.move (.inl rfl) rfl) ?_
            refine .x rfl (unmet rfl rfl rfl g14) ?_
            refine .x rfl (unmet rfl rfl rfl g14) ?_
            refine .v rfl rfl (O.pickT g14 rfl rfl rfl) ?_
            refine .v rfl rfl (OpL.move (.inr rfl) rfl) ?_
            refine .nil ?_
            exact toN (Gives.mkR [] (.c rfl (.rfl _) rfl (.c rfl (.rfl _) rfl (.c rfl (.rfl _) rfl (.c rfl (.rfl _) rfl (.c rfl (.rfl _) rfl (.c rfl (sbb (by simp only [g14, Bool.true_or, Bool.or_true, Bool.false_or, Bool.or_false, Bool.true_and, Bool.and_true, Bool.false_and, Bool.and_false, Bool.not_true, Bool.not_false, cond_true, cond_false])) rfl .n)))))) (.c rfl (.rfl _) rfl rfl .n) rfl rfl rfl)
          · refine W.pk ?_
            refine .v rfl rfl (OpL.move (.inl rfl) rfl) ?_
            refine .v rfl rfl (OpL.binI rfl rfl rfl rfl) ?_
            refine .v rfl rfl (OpL.move (.inl rfl) rfl) ?_
            refine .v rfl (met rfl rfl rfl g14) (OpL.move (.inl rfl) rfl) ?_
            refine .v rfl (met rfl rfl rfl g14) (OpL.binI rfl rfl rfl rfl) ?_
            refine .v rfl rfl (O.pickF g14 rfl rfl rfl) ?_
            refine .v rfl rfl (OpL.move (.inr rfl) rfl) ?_
            refine .nil ?_
            exact toN (Gives.mkR [] (.c rfl (.rfl _) rfl (.c rfl (.rfl _) rfl (.c rfl (.rfl _) rfl (.c rfl (.rfl _) rfl (.c rfl (.rfl _) rfl (.c rfl (sbb (by simp only [g14, Bool.true_or, Bool.or_true, Bool.false_or, Bool.or_false, Bool.true_and, Bool.and_true, Bool.false_and, Bool.and_false, Bool.not_true, Bool.not_false, cond_true, cond_false])) rfl .n)))))) (.c rfl (.rfl _) rfl rfl .n) rfl rfl rfl)
    · clear h
      rcases tf t4 with g9 | g9
      · rcases tf t6 with g10 | g10
        · rcases tf (decide (x2 > x3)) with g11 | g11
          · refine W.pk ?_
            refine .v rfl rfl (OpL.move (.inl rfl) rfl) ?_
            refine .call (.imm (.val (.bool t4))) [] 0 (calendar_Good.ok b5) rfl rfl rfl ca44 rfl rfl (cC (.imm _) .nil) rfl rfl rfl rfl rfl ?_
            refine .v rfl rfl (OpL.unV rfl rfl rfl) ?_
            refine .v rfl rfl (OpL.move (.inl rfl) rfl) ?_
            refine .v rfl (met rfl rfl rfl (notT g9)) (OpL.move (.inl rfl) rfl) ?_
            refine .call (.imm (.val (.bool t6))) [] 0 (calendar_Good.ok ((if_pos (by simp only [g9, g10, g11, Bool.true_or, Bool.or_true, Bool.false_or, Bool.or_false, Bool.true_and, Bool.and_true, Bool.false_and, Bool.and_false, Bool.not_true, Bool.not_false, cond_true, cond_false])).symm.trans b7)) rfl (met rfl rfl rfl (notT g9)) rfl ca44 rfl rfl (cC (.imm _) .nil) rfl rfl rfl rfl rfl ?_
            refine .v rfl (met rfl rfl rfl (notT g9)) (OpL.unV rfl rfl rfl) ?_
            refine .v rfl rfl (O.pickF (notT g9) rfl rfl rfl) ?_
            refine .v rfl rfl (OpL.move (.inl rfl) rfl) ?_
            refine .v rfl (met rfl rfl rfl (notT g10)) (OpL.move (.inl rfl) rfl) ?_
            refine .v rfl (met rfl rfl rfl (notT g10)) (OpL.move (.inl rfl) rfl) ?_
            refine .v rfl (met rfl rfl rfl (notT g10)) (OpL.binI rfl rfl rfl rfl) ?_
            refine .v rfl rfl (O.pickF (notT g10) rfl rfl rfl) ?_
            refine .v rfl rfl (OpL.move (.inl rfl) rfl) ?_
            refine .x rfl (unmet rfl rfl rfl g11) ?_
            refine .x rfl (unmet rfl rfl rfl g11) ?_
            refine .x rfl (unmet rfl rfl rfl g11) ?_
            refine .x rfl (unmet rfl rfl rfl g11) ?_
            refine .v rfl rfl (O.pickT g11 rfl rfl rfl) ?_
            refine .v rfl rfl (OpL.move (.inl rfl) rfl) ?_
            refine .x rfl (unmet rfl rfl rfl rfl) ?_
            refine .x rfl (unmet rfl rfl rfl rfl) ?_
            refine .x rfl (unmet rfl rfl rfl rfl) ?_
            refine .x rfl (unmet rfl rfl rfl rfl) ?_
            refine .x rfl (unmet rfl rfl rfl rfl) ?_
            refine .x rfl (unmet rfl rfl rfl rfl) ?_
            refine .v rfl rfl (O.pickT rfl rfl rfl rfl) ?_
            refine .v rfl rfl (OpL.move (.inr rfl) rfl) ?_
            refine .nil ?_
            exact toN (Gives.mkR [] (.c rfl (.rfl _) rfl (.c rfl (.rfl _) rfl (.c rfl (.rfl _) rfl (.c rfl (.rfl _) rfl (.c rfl (.rfl _) rfl (.c rfl (sbb (by simp only [g9, g10, g11, Bool.true_or, Bool.or_true, Bool.false_or, Bool.or_false, Bool.true_and, Bool.and_true, Bool.false_and, Bool.and_false, Bool.not_true, Bool.not_false, cond_true, cond_false])) rfl .n)))))) (.c rfl (.rfl _) rfl rfl .n) rfl rfl rfl)
          · rcases tf (decide ((IntKind.wrap .i64 (x3 - x2)) > 3660)) with g12 | g12
            · refine W.pk ?_
              refine .v rfl rfl (OpL.move (.inl rfl) rfl) ?_
              refine .call (.imm (.val (.bool t4))) [] 0 (calendar_Good.ok b5) rfl rfl rfl ca44 rfl rfl (cC (.imm _) .nil) rfl rfl rfl rfl rfl ?_
              refine .v rfl rfl (OpL.unV rfl rfl rfl) ?_
              refine .v rfl rfl (OpL.move (.inl rfl) rfl) ?_
              refine .v rfl (met rfl rfl rfl (notT g9)) (OpL.move (.inl rfl) rfl) ?_
              refine .call (.imm (.val (.bool t6))) [] 0 (calendar_Good.ok ((if_pos (by simp only [g9, g10, g11, g12, Bool.true_or, Bool.or_true, Bool.false_or, Bool.or_false, Bool.true_and, Bool.and_true, Bool.false_and, Bool.and_false, Bool.not_true, Bool.not_false, cond_true, cond_false])).symm.trans b7)) rfl (met rfl rfl rfl (notT g9)) rfl ca44 rfl rfl (cC (.imm _) .nil) rfl rfl rfl rfl rfl ?_
              refine .v rfl (met rfl rfl rfl (notT g9)) (OpL.unV rfl rfl rfl) ?_
              refine .v rfl rfl (O.pickF (notT g9) rfl rfl rfl) ?_
              refine .v rfl rfl (OpL.move (.inl rfl) rfl) ?_
              refine .v rfl (met rfl rfl rfl (notT g10)) (OpL.move (.inl rfl) rfl) ?_
              refine .v rfl (met rfl rfl rfl (notT g10)) (OpL.move (.inl rfl) rfl) ?_
              refine .v rfl (met rfl rfl rfl (notT g10)) (OpL.binI rfl rfl rfl rfl) ?_
              refine .v rfl rfl (O.pickF (notT g10) rfl rfl rfl) ?_
              refine .v rfl rfl (OpL.move (.inl rfl) rfl) ?_
              refine .v rfl (met rfl rfl rfl g11) (OpL.move (.inl rfl) rfl) ?_
              refine .v rfl (met rfl rfl rfl g11) (OpL.move (.inl rfl) rfl) ?_
              refine .v rfl (met rfl rfl rfl g11) (OpL.binI rfl rfl rfl rfl) ?_
              refine .v rfl (met rfl rfl rfl g11) (OpL.binI rfl rfl rfl rfl) ?_
              refine .v rfl rfl (O.pickF g11 rfl rfl rfl) ?_
              refine .v rfl rfl (OpL.move (.inl rfl) rfl) ?_
              refine .x rfl (unmet rfl rfl rfl g12) ?_
              refine .x rfl (unmet rfl rfl rfl g12) ?_
              refine .x rfl (unmet rfl rfl rfl g12) ?_
              refine .x rfl (unmet rfl rfl rfl g12) ?_
              refine .x rfl (unmet rfl rfl rfl g12) ?_
              refine .x rfl (unmet rfl rfl rfl g12) ?_
              refine .v rfl rfl (O.pickT g12 rfl rfl rfl) ?_
              refine .v rfl rfl (OpL.move (.inr rfl) rfl) ?_
              refine .nil ?_
              exact toN (Gives.mkR [] (.c rfl (.rfl _) rfl (.c rfl (.rfl _) rfl (.c rfl (.rfl _) rfl (.c rfl (.rfl _) rfl (.c rfl (.rfl _) rfl (.c rfl (sbb (by simp only [g9, g10, g11, g12, Bool.true_or, Bool.or_true, Bool.false_or, Bool.or_false, Bool.true_and, Bool.and_true, Bool.false_and, Bool.and_false, Bool.not_true, Bool.not_false, cond_true, cond_false])) rfl .n)))))) (.c rfl (.rfl _) rfl rfl .n) rfl rfl rfl)
            · refine W.pk ?_
              refine .v rfl rfl (OpL.move (.inl rfl) rfl) ?_
              refine .call (.imm (.val (.bool t4))) [] 0 (calendar_Good.ok b5) rfl rfl rfl ca44 rfl rfl (cC (.imm _) .nil) rfl rfl rfl rfl rfl ?_
              refine .v rfl rfl (OpL.unV rfl rfl rfl) ?_
              refine .v rfl rfl (OpL.move (.inl rfl) rfl) ?_
              refine .v rfl (met rfl rfl rfl (notT g9)) (OpL.move (.inl rfl) rfl) ?_
              refine .call (.imm (.val (.bool t6))) [] 0 (calendar_Good.ok ((if_pos (by simp only [g9, g10, g11, g12, Bool.true_or, Bool.or_true, Bool.false_or, Bool.or_false, Bool.true_and, Bool.and_true, Bool.false_and, Bool.and_false, Bool.not_true, Bool.not_false, cond_true, cond_false])).symm.trans b7)) rfl (met rfl rfl rfl (notT g9)) rfl ca44 rfl rfl (cC (.imm _) .nil) rfl rfl rfl rfl rfl ?_
              refine .v rfl (met rfl rfl rfl (notT g9)) (OpL.unV rfl rfl rfl) ?_
              refine .v rfl rfl (O.pickF (notT g9) rfl rfl rfl) ?_
              refine .v rfl rfl (OpL.move (.inl rfl) rfl) ?_
              refine .v rfl (met rfl rfl rfl (notT g10)) (OpL.move (.inl rfl) rfl) ?_
              refine .v rfl (met rfl rfl rfl (notT g10)) (OpL.move (.inl rfl) rfl) ?_
              refine .v rfl (met rfl rfl rfl (notT g10)) (OpL.binI rfl rfl rfl rfl) ?_
              refine .v rfl rfl (O.pickF (notT g10) rfl rfl rfl) ?_
              refine .v rfl rfl (OpL.move (.inl rfl) rfl) ?_
              refine .v rfl (met rfl rfl rfl g11) (OpL.move (.inl rfl) rfl) ?_
              refine .v rfl (met rfl rfl rfl g11) (OpL.move (.inl rfl) rfl) ?_
              refine .v rfl (met rfl rfl rfl g11) (OpL.binI rfl rfl rfl rfl) ?_
              refine .v rfl (met rfl rfl rfl g11) (OpL.binI rfl rfl rfl rfl) ?_
              refine .v rfl rfl (O.pickF g11 rfl rfl rfl) ?_
              refine .v rfl rfl (OpL.move (.inl rfl) rfl) ?_
              refine .v rfl (met rfl rfl rfl g12) (OpL.move (.inl rfl) rfl) ?_
              refine .v rfl (met rfl rfl rfl g12) (OpL.move (.inl rfl) rfl) ?_
              refine .v rfl (met rfl rfl rfl g12) (O.idx sl22 (c8 (by simp only [g9, g10, g11, g12, Bool.true_or, Bool.or_true, Bool.false_or, Bool.or_false, Bool.true_and, Bool.and_true, Bool.false_and, Bool.and_false, Bool.not_true, Bool.not_false, cond_true, cond_false])) rfl rfl rfl) ?_
              refine .v rfl (met rfl rfl rfl g12) (O.fld fld75_0 rfl rfl rfl) ?_
              refine .v rfl (met rfl rfl rfl g12) (O.ld ty3 rfl rfl rfl) ?_
              refine .v rfl (met rfl rfl rfl g12) (OpL.binI rfl rfl rfl rfl) ?_
              refine .v rfl rfl (O.pickF g12 rfl rfl rfl) ?_
              refine .v rfl rfl (OpL.move (.inr rfl) rfl) ?_
              refine .nil ?_
              exact toN (Gives.mkR [] (.c rfl (.rfl _) rfl (.c rfl (.rfl _) rfl (.c rfl (.rfl _) rfl (.c rfl (.rfl _) rfl (.c rfl (.rfl _) rfl (.c rfl (sbb (by simp only [g9, g10, g11, g12, Bool.true_or, Bool.or_true, Bool.false_or, Bool.or_false, Bool.true_and, Bool.and_true, Bool.false_and, Bool.and_false, Bool.not_true, Bool.not_false, cond_true, cond_false])) rfl .n)))))) (.c rfl (.rfl _) rfl rfl .n) rfl rfl rfl)
        · refine W.pk ?_
          refine .v rfl rfl (OpL.move (.inl rfl) rfl) ?_
          refine .call (.imm (.val (.bool t4))) [] 0 (calendar_Good.ok b5) rfl rfl rfl ca44 rfl rfl (cC (.imm _) .nil) rfl rfl rfl rfl rfl ?_
          refine .v rfl rfl (OpL.unV rfl rfl rfl) ?_
          refine .v rfl rfl (OpL.move (.inl rfl) rfl) ?_
          refine .v rfl (met rfl rfl rfl (notT g9)) (OpL.move (.inl rfl) rfl) ?_
          refine .call (.imm (.val (.bool t6))) [] 0 (calendar_Good.ok ((if_pos (by simp only [g9, g10, Bool.true_or, Bool.or_true, Bool.false_or, Bool.or_false, Bool.true_and, Bool.and_true, Bool.false_and, Bool.and_false, Bool.not_true, Bool.not_false, cond_true, cond_false])).symm.trans b7)) rfl (met rfl rfl rfl (notT g9)) rfl ca44 rfl rfl (cC (.imm _) .nil) rfl rfl rfl rfl rfl ?_
          refine .v rfl (met rfl rfl rfl (notT g9)) (OpL.unV rfl rfl rfl) ?_
          refine .v rfl rfl (O.pickF (notT g9) rfl rfl rfl) ?_
          refine .v rfl rfl (OpL.move (.inl rfl) rfl) ?_
          refine .x rfl (unmet rfl rfl rfl (notF g10)) ?_
          refine .x rfl (unmet rfl rfl rfl (notF g10)) ?_
          refine .x rfl (unmet rfl rfl rfl (notF g10)) ?_
          refine .v rfl rfl (O.pickT (notF g10) rfl rfl rfl) ?_
          refine .v rfl rfl (OpL.move (.inl rfl) rfl) ?_
          refine .x rfl (unmet rfl rfl rfl rfl) ?_
          refine .x rfl (unmet rfl rfl rfl rfl) ?_
          refine .x rfl (unmet rfl rfl rfl rfl) ?_
          refine .x rfl (unmet rfl rfl rfl rfl) ?_
          refine .v rfl rfl (O.pickT rfl rfl rfl rfl) ?_
          refine .v rfl rfl (OpL.move (.inl rfl) rfl) ?_
          refine .x rfl (unmet rfl rfl rfl rfl) ?_
          refine .x rfl (unmet rfl rfl rfl rfl) ?_
          refine .x rfl (unmet rfl rfl rfl rfl) ?_
          refine .x rfl (unmet rfl rfl rfl rfl) ?_
          refine .x rfl (unmet rfl rfl rfl rfl) ?_
          refine .x rfl (unmet rfl rfl rfl rfl) ?_
          refine .v rfl rfl (O.pickT rfl rfl rfl rfl) ?_
          refine .v rfl rfl (OpL.move (.inr rfl) rfl) ?_
          refine .nil ?_
          exact toN (Gives.mkR [] (.c rfl (.rfl _) rfl (.c rfl (.rfl _) rfl (.c rfl (.rfl _) rfl (.c rfl (.rfl _) rfl (.c rfl (.rfl _) rfl (.c rfl (sbb (by simp only [g9, g10, Bool.true_or, Bool.or_true, Bool.false_or, Bool.or_false, Bool.true_and, Bool.and_true, Bool.false_and, Bool.and_false, Bool.not_true, Bool.not_false, cond_true, cond_false])) rfl .n)))))) (.c rfl (.rfl _) rfl rfl .n) rfl rfl rfl)
      · refine W.pk ?_
        refine .v rfl rfl (OpL.move (.inl rfl) rfl) ?_
        refine .call (.imm (.val (.bool t4))) [] 0 (calendar_Good.ok b5) rfl rfl rfl ca44 rfl rfl (cC (.imm _) .nil) rfl rfl rfl rfl rfl ?_
        refine .v rfl rfl (OpL.unV rfl rfl rfl) ?_
        refine .v rfl rfl (OpL.move (.inl rfl) rfl) ?_
        refine .x rfl (unmet rfl rfl rfl (notF g9)) ?_
        refine .x rfl (unmet rfl rfl rfl (notF g9)) ?_
        refine .x rfl (unmet rfl rfl rfl (notF g9)) ?_
        refine .v rfl rfl (O.pickT (notF g9) rfl rfl rfl) ?_
        refine .v rfl rfl (OpL.move (.inl rfl) rfl) ?_
        refine .x rfl (unmet rfl rfl rfl rfl) ?_
        refine .x rfl (unmet rfl rfl rfl rfl) ?_
        refine .x rfl (unmet rfl rfl rfl rfl) ?_
        refine .v rfl rfl (O.pickT rfl rfl rfl rfl) ?_
        refine .v rfl rfl (OpL.move (.inl rfl) rfl) ?_
        refine .x rfl (unmet rfl rfl rfl rfl) ?_
        refine .x rfl (unmet rfl rfl rfl rfl) ?_
        refine .x rfl (unmet rfl rfl rfl rfl) ?_
        refine .x rfl (unmet rfl rfl rfl rfl) ?_
        refine .v rfl rfl (O.pickT rfl rfl rfl rfl) ?_
        refine .v rfl rfl (OpL.move (.inl rfl) rfl) ?_
        refine .x rfl (unmet rfl rfl rfl rfl) ?_
        refine .x rfl (unmet rfl rfl rfl rfl) ?_
        refine .x rfl (unmet rfl rfl rfl rfl) ?_
        refine .x rfl (unmet rfl rfl rfl rfl) ?_
        refine .x rfl (unmet rfl rfl rfl rfl) ?_
        refine .x rfl (unmet rfl rfl rfl rfl) ?_
        refine .v rfl rfl (O.pickT rfl rfl rfl rfl) ?_
        refine .v rfl rfl (OpL.move (.inr rfl) rfl) ?_
        refine .nil ?_
        exact toN (Gives.mkR [] (.c rfl (.rfl _) rfl (.c rfl (.rfl _) rfl (.c rfl (.rfl _) rfl (.c rfl (.rfl _) rfl (.c rfl (.rfl _) rfl (.c rfl (sbb (by simp only [g9, Bool.true_or, Bool.or_true, Bool.false_or, Bool.or_false, Bool.true_and, Bool.and_true, Bool.false_and, Bool.and_false, Bool.not_true, Bool.not_false, cond_true, cond_false])) rfl .n)))))) (.c rfl (.rfl _) rfl rfl .n) rfl rfl rfl)

noncomputable def accrue_Between.f (x0 : Int) (x1 : List api_Reset) (x2 : Int) (x3 : Int) : Option (Int × Int) :=
  (accrue_Run.f x0 x1 x2 x3).bind fun t1 =>
  some (t1.1.Units, t1.2)
set_option maxRecDepth 100000 in
set_option maxHeartbeats 4000000 in
theorem accrue_Between.ok {x0 : Int} {x1 : List api_Reset} {x2 : Int} {x3 : Int} {r : Int × Int} (h : accrue_Between.f x0 x1 x2 x3 = some r) : Pm.Spec prog 67 [.imm (.val (.int .i64 x0)), .imm (.row 2 (List.map api_Reset.enc x1)), .imm (.val (.int .i64 x2)), .imm (.val (.int .i64 x3))] (.tup [.imm (.val (.int .i64 r.1)), .imm (.val (.int .i64 r.2))]) [none, none, none, none] := by
  unfold accrue_Between.f at h
  refine Pm.Spec.of_body Try.func67 rfl (by kernel_rfl) (Nat.le_of_ble_eq_true rfl) (Nat.le_of_ble_eq_true rfl) ?_
  refine W.ghost (σ' := (mkSt [(0, some (.imm (.val (.int .i64 x0)))), (1, some (.imm (.row 2 (List.map api_Reset.enc x1)))), (2, some (.imm (.val (.int .i64 x2)))), (3, some (.imm (.val (.int .i64 x3))))] [] 1000)) (Gives.entry (.c rfl (.c rfl (.c rfl (.c rfl .n)))) .n) ?_
  refine W.seq ?_
  refine W.pk ?_
  refine .v rfl rfl (OpL.move (.inr rfl) rfl) ?_
  refine .v rfl rfl (OpL.move (.inr rfl) rfl) ?_
  refine .nil ?_
  refine W.seq ?_
  obtain ⟨t1, b2, h⟩ := bnd1 h
  refine W.pk ?_
  refine .v rfl rfl (OpL.move (.inl rfl) rfl) ?_
  refine .v rfl rfl (OpL.move (.inl rfl) rfl) ?_
  refine .v rfl rfl (OpL.move (.inl rfl) rfl) ?_
  refine .v rfl rfl (OpL.move (.inl rfl) rfl) ?_
  refine .call (.tup [.agg [.imm (.val (.int .i64 t1.1.Units)), .imm (.val (.int .i64 t1.1.Rest))], .imm (.val (.int .i64 t1.2))]) [] 0 (accrue_Run.ok b2) rfl rfl rfl ca80 rfl rfl (cC (.imm _) (cC (.imm _) (cC (.imm _) (cC (.imm _) .nil)))) rfl rfl rfl rfl rfl ?_
  refine .v rfl rfl (OpL.move (.inl rfl) rfl) ?_
  refine .v rfl rfl (OpL.extract rfl rfl rfl) ?_
  refine .v rfl rfl (OpL.extract rfl rfl rfl) ?_
  refine .t rfl rfl (O.alloc z109 rfl) ?_
  refine .s rfl rfl (O.st ty109 rfl rfl rfl rfl rfl rfl rfl rfl rfl rfl (all' := [.imm (.val (.int .i64 t1.1.Units)), .imm (.val (.int .i64 t1.1.Rest))]) rfl) ?_
  refine .v rfl rfl (OpL.move (.inr rfl) rfl) ?_
  refine .nil ?_
  refine W.seq ?_
  refine W.pk ?_
  refine .v rfl rfl (O.fld fld109_0 rfl rfl rfl) ?_
  refine .v rfl rfl (O.ld ty3 rfl rfl rfl) ?_
  refine .v rfl rfl (OpL.move (.inl rfl) rfl) ?_
  refine .v rfl rfl (OpL.move (.inr rfl) rfl) ?_
  refine .v rfl rfl (OpL.move (.inr rfl) rfl) ?_
  refine .nil ?_
  refine W.ret ?_
  cases h
  exact leaves (.inr rfl) rfl (.tup _ _ _ _ (cC (.imm _) (cC (.imm _) .nil))) (cN (cN (cN (cN .nil)))) rfl rfl

noncomputable def life_Interest.f (x0 : api_Trade) (x1 : Int) : Option (Int × Int) :=
  (calendar_Good.f x1).bind fun t1 =>
  if (!t1) = true then
    some (0, 10)
  else
    (life_until.f x0 x1).bind fun t4 =>
    (accrue_Between.f x0.Amount x0.Resets x0.Start t4).bind fun t6 =>
    some (t6.1, t6.2)
set_option maxRecDepth 100000 in
set_option maxHeartbeats 4000000 in
theorem life_Interest.ok {x0 : api_Trade} {x1 : Int} {r : Int × Int} (h : life_Interest.f x0 x1 = some r) : Pm.Spec prog 53 [.agg [.imm (.val (.int .i64 x0.ID)), .imm (.val (.int .i64 x0.Twin)), .imm (.val (.int .i64 x0.Member)), .imm (.val (.int .i64 x0.Side)), .imm (.val (.int .i64 x0.Basket)), .imm (.val (.int .i64 x0.Amount)), .imm (.val (.int .i64 x0.Start)), .imm (.val (.int .i64 x0.End)), .imm (.row 2 (List.map api_Reset.enc x0.Resets)), .imm (.val (.int .i64 x0.Stage)), .imm (.val (.bool x0.Short))], .imm (.val (.int .i64 x1))] (.tup [.imm (.val (.int .i64 r.1)), .imm (.val (.int .i64 r.2))]) [none, none] := by
  unfold life_Interest.f at h
  refine Pm.Spec.of_body Try.func53 rfl (by kernel_rfl) (Nat.le_of_ble_eq_true rfl) (Nat.le_of_ble_eq_true rfl) ?_
  refine W.ghost (σ' := (mkSt [(0, some (.agg [.imm (.val (.int .i64 x0.ID)), .imm (.val (.int .i64 x0.Twin)), .imm (.val (.int .i64 x0.Member)), .imm (.val (.int .i64 x0.Side)), .imm (.val (.int .i64 x0.Basket)), .imm (.val (.int .i64 x0.Amount)), .imm (.val (.int .i64 x0.Start)), .imm (.val (.int .i64 x0.End)), .imm (.row 2 (List.map api_Reset.enc x0.Resets)), .imm (.val (.int .i64 x0.Stage)), .imm (.val (.bool x0.Short))])), (1, some (.imm (.val (.int .i64 x1))))] [] 1000)) (Gives.entry (.c rfl (.c rfl .n)) .n) ?_
  refine W.seq ?_
  refine W.pk ?_
  refine .t rfl rfl (O.box rfl rfl rfl rfl rfl) ?_
  refine .v rfl rfl (OpL.move (.inr rfl) rfl) ?_
  refine .v rfl rfl (OpL.move (.inr rfl) rfl) ?_
  refine .nil ?_
  refine W.seq ?_
  refine W.seq ?_
  obtain ⟨t1, b2, h⟩ := bnd1 h
  refine W.pk ?_
  refine .v rfl rfl (OpL.move (.inl rfl) rfl) ?_
  refine .call (.imm (.val (.bool t1))) [] 0 (calendar_Good.ok b2) rfl rfl rfl ca44 rfl rfl (cC (.imm _) .nil) rfl rfl rfl rfl rfl ?_
  refine .v rfl rfl (OpL.unV rfl rfl rfl) ?_
  refine .nil ?_
  refine W.cond rfl (fun q3 => ?_) (fun q3 => ?_)
  · have h := ifT q3 h
    refine W.seq ?_
    refine W.pk ?_
    refine .v rfl rfl (OpL.move (.inr rfl) rfl) ?_
    refine .v rfl rfl (OpL.move (.inr rfl) rfl) ?_
    refine .nil ?_
    refine W.ret ?_
    cases h
    exact leaves (.inr rfl) rfl (.tup _ _ _ _ (cC (.imm _) (cC (.imm _) .nil))) (cN (cN .nil)) rfl rfl
  · have h := ifF q3 h
    refine W.skip ?_
    refine W.seq ?_
    obtain ⟨t4, b5, h⟩ := bnd1 h
    obtain ⟨t6, b7, h⟩ := bnd1 h
    refine W.dk [[], [0], [], [2], [], [4], [], [], [6, 7], [0, 1, 2, 3, 4, 5, 6, 7, 8], [0, 1, 2, 3, 4, 5, 6, 7, 8, 9], [0, 1, 2, 3, 4, 5, 6, 7, 8, 9], [0, 1, 2, 3, 4, 5, 6, 7, 8, 9, 10, 11], [0, 1, 2, 3, 4, 5, 6, 7, 8, 9, 10, 11, 12]] rfl (by kernel_rfl) ?_
    refine .v rfl rfl (O.fld fld24_5 rfl rfl rfl) ?_
    refine .v rfl rfl (O.ld ty3 rfl rfl rfl) ?_
    refine .v rfl rfl (O.fld fld24_8 rfl rfl rfl) ?_
    refine .v rfl rfl (O.ld ty22 rfl rfl rfl) ?_
    refine .v rfl rfl (O.fld fld24_6 rfl rfl rfl) ?_
    refine .v rfl rfl (O.ld ty3 rfl rfl rfl) ?_
    refine .v rfl rfl (O.ldN ty24 rfl rfl rfl) ?_
    refine .v rfl rfl (OpL.move (.inl rfl) rfl) ?_
    refine .call (.imm (.val (.int .i64 t4))) [] 0 (life_until.ok b5) rfl rfl rfl ca68 rfl rfl (cC (.agg _ _ _ _ (cC (.imm _) (cC (.imm _) (cC (.imm _) (cC (.imm _) (cC (.imm _) (cC (.imm _) (cC (.imm _) (cC (.imm _) (cC (.imm _) (cC (.imm _) (cC (.imm _) .nil)))))))))))) (cC (.imm _) .nil)) rfl rfl rfl rfl rfl ?_
    refine .call (.tup [.imm (.val (.int .i64 t6.1)), .imm (.val (.int .i64 t6.2))]) [] 0 (accrue_Between.ok b7) rfl rfl rfl ca67 rfl rfl (cC (.imm _) (cC (.imm _) (cC (.imm _) (cC (.imm _) .nil)))) rfl rfl rfl rfl rfl ?_
    refine .v rfl rfl (OpL.extract rfl rfl rfl) ?_
    refine .v rfl rfl (OpL.extract rfl rfl rfl) ?_
    refine .v rfl rfl (OpL.move (.inr rfl) rfl) ?_
    refine .v rfl rfl (OpL.move (.inr rfl) rfl) ?_
    refine .nil ?_
    refine ⟨by kernel_rfl, by kernel_rfl, ?_⟩
    refine W.ret ?_
    cases h
    exact leaves (.inr rfl) rfl (.tup _ _ _ _ (cC (.imm _) (cC (.imm _) .nil))) (cN (cN .nil)) rfl rfl

noncomputable def life_Owed.f (x0 : api_Trade) (x1 : Int) : Option (Int × Int) :=
  (life_Interest.f x0 x1).bind fun t1 =>
  if (t1.2 != 0) = true then
    some (0, t1.2)
  else
    (fixnum_Plus.f x0.Amount t1.1).bind fun t4 =>
    some (t4.1, t4.2)
set_option maxRecDepth 100000 in
set_option maxHeartbeats 4000000 in
theorem life_Owed.ok {x0 : api_Trade} {x1 : Int} {r : Int × Int} (h : life_Owed.f x0 x1 = some r) : Pm.Spec prog 33 [.agg [.imm (.val (.int .i64 x0.ID)), .imm (.val (.int .i64 x0.Twin)), .imm (.val (.int .i64 x0.Member)), .imm (.val (.int .i64 x0.Side)), .imm (.val (.int .i64 x0.Basket)), .imm (.val (.int .i64 x0.Amount)), .imm (.val (.int .i64 x0.Start)), .imm (.val (.int .i64 x0.End)), .imm (.row 2 (List.map api_Reset.enc x0.Resets)), .imm (.val (.int .i64 x0.Stage)), .imm (.val (.bool x0.Short))], .imm (.val (.int .i64 x1))] (.tup [.imm (.val (.int .i64 r.1)), .imm (.val (.int .i64 r.2))]) [none, none] := by
  unfold life_Owed.f at h
  refine Pm.Spec.of_body Try.func33 rfl (by kernel_rfl) (Nat.le_of_ble_eq_true rfl) (Nat.le_of_ble_eq_true rfl) ?_
  refine W.ghost (σ' := (mkSt [(0, some (.agg [.imm (.val (.int .i64 x0.ID)), .imm (.val (.int .i64 x0.Twin)), .imm (.val (.int .i64 x0.Member)), .imm (.val (.int .i64 x0.Side)), .imm (.val (.int .i64 x0.Basket)), .imm (.val (.int .i64 x0.Amount)), .imm (.val (.int .i64 x0.Start)), .imm (.val (.int .i64 x0.End)), .imm (.row 2 (List.map api_Reset.enc x0.Resets)), .imm (.val (.int .i64 x0.Stage)), .imm (.val (.bool x0.Short))])), (1, some (.imm (.val (.int .i64 x1))))] [] 1000)) (Gives.entry (.c rfl (.c rfl .n)) .n) ?_
  refine W.seq ?_
  refine W.pk ?_
  refine .t rfl rfl (O.box rfl rfl rfl rfl rfl) ?_
  refine .v rfl rfl (OpL.move (.inr rfl) rfl) ?_
  refine .v rfl rfl (OpL.move (.inr rfl) rfl) ?_
  refine .nil ?_
  refine W.seq ?_
  obtain ⟨t1, b2, h⟩ := bnd1 h
  refine W.pk ?_
  refine .v rfl rfl (O.ldN ty24 rfl rfl rfl) ?_
  refine .v rfl rfl (OpL.move (.inl rfl) rfl) ?_
  refine .call (.tup [.imm (.val (.int .i64 t1.1)), .imm (.val (.int .i64 t1.2))]) [] 0 (life_Interest.ok b2) rfl rfl rfl ca53 rfl rfl (cC (.agg _ _ _ _ (cC (.imm _) (cC (.imm _) (cC (.imm _) (cC (.imm _) (cC (.imm _) (cC (.imm _) (cC (.imm _) (cC (.imm _) (cC (.imm _) (cC (.imm _) (cC (.imm _) .nil)))))))))))) (cC (.imm _) .nil)) rfl rfl rfl rfl rfl ?_
  refine .v rfl rfl (OpL.move (.inl rfl) rfl) ?_
  refine .v rfl rfl (OpL.extract rfl rfl rfl) ?_
  refine .v rfl rfl (OpL.extract rfl rfl rfl) ?_
  refine .v rfl rfl (OpL.move (.inr rfl) rfl) ?_
  refine .v rfl rfl (OpL.move (.inr rfl) rfl) ?_
  refine .nil ?_
  refine W.seq ?_
  refine W.seq ?_
  refine W.pk ?_
  refine .v rfl rfl (OpL.move (.inl rfl) rfl) ?_
  refine .v rfl rfl (OpL.binI rfl rfl rfl rfl) ?_
  refine .nil ?_
  refine W.cond rfl (fun q3 => ?_) (fun q3 => ?_)
  · have h := ifT q3 h
    refine W.seq ?_
    refine W.pk ?_
    refine .v rfl rfl (OpL.move (.inl rfl) rfl) ?_
    refine .v rfl rfl (OpL.move (.inr rfl) rfl) ?_
    refine .v rfl rfl (OpL.move (.inr rfl) rfl) ?_
    refine .nil ?_
    refine W.ret ?_
    cases h
    exact leaves (.inr rfl) rfl (.tup _ _ _ _ (cC (.imm _) (cC (.imm _) .nil))) (cN (cN .nil)) rfl rfl
  · have h := ifF q3 h
    refine W.skip ?_
    refine W.seq ?_
    obtain ⟨t4, b5, h⟩ := bnd1 h
    refine W.pk ?_
    refine .v rfl rfl (O.fld fld24_5 rfl rfl rfl) ?_
    refine .v rfl rfl (O.ld ty3 rfl rfl rfl) ?_
    refine .v rfl rfl (OpL.move (.inl rfl) rfl) ?_
    refine .call (.tup [.imm (.val (.int .i64 t4.1)), .imm (.val (.int .i64 t4.2))]) [] 0 (fixnum_Plus.ok b5) rfl rfl rfl ca54 rfl rfl (cC (.imm _) (cC (.imm _) .nil)) rfl rfl rfl rfl rfl ?_
    refine .v rfl rfl (OpL.extract rfl rfl rfl) ?_
    refine .v rfl rfl (OpL.extract rfl rfl rfl) ?_
    refine .v rfl rfl (OpL.move (.inr rfl) rfl) ?_
    refine .v rfl rfl (OpL.move (.inr rfl) rfl) ?_
    refine .nil ?_
    refine W.ret ?_
    cases h
    exact leaves (.inr rfl) rfl (.tup _ _ _ _ (cC (.imm _) (cC (.imm _) .nil))) (cN (cN .nil)) rfl rfl

noncomputable def leg_Covered_End.f (x0 : leg_Covered) : Option (api_Leg × Int) :=
  (leg_check.f x0).bind fun t1 =>
  if (t1 != 0) = true then
    some ((⟨0, 0, 0, 0, []⟩ : api_Leg), t1)
  else
    (life_Open.f x0.Trade).bind fun t4 =>
    if t4 = true then
      some ((⟨0, 0, 0, 0, []⟩ : api_Leg), 33)
    else
      (life_Owed.f x0.Trade x0.Trade.End).bind fun t7 =>
      if (t7.2 != 0) = true then
        some ((⟨0, 0, 0, 0, []⟩ : api_Leg), t7.2)
      else
        (leg_Covered_way.f x0).bind fun t10 =>
        (leg_Covered_leg.f x0 x0.Trade.End t7.1 (IntKind.wrap .i64 (0 - t10))).bind fun t12 =>
        some (t12, 0)
set_option maxRecDepth 100000 in
set_option maxHeartbeats 4000000 in
theorem leg_Covered_End.ok {x0 : leg_Covered} {r : api_Leg × Int} (h : leg_Covered_End.f x0 = some r) : Pm.Spec prog 13 [.agg [.imm (.val (.int .i64 x0.Trade.ID)), .imm (.val (.int .i64 x0.Trade.Twin)), .imm (.val (.int .i64 x0.Trade.Member)), .imm (.val (.int .i64 x0.Trade.Side)), .imm (.val (.int .i64 x0.Trade.Basket)), .imm (.val (.int .i64 x0.Trade.Amount)), .imm (.val (.int .i64 x0.Trade.Start)), .imm (.val (.int .i64 x0.Trade.End)), .imm (.row 2 (List.map api_Reset.enc x0.Trade.Resets)), .imm (.val (.int .i64 x0.Trade.Stage)), .imm (.val (.bool x0.Trade.Short)), .imm (.row 2 (List.map api_Lot.enc x0.Lots))]] (.tup [.agg [.imm (.val (.int .i64 r.1.Day)), .imm (.val (.int .i64 r.1.Member)), .imm (.val (.int .i64 r.1.Trade)), .imm (.val (.int .i64 r.1.Cash)), .imm (.row 2 (List.map api_Lot.enc r.1.Lots))], .imm (.val (.int .i64 r.2))]) [none] := by
  unfold leg_Covered_End.f at h
  refine Pm.Spec.of_body Try.func13 rfl (by kernel_rfl) (Nat.le_of_ble_eq_true rfl) (Nat.le_of_ble_eq_true rfl) ?_
  refine W.ghost (σ' := (mkSt [(0, some (.agg [.imm (.val (.int .i64 x0.Trade.ID)), .imm (.val (.int .i64 x0.Trade.Twin)), .imm (.val (.int .i64 x0.Trade.Member)), .imm (.val (.int .i64 x0.Trade.Side)), .imm (.val (.int .i64 x0.Trade.Basket)), .imm (.val (.int .i64 x0.Trade.Amount)), .imm (.val (.int .i64 x0.Trade.Start)), .imm (.val (.int .i64 x0.Trade.End)), .imm (.row 2 (List.map api_Reset.enc x0.Trade.Resets)), .imm (.val (.int .i64 x0.Trade.Stage)), .imm (.val (.bool x0.Trade.Short)), .imm (.row 2 (List.map api_Lot.enc x0.Lots))]))] [] 1000)) (Gives.entry (.c rfl .n) .n) ?_
  refine W.seq ?_
  refine W.pk ?_
  refine .t rfl rfl (O.box rfl rfl rfl rfl rfl) ?_
  refine .t rfl rfl (O.alloc z31 rfl) ?_
  refine .v rfl rfl (OpL.move (.inr rfl) rfl) ?_
  refine .nil ?_
  refine W.seq ?_
  refine W.seq ?_
  obtain ⟨t1, b2, h⟩ := bnd1 h
  refine W.pk ?_
  refine .v rfl rfl (O.ldN ty34 rfl rfl rfl) ?_
  refine .call (.imm (.val (.int .i64 t1))) [] 0 (leg_check.ok b2) rfl rfl rfl ca27 rfl rfl (cC (.agg _ _ _ _ (cC (.imm _) (cC (.imm _) (cC (.imm _) (cC (.imm _) (cC (.imm _) (cC (.imm _) (cC (.imm _) (cC (.imm _) (cC (.imm _) (cC (.imm _) (cC (.imm _) (cC (.imm _) .nil))))))))))))) .nil) rfl rfl rfl rfl rfl ?_
  refine .v rfl rfl (OpL.move (.inr rfl) rfl) ?_
  refine .nil ?_
  refine W.seq ?_
  refine W.pk ?_
  refine .v rfl rfl (OpL.move (.inl rfl) rfl) ?_
  refine .v rfl rfl (OpL.binI rfl rfl rfl rfl) ?_
  refine .nil ?_
  refine W.cond rfl (fun q3 => ?_) (fun q3 => ?_)
  · have h := ifT q3 h
    refine W.seq ?_
    refine W.pk ?_
    refine .v rfl rfl (O.build (out := [.imm (.val (.int .i64 0)), .imm (.val (.int .i64 0)), .imm (.val (.int .i64 0)), .imm (.val (.int .i64 0)), .imm (.val (.slice none 0 0))]) bl31 rfl rfl rfl rfl rfl) ?_
    refine .v rfl rfl (OpL.move (.inl rfl) rfl) ?_
    refine .s rfl rfl (O.st ty31 rfl rfl rfl rfl rfl rfl rfl rfl rfl rfl (all' := [.imm (.val (.int .i64 0)), .imm (.val (.int .i64 0)), .imm (.val (.int .i64 0)), .imm (.val (.int .i64 0)), .imm (.val (.slice none 0 0))]) rfl) ?_
    refine .v rfl rfl (OpL.move (.inr rfl) rfl) ?_
    refine .nil ?_
    refine W.ret ?_
    cases h
    exact leaves (.inr rfl) rfl (.tup _ _ _ _ (cC (.agg _ _ _ _ (cC (.imm _) (cC (.imm _) (cC (.imm _) (cC (.imm _) (cC (.nilrow _) .nil)))))) (cC (.imm _) .nil))) (cN .nil) rfl rfl
  · have h := ifF q3 h
    refine W.skip ?_
    refine W.seq ?_
    refine W.seq ?_
    obtain ⟨t4, b5, h⟩ := bnd1 h
    refine W.pk ?_
    refine .v rfl rfl (O.fld fld34_0 rfl rfl rfl) ?_
    refine .v rfl rfl (O.ldN ty24 rfl rfl rfl) ?_
    refine .call (.imm (.val (.bool t4))) [] 0 (life_Open.ok b5) rfl rfl rfl ca32 rfl rfl (cC (.agg _ _ _ _ (cC (.imm _) (cC (.imm _) (cC (.imm _) (cC (.imm _) (cC (.imm _) (cC (.imm _) (cC (.imm _) (cC (.imm _) (cC (.imm _) (cC (.imm _) (cC (.imm _) .nil)))))))))))) .nil) rfl rfl rfl rfl rfl ?_
    refine .nil ?_
    refine W.cond rfl (fun q6 => ?_) (fun q6 => ?_)
    · have h := ifT q6 h
      refine W.seq ?_
      refine W.pk ?_
      refine .v rfl rfl (O.build (out := [.imm (.val (.int .i64 0)), .imm (.val (.int .i64 0)), .imm (.val (.int .i64 0)), .imm (.val (.int .i64 0)), .imm (.val (.slice none 0 0))]) bl31 rfl rfl rfl rfl rfl) ?_
      refine .s rfl rfl (O.st ty31 rfl rfl rfl rfl rfl rfl rfl rfl rfl rfl (all' := [.imm (.val (.int .i64 0)), .imm (.val (.int .i64 0)), .imm (.val (.int .i64 0)), .imm (.val (.int .i64 0)), .imm (.val (.slice none 0 0))]) rfl) ?_
      refine .v rfl rfl (OpL.move (.inr rfl) rfl) ?_
      refine .nil ?_
      refine W.ret ?_
      cases h
      exact leaves (.inr rfl) rfl (.tup _ _ _ _ (cC (.agg _ _ _ _ (cC (.imm _) (cC (.imm _) (cC (.imm _) (cC (.imm _) (cC (.nilrow _) .nil)))))) (cC (.imm _) .nil))) (cN .nil) rfl rfl
    · have h := ifF q6 h
      refine W.skip ?_
      refine W.seq ?_
      obtain ⟨t7, b8, h⟩ := bnd1 h
      refine W.pk ?_
      refine .v rfl rfl (O.fld fld34_0 rfl rfl rfl) ?_
      refine .v rfl rfl (O.ldN ty24 rfl rfl rfl) ?_
      refine .v rfl rfl (O.fld fld34_0 rfl rfl rfl) ?_
      refine .v rfl rfl (O.fld fld24_7 rfl rfl rfl) ?_
      refine .v rfl rfl (O.ld ty3 rfl rfl rfl) ?_
      refine .call (.tup [.imm (.val (.int .i64 t7.1)), .imm (.val (.int .i64 t7.2))]) [] 0 (life_Owed.ok b8) rfl rfl rfl ca33 rfl rfl (cC (.agg _ _ _ _ (cC (.imm _) (cC (.imm _) (cC (.imm _) (cC (.imm _) (cC (.imm _) (cC (.imm _) (cC (.imm _) (cC (.imm _) (cC (.imm _) (cC (.imm _) (cC (.imm _) .nil)))))))))))) (cC (.imm _) .nil)) rfl rfl rfl rfl rfl ?_
      refine .v rfl rfl (OpL.move (.inl rfl) rfl) ?_
      refine .v rfl rfl (OpL.extract rfl rfl rfl) ?_
      refine .v rfl rfl (OpL.extract rfl rfl rfl) ?_
      refine .v rfl rfl (OpL.move (.inr rfl) rfl) ?_
      refine .v rfl rfl (OpL.move (.inr rfl) rfl) ?_
      refine .nil ?_
      refine W.seq ?_
      refine W.seq ?_
      refine W.pk ?_
      refine .v rfl rfl (OpL.move (.inl rfl) rfl) ?_
      refine .v rfl rfl (OpL.binI rfl rfl rfl rfl) ?_
      refine .nil ?_
      refine W.cond rfl (fun q9 => ?_) (fun q9 => ?_)
      · have h := ifT q9 h
        refine W.seq ?_
        refine W.pk ?_
        refine .v rfl rfl (O.build (out := [.imm (.val (.int .i64 0)), .imm (.val (.int .i64 0)), .imm (.val (.int .i64 0)), .imm (.val (.int .i64 0)), .imm (.val (.slice none 0 0))]) bl31 rfl rfl rfl rfl rfl) ?_
        refine .v rfl rfl (OpL.move (.inl rfl) rfl) ?_
        refine .s rfl rfl (O.st ty31 rfl rfl rfl rfl rfl rfl rfl rfl rfl rfl (all' := [.imm (.val (.int .i64 0)), .imm (.val (.int .i64 0)), .imm (.val (.int .i64 0)), .imm (.val (.int .i64 0)), .imm (.val (.slice none 0 0))]) rfl) ?_
        refine .v rfl rfl (OpL.move (.inr rfl) rfl) ?_
        refine .nil ?_
        refine W.ret ?_
        cases h
        exact leaves (.inr rfl) rfl (.tup _ _ _ _ (cC (.agg _ _ _ _ (cC (.imm _) (cC (.imm _) (cC (.imm _) (cC (.imm _) (cC (.nilrow _) .nil)))))) (cC (.imm _) .nil))) (cN .nil) rfl rfl
      · have h := ifF q9 h
        refine W.skip ?_
        refine W.seq ?_
        obtain ⟨t10, b11, h⟩ := bnd1 h
        obtain ⟨t12, b13, h⟩ := bnd1 h
        refine W.dk [[], [], [1], [1, 2], [], [], [5], [5, 6], [0, 1, 2, 3, 4, 5, 6, 7], [0, 1, 2, 3, 4, 5, 6, 7, 8], [0, 1, 2, 3, 4, 5, 6, 7, 8, 9]] rfl (by kernel_rfl) ?_
        refine .v rfl rfl (O.ldN ty34 rfl rfl rfl) ?_
        refine .v rfl rfl (O.fld fld34_0 rfl rfl rfl) ?_
        refine .v rfl rfl (O.fld fld24_7 rfl rfl rfl) ?_
        refine .v rfl rfl (O.ld ty3 rfl rfl rfl) ?_
        refine .v rfl rfl (OpL.move (.inl rfl) rfl) ?_
        refine .v rfl rfl (O.ldN ty34 rfl rfl rfl) ?_
        refine .call (.imm (.val (.int .i64 t10))) [] 0 (leg_Covered_way.ok b11) rfl rfl rfl ca29 rfl rfl (cC (.agg _ _ _ _ (cC (.imm _) (cC (.imm _) (cC (.imm _) (cC (.imm _) (cC (.imm _) (cC (.imm _) (cC (.imm _) (cC (.imm _) (cC (.imm _) (cC (.imm _) (cC (.imm _) (cC (.imm _) .nil))))))))))))) .nil) rfl rfl rfl rfl rfl ?_
        refine .v rfl rfl (OpL.unV rfl rfl rfl) ?_
        refine .call (.agg [.imm (.val (.int .i64 t12.Day)), .imm (.val (.int .i64 t12.Member)), .imm (.val (.int .i64 t12.Trade)), .imm (.val (.int .i64 t12.Cash)), .imm (.row 2 (List.map api_Lot.enc t12.Lots))]) [] 0 (leg_Covered_leg.ok b13) rfl rfl rfl ca28 rfl rfl (cC (.agg _ _ _ _ (cC (.imm _) (cC (.imm _) (cC (.imm _) (cC (.imm _) (cC (.imm _) (cC (.imm _) (cC (.imm _) (cC (.imm _) (cC (.imm _) (cC (.imm _) (cC (.imm _) (cC (.imm _) .nil))))))))))))) (cC (.imm _) (cC (.imm _) (cC (.imm _) .nil)))) rfl rfl rfl rfl rfl ?_
        refine .s rfl rfl (O.st ty31 rfl rfl rfl rfl rfl rfl rfl rfl rfl rfl (all' := [.imm (.val (.int .i64 t12.Day)), .imm (.val (.int .i64 t12.Member)), .imm (.val (.int .i64 t12.Trade)), .imm (.val (.int .i64 t12.Cash)), .imm (.row 2 (List.map api_Lot.enc t12.Lots))]) rfl) ?_
        refine .v rfl rfl (OpL.move (.inr rfl) rfl) ?_
        refine .nil ?_
        refine ⟨by kernel_rfl, by kernel_rfl, ?_⟩
        refine W.ret ?_
        cases h
        exact leaves (.inr rfl) rfl (.tup _ _ _ _ (cC (.agg _ _ _ _ (cC (.imm _) (cC (.imm _) (cC (.imm _) (cC (.imm _) (cC (.imm _) .nil)))))) (cC (.imm _) .nil))) (cN .nil) rfl rfl

noncomputable def lombardref10_Lots.b0 (x0 : List api_Lot) (x1 : List api_Lot) (v6 : Int) : Option (Int ⊕ (Bool ⊕ Unit)) :=
  if (decide (v6 < (List.length x0 : Int))) = true then
    if (0 : Int) ≤ v6 ∧ v6 < (List.length x0 : Int) then
    if (0 : Int) ≤ v6 ∧ v6 < (List.length x1 : Int) then
    if (!((((nth x0 v6).ISIN) == ((nth x1 v6).ISIN)) && (((nth x0 v6).Qty) == ((nth x1 v6).Qty)))) = true then
      some (.inr (.inl false))
    else
      some (.inl (IntKind.wrap .i64 (v6 + 1)))
    else none
    else none
  else
    some (.inr (.inr ()))
noncomputable def lombardref10_Lots.r0 (x0 : List api_Lot) (x1 : List api_Lot) (s : Int) : Option (Int ⊕ (Bool ⊕ Unit)) := lombardref10_Lots.b0 x0 x1 s
noncomputable def lombardref10_Lots.f (x0 : List api_Lot) (x1 : List api_Lot) : Option (Bool) :=
  if ((List.length x0 : Int) != (List.length x1 : Int)) = true then
    some false
  else
    (loop (lombardref10_Lots.r0 x0 x1) 0).bind fun o16 =>
    match o16 with
    | .inl r23 => some r23
    | .inr w15 =>
      some true
set_option maxRecDepth 100000 in
set_option maxHeartbeats 4000000 in
theorem lombardref10_Lots.ok {x0 : List api_Lot} {x1 : List api_Lot} {r : Bool} (h : lombardref10_Lots.f x0 x1 = some r) : Pm.Spec prog 35 [.imm (.row 2 (List.map api_Lot.enc x0)), .imm (.row 2 (List.map api_Lot.enc x1))] (.imm (.val (.bool r))) [none, none] := by
  unfold lombardref10_Lots.f at h
  refine Pm.Spec.of_body Try.func35 rfl (by kernel_rfl) (Nat.le_of_ble_eq_true rfl) (Nat.le_of_ble_eq_true rfl) ?_
  refine W.ghost (σ' := (mkSt [(0, some (.imm (.row 2 (List.map api_Lot.enc x0)))), (1, some (.imm (.row 2 (List.map api_Lot.enc x1))))] [] 1000)) (Gives.entry (.c rfl (.c rfl .n)) .n) ?_
  refine W.seq ?_
  refine W.pk ?_
  refine .v rfl rfl (OpL.move (.inr rfl) rfl) ?_
  refine .nil ?_
  refine W.seq ?_
  refine W.seq ?_
  refine W.pk ?_
  refine .v rfl rfl (OpL.move (.inl rfl) rfl) ?_
  refine .v rfl rfl (O.lenR sl25 rfl rfl) ?_
  refine .v rfl rfl (OpL.move (.inl rfl) rfl) ?_
  refine .v rfl rfl (O.lenR sl25 rfl rfl) ?_
  refine .v rfl rfl (OpL.binI rfl rfl rfl rfl) ?_
  refine .nil ?_
  refine W.cond rfl (fun q1 => ?_) (fun q1 => ?_)
  · have h := ifT q1 h
    refine W.seq ?_
    refine W.pk ?_
    refine .v rfl rfl (OpL.move (.inr rfl) rfl) ?_
    refine .nil ?_
    refine W.ret ?_
    cases h
    exact leaves (.inr rfl) rfl (.imm _) (cN (cN .nil)) rfl rfl
  · have h := ifF q1 h
    refine W.skip ?_
    refine W.seq ?_
    refine W.seq ?_
    refine W.pk ?_
    refine .v rfl rfl (OpL.move (.inr rfl) rfl) ?_
    refine .nil ?_
    obtain ⟨o16, b17, z18⟩ := bnd1 h
    refine W.fork2 (out := o16) (fun (w15 : Unit) => mkSt [] [] 1000) ?_ ?_
    · clear h
      refine W.block ?_
      refine W.loopF (fun (s_ : Int) => mkSt [(0, some (.imm (.row 2 (List.map api_Lot.enc x0)))), (1, some (.imm (.row 2 (List.map api_Lot.enc x1)))), (5, some (.imm (.val (.int .i64 s_))))] [] 1000) b17 (Gives.mkR [] (.c rfl (.rfl _) rfl (.c rfl (.rfl _) rfl (.c rfl (.rfl _) rfl .n))) .n rfl rfl rfl) ?_
      rintro v6 s_ hr
      have h : lombardref10_Lots.b0 x0 x1 v6 = some s_ := hr
      unfold lombardref10_Lots.b0 at h
      refine W.seq ?_
      refine W.seq ?_
      refine W.pk ?_
      refine .v rfl rfl (OpL.move (.inl rfl) rfl) ?_
      refine .v rfl rfl (OpL.move (.inl rfl) rfl) ?_
      refine .v rfl rfl (O.lenR sl25 rfl rfl) ?_
      refine .v rfl rfl (OpL.binI rfl rfl rfl rfl) ?_
      refine .nil ?_
      refine W.cond rfl (fun q19 => ?_) (fun q19 => ?_)
      · have h := ifT q19 h
        refine W.skip ?_
        refine W.seq ?_
        refine W.block ?_
        refine W.seq ?_
        obtain ⟨c20, h⟩ := chk h
        obtain ⟨c21, h⟩ := chk h
        refine W.dk [[], [], [0, 1], [0, 1, 2], [], [], [4, 5], [4, 5, 6], [0, 1, 2, 3, 4, 5, 6, 7]] rfl (by kernel_rfl) ?_
        refine .v rfl rfl (OpL.move (.inl rfl) rfl) ?_
        refine .v rfl rfl (OpL.move (.inl rfl) rfl) ?_
        refine .v rfl rfl (O.idx sl25 c20 rfl rfl rfl) ?_
        refine .v rfl rfl (O.ldN ty44 rfl rfl rfl) ?_
        refine .v rfl rfl (OpL.move (.inl rfl) rfl) ?_
        refine .v rfl rfl (OpL.move (.inl rfl) rfl) ?_
        refine .v rfl rfl (O.idx sl25 c21 rfl rfl rfl) ?_
        refine .v rfl rfl (O.ldN ty44 rfl rfl rfl) ?_
        refine .v rfl rfl (O.neS (r := ((((nth x0 v6).ISIN) == ((nth x1 v6).ISIN)) && (((nth x0 v6).Qty) == ((nth x1 v6).Qty)))) fl44 rfl rfl rfl rfl rfl rfl) ?_
        refine .nil ?_
        refine ⟨by kernel_rfl, by kernel_rfl, ?_⟩
        refine W.cond rfl (fun q22 => ?_) (fun q22 => ?_)
        · have h := ifT q22 h
          refine W.seq ?_
          refine W.pk ?_
          refine .v rfl rfl (OpL.move (.inr rfl) rfl) ?_
          refine .nil ?_
          refine W.ret ?_
          cases h
          refine rdR fun e_ => ?_
          subst e_
          have h := z18
          dsimp only at h
          refine fkR ?_
          cases h
          exact leaves (.inr rfl) rfl (.imm _) (cN (cN .nil)) rfl rfl
        · have h := ifF q22 h
          refine W.skip ?_
          refine W.pk ?_
          refine .v rfl rfl (OpL.move (.inl rfl) rfl) ?_
          refine .v rfl rfl (OpL.binI rfl rfl rfl rfl) ?_
          refine .v rfl rfl (OpL.move (.inr rfl) rfl) ?_
          refine .nil ?_
          cases h
          exact rdN (Gives.mkR [] (.c rfl (.rfl _) rfl (.c rfl (.rfl _) rfl (.c rfl (.rfl _) rfl .n))) .n rfl rfl rfl)
      · have h := ifF q19 h
        refine W.exit ?_
        cases h
        refine rdX fun e_ => ?_
        subst e_
        refine hit ?_
        exact fkN (Gives.mkR [] .n .n rfl rfl rfl)
    · intro w15 e_
      subst e_
      clear h
      have h := z18
      dsimp only at h
      refine W.seq ?_
      refine W.pk ?_
      refine .v rfl rfl (OpL.move (.inr rfl) rfl) ?_
      refine .nil ?_
      refine W.ret ?_
      cases h
      exact leaves (.inr rfl) rfl (.imm _) (cN (cN .nil)) rfl rfl
end Go.Proofs.Ytlgfdldonoaahaa
