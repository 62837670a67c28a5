/- Shows what functions of the program come to, each as a plain function: written by a program of the author's for this claim. -/
import Derived.Test.YtipgpnagfmlahaaGx8
namespace Go.Proofs.Ytipgpnagfmlahaa
open Go Go.Pm
set_option linter.unusedVariables false
set_option linter.unusedSimpArgs false
noncomputable def accrue_Run.b0 (x0 : Int) (x1 : List api_Reset) (x3 : Int) (v22 : Int) (v23 : Int) (v24 : Int) : Option ((Int × Int × Int) ⊕ ((accrue_Meter × Int) ⊕ (Int × Int))) :=
  if (decide (v22 < x3)) = true then
    (accrue_Rate.f x1 v22).bind fun t42 =>
    (accrue_Meter_Day.f (⟨v23, v24⟩ : accrue_Meter) x0 t42.1).bind fun t44 =>
    if (t44.2 != 0) = true then
      some (.inr (.inl ((⟨0, 0⟩ : accrue_Meter), t44.2)))
    else
      some (.inl ((IntKind.wrap .i64 (v22 + 1)), t44.1.Units, t44.1.Rest))
  else
    some (.inr (.inr (v23, v24)))
noncomputable def accrue_Run.r0 (x0 : Int) (x1 : List api_Reset) (x3 : Int) (s : Int × Int × Int) : Option ((Int × Int × Int) ⊕ ((accrue_Meter × Int) ⊕ (Int × Int))) := accrue_Run.b0 x0 x1 x3 s.1 s.2.1 s.2.2
noncomputable def accrue_Run.f (x0 : Int) (x1 : List api_Reset) (x2 : Int) (x3 : Int) : Option (accrue_Meter × Int) :=
  (accrue_Check.f x1).bind fun t1 =>
  if (t1 != 0) = true then
    some ((⟨0, 0⟩ : accrue_Meter), t1)
  else
    (calendar_Good.f x2).bind fun t4 =>
    (if (!t4) = false then calendar_Good.f x3 else some default).bind fun t6 =>
    if (((((!t4) || (!t6)) || (decide (x2 > x3))) || (decide ((IntKind.wrap .i64 (x3 - x2)) > 3660))) = false → (0 : Int) ≤ 0 ∧ 0 < (List.length x1 : Int)) then
    if (((((!t4) || (!t6)) || (decide (x2 > x3))) || (decide ((IntKind.wrap .i64 (x3 - x2)) > 3660))) || (decide (x2 < ((nth x1 0).Day)))) = true then
      some ((⟨0, 0⟩ : accrue_Meter), 10)
    else
      if ((decide (x0 < 0)) || (decide (x0 > 1125899906842624))) = true then
        some ((⟨0, 0⟩ : accrue_Meter), 1)
      else
        (loop (accrue_Run.r0 x0 x1 x3) (x2, 0, 0)).bind fun o38 =>
        match o38 with
        | .inl r47 => some r47
        | .inr w37 =>
          some ((⟨w37.1, w37.2⟩ : accrue_Meter), 0)
    else none
set_option maxRecDepth 100000 in
set_option maxHeartbeats 4000000 in
theorem accrue_Run.ok {x0 : Int} {x1 : List api_Reset} {x2 : Int} {x3 : Int} {r : accrue_Meter × Int} (h : accrue_Run.f x0 x1 x2 x3 = some r) : Pm.Spec prog 22 [.imm (.val (.int .i64 x0)), .imm (.row 2 (List.map api_Reset.enc x1)), .imm (.val (.int .i64 x2)), .imm (.val (.int .i64 x3))] (.tup [.agg [.imm (.val (.int .i64 r.1.Units)), .imm (.val (.int .i64 r.1.Rest))], .imm (.val (.int .i64 r.2))]) [none, none, none, none] := by
  unfold accrue_Run.f at h
  refine Pm.Spec.of_body Try.func22 rfl (by kernel_rfl) (Nat.le_of_ble_eq_true rfl) (Nat.le_of_ble_eq_true rfl) ?_
  refine W.ghost (σ' := (mkSt [(0, some (.imm (.val (.int .i64 x0)))), (1, some (.imm (.row 2 (List.map api_Reset.enc x1)))), (2, some (.imm (.val (.int .i64 x2)))), (3, some (.imm (.val (.int .i64 x3))))] [] 1000)) (Gives.entry (.c rfl (.c rfl (.c rfl (.c rfl .n)))) .n) ?_
  refine W.seq ?_
  refine W.pk ?_
  refine .t rfl rfl (O.alloc z31 rfl) ?_
  refine .v rfl rfl (OpL.move (.inr rfl) rfl) ?_
  refine .nil ?_
  refine W.seq ?_
  refine W.seq ?_
  obtain ⟨t1, b2, h⟩ := bnd1 h
  refine W.pk ?_
  refine .v rfl rfl (OpL.move (.inl rfl) rfl) ?_
  refine .call (.imm (.val (.int .i64 t1))) [] 0 (accrue_Check.ok b2) rfl rfl rfl ca18 rfl rfl (cC (.imm _) .nil) rfl rfl rfl rfl rfl ?_
  refine .v rfl rfl (OpL.move (.inr rfl) rfl) ?_
  refine .nil ?_
  refine W.seq ?_
  refine W.pk ?_
  refine .v rfl rfl (OpL.move (.inl rfl) rfl) ?_
  refine .v rfl rfl (OpL.binI rfl rfl rfl rfl) ?_
  refine .nil ?_
  refine W.cond rfl (fun q3 => ?_) (fun q3 => ?_)
  · have h := ifT q3 h
    refine W.seq ?_
    refine W.pk ?_
    refine .v rfl rfl (O.build (out := [.imm (.val (.int .i64 0)), .imm (.val (.int .i64 0))]) bl31 rfl rfl rfl rfl rfl) ?_
    refine .v rfl rfl (OpL.move (.inl rfl) rfl) ?_
    refine .s rfl rfl (O.st ty31 rfl rfl rfl rfl rfl rfl rfl rfl rfl rfl (all' := [.imm (.val (.int .i64 0)), .imm (.val (.int .i64 0))]) rfl) ?_
    refine .v rfl rfl (OpL.move (.inr rfl) rfl) ?_
    refine .nil ?_
    refine W.ret ?_
    cases h
    exact leaves (.inr rfl) rfl (.tup _ _ _ _ (cC (.agg _ _ _ _ (cC (.imm _) (cC (.imm _) .nil))) (cC (.imm _) .nil))) (cN (cN (cN (cN .nil)))) rfl rfl
  · have h := ifF q3 h
    refine W.skip ?_
    refine W.seq ?_
    refine W.block ?_
    refine W.seq ?_
    obtain ⟨t4, b5, h⟩ := bnd1 h
    obtain ⟨t6, b7, h⟩ := bnd1 h
    obtain ⟨c8, h⟩ := chk h
    refine W.fork (mkSt [(0, some (.imm (.val (.int .i64 x0)))), (1, some (.imm (.row 2 (List.map api_Reset.enc x1)))), (2, some (.imm (.val (.int .i64 x2)))), (3, some (.imm (.val (.int .i64 x3)))), (8, some (.ptr 1000 0)), (22, some (.imm (.val (.bool (((((!t4) || (!t6)) || (decide (x2 > x3))) || (decide ((IntKind.wrap .i64 (x3 - x2)) > 3660))) || (decide (x2 < ((nth x1 0).Day))))))))] [(1000, some (.box [.imm (.val (.int .i64 0)), .imm (.val (.int .i64 0))]))] 1001) ?_ ?_
    · refine W.cond rfl (fun q13 => ?_) (fun q13 => ?_)
      · have h := ifT q13 h
        refine W.seq ?_
        refine W.pk ?_
        refine .v rfl rfl (O.build (out := [.imm (.val (.int .i64 0)), .imm (.val (.int .i64 0))]) bl31 rfl rfl rfl rfl rfl) ?_
        refine .s rfl rfl (O.st ty31 rfl rfl rfl rfl rfl rfl rfl rfl rfl rfl (all' := [.imm (.val (.int .i64 0)), .imm (.val (.int .i64 0))]) rfl) ?_
        refine .v rfl rfl (OpL.move (.inr rfl) rfl) ?_
        refine .nil ?_
        refine W.ret ?_
        cases h
        exact leaves (.inr rfl) rfl (.tup _ _ _ _ (cC (.agg _ _ _ _ (cC (.imm _) (cC (.imm _) .nil))) (cC (.imm _) .nil))) (cN (cN (cN (cN .nil)))) rfl rfl
      · have h := ifF q13 h
        refine W.seq ?_
        refine W.fork (mkSt [(0, some (.imm (.val (.int .i64 x0)))), (1, some (.imm (.row 2 (List.map api_Reset.enc x1)))), (2, some (.imm (.val (.int .i64 x2)))), (3, some (.imm (.val (.int .i64 x3)))), (8, some (.ptr 1000 0)), (51, some (.imm (.val (.bool ((decide (x0 < 0)) || (decide (x0 > 1125899906842624)))))))] [(1000, some (.box [.imm (.val (.int .i64 0)), .imm (.val (.int .i64 0))]))] 1001) ?_ ?_
        · refine W.cond rfl (fun q15 => ?_) (fun q15 => ?_)
          · have h := ifT q15 h
            refine W.seq ?_
            refine W.pk ?_
            refine .v rfl rfl (O.build (out := [.imm (.val (.int .i64 0)), .imm (.val (.int .i64 0))]) bl31 rfl rfl rfl rfl rfl) ?_
            refine .s rfl rfl (O.st ty31 rfl rfl rfl rfl rfl rfl rfl rfl rfl rfl (all' := [.imm (.val (.int .i64 0)), .imm (.val (.int .i64 0))]) rfl) ?_
            refine .v rfl rfl (OpL.move (.inr rfl) rfl) ?_
            refine .nil ?_
            refine W.ret ?_
            cases h
            exact leaves (.inr rfl) rfl (.tup _ _ _ _ (cC (.agg _ _ _ _ (cC (.imm _) (cC (.imm _) .nil))) (cC (.imm _) .nil))) (cN (cN (cN (cN .nil)))) rfl rfl
          · have h := ifF q15 h
            refine W.skip ?_
            refine W.seq ?_
            refine W.pk ?_
            refine .t rfl rfl (O.alloc z31 rfl) ?_
            refine .nil ?_
            refine W.seq ?_
            refine W.pk ?_
            refine .v rfl rfl (OpL.move (.inr rfl) rfl) ?_
            refine .nil ?_
            refine W.seq ?_
            refine W.seq ?_
            refine W.pk ?_
            refine .v rfl rfl (OpL.move (.inl rfl) rfl) ?_
            refine .v rfl rfl (OpL.move (.inr rfl) rfl) ?_
            refine .nil ?_
            obtain ⟨o38, b39, z40⟩ := bnd1 h
            refine W.fork2 (out := o38) (fun (w37 : Int × Int) => mkSt [(8, some (.ptr 1000 0)), (11, some (.ptr 1001 0))] [(1000, some (.box [.imm (.val (.int .i64 0)), .imm (.val (.int .i64 0))])), (1001, some (.box [.imm (.val (.int .i64 w37.1)), .imm (.val (.int .i64 w37.2))]))] 1002) ?_ ?_
            · clear h
              refine W.block ?_
              refine W.loopF (fun (s_ : Int × Int × Int) => mkSt [(0, some (.imm (.val (.int .i64 x0)))), (1, some (.imm (.row 2 (List.map api_Reset.enc x1)))), (3, some (.imm (.val (.int .i64 x3)))), (8, some (.ptr 1000 0)), (11, some (.ptr 1001 0)), (13, some (.imm (.val (.int .i64 s_.1))))] [(1000, some (.box [.imm (.val (.int .i64 0)), .imm (.val (.int .i64 0))])), (1001, some (.box [.imm (.val (.int .i64 s_.2.1)), .imm (.val (.int .i64 s_.2.2))]))] 1002) b39 (Gives.mkR [] (.c rfl (.rfl _) rfl (.c rfl (.rfl _) rfl (.c rfl (.rfl _) rfl (.c rfl (.rfl _) rfl (.c rfl (.rfl _) rfl (.c rfl (.rfl _) rfl .n)))))) (.c rfl (.rfl _) rfl rfl (.c rfl (.rfl _) rfl rfl .n)) rfl rfl rfl) ?_
              rintro ⟨v22, v23, v24⟩ s_ hr
              have h : accrue_Run.b0 x0 x1 x3 v22 v23 v24 = some s_ := hr
              unfold accrue_Run.b0 at h
              refine W.seq ?_
              refine W.seq ?_
              refine W.pk ?_
              refine .v rfl rfl (OpL.move (.inl rfl) rfl) ?_
              refine .v rfl rfl (OpL.move (.inl rfl) rfl) ?_
              refine .v rfl rfl (OpL.binI rfl rfl rfl rfl) ?_
              refine .nil ?_
              refine W.cond rfl (fun q41 => ?_) (fun q41 => ?_)
              · have h := ifT q41 h
                refine W.skip ?_
                refine W.seq ?_
                refine W.block ?_
                refine W.seq ?_
                obtain ⟨t42, b43, h⟩ := bnd1 h
                refine W.pk ?_
                refine .v rfl rfl (OpL.move (.inl rfl) rfl) ?_
                refine .v rfl rfl (OpL.move (.inl rfl) rfl) ?_
                refine .call (.tup [.imm (.val (.int .i64 t42.1)), .imm (.val (.bool t42.2))]) [] 0 (accrue_Rate.ok b43) rfl rfl rfl ca20 rfl rfl (cC (.imm _) (cC (.imm _) .nil)) rfl rfl rfl rfl rfl ?_
                refine .v rfl rfl (OpL.move (.inl rfl) rfl) ?_
                refine .v rfl rfl (OpL.extract rfl rfl rfl) ?_
                refine .v rfl rfl (OpL.extract rfl rfl rfl) ?_
                refine .v rfl rfl (OpL.move (.inr rfl) rfl) ?_
                refine .v rfl rfl (OpL.move (.inr rfl) rfl) ?_
                refine .nil ?_
                refine W.seq ?_
                obtain ⟨t44, b45, h⟩ := bnd1 h
                refine W.pk ?_
                refine .v rfl rfl (O.ldN ty31 rfl rfl rfl) ?_
                refine .v rfl rfl (OpL.move (.inl rfl) rfl) ?_
                refine .v rfl rfl (OpL.move (.inl rfl) rfl) ?_
                refine .call (.tup [.agg [.imm (.val (.int .i64 t44.1.Units)), .imm (.val (.int .i64 t44.1.Rest))], .imm (.val (.int .i64 t44.2))]) [] 0 (accrue_Meter_Day.ok b45) rfl rfl rfl ca13 rfl rfl (cC (.agg _ _ _ _ (cC (.imm _) (cC (.imm _) .nil))) (cC (.imm _) (cC (.imm _) .nil))) rfl rfl rfl rfl rfl ?_
                refine .v rfl rfl (OpL.move (.inl rfl) rfl) ?_
                refine .v rfl rfl (OpL.extract rfl rfl rfl) ?_
                refine .v rfl rfl (OpL.extract rfl rfl rfl) ?_
                refine .s rfl rfl (O.st ty31 rfl rfl rfl rfl rfl rfl rfl rfl rfl rfl (all' := [.imm (.val (.int .i64 t44.1.Units)), .imm (.val (.int .i64 t44.1.Rest))]) rfl) ?_
                refine .v rfl rfl (OpL.move (.inr rfl) rfl) ?_
                refine .nil ?_
                refine W.seq ?_
                refine W.pk ?_
                refine .v rfl rfl (OpL.move (.inl rfl) rfl) ?_
                refine .v rfl rfl (OpL.binI rfl rfl rfl rfl) ?_
                refine .nil ?_
                refine W.cond rfl (fun q46 => ?_) (fun q46 => ?_)
                · have h := ifT q46 h
                  refine W.seq ?_
                  refine W.pk ?_
                  refine .v rfl rfl (O.build (out := [.imm (.val (.int .i64 0)), .imm (.val (.int .i64 0))]) bl31 rfl rfl rfl rfl rfl) ?_
                  refine .v rfl rfl (OpL.move (.inl rfl) rfl) ?_
                  refine .s rfl rfl (O.st ty31 rfl rfl rfl rfl rfl rfl rfl rfl rfl rfl (all' := [.imm (.val (.int .i64 0)), .imm (.val (.int .i64 0))]) rfl) ?_
                  refine .v rfl rfl (OpL.move (.inr rfl) rfl) ?_
                  refine .nil ?_
                  refine W.ret ?_
                  cases h
                  refine rdR fun e_ => ?_
                  subst e_
                  have h := z40
                  dsimp only at h
                  refine fkR ?_
                  cases h
                  exact leaves (.inr rfl) rfl (.tup _ _ _ _ (cC (.agg _ _ _ _ (cC (.imm _) (cC (.imm _) .nil))) (cC (.imm _) .nil))) (cN (cN (cN (cN .nil)))) rfl rfl
                · have h := ifF q46 h
                  refine W.skip ?_
                  refine W.pk ?_
                  refine .v rfl rfl (OpL.move (.inl rfl) rfl) ?_
                  refine .v rfl rfl (OpL.binI rfl rfl rfl rfl) ?_
                  refine .v rfl rfl (OpL.move (.inr rfl) rfl) ?_
                  refine .nil ?_
                  cases h
                  exact rdN (Gives.mkR [] (.c rfl (.rfl _) rfl (.c rfl (.rfl _) rfl (.c rfl (.rfl _) rfl (.c rfl (.rfl _) rfl (.c rfl (.rfl _) rfl (.c rfl (.rfl _) rfl .n)))))) (.c rfl (.rfl _) rfl rfl (.c rfl (.rfl _) rfl rfl .n)) rfl rfl rfl)
              · have h := ifF q41 h
                refine W.exit ?_
                cases h
                refine rdX fun e_ => ?_
                subst e_
                refine hit ?_
                exact fkN (Gives.mkR [] (.c rfl (.rfl _) rfl (.c rfl (.rfl _) rfl .n)) (.c rfl (.rfl _) rfl rfl (.c rfl (.rfl _) rfl rfl .n)) rfl rfl rfl)
            · intro w37 e_
              subst e_
              clear h
              have h := z40
              dsimp only at h
              refine W.seq ?_
              refine W.pk ?_
              refine .v rfl rfl (O.ldN ty31 rfl rfl rfl) ?_
              refine .s rfl rfl (O.st ty31 rfl rfl rfl rfl rfl rfl rfl rfl rfl rfl (all' := [.imm (.val (.int .i64 w37.1)), .imm (.val (.int .i64 w37.2))]) rfl) ?_
              refine .v rfl rfl (OpL.move (.inr rfl) rfl) ?_
              refine .nil ?_
              refine W.ret ?_
              cases h
              exact leaves (.inr rfl) rfl (.tup _ _ _ _ (cC (.agg _ _ _ _ (cC (.imm _) (cC (.imm _) .nil))) (cC (.imm _) .nil))) (cN (cN (cN (cN .nil)))) rfl rfl
        · clear h
          rcases tf (decide (x0 < 0)) with g14 | g14
          · refine W.pk ?_
            refine .v rfl rfl (OpL.move (.inl rfl) rfl) ?_
            refine .v rfl rfl (OpL.binI rfl rfl rfl rfl) ?_
            refine .v rfl rfl (OpL.move (.inl rfl) rfl) ?_
            refine .x rfl (unmet rfl rfl rfl g14) ?_
            refine .x rfl (unmet rfl rfl rfl g14) ?_
            refine .v rfl rfl (O.pickT g14 rfl rfl rfl) ?_
            refine .v rfl rfl (OpL.move (.inr rfl) rfl) ?_
            refine .nil ?_
            exact toN (Gives.mkR [] (.c rfl (.rfl _) rfl (.c rfl (.rfl _) rfl (.c rfl (.rfl _) rfl (.c rfl (.rfl _) rfl (.c rfl (.rfl _) rfl (.c rfl (sbb (by simp only [g14, Bool.true_or, Bool.or_true, Bool.false_or, Bool.or_false, Bool.true_and, Bool.and_true, Bool.false_and, Bool.and_false, Bool.not_true, Bool.not_false, cond_true, cond_false])) rfl .n)))))) (.c rfl (.rfl _) rfl rfl .n) rfl rfl rfl)
          · refine W.pk ?_
            refine .v rfl rfl (OpL.move (.inl rfl) rfl) ?_
            refine .v rfl rfl (OpL.binI rfl rfl rfl rfl) ?_
            refine .v rfl rfl (OpL.move (.inl rfl) rfl) ?_
            refine .v rfl (met rfl rfl rfl g14) (OpL.move (.inl rfl) rfl) ?_
            refine .v rfl (met rfl rfl rfl g14) (OpL.binI rfl rfl rfl rfl) ?_
            refine .v rfl rfl (O.pickF g14 rfl rfl rfl) ?_
            refine .v rfl rfl (OpL.move (.inr rfl) rfl) ?_
            refine .nil ?_
            exact toN (Gives.mkR [] (.c rfl (.rfl _) rfl (.c rfl (.rfl _) rfl (.c rfl (.rfl _) rfl (.c rfl (.rfl _) rfl (.c rfl (.rfl _) rfl (.c rfl (sbb (by simp only [g14, Bool.true_or, Bool.or_true, Bool.false_or, Bool.or_false, Bool.true_and, Bool.and_true, Bool.false_and, Bool.and_false, Bool.not_true, Bool.not_false, cond_true, cond_false])) rfl .n)))))) (.c rfl (.rfl _) rfl rfl .n) rfl rfl rfl)
    · clear h
      rcases tf t4 with g9 | g9
      · rcases tf t6 with g10 | g10
        · rcases tf (decide (x2 > x3)) with g11 | g11
          · refine W.pk ?_
            refine .v rfl rfl (OpL.move (.inl rfl) rfl) ?_
            refine .call (.imm (.val (.bool t4))) [] 0 (calendar_Good.ok b5) rfl rfl rfl ca41 rfl rfl (cC (.imm _) .nil) rfl rfl rfl rfl rfl ?_
            refine .v rfl rfl (OpL.unV rfl rfl rfl) ?_
            refine .v rfl rfl (OpL.move (.inl rfl) rfl) ?_
            refine .v rfl (met rfl rfl rfl (notT g9)) (OpL.move (.inl rfl) rfl) ?_
            refine .call (.imm (.val (.bool t6))) [] 0 (calendar_Good.ok ((if_pos (by simp only [g9, g10, g11, Bool.true_or, Bool.or_true, Bool.false_or, Bool.or_false, Bool.true_and, Bool.and_true, Bool.false_and, Bool.and_false, Bool.not_true, Bool.not_false, cond_true, cond_false])).symm.trans b7)) rfl (met rfl rfl rfl (notT g9)) rfl ca41 rfl rfl (cC (.imm _) .nil) rfl rfl rfl rfl rfl ?_
            refine .v rfl (met rfl rfl rfl (notT g9)) (OpL.unV rfl rfl rfl) ?_
            refine .v rfl rfl (O.pickF (notT g9) rfl rfl rfl) ?_
            refine .v rfl rfl (OpL.move (.inl rfl) rfl) ?_
            refine .v rfl (met rfl rfl rfl (notT g10)) (OpL.move (.inl rfl) rfl) ?_
            refine .v rfl (met rfl rfl rfl (notT g10)) (OpL.move (.inl rfl) rfl) ?_
            refine .v rfl (met rfl rfl rfl (notT g10)) (OpL.binI rfl rfl rfl rfl) ?_
            refine .v rfl rfl (O.pickF (notT g10) rfl rfl rfl) ?_
            refine .v rfl rfl (OpL.move (.inl rfl) rfl) ?_
            refine .x rfl (unmet rfl rfl rfl g11) ?_
            refine .x rfl (unmet rfl rfl rfl g11) ?_
            refine .x rfl (unmet rfl rfl rfl g11) ?_
            refine .x rfl (unmet rfl rfl rfl g11) ?_
            refine .v rfl rfl (O.pickT g11 rfl rfl rfl) ?_
            refine .v rfl rfl (OpL.move (.inl rfl) rfl) ?_
            refine .x rfl (unmet rfl rfl rfl rfl) ?_
            refine .x rfl (unmet rfl rfl rfl rfl) ?_
            refine .x rfl (unmet rfl rfl rfl rfl) ?_
            refine .x rfl (unmet rfl rfl rfl rfl) ?_
            refine .x rfl (unmet rfl rfl rfl rfl) ?_
            refine .x rfl (unmet rfl rfl rfl rfl) ?_
            refine .v rfl rfl (O.pickT rfl rfl rfl rfl) ?_
            refine .v rfl rfl (OpL.move (.inr rfl) rfl) ?_
            refine .nil ?_
            exact toN (Gives.mkR [] (.c rfl (.rfl _) rfl (.c rfl (.rfl _) rfl (.c rfl (.rfl _) rfl (.c rfl (.rfl _) rfl (.c rfl (.rfl _) rfl (.c rfl (sbb (by simp only [g9, g10, g11, Bool.true_or, Bool.or_true, Bool.false_or, Bool.or_false, Bool.true_and, Bool.and_true, Bool.false_and, Bool.and_false, Bool.not_true, Bool.not_false, cond_true, cond_false])) rfl .n)))))) (.c rfl (.rfl _) rfl rfl .n) rfl rfl rfl)
          · rcases tf (decide ((IntKind.wrap .i64 (x3 - x2)) > 3660)) with g12 | g12
            · refine W.pk ?_
              refine .v rfl rfl (OpL.move (.inl rfl) rfl) ?_
              refine .call (.imm (.val (.bool t4))) [] 0 (calendar_Good.ok b5) rfl rfl rfl ca41 rfl rfl (cC (.imm _) .nil) rfl rfl rfl rfl rfl ?_
              refine .v rfl rfl (OpL.unV rfl rfl rfl) ?_
              refine .v rfl rfl (OpL.move (.inl rfl) rfl) ?_
              refine .v rfl (met rfl rfl rfl (notT g9)) (OpL.move (.inl rfl) rfl) ?_
              refine .call (.imm (.val (.bool t6))) [] 0 (calendar_Good.ok ((if_pos (by simp only [g9, g10, g11, g12, Bool.true_or, Bool.or_true, Bool.false_or, Bool.or_false, Bool.true_and, Bool.and_true, Bool.false_and, Bool.and_false, Bool.not_true, Bool.not_false, cond_true, cond_false])).symm.trans b7)) rfl (met rfl rfl rfl (notT g9)) rfl ca41 rfl rfl (cC (.imm _) .nil) rfl rfl rfl rfl rfl ?_
              refine .v rfl (met rfl rfl rfl (notT g9)) (OpL.unV rfl rfl rfl) ?_
              refine .v rfl rfl (O.pickF (notT g9) rfl rfl rfl) ?_
              refine .v rfl rfl (OpL.move (.inl rfl) rfl) ?_
              refine .v rfl (met rfl rfl rfl (notT g10)) (OpL.move (.inl rfl) rfl) ?_
              refine .v rfl (met rfl rfl rfl (notT g10)) (OpL.move (.inl rfl) rfl) ?_
              refine .v rfl (met rfl rfl rfl (notT g10)) (OpL.binI rfl rfl rfl rfl) ?_
              refine .v rfl rfl (O.pickF (notT g10) rfl rfl rfl) ?_
              refine .v rfl rfl (OpL.move (.inl rfl) rfl) ?_
              refine .v rfl (met rfl rfl rfl g11) (OpL.move (.inl rfl) rfl) ?_
              refine .v rfl (met rfl rfl rfl g11) (OpL.move (.inl rfl) rfl) ?_
              refine .v rfl (met rfl rfl rfl g11) (OpL.binI rfl rfl rfl rfl) ?_
              refine .v rfl (met rfl rfl rfl g11) (OpL.binI rfl rfl rfl rfl) ?_
              refine .v rfl rfl (O.pickF g11 rfl rfl rfl) ?_
              refine .v rfl rfl (OpL.move (.inl rfl) rfl) ?_
              refine .x rfl (unmet rfl rfl rfl g12) ?_
              refine .x rfl (unmet rfl rfl rfl g12) ?_
              refine .x rfl (unmet rfl rfl rfl g12) ?_
              refine .x rfl (unmet rfl rfl rfl g12) ?_
              refine .x rfl (unmet rfl rfl rfl g12) ?_
              refine .x rfl (unmet rfl rfl rfl g12) ?_
              refine .v rfl rfl (O.pickT g12 rfl rfl rfl) ?_
              refine .v rfl rfl (OpL.move (.inr rfl) rfl) ?_
              refine .nil ?_
              exact toN (Gives.mkR [] (.c rfl (.rfl _) rfl (.c rfl (.rfl _) rfl (.c rfl (.rfl _) rfl (.c rfl (.rfl _) rfl (.c rfl (.rfl _) rfl (.c rfl (sbb (by simp only [g9, g10, g11, g12, Bool.true_or, Bool.or_true, Bool.false_or, Bool.or_false, Bool.true_and, Bool.and_true, Bool.false_and, Bool.and_false, Bool.not_true, Bool.not_false, cond_true, cond_false])) rfl .n)))))) (.c rfl (.rfl _) rfl rfl .n) rfl rfl rfl)
            · refine W.pk ?_
              refine .v rfl rfl (OpL.move (.inl rfl) rfl) ?_
              refine .call (.imm (.val (.bool t4))) [] 0 (calendar_Good.ok b5) rfl rfl rfl ca41 rfl rfl (cC (.imm _) .nil) rfl rfl rfl rfl rfl ?_
              refine .v rfl rfl (OpL.unV rfl rfl rfl) ?_
              refine .v rfl rfl (OpL.move (.inl rfl) rfl) ?_
              refine .v rfl (met rfl rfl rfl (notT g9)) (OpL.move (.inl rfl) rfl) ?_
              refine .call (.imm (.val (.bool t6))) [] 0 (calendar_Good.ok ((if_pos (by simp only [g9, g10, g11, g12, Bool.true_or, Bool.or_true, Bool.false_or, Bool.or_false, Bool.true_and, Bool.and_true, Bool.false_and, Bool.and_false, Bool.not_true, Bool.not_false, cond_true, cond_false])).symm.trans b7)) rfl (met rfl rfl rfl (notT g9)) rfl ca41 rfl rfl (cC (.imm _) .nil) rfl rfl rfl rfl rfl ?_
              refine .v rfl (met rfl rfl rfl (notT g9)) (OpL.unV rfl rfl rfl) ?_
              refine .v rfl rfl (O.pickF (notT g9) rfl rfl rfl) ?_
              refine .v rfl rfl (OpL.move (.inl rfl) rfl) ?_
              refine .v rfl (met rfl rfl rfl (notT g10)) (OpL.move (.inl rfl) rfl) ?_
              refine .v rfl (met rfl rfl rfl (notT g10)) (OpL.move (.inl rfl) rfl) ?_
              refine .v rfl (met rfl rfl rfl (notT g10)) (OpL.binI rfl rfl rfl rfl) ?_
              refine .v rfl rfl (O.pickF (notT g10) rfl rfl rfl) ?_
              refine .v rfl rfl (OpL.move (.inl rfl) rfl) ?_
              refine .v rfl (met rfl rfl rfl g11) (OpL.move (.inl rfl) rfl) ?_
              refine .v rfl (met rfl rfl rfl g11) (OpL.move (.inl rfl) rfl) ?_
              refine .v rfl (met rfl rfl rfl g11) (OpL.binI rfl rfl rfl rfl) ?_
              refine .v rfl (met rfl rfl rfl g11) (OpL.binI rfl rfl rfl rfl) ?_
              refine .v rfl rfl (O.pickF g11 rfl rfl rfl) ?_
              refine .v rfl rfl (OpL.move (.inl rfl) rfl) ?_
              refine .v rfl (met rfl rfl rfl g12) (OpL.move (.inl rfl) rfl) ?_
              refine .v rfl (met rfl rfl rfl g12) (OpL.move (.inl rfl) rfl) ?_
              refine .v rfl (met rfl rfl rfl g12) (O.idx sl40 (c8 (by simp only [g9, g10, g11, g12, Bool.true_or, Bool.or_true, Bool.false_or, Bool.or_false, Bool.true_and, Bool.and_true, Bool.false_and, Bool.and_false, Bool.not_true, Bool.not_false, cond_true, cond_false])) rfl rfl rfl) ?_
              refine .v rfl (met rfl rfl rfl g12) (O.fld fld50_0 rfl rfl rfl) ?_
              refine .v rfl (met rfl rfl rfl g12) (O.ld ty3 rfl rfl rfl) ?_
              refine .v rfl (met rfl rfl rfl g12) (OpL.binI rfl rfl rfl rfl) ?_
              refine .v rfl rfl (O.pickF g12 rfl rfl rfl) ?_
              refine .v rfl rfl (OpL.move (.inr rfl) rfl) ?_
              refine .nil ?_
              exact toN (Gives.mkR [] (.c rfl (.rfl _) rfl (.c rfl (.rfl _) rfl (.c rfl (.rfl _) rfl (.c rfl (.rfl _) rfl (.c rfl (.rfl _) rfl (.c rfl (sbb (by simp only [g9, g10, g11, g12, Bool.true_or, Bool.or_true, Bool.false_or, Bool.or_false, Bool.true_and, Bool.and_true, Bool.false_and, Bool.and_false, Bool.not_true, Bool.not_false, cond_true, cond_false])) rfl .n)))))) (.c rfl (.rfl _) rfl rfl .n) rfl rfl rfl)
        · refine W.pk ?_
          refine .v rfl rfl (OpL.move (.inl rfl) rfl) ?_
          refine .call (.imm (.val (.bool t4))) [] 0 (calendar_Good.ok b5) rfl rfl rfl ca41 rfl rfl (cC (.imm _) .nil) rfl rfl rfl rfl rfl ?_
          refine .v rfl rfl (OpL.unV rfl rfl rfl) ?_
          refine .v rfl rfl (OpL.move (.inl rfl) rfl) ?_
          refine .v rfl (met rfl rfl rfl (notT g9)) (OpL.move (.inl rfl) rfl) ?_
          refine .call (.imm (.val (.bool t6))) [] 0 (calendar_Good.ok ((if_pos (by simp only [g9, g10, Bool.true_or, Bool.or_true, Bool.false_or, Bool.or_false, Bool.true_and, Bool.and_true, Bool.false_and, Bool.and_false, Bool.not_true, Bool.not_false, cond_true, cond_false])).symm.trans b7)) rfl (met rfl rfl rfl (notT g9)) rfl ca41 rfl rfl (cC (.imm _) .nil) rfl rfl rfl rfl rfl ?_
          refine .v rfl (met rfl rfl rfl (notT g9)) (OpL.unV rfl rfl rfl) ?_
          refine .v rfl rfl (O.pickF (notT g9) rfl rfl rfl) ?_
          refine .v rfl rfl (OpL.move (.inl rfl) rfl) ?_
          refine .x rfl (unmet rfl rfl rfl (notF g10)) ?_
          refine .x rfl (unmet rfl rfl rfl (notF g10)) ?_
          refine .x rfl (unmet rfl rfl rfl (notF g10)) ?_
          refine .v rfl rfl (O.pickT (notF g10) rfl rfl rfl) ?_
          refine .v rfl rfl (OpL.move (.inl rfl) rfl) ?_
          refine .x rfl (unmet rfl rfl rfl rfl) ?_
          refine .x rfl (unmet rfl rfl rfl rfl) ?_
          refine .x rfl (unmet rfl rfl rfl rfl) ?_
          refine .x rfl (unmet rfl rfl rfl rfl) ?_
          refine .v rfl rfl (O.pickT rfl rfl rfl rfl) ?_
          refine .v rfl rfl (OpL.move (.inl rfl) rfl) ?_
          refine .x rfl (unmet rfl rfl rfl rfl) ?_
          refine .x rfl (unmet rfl rfl rfl rfl) ?_
          refine .x rfl (unmet rfl rfl rfl rfl) ?_
          refine .x rfl (unmet rfl rfl rfl rfl) ?_
          refine .x rfl (unmet rfl rfl rfl rfl) ?_
          refine .x rfl (unmet rfl rfl rfl rfl) ?_
          refine .v rfl rfl (O.pickT rfl rfl rfl rfl) ?_
          refine .v rfl rfl (OpL.move (.inr rfl) rfl) ?_
          refine .nil ?_
          exact toN (Gives.mkR [] (.c rfl (.rfl _) rfl (.c rfl (.rfl _) rfl (.c rfl (.rfl _) rfl (.c rfl (.rfl _) rfl (.c rfl (.rfl _) rfl (.c rfl (sbb (by simp only [g9, g10, Bool.true_or, Bool.or_true, Bool.false_or, Bool.or_false, Bool.true_and, Bool.and_true, Bool.false_and, Bool.and_false, Bool.not_true, Bool.not_false, cond_true, cond_false])) rfl .n)))))) (.c rfl (.rfl _) rfl rfl .n) rfl rfl rfl)
      · refine W.pk ?_
        refine .v rfl rfl (OpL.move (.inl rfl) rfl) ?_
        refine .call (.imm (.val (.bool t4))) [] 0 (calendar_Good.ok b5) rfl rfl rfl ca41 rfl rfl (cC (.imm _) .nil) rfl rfl rfl rfl rfl ?_
        refine .v rfl rfl (OpL.unV rfl rfl rfl) ?_
        refine .v rfl rfl (OpL.move (.inl rfl) rfl) ?_
        refine .x rfl (unmet rfl rfl rfl (notF g9)) ?_
        refine .x rfl (unmet rfl rfl rfl (notF g9)) ?_
        refine .x rfl (unmet rfl rfl rfl (notF g9)) ?_
        refine .v rfl rfl (O.pickT (notF g9) rfl rfl rfl) ?_
        refine .v rfl rfl (OpL.move (.inl rfl) rfl) ?_
        refine .x rfl (unmet rfl rfl rfl rfl) ?_
        refine .x rfl (unmet rfl rfl rfl rfl) ?_
        refine .x rfl (unmet rfl rfl rfl rfl) ?_
        refine .v rfl rfl (O.pickT rfl rfl rfl rfl) ?_
        refine .v rfl rfl (OpL.move (.inl rfl) rfl) ?_
        refine .x rfl (unmet rfl rfl rfl rfl) ?_
        refine .x rfl (unmet rfl rfl rfl rfl) ?_
        refine .x rfl (unmet rfl rfl rfl rfl) ?_
        refine .x rfl (unmet rfl rfl rfl rfl) ?_
        refine .v rfl rfl (O.pickT rfl rfl rfl rfl) ?_
        refine .v rfl rfl (OpL.move (.inl rfl) rfl) ?_
        refine .x rfl (unmet rfl rfl rfl rfl) ?_
        refine .x rfl (unmet rfl rfl rfl rfl) ?_
        refine .x rfl (unmet rfl rfl rfl rfl) ?_
        refine .x rfl (unmet rfl rfl rfl rfl) ?_
        refine .x rfl (unmet rfl rfl rfl rfl) ?_
        refine .x rfl (unmet rfl rfl rfl rfl) ?_
        refine .v rfl rfl (O.pickT rfl rfl rfl rfl) ?_
        refine .v rfl rfl (OpL.move (.inr rfl) rfl) ?_
        refine .nil ?_
        exact toN (Gives.mkR [] (.c rfl (.rfl _) rfl (.c rfl (.rfl _) rfl (.c rfl (.rfl _) rfl (.c rfl (.rfl _) rfl (.c rfl (.rfl _) rfl (.c rfl (sbb (by simp only [g9, Bool.true_or, Bool.or_true, Bool.false_or, Bool.or_false, Bool.true_and, Bool.and_true, Bool.false_and, Bool.and_false, Bool.not_true, Bool.not_false, cond_true, cond_false])) rfl .n)))))) (.c rfl (.rfl _) rfl rfl .n) rfl rfl rfl)

noncomputable def lombardlaw03_AccrueJoins.f (x0 : Int) (x1 : List api_Reset) (x2 : Int) (x3 : Int) (x4 : Int) : Option (Bool) :=
  (accrue_Run.f x0 x1 x2 x3).bind fun t1 =>
  (accrue_Run.f x0 x1 x3 x4).bind fun t3 =>
  (accrue_Run.f x0 x1 x2 x4).bind fun t5 =>
  if (((t1.2 != 0) || (t3.2 != 0)) || (t5.2 != 0)) = true then
    (lombardlaw03_awake.f).bind fun t10 =>
    some t10
  else
    ((
      if (decide ((IntKind.wrap .i64 (t1.1.Rest + t3.1.Rest)) ≥ 360000000)) = true then
        some (1, (IntKind.wrap .i64 ((IntKind.wrap .i64 (t1.1.Rest + t3.1.Rest)) - 360000000)))
      else
        some (0, (IntKind.wrap .i64 (t1.1.Rest + t3.1.Rest))) : Option (Int × Int))).bind fun o15 =>
    (if ((t5.1.Rest == o15.2) && (t5.1.Units == (IntKind.wrap .i64 ((IntKind.wrap .i64 (t1.1.Units + t3.1.Units)) + o15.1)))) = true then lombardlaw03_awake.f else some default).bind fun t18 =>
    some (((t5.1.Rest == o15.2) && (t5.1.Units == (IntKind.wrap .i64 ((IntKind.wrap .i64 (t1.1.Units + t3.1.Units)) + o15.1)))) && t18)
set_option maxRecDepth 100000 in
set_option maxHeartbeats 4000000 in
theorem lombardlaw03_AccrueJoins.ok {x0 : Int} {x1 : List api_Reset} {x2 : Int} {x3 : Int} {x4 : Int} {r : Bool} (h : lombardlaw03_AccrueJoins.f x0 x1 x2 x3 x4 = some r) : Pm.Spec prog 7 [.imm (.val (.int .i64 x0)), .imm (.row 2 (List.map api_Reset.enc x1)), .imm (.val (.int .i64 x2)), .imm (.val (.int .i64 x3)), .imm (.val (.int .i64 x4))] (.imm (.val (.bool r))) [none, none, none, none, none] := by
  unfold lombardlaw03_AccrueJoins.f at h
  refine Pm.Spec.of_body Try.func7 rfl (by kernel_rfl) (Nat.le_of_ble_eq_true rfl) (Nat.le_of_ble_eq_true rfl) ?_
  refine W.ghost (σ' := (mkSt [(0, some (.imm (.val (.int .i64 x0)))), (1, some (.imm (.row 2 (List.map api_Reset.enc x1)))), (2, some (.imm (.val (.int .i64 x2)))), (3, some (.imm (.val (.int .i64 x3)))), (4, some (.imm (.val (.int .i64 x4))))] [] 1000)) (Gives.entry (.c rfl (.c rfl (.c rfl (.c rfl (.c rfl .n))))) .n) ?_
  refine W.seq ?_
  refine W.pk ?_
  refine .v rfl rfl (OpL.move (.inr rfl) rfl) ?_
  refine .nil ?_
  refine W.seq ?_
  obtain ⟨t1, b2, h⟩ := bnd1 h
  refine W.pk ?_
  refine .v rfl rfl (OpL.move (.inl rfl) rfl) ?_
  refine .v rfl rfl (OpL.move (.inl rfl) rfl) ?_
  refine .v rfl rfl (OpL.move (.inl rfl) rfl) ?_
  refine .v rfl rfl (OpL.move (.inl rfl) rfl) ?_
  refine .call (.tup [.agg [.imm (.val (.int .i64 t1.1.Units)), .imm (.val (.int .i64 t1.1.Rest))], .imm (.val (.int .i64 t1.2))]) [] 0 (accrue_Run.ok b2) rfl rfl rfl ca22 rfl rfl (cC (.imm _) (cC (.imm _) (cC (.imm _) (cC (.imm _) .nil)))) rfl rfl rfl rfl rfl ?_
  refine .v rfl rfl (OpL.move (.inl rfl) rfl) ?_
  refine .v rfl rfl (OpL.extract rfl rfl rfl) ?_
  refine .v rfl rfl (OpL.extract rfl rfl rfl) ?_
  refine .t rfl rfl (O.alloc z31 rfl) ?_
  refine .s rfl rfl (O.st ty31 rfl rfl rfl rfl rfl rfl rfl rfl rfl rfl (all' := [.imm (.val (.int .i64 t1.1.Units)), .imm (.val (.int .i64 t1.1.Rest))]) rfl) ?_
  refine .v rfl rfl (OpL.move (.inr rfl) rfl) ?_
  refine .nil ?_
  refine W.seq ?_
  obtain ⟨t3, b4, h⟩ := bnd1 h
  refine W.pk ?_
  refine .v rfl rfl (OpL.move (.inl rfl) rfl) ?_
  refine .v rfl rfl (OpL.move (.inl rfl) rfl) ?_
  refine .v rfl rfl (OpL.move (.inl rfl) rfl) ?_
  refine .v rfl rfl (OpL.move (.inl rfl) rfl) ?_
  refine .call (.tup [.agg [.imm (.val (.int .i64 t3.1.Units)), .imm (.val (.int .i64 t3.1.Rest))], .imm (.val (.int .i64 t3.2))]) [] 0 (accrue_Run.ok b4) rfl rfl rfl ca22 rfl rfl (cC (.imm _) (cC (.imm _) (cC (.imm _) (cC (.imm _) .nil)))) rfl rfl rfl rfl rfl ?_
  refine .v rfl rfl (OpL.move (.inl rfl) rfl) ?_
  refine .v rfl rfl (OpL.extract rfl rfl rfl) ?_
  refine .v rfl rfl (OpL.extract rfl rfl rfl) ?_
  refine .t rfl rfl (O.alloc z31 rfl) ?_
  refine .s rfl rfl (O.st ty31 rfl rfl rfl rfl rfl rfl rfl rfl rfl rfl (all' := [.imm (.val (.int .i64 t3.1.Units)), .imm (.val (.int .i64 t3.1.Rest))]) rfl) ?_
  refine .v rfl rfl (OpL.move (.inr rfl) rfl) ?_
  refine .nil ?_
  refine W.seq ?_
  obtain ⟨t5, b6, h⟩ := bnd1 h
  refine W.pk ?_
  refine .v rfl rfl (OpL.move (.inl rfl) rfl) ?_
  refine .v rfl rfl (OpL.move (.inl rfl) rfl) ?_
  refine .v rfl rfl (OpL.move (.inl rfl) rfl) ?_
  refine .v rfl rfl (OpL.move (.inl rfl) rfl) ?_
  refine .call (.tup [.agg [.imm (.val (.int .i64 t5.1.Units)), .imm (.val (.int .i64 t5.1.Rest))], .imm (.val (.int .i64 t5.2))]) [] 0 (accrue_Run.ok b6) rfl rfl rfl ca22 rfl rfl (cC (.imm _) (cC (.imm _) (cC (.imm _) (cC (.imm _) .nil)))) rfl rfl rfl rfl rfl ?_
  refine .v rfl rfl (OpL.move (.inl rfl) rfl) ?_
  refine .v rfl rfl (OpL.extract rfl rfl rfl) ?_
  refine .v rfl rfl (OpL.extract rfl rfl rfl) ?_
  refine .t rfl rfl (O.alloc z31 rfl) ?_
  refine .s rfl rfl (O.st ty31 rfl rfl rfl rfl rfl rfl rfl rfl rfl rfl (all' := [.imm (.val (.int .i64 t5.1.Units)), .imm (.val (.int .i64 t5.1.Rest))]) rfl) ?_
  refine .v rfl rfl (OpL.move (.inr rfl) rfl) ?_
  refine .nil ?_
  refine W.seq ?_
  refine W.seq ?_
  refine W.fork (mkSt [(11, some (.ptr 1000 0)), (13, some (.ptr 1001 0)), (15, some (.ptr 1002 0)), (52, some (.imm (.val (.bool (((t1.2 != 0) || (t3.2 != 0)) || (t5.2 != 0))))))] [(1000, some (.box [.imm (.val (.int .i64 t1.1.Units)), .imm (.val (.int .i64 t1.1.Rest))])), (1001, some (.box [.imm (.val (.int .i64 t3.1.Units)), .imm (.val (.int .i64 t3.1.Rest))])), (1002, some (.box [.imm (.val (.int .i64 t5.1.Units)), .imm (.val (.int .i64 t5.1.Rest))]))] 1003) ?_ ?_
  · refine W.cond rfl (fun q9 => ?_) (fun q9 => ?_)
    · have h := ifT q9 h
      refine W.seq ?_
      obtain ⟨t10, b11, h⟩ := bnd1 h
      refine W.pk ?_
      refine .call (.imm (.val (.bool t10))) [] 0 (lombardlaw03_awake.ok b11) rfl rfl rfl ca12 rfl rfl .nil rfl rfl rfl rfl rfl ?_
      refine .v rfl rfl (OpL.move (.inr rfl) rfl) ?_
      refine .nil ?_
      refine W.ret ?_
      cases h
      exact leaves (.inr rfl) rfl (.imm _) (cN (cN (cN (cN (cN .nil))))) rfl rfl
    · have h := ifF q9 h
      refine W.skip ?_
      refine W.seq ?_
      refine W.pk ?_
      refine .v rfl rfl (OpL.move (.inr rfl) rfl) ?_
      refine .nil ?_
      refine W.seq ?_
      refine W.pk ?_
      refine .v rfl rfl (O.fld fld31_1 rfl rfl rfl) ?_
      refine .v rfl rfl (O.ld ty3 rfl rfl rfl) ?_
      refine .v rfl rfl (O.fld fld31_1 rfl rfl rfl) ?_
      refine .v rfl rfl (O.ld ty3 rfl rfl rfl) ?_
      refine .v rfl rfl (OpL.binI rfl rfl rfl rfl) ?_
      refine .v rfl rfl (OpL.move (.inr rfl) rfl) ?_
      refine .nil ?_
      refine W.seq ?_
      refine W.seq ?_
      refine W.pk ?_
      refine .v rfl rfl (OpL.move (.inl rfl) rfl) ?_
      refine .v rfl rfl (OpL.binI rfl rfl rfl rfl) ?_
      refine .nil ?_
      obtain ⟨o15, b16, h⟩ := bnd1 h
      refine W.fork (mkSt [(11, some (.ptr 1000 0)), (13, some (.ptr 1001 0)), (15, some (.ptr 1002 0)), (17, some (.imm (.val (.int .i64 o15.1)))), (18, some (.imm (.val (.int .i64 o15.2))))] [(1000, some (.box [.imm (.val (.int .i64 t1.1.Units)), .imm (.val (.int .i64 t1.1.Rest))])), (1001, some (.box [.imm (.val (.int .i64 t3.1.Units)), .imm (.val (.int .i64 t3.1.Rest))])), (1002, some (.box [.imm (.val (.int .i64 t5.1.Units)), .imm (.val (.int .i64 t5.1.Rest))]))] 1003) ?_ ?_
      · refine W.seq ?_
        obtain ⟨t18, b19, h⟩ := bnd1 h
        refine W.fork (mkSt [(10, some (.imm (.val (.bool (((t5.1.Rest == o15.2) && (t5.1.Units == (IntKind.wrap .i64 ((IntKind.wrap .i64 (t1.1.Units + t3.1.Units)) + o15.1)))) && t18)))))] [] 1003) ?_ ?_
        · refine W.ret ?_
          cases h
          exact leaves (.inr rfl) rfl (.imm _) (cN (cN (cN (cN (cN .nil))))) rfl rfl
        · clear h
          rcases tf (t5.1.Rest == o15.2) with g20 | g20
          · rcases tf (t5.1.Units == (IntKind.wrap .i64 ((IntKind.wrap .i64 (t1.1.Units + t3.1.Units)) + o15.1))) with g21 | g21
            · refine W.pk ?_
              refine .v rfl rfl (O.fld fld31_1 rfl rfl rfl) ?_
              refine .v rfl rfl (O.ld ty3 rfl rfl rfl) ?_
              refine .v rfl rfl (OpL.move (.inl rfl) rfl) ?_
              refine .v rfl rfl (OpL.binI rfl rfl rfl rfl) ?_
              refine .v rfl rfl (OpL.move (.inl rfl) rfl) ?_
              refine .v rfl (met rfl rfl rfl g20) (O.fld fld31_0 rfl rfl rfl) ?_
              refine .v rfl (met rfl rfl rfl g20) (O.ld ty3 rfl rfl rfl) ?_
              refine .v rfl (met rfl rfl rfl g20) (O.fld fld31_0 rfl rfl rfl) ?_
              refine .v rfl (met rfl rfl rfl g20) (O.ld ty3 rfl rfl rfl) ?_
              refine .v rfl (met rfl rfl rfl g20) (O.fld fld31_0 rfl rfl rfl) ?_
              refine .v rfl (met rfl rfl rfl g20) (O.ld ty3 rfl rfl rfl) ?_
              refine .v rfl (met rfl rfl rfl g20) (OpL.binI rfl rfl rfl rfl) ?_
              refine .v rfl (met rfl rfl rfl g20) (OpL.move (.inl rfl) rfl) ?_
              refine .v rfl (met rfl rfl rfl g20) (OpL.binI rfl rfl rfl rfl) ?_
              refine .v rfl (met rfl rfl rfl g20) (OpL.binI rfl rfl rfl rfl) ?_
              refine .v rfl rfl (O.pickT g20 rfl rfl rfl) ?_
              refine .v rfl rfl (OpL.move (.inl rfl) rfl) ?_
              refine .call (.imm (.val (.bool t18))) [] 0 (lombardlaw03_awake.ok ((if_pos (by simp only [g20, g21, Bool.true_or, Bool.or_true, Bool.false_or, Bool.or_false, Bool.true_and, Bool.and_true, Bool.false_and, Bool.and_false, Bool.not_true, Bool.not_false, cond_true, cond_false])).symm.trans b19)) rfl (met rfl rfl rfl g21) rfl ca12 rfl rfl .nil rfl rfl rfl rfl rfl ?_
              refine .v rfl rfl (O.pickT g21 rfl rfl rfl) ?_
              refine .v rfl rfl (OpL.move (.inr rfl) rfl) ?_
              refine .nil ?_
              exact toN (Gives.mkR [] (.c rfl (sbb (by simp only [g20, g21, Bool.true_or, Bool.or_true, Bool.false_or, Bool.or_false, Bool.true_and, Bool.and_true, Bool.false_and, Bool.and_false, Bool.not_true, Bool.not_false, cond_true, cond_false])) rfl .n) .n rfl rfl rfl)
            · refine W.pk ?_
              refine .v rfl rfl (O.fld fld31_1 rfl rfl rfl) ?_
              refine .v rfl rfl (O.ld ty3 rfl rfl rfl) ?_
              refine .v rfl rfl (OpL.move (.inl rfl) rfl) ?_
              refine .v rfl rfl (OpL.binI rfl rfl rfl rfl) ?_
              refine .v rfl rfl (OpL.move (.inl rfl) rfl) ?_
              refine .v rfl (met rfl rfl rfl g20) (O.fld fld31_0 rfl rfl rfl) ?_
              refine .v rfl (met rfl rfl rfl g20) (O.ld ty3 rfl rfl rfl) ?_
              refine .v rfl (met rfl rfl rfl g20) (O.fld fld31_0 rfl rfl rfl) ?_
              refine .v rfl (met rfl rfl rfl g20) (O.ld ty3 rfl rfl rfl) ?_
              refine .v rfl (met rfl rfl rfl g20) (O.fld fld31_0 rfl rfl rfl) ?_
              refine .v rfl (met rfl rfl rfl g20) (O.ld ty3 rfl rfl rfl) ?_
              refine .v rfl (met rfl rfl rfl g20) (OpL.binI rfl rfl rfl rfl) ?_
              refine .v rfl (met rfl rfl rfl g20) (OpL.move (.inl rfl) rfl) ?_
              refine .v rfl (met rfl rfl rfl g20) (OpL.binI rfl rfl rfl rfl) ?_
              refine .v rfl (met rfl rfl rfl g20) (OpL.binI rfl rfl rfl rfl) ?_
              refine .v rfl rfl (O.pickT g20 rfl rfl rfl) ?_
              refine .v rfl rfl (OpL.move (.inl rfl) rfl) ?_
              refine .x rfl (unmet rfl rfl rfl g21) ?_
              refine .v rfl rfl (O.pickF g21 rfl rfl rfl) ?_
              refine .v rfl rfl (OpL.move (.inr rfl) rfl) ?_
              refine .nil ?_
              exact toN (Gives.mkR [] (.c rfl (sbb (by simp only [g20, g21, Bool.true_or, Bool.or_true, Bool.false_or, Bool.or_false, Bool.true_and, Bool.and_true, Bool.false_and, Bool.and_false, Bool.not_true, Bool.not_false, cond_true, cond_false])) rfl .n) .n rfl rfl rfl)
          · refine W.pk ?_
            refine .v rfl rfl (O.fld fld31_1 rfl rfl rfl) ?_
            refine .v rfl rfl (O.ld ty3 rfl rfl rfl) ?_
            refine .v rfl rfl (OpL.move (.inl rfl) rfl) ?_
            refine .v rfl rfl (OpL.binI rfl rfl rfl rfl) ?_
            refine .v rfl rfl (OpL.move (.inl rfl) rfl) ?_
            refine .x rfl (unmet rfl rfl rfl g20) ?_
            refine .x rfl (unmet rfl rfl rfl g20) ?_
            refine .x rfl (unmet rfl rfl rfl g20) ?_
            refine .x rfl (unmet rfl rfl rfl g20) ?_
            refine .x rfl (unmet rfl rfl rfl g20) ?_
            refine .x rfl (unmet rfl rfl rfl g20) ?_
            refine .x rfl (unmet rfl rfl rfl g20) ?_
            refine .x rfl (unmet rfl rfl rfl g20) ?_
            refine .x rfl (unmet rfl rfl rfl g20) ?_
            refine .x rfl (unmet rfl rfl rfl g20) ?_
            refine .v rfl rfl (O.pickF g20 rfl rfl rfl) ?_
            refine .v rfl rfl (OpL.move (.inl rfl) rfl) ?_
            refine .x rfl (unmet rfl rfl rfl rfl) ?_
            refine .v rfl rfl (O.pickF rfl rfl rfl rfl) ?_
            refine .v rfl rfl (OpL.move (.inr rfl) rfl) ?_
            refine .nil ?_
            exact toN (Gives.mkR [] (.c rfl (sbb (by simp only [g20, Bool.true_or, Bool.or_true, Bool.false_or, Bool.or_false, Bool.true_and, Bool.and_true, Bool.false_and, Bool.and_false, Bool.not_true, Bool.not_false, cond_true, cond_false])) rfl .n) .n rfl rfl rfl)
      · clear h
        have h := b16
        refine W.cond rfl (fun q17 => ?_) (fun q17 => ?_)
        · have h := ifT q17 h
          refine W.pk ?_
          refine .v rfl rfl (OpL.move (.inl rfl) rfl) ?_
          refine .v rfl rfl (OpL.binI rfl rfl rfl rfl) ?_
          refine .v rfl rfl (OpL.move (.inr rfl) rfl) ?_
          refine .v rfl rfl (OpL.move (.inr rfl) rfl) ?_
          refine .nil ?_
          cases h
          exact toN (Gives.mkR [] (.c rfl (.rfl _) rfl (.c rfl (.rfl _) rfl (.c rfl (.rfl _) rfl (.c rfl (.rfl _) rfl (.c rfl (.rfl _) rfl .n))))) (.c rfl (.rfl _) rfl rfl (.c rfl (.rfl _) rfl rfl (.c rfl (.rfl _) rfl rfl .n))) rfl rfl rfl)
        · have h := ifF q17 h
          refine W.skip ?_
          cases h
          exact toN (Gives.mkR [] (.c rfl (.rfl _) rfl (.c rfl (.rfl _) rfl (.c rfl (.rfl _) rfl (.c rfl (.rfl _) rfl (.c rfl (.rfl _) rfl .n))))) (.c rfl (.rfl _) rfl rfl (.c rfl (.rfl _) rfl rfl (.c rfl (.rfl _) rfl rfl .n))) rfl rfl rfl)
  · clear h
    rcases tf (t1.2 != 0) with g7 | g7
    · refine W.pk ?_
      refine .v rfl rfl (OpL.move (.inl rfl) rfl) ?_
      refine .v rfl rfl (OpL.binI rfl rfl rfl rfl) ?_
      refine .v rfl rfl (OpL.move (.inl rfl) rfl) ?_
      refine .x rfl (unmet rfl rfl rfl g7) ?_
      refine .x rfl (unmet rfl rfl rfl g7) ?_
      refine .v rfl rfl (O.pickT g7 rfl rfl rfl) ?_
      refine .v rfl rfl (OpL.move (.inl rfl) rfl) ?_
      refine .x rfl (unmet rfl rfl rfl rfl) ?_
      refine .x rfl (unmet rfl rfl rfl rfl) ?_
      refine .v rfl rfl (O.pickT rfl rfl rfl rfl) ?_
      refine .nil ?_
      exact toN (Gives.mkR [] (.c rfl (.rfl _) rfl (.c rfl (.rfl _) rfl (.c rfl (.rfl _) rfl (.c rfl (sbb (by simp only [g7, Bool.true_or, Bool.or_true, Bool.false_or, Bool.or_false, Bool.true_and, Bool.and_true, Bool.false_and, Bool.and_false, Bool.not_true, Bool.not_false, cond_true, cond_false])) rfl .n)))) (.c rfl (.rfl _) rfl rfl (.c rfl (.rfl _) rfl rfl (.c rfl (.rfl _) rfl rfl .n))) rfl rfl rfl)
    · rcases tf (t3.2 != 0) with g8 | g8
      · refine W.pk ?_
        refine .v rfl rfl (OpL.move (.inl rfl) rfl) ?_
        refine .v rfl rfl (OpL.binI rfl rfl rfl rfl) ?_
        refine .v rfl rfl (OpL.move (.inl rfl) rfl) ?_
        refine .v rfl (met rfl rfl rfl g7) (OpL.move (.inl rfl) rfl) ?_
        refine .v rfl (met rfl rfl rfl g7) (OpL.binI rfl rfl rfl rfl) ?_
        refine .v rfl rfl (O.pickF g7 rfl rfl rfl) ?_
        refine .v rfl rfl (OpL.move (.inl rfl) rfl) ?_
        refine .x rfl (unmet rfl rfl rfl g8) ?_
        refine .x rfl (unmet rfl rfl rfl g8) ?_
        refine .v rfl rfl (O.pickT g8 rfl rfl rfl) ?_
        refine .nil ?_
        exact toN (Gives.mkR [] (.c rfl (.rfl _) rfl (.c rfl (.rfl _) rfl (.c rfl (.rfl _) rfl (.c rfl (sbb (by simp only [g7, g8, Bool.true_or, Bool.or_true, Bool.false_or, Bool.or_false, Bool.true_and, Bool.and_true, Bool.false_and, Bool.and_false, Bool.not_true, Bool.not_false, cond_true, cond_false])) rfl .n)))) (.c rfl (.rfl _) rfl rfl (.c rfl (.rfl _) rfl rfl (.c rfl (.rfl _) rfl rfl .n))) rfl rfl rfl)
      · refine W.pk ?_
        refine .v rfl rfl (OpL.move (.inl rfl) rfl) ?_
        refine .v rfl rfl (OpL.binI rfl rfl rfl rfl) ?_
        refine .v rfl rfl (OpL.move (.inl rfl) rfl) ?_
        refine .v rfl (met rfl rfl rfl g7) (OpL.move (.inl rfl) rfl) ?_
        refine .v rfl (met rfl rfl rfl g7) (OpL.binI rfl rfl rfl rfl) ?_
        refine .v rfl rfl (O.pickF g7 rfl rfl rfl) ?_
        refine .v rfl rfl (OpL.move (.inl rfl) rfl) ?_
        refine .v rfl (met rfl rfl rfl g8) (OpL.move (.inl rfl) rfl) ?_
        refine .v rfl (met rfl rfl rfl g8) (OpL.binI rfl rfl rfl rfl) ?_
        refine .v rfl rfl (O.pickF g8 rfl rfl rfl) ?_
        refine .nil ?_
        exact toN (Gives.mkR [] (.c rfl (.rfl _) rfl (.c rfl (.rfl _) rfl (.c rfl (.rfl _) rfl (.c rfl (sbb (by simp only [g7, g8, Bool.true_or, Bool.or_true, Bool.false_or, Bool.or_false, Bool.true_and, Bool.and_true, Bool.false_and, Bool.and_false, Bool.not_true, Bool.not_false, cond_true, cond_false])) rfl .n)))) (.c rfl (.rfl _) rfl rfl (.c rfl (.rfl _) rfl rfl (.c rfl (.rfl _) rfl rfl .n))) rfl rfl rfl)
end Go.Proofs.Ytipgpnagfmlahaa
