/- Shows what functions of the program come to, each as a plain function: written by a program of the author's for this claim. -/
import Derived.Test.YtdcpdnfalnelkaaGx7
namespace Go.Proofs.Ytdcpdnfalnelkaa
open Go Go.Pm
set_option linter.unusedVariables false
set_option linter.unusedSimpArgs false
noncomputable def asset_Left.f (x0 : api_Asset) (x1 : Int) : Option (Int) :=
  if ((decide (x1 < 0)) || (decide (x1 > 200000))) = true then
    some (-1)
  else
    some (IntKind.wrap .i64 (x0.Maturity - x1))
set_option maxRecDepth 100000 in
set_option maxHeartbeats 4000000 in
theorem asset_Left.ok {x0 : api_Asset} {x1 : Int} {r : Int} (h : asset_Left.f x0 x1 = some r) : Pm.Spec prog 42 [.agg [.imm (.val (.string (tx x0.ISIN))), .imm (.val (.int .i64 x0.Issuer)), .imm (.val (.int .i64 x0.Rating)), .imm (.val (.int .i64 x0.Maturity)), .imm (.val (.string (tx x0.Currency)))], .imm (.val (.int .i64 x1))] (.imm (.val (.int .i64 r))) [none, none] := by
  unfold asset_Left.f at h
  refine Pm.Spec.of_body Try.func42 rfl (by kernel_rfl) (Nat.le_of_ble_eq_true rfl) (Nat.le_of_ble_eq_true rfl) ?_
  refine W.ghost (σ' := (mkSt [(0, some (.agg [.imm (.val (.string (tx x0.ISIN))), .imm (.val (.int .i64 x0.Issuer)), .imm (.val (.int .i64 x0.Rating)), .imm (.val (.int .i64 x0.Maturity)), .imm (.val (.string (tx x0.Currency)))])), (1, some (.imm (.val (.int .i64 x1))))] [] 1000)) (Gives.entry (.c rfl (.c rfl .n)) .n) ?_
  refine W.seq ?_
  refine W.pk ?_
  refine .t rfl rfl (O.box rfl rfl rfl rfl rfl) ?_
  refine .v rfl rfl (OpL.move (.inr rfl) rfl) ?_
  refine .nil ?_
  refine W.seq ?_
  refine W.seq ?_
  refine W.fork (mkSt [(1, some (.imm (.val (.int .i64 x1)))), (2, some (.ptr 1000 0)), (10, some (.imm (.val (.bool ((decide (x1 < 0)) || (decide (x1 > 200000)))))))] [(1000, some (.box [.imm (.val (.string (tx x0.ISIN))), .imm (.val (.int .i64 x0.Issuer)), .imm (.val (.int .i64 x0.Rating)), .imm (.val (.int .i64 x0.Maturity)), .imm (.val (.string (tx x0.Currency)))]))] 1001) ?_ ?_
  · refine W.cond rfl (fun q2 => ?_) (fun q2 => ?_)
    · have h := ifT q2 h
      refine W.seq ?_
      refine W.pk ?_
      refine .v rfl rfl (OpL.move (.inr rfl) rfl) ?_
      refine .nil ?_
      refine W.ret ?_
      cases h
      exact leaves (.inr rfl) rfl (.imm _) (cN (cN .nil)) rfl rfl
    · have h := ifF q2 h
      refine W.skip ?_
      refine W.seq ?_
      refine W.pk ?_
      refine .v rfl rfl (O.fld fld38_3 rfl rfl rfl) ?_
      refine .v rfl rfl (O.ld ty3 rfl rfl rfl) ?_
      refine .v rfl rfl (OpL.move (.inl rfl) rfl) ?_
      refine .v rfl rfl (OpL.binI rfl rfl rfl rfl) ?_
      refine .v rfl rfl (OpL.move (.inr rfl) rfl) ?_
      refine .nil ?_
      refine W.ret ?_
      cases h
      exact leaves (.inr rfl) rfl (.imm _) (cN (cN .nil)) rfl rfl
  · clear h
    rcases tf (decide (x1 < 0)) with g1 | g1
    · refine W.pk ?_
      refine .v rfl rfl (OpL.move (.inl rfl) rfl) ?_
      refine .v rfl rfl (OpL.binI rfl rfl rfl rfl) ?_
      refine .v rfl rfl (OpL.move (.inl rfl) rfl) ?_
      refine .x rfl (unmet rfl rfl rfl g1) ?_
      refine .x rfl (unmet rfl rfl rfl g1) ?_
      refine .v rfl rfl (O.pickT g1 rfl rfl rfl) ?_
      refine .nil ?_
      exact toN (Gives.mkR [] (.c rfl (.rfl _) rfl (.c rfl (.rfl _) rfl (.c rfl (sbb (by simp only [g1, Bool.true_or, Bool.or_true, Bool.false_or, Bool.or_false, Bool.true_and, Bool.and_true, Bool.false_and, Bool.and_false, Bool.not_true, Bool.not_false, cond_true, cond_false])) rfl .n))) (.c rfl (.rfl _) rfl rfl .n) rfl rfl rfl)
    · refine W.pk ?_
      refine .v rfl rfl (OpL.move (.inl rfl) rfl) ?_
      refine .v rfl rfl (OpL.binI rfl rfl rfl rfl) ?_
      refine .v rfl rfl (OpL.move (.inl rfl) rfl) ?_
      refine .v rfl (met rfl rfl rfl g1) (OpL.move (.inl rfl) rfl) ?_
      refine .v rfl (met rfl rfl rfl g1) (OpL.binI rfl rfl rfl rfl) ?_
      refine .v rfl rfl (O.pickF g1 rfl rfl rfl) ?_
      refine .nil ?_
      exact toN (Gives.mkR [] (.c rfl (.rfl _) rfl (.c rfl (.rfl _) rfl (.c rfl (sbb (by simp only [g1, Bool.true_or, Bool.or_true, Bool.false_or, Bool.or_false, Bool.true_and, Bool.and_true, Bool.false_and, Bool.and_false, Bool.not_true, Bool.not_false, cond_true, cond_false])) rfl .n))) (.c rfl (.rfl _) rfl rfl .n) rfl rfl rfl)

noncomputable def haircut_Of.b0 (x0 : api_Basket) (x1 : api_Asset) (t1 : Int) (v8 : Int) : Option (Int ⊕ ((Int × Bool) ⊕ Unit)) :=
  if (decide (v8 < (List.length x0.Cuts : Int))) = true then
    if (0 : Int) ≤ v8 ∧ v8 < (List.length x0.Cuts : Int) then
    if ((decide (t1 ≤ ((nth x0.Cuts v8).Days))) && (decide (x1.Rating ≤ ((nth x0.Cuts v8).Rating)))) = true then
      some (.inr (.inl ((nth x0.Cuts v8).Cut, true)))
    else
      some (.inl (IntKind.wrap .i64 (v8 + 1)))
    else none
  else
    some (.inr (.inr ()))
noncomputable def haircut_Of.r0 (x0 : api_Basket) (x1 : api_Asset) (t1 : Int) (s : Int) : Option (Int ⊕ ((Int × Bool) ⊕ Unit)) := haircut_Of.b0 x0 x1 t1 s
noncomputable def haircut_Of.f (x0 : api_Basket) (x1 : api_Asset) (x2 : Int) : Option (Int × Bool) :=
  (asset_Left.f x1 x2).bind fun t1 =>
  if (decide (t1 < 0)) = true then
    some (0, false)
  else
    (loop (haircut_Of.r0 x0 x1 t1) 0).bind fun o18 =>
    match o18 with
    | .inl r25 => some r25
    | .inr w17 =>
      some (0, false)
set_option maxRecDepth 100000 in
set_option maxHeartbeats 4000000 in
theorem haircut_Of.ok {x0 : api_Basket} {x1 : api_Asset} {x2 : Int} {r : Int × Bool} (h : haircut_Of.f x0 x1 x2 = some r) : Pm.Spec prog 17 [.agg [.imm (.val (.int .i64 x0.ID)), .imm (.val (.int .i64 x0.Version)), .imm (.val (.string (tx x0.Currency))), .imm (.val (.int .i64 x0.Rating)), .imm (.val (.int .i64 x0.Least)), .imm (.val (.int .i64 x0.Most)), .imm (.row 3 (List.map api_Cut.enc x0.Cuts)), .imm (.val (.int .i64 x0.Issuer)), .imm (.val (.int .i64 x0.Asset)), .imm (.row 1 (List.map (encI .i64) x0.Barred))], .agg [.imm (.val (.string (tx x1.ISIN))), .imm (.val (.int .i64 x1.Issuer)), .imm (.val (.int .i64 x1.Rating)), .imm (.val (.int .i64 x1.Maturity)), .imm (.val (.string (tx x1.Currency)))], .imm (.val (.int .i64 x2))] (.tup [.imm (.val (.int .i64 r.1)), .imm (.val (.bool r.2))]) [none, none, none] := by
  unfold haircut_Of.f at h
  refine Pm.Spec.of_body Try.func17 rfl (by kernel_rfl) (Nat.le_of_ble_eq_true rfl) (Nat.le_of_ble_eq_true rfl) ?_
  refine W.ghost (σ' := (mkSt [(0, some (.agg [.imm (.val (.int .i64 x0.ID)), .imm (.val (.int .i64 x0.Version)), .imm (.val (.string (tx x0.Currency))), .imm (.val (.int .i64 x0.Rating)), .imm (.val (.int .i64 x0.Least)), .imm (.val (.int .i64 x0.Most)), .imm (.row 3 (List.map api_Cut.enc x0.Cuts)), .imm (.val (.int .i64 x0.Issuer)), .imm (.val (.int .i64 x0.Asset)), .imm (.row 1 (List.map (encI .i64) x0.Barred))])), (1, some (.agg [.imm (.val (.string (tx x1.ISIN))), .imm (.val (.int .i64 x1.Issuer)), .imm (.val (.int .i64 x1.Rating)), .imm (.val (.int .i64 x1.Maturity)), .imm (.val (.string (tx x1.Currency)))])), (2, some (.imm (.val (.int .i64 x2))))] [] 1000)) (Gives.entry (.c rfl (.c rfl (.c rfl .n))) .n) ?_
  refine W.seq ?_
  refine W.pk ?_
  refine .t rfl rfl (O.box rfl rfl rfl rfl rfl) ?_
  refine .t rfl rfl (O.box rfl rfl rfl rfl rfl) ?_
  refine .v rfl rfl (OpL.move (.inr rfl) rfl) ?_
  refine .v rfl rfl (OpL.move (.inr rfl) rfl) ?_
  refine .nil ?_
  refine W.seq ?_
  obtain ⟨t1, b2, h⟩ := bnd1 h
  refine W.pk ?_
  refine .v rfl rfl (O.ldN ty38 rfl rfl rfl) ?_
  refine .v rfl rfl (OpL.move (.inl rfl) rfl) ?_
  refine .call (.imm (.val (.int .i64 t1))) [] 0 (asset_Left.ok b2) rfl rfl rfl ca42 rfl rfl (cC (.agg _ _ _ _ (cC (.imm _) (cC (.imm _) (cC (.imm _) (cC (.imm _) (cC (.imm _) .nil)))))) (cC (.imm _) .nil)) rfl rfl rfl rfl rfl ?_
  refine .v rfl rfl (OpL.move (.inr rfl) rfl) ?_
  refine .nil ?_
  refine W.seq ?_
  refine W.seq ?_
  refine W.pk ?_
  refine .v rfl rfl (OpL.move (.inl rfl) rfl) ?_
  refine .v rfl rfl (OpL.binI rfl rfl rfl rfl) ?_
  refine .nil ?_
  refine W.cond rfl (fun q3 => ?_) (fun q3 => ?_)
  · have h := ifT q3 h
    refine W.seq ?_
    refine W.pk ?_
    refine .v rfl rfl (OpL.move (.inr rfl) rfl) ?_
    refine .v rfl rfl (OpL.move (.inr rfl) rfl) ?_
    refine .nil ?_
    refine W.ret ?_
    cases h
    exact leaves (.inr rfl) rfl (.tup _ _ _ _ (cC (.imm _) (cC (.imm _) .nil))) (cN (cN (cN .nil))) rfl rfl
  · have h := ifF q3 h
    refine W.skip ?_
    refine W.seq ?_
    refine W.seq ?_
    refine W.pk ?_
    refine .v rfl rfl (O.fld fld36_6 rfl rfl rfl) ?_
    refine .v rfl rfl (O.ld ty33 rfl rfl rfl) ?_
    refine .v rfl rfl (O.lenR sl33 rfl rfl) ?_
    refine .v rfl rfl (OpL.move (.inl rfl) rfl) ?_
    refine .nil ?_
    obtain ⟨o18, b19, z20⟩ := bnd1 h
    refine W.fork2 (out := o18) (fun (w17 : Unit) => mkSt [] [] 1002) ?_ ?_
    · clear h
      refine W.block ?_
      refine W.loopF (fun (s_ : Int) => mkSt [(4, some (.ptr 1001 0)), (8, some (.imm (.val (.int .i64 t1)))), (17, some (.imm (.row 3 (List.map api_Cut.enc x0.Cuts)))), (18, some (.imm (.val (.int .i64 (List.length x0.Cuts : Int))))), (19, some (.imm (.val (.int .i64 s_))))] [(1001, some (.box [.imm (.val (.string (tx x1.ISIN))), .imm (.val (.int .i64 x1.Issuer)), .imm (.val (.int .i64 x1.Rating)), .imm (.val (.int .i64 x1.Maturity)), .imm (.val (.string (tx x1.Currency)))]))] 1002) b19 (Gives.mkR [] (.c rfl (.rfl _) rfl (.c rfl (.rfl _) rfl (.c rfl (.rfl _) rfl (.c rfl (.rfl _) rfl (.c rfl (.rfl _) rfl .n))))) (.c rfl (.rfl _) rfl rfl .n) rfl rfl rfl) ?_
      rintro v8 s_ hr
      have h : haircut_Of.b0 x0 x1 t1 v8 = some s_ := hr
      unfold haircut_Of.b0 at h
      refine W.seq ?_
      refine W.pk ?_
      refine .v rfl rfl (OpL.binI rfl rfl rfl rfl) ?_
      refine .nil ?_
      refine W.seq ?_
      refine W.cond rfl (fun q21 => ?_) (fun q21 => ?_)
      · have h := ifT q21 h
        refine W.skip ?_
        refine W.seq ?_
        refine W.block ?_
        refine W.seq ?_
        obtain ⟨c22, h⟩ := chk h
        refine W.pk ?_
        refine .v rfl rfl (O.idx sl33 c22 rfl rfl rfl) ?_
        refine .v rfl rfl (O.ldN ty80 rfl rfl rfl) ?_
        refine .t rfl rfl (O.alloc z80 rfl) ?_
        refine .s rfl rfl (O.st ty80 rfl rfl rfl rfl rfl rfl rfl rfl rfl rfl (all' := [.imm (.val (.int .i64 ((nth x0.Cuts v8).Days))), .imm (.val (.int .i64 ((nth x0.Cuts v8).Rating))), .imm (.val (.int .i64 ((nth x0.Cuts v8).Cut)))]) rfl) ?_
        refine .nil ?_
        refine W.seq ?_
        refine W.fork (mkSt [(4, some (.ptr 1001 0)), (8, some (.imm (.val (.int .i64 t1)))), (10, some (.ptr 1002 0)), (17, some (.imm (.row 3 (List.map api_Cut.enc x0.Cuts)))), (18, some (.imm (.val (.int .i64 (List.length x0.Cuts : Int))))), (19, some (.imm (.val (.int .i64 v8)))), (33, some (.imm (.val (.bool ((decide (t1 ≤ ((nth x0.Cuts v8).Days))) && (decide (x1.Rating ≤ ((nth x0.Cuts v8).Rating))))))))] [(1001, some (.box [.imm (.val (.string (tx x1.ISIN))), .imm (.val (.int .i64 x1.Issuer)), .imm (.val (.int .i64 x1.Rating)), .imm (.val (.int .i64 x1.Maturity)), .imm (.val (.string (tx x1.Currency)))])), (1002, some (.box [.imm (.val (.int .i64 ((nth x0.Cuts v8).Days))), .imm (.val (.int .i64 ((nth x0.Cuts v8).Rating))), .imm (.val (.int .i64 ((nth x0.Cuts v8).Cut)))]))] 1003) ?_ ?_
        · refine W.cond rfl (fun q24 => ?_) (fun q24 => ?_)
          · have h := ifT q24 h
            refine W.seq ?_
            refine W.pk ?_
            refine .v rfl rfl (O.fld fld80_2 rfl rfl rfl) ?_
            refine .v rfl rfl (O.ld ty3 rfl rfl rfl) ?_
            refine .v rfl rfl (OpL.move (.inr rfl) rfl) ?_
            refine .v rfl rfl (OpL.move (.inr rfl) rfl) ?_
            refine .nil ?_
            refine W.ret ?_
            cases h
            refine rdR fun e_ => ?_
            subst e_
            have h := z20
            dsimp only at h
            refine fkR ?_
            cases h
            exact leaves (.inr rfl) rfl (.tup _ _ _ _ (cC (.imm _) (cC (.imm _) .nil))) (cN (cN (cN .nil))) rfl rfl
          · have h := ifF q24 h
            refine W.skip ?_
            refine W.pk ?_
            refine .v rfl rfl (OpL.binI rfl rfl rfl rfl) ?_
            refine .v rfl rfl (OpL.move (.inl rfl) rfl) ?_
            refine .nil ?_
            cases h
            exact rdN (Gives.mkR [] (.c rfl (.rfl _) rfl (.c rfl (.rfl _) rfl (.c rfl (.rfl _) rfl (.c rfl (.rfl _) rfl (.c rfl (.rfl _) rfl .n))))) (.c rfl (.rfl _) rfl rfl .n) rfl rfl rfl)
        · clear h
          rcases tf (decide (t1 ≤ ((nth x0.Cuts v8).Days))) with g23 | g23
          · refine W.pk ?_
            refine .v rfl rfl (OpL.move (.inl rfl) rfl) ?_
            refine .v rfl rfl (O.fld fld80_0 rfl rfl rfl) ?_
            refine .v rfl rfl (O.ld ty3 rfl rfl rfl) ?_
            refine .v rfl rfl (OpL.binI rfl rfl rfl rfl) ?_
            refine .v rfl rfl (OpL.move (.inl rfl) rfl) ?_
            refine .v rfl (met rfl rfl rfl g23) (O.fld fld38_2 rfl rfl rfl) ?_
            refine .v rfl (met rfl rfl rfl g23) (O.ld ty3 rfl rfl rfl) ?_
            refine .v rfl (met rfl rfl rfl g23) (O.fld fld80_1 rfl rfl rfl) ?_
            refine .v rfl (met rfl rfl rfl g23) (O.ld ty3 rfl rfl rfl) ?_
            refine .v rfl (met rfl rfl rfl g23) (OpL.binI rfl rfl rfl rfl) ?_
            refine .v rfl rfl (O.pickT g23 rfl rfl rfl) ?_
            refine .nil ?_
            exact toN (Gives.mkR [] (.c rfl (.rfl _) rfl (.c rfl (.rfl _) rfl (.c rfl (.rfl _) rfl (.c rfl (.rfl _) rfl (.c rfl (.rfl _) rfl (.c rfl (.rfl _) rfl (.c rfl (sbb (by simp only [g23, Bool.true_or, Bool.or_true, Bool.false_or, Bool.or_false, Bool.true_and, Bool.and_true, Bool.false_and, Bool.and_false, Bool.not_true, Bool.not_false, cond_true, cond_false])) rfl .n))))))) (.c rfl (.rfl _) rfl rfl (.c rfl (.rfl _) rfl rfl .n)) rfl rfl rfl)
          · refine W.pk ?_
            refine .v rfl rfl (OpL.move (.inl rfl) rfl) ?_
            refine .v rfl rfl (O.fld fld80_0 rfl rfl rfl) ?_
            refine .v rfl rfl (O.ld ty3 rfl rfl rfl) ?_
            refine .v rfl rfl (OpL.binI rfl rfl rfl rfl) ?_
            refine .v rfl rfl (OpL.move (.inl rfl) rfl) ?_
            refine .x rfl (unmet rfl rfl rfl g23) ?_
            refine .x rfl (unmet rfl rfl rfl g23) ?_
            refine .x rfl (unmet rfl rfl rfl g23) ?_
            refine .x rfl (unmet rfl rfl rfl g23) ?_
            refine .x rfl (unmet rfl rfl rfl g23) ?_
            refine .v rfl rfl (O.pickF g23 rfl rfl rfl) ?_
            refine .nil ?_
            exact toN (Gives.mkR [] (.c rfl (.rfl _) rfl (.c rfl (.rfl _) rfl (.c rfl (.rfl _) rfl (.c rfl (.rfl _) rfl (.c rfl (.rfl _) rfl (.c rfl (.rfl _) rfl (.c rfl (sbb (by simp only [g23, Bool.true_or, Bool.or_true, Bool.false_or, Bool.or_false, Bool.true_and, Bool.and_true, Bool.false_and, Bool.and_false, Bool.not_true, Bool.not_false, cond_true, cond_false])) rfl .n))))))) (.c rfl (.rfl _) rfl rfl (.c rfl (.rfl _) rfl rfl .n)) rfl rfl rfl)
      · have h := ifF q21 h
        refine W.exit ?_
        cases h
        refine rdX fun e_ => ?_
        subst e_
        refine hit ?_
        exact fkN (Gives.mkR [] .n .n rfl rfl rfl)
    · intro w17 e_
      subst e_
      clear h
      have h := z20
      dsimp only at h
      refine W.seq ?_
      refine W.pk ?_
      refine .v rfl rfl (OpL.move (.inr rfl) rfl) ?_
      refine .v rfl rfl (OpL.move (.inr rfl) rfl) ?_
      refine .nil ?_
      refine W.ret ?_
      cases h
      exact leaves (.inr rfl) rfl (.tup _ _ _ _ (cC (.imm _) (cC (.imm _) .nil))) (cN (cN (cN .nil))) rfl rfl

noncomputable def lombardref13_Left.f (x0 : api_Asset) (x1 : Int) : Option (Int) :=
  if ((decide (x1 < 0)) || (decide (x1 > 200000))) = true then
    some (-1)
  else
    some (IntKind.wrap .i64 (x0.Maturity - x1))
set_option maxRecDepth 100000 in
set_option maxHeartbeats 4000000 in
theorem lombardref13_Left.ok {x0 : api_Asset} {x1 : Int} {r : Int} (h : lombardref13_Left.f x0 x1 = some r) : Pm.Spec prog 43 [.agg [.imm (.val (.string (tx x0.ISIN))), .imm (.val (.int .i64 x0.Issuer)), .imm (.val (.int .i64 x0.Rating)), .imm (.val (.int .i64 x0.Maturity)), .imm (.val (.string (tx x0.Currency)))], .imm (.val (.int .i64 x1))] (.imm (.val (.int .i64 r))) [none, none] := by
  unfold lombardref13_Left.f at h
  refine Pm.Spec.of_body Try.func43 rfl (by kernel_rfl) (Nat.le_of_ble_eq_true rfl) (Nat.le_of_ble_eq_true rfl) ?_
  refine W.ghost (σ' := (mkSt [(0, some (.agg [.imm (.val (.string (tx x0.ISIN))), .imm (.val (.int .i64 x0.Issuer)), .imm (.val (.int .i64 x0.Rating)), .imm (.val (.int .i64 x0.Maturity)), .imm (.val (.string (tx x0.Currency)))])), (1, some (.imm (.val (.int .i64 x1))))] [] 1000)) (Gives.entry (.c rfl (.c rfl .n)) .n) ?_
  refine W.seq ?_
  refine W.pk ?_
  refine .t rfl rfl (O.box rfl rfl rfl rfl rfl) ?_
  refine .v rfl rfl (OpL.move (.inr rfl) rfl) ?_
  refine .nil ?_
  refine W.seq ?_
  refine W.seq ?_
  refine W.fork (mkSt [(1, some (.imm (.val (.int .i64 x1)))), (2, some (.ptr 1000 0)), (10, some (.imm (.val (.bool ((decide (x1 < 0)) || (decide (x1 > 200000)))))))] [(1000, some (.box [.imm (.val (.string (tx x0.ISIN))), .imm (.val (.int .i64 x0.Issuer)), .imm (.val (.int .i64 x0.Rating)), .imm (.val (.int .i64 x0.Maturity)), .imm (.val (.string (tx x0.Currency)))]))] 1001) ?_ ?_
  · refine W.cond rfl (fun q2 => ?_) (fun q2 => ?_)
    · have h := ifT q2 h
      refine W.seq ?_
      refine W.pk ?_
      refine .v rfl rfl (OpL.move (.inr rfl) rfl) ?_
      refine .nil ?_
      refine W.ret ?_
      cases h
      exact leaves (.inr rfl) rfl (.imm _) (cN (cN .nil)) rfl rfl
    · have h := ifF q2 h
      refine W.skip ?_
      refine W.seq ?_
      refine W.pk ?_
      refine .v rfl rfl (O.fld fld38_3 rfl rfl rfl) ?_
      refine .v rfl rfl (O.ld ty3 rfl rfl rfl) ?_
      refine .v rfl rfl (OpL.move (.inl rfl) rfl) ?_
      refine .v rfl rfl (OpL.binI rfl rfl rfl rfl) ?_
      refine .v rfl rfl (OpL.move (.inr rfl) rfl) ?_
      refine .nil ?_
      refine W.ret ?_
      cases h
      exact leaves (.inr rfl) rfl (.imm _) (cN (cN .nil)) rfl rfl
  · clear h
    rcases tf (decide (x1 < 0)) with g1 | g1
    · refine W.pk ?_
      refine .v rfl rfl (OpL.move (.inl rfl) rfl) ?_
      refine .v rfl rfl (OpL.binI rfl rfl rfl rfl) ?_
      refine .v rfl rfl (OpL.move (.inl rfl) rfl) ?_
      refine .x rfl (unmet rfl rfl rfl g1) ?_
      refine .x rfl (unmet rfl rfl rfl g1) ?_
      refine .v rfl rfl (O.pickT g1 rfl rfl rfl) ?_
      refine .nil ?_
      exact toN (Gives.mkR [] (.c rfl (.rfl _) rfl (.c rfl (.rfl _) rfl (.c rfl (sbb (by simp only [g1, Bool.true_or, Bool.or_true, Bool.false_or, Bool.or_false, Bool.true_and, Bool.and_true, Bool.false_and, Bool.and_false, Bool.not_true, Bool.not_false, cond_true, cond_false])) rfl .n))) (.c rfl (.rfl _) rfl rfl .n) rfl rfl rfl)
    · refine W.pk ?_
      refine .v rfl rfl (OpL.move (.inl rfl) rfl) ?_
      refine .v rfl rfl (OpL.binI rfl rfl rfl rfl) ?_
      refine .v rfl rfl (OpL.move (.inl rfl) rfl) ?_
      refine .v rfl (met rfl rfl rfl g1) (OpL.move (.inl rfl) rfl) ?_
      refine .v rfl (met rfl rfl rfl g1) (OpL.binI rfl rfl rfl rfl) ?_
      refine .v rfl rfl (O.pickF g1 rfl rfl rfl) ?_
      refine .nil ?_
      exact toN (Gives.mkR [] (.c rfl (.rfl _) rfl (.c rfl (.rfl _) rfl (.c rfl (sbb (by simp only [g1, Bool.true_or, Bool.or_true, Bool.false_or, Bool.or_false, Bool.true_and, Bool.and_true, Bool.false_and, Bool.and_false, Bool.not_true, Bool.not_false, cond_true, cond_false])) rfl .n))) (.c rfl (.rfl _) rfl rfl .n) rfl rfl rfl)

noncomputable def lombardref15_Of.b0 (x0 : api_Basket) (x1 : api_Asset) (t1 : Int) (v10 : Int) : Option (Int ⊕ ((Int × Bool) ⊕ Unit)) :=
  if ((decide (v10 < (List.length x0.Cuts : Int))) && (decide (t1 ≥ 0))) = true then
    if (0 : Int) ≤ v10 ∧ v10 < (List.length x0.Cuts : Int) then
    if ((decide (((nth x0.Cuts v10).Days) ≥ t1)) = true → (0 : Int) ≤ v10 ∧ v10 < (List.length x0.Cuts : Int)) then
    if ((decide (((nth x0.Cuts v10).Days) ≥ t1)) && (decide (((nth x0.Cuts v10).Rating) ≥ x1.Rating))) = true then
      if (0 : Int) ≤ v10 ∧ v10 < (List.length x0.Cuts : Int) then
      some (.inr (.inl ((nth x0.Cuts v10).Cut, true)))
      else none
    else
      some (.inl (IntKind.wrap .i64 (v10 + 1)))
    else none
    else none
  else
    some (.inr (.inr ()))
noncomputable def lombardref15_Of.r0 (x0 : api_Basket) (x1 : api_Asset) (t1 : Int) (s : Int) : Option (Int ⊕ ((Int × Bool) ⊕ Unit)) := lombardref15_Of.b0 x0 x1 t1 s
noncomputable def lombardref15_Of.f (x0 : api_Basket) (x1 : api_Asset) (x2 : Int) : Option (Int × Bool) :=
  (lombardref13_Left.f x1 x2).bind fun t1 =>
  (loop (lombardref15_Of.r0 x0 x1 t1) 0).bind fun o26 =>
  match o26 with
  | .inl r36 => some r36
  | .inr w25 =>
    some (0, false)
set_option maxRecDepth 100000 in
set_option maxHeartbeats 4000000 in
theorem lombardref15_Of.ok {x0 : api_Basket} {x1 : api_Asset} {x2 : Int} {r : Int × Bool} (h : lombardref15_Of.f x0 x1 x2 = some r) : Pm.Spec prog 18 [.agg [.imm (.val (.int .i64 x0.ID)), .imm (.val (.int .i64 x0.Version)), .imm (.val (.string (tx x0.Currency))), .imm (.val (.int .i64 x0.Rating)), .imm (.val (.int .i64 x0.Least)), .imm (.val (.int .i64 x0.Most)), .imm (.row 3 (List.map api_Cut.enc x0.Cuts)), .imm (.val (.int .i64 x0.Issuer)), .imm (.val (.int .i64 x0.Asset)), .imm (.row 1 (List.map (encI .i64) x0.Barred))], .agg [.imm (.val (.string (tx x1.ISIN))), .imm (.val (.int .i64 x1.Issuer)), .imm (.val (.int .i64 x1.Rating)), .imm (.val (.int .i64 x1.Maturity)), .imm (.val (.string (tx x1.Currency)))], .imm (.val (.int .i64 x2))] (.tup [.imm (.val (.int .i64 r.1)), .imm (.val (.bool r.2))]) [none, none, none] := by
  unfold lombardref15_Of.f at h
  refine Pm.Spec.of_body Try.func18 rfl (by kernel_rfl) (Nat.le_of_ble_eq_true rfl) (Nat.le_of_ble_eq_true rfl) ?_
  refine W.ghost (σ' := (mkSt [(0, some (.agg [.imm (.val (.int .i64 x0.ID)), .imm (.val (.int .i64 x0.Version)), .imm (.val (.string (tx x0.Currency))), .imm (.val (.int .i64 x0.Rating)), .imm (.val (.int .i64 x0.Least)), .imm (.val (.int .i64 x0.Most)), .imm (.row 3 (List.map api_Cut.enc x0.Cuts)), .imm (.val (.int .i64 x0.Issuer)), .imm (.val (.int .i64 x0.Asset)), .imm (.row 1 (List.map (encI .i64) x0.Barred))])), (1, some (.agg [.imm (.val (.string (tx x1.ISIN))), .imm (.val (.int .i64 x1.Issuer)), .imm (.val (.int .i64 x1.Rating)), .imm (.val (.int .i64 x1.Maturity)), .imm (.val (.string (tx x1.Currency)))])), (2, some (.imm (.val (.int .i64 x2))))] [] 1000)) (Gives.entry (.c rfl (.c rfl (.c rfl .n))) .n) ?_
  refine W.seq ?_
  refine W.pk ?_
  refine .t rfl rfl (O.box rfl rfl rfl rfl rfl) ?_
  refine .t rfl rfl (O.box rfl rfl rfl rfl rfl) ?_
  refine .v rfl rfl (OpL.move (.inr rfl) rfl) ?_
  refine .v rfl rfl (OpL.move (.inr rfl) rfl) ?_
  refine .nil ?_
  refine W.seq ?_
  obtain ⟨t1, b2, h⟩ := bnd1 h
  refine W.pk ?_
  refine .v rfl rfl (O.ldN ty38 rfl rfl rfl) ?_
  refine .v rfl rfl (OpL.move (.inl rfl) rfl) ?_
  refine .call (.imm (.val (.int .i64 t1))) [] 0 (lombardref13_Left.ok b2) rfl rfl rfl ca43 rfl rfl (cC (.agg _ _ _ _ (cC (.imm _) (cC (.imm _) (cC (.imm _) (cC (.imm _) (cC (.imm _) .nil)))))) (cC (.imm _) .nil)) rfl rfl rfl rfl rfl ?_
  refine .v rfl rfl (OpL.move (.inr rfl) rfl) ?_
  refine .nil ?_
  refine W.seq ?_
  refine W.seq ?_
  refine W.pk ?_
  refine .v rfl rfl (OpL.move (.inr rfl) rfl) ?_
  refine .nil ?_
  obtain ⟨o26, b27, z28⟩ := bnd1 h
  refine W.fork2 (out := o26) (fun (w25 : Unit) => mkSt [] [] 1002) ?_ ?_
  · clear h
    refine W.block ?_
    refine W.loopF (fun (s_ : Int) => mkSt [(3, some (.ptr 1000 0)), (4, some (.ptr 1001 0)), (8, some (.imm (.val (.int .i64 t1)))), (9, some (.imm (.val (.int .i64 s_))))] [(1000, some (.box [.imm (.val (.int .i64 x0.ID)), .imm (.val (.int .i64 x0.Version)), .imm (.val (.string (tx x0.Currency))), .imm (.val (.int .i64 x0.Rating)), .imm (.val (.int .i64 x0.Least)), .imm (.val (.int .i64 x0.Most)), .imm (.row 3 (List.map api_Cut.enc x0.Cuts)), .imm (.val (.int .i64 x0.Issuer)), .imm (.val (.int .i64 x0.Asset)), .imm (.row 1 (List.map (encI .i64) x0.Barred))])), (1001, some (.box [.imm (.val (.string (tx x1.ISIN))), .imm (.val (.int .i64 x1.Issuer)), .imm (.val (.int .i64 x1.Rating)), .imm (.val (.int .i64 x1.Maturity)), .imm (.val (.string (tx x1.Currency)))]))] 1002) b27 (Gives.mkR [] (.c rfl (.rfl _) rfl (.c rfl (.rfl _) rfl (.c rfl (.rfl _) rfl (.c rfl (.rfl _) rfl .n)))) (.c rfl (.rfl _) rfl rfl (.c rfl (.rfl _) rfl rfl .n)) rfl rfl rfl) ?_
    rintro v10 s_ hr
    have h : lombardref15_Of.b0 x0 x1 t1 v10 = some s_ := hr
    unfold lombardref15_Of.b0 at h
    refine W.seq ?_
    refine W.seq ?_
    refine W.fork (mkSt [(3, some (.ptr 1000 0)), (4, some (.ptr 1001 0)), (8, some (.imm (.val (.int .i64 t1)))), (9, some (.imm (.val (.int .i64 v10)))), (21, some (.imm (.val (.bool ((decide (v10 < (List.length x0.Cuts : Int))) && (decide (t1 ≥ 0)))))))] [(1000, some (.box [.imm (.val (.int .i64 x0.ID)), .imm (.val (.int .i64 x0.Version)), .imm (.val (.string (tx x0.Currency))), .imm (.val (.int .i64 x0.Rating)), .imm (.val (.int .i64 x0.Least)), .imm (.val (.int .i64 x0.Most)), .imm (.row 3 (List.map api_Cut.enc x0.Cuts)), .imm (.val (.int .i64 x0.Issuer)), .imm (.val (.int .i64 x0.Asset)), .imm (.row 1 (List.map (encI .i64) x0.Barred))])), (1001, some (.box [.imm (.val (.string (tx x1.ISIN))), .imm (.val (.int .i64 x1.Issuer)), .imm (.val (.int .i64 x1.Rating)), .imm (.val (.int .i64 x1.Maturity)), .imm (.val (.string (tx x1.Currency)))]))] 1002) ?_ ?_
    · refine W.cond rfl (fun q30 => ?_) (fun q30 => ?_)
      · have h := ifT q30 h
        refine W.skip ?_
        refine W.seq ?_
        refine W.block ?_
        refine W.seq ?_
        obtain ⟨c31, h⟩ := chk h
        obtain ⟨c32, h⟩ := chk h
        refine W.fork (mkSt [(3, some (.ptr 1000 0)), (4, some (.ptr 1001 0)), (8, some (.imm (.val (.int .i64 t1)))), (9, some (.imm (.val (.int .i64 v10)))), (42, some (.imm (.val (.bool ((decide (((nth x0.Cuts v10).Days) ≥ t1)) && (decide (((nth x0.Cuts v10).Rating) ≥ x1.Rating)))))))] [(1000, some (.box [.imm (.val (.int .i64 x0.ID)), .imm (.val (.int .i64 x0.Version)), .imm (.val (.string (tx x0.Currency))), .imm (.val (.int .i64 x0.Rating)), .imm (.val (.int .i64 x0.Least)), .imm (.val (.int .i64 x0.Most)), .imm (.row 3 (List.map api_Cut.enc x0.Cuts)), .imm (.val (.int .i64 x0.Issuer)), .imm (.val (.int .i64 x0.Asset)), .imm (.row 1 (List.map (encI .i64) x0.Barred))])), (1001, some (.box [.imm (.val (.string (tx x1.ISIN))), .imm (.val (.int .i64 x1.Issuer)), .imm (.val (.int .i64 x1.Rating)), .imm (.val (.int .i64 x1.Maturity)), .imm (.val (.string (tx x1.Currency)))]))] 1002) ?_ ?_
        · refine W.cond rfl (fun q34 => ?_) (fun q34 => ?_)
          · have h := ifT q34 h
            refine W.seq ?_
            obtain ⟨c35, h⟩ := chk h
            refine W.pk ?_
            refine .v rfl rfl (O.fld fld36_6 rfl rfl rfl) ?_
            refine .v rfl rfl (O.ld ty33 rfl rfl rfl) ?_
            refine .v rfl rfl (OpL.move (.inl rfl) rfl) ?_
            refine .v rfl rfl (O.idx sl33 c35 rfl rfl rfl) ?_
            refine .v rfl rfl (O.fld fld80_2 rfl rfl rfl) ?_
            refine .v rfl rfl (O.ld ty3 rfl rfl rfl) ?_
            refine .v rfl rfl (OpL.move (.inr rfl) rfl) ?_
            refine .v rfl rfl (OpL.move (.inr rfl) rfl) ?_
            refine .nil ?_
            refine W.ret ?_
            cases h
            refine rdR fun e_ => ?_
            subst e_
            have h := z28
            dsimp only at h
            refine fkR ?_
            cases h
            exact leaves (.inr rfl) rfl (.tup _ _ _ _ (cC (.imm _) (cC (.imm _) .nil))) (cN (cN (cN .nil))) rfl rfl
          · have h := ifF q34 h
            refine W.skip ?_
            refine W.pk ?_
            refine .v rfl rfl (OpL.move (.inl rfl) rfl) ?_
            refine .v rfl rfl (OpL.binI rfl rfl rfl rfl) ?_
            refine .v rfl rfl (OpL.move (.inr rfl) rfl) ?_
            refine .nil ?_
            cases h
            exact rdN (Gives.mkR [] (.c rfl (.rfl _) rfl (.c rfl (.rfl _) rfl (.c rfl (.rfl _) rfl (.c rfl (.rfl _) rfl .n)))) (.c rfl (.rfl _) rfl rfl (.c rfl (.rfl _) rfl rfl .n)) rfl rfl rfl)
        · clear h
          rcases tf (decide (((nth x0.Cuts v10).Days) ≥ t1)) with g33 | g33
          · refine W.dk [[], [0], [], [0, 1, 2], [0, 1, 2, 3], [0, 1, 2, 3, 4], [], [0, 1, 2, 3, 4, 5, 6], [0, 1, 2, 3, 4, 5, 6, 7], [0, 1, 2, 3, 4, 5, 6, 7, 8], [0, 1, 2, 3, 4, 5, 6, 7, 8, 9], [0, 1, 2, 3, 4, 5, 6, 7, 8], [0, 1, 2, 3, 4, 5, 6, 7, 8, 9, 10, 11], [0, 1, 2, 3, 4, 5, 6, 7, 8, 9, 10, 11, 12], [0, 1, 2, 3, 4, 5, 6, 7, 8, 9, 10, 11, 12, 13], [0, 1, 2, 3, 4, 5, 6, 7, 8], [0, 1, 2, 3, 4, 5, 6, 7, 8, 15], [0, 1, 2, 3, 4, 5, 6, 7, 8, 9, 10, 11, 12, 13, 14, 15, 16], [0, 1, 2, 3, 4, 5, 6, 7, 8, 9, 10, 11, 12, 13, 14, 15, 16, 17]] rfl (by kernel_rfl) ?_
            refine .v rfl rfl (O.fld fld36_6 rfl rfl rfl) ?_
            refine .v rfl rfl (O.ld ty33 rfl rfl rfl) ?_
            refine .v rfl rfl (OpL.move (.inl rfl) rfl) ?_
            refine .v rfl rfl (O.idx sl33 c31 rfl rfl rfl) ?_
            refine .v rfl rfl (O.fld fld80_0 rfl rfl rfl) ?_
            refine .v rfl rfl (O.ld ty3 rfl rfl rfl) ?_
            refine .v rfl rfl (OpL.move (.inl rfl) rfl) ?_
            refine .v rfl rfl (OpL.binI rfl rfl rfl rfl) ?_
            refine .v rfl rfl (OpL.move (.inl rfl) rfl) ?_
            refine .v rfl (met rfl rfl rfl g33) (O.fld fld36_6 rfl rfl rfl) ?_
            refine .v rfl (met rfl rfl rfl g33) (O.ld ty33 rfl rfl rfl) ?_
            refine .v rfl (met rfl rfl rfl g33) (OpL.move (.inl rfl) rfl) ?_
            refine .v rfl (met rfl rfl rfl g33) (O.idx sl33 (c32 (by simp only [g33, Bool.true_or, Bool.or_true, Bool.false_or, Bool.or_false, Bool.true_and, Bool.and_true, Bool.false_and, Bool.and_false, Bool.not_true, Bool.not_false, cond_true, cond_false])) rfl rfl rfl) ?_
            refine .v rfl (met rfl rfl rfl g33) (O.fld fld80_1 rfl rfl rfl) ?_
            refine .v rfl (met rfl rfl rfl g33) (O.ld ty3 rfl rfl rfl) ?_
            refine .v rfl (met rfl rfl rfl g33) (O.fld fld38_2 rfl rfl rfl) ?_
            refine .v rfl (met rfl rfl rfl g33) (O.ld ty3 rfl rfl rfl) ?_
            refine .v rfl (met rfl rfl rfl g33) (OpL.binI rfl rfl rfl rfl) ?_
            refine .v rfl rfl (O.pickT g33 rfl rfl rfl) ?_
            refine .nil ?_
            refine ⟨by kernel_rfl, by kernel_rfl, ?_⟩
            exact toN (Gives.mkR [] (.c rfl (.rfl _) rfl (.c rfl (.rfl _) rfl (.c rfl (.rfl _) rfl (.c rfl (.rfl _) rfl (.c rfl (sbb (by simp only [g33, Bool.true_or, Bool.or_true, Bool.false_or, Bool.or_false, Bool.true_and, Bool.and_true, Bool.false_and, Bool.and_false, Bool.not_true, Bool.not_false, cond_true, cond_false])) rfl .n))))) (.c rfl (.rfl _) rfl rfl (.c rfl (.rfl _) rfl rfl .n)) rfl rfl rfl)
          · refine W.dk [[], [0], [], [0, 1, 2], [0, 1, 2, 3], [0, 1, 2, 3, 4], [], [0, 1, 2, 3, 4, 5, 6], [0, 1, 2, 3, 4, 5, 6, 7], [0, 1, 2, 3, 4, 5, 6, 7, 8], [0, 1, 2, 3, 4, 5, 6, 7, 8, 9], [0, 1, 2, 3, 4, 5, 6, 7, 8], [0, 1, 2, 3, 4, 5, 6, 7, 8, 9, 10, 11], [0, 1, 2, 3, 4, 5, 6, 7, 8, 9, 10, 11, 12], [0, 1, 2, 3, 4, 5, 6, 7, 8, 9, 10, 11, 12, 13], [0, 1, 2, 3, 4, 5, 6, 7, 8], [0, 1, 2, 3, 4, 5, 6, 7, 8, 15], [0, 1, 2, 3, 4, 5, 6, 7, 8, 9, 10, 11, 12, 13, 14, 15, 16], [0, 1, 2, 3, 4, 5, 6, 7, 8, 9, 10, 11, 12, 13, 14, 15, 16, 17]] rfl (by kernel_rfl) ?_
            refine .v rfl rfl (O.fld fld36_6 rfl rfl rfl) ?_
            refine .v rfl rfl (O.ld ty33 rfl rfl rfl) ?_
            refine .v rfl rfl (OpL.move (.inl rfl) rfl) ?_
            refine .v rfl rfl (O.idx sl33 c31 rfl rfl rfl) ?_
            refine .v rfl rfl (O.fld fld80_0 rfl rfl rfl) ?_
            refine .v rfl rfl (O.ld ty3 rfl rfl rfl) ?_
            refine .v rfl rfl (OpL.move (.inl rfl) rfl) ?_
            refine .v rfl rfl (OpL.binI rfl rfl rfl rfl) ?_
            refine .v rfl rfl (OpL.move (.inl rfl) rfl) ?_
            refine .x rfl (unmet rfl rfl rfl g33) ?_
            refine .x rfl (unmet rfl rfl rfl g33) ?_
            refine .x rfl (unmet rfl rfl rfl g33) ?_
            refine .x rfl (unmet rfl rfl rfl g33) ?_
            refine .x rfl (unmet rfl rfl rfl g33) ?_
            refine .x rfl (unmet rfl rfl rfl g33) ?_
            refine .x rfl (unmet rfl rfl rfl g33) ?_
            refine .x rfl (unmet rfl rfl rfl g33) ?_
            refine .x rfl (unmet rfl rfl rfl g33) ?_
            refine .v rfl rfl (O.pickF g33 rfl rfl rfl) ?_
            refine .nil ?_
            refine ⟨by kernel_rfl, by kernel_rfl, ?_⟩
            exact toN (Gives.mkR [] (.c rfl (.rfl _) rfl (.c rfl (.rfl _) rfl (.c rfl (.rfl _) rfl (.c rfl (.rfl _) rfl (.c rfl (sbb (by simp only [g33, Bool.true_or, Bool.or_true, Bool.false_or, Bool.or_false, Bool.true_and, Bool.and_true, Bool.false_and, Bool.and_false, Bool.not_true, Bool.not_false, cond_true, cond_false])) rfl .n))))) (.c rfl (.rfl _) rfl rfl (.c rfl (.rfl _) rfl rfl .n)) rfl rfl rfl)
      · have h := ifF q30 h
        refine W.exit ?_
        cases h
        refine rdX fun e_ => ?_
        subst e_
        refine hit ?_
        exact fkN (Gives.mkR [] .n .n rfl rfl rfl)
    · clear h
      rcases tf (decide (v10 < (List.length x0.Cuts : Int))) with g29 | g29
      · refine W.pk ?_
        refine .v rfl rfl (OpL.move (.inl rfl) rfl) ?_
        refine .v rfl rfl (O.fld fld36_6 rfl rfl rfl) ?_
        refine .v rfl rfl (O.ld ty33 rfl rfl rfl) ?_
        refine .v rfl rfl (O.lenR sl33 rfl rfl) ?_
        refine .v rfl rfl (OpL.binI rfl rfl rfl rfl) ?_
        refine .v rfl rfl (OpL.move (.inl rfl) rfl) ?_
        refine .v rfl (met rfl rfl rfl g29) (OpL.move (.inl rfl) rfl) ?_
        refine .v rfl (met rfl rfl rfl g29) (OpL.binI rfl rfl rfl rfl) ?_
        refine .v rfl rfl (O.pickT g29 rfl rfl rfl) ?_
        refine .nil ?_
        exact toN (Gives.mkR [] (.c rfl (.rfl _) rfl (.c rfl (.rfl _) rfl (.c rfl (.rfl _) rfl (.c rfl (.rfl _) rfl (.c rfl (sbb (by simp only [g29, Bool.true_or, Bool.or_true, Bool.false_or, Bool.or_false, Bool.true_and, Bool.and_true, Bool.false_and, Bool.and_false, Bool.not_true, Bool.not_false, cond_true, cond_false])) rfl .n))))) (.c rfl (.rfl _) rfl rfl (.c rfl (.rfl _) rfl rfl .n)) rfl rfl rfl)
      · refine W.pk ?_
        refine .v rfl rfl (OpL.move (.inl rfl) rfl) ?_
        refine .v rfl rfl (O.fld fld36_6 rfl rfl rfl) ?_
        refine .v rfl rfl (O.ld ty33 rfl rfl rfl) ?_
        refine .v rfl rfl (O.lenR sl33 rfl rfl) ?_
        refine .v rfl rfl (OpL.binI rfl rfl rfl rfl) ?_
        refine .v rfl rfl (OpL.move (.inl rfl) rfl) ?_
        refine .x rfl (unmet rfl rfl rfl g29) ?_
        refine .x rfl (unmet rfl rfl rfl g29) ?_
        refine .v rfl rfl (O.pickF g29 rfl rfl rfl) ?_
        refine .nil ?_
        exact toN (Gives.mkR [] (.c rfl (.rfl _) rfl (.c rfl (.rfl _) rfl (.c rfl (.rfl _) rfl (.c rfl (.rfl _) rfl (.c rfl (sbb (by simp only [g29, Bool.true_or, Bool.or_true, Bool.false_or, Bool.or_false, Bool.true_and, Bool.and_true, Bool.false_and, Bool.and_false, Bool.not_true, Bool.not_false, cond_true, cond_false])) rfl .n))))) (.c rfl (.rfl _) rfl rfl (.c rfl (.rfl _) rfl rfl .n)) rfl rfl rfl)
  · intro w25 e_
    subst e_
    clear h
    have h := z28
    dsimp only at h
    refine W.seq ?_
    refine W.pk ?_
    refine .v rfl rfl (OpL.move (.inr rfl) rfl) ?_
    refine .v rfl rfl (OpL.move (.inr rfl) rfl) ?_
    refine .nil ?_
    refine W.ret ?_
    cases h
    exact leaves (.inr rfl) rfl (.tup _ _ _ _ (cC (.imm _) (cC (.imm _) .nil))) (cN (cN (cN .nil))) rfl rfl

noncomputable def lombardlaw15_HaircutOf.f (x0 : api_Basket) (x1 : api_Asset) (x2 : Int) : Option (Bool) :=
  (lombardref10_Basket.f x0).bind fun t1 =>
  if (((t1 != 0) || (decide (x1.Maturity < 0))) || (decide (x1.Maturity > 200000))) = true then
    (lombardlaw15_awake.f).bind fun t6 =>
    some t6
  else
    (haircut_Of.f x0 x1 x2).bind fun t8 =>
    (lombardref15_Of.f x0 x1 x2).bind fun t10 =>
    (if ((t8.1 == t10.1) && (t8.2 == t10.2)) = true then lombardlaw15_awake.f else some default).bind fun t12 =>
    some (((t8.1 == t10.1) && (t8.2 == t10.2)) && t12)
set_option maxRecDepth 100000 in
set_option maxHeartbeats 4000000 in
theorem lombardlaw15_HaircutOf.ok {x0 : api_Basket} {x1 : api_Asset} {x2 : Int} {r : Bool} (h : lombardlaw15_HaircutOf.f x0 x1 x2 = some r) : Pm.Spec prog 6 [.agg [.imm (.val (.int .i64 x0.ID)), .imm (.val (.int .i64 x0.Version)), .imm (.val (.string (tx x0.Currency))), .imm (.val (.int .i64 x0.Rating)), .imm (.val (.int .i64 x0.Least)), .imm (.val (.int .i64 x0.Most)), .imm (.row 3 (List.map api_Cut.enc x0.Cuts)), .imm (.val (.int .i64 x0.Issuer)), .imm (.val (.int .i64 x0.Asset)), .imm (.row 1 (List.map (encI .i64) x0.Barred))], .agg [.imm (.val (.string (tx x1.ISIN))), .imm (.val (.int .i64 x1.Issuer)), .imm (.val (.int .i64 x1.Rating)), .imm (.val (.int .i64 x1.Maturity)), .imm (.val (.string (tx x1.Currency)))], .imm (.val (.int .i64 x2))] (.imm (.val (.bool r))) [none, none, none] := by
  unfold lombardlaw15_HaircutOf.f at h
  refine Pm.Spec.of_body Try.func6 rfl (by kernel_rfl) (Nat.le_of_ble_eq_true rfl) (Nat.le_of_ble_eq_true rfl) ?_
  refine W.ghost (σ' := (mkSt [(0, some (.agg [.imm (.val (.int .i64 x0.ID)), .imm (.val (.int .i64 x0.Version)), .imm (.val (.string (tx x0.Currency))), .imm (.val (.int .i64 x0.Rating)), .imm (.val (.int .i64 x0.Least)), .imm (.val (.int .i64 x0.Most)), .imm (.row 3 (List.map api_Cut.enc x0.Cuts)), .imm (.val (.int .i64 x0.Issuer)), .imm (.val (.int .i64 x0.Asset)), .imm (.row 1 (List.map (encI .i64) x0.Barred))])), (1, some (.agg [.imm (.val (.string (tx x1.ISIN))), .imm (.val (.int .i64 x1.Issuer)), .imm (.val (.int .i64 x1.Rating)), .imm (.val (.int .i64 x1.Maturity)), .imm (.val (.string (tx x1.Currency)))])), (2, some (.imm (.val (.int .i64 x2))))] [] 1000)) (Gives.entry (.c rfl (.c rfl (.c rfl .n))) .n) ?_
  refine W.seq ?_
  refine W.pk ?_
  refine .t rfl rfl (O.box rfl rfl rfl rfl rfl) ?_
  refine .t rfl rfl (O.box rfl rfl rfl rfl rfl) ?_
  refine .v rfl rfl (OpL.move (.inr rfl) rfl) ?_
  refine .nil ?_
  refine W.seq ?_
  refine W.seq ?_
  obtain ⟨t1, b2, h⟩ := bnd1 h
  refine W.fork (mkSt [(2, some (.imm (.val (.int .i64 x2)))), (3, some (.ptr 1000 0)), (4, some (.ptr 1001 0)), (23, some (.imm (.val (.bool (((t1 != 0) || (decide (x1.Maturity < 0))) || (decide (x1.Maturity > 200000)))))))] [(1000, some (.box [.imm (.val (.int .i64 x0.ID)), .imm (.val (.int .i64 x0.Version)), .imm (.val (.string (tx x0.Currency))), .imm (.val (.int .i64 x0.Rating)), .imm (.val (.int .i64 x0.Least)), .imm (.val (.int .i64 x0.Most)), .imm (.row 3 (List.map api_Cut.enc x0.Cuts)), .imm (.val (.int .i64 x0.Issuer)), .imm (.val (.int .i64 x0.Asset)), .imm (.row 1 (List.map (encI .i64) x0.Barred))])), (1001, some (.box [.imm (.val (.string (tx x1.ISIN))), .imm (.val (.int .i64 x1.Issuer)), .imm (.val (.int .i64 x1.Rating)), .imm (.val (.int .i64 x1.Maturity)), .imm (.val (.string (tx x1.Currency)))]))] 1002) ?_ ?_
  · refine W.cond rfl (fun q5 => ?_) (fun q5 => ?_)
    · have h := ifT q5 h
      refine W.seq ?_
      obtain ⟨t6, b7, h⟩ := bnd1 h
      refine W.pk ?_
      refine .call (.imm (.val (.bool t6))) [] 0 (lombardlaw15_awake.ok b7) rfl rfl rfl ca9 rfl rfl .nil rfl rfl rfl rfl rfl ?_
      refine .v rfl rfl (OpL.move (.inr rfl) rfl) ?_
      refine .nil ?_
      refine W.ret ?_
      cases h
      exact leaves (.inr rfl) rfl (.imm _) (cN (cN (cN .nil))) rfl rfl
    · have h := ifF q5 h
      refine W.skip ?_
      refine W.seq ?_
      obtain ⟨t8, b9, h⟩ := bnd1 h
      refine W.pk ?_
      refine .v rfl rfl (O.ldN ty36 rfl rfl rfl) ?_
      refine .v rfl rfl (O.ldN ty38 rfl rfl rfl) ?_
      refine .v rfl rfl (OpL.move (.inl rfl) rfl) ?_
      refine .call (.tup [.imm (.val (.int .i64 t8.1)), .imm (.val (.bool t8.2))]) [] 0 (haircut_Of.ok b9) rfl rfl rfl ca17 rfl rfl (cC (.agg _ _ _ _ (cC (.imm _) (cC (.imm _) (cC (.imm _) (cC (.imm _) (cC (.imm _) (cC (.imm _) (cC (.imm _) (cC (.imm _) (cC (.imm _) (cC (.imm _) .nil))))))))))) (cC (.agg _ _ _ _ (cC (.imm _) (cC (.imm _) (cC (.imm _) (cC (.imm _) (cC (.imm _) .nil)))))) (cC (.imm _) .nil))) rfl rfl rfl rfl rfl ?_
      refine .v rfl rfl (OpL.move (.inl rfl) rfl) ?_
      refine .v rfl rfl (OpL.extract rfl rfl rfl) ?_
      refine .v rfl rfl (OpL.extract rfl rfl rfl) ?_
      refine .v rfl rfl (OpL.move (.inr rfl) rfl) ?_
      refine .v rfl rfl (OpL.move (.inr rfl) rfl) ?_
      refine .nil ?_
      refine W.seq ?_
      obtain ⟨t10, b11, h⟩ := bnd1 h
      refine W.pk ?_
      refine .v rfl rfl (O.ldN ty36 rfl rfl rfl) ?_
      refine .v rfl rfl (O.ldN ty38 rfl rfl rfl) ?_
      refine .v rfl rfl (OpL.move (.inl rfl) rfl) ?_
      refine .call (.tup [.imm (.val (.int .i64 t10.1)), .imm (.val (.bool t10.2))]) [] 0 (lombardref15_Of.ok b11) rfl rfl rfl ca18 rfl rfl (cC (.agg _ _ _ _ (cC (.imm _) (cC (.imm _) (cC (.imm _) (cC (.imm _) (cC (.imm _) (cC (.imm _) (cC (.imm _) (cC (.imm _) (cC (.imm _) (cC (.imm _) .nil))))))))))) (cC (.agg _ _ _ _ (cC (.imm _) (cC (.imm _) (cC (.imm _) (cC (.imm _) (cC (.imm _) .nil)))))) (cC (.imm _) .nil))) rfl rfl rfl rfl rfl ?_
      refine .v rfl rfl (OpL.move (.inl rfl) rfl) ?_
      refine .v rfl rfl (OpL.extract rfl rfl rfl) ?_
      refine .v rfl rfl (OpL.extract rfl rfl rfl) ?_
      refine .v rfl rfl (OpL.move (.inr rfl) rfl) ?_
      refine .v rfl rfl (OpL.move (.inr rfl) rfl) ?_
      refine .nil ?_
      refine W.seq ?_
      obtain ⟨t12, b13, h⟩ := bnd1 h
      refine W.fork (mkSt [(6, some (.imm (.val (.bool (((t8.1 == t10.1) && (t8.2 == t10.2)) && t12)))))] [] 1002) ?_ ?_
      · refine W.ret ?_
        cases h
        exact leaves (.inr rfl) rfl (.imm _) (cN (cN (cN .nil))) rfl rfl
      · clear h
        rcases tf (t8.1 == t10.1) with g14 | g14
        · rcases tf (t8.2 == t10.2) with g15 | g15
          · refine W.pk ?_
            refine .v rfl rfl (OpL.move (.inl rfl) rfl) ?_
            refine .v rfl rfl (OpL.move (.inl rfl) rfl) ?_
            refine .v rfl rfl (OpL.binI rfl rfl rfl rfl) ?_
            refine .v rfl rfl (OpL.move (.inl rfl) rfl) ?_
            refine .v rfl (met rfl rfl rfl g14) (OpL.move (.inl rfl) rfl) ?_
            refine .v rfl (met rfl rfl rfl g14) (OpL.move (.inl rfl) rfl) ?_
            refine .v rfl (met rfl rfl rfl g14) (OpL.eqB rfl u4 rfl rfl) ?_
            refine .v rfl rfl (O.pickT g14 rfl rfl rfl) ?_
            refine .v rfl rfl (OpL.move (.inl rfl) rfl) ?_
            refine .call (.imm (.val (.bool t12))) [] 0 (lombardlaw15_awake.ok ((if_pos (by simp only [g14, g15, Bool.true_or, Bool.or_true, Bool.false_or, Bool.or_false, Bool.true_and, Bool.and_true, Bool.false_and, Bool.and_false, Bool.not_true, Bool.not_false, cond_true, cond_false])).symm.trans b13)) rfl (met rfl rfl rfl g15) rfl ca9 rfl rfl .nil rfl rfl rfl rfl rfl ?_
            refine .v rfl rfl (O.pickT g15 rfl rfl rfl) ?_
            refine .v rfl rfl (OpL.move (.inr rfl) rfl) ?_
            refine .nil ?_
            exact toN (Gives.mkR [] (.c rfl (sbb (by simp only [g14, g15, Bool.true_or, Bool.or_true, Bool.false_or, Bool.or_false, Bool.true_and, Bool.and_true, Bool.false_and, Bool.and_false, Bool.not_true, Bool.not_false, cond_true, cond_false])) rfl .n) .n rfl rfl rfl)
          · refine W.pk ?_
            refine .v rfl rfl (OpL.move (.inl rfl) rfl) ?_
            refine .v rfl rfl (OpL.move (.inl rfl) rfl) ?_
            refine .v rfl rfl (OpL.binI rfl rfl rfl rfl) ?_
            refine .v rfl rfl (OpL.move (.inl rfl) rfl) ?_
            refine .v rfl (met rfl rfl rfl g14) (OpL.move (.inl rfl) rfl) ?_
            refine .v rfl (met rfl rfl rfl g14) (OpL.move (.inl rfl) rfl) ?_
            refine .v rfl (met rfl rfl rfl g14) (OpL.eqB rfl u4 rfl rfl) ?_
            refine .v rfl rfl (O.pickT g14 rfl rfl rfl) ?_
            refine .v rfl rfl (OpL.move (.inl rfl) rfl) ?_
            refine .x rfl (unmet rfl rfl rfl g15) ?_
            refine .v rfl rfl (O.pickF g15 rfl rfl rfl) ?_
            refine .v rfl rfl (OpL.move (.inr rfl) rfl) ?_
            refine .nil ?_
            exact toN (Gives.mkR [] (.c rfl (sbb (by simp only [g14, g15, Bool.true_or, Bool.or_true, Bool.false_or, Bool.or_false, Bool.true_and, Bool.and_true, Bool.false_and, Bool.and_false, Bool.not_true, Bool.not_false, cond_true, cond_false])) rfl .n) .n rfl rfl rfl)
        · refine W.pk ?_
          refine .v rfl rfl (OpL.move (.inl rfl) rfl) ?_
          refine .v rfl rfl (OpL.move (.inl rfl) rfl) ?_
          refine .v rfl rfl (OpL.binI rfl rfl rfl rfl) ?_
          refine .v rfl rfl (OpL.move (.inl rfl) rfl) ?_
          refine .x rfl (unmet rfl rfl rfl g14) ?_
          refine .x rfl (unmet rfl rfl rfl g14) ?_
          refine .x rfl (unmet rfl rfl rfl g14) ?_
          refine .v rfl rfl (O.pickF g14 rfl rfl rfl) ?_
          refine .v rfl rfl (OpL.move (.inl rfl) rfl) ?_
          refine .x rfl (unmet rfl rfl rfl rfl) ?_
          refine .v rfl rfl (O.pickF rfl rfl rfl rfl) ?_
          refine .v rfl rfl (OpL.move (.inr rfl) rfl) ?_
          refine .nil ?_
          exact toN (Gives.mkR [] (.c rfl (sbb (by simp only [g14, Bool.true_or, Bool.or_true, Bool.false_or, Bool.or_false, Bool.true_and, Bool.and_true, Bool.false_and, Bool.and_false, Bool.not_true, Bool.not_false, cond_true, cond_false])) rfl .n) .n rfl rfl rfl)
  · clear h
    rcases tf (t1 != 0) with g3 | g3
    · refine W.pk ?_
      refine .v rfl rfl (O.ldN ty36 rfl rfl rfl) ?_
      refine .call (.imm (.val (.int .i64 t1))) [] 0 (lombardref10_Basket.ok b2) rfl rfl rfl ca16 rfl rfl (cC (.agg _ _ _ _ (cC (.imm _) (cC (.imm _) (cC (.imm _) (cC (.imm _) (cC (.imm _) (cC (.imm _) (cC (.imm _) (cC (.imm _) (cC (.imm _) (cC (.imm _) .nil))))))))))) .nil) rfl rfl rfl rfl rfl ?_
      refine .v rfl rfl (OpL.binI rfl rfl rfl rfl) ?_
      refine .v rfl rfl (OpL.move (.inl rfl) rfl) ?_
      refine .x rfl (unmet rfl rfl rfl g3) ?_
      refine .x rfl (unmet rfl rfl rfl g3) ?_
      refine .x rfl (unmet rfl rfl rfl g3) ?_
      refine .v rfl rfl (O.pickT g3 rfl rfl rfl) ?_
      refine .v rfl rfl (OpL.move (.inl rfl) rfl) ?_
      refine .x rfl (unmet rfl rfl rfl rfl) ?_
      refine .x rfl (unmet rfl rfl rfl rfl) ?_
      refine .x rfl (unmet rfl rfl rfl rfl) ?_
      refine .v rfl rfl (O.pickT rfl rfl rfl rfl) ?_
      refine .nil ?_
      exact toN (Gives.mkR [] (.c rfl (.rfl _) rfl (.c rfl (.rfl _) rfl (.c rfl (.rfl _) rfl (.c rfl (sbb (by simp only [g3, Bool.true_or, Bool.or_true, Bool.false_or, Bool.or_false, Bool.true_and, Bool.and_true, Bool.false_and, Bool.and_false, Bool.not_true, Bool.not_false, cond_true, cond_false])) rfl .n)))) (.c rfl (.rfl _) rfl rfl (.c rfl (.rfl _) rfl rfl .n)) rfl rfl rfl)
    · rcases tf (decide (x1.Maturity < 0)) with g4 | g4
      · refine W.pk ?_
        refine .v rfl rfl (O.ldN ty36 rfl rfl rfl) ?_
        refine .call (.imm (.val (.int .i64 t1))) [] 0 (lombardref10_Basket.ok b2) rfl rfl rfl ca16 rfl rfl (cC (.agg _ _ _ _ (cC (.imm _) (cC (.imm _) (cC (.imm _) (cC (.imm _) (cC (.imm _) (cC (.imm _) (cC (.imm _) (cC (.imm _) (cC (.imm _) (cC (.imm _) .nil))))))))))) .nil) rfl rfl rfl rfl rfl ?_
        refine .v rfl rfl (OpL.binI rfl rfl rfl rfl) ?_
        refine .v rfl rfl (OpL.move (.inl rfl) rfl) ?_
        refine .v rfl (met rfl rfl rfl g3) (O.fld fld38_3 rfl rfl rfl) ?_
        refine .v rfl (met rfl rfl rfl g3) (O.ld ty3 rfl rfl rfl) ?_
        refine .v rfl (met rfl rfl rfl g3) (OpL.binI rfl rfl rfl rfl) ?_
        refine .v rfl rfl (O.pickF g3 rfl rfl rfl) ?_
        refine .v rfl rfl (OpL.move (.inl rfl) rfl) ?_
        refine .x rfl (unmet rfl rfl rfl g4) ?_
        refine .x rfl (unmet rfl rfl rfl g4) ?_
        refine .x rfl (unmet rfl rfl rfl g4) ?_
        refine .v rfl rfl (O.pickT g4 rfl rfl rfl) ?_
        refine .nil ?_
        exact toN (Gives.mkR [] (.c rfl (.rfl _) rfl (.c rfl (.rfl _) rfl (.c rfl (.rfl _) rfl (.c rfl (sbb (by simp only [g3, g4, Bool.true_or, Bool.or_true, Bool.false_or, Bool.or_false, Bool.true_and, Bool.and_true, Bool.false_and, Bool.and_false, Bool.not_true, Bool.not_false, cond_true, cond_false])) rfl .n)))) (.c rfl (.rfl _) rfl rfl (.c rfl (.rfl _) rfl rfl .n)) rfl rfl rfl)
      · refine W.pk ?_
        refine .v rfl rfl (O.ldN ty36 rfl rfl rfl) ?_
        refine .call (.imm (.val (.int .i64 t1))) [] 0 (lombardref10_Basket.ok b2) rfl rfl rfl ca16 rfl rfl (cC (.agg _ _ _ _ (cC (.imm _) (cC (.imm _) (cC (.imm _) (cC (.imm _) (cC (.imm _) (cC (.imm _) (cC (.imm _) (cC (.imm _) (cC (.imm _) (cC (.imm _) .nil))))))))))) .nil) rfl rfl rfl rfl rfl ?_
        refine .v rfl rfl (OpL.binI rfl rfl rfl rfl) ?_
        refine .v rfl rfl (OpL.move (.inl rfl) rfl) ?_
        refine .v rfl (met rfl rfl rfl g3) (O.fld fld38_3 rfl rfl rfl) ?_
        refine .v rfl (met rfl rfl rfl g3) (O.ld ty3 rfl rfl rfl) ?_
        refine .v rfl (met rfl rfl rfl g3) (OpL.binI rfl rfl rfl rfl) ?_
        refine .v rfl rfl (O.pickF g3 rfl rfl rfl) ?_
        refine .v rfl rfl (OpL.move (.inl rfl) rfl) ?_
        refine .v rfl (met rfl rfl rfl g4) (O.fld fld38_3 rfl rfl rfl) ?_
        refine .v rfl (met rfl rfl rfl g4) (O.ld ty3 rfl rfl rfl) ?_
        refine .v rfl (met rfl rfl rfl g4) (OpL.binI rfl rfl rfl rfl) ?_
        refine .v rfl rfl (O.pickF g4 rfl rfl rfl) ?_
        refine .nil ?_
        exact toN (Gives.mkR [] (.c rfl (.rfl _) rfl (.c rfl (.rfl _) rfl (.c rfl (.rfl _) rfl (.c rfl (sbb (by simp only [g3, g4, Bool.true_or, Bool.or_true, Bool.false_or, Bool.or_false, Bool.true_and, Bool.and_true, Bool.false_and, Bool.and_false, Bool.not_true, Bool.not_false, cond_true, cond_false])) rfl .n)))) (.c rfl (.rfl _) rfl rfl (.c rfl (.rfl _) rfl rfl .n)) rfl rfl rfl)

noncomputable def lombardlaw15_items.b0 (x0 : List lombardref15_Item) (v14 : Int) (v15 : List haircut_Item) : Option ((Int × (List haircut_Item)) ⊕ (List haircut_Item)) :=
  if (decide (v14 < (List.length x0 : Int))) = true then
    if (0 : Int) ≤ v14 ∧ v14 < (List.length x0 : Int) then
    if (0 : Int) ≤ v14 ∧ v14 < (List.length x0 : Int) then
    if (0 : Int) ≤ v14 ∧ v14 < (List.length x0 : Int) then
    if (0 : Int) ≤ v14 ∧ v14 < (List.length x0 : Int) then
    if (List.length v15 + List.length [(⟨((nth x0 v14).Lot), ((nth x0 v14).Asset), (nth x0 v14).Price, (nth x0 v14).Cut⟩ : haircut_Item)]) * 96 ≤ 140737488355328 then
    some (.inl ((IntKind.wrap .i64 (v14 + 1)), (v15 ++ [(⟨((nth x0 v14).Lot), ((nth x0 v14).Asset), (nth x0 v14).Price, (nth x0 v14).Cut⟩ : haircut_Item)])))
    else none
    else none
    else none
    else none
    else none
  else
    some (.inr v15)
noncomputable def lombardlaw15_items.r0 (x0 : List lombardref15_Item) (s : Int × (List haircut_Item)) : Option ((Int × (List haircut_Item)) ⊕ (List haircut_Item)) := lombardlaw15_items.b0 x0 s.1 s.2
noncomputable def lombardlaw15_items.f (x0 : List lombardref15_Item) : Option (List haircut_Item) :=
  (loop (lombardlaw15_items.r0 x0) (0, [])).bind fun o29 =>
  some o29
set_option maxRecDepth 100000 in
set_option maxHeartbeats 4000000 in
theorem lombardlaw15_items.ok {x0 : List lombardref15_Item} {r : List haircut_Item} (h : lombardlaw15_items.f x0 = some r) : Pm.Spec prog 19 [.imm (.row 9 (List.map lombardref15_Item.enc x0))] (.xown 48 9 (List.map haircut_Item.enc r)) [none] := by
  unfold lombardlaw15_items.f at h
  refine Pm.Spec.of_body Try.func19 rfl (by kernel_rfl) (Nat.le_of_ble_eq_true rfl) (Nat.le_of_ble_eq_true rfl) ?_
  refine W.ghost (σ' := (mkSt [(0, some (.imm (.row 9 (List.map lombardref15_Item.enc x0))))] [] 1000)) (Gives.entry (.c rfl .n) .n) ?_
  refine W.seq ?_
  refine W.pk ?_
  refine .v rfl rfl (OpL.move (.inr rfl) rfl) ?_
  refine .nil ?_
  refine W.seq ?_
  refine W.pk ?_
  refine .v rfl rfl (OpL.move (.inr rfl) rfl) ?_
  refine .nil ?_
  refine W.seq ?_
  refine W.seq ?_
  refine W.pk ?_
  refine .v rfl rfl (OpL.move (.inr rfl) rfl) ?_
  refine .nil ?_
  refine W.ghost (Gives.mintS 3 48 9 rfl) ?_
  obtain ⟨o29, b30, h⟩ := bnd1 h
  refine W.fork (mkSt [(3, some (.own 1000))] [(1000, some (.rows 48 9 (List.map haircut_Item.enc o29) false))] 1001) ?_ ?_
  · refine W.seq ?_
    refine W.pk ?_
    refine .v rfl rfl (OpL.move (.inl rfl) rfl) ?_
    refine .v rfl rfl (OpL.move (.inr rfl) rfl) ?_
    refine .nil ?_
    refine W.ret ?_
    cases h
    exact leaves (.inr rfl) rfl (.own _ _ _ _ rfl) (cN .nil) rfl rfl
  · clear h
    refine W.block ?_
    refine W.loopF (fun (s_ : Int × (List haircut_Item)) => mkSt [(0, some (.imm (.row 9 (List.map lombardref15_Item.enc x0)))), (3, some (.own 1000)), (4, some (.imm (.val (.int .i64 s_.1))))] [(1000, some (.rows 48 9 (List.map haircut_Item.enc s_.2) false))] 1001) b30 (Gives.mkR [] (.c rfl (.rfl _) rfl (.c rfl (.rfl _) rfl (.c rfl (.rfl _) rfl .n))) (.c rfl (.rfl _) rfl rfl .n) rfl rfl rfl) ?_
    rintro ⟨v14, v15⟩ s_ hr
    have h : lombardlaw15_items.b0 x0 v14 v15 = some s_ := hr
    unfold lombardlaw15_items.b0 at h
    refine W.seq ?_
    refine W.seq ?_
    refine W.pk ?_
    refine .v rfl rfl (OpL.move (.inl rfl) rfl) ?_
    refine .v rfl rfl (OpL.move (.inl rfl) rfl) ?_
    refine .v rfl rfl (O.lenR sl42 rfl rfl) ?_
    refine .v rfl rfl (OpL.binI rfl rfl rfl rfl) ?_
    refine .nil ?_
    refine W.cond rfl (fun q32 => ?_) (fun q32 => ?_)
    · have h := ifT q32 h
      refine W.skip ?_
      refine W.seq ?_
      refine W.block ?_
      obtain ⟨c33, h⟩ := chk h
      obtain ⟨c34, h⟩ := chk h
      obtain ⟨c35, h⟩ := chk h
      obtain ⟨c36, h⟩ := chk h
      obtain ⟨c37, h⟩ := chk h
      refine W.dk [[], [], [], [1, 2], [1, 2, 3], [1, 2, 3, 4], [], [], [6, 7], [6, 7, 8], [6, 7, 8, 9], [], [], [11, 12], [11, 12, 13], [11, 12, 13, 14], [], [], [16, 17], [16, 17, 18], [16, 17, 18, 19], [1, 2, 3, 4, 5, 6, 7, 8, 9, 10, 11, 12, 13, 14, 15, 16, 17, 18, 19, 20], [1, 2, 3, 4, 5, 6, 7, 8, 9, 10, 11, 12, 13, 14, 15, 16, 17, 18, 19, 20, 21], [0, 1, 2, 3, 4, 5, 6, 7, 8, 9, 10, 11, 12, 13, 14, 15, 16, 17, 18, 19, 20, 21, 22], [0, 1, 2, 3, 4, 5, 6, 7, 8, 9, 10, 11, 12, 13, 14, 15, 16, 17, 18, 19, 20, 21, 22, 23]] rfl (by kernel_rfl) ?_
      refine .v rfl rfl (OpL.move (.inl rfl) rfl) ?_
      refine .v rfl rfl (OpL.move (.inl rfl) rfl) ?_
      refine .v rfl rfl (OpL.move (.inl rfl) rfl) ?_
      refine .v rfl rfl (O.idx sl42 c33 rfl rfl rfl) ?_
      refine .v rfl rfl (O.fld fld50_0 rfl rfl rfl) ?_
      refine .v rfl rfl (O.ldN ty46 rfl rfl rfl) ?_
      refine .v rfl rfl (OpL.move (.inl rfl) rfl) ?_
      refine .v rfl rfl (OpL.move (.inl rfl) rfl) ?_
      refine .v rfl rfl (O.idx sl42 c34 rfl rfl rfl) ?_
      refine .v rfl rfl (O.fld fld50_1 rfl rfl rfl) ?_
      refine .v rfl rfl (O.ldN ty38 rfl rfl rfl) ?_
      refine .v rfl rfl (OpL.move (.inl rfl) rfl) ?_
      refine .v rfl rfl (OpL.move (.inl rfl) rfl) ?_
      refine .v rfl rfl (O.idx sl42 c35 rfl rfl rfl) ?_
      refine .v rfl rfl (O.fld fld50_2 rfl rfl rfl) ?_
      refine .v rfl rfl (O.ld ty3 rfl rfl rfl) ?_
      refine .v rfl rfl (OpL.move (.inl rfl) rfl) ?_
      refine .v rfl rfl (OpL.move (.inl rfl) rfl) ?_
      refine .v rfl rfl (O.idx sl42 c36 rfl rfl rfl) ?_
      refine .v rfl rfl (O.fld fld50_3 rfl rfl rfl) ?_
      refine .v rfl rfl (O.ld ty3 rfl rfl rfl) ?_
      refine .v rfl rfl (O.build (out := [.imm (.val (.string (tx (((nth x0 v14).Lot).ISIN)))), .imm (.val (.int .i64 (((nth x0 v14).Lot).Qty))), .imm (.val (.string (tx (((nth x0 v14).Asset).ISIN)))), .imm (.val (.int .i64 (((nth x0 v14).Asset).Issuer))), .imm (.val (.int .i64 (((nth x0 v14).Asset).Rating))), .imm (.val (.int .i64 (((nth x0 v14).Asset).Maturity))), .imm (.val (.string (tx (((nth x0 v14).Asset).Currency)))), .imm (.val (.int .i64 ((nth x0 v14).Price))), .imm (.val (.int .i64 ((nth x0 v14).Cut)))]) bl48 rfl rfl rfl rfl rfl) ?_
      refine .t rfl rfl (O.lit (enc := haircut_Item.enc) (l := [(⟨((nth x0 v14).Lot), ((nth x0 v14).Asset), (nth x0 v14).Price, (nth x0 v14).Cut⟩ : haircut_Item)]) sl43 rfl rfl rfl rfl rfl rfl rfl rfl rfl) ?_
      refine .t rfl rfl (O.appO sl43 haircut_Item.ok c37 rfl rfl rfl rfl rfl) ?_
      refine .v rfl rfl (OpL.move (.inr rfl) rfl) ?_
      refine .nil ?_
      refine ⟨by kernel_rfl, by kernel_rfl, ?_⟩
      refine W.pk ?_
      refine .v rfl rfl (OpL.move (.inl rfl) rfl) ?_
      refine .v rfl rfl (OpL.binI rfl rfl rfl rfl) ?_
      refine .v rfl rfl (OpL.move (.inr rfl) rfl) ?_
      refine .nil ?_
      cases h
      exact rdN (Gives.mkR [(1000, 1002)] (.c rfl (.rfl _) rfl (.c rfl (.rfl _) rfl (.c rfl (.rfl _) rfl .n))) (.c rfl (.rfl _) rfl rfl .n) rfl rfl rfl)
    · have h := ifF q32 h
      refine W.exit ?_
      cases h
      refine rdX fun e_ => ?_
      subst e_
      refine hit ?_
      exact toN (Gives.mkR [] (.c rfl (.rfl _) rfl .n) (.c rfl (.rfl _) rfl rfl .n) rfl rfl rfl)

noncomputable def haircut_Item_Cover.f (x0 : haircut_Item) : Option (Int) :=
  (haircut_Cover.f x0.Lot.Qty x0.Price x0.Cut).bind fun t1 =>
  if (t1.2 != 0) = true then
    some 0
  else
    some t1.1
set_option maxRecDepth 100000 in
set_option maxHeartbeats 4000000 in
theorem haircut_Item_Cover.ok {x0 : haircut_Item} {r : Int} (h : haircut_Item_Cover.f x0 = some r) : Pm.Spec prog 20 [.agg [.imm (.val (.string (tx x0.Lot.ISIN))), .imm (.val (.int .i64 x0.Lot.Qty)), .imm (.val (.string (tx x0.Asset.ISIN))), .imm (.val (.int .i64 x0.Asset.Issuer)), .imm (.val (.int .i64 x0.Asset.Rating)), .imm (.val (.int .i64 x0.Asset.Maturity)), .imm (.val (.string (tx x0.Asset.Currency))), .imm (.val (.int .i64 x0.Price)), .imm (.val (.int .i64 x0.Cut))]] (.imm (.val (.int .i64 r))) [none] := by
  unfold haircut_Item_Cover.f at h
  refine Pm.Spec.of_body Try.func20 rfl (by kernel_rfl) (Nat.le_of_ble_eq_true rfl) (Nat.le_of_ble_eq_true rfl) ?_
  refine W.ghost (σ' := (mkSt [(0, some (.agg [.imm (.val (.string (tx x0.Lot.ISIN))), .imm (.val (.int .i64 x0.Lot.Qty)), .imm (.val (.string (tx x0.Asset.ISIN))), .imm (.val (.int .i64 x0.Asset.Issuer)), .imm (.val (.int .i64 x0.Asset.Rating)), .imm (.val (.int .i64 x0.Asset.Maturity)), .imm (.val (.string (tx x0.Asset.Currency))), .imm (.val (.int .i64 x0.Price)), .imm (.val (.int .i64 x0.Cut))]))] [] 1000)) (Gives.entry (.c rfl .n) .n) ?_
  refine W.seq ?_
  refine W.pk ?_
  refine .t rfl rfl (O.box rfl rfl rfl rfl rfl) ?_
  refine .v rfl rfl (OpL.move (.inr rfl) rfl) ?_
  refine .nil ?_
  refine W.seq ?_
  obtain ⟨t1, b2, h⟩ := bnd1 h
  refine W.pk ?_
  refine .v rfl rfl (O.fld fld48_0 rfl rfl rfl) ?_
  refine .v rfl rfl (O.fld fld46_1 rfl rfl rfl) ?_
  refine .v rfl rfl (O.ld ty3 rfl rfl rfl) ?_
  refine .v rfl rfl (O.fld fld48_2 rfl rfl rfl) ?_
  refine .v rfl rfl (O.ld ty3 rfl rfl rfl) ?_
  refine .v rfl rfl (O.fld fld48_3 rfl rfl rfl) ?_
  refine .v rfl rfl (O.ld ty3 rfl rfl rfl) ?_
  refine .call (.tup [.imm (.val (.int .i64 t1.1)), .imm (.val (.int .i64 t1.2))]) [] 0 (haircut_Cover.ok b2) rfl rfl rfl ca10 rfl rfl (cC (.imm _) (cC (.imm _) (cC (.imm _) .nil))) rfl rfl rfl rfl rfl ?_
  refine .v rfl rfl (OpL.move (.inl rfl) rfl) ?_
  refine .v rfl rfl (OpL.extract rfl rfl rfl) ?_
  refine .v rfl rfl (OpL.extract rfl rfl rfl) ?_
  refine .v rfl rfl (OpL.move (.inr rfl) rfl) ?_
  refine .v rfl rfl (OpL.move (.inr rfl) rfl) ?_
  refine .nil ?_
  refine W.seq ?_
  refine W.seq ?_
  refine W.pk ?_
  refine .v rfl rfl (OpL.move (.inl rfl) rfl) ?_
  refine .v rfl rfl (OpL.binI rfl rfl rfl rfl) ?_
  refine .nil ?_
  refine W.cond rfl (fun q3 => ?_) (fun q3 => ?_)
  · have h := ifT q3 h
    refine W.seq ?_
    refine W.pk ?_
    refine .v rfl rfl (OpL.move (.inr rfl) rfl) ?_
    refine .nil ?_
    refine W.ret ?_
    cases h
    exact leaves (.inr rfl) rfl (.imm _) (cN .nil) rfl rfl
  · have h := ifF q3 h
    refine W.skip ?_
    refine W.seq ?_
    refine W.pk ?_
    refine .v rfl rfl (OpL.move (.inl rfl) rfl) ?_
    refine .v rfl rfl (OpL.move (.inr rfl) rfl) ?_
    refine .nil ?_
    refine W.ret ?_
    cases h
    exact leaves (.inr rfl) rfl (.imm _) (cN .nil) rfl rfl
end Go.Proofs.Ytdcpdnfalnelkaa
