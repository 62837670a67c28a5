/- Shows what functions of the program come to, each as a plain function: written by a program of the author's for this claim. -/
import Derived.Test.YtoongmdkndbppaaGx2
namespace Go.Proofs.Ytoongmdkndbppaa
open Go Go.Pm
set_option linter.unusedVariables false
set_option linter.unusedSimpArgs false
noncomputable def wire_Reader_Ints.b0 (t1 : Int × wire_Reader) (v15 : Int) (v16 : Bs) (v17 : Int) (v18 : Int) (v19 : List Int) : Option ((Int × Bs × Int × Int × (List Int)) ⊕ (Bs × Int × Int × (List Int))) :=
  if (decide (v15 < t1.1)) = true then
    (wire_Reader_Int.f (⟨v16, v17, v18⟩ : wire_Reader)).bind fun t33 =>
    if (List.length v19 + List.length [t33.1]) * 8 ≤ 140737488355328 then
    some (.inl ((IntKind.wrap .i64 (v15 + 1)), t33.2.s, t33.2.at', t33.2.e, (v19 ++ [t33.1])))
    else none
  else
    some (.inr (v16, v17, v18, v19))
noncomputable def wire_Reader_Ints.r0 (t1 : Int × wire_Reader) (s : Int × Bs × Int × Int × (List Int)) : Option ((Int × Bs × Int × Int × (List Int)) ⊕ (Bs × Int × Int × (List Int))) := wire_Reader_Ints.b0 t1 s.1 s.2.1 s.2.2.1 s.2.2.2.1 s.2.2.2.2
noncomputable def wire_Reader_Ints.f (x0 : wire_Reader) (x1 : Int) : Option ((List Int) × wire_Reader) :=
  (wire_Reader_Count.f x0 x1).bind fun t1 =>
  (loop (wire_Reader_Ints.r0 t1) (0, t1.2.s, t1.2.at', t1.2.e, [])).bind fun o29 =>
  if (o29.2.2.1 != 0) = true then
    some ([], (⟨o29.1, o29.2.1, o29.2.2.1⟩ : wire_Reader))
  else
    some (o29.2.2.2, (⟨o29.1, o29.2.1, o29.2.2.1⟩ : wire_Reader))
set_option maxRecDepth 100000 in
set_option maxHeartbeats 4000000 in
theorem wire_Reader_Ints.ok {x0 : wire_Reader} {x1 : Int} {r : (List Int) × wire_Reader} (h : wire_Reader_Ints.f x0 x1 = some r) : Pm.Spec prog 25 [.xbox [.imm (.val (.string (tx x0.s))), .imm (.val (.int .i64 x0.at')), .imm (.val (.int .i64 x0.e))], .imm (.val (.int .i64 x1))] (.xown 3 1 (List.map (encI .i64) r.1)) [some (.xbox [.imm (.val (.string (tx r.2.s))), .imm (.val (.int .i64 r.2.at')), .imm (.val (.int .i64 r.2.e))]), none] := by
  unfold wire_Reader_Ints.f at h
  refine Pm.Spec.of_body Try.func25 rfl (by kernel_rfl) (Nat.le_of_ble_eq_true rfl) (Nat.le_of_ble_eq_true rfl) ?_
  refine W.ghost (σ' := (mkSt [(0, some (.ptr 0 0)), (1, some (.imm (.val (.int .i64 x1))))] [(0, some (.box [.imm (.val (.string (tx x0.s))), .imm (.val (.int .i64 x0.at')), .imm (.val (.int .i64 x0.e))]))] 1000)) (Gives.entry (.c rfl (.c rfl .n)) (.c rfl .n)) ?_
  refine W.seq ?_
  refine W.pk ?_
  refine .v rfl rfl (OpL.move (.inr rfl) rfl) ?_
  refine .nil ?_
  refine W.seq ?_
  refine W.pk ?_
  refine .v rfl rfl (OpL.move (.inr rfl) rfl) ?_
  refine .nil ?_
  refine W.seq ?_
  refine W.seq ?_
  obtain ⟨t1, b2, h⟩ := bnd1 h
  refine W.pk ?_
  refine .v rfl rfl (OpL.move (.inl rfl) rfl) ?_
  refine .v rfl rfl (OpL.move (.inl rfl) rfl) ?_
  refine .call (.imm (.val (.int .i64 t1.1))) [(0, some (.box [.imm (.val (.string (tx t1.2.s))), .imm (.val (.int .i64 t1.2.at')), .imm (.val (.int .i64 t1.2.e))])), (0, none)] 0 (wire_Reader_Count.ok b2) rfl rfl rfl ca29 rfl rfl (cC (.ptr _ _ _ _ _ rfl (cC (.imm _) (cC (.imm _) (cC (.imm _) .nil)))) (cC (.imm _) .nil)) rfl rfl rfl rfl rfl ?_
  refine .v rfl rfl (OpL.move (.inl rfl) rfl) ?_
  refine .nil ?_
  refine W.ghost (Gives.mintS 5 3 1 rfl) ?_
  obtain ⟨o29, b30, h⟩ := bnd1 h
  refine W.fork (mkSt [(0, some (.ptr 0 0)), (5, some (.own 1000))] [(0, some (.box [.imm (.val (.string (tx o29.1))), .imm (.val (.int .i64 o29.2.1)), .imm (.val (.int .i64 o29.2.2.1))])), (1000, some (.rows 3 1 (List.map (encI .i64) o29.2.2.2) false))] 1001) ?_ ?_
  · refine W.seq ?_
    refine W.seq ?_
    refine W.pk ?_
    refine .v rfl rfl (OpL.move (.inl rfl) rfl) ?_
    refine .v rfl rfl (OpL.nilP rfl rfl rfl) ?_
    refine .v rfl rfl (O.fld fld63_2 rfl rfl rfl) ?_
    refine .v rfl rfl (O.ld ty38 rfl rfl rfl) ?_
    refine .v rfl rfl (OpL.binI rfl rfl rfl rfl) ?_
    refine .nil ?_
    refine W.cond rfl (fun q36 => ?_) (fun q36 => ?_)
    · have h := ifT q36 h
      refine W.seq ?_
      refine W.pk ?_
      refine .v rfl rfl (OpL.move (.inr rfl) rfl) ?_
      refine .nil ?_
      refine W.ret ?_
      cases h
      exact leaves (.inr rfl) rfl (.nilown _ _) (cS (.ptr _ _ _ _ _ rfl (cC (.imm _) (cC (.imm _) (cC (.imm _) .nil)))) (cN .nil)) rfl rfl
    · have h := ifF q36 h
      refine W.skip ?_
      refine W.seq ?_
      refine W.pk ?_
      refine .v rfl rfl (OpL.move (.inl rfl) rfl) ?_
      refine .v rfl rfl (OpL.move (.inr rfl) rfl) ?_
      refine .nil ?_
      refine W.ret ?_
      cases h
      exact leaves (.inr rfl) rfl (.own _ _ _ _ rfl) (cS (.ptr _ _ _ _ _ rfl (cC (.imm _) (cC (.imm _) (cC (.imm _) .nil)))) (cN .nil)) rfl rfl
  · clear h
    refine W.block ?_
    refine W.loopF (fun (s_ : Int × Bs × Int × Int × (List Int)) => mkSt [(0, some (.ptr 0 0)), (5, some (.own 1000)), (8, some (.imm (.val (.int .i64 t1.1)))), (9, some (.imm (.val (.int .i64 s_.1))))] [(0, some (.box [.imm (.val (.string (tx s_.2.1))), .imm (.val (.int .i64 s_.2.2.1)), .imm (.val (.int .i64 s_.2.2.2.1))])), (1000, some (.rows 3 1 (List.map (encI .i64) s_.2.2.2.2) false))] 1001) b30 (Gives.mkR [] (.c rfl (.rfl _) rfl (.c rfl (.rfl _) rfl (.c rfl (.rfl _) rfl (.c rfl (.rfl _) rfl .n)))) (.c rfl (.rfl _) rfl rfl (.c rfl (.rfl _) rfl rfl .n)) rfl rfl rfl) ?_
    rintro ⟨v15, v16, v17, v18, v19⟩ s_ hr
    have h : wire_Reader_Ints.b0 t1 v15 v16 v17 v18 v19 = some s_ := hr
    unfold wire_Reader_Ints.b0 at h
    refine W.seq ?_
    refine W.pk ?_
    refine .v rfl rfl (OpL.binI rfl rfl rfl rfl) ?_
    refine .nil ?_
    refine W.seq ?_
    refine W.cond rfl (fun q32 => ?_) (fun q32 => ?_)
    · have h := ifT q32 h
      refine W.skip ?_
      refine W.seq ?_
      refine W.block ?_
      obtain ⟨t33, b34, h⟩ := bnd1 h
      obtain ⟨c35, h⟩ := chk h
      refine W.pk ?_
      refine .v rfl rfl (OpL.move (.inl rfl) rfl) ?_
      refine .v rfl rfl (OpL.move (.inl rfl) rfl) ?_
      refine .call (.imm (.val (.int .i64 t33.1))) [(0, some (.box [.imm (.val (.string (tx t33.2.s))), .imm (.val (.int .i64 t33.2.at')), .imm (.val (.int .i64 t33.2.e))])), (0, none)] 0 (wire_Reader_Int.ok b34) rfl rfl rfl ca21 rfl rfl (cC (.ptr _ _ _ _ _ rfl (cC (.imm _) (cC (.imm _) (cC (.imm _) .nil)))) .nil) rfl rfl rfl rfl rfl ?_
      refine .t rfl rfl (O.lit (enc := (encI .i64)) (l := [t33.1]) sl26 rfl rfl rfl rfl rfl rfl rfl rfl rfl) ?_
      refine .t rfl rfl (O.appO sl26 (EncOk.int .i64) c35 rfl rfl rfl rfl rfl) ?_
      refine .v rfl rfl (OpL.move (.inr rfl) rfl) ?_
      refine .nil ?_
      refine W.pk ?_
      refine .v rfl rfl (OpL.binI rfl rfl rfl rfl) ?_
      refine .v rfl rfl (OpL.move (.inl rfl) rfl) ?_
      refine .nil ?_
      cases h
      exact rdN (Gives.mkR [(1000, 1002)] (.c rfl (.rfl _) rfl (.c rfl (.rfl _) rfl (.c rfl (.rfl _) rfl (.c rfl (.rfl _) rfl .n)))) (.c rfl (.rfl _) rfl rfl (.c rfl (.rfl _) rfl rfl .n)) rfl rfl rfl)
    · have h := ifF q32 h
      refine W.exit ?_
      cases h
      refine rdX fun e_ => ?_
      subst e_
      repeat with_reducible refine thru ?_
      refine hit ?_
      exact toN (Gives.mkR [] (.c rfl (.rfl _) rfl (.c rfl (.rfl _) rfl .n)) (.c rfl (.rfl _) rfl rfl (.c rfl (.rfl _) rfl rfl .n)) rfl rfl rfl)

noncomputable def lombardref09_Same.b0 (x0 : List Int) (x1 : List Int) (v6 : Int) : Option (Int ⊕ (Bool ⊕ Unit)) :=
  if (decide (v6 < (List.length x0 : Int))) = true then
    if (0 : Int) ≤ v6 ∧ v6 < (List.length x0 : Int) then
    if (0 : Int) ≤ v6 ∧ v6 < (List.length x1 : Int) then
    if ((nth x0 v6) != (nth x1 v6)) = true then
      some (.inr (.inl false))
    else
      some (.inl (IntKind.wrap .i64 (v6 + 1)))
    else none
    else none
  else
    some (.inr (.inr ()))
noncomputable def lombardref09_Same.r0 (x0 : List Int) (x1 : List Int) (s : Int) : Option (Int ⊕ (Bool ⊕ Unit)) := lombardref09_Same.b0 x0 x1 s
noncomputable def lombardref09_Same.f (x0 : List Int) (x1 : List Int) : Option (Bool) :=
  if ((List.length x0 : Int) != (List.length x1 : Int)) = true then
    some false
  else
    (loop (lombardref09_Same.r0 x0 x1) 0).bind fun o16 =>
    match o16 with
    | .inl r23 => some r23
    | .inr w15 =>
      some true
set_option maxRecDepth 100000 in
set_option maxHeartbeats 4000000 in
theorem lombardref09_Same.ok {x0 : List Int} {x1 : List Int} {r : Bool} (h : lombardref09_Same.f x0 x1 = some r) : Pm.Spec prog 24 [.xown 3 1 (List.map (encI .i64) x0), .imm (.row 1 (List.map (encI .i64) x1))] (.imm (.val (.bool r))) [some (.xown 3 1 (List.map (encI .i64) x0)), none] := by
  unfold lombardref09_Same.f at h
  refine Pm.Spec.of_body Try.func24 rfl (by kernel_rfl) (Nat.le_of_ble_eq_true rfl) (Nat.le_of_ble_eq_true rfl) ?_
  refine W.ghost (σ' := (mkSt [(0, some (.own 0)), (1, some (.imm (.row 1 (List.map (encI .i64) x1))))] [(0, some (.rows 3 1 (List.map (encI .i64) x0) false))] 1000)) (Gives.entry (.c rfl (.c rfl .n)) (.c rfl .n)) ?_
  refine W.seq ?_
  refine W.pk ?_
  refine .v rfl rfl (OpL.move (.inr rfl) rfl) ?_
  refine .nil ?_
  refine W.seq ?_
  refine W.seq ?_
  refine W.pk ?_
  refine .v rfl rfl (OpL.move (.inl rfl) rfl) ?_
  refine .v rfl rfl (O.lenO sl26 rfl rfl rfl) ?_
  refine .v rfl rfl (OpL.move (.inl rfl) rfl) ?_
  refine .v rfl rfl (O.lenR sl26 rfl rfl) ?_
  refine .v rfl rfl (OpL.binI rfl rfl rfl rfl) ?_
  refine .nil ?_
  refine W.cond rfl (fun q1 => ?_) (fun q1 => ?_)
  · have h := ifT q1 h
    refine W.seq ?_
    refine W.pk ?_
    refine .v rfl rfl (OpL.move (.inr rfl) rfl) ?_
    refine .nil ?_
    refine W.ret ?_
    cases h
    exact leaves (.inr rfl) rfl (.imm _) (cS (.own _ _ _ _ rfl) (cN .nil)) rfl rfl
  · have h := ifF q1 h
    refine W.skip ?_
    refine W.seq ?_
    refine W.seq ?_
    refine W.pk ?_
    refine .v rfl rfl (OpL.move (.inr rfl) rfl) ?_
    refine .nil ?_
    obtain ⟨o16, b17, z18⟩ := bnd1 h
    refine W.fork2 (out := o16) (fun (w15 : Unit) => mkSt [] [(0, some (.rows 3 1 (List.map (encI .i64) x0) false))] 1000) ?_ ?_
    · clear h
      refine W.block ?_
      refine W.loopF (fun (s_ : Int) => mkSt [(0, some (.own 0)), (1, some (.imm (.row 1 (List.map (encI .i64) x1)))), (5, some (.imm (.val (.int .i64 s_))))] [(0, some (.rows 3 1 (List.map (encI .i64) x0) false))] 1000) b17 (Gives.mkR [] (.c rfl (.rfl _) rfl (.c rfl (.rfl _) rfl (.c rfl (.rfl _) rfl .n))) (.c rfl (.rfl _) rfl rfl .n) rfl rfl rfl) ?_
      rintro v6 s_ hr
      have h : lombardref09_Same.b0 x0 x1 v6 = some s_ := hr
      unfold lombardref09_Same.b0 at h
      refine W.seq ?_
      refine W.seq ?_
      refine W.pk ?_
      refine .v rfl rfl (OpL.move (.inl rfl) rfl) ?_
      refine .v rfl rfl (OpL.move (.inl rfl) rfl) ?_
      refine .v rfl rfl (O.lenO sl26 rfl rfl rfl) ?_
      refine .v rfl rfl (OpL.binI rfl rfl rfl rfl) ?_
      refine .nil ?_
      refine W.cond rfl (fun q19 => ?_) (fun q19 => ?_)
      · have h := ifT q19 h
        refine W.skip ?_
        refine W.seq ?_
        refine W.block ?_
        refine W.seq ?_
        obtain ⟨c20, h⟩ := chk h
        obtain ⟨c21, h⟩ := chk h
        refine W.dk [[], [], [0, 1], [0, 1, 2], [], [], [4, 5], [4, 5, 6], [0, 1, 2, 3, 4, 5, 6, 7]] rfl (by kernel_rfl) ?_
        refine .v rfl rfl (OpL.move (.inl rfl) rfl) ?_
        refine .v rfl rfl (OpL.move (.inl rfl) rfl) ?_
        refine .v rfl rfl (O.idxO sl26 c20 rfl rfl rfl rfl) ?_
        refine .v rfl rfl (O.ldE ty3 c20 rfl rfl rfl rfl rfl) ?_
        refine .v rfl rfl (OpL.move (.inl rfl) rfl) ?_
        refine .v rfl rfl (OpL.move (.inl rfl) rfl) ?_
        refine .v rfl rfl (O.idx sl26 c21 rfl rfl rfl) ?_
        refine .v rfl rfl (O.ld ty3 rfl rfl rfl) ?_
        refine .v rfl rfl (OpL.binI rfl rfl rfl rfl) ?_
        refine .nil ?_
        refine ⟨by kernel_rfl, by kernel_rfl, ?_⟩
        refine W.cond rfl (fun q22 => ?_) (fun q22 => ?_)
        · have h := ifT q22 h
          refine W.seq ?_
          refine W.pk ?_
          refine .v rfl rfl (OpL.move (.inr rfl) rfl) ?_
          refine .nil ?_
          refine W.ret ?_
          cases h
          refine rdR fun e_ => ?_
          subst e_
          have h := z18
          dsimp only at h
          refine fkR ?_
          cases h
          exact leaves (.inr rfl) rfl (.imm _) (cS (.own _ _ _ _ rfl) (cN .nil)) rfl rfl
        · have h := ifF q22 h
          refine W.skip ?_
          refine W.pk ?_
          refine .v rfl rfl (OpL.move (.inl rfl) rfl) ?_
          refine .v rfl rfl (OpL.binI rfl rfl rfl rfl) ?_
          refine .v rfl rfl (OpL.move (.inr rfl) rfl) ?_
          refine .nil ?_
          cases h
          exact rdN (Gives.mkR [] (.c rfl (.rfl _) rfl (.c rfl (.rfl _) rfl (.c rfl (.rfl _) rfl .n))) (.c rfl (.rfl _) rfl rfl .n) rfl rfl rfl)
      · have h := ifF q19 h
        refine W.exit ?_
        cases h
        refine rdX fun e_ => ?_
        subst e_
        repeat with_reducible refine thru ?_
        refine hit ?_
        exact fkN (Gives.mkR [] .n (.c rfl (.rfl _) rfl rfl .n) rfl rfl rfl)
    · intro w15 e_
      subst e_
      clear h
      have h := z18
      dsimp only at h
      refine W.seq ?_
      refine W.pk ?_
      refine .v rfl rfl (OpL.move (.inr rfl) rfl) ?_
      refine .nil ?_
      refine W.ret ?_
      cases h
      exact leaves (.inr rfl) rfl (.imm _) (cS (.own _ _ _ _ rfl) (cN .nil)) rfl rfl

noncomputable def wire_Reader_End.f (x0 : wire_Reader) : Option (Bool × wire_Reader) :=
  if ((x0.e == 0) && (decide (x0.at' < (List.length x0.s : Int)))) = true then
    (wire_Reader_Fail.f x0 16).bind fun t3 =>
    some ((t3.e == 0), t3)
  else
    some ((x0.e == 0), x0)
set_option maxRecDepth 100000 in
set_option maxHeartbeats 4000000 in
theorem wire_Reader_End.ok {x0 : wire_Reader} {r : Bool × wire_Reader} (h : wire_Reader_End.f x0 = some r) : Pm.Spec prog 26 [.xbox [.imm (.val (.string (tx x0.s))), .imm (.val (.int .i64 x0.at')), .imm (.val (.int .i64 x0.e))]] (.imm (.val (.bool r.1))) [some (.xbox [.imm (.val (.string (tx r.2.s))), .imm (.val (.int .i64 r.2.at')), .imm (.val (.int .i64 r.2.e))])] := by
  unfold wire_Reader_End.f at h
  refine Pm.Spec.of_body Try.func26 rfl (by kernel_rfl) (Nat.le_of_ble_eq_true rfl) (Nat.le_of_ble_eq_true rfl) ?_
  refine W.ghost (σ' := (mkSt [(0, some (.ptr 0 0))] [(0, some (.box [.imm (.val (.string (tx x0.s))), .imm (.val (.int .i64 x0.at')), .imm (.val (.int .i64 x0.e))]))] 1000)) (Gives.entry (.c rfl .n) (.c rfl .n)) ?_
  refine W.seq ?_
  refine W.pk ?_
  refine .v rfl rfl (OpL.move (.inr rfl) rfl) ?_
  refine .nil ?_
  refine W.seq ?_
  refine W.seq ?_
  refine W.fork (mkSt [(0, some (.ptr 0 0)), (19, some (.imm (.val (.bool ((x0.e == 0) && (decide (x0.at' < (List.length x0.s : Int))))))))] [(0, some (.box [.imm (.val (.string (tx x0.s))), .imm (.val (.int .i64 x0.at')), .imm (.val (.int .i64 x0.e))]))] 1000) ?_ ?_
  · refine W.cond rfl (fun q2 => ?_) (fun q2 => ?_)
    · have h := ifT q2 h
      obtain ⟨t3, b4, h⟩ := bnd1 h
      refine W.pk ?_
      refine .v rfl rfl (OpL.move (.inl rfl) rfl) ?_
      refine .call (.tup []) [(0, some (.box [.imm (.val (.string (tx t3.s))), .imm (.val (.int .i64 t3.at')), .imm (.val (.int .i64 t3.e))])), (0, none)] 0 (wire_Reader_Fail.ok b4) rfl rfl rfl ca28 rfl rfl (cC (.ptr _ _ _ _ _ rfl (cC (.imm _) (cC (.imm _) (cC (.imm _) .nil)))) (cC (.imm _) .nil)) rfl rfl rfl rfl rfl ?_
      refine .nil ?_
      refine W.seq ?_
      refine W.pk ?_
      refine .v rfl rfl (OpL.move (.inl rfl) rfl) ?_
      refine .v rfl rfl (OpL.nilP rfl rfl rfl) ?_
      refine .v rfl rfl (O.fld fld63_2 rfl rfl rfl) ?_
      refine .v rfl rfl (O.ld ty38 rfl rfl rfl) ?_
      refine .v rfl rfl (OpL.binI rfl rfl rfl rfl) ?_
      refine .v rfl rfl (OpL.move (.inr rfl) rfl) ?_
      refine .nil ?_
      refine W.ret ?_
      cases h
      exact leaves (.inr rfl) rfl (.imm _) (cS (.ptr _ _ _ _ _ rfl (cC (.imm _) (cC (.imm _) (cC (.imm _) .nil)))) .nil) rfl rfl
    · have h := ifF q2 h
      refine W.skip ?_
      refine W.seq ?_
      refine W.pk ?_
      refine .v rfl rfl (OpL.move (.inl rfl) rfl) ?_
      refine .v rfl rfl (OpL.nilP rfl rfl rfl) ?_
      refine .v rfl rfl (O.fld fld63_2 rfl rfl rfl) ?_
      refine .v rfl rfl (O.ld ty38 rfl rfl rfl) ?_
      refine .v rfl rfl (OpL.binI rfl rfl rfl rfl) ?_
      refine .v rfl rfl (OpL.move (.inr rfl) rfl) ?_
      refine .nil ?_
      refine W.ret ?_
      cases h
      exact leaves (.inr rfl) rfl (.imm _) (cS (.ptr _ _ _ _ _ rfl (cC (.imm _) (cC (.imm _) (cC (.imm _) .nil)))) .nil) rfl rfl
  · clear h
    rcases tf (x0.e == 0) with g1 | g1
    · refine W.dk [[], [0], [0, 1], [0, 1, 2], [0, 1, 2, 3], [0, 1, 2, 3, 4], [0, 1, 2, 3, 4, 5], [0, 1, 2, 3, 4, 5, 6], [0, 1, 2, 3, 4, 5, 6, 7], [0, 1, 2, 3, 4, 5, 6, 7, 8], [0, 1, 2, 3, 4, 5], [0, 1, 2, 3, 4, 5, 10], [0, 1, 2, 3, 4, 5, 10, 11], [0, 1, 2, 3, 4, 5, 10, 11, 12], [0, 1, 2, 3, 4, 5, 10, 11, 12, 13], [0, 1, 2, 3, 4, 5, 6, 7, 8, 9, 10, 11, 12, 13, 14], [0, 1, 2, 3, 4, 5, 6, 7, 8, 9, 10, 11, 12, 13, 14, 15]] rfl (by kernel_rfl) ?_
      refine .v rfl rfl (OpL.move (.inl rfl) rfl) ?_
      refine .v rfl rfl (OpL.nilP rfl rfl rfl) ?_
      refine .v rfl rfl (O.fld fld63_2 rfl rfl rfl) ?_
      refine .v rfl rfl (O.ld ty38 rfl rfl rfl) ?_
      refine .v rfl rfl (OpL.binI rfl rfl rfl rfl) ?_
      refine .v rfl rfl (OpL.move (.inl rfl) rfl) ?_
      refine .v rfl (met rfl rfl rfl g1) (OpL.move (.inl rfl) rfl) ?_
      refine .v rfl (met rfl rfl rfl g1) (OpL.nilP rfl rfl rfl) ?_
      refine .v rfl (met rfl rfl rfl g1) (O.fld fld63_1 rfl rfl rfl) ?_
      refine .v rfl (met rfl rfl rfl g1) (O.ld ty3 rfl rfl rfl) ?_
      refine .v rfl (met rfl rfl rfl g1) (OpL.move (.inl rfl) rfl) ?_
      refine .v rfl (met rfl rfl rfl g1) (OpL.nilP rfl rfl rfl) ?_
      refine .v rfl (met rfl rfl rfl g1) (O.fld fld63_0 rfl rfl rfl) ?_
      refine .v rfl (met rfl rfl rfl g1) (O.ld ty9 rfl rfl rfl) ?_
      refine .v rfl (met rfl rfl rfl g1) (O.lenS u9 rfl rfl) ?_
      refine .v rfl (met rfl rfl rfl g1) (OpL.binI rfl rfl rfl rfl) ?_
      refine .v rfl rfl (O.pickT g1 rfl rfl rfl) ?_
      refine .nil ?_
      refine ⟨by kernel_rfl, by kernel_rfl, ?_⟩
      exact toN (Gives.mkR [] (.c rfl (.rfl _) rfl (.c rfl (sbb (by simp only [g1, Bool.true_or, Bool.or_true, Bool.false_or, Bool.or_false, Bool.true_and, Bool.and_true, Bool.false_and, Bool.and_false, Bool.not_true, Bool.not_false, cond_true, cond_false])) rfl .n)) (.c rfl (.rfl _) rfl rfl .n) rfl rfl rfl)
    · refine W.dk [[], [0], [0, 1], [0, 1, 2], [0, 1, 2, 3], [0, 1, 2, 3, 4], [0, 1, 2, 3, 4, 5], [0, 1, 2, 3, 4, 5, 6], [0, 1, 2, 3, 4, 5, 6, 7], [0, 1, 2, 3, 4, 5, 6, 7, 8], [0, 1, 2, 3, 4, 5], [0, 1, 2, 3, 4, 5, 10], [0, 1, 2, 3, 4, 5, 10, 11], [0, 1, 2, 3, 4, 5, 10, 11, 12], [0, 1, 2, 3, 4, 5, 10, 11, 12, 13], [0, 1, 2, 3, 4, 5, 6, 7, 8, 9, 10, 11, 12, 13, 14], [0, 1, 2, 3, 4, 5, 6, 7, 8, 9, 10, 11, 12, 13, 14, 15]] rfl (by kernel_rfl) ?_
      refine .v rfl rfl (OpL.move (.inl rfl) rfl) ?_
      refine .v rfl rfl (OpL.nilP rfl rfl rfl) ?_
      refine .v rfl rfl (O.fld fld63_2 rfl rfl rfl) ?_
      refine .v rfl rfl (O.ld ty38 rfl rfl rfl) ?_
      refine .v rfl rfl (OpL.binI rfl rfl rfl rfl) ?_
      refine .v rfl rfl (OpL.move (.inl rfl) rfl) ?_
      refine .x rfl (unmet rfl rfl rfl g1) ?_
      refine .x rfl (unmet rfl rfl rfl g1) ?_
      refine .x rfl (unmet rfl rfl rfl g1) ?_
      refine .x rfl (unmet rfl rfl rfl g1) ?_
      refine .x rfl (unmet rfl rfl rfl g1) ?_
      refine .x rfl (unmet rfl rfl rfl g1) ?_
      refine .x rfl (unmet rfl rfl rfl g1) ?_
      refine .x rfl (unmet rfl rfl rfl g1) ?_
      refine .x rfl (unmet rfl rfl rfl g1) ?_
      refine .x rfl (unmet rfl rfl rfl g1) ?_
      refine .v rfl rfl (O.pickF g1 rfl rfl rfl) ?_
      refine .nil ?_
      refine ⟨by kernel_rfl, by kernel_rfl, ?_⟩
      exact toN (Gives.mkR [] (.c rfl (.rfl _) rfl (.c rfl (sbb (by simp only [g1, Bool.true_or, Bool.or_true, Bool.false_or, Bool.or_false, Bool.true_and, Bool.and_true, Bool.false_and, Bool.and_false, Bool.not_true, Bool.not_false, cond_true, cond_false])) rfl .n)) (.c rfl (.rfl _) rfl rfl .n) rfl rfl rfl)
end Go.Proofs.Ytoongmdkndbppaa
