/- Shows what functions of the program come to, each as a plain function: written by a program of the author's for this claim. -/
import Derived.Test.YtoongmdkndbppaaGx0
namespace Go.Proofs.Ytoongmdkndbppaa
open Go Go.Pm
set_option linter.unusedVariables false
set_option linter.unusedSimpArgs false
noncomputable def lombardref09_Int.f (x0 : Int) : Option (Bs) :=
  (lombardref09_Fold.f x0).bind fun t1 =>
  (lombardref09_Uint.f t1).bind fun t3 =>
  some t3
set_option maxRecDepth 100000 in
set_option maxHeartbeats 4000000 in
theorem lombardref09_Int.ok {x0 : Int} {r : Bs} (h : lombardref09_Int.f x0 = some r) : Pm.Spec prog 10 [.imm (.val (.int .i64 x0))] (.imm (.val (.string (tx r)))) [none] := by
  unfold lombardref09_Int.f at h
  refine Pm.Spec.of_body Try.func10 rfl (by kernel_rfl) (Nat.le_of_ble_eq_true rfl) (Nat.le_of_ble_eq_true rfl) ?_
  refine W.ghost (σ' := (mkSt [(0, some (.imm (.val (.int .i64 x0))))] [] 1000)) (Gives.entry (.c rfl .n) .n) ?_
  refine W.seq ?_
  refine W.pk ?_
  refine .v rfl rfl (OpL.move (.inr rfl) rfl) ?_
  refine .nil ?_
  refine W.seq ?_
  obtain ⟨t1, b2, h⟩ := bnd1 h
  obtain ⟨t3, b4, h⟩ := bnd1 h
  refine W.pk ?_
  refine .v rfl rfl (OpL.move (.inl rfl) rfl) ?_
  refine .call (.imm (.val (.int .u64 t1))) [] 0 (lombardref09_Fold.ok b2) rfl rfl rfl ca30 rfl rfl (cC (.imm _) .nil) rfl rfl rfl rfl rfl ?_
  refine .call (.imm (.val (.string (tx t3)))) [] 0 (lombardref09_Uint.ok b4) rfl rfl rfl ca9 rfl rfl (cC (.imm _) .nil) rfl rfl rfl rfl rfl ?_
  refine .v rfl rfl (OpL.move (.inr rfl) rfl) ?_
  refine .nil ?_
  refine W.ret ?_
  cases h
  exact leaves (.inr rfl) rfl (.imm _) (cN .nil) rfl rfl

noncomputable def lombardref09_Text.f (x0 : Bs) : Option (Bs) :=
  (lombardref09_Uint.f (IntKind.wrap .u64 (List.length x0 : Int))).bind fun t1 =>
  if (t1.length : Int) + x0.length ≤ 9223372036854775807 then
  some (t1 ++ x0)
  else none
set_option maxRecDepth 100000 in
set_option maxHeartbeats 4000000 in
theorem lombardref09_Text.ok {x0 : Bs} {r : Bs} (h : lombardref09_Text.f x0 = some r) : Pm.Spec prog 11 [.imm (.val (.string (tx x0)))] (.imm (.val (.string (tx r)))) [none] := by
  unfold lombardref09_Text.f at h
  refine Pm.Spec.of_body Try.func11 rfl (by kernel_rfl) (Nat.le_of_ble_eq_true rfl) (Nat.le_of_ble_eq_true rfl) ?_
  refine W.ghost (σ' := (mkSt [(0, some (.imm (.val (.string (tx x0)))))] [] 1000)) (Gives.entry (.c rfl .n) .n) ?_
  refine W.seq ?_
  refine W.pk ?_
  refine .v rfl rfl (OpL.move (.inr rfl) rfl) ?_
  refine .nil ?_
  refine W.seq ?_
  obtain ⟨t1, b2, h⟩ := bnd1 h
  obtain ⟨c3, h⟩ := chk h
  refine W.pk ?_
  refine .v rfl rfl (OpL.move (.inl rfl) rfl) ?_
  refine .v rfl rfl (O.lenS u9 rfl rfl) ?_
  refine .v rfl rfl (O.conv h3 u25 rfl rfl) ?_
  refine .call (.imm (.val (.string (tx t1)))) [] 0 (lombardref09_Uint.ok b2) rfl rfl rfl ca9 rfl rfl (cC (.imm _) .nil) rfl rfl rfl rfl rfl ?_
  refine .v rfl rfl (OpL.move (.inl rfl) rfl) ?_
  refine .v rfl rfl (O.catS c3 rfl rfl rfl) ?_
  refine .v rfl rfl (OpL.move (.inr rfl) rfl) ?_
  refine .nil ?_
  refine W.ret ?_
  cases h
  exact leaves (.inr rfl) rfl (.imm _) (cN .nil) rfl rfl

noncomputable def lombardref09_Bool.f (x0 : Bool) : Option (Bs) :=
  if x0 = true then
    some [1]
  else
    some [0]
set_option maxRecDepth 100000 in
set_option maxHeartbeats 4000000 in
theorem lombardref09_Bool.ok {x0 : Bool} {r : Bs} (h : lombardref09_Bool.f x0 = some r) : Pm.Spec prog 12 [.imm (.val (.bool x0))] (.imm (.val (.string (tx r)))) [none] := by
  unfold lombardref09_Bool.f at h
  refine Pm.Spec.of_body Try.func12 rfl (by kernel_rfl) (Nat.le_of_ble_eq_true rfl) (Nat.le_of_ble_eq_true rfl) ?_
  refine W.ghost (σ' := (mkSt [(0, some (.imm (.val (.bool x0))))] [] 1000)) (Gives.entry (.c rfl .n) .n) ?_
  refine W.seq ?_
  refine W.pk ?_
  refine .v rfl rfl (OpL.move (.inr rfl) rfl) ?_
  refine .nil ?_
  refine W.seq ?_
  refine W.seq ?_
  refine W.pk ?_
  refine .v rfl rfl (OpL.move (.inl rfl) rfl) ?_
  refine .nil ?_
  refine W.cond rfl (fun q1 => ?_) (fun q1 => ?_)
  · have h := ifT q1 h
    refine W.seq ?_
    refine W.pk ?_
    refine .v rfl rfl (OpL.move (.inr rfl) rfl) ?_
    refine .nil ?_
    refine W.ret ?_
    cases h
    exact leaves (.inr rfl) rfl (.imm _) (cN .nil) rfl rfl
  · have h := ifF q1 h
    refine W.skip ?_
    refine W.seq ?_
    refine W.pk ?_
    refine .v rfl rfl (OpL.move (.inr rfl) rfl) ?_
    refine .nil ?_
    refine W.ret ?_
    cases h
    exact leaves (.inr rfl) rfl (.imm _) (cN .nil) rfl rfl

noncomputable def lombardref09_Ints.b0 (x0 : List Int) (v8 : Bs) (v9 : Int) : Option ((Bs × Int) ⊕ Bs) :=
  if (decide (v9 < (List.length x0 : Int))) = true then
    if (0 : Int) ≤ v9 ∧ v9 < (List.length x0 : Int) then
    (lombardref09_Int.f (nth x0 v9)).bind fun t26 =>
    if (v8.length : Int) + t26.length ≤ 9223372036854775807 then
    some (.inl ((v8 ++ t26), (IntKind.wrap .i64 (v9 + 1))))
    else none
    else none
  else
    some (.inr v8)
noncomputable def lombardref09_Ints.r0 (x0 : List Int) (s : Bs × Int) : Option ((Bs × Int) ⊕ Bs) := lombardref09_Ints.b0 x0 s.1 s.2
noncomputable def lombardref09_Ints.f (x0 : List Int) : Option (Bs) :=
  (lombardref09_Uint.f (IntKind.wrap .u64 (List.length x0 : Int))).bind fun t1 =>
  (loop (lombardref09_Ints.r0 x0) (t1, 0)).bind fun o21 =>
  some o21
set_option maxRecDepth 100000 in
set_option maxHeartbeats 4000000 in
theorem lombardref09_Ints.ok {x0 : List Int} {r : Bs} (h : lombardref09_Ints.f x0 = some r) : Pm.Spec prog 13 [.imm (.row 1 (List.map (encI .i64) x0))] (.imm (.val (.string (tx r)))) [none] := by
  unfold lombardref09_Ints.f at h
  refine Pm.Spec.of_body Try.func13 rfl (by kernel_rfl) (Nat.le_of_ble_eq_true rfl) (Nat.le_of_ble_eq_true rfl) ?_
  refine W.ghost (σ' := (mkSt [(0, some (.imm (.row 1 (List.map (encI .i64) x0))))] [] 1000)) (Gives.entry (.c rfl .n) .n) ?_
  refine W.seq ?_
  refine W.pk ?_
  refine .v rfl rfl (OpL.move (.inr rfl) rfl) ?_
  refine .nil ?_
  refine W.seq ?_
  obtain ⟨t1, b2, h⟩ := bnd1 h
  refine W.pk ?_
  refine .v rfl rfl (OpL.move (.inl rfl) rfl) ?_
  refine .v rfl rfl (O.lenR sl26 rfl rfl) ?_
  refine .v rfl rfl (O.conv h3 u25 rfl rfl) ?_
  refine .call (.imm (.val (.string (tx t1)))) [] 0 (lombardref09_Uint.ok b2) rfl rfl rfl ca9 rfl rfl (cC (.imm _) .nil) rfl rfl rfl rfl rfl ?_
  refine .v rfl rfl (OpL.move (.inr rfl) rfl) ?_
  refine .nil ?_
  refine W.seq ?_
  refine W.seq ?_
  refine W.pk ?_
  refine .v rfl rfl (OpL.move (.inr rfl) rfl) ?_
  refine .nil ?_
  obtain ⟨o21, b22, h⟩ := bnd1 h
  refine W.fork (mkSt [(3, some (.imm (.val (.string (tx o21)))))] [] 1000) ?_ ?_
  · refine W.seq ?_
    refine W.pk ?_
    refine .v rfl rfl (OpL.move (.inl rfl) rfl) ?_
    refine .v rfl rfl (OpL.move (.inr rfl) rfl) ?_
    refine .nil ?_
    refine W.ret ?_
    cases h
    exact leaves (.inr rfl) rfl (.imm _) (cN .nil) rfl rfl
  · clear h
    refine W.block ?_
    refine W.loopF (fun (s_ : Bs × Int) => mkSt [(0, some (.imm (.row 1 (List.map (encI .i64) x0)))), (3, some (.imm (.val (.string (tx s_.1))))), (4, some (.imm (.val (.int .i64 s_.2))))] [] 1000) b22 (Gives.mkR [] (.c rfl (.rfl _) rfl (.c rfl (.rfl _) rfl (.c rfl (.rfl _) rfl .n))) .n rfl rfl rfl) ?_
    rintro ⟨v8, v9⟩ s_ hr
    have h : lombardref09_Ints.b0 x0 v8 v9 = some s_ := hr
    unfold lombardref09_Ints.b0 at h
    refine W.seq ?_
    refine W.seq ?_
    refine W.pk ?_
    refine .v rfl rfl (OpL.move (.inl rfl) rfl) ?_
    refine .v rfl rfl (OpL.move (.inl rfl) rfl) ?_
    refine .v rfl rfl (O.lenR sl26 rfl rfl) ?_
    refine .v rfl rfl (OpL.binI rfl rfl rfl rfl) ?_
    refine .nil ?_
    refine W.cond rfl (fun q24 => ?_) (fun q24 => ?_)
    · have h := ifT q24 h
      refine W.skip ?_
      refine W.seq ?_
      refine W.block ?_
      obtain ⟨c25, h⟩ := chk h
      obtain ⟨t26, b27, h⟩ := bnd1 h
      obtain ⟨c28, h⟩ := chk h
      refine W.pk ?_
      refine .v rfl rfl (OpL.move (.inl rfl) rfl) ?_
      refine .v rfl rfl (OpL.move (.inl rfl) rfl) ?_
      refine .v rfl rfl (OpL.move (.inl rfl) rfl) ?_
      refine .v rfl rfl (O.idx sl26 c25 rfl rfl rfl) ?_
      refine .v rfl rfl (O.ld ty3 rfl rfl rfl) ?_
      refine .call (.imm (.val (.string (tx t26)))) [] 0 (lombardref09_Int.ok b27) rfl rfl rfl ca10 rfl rfl (cC (.imm _) .nil) rfl rfl rfl rfl rfl ?_
      refine .v rfl rfl (O.catS c28 rfl rfl rfl) ?_
      refine .v rfl rfl (OpL.move (.inr rfl) rfl) ?_
      refine .nil ?_
      refine W.pk ?_
      refine .v rfl rfl (OpL.move (.inl rfl) rfl) ?_
      refine .v rfl rfl (OpL.binI rfl rfl rfl rfl) ?_
      refine .v rfl rfl (OpL.move (.inr rfl) rfl) ?_
      refine .nil ?_
      cases h
      exact rdN (Gives.mkR [] (.c rfl (.rfl _) rfl (.c rfl (.rfl _) rfl (.c rfl (.rfl _) rfl .n))) .n rfl rfl rfl)
    · have h := ifF q24 h
      refine W.exit ?_
      cases h
      refine rdX fun e_ => ?_
      subst e_
      repeat with_reducible refine thru ?_
      refine hit ?_
      exact toN (Gives.mkR [] (.c rfl (.rfl _) rfl .n) .n rfl rfl rfl)

set_option maxRecDepth 100000 in
set_option maxHeartbeats 4000000 in
theorem lombardlaw09_written_v2.ok {x0 : List lombardlaw09_Item} {r : Bs} (h : lombardlaw09_written.f x0 = some r) : Pm.Spec prog 14 [.imm (.row 6 (List.map lombardlaw09_Item.enc x0))] (.imm (.val (.string (tx r)))) [none] := by
  unfold lombardlaw09_written.f at h
  refine Pm.Spec.of_body Try.func14 rfl (by kernel_rfl) (Nat.le_of_ble_eq_true rfl) (Nat.le_of_ble_eq_true rfl) ?_
  refine W.ghost (σ' := (mkSt [(0, some (.imm (.row 6 (List.map lombardlaw09_Item.enc x0))))] [] 1000)) (Gives.entry (.c rfl .n) .n) ?_
  refine W.seq ?_
  refine W.pk ?_
  refine .v rfl rfl (OpL.move (.inr rfl) rfl) ?_
  refine .nil ?_
  refine W.seq ?_
  refine W.pk ?_
  refine .t rfl rfl (O.alloc z43 rfl) ?_
  refine .nil ?_
  refine W.seq ?_
  refine W.seq ?_
  refine W.pk ?_
  refine .v rfl rfl (OpL.move (.inr rfl) rfl) ?_
  refine .nil ?_
  refine W.ghost (Gives.mintB 1000 0 5 1 rfl rfl) ?_
  obtain ⟨o69, b70, h⟩ := bnd1 h
  refine W.fork (mkSt [(3, some (.ptr 1000 0))] [(1000, some (.box [.own 1001])), (1001, some (.rows 5 1 (List.map (encI .u8) o69) false))] 1002) ?_ ?_
  · refine W.seq ?_
    obtain ⟨t88, b89, h⟩ := bnd1 h
    refine W.pk ?_
    refine .call (.imm (.val (.string (tx t88)))) [(1000, some (.box [.own 1002])), (1002, some (.rows 5 1 (List.map (encI .u8) ((⟨o69⟩ : wire_Writer).b)) false)), (1000, none), (1001, none)] 1 (wire_Writer_Bytes.ok b89) rfl rfl rfl ca20 rfl rfl (cC (.ptr _ _ _ _ _ rfl (cC (.own _ _ _ _ rfl) .nil)) .nil) rfl rfl rfl rfl rfl ?_
    refine .v rfl rfl (OpL.move (.inr rfl) rfl) ?_
    refine .nil ?_
    refine W.ret ?_
    cases h
    exact leaves (.inr rfl) rfl (.imm _) (cN .nil) rfl rfl
  · clear h
    refine W.block ?_
    refine W.loopF (fun (s_ : Int × (List Int)) => mkSt [(0, some (.imm (.row 6 (List.map lombardlaw09_Item.enc x0)))), (3, some (.ptr 1000 0)), (4, some (.imm (.val (.int .i64 s_.1))))] [(1000, some (.box [.own 1001])), (1001, some (.rows 5 1 (List.map (encI .u8) s_.2) false))] 1002) b70 (Gives.mkR [] (.c rfl (.rfl _) rfl (.c rfl (.rfl _) rfl (.c rfl (.rfl _) rfl .n))) (.c rfl (.rfl _) rfl rfl (.c rfl (.rfl _) rfl rfl .n)) rfl rfl rfl) ?_
    rintro ⟨v34, v35⟩ s_ hr
    have h : lombardlaw09_written.b0 x0 v34 v35 = some s_ := hr
    unfold lombardlaw09_written.b0 at h
    refine W.seq ?_
    refine W.seq ?_
    refine W.pk ?_
    refine .v rfl rfl (OpL.move (.inl rfl) rfl) ?_
    refine .v rfl rfl (OpL.move (.inl rfl) rfl) ?_
    refine .v rfl rfl (O.lenR sl22 rfl rfl) ?_
    refine .v rfl rfl (OpL.binI rfl rfl rfl rfl) ?_
    refine .nil ?_
    refine W.cond rfl (fun q72 => ?_) (fun q72 => ?_)
    · have h := ifT q72 h
      refine W.skip ?_
      refine W.seq ?_
      refine W.block ?_
      refine W.seq ?_
      obtain ⟨c73, h⟩ := chk h
      refine W.pk ?_
      refine .v rfl rfl (OpL.move (.inl rfl) rfl) ?_
      refine .v rfl rfl (OpL.move (.inl rfl) rfl) ?_
      refine .v rfl rfl (O.idx sl22 c73 rfl rfl rfl) ?_
      refine .v rfl rfl (O.ldN ty28 rfl rfl rfl) ?_
      refine .t rfl rfl (O.alloc z28 rfl) ?_
      refine .s rfl rfl (O.st ty28 rfl rfl rfl rfl rfl rfl rfl rfl rfl rfl (all' := [.imm (.val (.int .i64 ((nth x0 v34).Kind))), .imm (.val (.int .u64 ((nth x0 v34).U))), .imm (.val (.int .i64 ((nth x0 v34).N))), .imm (.val (.string (tx ((nth x0 v34).Text)))), .imm (.val (.bool ((nth x0 v34).OK))), .imm (.row 1 (List.map (encI .i64) ((nth x0 v34).L)))]) rfl) ?_
      refine .nil ?_
      refine W.seq ?_
      refine W.pk ?_
      refine .v rfl rfl (O.fld fld28_0 rfl rfl rfl) ?_
      refine .v rfl rfl (O.ld ty3 rfl rfl rfl) ?_
      refine .nil ?_
      refine W.block ?_
      refine W.seq ?_
      refine W.pk ?_
      refine .v rfl rfl (OpL.binI rfl rfl rfl rfl) ?_
      refine .v rfl rfl (OpL.move (.inr rfl) rfl) ?_
      refine .nil ?_
      refine W.cond rfl (fun q74 => ?_) (fun q74 => ?_)
      · have h := ifT q74 h
        obtain ⟨t75, b76, h⟩ := bnd1 h
        refine W.pk ?_
        refine .v rfl rfl (O.fld fld28_1 rfl rfl rfl) ?_
        refine .v rfl rfl (O.ld ty25 rfl rfl rfl) ?_
        refine .call (.tup []) [(1000, some (.box [.own 1003])), (1003, some (.rows 5 1 (List.map (encI .u8) t75.b) false)), (1000, none), (1001, none)] 1 (wire_Writer_Uint.ok b76) rfl rfl rfl ca19 rfl rfl (cC (.ptr _ _ _ _ _ rfl (cC (.own _ _ _ _ rfl) .nil)) (cC (.imm _) .nil)) rfl rfl rfl rfl rfl ?_
        refine .nil ?_
        refine W.pk ?_
        refine .v rfl rfl (OpL.move (.inl rfl) rfl) ?_
        refine .v rfl rfl (OpL.binI rfl rfl rfl rfl) ?_
        refine .v rfl rfl (OpL.move (.inr rfl) rfl) ?_
        refine .nil ?_
        cases h
        exact rdN (Gives.mkR [(1001, 1003)] (.c rfl (.rfl _) rfl (.c rfl (.rfl _) rfl (.c rfl (.rfl _) rfl .n))) (.c rfl (.rfl _) rfl rfl (.c rfl (.rfl _) rfl rfl .n)) rfl rfl rfl)
      · have h := ifF q74 h
        refine W.seq ?_
        refine W.pk ?_
        refine .v rfl rfl (OpL.binI rfl rfl rfl rfl) ?_
        refine .v rfl rfl (OpL.move (.inr rfl) rfl) ?_
        refine .nil ?_
        refine W.cond rfl (fun q77 => ?_) (fun q77 => ?_)
        · have h := ifT q77 h
          obtain ⟨t78, b79, h⟩ := bnd1 h
          refine W.pk ?_
          refine .v rfl rfl (O.fld fld28_2 rfl rfl rfl) ?_
          refine .v rfl rfl (O.ld ty3 rfl rfl rfl) ?_
          refine .call (.tup []) [(1000, some (.box [.own 1003])), (1003, some (.rows 5 1 (List.map (encI .u8) t78.b) false)), (1000, none), (1001, none)] 1 (wire_Writer_Int.ok b79) rfl rfl rfl ca31 rfl rfl (cC (.ptr _ _ _ _ _ rfl (cC (.own _ _ _ _ rfl) .nil)) (cC (.imm _) .nil)) rfl rfl rfl rfl rfl ?_
          refine .nil ?_
          refine W.pk ?_
          refine .v rfl rfl (OpL.move (.inl rfl) rfl) ?_
          refine .v rfl rfl (OpL.binI rfl rfl rfl rfl) ?_
          refine .v rfl rfl (OpL.move (.inr rfl) rfl) ?_
          refine .nil ?_
          cases h
          exact rdN (Gives.mkR [(1001, 1003)] (.c rfl (.rfl _) rfl (.c rfl (.rfl _) rfl (.c rfl (.rfl _) rfl .n))) (.c rfl (.rfl _) rfl rfl (.c rfl (.rfl _) rfl rfl .n)) rfl rfl rfl)
        · have h := ifF q77 h
          refine W.seq ?_
          refine W.pk ?_
          refine .v rfl rfl (OpL.binI rfl rfl rfl rfl) ?_
          refine .v rfl rfl (OpL.move (.inr rfl) rfl) ?_
          refine .nil ?_
          refine W.cond rfl (fun q80 => ?_) (fun q80 => ?_)
          · have h := ifT q80 h
            obtain ⟨t81, b82, h⟩ := bnd1 h
            refine W.pk ?_
            refine .v rfl rfl (O.fld fld28_3 rfl rfl rfl) ?_
            refine .v rfl rfl (O.ld ty9 rfl rfl rfl) ?_
            refine .call (.tup []) [(1000, some (.box [.own 1003])), (1003, some (.rows 5 1 (List.map (encI .u8) t81.b) false)), (1000, none), (1001, none)] 1 (wire_Writer_Text.ok b82) rfl rfl rfl ca32 rfl rfl (cC (.ptr _ _ _ _ _ rfl (cC (.own _ _ _ _ rfl) .nil)) (cC (.imm _) .nil)) rfl rfl rfl rfl rfl ?_
            refine .nil ?_
            refine W.pk ?_
            refine .v rfl rfl (OpL.move (.inl rfl) rfl) ?_
            refine .v rfl rfl (OpL.binI rfl rfl rfl rfl) ?_
            refine .v rfl rfl (OpL.move (.inr rfl) rfl) ?_
            refine .nil ?_
            cases h
            exact rdN (Gives.mkR [(1001, 1003)] (.c rfl (.rfl _) rfl (.c rfl (.rfl _) rfl (.c rfl (.rfl _) rfl .n))) (.c rfl (.rfl _) rfl rfl (.c rfl (.rfl _) rfl rfl .n)) rfl rfl rfl)
          · have h := ifF q80 h
            refine W.seq ?_
            refine W.pk ?_
            refine .v rfl rfl (OpL.binI rfl rfl rfl rfl) ?_
            refine .v rfl rfl (OpL.move (.inr rfl) rfl) ?_
            refine .nil ?_
            refine W.cond rfl (fun q83 => ?_) (fun q83 => ?_)
            · have h := ifT q83 h
              obtain ⟨t84, b85, h⟩ := bnd1 h
              refine W.pk ?_
              refine .v rfl rfl (O.fld fld28_4 rfl rfl rfl) ?_
              refine .v rfl rfl (O.ld ty4 rfl rfl rfl) ?_
              refine .call (.tup []) [(1000, some (.box [.own 1003])), (1003, some (.rows 5 1 (List.map (encI .u8) t84.b) false)), (1000, none), (1001, none)] 1 (wire_Writer_Bool.ok b85) rfl rfl rfl ca33 rfl rfl (cC (.ptr _ _ _ _ _ rfl (cC (.own _ _ _ _ rfl) .nil)) (cC (.imm _) .nil)) rfl rfl rfl rfl rfl ?_
              refine .nil ?_
              refine W.pk ?_
              refine .v rfl rfl (OpL.move (.inl rfl) rfl) ?_
              refine .v rfl rfl (OpL.binI rfl rfl rfl rfl) ?_
              refine .v rfl rfl (OpL.move (.inr rfl) rfl) ?_
              refine .nil ?_
              cases h
              exact rdN (Gives.mkR [(1001, 1003)] (.c rfl (.rfl _) rfl (.c rfl (.rfl _) rfl (.c rfl (.rfl _) rfl .n))) (.c rfl (.rfl _) rfl rfl (.c rfl (.rfl _) rfl rfl .n)) rfl rfl rfl)
            · have h := ifF q83 h
              obtain ⟨t86, b87, h⟩ := bnd1 h
              refine W.pk ?_
              refine .v rfl rfl (O.fld fld28_5 rfl rfl rfl) ?_
              refine .v rfl rfl (O.ld ty26 rfl rfl rfl) ?_
              refine .call (.tup []) [(1000, some (.box [.own 1003])), (1003, some (.rows 5 1 (List.map (encI .u8) t86.b) false)), (1000, none), (1001, none)] 1 (wire_Writer_Ints.ok b87) rfl rfl rfl ca34 rfl rfl (cC (.ptr _ _ _ _ _ rfl (cC (.own _ _ _ _ rfl) .nil)) (cC (.imm _) .nil)) rfl rfl rfl rfl rfl ?_
              refine .nil ?_
              refine W.pk ?_
              refine .v rfl rfl (OpL.move (.inl rfl) rfl) ?_
              refine .v rfl rfl (OpL.binI rfl rfl rfl rfl) ?_
              refine .v rfl rfl (OpL.move (.inr rfl) rfl) ?_
              refine .nil ?_
              cases h
              exact rdN (Gives.mkR [(1001, 1003)] (.c rfl (.rfl _) rfl (.c rfl (.rfl _) rfl (.c rfl (.rfl _) rfl .n))) (.c rfl (.rfl _) rfl rfl (.c rfl (.rfl _) rfl rfl .n)) rfl rfl rfl)
    · have h := ifF q72 h
      refine W.exit ?_
      cases h
      refine rdX fun e_ => ?_
      subst e_
      repeat with_reducible refine thru ?_
      refine hit ?_
      exact toN (Gives.mkR [] (.c rfl (.rfl _) rfl .n) (.c rfl (.rfl _) rfl rfl (.c rfl (.rfl _) rfl rfl .n)) rfl rfl rfl)

noncomputable def lombardlaw09_WireWrites.b0 (x0 : List lombardlaw09_Item) (v27 : Bs) (v28 : Int) : Option ((Bs × Int) ⊕ Bs) :=
  if (decide (v28 < (List.length x0 : Int))) = true then
    if (0 : Int) ≤ v28 ∧ v28 < (List.length x0 : Int) then
    if (((nth x0 v28).Kind) == 0) = true then
      (lombardref09_Uint.f ((nth x0 v28).U)).bind fun t78 =>
      if (v27.length : Int) + t78.length ≤ 9223372036854775807 then
      some (.inl ((v27 ++ t78), (IntKind.wrap .i64 (v28 + 1))))
      else none
    else
      if (((nth x0 v28).Kind) == 1) = true then
        (lombardref09_Int.f ((nth x0 v28).N)).bind fun t82 =>
        if (v27.length : Int) + t82.length ≤ 9223372036854775807 then
        some (.inl ((v27 ++ t82), (IntKind.wrap .i64 (v28 + 1))))
        else none
      else
        if (((nth x0 v28).Kind) == 2) = true then
          (lombardref09_Text.f ((nth x0 v28).Text)).bind fun t86 =>
          if (v27.length : Int) + t86.length ≤ 9223372036854775807 then
          some (.inl ((v27 ++ t86), (IntKind.wrap .i64 (v28 + 1))))
          else none
        else
          if (((nth x0 v28).Kind) == 3) = true then
            (lombardref09_Bool.f ((nth x0 v28).OK)).bind fun t90 =>
            if (v27.length : Int) + t90.length ≤ 9223372036854775807 then
            some (.inl ((v27 ++ t90), (IntKind.wrap .i64 (v28 + 1))))
            else none
          else
            (lombardref09_Ints.f ((nth x0 v28).L)).bind fun t93 =>
            if (v27.length : Int) + t93.length ≤ 9223372036854775807 then
            some (.inl ((v27 ++ t93), (IntKind.wrap .i64 (v28 + 1))))
            else none
    else none
  else
    some (.inr v27)
noncomputable def lombardlaw09_WireWrites.r0 (x0 : List lombardlaw09_Item) (s : Bs × Int) : Option ((Bs × Int) ⊕ Bs) := lombardlaw09_WireWrites.b0 x0 s.1 s.2
noncomputable def lombardlaw09_WireWrites.f (x0 : List lombardlaw09_Item) : Option (Bool) :=
  (lombardlaw09_small.f x0).bind fun t1 =>
  if (!t1) = true then
    (lombardlaw09_awake.f).bind fun t4 =>
    some t4
  else
    (loop (lombardlaw09_WireWrites.r0 x0) ([], 0)).bind fun o72 =>
    (lombardlaw09_written.f x0).bind fun t96 =>
    (if (t96 == o72) = true then lombardlaw09_awake.f else some default).bind fun t98 =>
    some ((t96 == o72) && t98)
set_option maxRecDepth 100000 in
set_option maxHeartbeats 4000000 in
theorem lombardlaw09_WireWrites.ok {x0 : List lombardlaw09_Item} {r : Bool} (h : lombardlaw09_WireWrites.f x0 = some r) : Pm.Spec prog 3 [.imm (.row 6 (List.map lombardlaw09_Item.enc x0))] (.imm (.val (.bool r))) [none] := by
  unfold lombardlaw09_WireWrites.f at h
  refine Pm.Spec.of_body Try.func3 rfl (by kernel_rfl) (Nat.le_of_ble_eq_true rfl) (Nat.le_of_ble_eq_true rfl) ?_
  refine W.ghost (σ' := (mkSt [(0, some (.imm (.row 6 (List.map lombardlaw09_Item.enc x0))))] [] 1000)) (Gives.entry (.c rfl .n) .n) ?_
  refine W.seq ?_
  refine W.pk ?_
  refine .v rfl rfl (OpL.move (.inr rfl) rfl) ?_
  refine .nil ?_
  refine W.seq ?_
  refine W.seq ?_
  obtain ⟨t1, b2, h⟩ := bnd1 h
  refine W.pk ?_
  refine .v rfl rfl (OpL.move (.inl rfl) rfl) ?_
  refine .call (.imm (.val (.bool t1))) [] 0 (lombardlaw09_small.ok b2) rfl rfl rfl ca7 rfl rfl (cC (.imm _) .nil) rfl rfl rfl rfl rfl ?_
  refine .v rfl rfl (OpL.unV rfl rfl rfl) ?_
  refine .nil ?_
  refine W.cond rfl (fun q3 => ?_) (fun q3 => ?_)
  · have h := ifT q3 h
    refine W.seq ?_
    obtain ⟨t4, b5, h⟩ := bnd1 h
    refine W.pk ?_
    refine .call (.imm (.val (.bool t4))) [] 0 (lombardlaw09_awake.ok b5) rfl rfl rfl ca8 rfl rfl .nil rfl rfl rfl rfl rfl ?_
    refine .v rfl rfl (OpL.move (.inr rfl) rfl) ?_
    refine .nil ?_
    refine W.ret ?_
    cases h
    exact leaves (.inr rfl) rfl (.imm _) (cN .nil) rfl rfl
  · have h := ifF q3 h
    refine W.skip ?_
    refine W.seq ?_
    refine W.pk ?_
    refine .v rfl rfl (OpL.move (.inr rfl) rfl) ?_
    refine .nil ?_
    refine W.seq ?_
    refine W.seq ?_
    refine W.pk ?_
    refine .v rfl rfl (OpL.move (.inr rfl) rfl) ?_
    refine .nil ?_
    obtain ⟨o72, b73, h⟩ := bnd1 h
    refine W.fork (mkSt [(0, some (.imm (.row 6 (List.map lombardlaw09_Item.enc x0)))), (3, some (.imm (.val (.string (tx o72)))))] [] 1000) ?_ ?_
    · refine W.seq ?_
      obtain ⟨t96, b97, h⟩ := bnd1 h
      obtain ⟨t98, b99, h⟩ := bnd1 h
      refine W.fork (mkSt [(2, some (.imm (.val (.bool ((t96 == o72) && t98)))))] [] 1000) ?_ ?_
      · refine W.ret ?_
        cases h
        exact leaves (.inr rfl) rfl (.imm _) (cN .nil) rfl rfl
      · clear h
        rcases tf (t96 == o72) with g100 | g100
        · refine W.pk ?_
          refine .v rfl rfl (OpL.move (.inl rfl) rfl) ?_
          refine .call (.imm (.val (.string (tx t96)))) [] 0 (lombardlaw09_written_v2.ok b97) rfl rfl rfl ca14 rfl rfl (cC (.imm _) .nil) rfl rfl rfl rfl rfl ?_
          refine .v rfl rfl (OpL.move (.inl rfl) rfl) ?_
          refine .v rfl rfl (O.cmpS rfl rfl rfl rfl) ?_
          refine .v rfl rfl (OpL.move (.inl rfl) rfl) ?_
          refine .call (.imm (.val (.bool t98))) [] 0 (lombardlaw09_awake.ok ((if_pos (by simp only [g100, Bool.true_or, Bool.or_true, Bool.false_or, Bool.or_false, Bool.true_and, Bool.and_true, Bool.false_and, Bool.and_false, Bool.not_true, Bool.not_false, cond_true, cond_false])).symm.trans b99)) rfl (met rfl rfl rfl g100) rfl ca8 rfl rfl .nil rfl rfl rfl rfl rfl ?_
          refine .v rfl rfl (O.pickT g100 rfl rfl rfl) ?_
          refine .v rfl rfl (OpL.move (.inr rfl) rfl) ?_
          refine .nil ?_
          exact toN (Gives.mkR [] (.c rfl (sbb (by simp only [g100, Bool.true_or, Bool.or_true, Bool.false_or, Bool.or_false, Bool.true_and, Bool.and_true, Bool.false_and, Bool.and_false, Bool.not_true, Bool.not_false, cond_true, cond_false])) rfl .n) .n rfl rfl rfl)
        · refine W.pk ?_
          refine .v rfl rfl (OpL.move (.inl rfl) rfl) ?_
          refine .call (.imm (.val (.string (tx t96)))) [] 0 (lombardlaw09_written_v2.ok b97) rfl rfl rfl ca14 rfl rfl (cC (.imm _) .nil) rfl rfl rfl rfl rfl ?_
          refine .v rfl rfl (OpL.move (.inl rfl) rfl) ?_
          refine .v rfl rfl (O.cmpS rfl rfl rfl rfl) ?_
          refine .v rfl rfl (OpL.move (.inl rfl) rfl) ?_
          refine .x rfl (unmet rfl rfl rfl g100) ?_
          refine .v rfl rfl (O.pickF g100 rfl rfl rfl) ?_
          refine .v rfl rfl (OpL.move (.inr rfl) rfl) ?_
          refine .nil ?_
          exact toN (Gives.mkR [] (.c rfl (sbb (by simp only [g100, Bool.true_or, Bool.or_true, Bool.false_or, Bool.or_false, Bool.true_and, Bool.and_true, Bool.false_and, Bool.and_false, Bool.not_true, Bool.not_false, cond_true, cond_false])) rfl .n) .n rfl rfl rfl)
    · clear h
      refine W.block ?_
      refine W.loopF (fun (s_ : Bs × Int) => mkSt [(0, some (.imm (.row 6 (List.map lombardlaw09_Item.enc x0)))), (3, some (.imm (.val (.string (tx s_.1))))), (4, some (.imm (.val (.int .i64 s_.2))))] [] 1000) b73 (Gives.mkR [] (.c rfl (.rfl _) rfl (.c rfl (.rfl _) rfl (.c rfl (.rfl _) rfl .n))) .n rfl rfl rfl) ?_
      rintro ⟨v27, v28⟩ s_ hr
      have h : lombardlaw09_WireWrites.b0 x0 v27 v28 = some s_ := hr
      unfold lombardlaw09_WireWrites.b0 at h
      refine W.seq ?_
      refine W.seq ?_
      refine W.pk ?_
      refine .v rfl rfl (OpL.move (.inl rfl) rfl) ?_
      refine .v rfl rfl (OpL.move (.inl rfl) rfl) ?_
      refine .v rfl rfl (O.lenR sl22 rfl rfl) ?_
      refine .v rfl rfl (OpL.binI rfl rfl rfl rfl) ?_
      refine .nil ?_
      refine W.cond rfl (fun q75 => ?_) (fun q75 => ?_)
      · have h := ifT q75 h
        refine W.skip ?_
        refine W.seq ?_
        refine W.block ?_
        refine W.seq ?_
        obtain ⟨c76, h⟩ := chk h
        refine W.pk ?_
        refine .v rfl rfl (OpL.move (.inl rfl) rfl) ?_
        refine .v rfl rfl (OpL.move (.inl rfl) rfl) ?_
        refine .v rfl rfl (O.idx sl22 c76 rfl rfl rfl) ?_
        refine .v rfl rfl (O.ldN ty28 rfl rfl rfl) ?_
        refine .t rfl rfl (O.alloc z28 rfl) ?_
        refine .s rfl rfl (O.st ty28 rfl rfl rfl rfl rfl rfl rfl rfl rfl rfl (all' := [.imm (.val (.int .i64 ((nth x0 v28).Kind))), .imm (.val (.int .u64 ((nth x0 v28).U))), .imm (.val (.int .i64 ((nth x0 v28).N))), .imm (.val (.string (tx ((nth x0 v28).Text)))), .imm (.val (.bool ((nth x0 v28).OK))), .imm (.row 1 (List.map (encI .i64) ((nth x0 v28).L)))]) rfl) ?_
        refine .nil ?_
        refine W.seq ?_
        refine W.pk ?_
        refine .v rfl rfl (O.fld fld28_0 rfl rfl rfl) ?_
        refine .v rfl rfl (O.ld ty3 rfl rfl rfl) ?_
        refine .v rfl rfl (OpL.binI rfl rfl rfl rfl) ?_
        refine .nil ?_
        refine W.cond rfl (fun q77 => ?_) (fun q77 => ?_)
        · have h := ifT q77 h
          obtain ⟨t78, b79, h⟩ := bnd1 h
          obtain ⟨c80, h⟩ := chk h
          refine W.pk ?_
          refine .v rfl rfl (OpL.move (.inl rfl) rfl) ?_
          refine .v rfl rfl (O.fld fld28_1 rfl rfl rfl) ?_
          refine .v rfl rfl (O.ld ty25 rfl rfl rfl) ?_
          refine .call (.imm (.val (.string (tx t78)))) [] 0 (lombardref09_Uint.ok b79) rfl rfl rfl ca9 rfl rfl (cC (.imm _) .nil) rfl rfl rfl rfl rfl ?_
          refine .v rfl rfl (O.catS c80 rfl rfl rfl) ?_
          refine .v rfl rfl (OpL.move (.inr rfl) rfl) ?_
          refine .nil ?_
          refine W.pk ?_
          refine .v rfl rfl (OpL.move (.inl rfl) rfl) ?_
          refine .v rfl rfl (OpL.binI rfl rfl rfl rfl) ?_
          refine .v rfl rfl (OpL.move (.inr rfl) rfl) ?_
          refine .nil ?_
          cases h
          exact rdN (Gives.mkR [] (.c rfl (.rfl _) rfl (.c rfl (.rfl _) rfl (.c rfl (.rfl _) rfl .n))) .n rfl rfl rfl)
        · have h := ifF q77 h
          refine W.seq ?_
          refine W.pk ?_
          refine .v rfl rfl (O.fld fld28_0 rfl rfl rfl) ?_
          refine .v rfl rfl (O.ld ty3 rfl rfl rfl) ?_
          refine .v rfl rfl (OpL.binI rfl rfl rfl rfl) ?_
          refine .nil ?_
          refine W.cond rfl (fun q81 => ?_) (fun q81 => ?_)
          · have h := ifT q81 h
            obtain ⟨t82, b83, h⟩ := bnd1 h
            obtain ⟨c84, h⟩ := chk h
            refine W.pk ?_
            refine .v rfl rfl (OpL.move (.inl rfl) rfl) ?_
            refine .v rfl rfl (O.fld fld28_2 rfl rfl rfl) ?_
            refine .v rfl rfl (O.ld ty3 rfl rfl rfl) ?_
            refine .call (.imm (.val (.string (tx t82)))) [] 0 (lombardref09_Int.ok b83) rfl rfl rfl ca10 rfl rfl (cC (.imm _) .nil) rfl rfl rfl rfl rfl ?_
            refine .v rfl rfl (O.catS c84 rfl rfl rfl) ?_
            refine .v rfl rfl (OpL.move (.inr rfl) rfl) ?_
            refine .nil ?_
            refine W.pk ?_
            refine .v rfl rfl (OpL.move (.inl rfl) rfl) ?_
            refine .v rfl rfl (OpL.binI rfl rfl rfl rfl) ?_
            refine .v rfl rfl (OpL.move (.inr rfl) rfl) ?_
            refine .nil ?_
            cases h
            exact rdN (Gives.mkR [] (.c rfl (.rfl _) rfl (.c rfl (.rfl _) rfl (.c rfl (.rfl _) rfl .n))) .n rfl rfl rfl)
          · have h := ifF q81 h
            refine W.seq ?_
            refine W.pk ?_
            refine .v rfl rfl (O.fld fld28_0 rfl rfl rfl) ?_
            refine .v rfl rfl (O.ld ty3 rfl rfl rfl) ?_
            refine .v rfl rfl (OpL.binI rfl rfl rfl rfl) ?_
            refine .nil ?_
            refine W.cond rfl (fun q85 => ?_) (fun q85 => ?_)
            · have h := ifT q85 h
              obtain ⟨t86, b87, h⟩ := bnd1 h
              obtain ⟨c88, h⟩ := chk h
              refine W.pk ?_
              refine .v rfl rfl (OpL.move (.inl rfl) rfl) ?_
              refine .v rfl rfl (O.fld fld28_3 rfl rfl rfl) ?_
              refine .v rfl rfl (O.ld ty9 rfl rfl rfl) ?_
              refine .call (.imm (.val (.string (tx t86)))) [] 0 (lombardref09_Text.ok b87) rfl rfl rfl ca11 rfl rfl (cC (.imm _) .nil) rfl rfl rfl rfl rfl ?_
              refine .v rfl rfl (O.catS c88 rfl rfl rfl) ?_
              refine .v rfl rfl (OpL.move (.inr rfl) rfl) ?_
              refine .nil ?_
              refine W.pk ?_
              refine .v rfl rfl (OpL.move (.inl rfl) rfl) ?_
              refine .v rfl rfl (OpL.binI rfl rfl rfl rfl) ?_
              refine .v rfl rfl (OpL.move (.inr rfl) rfl) ?_
              refine .nil ?_
              cases h
              exact rdN (Gives.mkR [] (.c rfl (.rfl _) rfl (.c rfl (.rfl _) rfl (.c rfl (.rfl _) rfl .n))) .n rfl rfl rfl)
            · have h := ifF q85 h
              refine W.seq ?_
              refine W.pk ?_
              refine .v rfl rfl (O.fld fld28_0 rfl rfl rfl) ?_
              refine .v rfl rfl (O.ld ty3 rfl rfl rfl) ?_
              refine .v rfl rfl (OpL.binI rfl rfl rfl rfl) ?_
              refine .nil ?_
              refine W.cond rfl (fun q89 => ?_) (fun q89 => ?_)
              · have h := ifT q89 h
                obtain ⟨t90, b91, h⟩ := bnd1 h
                obtain ⟨c92, h⟩ := chk h
                refine W.pk ?_
                refine .v rfl rfl (OpL.move (.inl rfl) rfl) ?_
                refine .v rfl rfl (O.fld fld28_4 rfl rfl rfl) ?_
                refine .v rfl rfl (O.ld ty4 rfl rfl rfl) ?_
                refine .call (.imm (.val (.string (tx t90)))) [] 0 (lombardref09_Bool.ok b91) rfl rfl rfl ca12 rfl rfl (cC (.imm _) .nil) rfl rfl rfl rfl rfl ?_
                refine .v rfl rfl (O.catS c92 rfl rfl rfl) ?_
                refine .v rfl rfl (OpL.move (.inr rfl) rfl) ?_
                refine .nil ?_
                refine W.pk ?_
                refine .v rfl rfl (OpL.move (.inl rfl) rfl) ?_
                refine .v rfl rfl (OpL.binI rfl rfl rfl rfl) ?_
                refine .v rfl rfl (OpL.move (.inr rfl) rfl) ?_
                refine .nil ?_
                cases h
                exact rdN (Gives.mkR [] (.c rfl (.rfl _) rfl (.c rfl (.rfl _) rfl (.c rfl (.rfl _) rfl .n))) .n rfl rfl rfl)
              · have h := ifF q89 h
                obtain ⟨t93, b94, h⟩ := bnd1 h
                obtain ⟨c95, h⟩ := chk h
                refine W.pk ?_
                refine .v rfl rfl (OpL.move (.inl rfl) rfl) ?_
                refine .v rfl rfl (O.fld fld28_5 rfl rfl rfl) ?_
                refine .v rfl rfl (O.ld ty26 rfl rfl rfl) ?_
                refine .call (.imm (.val (.string (tx t93)))) [] 0 (lombardref09_Ints.ok b94) rfl rfl rfl ca13 rfl rfl (cC (.imm _) .nil) rfl rfl rfl rfl rfl ?_
                refine .v rfl rfl (O.catS c95 rfl rfl rfl) ?_
                refine .v rfl rfl (OpL.move (.inr rfl) rfl) ?_
                refine .nil ?_
                refine W.pk ?_
                refine .v rfl rfl (OpL.move (.inl rfl) rfl) ?_
                refine .v rfl rfl (OpL.binI rfl rfl rfl rfl) ?_
                refine .v rfl rfl (OpL.move (.inr rfl) rfl) ?_
                refine .nil ?_
                cases h
                exact rdN (Gives.mkR [] (.c rfl (.rfl _) rfl (.c rfl (.rfl _) rfl (.c rfl (.rfl _) rfl .n))) .n rfl rfl rfl)
      · have h := ifF q75 h
        refine W.exit ?_
        cases h
        refine rdX fun e_ => ?_
        subst e_
        repeat with_reducible refine thru ?_
        refine hit ?_
        exact toN (Gives.mkR [] (.c rfl (.rfl _) rfl (.c rfl (.rfl _) rfl .n)) .n rfl rfl rfl)

noncomputable def wire_NewReader.f (x0 : Bs) : Option (wire_Reader) :=
  some (⟨x0, 0, 0⟩ : wire_Reader)
set_option maxRecDepth 100000 in
set_option maxHeartbeats 4000000 in
theorem wire_NewReader.ok {x0 : Bs} {r : wire_Reader} (h : wire_NewReader.f x0 = some r) : Pm.Spec prog 15 [.imm (.val (.string (tx x0)))] (.xbox [.imm (.val (.string (tx r.s))), .imm (.val (.int .i64 r.at')), .imm (.val (.int .i64 r.e))]) [none] := by
  unfold wire_NewReader.f at h
  refine Pm.Spec.of_body Try.func15 rfl (by kernel_rfl) (Nat.le_of_ble_eq_true rfl) (Nat.le_of_ble_eq_true rfl) ?_
  refine W.ghost (σ' := (mkSt [(0, some (.imm (.val (.string (tx x0)))))] [] 1000)) (Gives.entry (.c rfl .n) .n) ?_
  refine W.seq ?_
  refine W.pk ?_
  refine .v rfl rfl (OpL.move (.inr rfl) rfl) ?_
  refine .nil ?_
  refine W.seq ?_
  refine W.pk ?_
  refine .v rfl rfl (OpL.move (.inl rfl) rfl) ?_
  refine .v rfl rfl (O.build (out := [.imm (.val (.string (tx x0))), .imm (.val (.int .i64 0)), .imm (.val (.int .i64 0))]) bl63 rfl rfl rfl rfl rfl) ?_
  refine .t rfl rfl (O.box rfl rfl rfl rfl rfl) ?_
  refine .v rfl rfl (OpL.move (.inr rfl) rfl) ?_
  refine .nil ?_
  refine W.ret ?_
  cases h
  exact leaves (.inr rfl) rfl (.ptr _ _ _ _ _ rfl (cC (.imm _) (cC (.imm _) (cC (.imm _) .nil)))) (cN .nil) rfl rfl

noncomputable def wire_Reader_Fail.f (x0 : wire_Reader) (x1 : Int) : Option (wire_Reader) :=
  if (x0.e == 0) = true then
    some (⟨x0.s, x0.at', x1⟩ : wire_Reader)
  else
    some x0
set_option maxRecDepth 100000 in
set_option maxHeartbeats 4000000 in
theorem wire_Reader_Fail.ok {x0 : wire_Reader} {x1 : Int} {r : wire_Reader} (h : wire_Reader_Fail.f x0 x1 = some r) : Pm.Spec prog 28 [.xbox [.imm (.val (.string (tx x0.s))), .imm (.val (.int .i64 x0.at')), .imm (.val (.int .i64 x0.e))], .imm (.val (.int .i64 x1))] (.tup []) [some (.xbox [.imm (.val (.string (tx r.s))), .imm (.val (.int .i64 r.at')), .imm (.val (.int .i64 r.e))]), none] := by
  unfold wire_Reader_Fail.f at h
  refine Pm.Spec.of_body Try.func28 rfl (by kernel_rfl) (Nat.le_of_ble_eq_true rfl) (Nat.le_of_ble_eq_true rfl) ?_
  refine W.ghost (σ' := (mkSt [(0, some (.ptr 0 0)), (1, some (.imm (.val (.int .i64 x1))))] [(0, some (.box [.imm (.val (.string (tx x0.s))), .imm (.val (.int .i64 x0.at')), .imm (.val (.int .i64 x0.e))]))] 1000)) (Gives.entry (.c rfl (.c rfl .n)) (.c rfl .n)) ?_
  refine W.seq ?_
  refine W.pk ?_
  refine .v rfl rfl (OpL.move (.inl rfl) rfl) ?_
  refine .v rfl rfl (OpL.nilP rfl rfl rfl) ?_
  refine .v rfl rfl (O.fld fld63_2 rfl rfl rfl) ?_
  refine .v rfl rfl (O.ld ty38 rfl rfl rfl) ?_
  refine .v rfl rfl (OpL.binI rfl rfl rfl rfl) ?_
  refine .nil ?_
  refine W.cond rfl (fun q1 => ?_) (fun q1 => ?_)
  · have h := ifT q1 h
    refine W.pk ?_
    refine .v rfl rfl (OpL.move (.inl rfl) rfl) ?_
    refine .v rfl rfl (OpL.move (.inl rfl) rfl) ?_
    refine .v rfl rfl (OpL.nilP rfl rfl rfl) ?_
    refine .v rfl rfl (O.fld fld63_2 rfl rfl rfl) ?_
    refine .s rfl rfl (O.st ty38 rfl rfl rfl rfl rfl rfl rfl rfl rfl rfl (all' := [.imm (.val (.string (tx x0.s))), .imm (.val (.int .i64 x0.at')), .imm (.val (.int .i64 x1))]) rfl) ?_
    refine .nil ?_
    cases h
    exact leaves (.inl rfl) rfl (.tup _ _ _ _ .nil) (cS (.ptr _ _ _ _ _ rfl (cC (.imm _) (cC (.imm _) (cC (.imm _) .nil)))) (cN .nil)) rfl rfl
  · have h := ifF q1 h
    refine W.skip ?_
    cases h
    exact leaves (.inl rfl) rfl (.tup _ _ _ _ .nil) (cS (.ptr _ _ _ _ _ rfl (cC (.imm _) (cC (.imm _) (cC (.imm _) .nil)))) (cN .nil)) rfl rfl

noncomputable def wire_Reader_Uint.b0 (x0 : wire_Reader) (v12 : Int) (v13 : Int) : Option ((Int × Int) ⊕ ((Int × wire_Reader) ⊕ (Bs × Int × Int))) :=
  if (x0.e == 0) = true then
    if (decide ((IntKind.wrap .i64 (x0.at' + v13)) ≥ (List.length x0.s : Int))) = true then
      (wire_Reader_Fail.f x0 14).bind fun t45 =>
      some (.inr (.inr (t45.s, t45.at', t45.e)))
    else
      if (0 : Int) ≤ (IntKind.wrap .i64 (x0.at' + v13)) ∧ (IntKind.wrap .i64 (x0.at' + v13)) < (List.length x0.s : Int) then
      if (((v13 == 0) && ((byte x0.s (IntKind.wrap .i64 (x0.at' + v13))) == 128)) || ((shrI .u64 v12 57) != 0)) = true then
        (wire_Reader_Fail.f x0 15).bind fun t51 =>
        some (.inr (.inr (t51.s, t51.at', t51.e)))
      else
        if (decide ((byte x0.s (IntKind.wrap .i64 (x0.at' + v13))) < 128)) = true then
          some (.inr (.inl ((bits .or .u64 (shlI .u64 v12 7) (IntKind.wrap .u64 (bits .and .u8 (byte x0.s (IntKind.wrap .i64 (x0.at' + v13))) 127))), (⟨x0.s, (IntKind.wrap .i64 (x0.at' + (IntKind.wrap .i64 (v13 + 1)))), x0.e⟩ : wire_Reader))))
        else
          some (.inl ((bits .or .u64 (shlI .u64 v12 7) (IntKind.wrap .u64 (bits .and .u8 (byte x0.s (IntKind.wrap .i64 (x0.at' + v13))) 127))), (IntKind.wrap .i64 (v13 + 1))))
      else none
  else
    some (.inr (.inr (x0.s, x0.at', x0.e)))
noncomputable def wire_Reader_Uint.r0 (x0 : wire_Reader) (s : Int × Int) : Option ((Int × Int) ⊕ ((Int × wire_Reader) ⊕ (Bs × Int × Int))) := wire_Reader_Uint.b0 x0 s.1 s.2
noncomputable def wire_Reader_Uint.f (x0 : wire_Reader) : Option (Int × wire_Reader) :=
  (loop (wire_Reader_Uint.r0 x0) (0, 0)).bind fun o40 =>
  match o40 with
  | .inl r54 => some r54
  | .inr w39 =>
    some (0, (⟨w39.1, w39.2.1, w39.2.2⟩ : wire_Reader))
set_option maxRecDepth 100000 in
set_option maxHeartbeats 4000000 in
theorem wire_Reader_Uint.ok {x0 : wire_Reader} {r : Int × wire_Reader} (h : wire_Reader_Uint.f x0 = some r) : Pm.Spec prog 16 [.xbox [.imm (.val (.string (tx x0.s))), .imm (.val (.int .i64 x0.at')), .imm (.val (.int .i64 x0.e))]] (.imm (.val (.int .u64 r.1))) [some (.xbox [.imm (.val (.string (tx r.2.s))), .imm (.val (.int .i64 r.2.at')), .imm (.val (.int .i64 r.2.e))])] := by
  unfold wire_Reader_Uint.f at h
  refine Pm.Spec.of_body Try.func16 rfl (by kernel_rfl) (Nat.le_of_ble_eq_true rfl) (Nat.le_of_ble_eq_true rfl) ?_
  refine W.ghost (σ' := (mkSt [(0, some (.ptr 0 0))] [(0, some (.box [.imm (.val (.string (tx x0.s))), .imm (.val (.int .i64 x0.at')), .imm (.val (.int .i64 x0.e))]))] 1000)) (Gives.entry (.c rfl .n) (.c rfl .n)) ?_
  refine W.seq ?_
  refine W.pk ?_
  refine .v rfl rfl (OpL.move (.inr rfl) rfl) ?_
  refine .nil ?_
  refine W.seq ?_
  refine W.pk ?_
  refine .v rfl rfl (OpL.move (.inr rfl) rfl) ?_
  refine .nil ?_
  refine W.seq ?_
  refine W.seq ?_
  refine W.pk ?_
  refine .v rfl rfl (OpL.move (.inr rfl) rfl) ?_
  refine .nil ?_
  obtain ⟨o40, b41, z42⟩ := bnd1 h
  refine W.fork2 (out := o40) (fun (w39 : Bs × Int × Int) => mkSt [] [(0, some (.box [.imm (.val (.string (tx w39.1))), .imm (.val (.int .i64 w39.2.1)), .imm (.val (.int .i64 w39.2.2))]))] 1000) ?_ ?_
  · clear h
    refine W.block ?_
    refine W.loopF (fun (s_ : Int × Int) => mkSt [(0, some (.ptr 0 0)), (3, some (.imm (.val (.int .u64 s_.1)))), (4, some (.imm (.val (.int .i64 s_.2))))] [(0, some (.box [.imm (.val (.string (tx x0.s))), .imm (.val (.int .i64 x0.at')), .imm (.val (.int .i64 x0.e))]))] 1000) b41 (Gives.mkR [] (.c rfl (.rfl _) rfl (.c rfl (.rfl _) rfl (.c rfl (.rfl _) rfl .n))) (.c rfl (.rfl _) rfl rfl .n) rfl rfl rfl) ?_
    rintro ⟨v12, v13⟩ s_ hr
    have h : wire_Reader_Uint.b0 x0 v12 v13 = some s_ := hr
    unfold wire_Reader_Uint.b0 at h
    refine W.seq ?_
    refine W.seq ?_
    refine W.pk ?_
    refine .v rfl rfl (OpL.move (.inl rfl) rfl) ?_
    refine .v rfl rfl (OpL.nilP rfl rfl rfl) ?_
    refine .v rfl rfl (O.fld fld63_2 rfl rfl rfl) ?_
    refine .v rfl rfl (O.ld ty38 rfl rfl rfl) ?_
    refine .v rfl rfl (OpL.binI rfl rfl rfl rfl) ?_
    refine .nil ?_
    refine W.cond rfl (fun q43 => ?_) (fun q43 => ?_)
    · have h := ifT q43 h
      refine W.skip ?_
      refine W.seq ?_
      refine W.block ?_
      refine W.seq ?_
      refine W.seq ?_
      refine W.dk [[], [0], [0, 1], [0, 1, 2], [], [0, 1, 2, 3, 4], [], [6], [6, 7], [6, 7, 8], [6, 7, 8, 9], [0, 1, 2, 3, 4, 5, 6, 7, 8, 9, 10]] rfl (by kernel_rfl) ?_
      refine .v rfl rfl (OpL.move (.inl rfl) rfl) ?_
      refine .v rfl rfl (OpL.nilP rfl rfl rfl) ?_
      refine .v rfl rfl (O.fld fld63_1 rfl rfl rfl) ?_
      refine .v rfl rfl (O.ld ty3 rfl rfl rfl) ?_
      refine .v rfl rfl (OpL.move (.inl rfl) rfl) ?_
      refine .v rfl rfl (OpL.binI rfl rfl rfl rfl) ?_
      refine .v rfl rfl (OpL.move (.inl rfl) rfl) ?_
      refine .v rfl rfl (OpL.nilP rfl rfl rfl) ?_
      refine .v rfl rfl (O.fld fld63_0 rfl rfl rfl) ?_
      refine .v rfl rfl (O.ld ty9 rfl rfl rfl) ?_
      refine .v rfl rfl (O.lenS u9 rfl rfl) ?_
      refine .v rfl rfl (OpL.binI rfl rfl rfl rfl) ?_
      refine .nil ?_
      refine ⟨by kernel_rfl, by kernel_rfl, ?_⟩
      refine W.cond rfl (fun q44 => ?_) (fun q44 => ?_)
      · have h := ifT q44 h
        refine W.seq ?_
        obtain ⟨t45, b46, h⟩ := bnd1 h
        refine W.pk ?_
        refine .v rfl rfl (OpL.move (.inl rfl) rfl) ?_
        refine .call (.tup []) [(0, some (.box [.imm (.val (.string (tx t45.s))), .imm (.val (.int .i64 t45.at')), .imm (.val (.int .i64 t45.e))])), (0, none)] 0 (wire_Reader_Fail.ok b46) rfl rfl rfl ca28 rfl rfl (cC (.ptr _ _ _ _ _ rfl (cC (.imm _) (cC (.imm _) (cC (.imm _) .nil)))) (cC (.imm _) .nil)) rfl rfl rfl rfl rfl ?_
        refine .nil ?_
        refine W.exit ?_
        repeat with_reducible refine thru ?_
        refine miss rfl ?_
        cases h
        refine rdX fun e_ => ?_
        subst e_
        repeat with_reducible refine thru ?_
        refine hit ?_
        exact fkN (Gives.mkR [] .n (.c rfl (.rfl _) rfl rfl .n) rfl rfl rfl)
      · have h := ifF q44 h
        refine W.skip ?_
        refine W.seq ?_
        obtain ⟨c47, h⟩ := chk h
        refine W.dk [[], [0], [0, 1], [0, 1, 2], [], [4], [4, 5], [4, 5, 6], [], [4, 5, 6, 7, 8], [0, 1, 2, 3, 4, 5, 6, 7, 8, 9], [0, 1, 2, 3, 4, 5, 6, 7, 8, 9, 10]] rfl (by kernel_rfl) ?_
        refine .v rfl rfl (OpL.move (.inl rfl) rfl) ?_
        refine .v rfl rfl (OpL.nilP rfl rfl rfl) ?_
        refine .v rfl rfl (O.fld fld63_0 rfl rfl rfl) ?_
        refine .v rfl rfl (O.ld ty9 rfl rfl rfl) ?_
        refine .v rfl rfl (OpL.move (.inl rfl) rfl) ?_
        refine .v rfl rfl (OpL.nilP rfl rfl rfl) ?_
        refine .v rfl rfl (O.fld fld63_1 rfl rfl rfl) ?_
        refine .v rfl rfl (O.ld ty3 rfl rfl rfl) ?_
        refine .v rfl rfl (OpL.move (.inl rfl) rfl) ?_
        refine .v rfl rfl (OpL.binI rfl rfl rfl rfl) ?_
        refine .v rfl rfl (O.idxS u9 c47 rfl rfl rfl) ?_
        refine .v rfl rfl (OpL.move (.inr rfl) rfl) ?_
        refine .nil ?_
        refine ⟨by kernel_rfl, by kernel_rfl, ?_⟩
        refine W.seq ?_
        refine W.seq ?_
        refine W.fork (mkSt [(0, some (.ptr 0 0)), (3, some (.imm (.val (.int .u64 v12)))), (4, some (.imm (.val (.int .i64 v13)))), (5, some (.imm (.val (.int .u8 (byte x0.s (IntKind.wrap .i64 (x0.at' + v13))))))), (48, some (.imm (.val (.bool (((v13 == 0) && ((byte x0.s (IntKind.wrap .i64 (x0.at' + v13))) == 128)) || ((shrI .u64 v12 57) != 0))))))] [(0, some (.box [.imm (.val (.string (tx x0.s))), .imm (.val (.int .i64 x0.at')), .imm (.val (.int .i64 x0.e))]))] 1000) ?_ ?_
        · refine W.cond rfl (fun q50 => ?_) (fun q50 => ?_)
          · have h := ifT q50 h
            refine W.seq ?_
            obtain ⟨t51, b52, h⟩ := bnd1 h
            refine W.pk ?_
            refine .v rfl rfl (OpL.move (.inl rfl) rfl) ?_
            refine .call (.tup []) [(0, some (.box [.imm (.val (.string (tx t51.s))), .imm (.val (.int .i64 t51.at')), .imm (.val (.int .i64 t51.e))])), (0, none)] 0 (wire_Reader_Fail.ok b52) rfl rfl rfl ca28 rfl rfl (cC (.ptr _ _ _ _ _ rfl (cC (.imm _) (cC (.imm _) (cC (.imm _) .nil)))) (cC (.imm _) .nil)) rfl rfl rfl rfl rfl ?_
            refine .nil ?_
            refine W.exit ?_
            repeat with_reducible refine thru ?_
            refine miss rfl ?_
            cases h
            refine rdX fun e_ => ?_
            subst e_
            repeat with_reducible refine thru ?_
            refine hit ?_
            exact fkN (Gives.mkR [] .n (.c rfl (.rfl _) rfl rfl .n) rfl rfl rfl)
          · have h := ifF q50 h
            refine W.skip ?_
            refine W.seq ?_
            refine W.pk ?_
            refine .v rfl rfl (OpL.move (.inl rfl) rfl) ?_
            refine .v rfl rfl (O.shl (by decide) rfl rfl rfl) ?_
            refine .v rfl rfl (OpL.move (.inl rfl) rfl) ?_
            refine .v rfl rfl (OpL.binI rfl rfl rfl rfl) ?_
            refine .v rfl rfl (O.conv h5 u25 rfl rfl) ?_
            refine .v rfl rfl (OpL.binI rfl rfl rfl rfl) ?_
            refine .v rfl rfl (OpL.move (.inr rfl) rfl) ?_
            refine .nil ?_
            refine W.seq ?_
            refine W.pk ?_
            refine .v rfl rfl (OpL.move (.inl rfl) rfl) ?_
            refine .v rfl rfl (OpL.binI rfl rfl rfl rfl) ?_
            refine .nil ?_
            refine W.cond rfl (fun q53 => ?_) (fun q53 => ?_)
            · have h := ifT q53 h
              refine W.seq ?_
              refine W.pk ?_
              refine .v rfl rfl (OpL.move (.inl rfl) rfl) ?_
              refine .v rfl rfl (OpL.nilP rfl rfl rfl) ?_
              refine .v rfl rfl (O.fld fld63_1 rfl rfl rfl) ?_
              refine .v rfl rfl (O.ld ty3 rfl rfl rfl) ?_
              refine .v rfl rfl (OpL.move (.inl rfl) rfl) ?_
              refine .v rfl rfl (OpL.binI rfl rfl rfl rfl) ?_
              refine .v rfl rfl (OpL.binI rfl rfl rfl rfl) ?_
              refine .v rfl rfl (OpL.nilP rfl rfl rfl) ?_
              refine .v rfl rfl (O.fld fld63_1 rfl rfl rfl) ?_
              refine .s rfl rfl (O.st ty3 rfl rfl rfl rfl rfl rfl rfl rfl rfl rfl (all' := [.imm (.val (.string (tx x0.s))), .imm (.val (.int .i64 (IntKind.wrap .i64 (x0.at' + (IntKind.wrap .i64 (v13 + 1)))))), .imm (.val (.int .i64 x0.e))]) rfl) ?_
              refine .nil ?_
              refine W.seq ?_
              refine W.pk ?_
              refine .v rfl rfl (OpL.move (.inl rfl) rfl) ?_
              refine .v rfl rfl (OpL.move (.inr rfl) rfl) ?_
              refine .nil ?_
              refine W.ret ?_
              cases h
              refine rdR fun e_ => ?_
              subst e_
              have h := z42
              dsimp only at h
              refine fkR ?_
              cases h
              exact leaves (.inr rfl) rfl (.imm _) (cS (.ptr _ _ _ _ _ rfl (cC (.imm _) (cC (.imm _) (cC (.imm _) .nil)))) .nil) rfl rfl
            · have h := ifF q53 h
              refine W.skip ?_
              refine W.pk ?_
              refine .v rfl rfl (OpL.move (.inl rfl) rfl) ?_
              refine .v rfl rfl (OpL.binI rfl rfl rfl rfl) ?_
              refine .v rfl rfl (OpL.move (.inr rfl) rfl) ?_
              refine .nil ?_
              cases h
              exact rdN (Gives.mkR [] (.c rfl (.rfl _) rfl (.c rfl (.rfl _) rfl (.c rfl (.rfl _) rfl .n))) (.c rfl (.rfl _) rfl rfl .n) rfl rfl rfl)
        · clear h
          rcases tf (v13 == 0) with g48 | g48
          · rcases tf ((byte x0.s (IntKind.wrap .i64 (x0.at' + v13))) == 128) with g49 | g49
            · refine W.pk ?_
              refine .v rfl rfl (OpL.move (.inl rfl) rfl) ?_
              refine .v rfl rfl (OpL.binI rfl rfl rfl rfl) ?_
              refine .v rfl rfl (OpL.move (.inl rfl) rfl) ?_
              refine .v rfl (met rfl rfl rfl g48) (OpL.move (.inl rfl) rfl) ?_
              refine .v rfl (met rfl rfl rfl g48) (OpL.binI rfl rfl rfl rfl) ?_
              refine .v rfl rfl (O.pickT g48 rfl rfl rfl) ?_
              refine .v rfl rfl (OpL.move (.inl rfl) rfl) ?_
              refine .x rfl (unmet rfl rfl rfl g49) ?_
              refine .x rfl (unmet rfl rfl rfl g49) ?_
              refine .x rfl (unmet rfl rfl rfl g49) ?_
              refine .v rfl rfl (O.pickT g49 rfl rfl rfl) ?_
              refine .nil ?_
              exact toN (Gives.mkR [] (.c rfl (.rfl _) rfl (.c rfl (.rfl _) rfl (.c rfl (.rfl _) rfl (.c rfl (.rfl _) rfl (.c rfl (sbb (by first | (simp only [g48, g49, Bool.true_or, Bool.or_true, Bool.false_or, Bool.or_false, Bool.true_and, Bool.and_true, Bool.false_and, Bool.and_false, Bool.not_true, Bool.not_false, cond_true, cond_false]; done) | (repeat (first | rw [g48] | rw [g49])) <;> simp only [Bool.true_or, Bool.or_true, Bool.false_or, Bool.or_false, Bool.true_and, Bool.and_true, Bool.false_and, Bool.and_false, Bool.not_true, Bool.not_false, cond_true, cond_false])) rfl .n))))) (.c rfl (.rfl _) rfl rfl .n) rfl rfl rfl)
            · refine W.pk ?_
              refine .v rfl rfl (OpL.move (.inl rfl) rfl) ?_
              refine .v rfl rfl (OpL.binI rfl rfl rfl rfl) ?_
              refine .v rfl rfl (OpL.move (.inl rfl) rfl) ?_
              refine .v rfl (met rfl rfl rfl g48) (OpL.move (.inl rfl) rfl) ?_
              refine .v rfl (met rfl rfl rfl g48) (OpL.binI rfl rfl rfl rfl) ?_
              refine .v rfl rfl (O.pickT g48 rfl rfl rfl) ?_
              refine .v rfl rfl (OpL.move (.inl rfl) rfl) ?_
              refine .v rfl (met rfl rfl rfl g49) (OpL.move (.inl rfl) rfl) ?_
              refine .v rfl (met rfl rfl rfl g49) (O.shr (by decide) rfl rfl rfl) ?_
              refine .v rfl (met rfl rfl rfl g49) (OpL.binI rfl rfl rfl rfl) ?_
              refine .v rfl rfl (O.pickF g49 rfl rfl rfl) ?_
              refine .nil ?_
              exact toN (Gives.mkR [] (.c rfl (.rfl _) rfl (.c rfl (.rfl _) rfl (.c rfl (.rfl _) rfl (.c rfl (.rfl _) rfl (.c rfl (sbb (by first | (simp only [g48, g49, Bool.true_or, Bool.or_true, Bool.false_or, Bool.or_false, Bool.true_and, Bool.and_true, Bool.false_and, Bool.and_false, Bool.not_true, Bool.not_false, cond_true, cond_false]; done) | (repeat (first | rw [g48] | rw [g49])) <;> simp only [Bool.true_or, Bool.or_true, Bool.false_or, Bool.or_false, Bool.true_and, Bool.and_true, Bool.false_and, Bool.and_false, Bool.not_true, Bool.not_false, cond_true, cond_false])) rfl .n))))) (.c rfl (.rfl _) rfl rfl .n) rfl rfl rfl)
          · refine W.pk ?_
            refine .v rfl rfl (OpL.move (.inl rfl) rfl) ?_
            refine .v rfl rfl (OpL.binI rfl rfl rfl rfl) ?_
            refine .v rfl rfl (OpL.move (.inl rfl) rfl) ?_
            refine .x rfl (unmet rfl rfl rfl g48) ?_
            refine .x rfl (unmet rfl rfl rfl g48) ?_
            refine .v rfl rfl (O.pickF g48 rfl rfl rfl) ?_
            refine .v rfl rfl (OpL.move (.inl rfl) rfl) ?_
            refine .v rfl (met rfl rfl rfl rfl) (OpL.move (.inl rfl) rfl) ?_
            refine .v rfl (met rfl rfl rfl rfl) (O.shr (by decide) rfl rfl rfl) ?_
            refine .v rfl (met rfl rfl rfl rfl) (OpL.binI rfl rfl rfl rfl) ?_
            refine .v rfl rfl (O.pickF rfl rfl rfl rfl) ?_
            refine .nil ?_
            exact toN (Gives.mkR [] (.c rfl (.rfl _) rfl (.c rfl (.rfl _) rfl (.c rfl (.rfl _) rfl (.c rfl (.rfl _) rfl (.c rfl (sbb (by simp only [g48, Bool.true_or, Bool.or_true, Bool.false_or, Bool.or_false, Bool.true_and, Bool.and_true, Bool.false_and, Bool.and_false, Bool.not_true, Bool.not_false, cond_true, cond_false])) rfl .n))))) (.c rfl (.rfl _) rfl rfl .n) rfl rfl rfl)
    · have h := ifF q43 h
      refine W.exit ?_
      cases h
      refine rdX fun e_ => ?_
      subst e_
      repeat with_reducible refine thru ?_
      refine hit ?_
      exact fkN (Gives.mkR [] .n (.c rfl (.rfl _) rfl rfl .n) rfl rfl rfl)
  · intro w39 e_
    subst e_
    clear h
    have h := z42
    dsimp only at h
    refine W.seq ?_
    refine W.pk ?_
    refine .v rfl rfl (OpL.move (.inr rfl) rfl) ?_
    refine .nil ?_
    refine W.ret ?_
    cases h
    exact leaves (.inr rfl) rfl (.imm _) (cS (.ptr _ _ _ _ _ rfl (cC (.imm _) (cC (.imm _) (cC (.imm _) .nil)))) .nil) rfl rfl

noncomputable def wire_Reader_Err.f (x0 : wire_Reader) : Option (Int) :=
  some x0.e
set_option maxRecDepth 100000 in
set_option maxHeartbeats 4000000 in
theorem wire_Reader_Err.ok {x0 : wire_Reader} {r : Int} (h : wire_Reader_Err.f x0 = some r) : Pm.Spec prog 17 [.xbox [.imm (.val (.string (tx x0.s))), .imm (.val (.int .i64 x0.at')), .imm (.val (.int .i64 x0.e))]] (.imm (.val (.int .i64 r))) [some (.xbox [.imm (.val (.string (tx x0.s))), .imm (.val (.int .i64 x0.at')), .imm (.val (.int .i64 x0.e))])] := by
  unfold wire_Reader_Err.f at h
  refine Pm.Spec.of_body Try.func17 rfl (by kernel_rfl) (Nat.le_of_ble_eq_true rfl) (Nat.le_of_ble_eq_true rfl) ?_
  refine W.ghost (σ' := (mkSt [(0, some (.ptr 0 0))] [(0, some (.box [.imm (.val (.string (tx x0.s))), .imm (.val (.int .i64 x0.at')), .imm (.val (.int .i64 x0.e))]))] 1000)) (Gives.entry (.c rfl .n) (.c rfl .n)) ?_
  refine W.seq ?_
  refine W.pk ?_
  refine .v rfl rfl (OpL.move (.inr rfl) rfl) ?_
  refine .nil ?_
  refine W.seq ?_
  refine W.pk ?_
  refine .v rfl rfl (OpL.move (.inl rfl) rfl) ?_
  refine .v rfl rfl (OpL.nilP rfl rfl rfl) ?_
  refine .v rfl rfl (O.fld fld63_2 rfl rfl rfl) ?_
  refine .v rfl rfl (O.ld ty38 rfl rfl rfl) ?_
  refine .v rfl rfl (OpL.move (.inr rfl) rfl) ?_
  refine .nil ?_
  refine W.ret ?_
  cases h
  exact leaves (.inr rfl) rfl (.imm _) (cS (.ptr _ _ _ _ _ rfl (cC (.imm _) (cC (.imm _) (cC (.imm _) .nil)))) .nil) rfl rfl

noncomputable def wire_Reader_At.f (x0 : wire_Reader) : Option (Int) :=
  some x0.at'
set_option maxRecDepth 100000 in
set_option maxHeartbeats 4000000 in
theorem wire_Reader_At.ok {x0 : wire_Reader} {r : Int} (h : wire_Reader_At.f x0 = some r) : Pm.Spec prog 18 [.xbox [.imm (.val (.string (tx x0.s))), .imm (.val (.int .i64 x0.at')), .imm (.val (.int .i64 x0.e))]] (.imm (.val (.int .i64 r))) [some (.xbox [.imm (.val (.string (tx x0.s))), .imm (.val (.int .i64 x0.at')), .imm (.val (.int .i64 x0.e))])] := by
  unfold wire_Reader_At.f at h
  refine Pm.Spec.of_body Try.func18 rfl (by kernel_rfl) (Nat.le_of_ble_eq_true rfl) (Nat.le_of_ble_eq_true rfl) ?_
  refine W.ghost (σ' := (mkSt [(0, some (.ptr 0 0))] [(0, some (.box [.imm (.val (.string (tx x0.s))), .imm (.val (.int .i64 x0.at')), .imm (.val (.int .i64 x0.e))]))] 1000)) (Gives.entry (.c rfl .n) (.c rfl .n)) ?_
  refine W.seq ?_
  refine W.pk ?_
  refine .v rfl rfl (OpL.move (.inr rfl) rfl) ?_
  refine .nil ?_
  refine W.seq ?_
  refine W.pk ?_
  refine .v rfl rfl (OpL.move (.inl rfl) rfl) ?_
  refine .v rfl rfl (OpL.nilP rfl rfl rfl) ?_
  refine .v rfl rfl (O.fld fld63_1 rfl rfl rfl) ?_
  refine .v rfl rfl (O.ld ty3 rfl rfl rfl) ?_
  refine .v rfl rfl (OpL.move (.inr rfl) rfl) ?_
  refine .nil ?_
  refine W.ret ?_
  cases h
  exact leaves (.inr rfl) rfl (.imm _) (cS (.ptr _ _ _ _ _ rfl (cC (.imm _) (cC (.imm _) (cC (.imm _) .nil)))) .nil) rfl rfl
end Go.Proofs.Ytoongmdkndbppaa
