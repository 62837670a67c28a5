/- Shows what functions of the program come to, each as a plain function: written by a program of the author's for this claim. -/
import Derived.Test.YtoongmdkndbppaaTy
namespace Go.Proofs.Ytoongmdkndbppaa
open Go Go.Pm
set_option linter.unusedVariables false
set_option linter.unusedSimpArgs false
noncomputable def lombardlaw09_small.b0 (x0 : List lombardlaw09_Item) (v6 : Int) (v7 : Int) : Option ((Int × Int) ⊕ Int) :=
  if (((decide (v7 < (List.length x0 : Int))) && (decide (v7 ≤ 60))) && (decide (v6 ≤ 6000))) = true then
    if (0 : Int) ≤ v7 ∧ v7 < (List.length x0 : Int) then
    if (0 : Int) ≤ v7 ∧ v7 < (List.length x0 : Int) then
    some (.inl ((IntKind.wrap .i64 ((IntKind.wrap .i64 (v6 + (List.length ((nth x0 v7).Text) : Int))) + (List.length ((nth x0 v7).L) : Int))), (IntKind.wrap .i64 (v7 + 1))))
    else none
    else none
  else
    some (.inr v6)
noncomputable def lombardlaw09_small.r0 (x0 : List lombardlaw09_Item) (s : Int × Int) : Option ((Int × Int) ⊕ Int) := lombardlaw09_small.b0 x0 s.1 s.2
noncomputable def lombardlaw09_small.f (x0 : List lombardlaw09_Item) : Option (Bool) :=
  (loop (lombardlaw09_small.r0 x0) (0, 0)).bind fun o19 =>
  some ((decide ((List.length x0 : Int) ≤ 60)) && (decide (o19 ≤ 6000)))
set_option maxRecDepth 100000 in
set_option maxHeartbeats 4000000 in
theorem lombardlaw09_small.ok {x0 : List lombardlaw09_Item} {r : Bool} (h : lombardlaw09_small.f x0 = some r) : Pm.Spec prog 7 [.imm (.row 6 (List.map lombardlaw09_Item.enc x0))] (.imm (.val (.bool r))) [none] := by
  unfold lombardlaw09_small.f at h
  refine Pm.Spec.of_body Try.func7 rfl (by kernel_rfl) (Nat.le_of_ble_eq_true rfl) (Nat.le_of_ble_eq_true rfl) ?_
  refine W.ghost (σ' := (mkSt [(0, some (.imm (.row 6 (List.map lombardlaw09_Item.enc x0))))] [] 1000)) (Gives.entry (.c rfl .n) .n) ?_
  refine W.seq ?_
  refine W.pk ?_
  refine .v rfl rfl (OpL.move (.inr rfl) rfl) ?_
  refine .nil ?_
  refine W.seq ?_
  refine W.pk ?_
  refine .v rfl rfl (OpL.move (.inr rfl) rfl) ?_
  refine .nil ?_
  refine W.seq ?_
  refine W.seq ?_
  refine W.pk ?_
  refine .v rfl rfl (OpL.move (.inr rfl) rfl) ?_
  refine .nil ?_
  obtain ⟨o19, b20, h⟩ := bnd1 h
  refine W.fork (mkSt [(0, some (.imm (.row 6 (List.map lombardlaw09_Item.enc x0)))), (3, some (.imm (.val (.int .i64 o19))))] [] 1000) ?_ ?_
  · refine W.seq ?_
    refine W.fork (mkSt [(2, some (.imm (.val (.bool ((decide ((List.length x0 : Int) ≤ 60)) && (decide (o19 ≤ 6000)))))))] [] 1000) ?_ ?_
    · refine W.ret ?_
      cases h
      exact leaves (.inr rfl) rfl (.imm _) (cN .nil) rfl rfl
    · clear h
      rcases tf (decide ((List.length x0 : Int) ≤ 60)) with g27 | g27
      · refine W.pk ?_
        refine .v rfl rfl (OpL.move (.inl rfl) rfl) ?_
        refine .v rfl rfl (O.lenR sl22 rfl rfl) ?_
        refine .v rfl rfl (OpL.binI rfl rfl rfl rfl) ?_
        refine .v rfl rfl (OpL.move (.inl rfl) rfl) ?_
        refine .v rfl (met rfl rfl rfl g27) (OpL.move (.inl rfl) rfl) ?_
        refine .v rfl (met rfl rfl rfl g27) (OpL.binI rfl rfl rfl rfl) ?_
        refine .v rfl rfl (O.pickT g27 rfl rfl rfl) ?_
        refine .v rfl rfl (OpL.move (.inr rfl) rfl) ?_
        refine .nil ?_
        exact toN (Gives.mkR [] (.c rfl (sbb (by simp only [g27, Bool.true_or, Bool.or_true, Bool.false_or, Bool.or_false, Bool.true_and, Bool.and_true, Bool.false_and, Bool.and_false, Bool.not_true, Bool.not_false, cond_true, cond_false])) rfl .n) .n rfl rfl rfl)
      · refine W.pk ?_
        refine .v rfl rfl (OpL.move (.inl rfl) rfl) ?_
        refine .v rfl rfl (O.lenR sl22 rfl rfl) ?_
        refine .v rfl rfl (OpL.binI rfl rfl rfl rfl) ?_
        refine .v rfl rfl (OpL.move (.inl rfl) rfl) ?_
        refine .x rfl (unmet rfl rfl rfl g27) ?_
        refine .x rfl (unmet rfl rfl rfl g27) ?_
        refine .v rfl rfl (O.pickF g27 rfl rfl rfl) ?_
        refine .v rfl rfl (OpL.move (.inr rfl) rfl) ?_
        refine .nil ?_
        exact toN (Gives.mkR [] (.c rfl (sbb (by simp only [g27, Bool.true_or, Bool.or_true, Bool.false_or, Bool.or_false, Bool.true_and, Bool.and_true, Bool.false_and, Bool.and_false, Bool.not_true, Bool.not_false, cond_true, cond_false])) rfl .n) .n rfl rfl rfl)
  · clear h
    refine W.block ?_
    refine W.loopF (fun (s_ : Int × Int) => mkSt [(0, some (.imm (.row 6 (List.map lombardlaw09_Item.enc x0)))), (3, some (.imm (.val (.int .i64 s_.1)))), (4, some (.imm (.val (.int .i64 s_.2))))] [] 1000) b20 (Gives.mkR [] (.c rfl (.rfl _) rfl (.c rfl (.rfl _) rfl (.c rfl (.rfl _) rfl .n))) .n rfl rfl rfl) ?_
    rintro ⟨v6, v7⟩ s_ hr
    have h : lombardlaw09_small.b0 x0 v6 v7 = some s_ := hr
    unfold lombardlaw09_small.b0 at h
    refine W.seq ?_
    refine W.seq ?_
    refine W.fork (mkSt [(0, some (.imm (.row 6 (List.map lombardlaw09_Item.enc x0)))), (3, some (.imm (.val (.int .i64 v6)))), (4, some (.imm (.val (.int .i64 v7)))), (16, some (.imm (.val (.bool (((decide (v7 < (List.length x0 : Int))) && (decide (v7 ≤ 60))) && (decide (v6 ≤ 6000)))))))] [] 1000) ?_ ?_
    · refine W.cond rfl (fun q24 => ?_) (fun q24 => ?_)
      · have h := ifT q24 h
        refine W.skip ?_
        refine W.seq ?_
        refine W.block ?_
        obtain ⟨c25, h⟩ := chk h
        obtain ⟨c26, h⟩ := chk h
        refine W.dk [[], [], [], [1, 2], [1, 2, 3], [1, 2, 3, 4], [1, 2, 3, 4, 5], [0, 1, 2, 3, 4, 5, 6], [], [], [8, 9], [8, 9, 10], [8, 9, 10, 11], [8, 9, 10, 11, 12], [0, 1, 2, 3, 4, 5, 6, 7, 8, 9, 10, 11, 12, 13], [0, 1, 2, 3, 4, 5, 6, 7, 8, 9, 10, 11, 12, 13, 14]] rfl (by kernel_rfl) ?_
        refine .v rfl rfl (OpL.move (.inl rfl) rfl) ?_
        refine .v rfl rfl (OpL.move (.inl rfl) rfl) ?_
        refine .v rfl rfl (OpL.move (.inl rfl) rfl) ?_
        refine .v rfl rfl (O.idx sl22 c25 rfl rfl rfl) ?_
        refine .v rfl rfl (O.fld fld28_3 rfl rfl rfl) ?_
        refine .v rfl rfl (O.ld ty9 rfl rfl rfl) ?_
        refine .v rfl rfl (O.lenS u9 rfl rfl) ?_
        refine .v rfl rfl (OpL.binI rfl rfl rfl rfl) ?_
        refine .v rfl rfl (OpL.move (.inl rfl) rfl) ?_
        refine .v rfl rfl (OpL.move (.inl rfl) rfl) ?_
        refine .v rfl rfl (O.idx sl22 c26 rfl rfl rfl) ?_
        refine .v rfl rfl (O.fld fld28_5 rfl rfl rfl) ?_
        refine .v rfl rfl (O.ld ty26 rfl rfl rfl) ?_
        refine .v rfl rfl (O.lenR sl26 rfl rfl) ?_
        refine .v rfl rfl (OpL.binI rfl rfl rfl rfl) ?_
        refine .v rfl rfl (OpL.move (.inr rfl) rfl) ?_
        refine .nil ?_
        refine ⟨by kernel_rfl, by kernel_rfl, ?_⟩
        refine W.pk ?_
        refine .v rfl rfl (OpL.move (.inl rfl) rfl) ?_
        refine .v rfl rfl (OpL.binI rfl rfl rfl rfl) ?_
        refine .v rfl rfl (OpL.move (.inr rfl) rfl) ?_
        refine .nil ?_
        cases h
        exact rdN (Gives.mkR [] (.c rfl (.rfl _) rfl (.c rfl (.rfl _) rfl (.c rfl (.rfl _) rfl .n))) .n rfl rfl rfl)
      · have h := ifF q24 h
        refine W.exit ?_
        cases h
        refine rdX fun e_ => ?_
        subst e_
        repeat with_reducible refine thru ?_
        refine hit ?_
        exact toN (Gives.mkR [] (.c rfl (.rfl _) rfl (.c rfl (.rfl _) rfl .n)) .n rfl rfl rfl)
    · clear h
      rcases tf (decide (v7 < (List.length x0 : Int))) with g22 | g22
      · rcases tf (decide (v7 ≤ 60)) with g23 | g23
        · refine W.pk ?_
          refine .v rfl rfl (OpL.move (.inl rfl) rfl) ?_
          refine .v rfl rfl (OpL.move (.inl rfl) rfl) ?_
          refine .v rfl rfl (O.lenR sl22 rfl rfl) ?_
          refine .v rfl rfl (OpL.binI rfl rfl rfl rfl) ?_
          refine .v rfl rfl (OpL.move (.inl rfl) rfl) ?_
          refine .v rfl (met rfl rfl rfl g22) (OpL.move (.inl rfl) rfl) ?_
          refine .v rfl (met rfl rfl rfl g22) (OpL.binI rfl rfl rfl rfl) ?_
          refine .v rfl rfl (O.pickT g22 rfl rfl rfl) ?_
          refine .v rfl rfl (OpL.move (.inl rfl) rfl) ?_
          refine .v rfl (met rfl rfl rfl g23) (OpL.move (.inl rfl) rfl) ?_
          refine .v rfl (met rfl rfl rfl g23) (OpL.binI rfl rfl rfl rfl) ?_
          refine .v rfl rfl (O.pickT g23 rfl rfl rfl) ?_
          refine .nil ?_
          exact toN (Gives.mkR [] (.c rfl (.rfl _) rfl (.c rfl (.rfl _) rfl (.c rfl (.rfl _) rfl (.c rfl (sbb (by first | (simp only [g22, g23, Bool.true_or, Bool.or_true, Bool.false_or, Bool.or_false, Bool.true_and, Bool.and_true, Bool.false_and, Bool.and_false, Bool.not_true, Bool.not_false, cond_true, cond_false]; done) | (repeat (first | rw [g22] | rw [g23])) <;> simp only [Bool.true_or, Bool.or_true, Bool.false_or, Bool.or_false, Bool.true_and, Bool.and_true, Bool.false_and, Bool.and_false, Bool.not_true, Bool.not_false, cond_true, cond_false])) rfl .n)))) .n rfl rfl rfl)
        · refine W.pk ?_
          refine .v rfl rfl (OpL.move (.inl rfl) rfl) ?_
          refine .v rfl rfl (OpL.move (.inl rfl) rfl) ?_
          refine .v rfl rfl (O.lenR sl22 rfl rfl) ?_
          refine .v rfl rfl (OpL.binI rfl rfl rfl rfl) ?_
          refine .v rfl rfl (OpL.move (.inl rfl) rfl) ?_
          refine .v rfl (met rfl rfl rfl g22) (OpL.move (.inl rfl) rfl) ?_
          refine .v rfl (met rfl rfl rfl g22) (OpL.binI rfl rfl rfl rfl) ?_
          refine .v rfl rfl (O.pickT g22 rfl rfl rfl) ?_
          refine .v rfl rfl (OpL.move (.inl rfl) rfl) ?_
          refine .x rfl (unmet rfl rfl rfl g23) ?_
          refine .x rfl (unmet rfl rfl rfl g23) ?_
          refine .v rfl rfl (O.pickF g23 rfl rfl rfl) ?_
          refine .nil ?_
          exact toN (Gives.mkR [] (.c rfl (.rfl _) rfl (.c rfl (.rfl _) rfl (.c rfl (.rfl _) rfl (.c rfl (sbb (by first | (simp only [g22, g23, Bool.true_or, Bool.or_true, Bool.false_or, Bool.or_false, Bool.true_and, Bool.and_true, Bool.false_and, Bool.and_false, Bool.not_true, Bool.not_false, cond_true, cond_false]; done) | (repeat (first | rw [g22] | rw [g23])) <;> simp only [Bool.true_or, Bool.or_true, Bool.false_or, Bool.or_false, Bool.true_and, Bool.and_true, Bool.false_and, Bool.and_false, Bool.not_true, Bool.not_false, cond_true, cond_false])) rfl .n)))) .n rfl rfl rfl)
      · refine W.pk ?_
        refine .v rfl rfl (OpL.move (.inl rfl) rfl) ?_
        refine .v rfl rfl (OpL.move (.inl rfl) rfl) ?_
        refine .v rfl rfl (O.lenR sl22 rfl rfl) ?_
        refine .v rfl rfl (OpL.binI rfl rfl rfl rfl) ?_
        refine .v rfl rfl (OpL.move (.inl rfl) rfl) ?_
        refine .x rfl (unmet rfl rfl rfl g22) ?_
        refine .x rfl (unmet rfl rfl rfl g22) ?_
        refine .v rfl rfl (O.pickF g22 rfl rfl rfl) ?_
        refine .v rfl rfl (OpL.move (.inl rfl) rfl) ?_
        refine .x rfl (unmet rfl rfl rfl rfl) ?_
        refine .x rfl (unmet rfl rfl rfl rfl) ?_
        refine .v rfl rfl (O.pickF rfl rfl rfl rfl) ?_
        refine .nil ?_
        exact toN (Gives.mkR [] (.c rfl (.rfl _) rfl (.c rfl (.rfl _) rfl (.c rfl (.rfl _) rfl (.c rfl (sbb (by simp only [g22, Bool.true_or, Bool.or_true, Bool.false_or, Bool.or_false, Bool.true_and, Bool.and_true, Bool.false_and, Bool.and_false, Bool.not_true, Bool.not_false, cond_true, cond_false])) rfl .n)))) .n rfl rfl rfl)

noncomputable def wire_Writer_Uint.b0 (x1 : Int) (v3 : Int) : Option (Int ⊕ Int) :=
  if ((decide (v3 > 0)) && ((shrI .u64 x1 (IntKind.wrap .u64 v3)) == 0)) = true then
    some (.inl (IntKind.wrap .i64 (v3 - 7)))
  else
    some (.inr v3)
noncomputable def wire_Writer_Uint.r0 (x1 : Int) (s : Int) : Option (Int ⊕ Int) := wire_Writer_Uint.b0 x1 s
noncomputable def wire_Writer_Uint.b1 (x1 : Int) (v16 : Int) (v17 : List Int) : Option ((Int × (List Int)) ⊕ (List Int)) :=
  if (decide (v16 > 0)) = true then
    if (List.length v17 + List.length [(bits .or .u8 (bits .and .u8 (IntKind.wrap .u8 (shrI .u64 x1 (IntKind.wrap .u64 v16))) 127) 128)]) * 1 ≤ 140737488355328 then
    some (.inl ((IntKind.wrap .i64 (v16 - 7)), (v17 ++ [(bits .or .u8 (bits .and .u8 (IntKind.wrap .u8 (shrI .u64 x1 (IntKind.wrap .u64 v16))) 127) 128)])))
    else none
  else
    some (.inr v17)
noncomputable def wire_Writer_Uint.r1 (x1 : Int) (s : Int × (List Int)) : Option ((Int × (List Int)) ⊕ (List Int)) := wire_Writer_Uint.b1 x1 s.1 s.2
noncomputable def wire_Writer_Uint.f (x0 : wire_Writer) (x1 : Int) : Option (wire_Writer) :=
  (loop (wire_Writer_Uint.r0 x1) 63).bind fun o9 =>
  (loop (wire_Writer_Uint.r1 x1) (o9, x0.b)).bind fun o23 =>
  if (List.length o23 + List.length [(bits .and .u8 (IntKind.wrap .u8 x1) 127)]) * 1 ≤ 140737488355328 then
  some (⟨(o23 ++ [(bits .and .u8 (IntKind.wrap .u8 x1) 127)])⟩ : wire_Writer)
  else none
set_option maxRecDepth 100000 in
set_option maxHeartbeats 4000000 in
theorem wire_Writer_Uint.ok {x0 : wire_Writer} {x1 : Int} {r : wire_Writer} (h : wire_Writer_Uint.f x0 x1 = some r) : Pm.Spec prog 19 [.xbox [.xown 5 1 (List.map (encI .u8) x0.b)], .imm (.val (.int .u64 x1))] (.tup []) [some (.xbox [.xown 5 1 (List.map (encI .u8) r.b)]), none] := by
  unfold wire_Writer_Uint.f at h
  refine Pm.Spec.of_body Try.func19 rfl (by kernel_rfl) (Nat.le_of_ble_eq_true rfl) (Nat.le_of_ble_eq_true rfl) ?_
  refine W.ghost (σ' := (mkSt [(0, some (.ptr 0 0)), (1, some (.imm (.val (.int .u64 x1))))] [(0, some (.box [.own 1])), (1, some (.rows 5 1 (List.map (encI .u8) x0.b) false))] 1000)) (Gives.entry (.c rfl (.c rfl .n)) (.c rfl (.c rfl .n))) ?_
  refine W.ghost (σ' := (mkSt [(0, some (.ptr 0 0)), (1, some (.imm (.val (.int .u64 x1))))] [(0, some (.box [.own 1000])), (1000, some (.rows 5 1 (List.map (encI .u8) x0.b) false))] 1001)) (Gives.mkR [(1000, 1)] (.c rfl (.rfl _) rfl (.c rfl (.rfl _) rfl .n)) (.c rfl (.rfl _) rfl rfl (.c rfl (.rfl _) rfl rfl .n)) rfl rfl rfl) ?_
  refine W.seq ?_
  refine W.pk ?_
  refine .v rfl rfl (OpL.move (.inr rfl) rfl) ?_
  refine .nil ?_
  refine W.seq ?_
  obtain ⟨o9, b10, h⟩ := bnd1 h
  refine W.fork (mkSt [(0, some (.ptr 0 0)), (1, some (.imm (.val (.int .u64 x1)))), (4, some (.imm (.val (.int .i64 o9))))] [(0, some (.box [.own 1000])), (1000, some (.rows 5 1 (List.map (encI .u8) x0.b) false))] 1001) ?_ ?_
  · refine W.seq ?_
    obtain ⟨o23, b24, h⟩ := bnd1 h
    refine W.fork (mkSt [(0, some (.ptr 0 0)), (1, some (.imm (.val (.int .u64 x1))))] [(0, some (.box [.own 1000])), (1000, some (.rows 5 1 (List.map (encI .u8) o23) false))] 1001) ?_ ?_
    · obtain ⟨c28, h⟩ := chk h
      refine W.pk ?_
      refine .v rfl rfl (OpL.move (.inl rfl) rfl) ?_
      refine .v rfl rfl (OpL.move (.inl rfl) rfl) ?_
      refine .v rfl rfl (OpL.nilP rfl rfl rfl) ?_
      refine .v rfl rfl (O.fld fld43_0 rfl rfl rfl) ?_
      refine .v rfl rfl (O.ld ty41 rfl rfl rfl) ?_
      refine .v rfl rfl (OpL.move (.inl rfl) rfl) ?_
      refine .v rfl rfl (O.conv h25 u5 rfl rfl) ?_
      refine .v rfl rfl (OpL.binI rfl rfl rfl rfl) ?_
      refine .t rfl rfl (O.lit (enc := (encI .u8)) (l := [(bits .and .u8 (IntKind.wrap .u8 x1) 127)]) sl41 rfl rfl rfl rfl rfl rfl rfl rfl rfl) ?_
      refine .t rfl rfl (O.appO sl41 (EncOk.int .u8) c28 rfl rfl rfl rfl rfl) ?_
      refine .v rfl rfl (OpL.nilP rfl rfl rfl) ?_
      refine .v rfl rfl (O.fld fld43_0 rfl rfl rfl) ?_
      refine .s rfl rfl (O.st ty41 rfl rfl rfl rfl rfl rfl rfl rfl rfl rfl (all' := [.own 1002]) rfl) ?_
      refine .nil ?_
      cases h
      exact leaves (.inl rfl) rfl (.tup _ _ _ _ .nil) (cS (.ptr _ _ _ _ _ rfl (cC (.own _ _ _ _ rfl) .nil)) (cN .nil)) rfl rfl
    · clear h
      refine W.block ?_
      refine W.loopF (fun (s_ : Int × (List Int)) => mkSt [(0, some (.ptr 0 0)), (1, some (.imm (.val (.int .u64 x1)))), (4, some (.imm (.val (.int .i64 s_.1))))] [(0, some (.box [.own 1000])), (1000, some (.rows 5 1 (List.map (encI .u8) s_.2) false))] 1001) b24 (Gives.mkR [] (.c rfl (.rfl _) rfl (.c rfl (.rfl _) rfl (.c rfl (.rfl _) rfl .n))) (.c rfl (.rfl _) rfl rfl (.c rfl (.rfl _) rfl rfl .n)) rfl rfl rfl) ?_
      rintro ⟨v16, v17⟩ s_ hr
      have h : wire_Writer_Uint.b1 x1 v16 v17 = some s_ := hr
      unfold wire_Writer_Uint.b1 at h
      refine W.seq ?_
      refine W.seq ?_
      refine W.pk ?_
      refine .v rfl rfl (OpL.move (.inl rfl) rfl) ?_
      refine .v rfl rfl (OpL.binI rfl rfl rfl rfl) ?_
      refine .nil ?_
      refine W.cond rfl (fun q26 => ?_) (fun q26 => ?_)
      · have h := ifT q26 h
        refine W.skip ?_
        refine W.seq ?_
        refine W.block ?_
        obtain ⟨c27, h⟩ := chk h
        refine W.pk ?_
        refine .v rfl rfl (OpL.move (.inl rfl) rfl) ?_
        refine .v rfl rfl (OpL.move (.inl rfl) rfl) ?_
        refine .v rfl rfl (OpL.nilP rfl rfl rfl) ?_
        refine .v rfl rfl (O.fld fld43_0 rfl rfl rfl) ?_
        refine .v rfl rfl (O.ld ty41 rfl rfl rfl) ?_
        refine .v rfl rfl (OpL.move (.inl rfl) rfl) ?_
        refine .v rfl rfl (OpL.move (.inl rfl) rfl) ?_
        refine .v rfl rfl (O.conv h3 u64 rfl rfl) ?_
        refine .v rfl rfl (O.shr (wrapU _ rfl _) rfl rfl rfl) ?_
        refine .v rfl rfl (O.conv h25 u5 rfl rfl) ?_
        refine .v rfl rfl (OpL.binI rfl rfl rfl rfl) ?_
        refine .v rfl rfl (OpL.binI rfl rfl rfl rfl) ?_
        refine .t rfl rfl (O.lit (enc := (encI .u8)) (l := [(bits .or .u8 (bits .and .u8 (IntKind.wrap .u8 (shrI .u64 x1 (IntKind.wrap .u64 v16))) 127) 128)]) sl41 rfl rfl rfl rfl rfl rfl rfl rfl rfl) ?_
        refine .t rfl rfl (O.appO sl41 (EncOk.int .u8) c27 rfl rfl rfl rfl rfl) ?_
        refine .v rfl rfl (OpL.nilP rfl rfl rfl) ?_
        refine .v rfl rfl (O.fld fld43_0 rfl rfl rfl) ?_
        refine .s rfl rfl (O.st ty41 rfl rfl rfl rfl rfl rfl rfl rfl rfl rfl (all' := [.own 1002]) rfl) ?_
        refine .nil ?_
        refine W.pk ?_
        refine .v rfl rfl (OpL.move (.inl rfl) rfl) ?_
        refine .v rfl rfl (OpL.binI rfl rfl rfl rfl) ?_
        refine .v rfl rfl (OpL.move (.inr rfl) rfl) ?_
        refine .nil ?_
        cases h
        exact rdN (Gives.mkR [(1000, 1002)] (.c rfl (.rfl _) rfl (.c rfl (.rfl _) rfl (.c rfl (.rfl _) rfl .n))) (.c rfl (.rfl _) rfl rfl (.c rfl (.rfl _) rfl rfl .n)) rfl rfl rfl)
      · have h := ifF q26 h
        refine W.exit ?_
        cases h
        refine rdX fun e_ => ?_
        subst e_
        repeat with_reducible refine thru ?_
        refine hit ?_
        exact toN (Gives.mkR [] (.c rfl (.rfl _) rfl (.c rfl (.rfl _) rfl .n)) (.c rfl (.rfl _) rfl rfl (.c rfl (.rfl _) rfl rfl .n)) rfl rfl rfl)
  · clear h
    refine W.block ?_
    refine W.loopF (fun (s_ : Int) => mkSt [(0, some (.ptr 0 0)), (1, some (.imm (.val (.int .u64 x1)))), (4, some (.imm (.val (.int .i64 s_))))] [(0, some (.box [.own 1000])), (1000, some (.rows 5 1 (List.map (encI .u8) x0.b) false))] 1001) b10 (Gives.mkR [] (.c rfl (.rfl _) rfl (.c rfl (.rfl _) rfl (.c rfl (.rfl _) rfl .n))) (.c rfl (.rfl _) rfl rfl (.c rfl (.rfl _) rfl rfl .n)) rfl rfl rfl) ?_
    rintro v3 s_ hr
    have h : wire_Writer_Uint.b0 x1 v3 = some s_ := hr
    unfold wire_Writer_Uint.b0 at h
    refine W.seq ?_
    refine W.seq ?_
    refine W.fork (mkSt [(0, some (.ptr 0 0)), (1, some (.imm (.val (.int .u64 x1)))), (4, some (.imm (.val (.int .i64 v3)))), (13, some (.imm (.val (.bool ((decide (v3 > 0)) && ((shrI .u64 x1 (IntKind.wrap .u64 v3)) == 0))))))] [(0, some (.box [.own 1000])), (1000, some (.rows 5 1 (List.map (encI .u8) x0.b) false))] 1001) ?_ ?_
    · refine W.cond rfl (fun q13 => ?_) (fun q13 => ?_)
      · have h := ifT q13 h
        refine W.skip ?_
        refine W.block ?_
        refine W.pk ?_
        refine .v rfl rfl (OpL.move (.inl rfl) rfl) ?_
        refine .v rfl rfl (OpL.binI rfl rfl rfl rfl) ?_
        refine .v rfl rfl (OpL.move (.inr rfl) rfl) ?_
        refine .nil ?_
        cases h
        exact rdN (Gives.mkR [] (.c rfl (.rfl _) rfl (.c rfl (.rfl _) rfl (.c rfl (.rfl _) rfl .n))) (.c rfl (.rfl _) rfl rfl (.c rfl (.rfl _) rfl rfl .n)) rfl rfl rfl)
      · have h := ifF q13 h
        refine W.exit ?_
        cases h
        refine rdX fun e_ => ?_
        subst e_
        repeat with_reducible refine thru ?_
        refine hit ?_
        exact toN (Gives.mkR [] (.c rfl (.rfl _) rfl (.c rfl (.rfl _) rfl (.c rfl (.rfl _) rfl .n))) (.c rfl (.rfl _) rfl rfl (.c rfl (.rfl _) rfl rfl .n)) rfl rfl rfl)
    · clear h
      rcases tf (decide (v3 > 0)) with g12 | g12
      · refine W.pk ?_
        refine .v rfl rfl (OpL.move (.inl rfl) rfl) ?_
        refine .v rfl rfl (OpL.binI rfl rfl rfl rfl) ?_
        refine .v rfl rfl (OpL.move (.inl rfl) rfl) ?_
        refine .v rfl (met rfl rfl rfl g12) (OpL.move (.inl rfl) rfl) ?_
        refine .v rfl (met rfl rfl rfl g12) (OpL.move (.inl rfl) rfl) ?_
        refine .v rfl (met rfl rfl rfl g12) (O.conv h3 u64 rfl rfl) ?_
        refine .v rfl (met rfl rfl rfl g12) (O.shr (wrapU _ rfl _) rfl rfl rfl) ?_
        refine .v rfl (met rfl rfl rfl g12) (OpL.binI rfl rfl rfl rfl) ?_
        refine .v rfl rfl (O.pickT g12 rfl rfl rfl) ?_
        refine .nil ?_
        exact toN (Gives.mkR [] (.c rfl (.rfl _) rfl (.c rfl (.rfl _) rfl (.c rfl (.rfl _) rfl (.c rfl (sbb (by simp only [g12, Bool.true_or, Bool.or_true, Bool.false_or, Bool.or_false, Bool.true_and, Bool.and_true, Bool.false_and, Bool.and_false, Bool.not_true, Bool.not_false, cond_true, cond_false])) rfl .n)))) (.c rfl (.rfl _) rfl rfl (.c rfl (.rfl _) rfl rfl .n)) rfl rfl rfl)
      · refine W.pk ?_
        refine .v rfl rfl (OpL.move (.inl rfl) rfl) ?_
        refine .v rfl rfl (OpL.binI rfl rfl rfl rfl) ?_
        refine .v rfl rfl (OpL.move (.inl rfl) rfl) ?_
        refine .x rfl (unmet rfl rfl rfl g12) ?_
        refine .x rfl (unmet rfl rfl rfl g12) ?_
        refine .x rfl (unmet rfl rfl rfl g12) ?_
        refine .x rfl (unmet rfl rfl rfl g12) ?_
        refine .x rfl (unmet rfl rfl rfl g12) ?_
        refine .v rfl rfl (O.pickF g12 rfl rfl rfl) ?_
        refine .nil ?_
        exact toN (Gives.mkR [] (.c rfl (.rfl _) rfl (.c rfl (.rfl _) rfl (.c rfl (.rfl _) rfl (.c rfl (sbb (by simp only [g12, Bool.true_or, Bool.or_true, Bool.false_or, Bool.or_false, Bool.true_and, Bool.and_true, Bool.false_and, Bool.and_false, Bool.not_true, Bool.not_false, cond_true, cond_false])) rfl .n)))) (.c rfl (.rfl _) rfl rfl (.c rfl (.rfl _) rfl rfl .n)) rfl rfl rfl)

noncomputable def wire_Writer_Int.f (x0 : wire_Writer) (x1 : Int) : Option (wire_Writer) :=
  if (decide (x1 < 0)) = true then
    (wire_Writer_Uint.f x0 (bits .or .u64 (shlI .u64 (IntKind.wrap .u64 (bits .xor .i64 (-1) x1)) 1) 1)).bind fun t2 =>
    some t2
  else
    (wire_Writer_Uint.f x0 (shlI .u64 (IntKind.wrap .u64 x1) 1)).bind fun t4 =>
    some t4
set_option maxRecDepth 100000 in
set_option maxHeartbeats 4000000 in
theorem wire_Writer_Int.ok {x0 : wire_Writer} {x1 : Int} {r : wire_Writer} (h : wire_Writer_Int.f x0 x1 = some r) : Pm.Spec prog 31 [.xbox [.xown 5 1 (List.map (encI .u8) x0.b)], .imm (.val (.int .i64 x1))] (.tup []) [some (.xbox [.xown 5 1 (List.map (encI .u8) r.b)]), none] := by
  unfold wire_Writer_Int.f at h
  refine Pm.Spec.of_body Try.func31 rfl (by kernel_rfl) (Nat.le_of_ble_eq_true rfl) (Nat.le_of_ble_eq_true rfl) ?_
  refine W.ghost (σ' := (mkSt [(0, some (.ptr 0 0)), (1, some (.imm (.val (.int .i64 x1))))] [(0, some (.box [.own 1])), (1, some (.rows 5 1 (List.map (encI .u8) x0.b) false))] 1000)) (Gives.entry (.c rfl (.c rfl .n)) (.c rfl (.c rfl .n))) ?_
  refine W.ghost (σ' := (mkSt [(0, some (.ptr 0 0)), (1, some (.imm (.val (.int .i64 x1))))] [(0, some (.box [.own 1000])), (1000, some (.rows 5 1 (List.map (encI .u8) x0.b) false))] 1001)) (Gives.mkR [(1000, 1)] (.c rfl (.rfl _) rfl (.c rfl (.rfl _) rfl .n)) (.c rfl (.rfl _) rfl rfl (.c rfl (.rfl _) rfl rfl .n)) rfl rfl rfl) ?_
  refine W.seq ?_
  refine W.seq ?_
  refine W.pk ?_
  refine .v rfl rfl (OpL.move (.inl rfl) rfl) ?_
  refine .v rfl rfl (OpL.binI rfl rfl rfl rfl) ?_
  refine .nil ?_
  refine W.cond rfl (fun q1 => ?_) (fun q1 => ?_)
  · have h := ifT q1 h
    refine W.seq ?_
    obtain ⟨t2, b3, h⟩ := bnd1 h
    refine W.pk ?_
    refine .v rfl rfl (OpL.move (.inl rfl) rfl) ?_
    refine .v rfl rfl (OpL.move (.inl rfl) rfl) ?_
    refine .v rfl rfl (OpL.unV rfl rfl rfl) ?_
    refine .v rfl rfl (O.conv h3 u25 rfl rfl) ?_
    refine .v rfl rfl (O.shl (by decide) rfl rfl rfl) ?_
    refine .v rfl rfl (OpL.binI rfl rfl rfl rfl) ?_
    refine .call (.tup []) [(0, some (.box [.own 1001])), (1001, some (.rows 5 1 (List.map (encI .u8) t2.b) false)), (0, none), (1000, none)] 1 (wire_Writer_Uint.ok b3) rfl rfl rfl ca19 rfl rfl (cC (.ptr _ _ _ _ _ rfl (cC (.own _ _ _ _ rfl) .nil)) (cC (.imm _) .nil)) rfl rfl rfl rfl rfl ?_
    refine .nil ?_
    refine W.ret ?_
    cases h
    exact leaves (.inr rfl) rfl (.tup _ _ _ _ .nil) (cS (.ptr _ _ _ _ _ rfl (cC (.own _ _ _ _ rfl) .nil)) (cN .nil)) rfl rfl
  · have h := ifF q1 h
    refine W.skip ?_
    obtain ⟨t4, b5, h⟩ := bnd1 h
    refine W.pk ?_
    refine .v rfl rfl (OpL.move (.inl rfl) rfl) ?_
    refine .v rfl rfl (OpL.move (.inl rfl) rfl) ?_
    refine .v rfl rfl (O.conv h3 u25 rfl rfl) ?_
    refine .v rfl rfl (O.shl (by decide) rfl rfl rfl) ?_
    refine .call (.tup []) [(0, some (.box [.own 1001])), (1001, some (.rows 5 1 (List.map (encI .u8) t4.b) false)), (0, none), (1000, none)] 1 (wire_Writer_Uint.ok b5) rfl rfl rfl ca19 rfl rfl (cC (.ptr _ _ _ _ _ rfl (cC (.own _ _ _ _ rfl) .nil)) (cC (.imm _) .nil)) rfl rfl rfl rfl rfl ?_
    refine .nil ?_
    cases h
    exact leaves (.inl rfl) rfl (.tup _ _ _ _ .nil) (cS (.ptr _ _ _ _ _ rfl (cC (.own _ _ _ _ rfl) .nil)) (cN .nil)) rfl rfl

noncomputable def wire_Writer_Text.f (x0 : wire_Writer) (x1 : Bs) : Option (wire_Writer) :=
  (wire_Writer_Uint.f x0 (IntKind.wrap .u64 (List.length x1 : Int))).bind fun t1 =>
  if (List.length t1.b + List.length x1) * 1 ≤ 140737488355328 then
  some (⟨(t1.b ++ bts x1)⟩ : wire_Writer)
  else none
set_option maxRecDepth 100000 in
set_option maxHeartbeats 4000000 in
theorem wire_Writer_Text.ok {x0 : wire_Writer} {x1 : Bs} {r : wire_Writer} (h : wire_Writer_Text.f x0 x1 = some r) : Pm.Spec prog 32 [.xbox [.xown 5 1 (List.map (encI .u8) x0.b)], .imm (.val (.string (tx x1)))] (.tup []) [some (.xbox [.xown 5 1 (List.map (encI .u8) r.b)]), none] := by
  unfold wire_Writer_Text.f at h
  refine Pm.Spec.of_body Try.func32 rfl (by kernel_rfl) (Nat.le_of_ble_eq_true rfl) (Nat.le_of_ble_eq_true rfl) ?_
  refine W.ghost (σ' := (mkSt [(0, some (.ptr 0 0)), (1, some (.imm (.val (.string (tx x1)))))] [(0, some (.box [.own 1])), (1, some (.rows 5 1 (List.map (encI .u8) x0.b) false))] 1000)) (Gives.entry (.c rfl (.c rfl .n)) (.c rfl (.c rfl .n))) ?_
  refine W.ghost (σ' := (mkSt [(0, some (.ptr 0 0)), (1, some (.imm (.val (.string (tx x1)))))] [(0, some (.box [.own 1000])), (1000, some (.rows 5 1 (List.map (encI .u8) x0.b) false))] 1001)) (Gives.mkR [(1000, 1)] (.c rfl (.rfl _) rfl (.c rfl (.rfl _) rfl .n)) (.c rfl (.rfl _) rfl rfl (.c rfl (.rfl _) rfl rfl .n)) rfl rfl rfl) ?_
  refine W.seq ?_
  obtain ⟨t1, b2, h⟩ := bnd1 h
  refine W.pk ?_
  refine .v rfl rfl (OpL.move (.inl rfl) rfl) ?_
  refine .v rfl rfl (OpL.move (.inl rfl) rfl) ?_
  refine .v rfl rfl (O.lenS u9 rfl rfl) ?_
  refine .v rfl rfl (O.conv h3 u25 rfl rfl) ?_
  refine .call (.tup []) [(0, some (.box [.own 1001])), (1001, some (.rows 5 1 (List.map (encI .u8) t1.b) false)), (0, none), (1000, none)] 1 (wire_Writer_Uint.ok b2) rfl rfl rfl ca19 rfl rfl (cC (.ptr _ _ _ _ _ rfl (cC (.own _ _ _ _ rfl) .nil)) (cC (.imm _) .nil)) rfl rfl rfl rfl rfl ?_
  refine .nil ?_
  obtain ⟨c3, h⟩ := chk h
  refine W.pk ?_
  refine .v rfl rfl (OpL.move (.inl rfl) rfl) ?_
  refine .v rfl rfl (OpL.move (.inl rfl) rfl) ?_
  refine .v rfl rfl (OpL.nilP rfl rfl rfl) ?_
  refine .v rfl rfl (O.fld fld43_0 rfl rfl rfl) ?_
  refine .v rfl rfl (O.ld ty41 rfl rfl rfl) ?_
  refine .v rfl rfl (OpL.move (.inl rfl) rfl) ?_
  refine .t rfl rfl (O.appT sl41 u9 c3 rfl rfl rfl rfl) ?_
  refine .v rfl rfl (OpL.nilP rfl rfl rfl) ?_
  refine .v rfl rfl (O.fld fld43_0 rfl rfl rfl) ?_
  refine .s rfl rfl (O.st ty41 rfl rfl rfl rfl rfl rfl rfl rfl rfl rfl (all' := [.own 1002]) rfl) ?_
  refine .nil ?_
  cases h
  exact leaves (.inl rfl) rfl (.tup _ _ _ _ .nil) (cS (.ptr _ _ _ _ _ rfl (cC (.own _ _ _ _ rfl) .nil)) (cN .nil)) rfl rfl

noncomputable def wire_Writer_Bool.f (x0 : wire_Writer) (x1 : Bool) : Option (wire_Writer) :=
  ((
    if x1 = true then
      some 1
    else
      some 0 : Option (Int))).bind fun o3 =>
  if (List.length x0.b + List.length [o3]) * 1 ≤ 140737488355328 then
  some (⟨(x0.b ++ [o3])⟩ : wire_Writer)
  else none
set_option maxRecDepth 100000 in
set_option maxHeartbeats 4000000 in
theorem wire_Writer_Bool.ok {x0 : wire_Writer} {x1 : Bool} {r : wire_Writer} (h : wire_Writer_Bool.f x0 x1 = some r) : Pm.Spec prog 33 [.xbox [.xown 5 1 (List.map (encI .u8) x0.b)], .imm (.val (.bool x1))] (.tup []) [some (.xbox [.xown 5 1 (List.map (encI .u8) r.b)]), none] := by
  unfold wire_Writer_Bool.f at h
  refine Pm.Spec.of_body Try.func33 rfl (by kernel_rfl) (Nat.le_of_ble_eq_true rfl) (Nat.le_of_ble_eq_true rfl) ?_
  refine W.ghost (σ' := (mkSt [(0, some (.ptr 0 0)), (1, some (.imm (.val (.bool x1))))] [(0, some (.box [.own 1])), (1, some (.rows 5 1 (List.map (encI .u8) x0.b) false))] 1000)) (Gives.entry (.c rfl (.c rfl .n)) (.c rfl (.c rfl .n))) ?_
  refine W.ghost (σ' := (mkSt [(0, some (.ptr 0 0)), (1, some (.imm (.val (.bool x1))))] [(0, some (.box [.own 1000])), (1000, some (.rows 5 1 (List.map (encI .u8) x0.b) false))] 1001)) (Gives.mkR [(1000, 1)] (.c rfl (.rfl _) rfl (.c rfl (.rfl _) rfl .n)) (.c rfl (.rfl _) rfl rfl (.c rfl (.rfl _) rfl rfl .n)) rfl rfl rfl) ?_
  refine W.seq ?_
  refine W.pk ?_
  refine .v rfl rfl (OpL.move (.inr rfl) rfl) ?_
  refine .nil ?_
  refine W.seq ?_
  refine W.seq ?_
  refine W.pk ?_
  refine .v rfl rfl (OpL.move (.inl rfl) rfl) ?_
  refine .nil ?_
  obtain ⟨o3, b4, h⟩ := bnd1 h
  refine W.fork (mkSt [(0, some (.ptr 0 0)), (4, some (.imm (.val (.int .u8 o3))))] [(0, some (.box [.own 1000])), (1000, some (.rows 5 1 (List.map (encI .u8) x0.b) false))] 1001) ?_ ?_
  · obtain ⟨c6, h⟩ := chk h
    refine W.pk ?_
    refine .v rfl rfl (OpL.move (.inl rfl) rfl) ?_
    refine .v rfl rfl (OpL.move (.inl rfl) rfl) ?_
    refine .v rfl rfl (OpL.nilP rfl rfl rfl) ?_
    refine .v rfl rfl (O.fld fld43_0 rfl rfl rfl) ?_
    refine .v rfl rfl (O.ld ty41 rfl rfl rfl) ?_
    refine .v rfl rfl (OpL.move (.inl rfl) rfl) ?_
    refine .t rfl rfl (O.lit (enc := (encI .u8)) (l := [o3]) sl41 rfl rfl rfl rfl rfl rfl rfl rfl rfl) ?_
    refine .t rfl rfl (O.appO sl41 (EncOk.int .u8) c6 rfl rfl rfl rfl rfl) ?_
    refine .v rfl rfl (OpL.nilP rfl rfl rfl) ?_
    refine .v rfl rfl (O.fld fld43_0 rfl rfl rfl) ?_
    refine .s rfl rfl (O.st ty41 rfl rfl rfl rfl rfl rfl rfl rfl rfl rfl (all' := [.own 1002]) rfl) ?_
    refine .nil ?_
    cases h
    exact leaves (.inl rfl) rfl (.tup _ _ _ _ .nil) (cS (.ptr _ _ _ _ _ rfl (cC (.own _ _ _ _ rfl) .nil)) (cN .nil)) rfl rfl
  · clear h
    have h := b4
    refine W.cond rfl (fun q5 => ?_) (fun q5 => ?_)
    · have h := ifT q5 h
      refine W.pk ?_
      refine .v rfl rfl (OpL.move (.inr rfl) rfl) ?_
      refine .nil ?_
      cases h
      exact toN (Gives.mkR [] (.c rfl (.rfl _) rfl (.c rfl (.rfl _) rfl .n)) (.c rfl (.rfl _) rfl rfl (.c rfl (.rfl _) rfl rfl .n)) rfl rfl rfl)
    · have h := ifF q5 h
      refine W.skip ?_
      cases h
      exact toN (Gives.mkR [] (.c rfl (.rfl _) rfl (.c rfl (.rfl _) rfl .n)) (.c rfl (.rfl _) rfl rfl (.c rfl (.rfl _) rfl rfl .n)) rfl rfl rfl)

noncomputable def wire_Writer_Ints.b0 (x1 : List Int) (v7 : Int) (v8 : List Int) : Option ((Int × (List Int)) ⊕ (List Int)) :=
  if (decide (v7 < (List.length x1 : Int))) = true then
    if (0 : Int) ≤ v7 ∧ v7 < (List.length x1 : Int) then
    (wire_Writer_Int.f (⟨v8⟩ : wire_Writer) (nth x1 v7)).bind fun t23 =>
    some (.inl ((IntKind.wrap .i64 (v7 + 1)), t23.b))
    else none
  else
    some (.inr v8)
noncomputable def wire_Writer_Ints.r0 (x1 : List Int) (s : Int × (List Int)) : Option ((Int × (List Int)) ⊕ (List Int)) := wire_Writer_Ints.b0 x1 s.1 s.2
noncomputable def wire_Writer_Ints.f (x0 : wire_Writer) (x1 : List Int) : Option (wire_Writer) :=
  (wire_Writer_Uint.f x0 (IntKind.wrap .u64 (List.length x1 : Int))).bind fun t1 =>
  (loop (wire_Writer_Ints.r0 x1) (0, t1.b)).bind fun o18 =>
  some (⟨o18⟩ : wire_Writer)
set_option maxRecDepth 100000 in
set_option maxHeartbeats 4000000 in
theorem wire_Writer_Ints.ok {x0 : wire_Writer} {x1 : List Int} {r : wire_Writer} (h : wire_Writer_Ints.f x0 x1 = some r) : Pm.Spec prog 34 [.xbox [.xown 5 1 (List.map (encI .u8) x0.b)], .imm (.row 1 (List.map (encI .i64) x1))] (.tup []) [some (.xbox [.xown 5 1 (List.map (encI .u8) r.b)]), none] := by
  unfold wire_Writer_Ints.f at h
  refine Pm.Spec.of_body Try.func34 rfl (by kernel_rfl) (Nat.le_of_ble_eq_true rfl) (Nat.le_of_ble_eq_true rfl) ?_
  refine W.ghost (σ' := (mkSt [(0, some (.ptr 0 0)), (1, some (.imm (.row 1 (List.map (encI .i64) x1))))] [(0, some (.box [.own 1])), (1, some (.rows 5 1 (List.map (encI .u8) x0.b) false))] 1000)) (Gives.entry (.c rfl (.c rfl .n)) (.c rfl (.c rfl .n))) ?_
  refine W.ghost (σ' := (mkSt [(0, some (.ptr 0 0)), (1, some (.imm (.row 1 (List.map (encI .i64) x1))))] [(0, some (.box [.own 1000])), (1000, some (.rows 5 1 (List.map (encI .u8) x0.b) false))] 1001)) (Gives.mkR [(1000, 1)] (.c rfl (.rfl _) rfl (.c rfl (.rfl _) rfl .n)) (.c rfl (.rfl _) rfl rfl (.c rfl (.rfl _) rfl rfl .n)) rfl rfl rfl) ?_
  refine W.seq ?_
  obtain ⟨t1, b2, h⟩ := bnd1 h
  refine W.pk ?_
  refine .v rfl rfl (OpL.move (.inl rfl) rfl) ?_
  refine .v rfl rfl (OpL.move (.inl rfl) rfl) ?_
  refine .v rfl rfl (O.lenR sl26 rfl rfl) ?_
  refine .v rfl rfl (O.conv h3 u25 rfl rfl) ?_
  refine .call (.tup []) [(0, some (.box [.own 1001])), (1001, some (.rows 5 1 (List.map (encI .u8) t1.b) false)), (0, none), (1000, none)] 1 (wire_Writer_Uint.ok b2) rfl rfl rfl ca19 rfl rfl (cC (.ptr _ _ _ _ _ rfl (cC (.own _ _ _ _ rfl) .nil)) (cC (.imm _) .nil)) rfl rfl rfl rfl rfl ?_
  refine .nil ?_
  refine W.seq ?_
  refine W.pk ?_
  refine .v rfl rfl (OpL.move (.inl rfl) rfl) ?_
  refine .v rfl rfl (O.lenR sl26 rfl rfl) ?_
  refine .v rfl rfl (OpL.move (.inl rfl) rfl) ?_
  refine .nil ?_
  obtain ⟨o18, b19, h⟩ := bnd1 h
  refine W.fork (mkSt [] [(0, some (.box [.own 1001])), (1001, some (.rows 5 1 (List.map (encI .u8) o18) false))] 1002) ?_ ?_
  · cases h
    exact leaves (.inl rfl) rfl (.tup _ _ _ _ .nil) (cS (.ptr _ _ _ _ _ rfl (cC (.own _ _ _ _ rfl) .nil)) (cN .nil)) rfl rfl
  · clear h
    refine W.block ?_
    refine W.loopF (fun (s_ : Int × (List Int)) => mkSt [(0, some (.ptr 0 0)), (11, some (.imm (.row 1 (List.map (encI .i64) x1)))), (12, some (.imm (.val (.int .i64 (List.length x1 : Int))))), (13, some (.imm (.val (.int .i64 s_.1))))] [(0, some (.box [.own 1001])), (1001, some (.rows 5 1 (List.map (encI .u8) s_.2) false))] 1002) b19 (Gives.mkR [] (.c rfl (.rfl _) rfl (.c rfl (.rfl _) rfl (.c rfl (.rfl _) rfl (.c rfl (.rfl _) rfl .n)))) (.c rfl (.rfl _) rfl rfl (.c rfl (.rfl _) rfl rfl .n)) rfl rfl rfl) ?_
    rintro ⟨v7, v8⟩ s_ hr
    have h : wire_Writer_Ints.b0 x1 v7 v8 = some s_ := hr
    unfold wire_Writer_Ints.b0 at h
    refine W.seq ?_
    refine W.pk ?_
    refine .v rfl rfl (OpL.binI rfl rfl rfl rfl) ?_
    refine .nil ?_
    refine W.seq ?_
    refine W.cond rfl (fun q21 => ?_) (fun q21 => ?_)
    · have h := ifT q21 h
      refine W.skip ?_
      refine W.seq ?_
      refine W.block ?_
      refine W.seq ?_
      obtain ⟨c22, h⟩ := chk h
      refine W.pk ?_
      refine .v rfl rfl (O.idx sl26 c22 rfl rfl rfl) ?_
      refine .v rfl rfl (O.ld ty3 rfl rfl rfl) ?_
      refine .v rfl rfl (OpL.move (.inr rfl) rfl) ?_
      refine .nil ?_
      obtain ⟨t23, b24, h⟩ := bnd1 h
      refine W.pk ?_
      refine .v rfl rfl (OpL.move (.inl rfl) rfl) ?_
      refine .v rfl rfl (OpL.move (.inl rfl) rfl) ?_
      refine .call (.tup []) [(0, some (.box [.own 1002])), (1002, some (.rows 5 1 (List.map (encI .u8) t23.b) false)), (0, none), (1001, none)] 1 (wire_Writer_Int.ok b24) rfl rfl rfl ca31 rfl rfl (cC (.ptr _ _ _ _ _ rfl (cC (.own _ _ _ _ rfl) .nil)) (cC (.imm _) .nil)) rfl rfl rfl rfl rfl ?_
      refine .nil ?_
      refine W.pk ?_
      refine .v rfl rfl (OpL.binI rfl rfl rfl rfl) ?_
      refine .v rfl rfl (OpL.move (.inl rfl) rfl) ?_
      refine .nil ?_
      cases h
      exact rdN (Gives.mkR [(1001, 1002)] (.c rfl (.rfl _) rfl (.c rfl (.rfl _) rfl (.c rfl (.rfl _) rfl (.c rfl (.rfl _) rfl .n)))) (.c rfl (.rfl _) rfl rfl (.c rfl (.rfl _) rfl rfl .n)) rfl rfl rfl)
    · have h := ifF q21 h
      refine W.exit ?_
      cases h
      refine rdX fun e_ => ?_
      subst e_
      repeat with_reducible refine thru ?_
      refine hit ?_
      exact toN (Gives.mkR [] .n (.c rfl (.rfl _) rfl rfl (.c rfl (.rfl _) rfl rfl .n)) rfl rfl rfl)

noncomputable def wire_Writer_Bytes.f (x0 : wire_Writer) : Option (Bs) :=
  some (toB x0.b)
set_option maxRecDepth 100000 in
set_option maxHeartbeats 4000000 in
theorem wire_Writer_Bytes.ok {x0 : wire_Writer} {r : Bs} (h : wire_Writer_Bytes.f x0 = some r) : Pm.Spec prog 20 [.xbox [.xown 5 1 (List.map (encI .u8) x0.b)]] (.imm (.val (.string (tx r)))) [some (.xbox [.xown 5 1 (List.map (encI .u8) x0.b)])] := by
  unfold wire_Writer_Bytes.f at h
  refine Pm.Spec.of_body Try.func20 rfl (by kernel_rfl) (Nat.le_of_ble_eq_true rfl) (Nat.le_of_ble_eq_true rfl) ?_
  refine W.ghost (σ' := (mkSt [(0, some (.ptr 0 0))] [(0, some (.box [.own 1])), (1, some (.rows 5 1 (List.map (encI .u8) x0.b) false))] 1000)) (Gives.entry (.c rfl .n) (.c rfl (.c rfl .n))) ?_
  refine W.ghost (σ' := (mkSt [(0, some (.ptr 0 0))] [(0, some (.box [.own 1000])), (1000, some (.rows 5 1 (List.map (encI .u8) x0.b) false))] 1001)) (Gives.mkR [(1000, 1)] (.c rfl (.rfl _) rfl .n) (.c rfl (.rfl _) rfl rfl (.c rfl (.rfl _) rfl rfl .n)) rfl rfl rfl) ?_
  refine W.seq ?_
  refine W.pk ?_
  refine .v rfl rfl (OpL.move (.inr rfl) rfl) ?_
  refine .nil ?_
  refine W.seq ?_
  refine W.pk ?_
  refine .v rfl rfl (OpL.move (.inl rfl) rfl) ?_
  refine .v rfl rfl (OpL.nilP rfl rfl rfl) ?_
  refine .v rfl rfl (O.fld fld43_0 rfl rfl rfl) ?_
  refine .v rfl rfl (O.ld ty41 rfl rfl rfl) ?_
  refine .v rfl rfl (O.toS (l := x0.b) sl41.ht u5 u9 rfl rfl rfl) ?_
  refine .v rfl rfl (OpL.move (.inr rfl) rfl) ?_
  refine .nil ?_
  refine W.ret ?_
  cases h
  exact leaves (.inr rfl) rfl (.imm _) (cS (.ptr _ _ _ _ _ rfl (cC (.own _ _ _ _ rfl) .nil)) .nil) rfl rfl

noncomputable def lombardlaw09_written.b0 (x0 : List lombardlaw09_Item) (v34 : Int) (v35 : List Int) : Option ((Int × (List Int)) ⊕ (List Int)) :=
  if (decide (v34 < (List.length x0 : Int))) = true then
    if (0 : Int) ≤ v34 ∧ v34 < (List.length x0 : Int) then
    if (((nth x0 v34).Kind) == 0) = true then
      (wire_Writer_Uint.f (⟨v35⟩ : wire_Writer) ((nth x0 v34).U)).bind fun t75 =>
      some (.inl ((IntKind.wrap .i64 (v34 + 1)), t75.b))
    else
      if (((nth x0 v34).Kind) == 1) = true then
        (wire_Writer_Int.f (⟨v35⟩ : wire_Writer) ((nth x0 v34).N)).bind fun t78 =>
        some (.inl ((IntKind.wrap .i64 (v34 + 1)), t78.b))
      else
        if (((nth x0 v34).Kind) == 2) = true then
          (wire_Writer_Text.f (⟨v35⟩ : wire_Writer) ((nth x0 v34).Text)).bind fun t81 =>
          some (.inl ((IntKind.wrap .i64 (v34 + 1)), t81.b))
        else
          if (((nth x0 v34).Kind) == 3) = true then
            (wire_Writer_Bool.f (⟨v35⟩ : wire_Writer) ((nth x0 v34).OK)).bind fun t84 =>
            some (.inl ((IntKind.wrap .i64 (v34 + 1)), t84.b))
          else
            (wire_Writer_Ints.f (⟨v35⟩ : wire_Writer) ((nth x0 v34).L)).bind fun t86 =>
            some (.inl ((IntKind.wrap .i64 (v34 + 1)), t86.b))
    else none
  else
    some (.inr v35)
noncomputable def lombardlaw09_written.r0 (x0 : List lombardlaw09_Item) (s : Int × (List Int)) : Option ((Int × (List Int)) ⊕ (List Int)) := lombardlaw09_written.b0 x0 s.1 s.2
noncomputable def lombardlaw09_written.f (x0 : List lombardlaw09_Item) : Option (Bs) :=
  (loop (lombardlaw09_written.r0 x0) (0, [])).bind fun o69 =>
  (wire_Writer_Bytes.f (⟨o69⟩ : wire_Writer)).bind fun t88 =>
  some t88
set_option maxRecDepth 100000 in
set_option maxHeartbeats 4000000 in
theorem lombardlaw09_written.ok {x0 : List lombardlaw09_Item} {r : Bs} (h : lombardlaw09_written.f x0 = some r) : Pm.Spec prog 14 [.xown 28 6 (List.map lombardlaw09_Item.enc x0)] (.imm (.val (.string (tx r)))) [some (.xown 28 6 (List.map lombardlaw09_Item.enc x0))] := by
  unfold lombardlaw09_written.f at h
  refine Pm.Spec.of_body Try.func14 rfl (by kernel_rfl) (Nat.le_of_ble_eq_true rfl) (Nat.le_of_ble_eq_true rfl) ?_
  refine W.ghost (σ' := (mkSt [(0, some (.own 0))] [(0, some (.rows 28 6 (List.map lombardlaw09_Item.enc x0) false))] 1000)) (Gives.entry (.c rfl .n) (.c rfl .n)) ?_
  refine W.seq ?_
  refine W.pk ?_
  refine .v rfl rfl (OpL.move (.inr rfl) rfl) ?_
  refine .nil ?_
  refine W.seq ?_
  refine W.pk ?_
  refine .t rfl rfl (O.alloc z43 rfl) ?_
  refine .nil ?_
  refine W.seq ?_
  refine W.seq ?_
  refine W.pk ?_
  refine .v rfl rfl (OpL.move (.inr rfl) rfl) ?_
  refine .nil ?_
  refine W.ghost (Gives.mintB 1000 0 5 1 rfl rfl) ?_
  obtain ⟨o69, b70, h⟩ := bnd1 h
  refine W.fork (mkSt [(3, some (.ptr 1000 0))] [(0, some (.rows 28 6 (List.map lombardlaw09_Item.enc x0) false)), (1000, some (.box [.own 1001])), (1001, some (.rows 5 1 (List.map (encI .u8) o69) false))] 1002) ?_ ?_
  · refine W.seq ?_
    obtain ⟨t88, b89, h⟩ := bnd1 h
    refine W.pk ?_
    refine .call (.imm (.val (.string (tx t88)))) [(1000, some (.box [.own 1002])), (1002, some (.rows 5 1 (List.map (encI .u8) ((⟨o69⟩ : wire_Writer).b)) false)), (1000, none), (1001, none)] 1 (wire_Writer_Bytes.ok b89) rfl rfl rfl ca20 rfl rfl (cC (.ptr _ _ _ _ _ rfl (cC (.own _ _ _ _ rfl) .nil)) .nil) rfl rfl rfl rfl rfl ?_
    refine .v rfl rfl (OpL.move (.inr rfl) rfl) ?_
    refine .nil ?_
    refine W.ret ?_
    cases h
    exact leaves (.inr rfl) rfl (.imm _) (cS (.own _ _ _ _ rfl) .nil) rfl rfl
  · clear h
    refine W.block ?_
    refine W.loopF (fun (s_ : Int × (List Int)) => mkSt [(0, some (.own 0)), (3, some (.ptr 1000 0)), (4, some (.imm (.val (.int .i64 s_.1))))] [(0, some (.rows 28 6 (List.map lombardlaw09_Item.enc x0) false)), (1000, some (.box [.own 1001])), (1001, some (.rows 5 1 (List.map (encI .u8) s_.2) false))] 1002) b70 (Gives.mkR [] (.c rfl (.rfl _) rfl (.c rfl (.rfl _) rfl (.c rfl (.rfl _) rfl .n))) (.c rfl (.rfl _) rfl rfl (.c rfl (.rfl _) rfl rfl (.c rfl (.rfl _) rfl rfl .n))) rfl rfl rfl) ?_
    rintro ⟨v34, v35⟩ s_ hr
    have h : lombardlaw09_written.b0 x0 v34 v35 = some s_ := hr
    unfold lombardlaw09_written.b0 at h
    refine W.seq ?_
    refine W.seq ?_
    refine W.pk ?_
    refine .v rfl rfl (OpL.move (.inl rfl) rfl) ?_
    refine .v rfl rfl (OpL.move (.inl rfl) rfl) ?_
    refine .v rfl rfl (O.lenO sl22 rfl rfl rfl) ?_
    refine .v rfl rfl (OpL.binI rfl rfl rfl rfl) ?_
    refine .nil ?_
    refine W.cond rfl (fun q72 => ?_) (fun q72 => ?_)
    · have h := ifT q72 h
      refine W.skip ?_
      refine W.seq ?_
      refine W.block ?_
      refine W.seq ?_
      obtain ⟨c73, h⟩ := chk h
      refine W.pk ?_
      refine .v rfl rfl (OpL.move (.inl rfl) rfl) ?_
      refine .v rfl rfl (OpL.move (.inl rfl) rfl) ?_
      refine .v rfl rfl (O.idxO sl22 c73 rfl rfl rfl rfl) ?_
      refine .v rfl rfl (O.ldEN ty28 c73 rfl rfl rfl rfl rfl) ?_
      refine .t rfl rfl (O.alloc z28 rfl) ?_
      refine .s rfl rfl (O.st ty28 rfl rfl rfl rfl rfl rfl rfl rfl rfl rfl (all' := [.imm (.val (.int .i64 ((nth x0 v34).Kind))), .imm (.val (.int .u64 ((nth x0 v34).U))), .imm (.val (.int .i64 ((nth x0 v34).N))), .imm (.val (.string (tx ((nth x0 v34).Text)))), .imm (.val (.bool ((nth x0 v34).OK))), .imm (.row 1 (List.map (encI .i64) ((nth x0 v34).L)))]) rfl) ?_
      refine .nil ?_
      refine W.seq ?_
      refine W.pk ?_
      refine .v rfl rfl (O.fld fld28_0 rfl rfl rfl) ?_
      refine .v rfl rfl (O.ld ty3 rfl rfl rfl) ?_
      refine .nil ?_
      refine W.block ?_
      refine W.seq ?_
      refine W.pk ?_
      refine .v rfl rfl (OpL.binI rfl rfl rfl rfl) ?_
      refine .v rfl rfl (OpL.move (.inr rfl) rfl) ?_
      refine .nil ?_
      refine W.cond rfl (fun q74 => ?_) (fun q74 => ?_)
      · have h := ifT q74 h
        obtain ⟨t75, b76, h⟩ := bnd1 h
        refine W.pk ?_
        refine .v rfl rfl (O.fld fld28_1 rfl rfl rfl) ?_
        refine .v rfl rfl (O.ld ty25 rfl rfl rfl) ?_
        refine .call (.tup []) [(1000, some (.box [.own 1003])), (1003, some (.rows 5 1 (List.map (encI .u8) t75.b) false)), (1000, none), (1001, none)] 1 (wire_Writer_Uint.ok b76) rfl rfl rfl ca19 rfl rfl (cC (.ptr _ _ _ _ _ rfl (cC (.own _ _ _ _ rfl) .nil)) (cC (.imm _) .nil)) rfl rfl rfl rfl rfl ?_
        refine .nil ?_
        refine W.pk ?_
        refine .v rfl rfl (OpL.move (.inl rfl) rfl) ?_
        refine .v rfl rfl (OpL.binI rfl rfl rfl rfl) ?_
        refine .v rfl rfl (OpL.move (.inr rfl) rfl) ?_
        refine .nil ?_
        cases h
        exact rdN (Gives.mkR [(1001, 1003)] (.c rfl (.rfl _) rfl (.c rfl (.rfl _) rfl (.c rfl (.rfl _) rfl .n))) (.c rfl (.rfl _) rfl rfl (.c rfl (.rfl _) rfl rfl (.c rfl (.rfl _) rfl rfl .n))) rfl rfl rfl)
      · have h := ifF q74 h
        refine W.seq ?_
        refine W.pk ?_
        refine .v rfl rfl (OpL.binI rfl rfl rfl rfl) ?_
        refine .v rfl rfl (OpL.move (.inr rfl) rfl) ?_
        refine .nil ?_
        refine W.cond rfl (fun q77 => ?_) (fun q77 => ?_)
        · have h := ifT q77 h
          obtain ⟨t78, b79, h⟩ := bnd1 h
          refine W.pk ?_
          refine .v rfl rfl (O.fld fld28_2 rfl rfl rfl) ?_
          refine .v rfl rfl (O.ld ty3 rfl rfl rfl) ?_
          refine .call (.tup []) [(1000, some (.box [.own 1003])), (1003, some (.rows 5 1 (List.map (encI .u8) t78.b) false)), (1000, none), (1001, none)] 1 (wire_Writer_Int.ok b79) rfl rfl rfl ca31 rfl rfl (cC (.ptr _ _ _ _ _ rfl (cC (.own _ _ _ _ rfl) .nil)) (cC (.imm _) .nil)) rfl rfl rfl rfl rfl ?_
          refine .nil ?_
          refine W.pk ?_
          refine .v rfl rfl (OpL.move (.inl rfl) rfl) ?_
          refine .v rfl rfl (OpL.binI rfl rfl rfl rfl) ?_
          refine .v rfl rfl (OpL.move (.inr rfl) rfl) ?_
          refine .nil ?_
          cases h
          exact rdN (Gives.mkR [(1001, 1003)] (.c rfl (.rfl _) rfl (.c rfl (.rfl _) rfl (.c rfl (.rfl _) rfl .n))) (.c rfl (.rfl _) rfl rfl (.c rfl (.rfl _) rfl rfl (.c rfl (.rfl _) rfl rfl .n))) rfl rfl rfl)
        · have h := ifF q77 h
          refine W.seq ?_
          refine W.pk ?_
          refine .v rfl rfl (OpL.binI rfl rfl rfl rfl) ?_
          refine .v rfl rfl (OpL.move (.inr rfl) rfl) ?_
          refine .nil ?_
          refine W.cond rfl (fun q80 => ?_) (fun q80 => ?_)
          · have h := ifT q80 h
            obtain ⟨t81, b82, h⟩ := bnd1 h
            refine W.pk ?_
            refine .v rfl rfl (O.fld fld28_3 rfl rfl rfl) ?_
            refine .v rfl rfl (O.ld ty9 rfl rfl rfl) ?_
            refine .call (.tup []) [(1000, some (.box [.own 1003])), (1003, some (.rows 5 1 (List.map (encI .u8) t81.b) false)), (1000, none), (1001, none)] 1 (wire_Writer_Text.ok b82) rfl rfl rfl ca32 rfl rfl (cC (.ptr _ _ _ _ _ rfl (cC (.own _ _ _ _ rfl) .nil)) (cC (.imm _) .nil)) rfl rfl rfl rfl rfl ?_
            refine .nil ?_
            refine W.pk ?_
            refine .v rfl rfl (OpL.move (.inl rfl) rfl) ?_
            refine .v rfl rfl (OpL.binI rfl rfl rfl rfl) ?_
            refine .v rfl rfl (OpL.move (.inr rfl) rfl) ?_
            refine .nil ?_
            cases h
            exact rdN (Gives.mkR [(1001, 1003)] (.c rfl (.rfl _) rfl (.c rfl (.rfl _) rfl (.c rfl (.rfl _) rfl .n))) (.c rfl (.rfl _) rfl rfl (.c rfl (.rfl _) rfl rfl (.c rfl (.rfl _) rfl rfl .n))) rfl rfl rfl)
          · have h := ifF q80 h
            refine W.seq ?_
            refine W.pk ?_
            refine .v rfl rfl (OpL.binI rfl rfl rfl rfl) ?_
            refine .v rfl rfl (OpL.move (.inr rfl) rfl) ?_
            refine .nil ?_
            refine W.cond rfl (fun q83 => ?_) (fun q83 => ?_)
            · have h := ifT q83 h
              obtain ⟨t84, b85, h⟩ := bnd1 h
              refine W.pk ?_
              refine .v rfl rfl (O.fld fld28_4 rfl rfl rfl) ?_
              refine .v rfl rfl (O.ld ty4 rfl rfl rfl) ?_
              refine .call (.tup []) [(1000, some (.box [.own 1003])), (1003, some (.rows 5 1 (List.map (encI .u8) t84.b) false)), (1000, none), (1001, none)] 1 (wire_Writer_Bool.ok b85) rfl rfl rfl ca33 rfl rfl (cC (.ptr _ _ _ _ _ rfl (cC (.own _ _ _ _ rfl) .nil)) (cC (.imm _) .nil)) rfl rfl rfl rfl rfl ?_
              refine .nil ?_
              refine W.pk ?_
              refine .v rfl rfl (OpL.move (.inl rfl) rfl) ?_
              refine .v rfl rfl (OpL.binI rfl rfl rfl rfl) ?_
              refine .v rfl rfl (OpL.move (.inr rfl) rfl) ?_
              refine .nil ?_
              cases h
              exact rdN (Gives.mkR [(1001, 1003)] (.c rfl (.rfl _) rfl (.c rfl (.rfl _) rfl (.c rfl (.rfl _) rfl .n))) (.c rfl (.rfl _) rfl rfl (.c rfl (.rfl _) rfl rfl (.c rfl (.rfl _) rfl rfl .n))) rfl rfl rfl)
            · have h := ifF q83 h
              obtain ⟨t86, b87, h⟩ := bnd1 h
              refine W.pk ?_
              refine .v rfl rfl (O.fld fld28_5 rfl rfl rfl) ?_
              refine .v rfl rfl (O.ld ty26 rfl rfl rfl) ?_
              refine .call (.tup []) [(1000, some (.box [.own 1003])), (1003, some (.rows 5 1 (List.map (encI .u8) t86.b) false)), (1000, none), (1001, none)] 1 (wire_Writer_Ints.ok b87) rfl rfl rfl ca34 rfl rfl (cC (.ptr _ _ _ _ _ rfl (cC (.own _ _ _ _ rfl) .nil)) (cC (.imm _) .nil)) rfl rfl rfl rfl rfl ?_
              refine .nil ?_
              refine W.pk ?_
              refine .v rfl rfl (OpL.move (.inl rfl) rfl) ?_
              refine .v rfl rfl (OpL.binI rfl rfl rfl rfl) ?_
              refine .v rfl rfl (OpL.move (.inr rfl) rfl) ?_
              refine .nil ?_
              cases h
              exact rdN (Gives.mkR [(1001, 1003)] (.c rfl (.rfl _) rfl (.c rfl (.rfl _) rfl (.c rfl (.rfl _) rfl .n))) (.c rfl (.rfl _) rfl rfl (.c rfl (.rfl _) rfl rfl (.c rfl (.rfl _) rfl rfl .n))) rfl rfl rfl)
    · have h := ifF q72 h
      refine W.exit ?_
      cases h
      refine rdX fun e_ => ?_
      subst e_
      repeat with_reducible refine thru ?_
      refine hit ?_
      exact toN (Gives.mkR [] (.c rfl (.rfl _) rfl .n) (.c rfl (.rfl _) rfl rfl (.c rfl (.rfl _) rfl rfl (.c rfl (.rfl _) rfl rfl .n))) rfl rfl rfl)

noncomputable def lombardlaw09_awake.f  : Option (Bool) :=
  (lombardlaw09_written.f [(⟨0, 300, 0, [], false, []⟩ : lombardlaw09_Item), (⟨1, 0, -1, [], false, []⟩ : lombardlaw09_Item), (⟨2, 0, 0, [97, 98], false, []⟩ : lombardlaw09_Item)]).bind fun t1 =>
  some (t1 == [130, 44, 1, 2, 97, 98])
set_option maxRecDepth 100000 in
set_option maxHeartbeats 4000000 in
theorem lombardlaw09_awake.ok  {r : Bool} (h : lombardlaw09_awake.f  = some r) : Pm.Spec prog 8 [] (.imm (.val (.bool r))) [] := by
  unfold lombardlaw09_awake.f at h
  refine Pm.Spec.of_body Try.func8 rfl (by kernel_rfl) (Nat.le_of_ble_eq_true rfl) (Nat.le_of_ble_eq_true rfl) ?_
  refine W.ghost (σ' := (mkSt [] [] 1000)) (Gives.entry .n .n) ?_
  refine W.seq ?_
  refine W.pk ?_
  refine .v rfl rfl (OpL.move (.inr rfl) rfl) ?_
  refine .nil ?_
  refine W.seq ?_
  obtain ⟨t1, b2, h⟩ := bnd1 h
  refine W.pk ?_
  refine .v rfl rfl (O.build (out := [.imm (.val (.int .i64 0)), .imm (.val (.int .u64 300)), .imm (.val (.int .i64 0)), .imm (.val (.string (tx []))), .imm (.val (.bool false)), .imm (.val (.slice none 0 0))]) bl28 rfl rfl rfl rfl rfl) ?_
  refine .v rfl rfl (O.build (out := [.imm (.val (.int .i64 1)), .imm (.val (.int .u64 0)), .imm (.val (.int .i64 (-1))), .imm (.val (.string (tx []))), .imm (.val (.bool false)), .imm (.val (.slice none 0 0))]) bl28 rfl rfl rfl rfl rfl) ?_
  refine .v rfl rfl (O.build (out := [.imm (.val (.int .i64 2)), .imm (.val (.int .u64 0)), .imm (.val (.int .i64 0)), .imm (.val (.string (tx [97, 98]))), .imm (.val (.bool false)), .imm (.val (.slice none 0 0))]) bl28 rfl rfl rfl rfl rfl) ?_
  refine .t rfl rfl (O.litN (enc := lombardlaw09_Item.enc) (l := [(⟨0, 300, 0, [], false, []⟩ : lombardlaw09_Item), (⟨1, 0, -1, [], false, []⟩ : lombardlaw09_Item), (⟨2, 0, 0, [97, 98], false, []⟩ : lombardlaw09_Item)]) sl22 (.cons (.cons (.same _) (.cons (.same _) (.cons (.same _) (.cons (.same _) (.cons (.same _) (.cons (.none 1) .nil)))))) (.cons (.cons (.same _) (.cons (.same _) (.cons (.same _) (.cons (.same _) (.cons (.same _) (.cons (.none 1) .nil)))))) (.cons (.cons (.same _) (.cons (.same _) (.cons (.same _) (.cons (.same _) (.cons (.same _) (.cons (.none 1) .nil)))))) .nil))) rfl rfl rfl rfl rfl rfl rfl rfl rfl) ?_
  refine .call (.imm (.val (.string (tx t1)))) [(1000, some (.rows 28 6 (List.map lombardlaw09_Item.enc [(⟨0, 300, 0, [], false, []⟩ : lombardlaw09_Item), (⟨1, 0, -1, [], false, []⟩ : lombardlaw09_Item), (⟨2, 0, 0, [97, 98], false, []⟩ : lombardlaw09_Item)]) false)), (1000, none)] 0 (lombardlaw09_written.ok b2) rfl rfl rfl ca14 rfl rfl (cC (.own _ _ _ _ rfl) .nil) rfl rfl rfl rfl rfl ?_
  refine .v rfl rfl (O.cmpS rfl rfl rfl rfl) ?_
  refine .v rfl rfl (OpL.move (.inr rfl) rfl) ?_
  refine .nil ?_
  refine W.ret ?_
  cases h
  exact leaves (.inr rfl) rfl (.imm _) .nil rfl rfl

noncomputable def lombardref09_Uint.b0  (v3 : Int) (v4 : Bs) : Option ((Int × Bs) ⊕ Bs) :=
  if (decide (v3 > 0)) = true then
    if ((toB [(IntKind.wrap .u8 (IntKind.wrap .u64 (128 + (Int.tmod v3 128))))]).length : Int) + v4.length ≤ 9223372036854775807 then
    some (.inl ((IntKind.wrap .u64 (Int.tdiv v3 128)), ((toB [(IntKind.wrap .u8 (IntKind.wrap .u64 (128 + (Int.tmod v3 128))))]) ++ v4)))
    else none
  else
    some (.inr v4)
noncomputable def lombardref09_Uint.r0  (s : Int × Bs) : Option ((Int × Bs) ⊕ Bs) := lombardref09_Uint.b0  s.1 s.2
noncomputable def lombardref09_Uint.f (x0 : Int) : Option (Bs) :=
  (loop lombardref09_Uint.r0 ((IntKind.wrap .u64 (Int.tdiv x0 128)), (toB [(IntKind.wrap .u8 (Int.tmod x0 128))]))).bind fun o10 =>
  some o10
set_option maxRecDepth 100000 in
set_option maxHeartbeats 4000000 in
theorem lombardref09_Uint.ok {x0 : Int} {r : Bs} (h : lombardref09_Uint.f x0 = some r) : Pm.Spec prog 9 [.imm (.val (.int .u64 x0))] (.imm (.val (.string (tx r)))) [none] := by
  unfold lombardref09_Uint.f at h
  refine Pm.Spec.of_body Try.func9 rfl (by kernel_rfl) (Nat.le_of_ble_eq_true rfl) (Nat.le_of_ble_eq_true rfl) ?_
  refine W.ghost (σ' := (mkSt [(0, some (.imm (.val (.int .u64 x0))))] [] 1000)) (Gives.entry (.c rfl .n) .n) ?_
  refine W.seq ?_
  refine W.pk ?_
  refine .v rfl rfl (OpL.move (.inr rfl) rfl) ?_
  refine .nil ?_
  refine W.seq ?_
  refine W.pk ?_
  refine .v rfl rfl (OpL.move (.inl rfl) rfl) ?_
  refine .v rfl rfl (O.rem rfl rfl rfl (by decide)) ?_
  refine .v rfl rfl (O.conv h25 u5 rfl rfl) ?_
  refine .t rfl rfl (O.lit (enc := (encI .u8)) (l := [(IntKind.wrap .u8 (Int.tmod x0 128))]) sl41 rfl rfl rfl rfl rfl rfl rfl rfl rfl) ?_
  refine .v rfl rfl (O.toS (l := [(IntKind.wrap .u8 (Int.tmod x0 128))]) sl41.ht u5 u9 rfl rfl rfl) ?_
  refine .v rfl rfl (OpL.move (.inr rfl) rfl) ?_
  refine .nil ?_
  refine W.seq ?_
  refine W.pk ?_
  refine .v rfl rfl (OpL.move (.inl rfl) rfl) ?_
  refine .v rfl rfl (O.quo rfl rfl rfl (by decide)) ?_
  refine .v rfl rfl (OpL.move (.inr rfl) rfl) ?_
  refine .nil ?_
  refine W.seq ?_
  obtain ⟨o10, b11, h⟩ := bnd1 h
  refine W.fork (mkSt [(3, some (.imm (.val (.string (tx o10)))))] [] 1001) ?_ ?_
  · refine W.seq ?_
    refine W.pk ?_
    refine .v rfl rfl (OpL.move (.inl rfl) rfl) ?_
    refine .v rfl rfl (OpL.move (.inr rfl) rfl) ?_
    refine .nil ?_
    refine W.ret ?_
    cases h
    exact leaves (.inr rfl) rfl (.imm _) (cN .nil) rfl rfl
  · clear h
    refine W.block ?_
    refine W.loopF (fun (s_ : Int × Bs) => mkSt [(0, some (.imm (.val (.int .u64 s_.1)))), (3, some (.imm (.val (.string (tx s_.2)))))] [] 1001) b11 (Gives.mkR [] (.c rfl (.rfl _) rfl (.c rfl (.rfl _) rfl .n)) .n rfl rfl rfl) ?_
    rintro ⟨v3, v4⟩ s_ hr
    have h : lombardref09_Uint.b0  v3 v4 = some s_ := hr
    unfold lombardref09_Uint.b0 at h
    refine W.seq ?_
    refine W.seq ?_
    refine W.pk ?_
    refine .v rfl rfl (OpL.move (.inl rfl) rfl) ?_
    refine .v rfl rfl (OpL.binI rfl rfl rfl rfl) ?_
    refine .nil ?_
    refine W.cond rfl (fun q13 => ?_) (fun q13 => ?_)
    · have h := ifT q13 h
      refine W.skip ?_
      refine W.block ?_
      refine W.seq ?_
      obtain ⟨c14, h⟩ := chk h
      refine W.pk ?_
      refine .v rfl rfl (OpL.move (.inl rfl) rfl) ?_
      refine .v rfl rfl (O.rem rfl rfl rfl (by decide)) ?_
      refine .v rfl rfl (OpL.binI rfl rfl rfl rfl) ?_
      refine .v rfl rfl (O.conv h25 u5 rfl rfl) ?_
      refine .t rfl rfl (O.lit (enc := (encI .u8)) (l := [(IntKind.wrap .u8 (IntKind.wrap .u64 (128 + (Int.tmod v3 128))))]) sl41 rfl rfl rfl rfl rfl rfl rfl rfl rfl) ?_
      refine .v rfl rfl (O.toS (l := [(IntKind.wrap .u8 (IntKind.wrap .u64 (128 + (Int.tmod v3 128))))]) sl41.ht u5 u9 rfl rfl rfl) ?_
      refine .v rfl rfl (OpL.move (.inl rfl) rfl) ?_
      refine .v rfl rfl (O.catS c14 rfl rfl rfl) ?_
      refine .v rfl rfl (OpL.move (.inr rfl) rfl) ?_
      refine .nil ?_
      refine W.pk ?_
      refine .v rfl rfl (OpL.move (.inl rfl) rfl) ?_
      refine .v rfl rfl (O.quo rfl rfl rfl (by decide)) ?_
      refine .v rfl rfl (OpL.move (.inr rfl) rfl) ?_
      refine .nil ?_
      cases h
      exact rdN (Gives.mkR [] (.c rfl (.rfl _) rfl (.c rfl (.rfl _) rfl .n)) .n rfl rfl rfl)
    · have h := ifF q13 h
      refine W.exit ?_
      cases h
      refine rdX fun e_ => ?_
      subst e_
      repeat with_reducible refine thru ?_
      refine hit ?_
      exact toN (Gives.mkR [] (.c rfl (.rfl _) rfl .n) .n rfl rfl rfl)

noncomputable def lombardref09_Fold.f (x0 : Int) : Option (Int) :=
  if (decide (x0 < 0)) = true then
    some (IntKind.wrap .u64 ((IntKind.wrap .u64 (2 * (IntKind.wrap .u64 (IntKind.wrap .i64 ((-1) - x0))))) + 1))
  else
    some (IntKind.wrap .u64 (2 * (IntKind.wrap .u64 x0)))
set_option maxRecDepth 100000 in
set_option maxHeartbeats 4000000 in
theorem lombardref09_Fold.ok {x0 : Int} {r : Int} (h : lombardref09_Fold.f x0 = some r) : Pm.Spec prog 30 [.imm (.val (.int .i64 x0))] (.imm (.val (.int .u64 r))) [none] := by
  unfold lombardref09_Fold.f at h
  refine Pm.Spec.of_body Try.func30 rfl (by kernel_rfl) (Nat.le_of_ble_eq_true rfl) (Nat.le_of_ble_eq_true rfl) ?_
  refine W.ghost (σ' := (mkSt [(0, some (.imm (.val (.int .i64 x0))))] [] 1000)) (Gives.entry (.c rfl .n) .n) ?_
  refine W.seq ?_
  refine W.pk ?_
  refine .v rfl rfl (OpL.move (.inr rfl) rfl) ?_
  refine .nil ?_
  refine W.seq ?_
  refine W.seq ?_
  refine W.pk ?_
  refine .v rfl rfl (OpL.move (.inl rfl) rfl) ?_
  refine .v rfl rfl (OpL.binI rfl rfl rfl rfl) ?_
  refine .nil ?_
  refine W.cond rfl (fun q1 => ?_) (fun q1 => ?_)
  · have h := ifT q1 h
    refine W.seq ?_
    refine W.pk ?_
    refine .v rfl rfl (OpL.move (.inl rfl) rfl) ?_
    refine .v rfl rfl (OpL.binI rfl rfl rfl rfl) ?_
    refine .v rfl rfl (O.conv h3 u25 rfl rfl) ?_
    refine .v rfl rfl (OpL.binI rfl rfl rfl rfl) ?_
    refine .v rfl rfl (OpL.binI rfl rfl rfl rfl) ?_
    refine .v rfl rfl (OpL.move (.inr rfl) rfl) ?_
    refine .nil ?_
    refine W.ret ?_
    cases h
    exact leaves (.inr rfl) rfl (.imm _) (cN .nil) rfl rfl
  · have h := ifF q1 h
    refine W.skip ?_
    refine W.seq ?_
    refine W.pk ?_
    refine .v rfl rfl (OpL.move (.inl rfl) rfl) ?_
    refine .v rfl rfl (O.conv h3 u25 rfl rfl) ?_
    refine .v rfl rfl (OpL.binI rfl rfl rfl rfl) ?_
    refine .v rfl rfl (OpL.move (.inr rfl) rfl) ?_
    refine .nil ?_
    refine W.ret ?_
    cases h
    exact leaves (.inr rfl) rfl (.imm _) (cN .nil) rfl rfl
end Go.Proofs.Ytoongmdkndbppaa
