/- Shows what functions of the program come to, each as a plain function: written by a program of the author's for this claim. -/
import Derived.Test.YtoongmdkndbppaaGx1
namespace Go.Proofs.Ytoongmdkndbppaa
open Go Go.Pm
set_option linter.unusedVariables false
set_option linter.unusedSimpArgs false
noncomputable def lombardlaw09_WireOne.f (x0 : Bs) : Option (Bool) :=
  (wire_NewReader.f x0).bind fun t1 =>
  (wire_Reader_Uint.f t1).bind fun t3 =>
  (wire_Reader_Err.f t3.2).bind fun t5 =>
  if (t5 != 0) = true then
    (if (t3.1 == 0) = true then wire_Reader_At.f t3.2 else some default).bind fun t8 =>
    (if ((t3.1 == 0) && (t8 == 0)) = true then lombardlaw09_awake.f else some default).bind fun t10 =>
    some (((t3.1 == 0) && (t8 == 0)) && t10)
  else
    (wire_Writer_Uint.f (⟨[]⟩ : wire_Writer) t3.1).bind fun t14 =>
    (wire_Reader_At.f t3.2).bind fun t16 =>
    (if (decide (t16 ≤ (List.length x0 : Int))) = true then wire_Writer_Bytes.f t14 else some default).bind fun t18 =>
    (if (decide (t16 ≤ (List.length x0 : Int))) = true then wire_Reader_At.f t3.2 else some default).bind fun t20 =>
    if ((decide (t16 ≤ (List.length x0 : Int))) = true → (0 : Int) ≤ 0 ∧ 0 ≤ t20 ∧ t20 ≤ (List.length x0 : Int)) then
    (if ((decide (t16 ≤ (List.length x0 : Int))) && (t18 == (List.take (Int.toNat t20 - Int.toNat 0) (List.drop (Int.toNat 0) x0)))) = true then lombardlaw09_awake.f else some default).bind fun t23 =>
    some (((decide (t16 ≤ (List.length x0 : Int))) && (t18 == (List.take (Int.toNat t20 - Int.toNat 0) (List.drop (Int.toNat 0) x0)))) && t23)
    else none
set_option maxRecDepth 100000 in
set_option maxHeartbeats 4000000 in
theorem lombardlaw09_WireOne.ok {x0 : Bs} {r : Bool} (h : lombardlaw09_WireOne.f x0 = some r) : Pm.Spec prog 4 [.imm (.val (.string (tx x0)))] (.imm (.val (.bool r))) [none] := by
  unfold lombardlaw09_WireOne.f at h
  refine Pm.Spec.of_body Try.func4 rfl (by kernel_rfl) (Nat.le_of_ble_eq_true rfl) (Nat.le_of_ble_eq_true rfl) ?_
  refine W.ghost (σ' := (mkSt [(0, some (.imm (.val (.string (tx x0)))))] [] 1000)) (Gives.entry (.c rfl .n) .n) ?_
  refine W.seq ?_
  refine W.pk ?_
  refine .v rfl rfl (OpL.move (.inr rfl) rfl) ?_
  refine .nil ?_
  refine W.seq ?_
  obtain ⟨t1, b2, h⟩ := bnd1 h
  refine W.pk ?_
  refine .v rfl rfl (OpL.move (.inl rfl) rfl) ?_
  refine .call (.ptr 1000 0) [(1000, some (.box [.imm (.val (.string (tx t1.s))), .imm (.val (.int .i64 t1.at')), .imm (.val (.int .i64 t1.e))]))] 1 (wire_NewReader.ok b2) rfl rfl rfl ca15 rfl rfl (cC (.imm _) .nil) rfl rfl rfl rfl rfl ?_
  refine .v rfl rfl (OpL.move (.inr rfl) rfl) ?_
  refine .nil ?_
  refine W.seq ?_
  refine W.seq ?_
  refine W.pk ?_
  refine .v rfl rfl (OpL.move (.inl rfl) rfl) ?_
  refine .v rfl rfl (OpL.eqP rfl u35 rfl rfl rfl) ?_
  refine .nil ?_
  refine W.cond rfl (fun q => by cases q) (fun _ => ?_)
  refine W.skip ?_
  refine W.seq ?_
  obtain ⟨t3, b4, h⟩ := bnd1 h
  refine W.pk ?_
  refine .v rfl rfl (OpL.move (.inl rfl) rfl) ?_
  refine .call (.imm (.val (.int .u64 t3.1))) [(1000, some (.box [.imm (.val (.string (tx t3.2.s))), .imm (.val (.int .i64 t3.2.at')), .imm (.val (.int .i64 t3.2.e))])), (1000, none)] 0 (wire_Reader_Uint.ok b4) rfl rfl rfl ca16 rfl rfl (cC (.ptr _ _ _ _ _ rfl (cC (.imm _) (cC (.imm _) (cC (.imm _) .nil)))) .nil) rfl rfl rfl rfl rfl ?_
  refine .v rfl rfl (OpL.move (.inr rfl) rfl) ?_
  refine .nil ?_
  refine W.seq ?_
  refine W.seq ?_
  obtain ⟨t5, b6, h⟩ := bnd1 h
  refine W.pk ?_
  refine .v rfl rfl (OpL.move (.inl rfl) rfl) ?_
  refine .call (.imm (.val (.int .i64 t5))) [(1000, some (.box [.imm (.val (.string (tx t3.2.s))), .imm (.val (.int .i64 t3.2.at')), .imm (.val (.int .i64 t3.2.e))])), (1000, none)] 0 (wire_Reader_Err.ok b6) rfl rfl rfl ca17 rfl rfl (cC (.ptr _ _ _ _ _ rfl (cC (.imm _) (cC (.imm _) (cC (.imm _) .nil)))) .nil) rfl rfl rfl rfl rfl ?_
  refine .v rfl rfl (OpL.binI rfl rfl rfl rfl) ?_
  refine .nil ?_
  refine W.cond rfl (fun q7 => ?_) (fun q7 => ?_)
  · have h := ifT q7 h
    refine W.seq ?_
    obtain ⟨t8, b9, h⟩ := bnd1 h
    obtain ⟨t10, b11, h⟩ := bnd1 h
    refine W.fork (mkSt [(2, some (.imm (.val (.bool (((t3.1 == 0) && (t8 == 0)) && t10)))))] [] 1001) ?_ ?_
    · refine W.ret ?_
      cases h
      exact leaves (.inr rfl) rfl (.imm _) (cN .nil) rfl rfl
    · clear h
      rcases tf (t3.1 == 0) with g12 | g12
      · rcases tf (t8 == 0) with g13 | g13
        · refine W.pk ?_
          refine .v rfl rfl (OpL.move (.inl rfl) rfl) ?_
          refine .v rfl rfl (OpL.binI rfl rfl rfl rfl) ?_
          refine .v rfl rfl (OpL.move (.inl rfl) rfl) ?_
          refine .v rfl (met rfl rfl rfl g12) (OpL.move (.inl rfl) rfl) ?_
          refine .call (.imm (.val (.int .i64 t8))) [(1000, some (.box [.imm (.val (.string (tx t3.2.s))), .imm (.val (.int .i64 t3.2.at')), .imm (.val (.int .i64 t3.2.e))])), (1000, none)] 0 (wire_Reader_At.ok ((if_pos (by first | (simp only [g12, g13, Bool.true_or, Bool.or_true, Bool.false_or, Bool.or_false, Bool.true_and, Bool.and_true, Bool.false_and, Bool.and_false, Bool.not_true, Bool.not_false, cond_true, cond_false]; done) | (repeat (first | rw [g12] | rw [g13])) <;> simp only [Bool.true_or, Bool.or_true, Bool.false_or, Bool.or_false, Bool.true_and, Bool.and_true, Bool.false_and, Bool.and_false, Bool.not_true, Bool.not_false, cond_true, cond_false])).symm.trans b9)) rfl (met rfl rfl rfl g12) rfl ca18 rfl rfl (cC (.ptr _ _ _ _ _ rfl (cC (.imm _) (cC (.imm _) (cC (.imm _) .nil)))) .nil) rfl rfl rfl rfl rfl ?_
          refine .v rfl (met rfl rfl rfl g12) (OpL.binI rfl rfl rfl rfl) ?_
          refine .v rfl rfl (O.pickT g12 rfl rfl rfl) ?_
          refine .v rfl rfl (OpL.move (.inl rfl) rfl) ?_
          refine .call (.imm (.val (.bool t10))) [] 0 (lombardlaw09_awake.ok ((if_pos (by first | (simp only [g12, g13, Bool.true_or, Bool.or_true, Bool.false_or, Bool.or_false, Bool.true_and, Bool.and_true, Bool.false_and, Bool.and_false, Bool.not_true, Bool.not_false, cond_true, cond_false]; done) | (repeat (first | rw [g12] | rw [g13])) <;> simp only [Bool.true_or, Bool.or_true, Bool.false_or, Bool.or_false, Bool.true_and, Bool.and_true, Bool.false_and, Bool.and_false, Bool.not_true, Bool.not_false, cond_true, cond_false])).symm.trans b11)) rfl (met rfl rfl rfl g13) rfl ca8 rfl rfl .nil rfl rfl rfl rfl rfl ?_
          refine .v rfl rfl (O.pickT g13 rfl rfl rfl) ?_
          refine .v rfl rfl (OpL.move (.inr rfl) rfl) ?_
          refine .nil ?_
          exact toN (Gives.mkR [] (.c rfl (sbb (by first | (simp only [g12, g13, Bool.true_or, Bool.or_true, Bool.false_or, Bool.or_false, Bool.true_and, Bool.and_true, Bool.false_and, Bool.and_false, Bool.not_true, Bool.not_false, cond_true, cond_false]; done) | (repeat (first | rw [g12] | rw [g13])) <;> simp only [Bool.true_or, Bool.or_true, Bool.false_or, Bool.or_false, Bool.true_and, Bool.and_true, Bool.false_and, Bool.and_false, Bool.not_true, Bool.not_false, cond_true, cond_false])) rfl .n) .n rfl rfl rfl)
        · refine W.pk ?_
          refine .v rfl rfl (OpL.move (.inl rfl) rfl) ?_
          refine .v rfl rfl (OpL.binI rfl rfl rfl rfl) ?_
          refine .v rfl rfl (OpL.move (.inl rfl) rfl) ?_
          refine .v rfl (met rfl rfl rfl g12) (OpL.move (.inl rfl) rfl) ?_
          refine .call (.imm (.val (.int .i64 t8))) [(1000, some (.box [.imm (.val (.string (tx t3.2.s))), .imm (.val (.int .i64 t3.2.at')), .imm (.val (.int .i64 t3.2.e))])), (1000, none)] 0 (wire_Reader_At.ok ((if_pos (by first | (simp only [g12, g13, Bool.true_or, Bool.or_true, Bool.false_or, Bool.or_false, Bool.true_and, Bool.and_true, Bool.false_and, Bool.and_false, Bool.not_true, Bool.not_false, cond_true, cond_false]; done) | (repeat (first | rw [g12] | rw [g13])) <;> simp only [Bool.true_or, Bool.or_true, Bool.false_or, Bool.or_false, Bool.true_and, Bool.and_true, Bool.false_and, Bool.and_false, Bool.not_true, Bool.not_false, cond_true, cond_false])).symm.trans b9)) rfl (met rfl rfl rfl g12) rfl ca18 rfl rfl (cC (.ptr _ _ _ _ _ rfl (cC (.imm _) (cC (.imm _) (cC (.imm _) .nil)))) .nil) rfl rfl rfl rfl rfl ?_
          refine .v rfl (met rfl rfl rfl g12) (OpL.binI rfl rfl rfl rfl) ?_
          refine .v rfl rfl (O.pickT g12 rfl rfl rfl) ?_
          refine .v rfl rfl (OpL.move (.inl rfl) rfl) ?_
          refine .x rfl (unmet rfl rfl rfl g13) ?_
          refine .v rfl rfl (O.pickF g13 rfl rfl rfl) ?_
          refine .v rfl rfl (OpL.move (.inr rfl) rfl) ?_
          refine .nil ?_
          exact toN (Gives.mkR [] (.c rfl (sbb (by first | (simp only [g12, g13, Bool.true_or, Bool.or_true, Bool.false_or, Bool.or_false, Bool.true_and, Bool.and_true, Bool.false_and, Bool.and_false, Bool.not_true, Bool.not_false, cond_true, cond_false]; done) | (repeat (first | rw [g12] | rw [g13])) <;> simp only [Bool.true_or, Bool.or_true, Bool.false_or, Bool.or_false, Bool.true_and, Bool.and_true, Bool.false_and, Bool.and_false, Bool.not_true, Bool.not_false, cond_true, cond_false])) rfl .n) .n rfl rfl rfl)
      · refine W.pk ?_
        refine .v rfl rfl (OpL.move (.inl rfl) rfl) ?_
        refine .v rfl rfl (OpL.binI rfl rfl rfl rfl) ?_
        refine .v rfl rfl (OpL.move (.inl rfl) rfl) ?_
        refine .x rfl (unmet rfl rfl rfl g12) ?_
        refine .x rfl (unmet rfl rfl rfl g12) ?_
        refine .x rfl (unmet rfl rfl rfl g12) ?_
        refine .v rfl rfl (O.pickF g12 rfl rfl rfl) ?_
        refine .v rfl rfl (OpL.move (.inl rfl) rfl) ?_
        refine .x rfl (unmet rfl rfl rfl rfl) ?_
        refine .v rfl rfl (O.pickF rfl rfl rfl rfl) ?_
        refine .v rfl rfl (OpL.move (.inr rfl) rfl) ?_
        refine .nil ?_
        exact toN (Gives.mkR [] (.c rfl (sbb (by simp only [g12, Bool.true_or, Bool.or_true, Bool.false_or, Bool.or_false, Bool.true_and, Bool.and_true, Bool.false_and, Bool.and_false, Bool.not_true, Bool.not_false, cond_true, cond_false])) rfl .n) .n rfl rfl rfl)
  · have h := ifF q7 h
    refine W.skip ?_
    refine W.seq ?_
    refine W.pk ?_
    refine .t rfl rfl (O.alloc z43 rfl) ?_
    refine .nil ?_
    refine W.seq ?_
    obtain ⟨t14, b15, h⟩ := bnd1 h
    refine W.pk ?_
    refine .v rfl rfl (OpL.move (.inl rfl) rfl) ?_
    refine .call (.tup []) [(1001, some (.box [.own 1002])), (1002, some (.rows 5 1 (List.map (encI .u8) t14.b) false)), (1001, none)] 1 (wire_Writer_Uint.ok b15) rfl rfl rfl ca19 rfl rfl (cC (.ptr _ _ _ _ _ rfl (cC (.nilown _ _) .nil)) (cC (.imm _) .nil)) rfl rfl rfl rfl rfl ?_
    refine .nil ?_
    refine W.seq ?_
    obtain ⟨t16, b17, h⟩ := bnd1 h
    obtain ⟨t18, b19, h⟩ := bnd1 h
    obtain ⟨t20, b21, h⟩ := bnd1 h
    obtain ⟨c22, h⟩ := chk h
    obtain ⟨t23, b24, h⟩ := bnd1 h
    refine W.fork (mkSt [(2, some (.imm (.val (.bool (((decide (t16 ≤ (List.length x0 : Int))) && (t18 == (List.take (Int.toNat t20 - Int.toNat 0) (List.drop (Int.toNat 0) x0)))) && t23)))))] [] 1004) ?_ ?_
    · refine W.ret ?_
      cases h
      exact leaves (.inr rfl) rfl (.imm _) (cN .nil) rfl rfl
    · clear h
      rcases tf (decide (t16 ≤ (List.length x0 : Int))) with g25 | g25
      · rcases tf (t18 == (List.take (Int.toNat t20 - Int.toNat 0) (List.drop (Int.toNat 0) x0))) with g26 | g26
        · refine W.pk ?_
          refine .v rfl rfl (OpL.move (.inl rfl) rfl) ?_
          refine .call (.imm (.val (.int .i64 t16))) [(1000, some (.box [.imm (.val (.string (tx t3.2.s))), .imm (.val (.int .i64 t3.2.at')), .imm (.val (.int .i64 t3.2.e))])), (1000, none)] 0 (wire_Reader_At.ok b17) rfl rfl rfl ca18 rfl rfl (cC (.ptr _ _ _ _ _ rfl (cC (.imm _) (cC (.imm _) (cC (.imm _) .nil)))) .nil) rfl rfl rfl rfl rfl ?_
          refine .v rfl rfl (OpL.move (.inl rfl) rfl) ?_
          refine .v rfl rfl (O.lenS u9 rfl rfl) ?_
          refine .v rfl rfl (OpL.binI rfl rfl rfl rfl) ?_
          refine .v rfl rfl (OpL.move (.inl rfl) rfl) ?_
          refine .call (.imm (.val (.string (tx t18)))) [(1001, some (.box [.own 1003])), (1003, some (.rows 5 1 (List.map (encI .u8) t14.b) false)), (1001, none), (1002, none)] 1 (wire_Writer_Bytes.ok ((if_pos (by first | (simp only [g25, g26, Bool.true_or, Bool.or_true, Bool.false_or, Bool.or_false, Bool.true_and, Bool.and_true, Bool.false_and, Bool.and_false, Bool.not_true, Bool.not_false, cond_true, cond_false]; done) | (repeat (first | rw [g25] | rw [g26])) <;> simp only [Bool.true_or, Bool.or_true, Bool.false_or, Bool.or_false, Bool.true_and, Bool.and_true, Bool.false_and, Bool.and_false, Bool.not_true, Bool.not_false, cond_true, cond_false])).symm.trans b19)) rfl (met rfl rfl rfl g25) rfl ca20 rfl rfl (cC (.ptr _ _ _ _ _ rfl (cC (.own _ _ _ _ rfl) .nil)) .nil) rfl rfl rfl rfl rfl ?_
          refine .v rfl (met rfl rfl rfl g25) (OpL.move (.inl rfl) rfl) ?_
          refine .v rfl (met rfl rfl rfl g25) (OpL.move (.inl rfl) rfl) ?_
          refine .call (.imm (.val (.int .i64 t20))) [(1000, some (.box [.imm (.val (.string (tx t3.2.s))), .imm (.val (.int .i64 t3.2.at')), .imm (.val (.int .i64 t3.2.e))])), (1000, none)] 0 (wire_Reader_At.ok ((if_pos (by first | (simp only [g25, g26, Bool.true_or, Bool.or_true, Bool.false_or, Bool.or_false, Bool.true_and, Bool.and_true, Bool.false_and, Bool.and_false, Bool.not_true, Bool.not_false, cond_true, cond_false]; done) | (repeat (first | rw [g25] | rw [g26])) <;> simp only [Bool.true_or, Bool.or_true, Bool.false_or, Bool.or_false, Bool.true_and, Bool.and_true, Bool.false_and, Bool.and_false, Bool.not_true, Bool.not_false, cond_true, cond_false])).symm.trans b21)) rfl (met rfl rfl rfl g25) rfl ca18 rfl rfl (cC (.ptr _ _ _ _ _ rfl (cC (.imm _) (cC (.imm _) (cC (.imm _) .nil)))) .nil) rfl rfl rfl rfl rfl ?_
          refine .v rfl (met rfl rfl rfl g25) (O.partS u9 (c22 (by first | (simp only [g25, g26, Bool.true_or, Bool.or_true, Bool.false_or, Bool.or_false, Bool.true_and, Bool.and_true, Bool.false_and, Bool.and_false, Bool.not_true, Bool.not_false, cond_true, cond_false]; done) | (repeat (first | rw [g25] | rw [g26])) <;> simp only [Bool.true_or, Bool.or_true, Bool.false_or, Bool.or_false, Bool.true_and, Bool.and_true, Bool.false_and, Bool.and_false, Bool.not_true, Bool.not_false, cond_true, cond_false])) rfl rfl rfl rfl) ?_
          refine .v rfl (met rfl rfl rfl g25) (O.cmpS rfl rfl rfl rfl) ?_
          refine .v rfl rfl (O.pickT g25 rfl rfl rfl) ?_
          refine .v rfl rfl (OpL.move (.inl rfl) rfl) ?_
          refine .call (.imm (.val (.bool t23))) [] 0 (lombardlaw09_awake.ok ((if_pos (by first | (simp only [g25, g26, Bool.true_or, Bool.or_true, Bool.false_or, Bool.or_false, Bool.true_and, Bool.and_true, Bool.false_and, Bool.and_false, Bool.not_true, Bool.not_false, cond_true, cond_false]; done) | (repeat (first | rw [g25] | rw [g26])) <;> simp only [Bool.true_or, Bool.or_true, Bool.false_or, Bool.or_false, Bool.true_and, Bool.and_true, Bool.false_and, Bool.and_false, Bool.not_true, Bool.not_false, cond_true, cond_false])).symm.trans b24)) rfl (met rfl rfl rfl g26) rfl ca8 rfl rfl .nil rfl rfl rfl rfl rfl ?_
          refine .v rfl rfl (O.pickT g26 rfl rfl rfl) ?_
          refine .v rfl rfl (OpL.move (.inr rfl) rfl) ?_
          refine .nil ?_
          exact toN (Gives.mkR [] (.c rfl (sbb (by first | (simp only [g25, g26, Bool.true_or, Bool.or_true, Bool.false_or, Bool.or_false, Bool.true_and, Bool.and_true, Bool.false_and, Bool.and_false, Bool.not_true, Bool.not_false, cond_true, cond_false]; done) | (repeat (first | rw [g25] | rw [g26])) <;> simp only [Bool.true_or, Bool.or_true, Bool.false_or, Bool.or_false, Bool.true_and, Bool.and_true, Bool.false_and, Bool.and_false, Bool.not_true, Bool.not_false, cond_true, cond_false])) rfl .n) .n rfl rfl rfl)
        · refine W.pk ?_
          refine .v rfl rfl (OpL.move (.inl rfl) rfl) ?_
          refine .call (.imm (.val (.int .i64 t16))) [(1000, some (.box [.imm (.val (.string (tx t3.2.s))), .imm (.val (.int .i64 t3.2.at')), .imm (.val (.int .i64 t3.2.e))])), (1000, none)] 0 (wire_Reader_At.ok b17) rfl rfl rfl ca18 rfl rfl (cC (.ptr _ _ _ _ _ rfl (cC (.imm _) (cC (.imm _) (cC (.imm _) .nil)))) .nil) rfl rfl rfl rfl rfl ?_
          refine .v rfl rfl (OpL.move (.inl rfl) rfl) ?_
          refine .v rfl rfl (O.lenS u9 rfl rfl) ?_
          refine .v rfl rfl (OpL.binI rfl rfl rfl rfl) ?_
          refine .v rfl rfl (OpL.move (.inl rfl) rfl) ?_
          refine .call (.imm (.val (.string (tx t18)))) [(1001, some (.box [.own 1003])), (1003, some (.rows 5 1 (List.map (encI .u8) t14.b) false)), (1001, none), (1002, none)] 1 (wire_Writer_Bytes.ok ((if_pos (by first | (simp only [g25, g26, Bool.true_or, Bool.or_true, Bool.false_or, Bool.or_false, Bool.true_and, Bool.and_true, Bool.false_and, Bool.and_false, Bool.not_true, Bool.not_false, cond_true, cond_false]; done) | (repeat (first | rw [g25] | rw [g26])) <;> simp only [Bool.true_or, Bool.or_true, Bool.false_or, Bool.or_false, Bool.true_and, Bool.and_true, Bool.false_and, Bool.and_false, Bool.not_true, Bool.not_false, cond_true, cond_false])).symm.trans b19)) rfl (met rfl rfl rfl g25) rfl ca20 rfl rfl (cC (.ptr _ _ _ _ _ rfl (cC (.own _ _ _ _ rfl) .nil)) .nil) rfl rfl rfl rfl rfl ?_
          refine .v rfl (met rfl rfl rfl g25) (OpL.move (.inl rfl) rfl) ?_
          refine .v rfl (met rfl rfl rfl g25) (OpL.move (.inl rfl) rfl) ?_
          refine .call (.imm (.val (.int .i64 t20))) [(1000, some (.box [.imm (.val (.string (tx t3.2.s))), .imm (.val (.int .i64 t3.2.at')), .imm (.val (.int .i64 t3.2.e))])), (1000, none)] 0 (wire_Reader_At.ok ((if_pos (by first | (simp only [g25, g26, Bool.true_or, Bool.or_true, Bool.false_or, Bool.or_false, Bool.true_and, Bool.and_true, Bool.false_and, Bool.and_false, Bool.not_true, Bool.not_false, cond_true, cond_false]; done) | (repeat (first | rw [g25] | rw [g26])) <;> simp only [Bool.true_or, Bool.or_true, Bool.false_or, Bool.or_false, Bool.true_and, Bool.and_true, Bool.false_and, Bool.and_false, Bool.not_true, Bool.not_false, cond_true, cond_false])).symm.trans b21)) rfl (met rfl rfl rfl g25) rfl ca18 rfl rfl (cC (.ptr _ _ _ _ _ rfl (cC (.imm _) (cC (.imm _) (cC (.imm _) .nil)))) .nil) rfl rfl rfl rfl rfl ?_
          refine .v rfl (met rfl rfl rfl g25) (O.partS u9 (c22 (by first | (simp only [g25, g26, Bool.true_or, Bool.or_true, Bool.false_or, Bool.or_false, Bool.true_and, Bool.and_true, Bool.false_and, Bool.and_false, Bool.not_true, Bool.not_false, cond_true, cond_false]; done) | (repeat (first | rw [g25] | rw [g26])) <;> simp only [Bool.true_or, Bool.or_true, Bool.false_or, Bool.or_false, Bool.true_and, Bool.and_true, Bool.false_and, Bool.and_false, Bool.not_true, Bool.not_false, cond_true, cond_false])) rfl rfl rfl rfl) ?_
          refine .v rfl (met rfl rfl rfl g25) (O.cmpS rfl rfl rfl rfl) ?_
          refine .v rfl rfl (O.pickT g25 rfl rfl rfl) ?_
          refine .v rfl rfl (OpL.move (.inl rfl) rfl) ?_
          refine .x rfl (unmet rfl rfl rfl g26) ?_
          refine .v rfl rfl (O.pickF g26 rfl rfl rfl) ?_
          refine .v rfl rfl (OpL.move (.inr rfl) rfl) ?_
          refine .nil ?_
          exact toN (Gives.mkR [] (.c rfl (sbb (by first | (simp only [g25, g26, Bool.true_or, Bool.or_true, Bool.false_or, Bool.or_false, Bool.true_and, Bool.and_true, Bool.false_and, Bool.and_false, Bool.not_true, Bool.not_false, cond_true, cond_false]; done) | (repeat (first | rw [g25] | rw [g26])) <;> simp only [Bool.true_or, Bool.or_true, Bool.false_or, Bool.or_false, Bool.true_and, Bool.and_true, Bool.false_and, Bool.and_false, Bool.not_true, Bool.not_false, cond_true, cond_false])) rfl .n) .n rfl rfl rfl)
      · refine W.pk ?_
        refine .v rfl rfl (OpL.move (.inl rfl) rfl) ?_
        refine .call (.imm (.val (.int .i64 t16))) [(1000, some (.box [.imm (.val (.string (tx t3.2.s))), .imm (.val (.int .i64 t3.2.at')), .imm (.val (.int .i64 t3.2.e))])), (1000, none)] 0 (wire_Reader_At.ok b17) rfl rfl rfl ca18 rfl rfl (cC (.ptr _ _ _ _ _ rfl (cC (.imm _) (cC (.imm _) (cC (.imm _) .nil)))) .nil) rfl rfl rfl rfl rfl ?_
        refine .v rfl rfl (OpL.move (.inl rfl) rfl) ?_
        refine .v rfl rfl (O.lenS u9 rfl rfl) ?_
        refine .v rfl rfl (OpL.binI rfl rfl rfl rfl) ?_
        refine .v rfl rfl (OpL.move (.inl rfl) rfl) ?_
        refine .x rfl (unmet rfl rfl rfl g25) ?_
        refine .x rfl (unmet rfl rfl rfl g25) ?_
        refine .x rfl (unmet rfl rfl rfl g25) ?_
        refine .x rfl (unmet rfl rfl rfl g25) ?_
        refine .x rfl (unmet rfl rfl rfl g25) ?_
        refine .x rfl (unmet rfl rfl rfl g25) ?_
        refine .v rfl rfl (O.pickF g25 rfl rfl rfl) ?_
        refine .v rfl rfl (OpL.move (.inl rfl) rfl) ?_
        refine .x rfl (unmet rfl rfl rfl rfl) ?_
        refine .v rfl rfl (O.pickF rfl rfl rfl rfl) ?_
        refine .v rfl rfl (OpL.move (.inr rfl) rfl) ?_
        refine .nil ?_
        exact toN (Gives.mkR [] (.c rfl (sbb (by simp only [g25, Bool.true_or, Bool.or_true, Bool.false_or, Bool.or_false, Bool.true_and, Bool.and_true, Bool.false_and, Bool.and_false, Bool.not_true, Bool.not_false, cond_true, cond_false])) rfl .n) .n rfl rfl rfl)

noncomputable def wire_Reader_Int.f (x0 : wire_Reader) : Option (Int × wire_Reader) :=
  (wire_Reader_Uint.f x0).bind fun t1 =>
  if ((bits .and .u64 t1.1 1) == 1) = true then
    some ((bits .xor .i64 (-1) (IntKind.wrap .i64 (shrI .u64 t1.1 1))), t1.2)
  else
    some ((IntKind.wrap .i64 (shrI .u64 t1.1 1)), t1.2)
set_option maxRecDepth 100000 in
set_option maxHeartbeats 4000000 in
theorem wire_Reader_Int.ok {x0 : wire_Reader} {r : Int × wire_Reader} (h : wire_Reader_Int.f x0 = some r) : Pm.Spec prog 21 [.xbox [.imm (.val (.string (tx x0.s))), .imm (.val (.int .i64 x0.at')), .imm (.val (.int .i64 x0.e))]] (.imm (.val (.int .i64 r.1))) [some (.xbox [.imm (.val (.string (tx r.2.s))), .imm (.val (.int .i64 r.2.at')), .imm (.val (.int .i64 r.2.e))])] := by
  unfold wire_Reader_Int.f at h
  refine Pm.Spec.of_body Try.func21 rfl (by kernel_rfl) (Nat.le_of_ble_eq_true rfl) (Nat.le_of_ble_eq_true rfl) ?_
  refine W.ghost (σ' := (mkSt [(0, some (.ptr 0 0))] [(0, some (.box [.imm (.val (.string (tx x0.s))), .imm (.val (.int .i64 x0.at')), .imm (.val (.int .i64 x0.e))]))] 1000)) (Gives.entry (.c rfl .n) (.c rfl .n)) ?_
  refine W.seq ?_
  refine W.pk ?_
  refine .v rfl rfl (OpL.move (.inr rfl) rfl) ?_
  refine .nil ?_
  refine W.seq ?_
  obtain ⟨t1, b2, h⟩ := bnd1 h
  refine W.pk ?_
  refine .v rfl rfl (OpL.move (.inl rfl) rfl) ?_
  refine .call (.imm (.val (.int .u64 t1.1))) [(0, some (.box [.imm (.val (.string (tx t1.2.s))), .imm (.val (.int .i64 t1.2.at')), .imm (.val (.int .i64 t1.2.e))])), (0, none)] 0 (wire_Reader_Uint.ok b2) rfl rfl rfl ca16 rfl rfl (cC (.ptr _ _ _ _ _ rfl (cC (.imm _) (cC (.imm _) (cC (.imm _) .nil)))) .nil) rfl rfl rfl rfl rfl ?_
  refine .v rfl rfl (OpL.move (.inr rfl) rfl) ?_
  refine .nil ?_
  refine W.seq ?_
  refine W.seq ?_
  refine W.pk ?_
  refine .v rfl rfl (OpL.move (.inl rfl) rfl) ?_
  refine .v rfl rfl (OpL.binI rfl rfl rfl rfl) ?_
  refine .v rfl rfl (OpL.binI rfl rfl rfl rfl) ?_
  refine .nil ?_
  refine W.cond rfl (fun q3 => ?_) (fun q3 => ?_)
  · have h := ifT q3 h
    refine W.seq ?_
    refine W.pk ?_
    refine .v rfl rfl (OpL.move (.inl rfl) rfl) ?_
    refine .v rfl rfl (O.shr (by decide) rfl rfl rfl) ?_
    refine .v rfl rfl (O.conv h25 u3 rfl rfl) ?_
    refine .v rfl rfl (OpL.unV rfl rfl rfl) ?_
    refine .v rfl rfl (OpL.move (.inr rfl) rfl) ?_
    refine .nil ?_
    refine W.ret ?_
    cases h
    exact leaves (.inr rfl) rfl (.imm _) (cS (.ptr _ _ _ _ _ rfl (cC (.imm _) (cC (.imm _) (cC (.imm _) .nil)))) .nil) rfl rfl
  · have h := ifF q3 h
    refine W.skip ?_
    refine W.seq ?_
    refine W.pk ?_
    refine .v rfl rfl (OpL.move (.inl rfl) rfl) ?_
    refine .v rfl rfl (O.shr (by decide) rfl rfl rfl) ?_
    refine .v rfl rfl (O.conv h25 u3 rfl rfl) ?_
    refine .v rfl rfl (OpL.move (.inr rfl) rfl) ?_
    refine .nil ?_
    refine W.ret ?_
    cases h
    exact leaves (.inr rfl) rfl (.imm _) (cS (.ptr _ _ _ _ _ rfl (cC (.imm _) (cC (.imm _) (cC (.imm _) .nil)))) .nil) rfl rfl

noncomputable def wire_Reader_Text.f (x0 : wire_Reader) (x1 : Int) : Option (Bs × wire_Reader) :=
  (wire_Reader_Uint.f x0).bind fun t1 =>
  if (t1.2.e != 0) = true then
    some ([], t1.2)
  else
    if ((decide (x1 < 0)) || (decide (t1.1 > (IntKind.wrap .u64 x1)))) = true then
      (wire_Reader_Fail.f (⟨t1.2.s, x0.at', t1.2.e⟩ : wire_Reader) 2).bind fun t6 =>
      some ([], t6)
    else
      if (decide (t1.1 > (IntKind.wrap .u64 (IntKind.wrap .i64 ((List.length t1.2.s : Int) - t1.2.at'))))) = true then
        (wire_Reader_Fail.f (⟨t1.2.s, x0.at', t1.2.e⟩ : wire_Reader) 14).bind fun t9 =>
        some ([], t9)
      else
        if (0 : Int) ≤ t1.2.at' ∧ t1.2.at' ≤ (IntKind.wrap .i64 (t1.2.at' + (IntKind.wrap .i64 t1.1))) ∧ (IntKind.wrap .i64 (t1.2.at' + (IntKind.wrap .i64 t1.1))) ≤ (List.length t1.2.s : Int) then
        some ((List.take (Int.toNat (IntKind.wrap .i64 (t1.2.at' + (IntKind.wrap .i64 t1.1))) - Int.toNat t1.2.at') (List.drop (Int.toNat t1.2.at') t1.2.s)), (⟨t1.2.s, (IntKind.wrap .i64 (t1.2.at' + (IntKind.wrap .i64 t1.1))), t1.2.e⟩ : wire_Reader))
        else none
set_option maxRecDepth 100000 in
set_option maxHeartbeats 4000000 in
theorem wire_Reader_Text.ok {x0 : wire_Reader} {x1 : Int} {r : Bs × wire_Reader} (h : wire_Reader_Text.f x0 x1 = some r) : Pm.Spec prog 22 [.xbox [.imm (.val (.string (tx x0.s))), .imm (.val (.int .i64 x0.at')), .imm (.val (.int .i64 x0.e))], .imm (.val (.int .i64 x1))] (.imm (.val (.string (tx r.1)))) [some (.xbox [.imm (.val (.string (tx r.2.s))), .imm (.val (.int .i64 r.2.at')), .imm (.val (.int .i64 r.2.e))]), none] := by
  unfold wire_Reader_Text.f at h
  refine Pm.Spec.of_body Try.func22 rfl (by kernel_rfl) (Nat.le_of_ble_eq_true rfl) (Nat.le_of_ble_eq_true rfl) ?_
  refine W.ghost (σ' := (mkSt [(0, some (.ptr 0 0)), (1, some (.imm (.val (.int .i64 x1))))] [(0, some (.box [.imm (.val (.string (tx x0.s))), .imm (.val (.int .i64 x0.at')), .imm (.val (.int .i64 x0.e))]))] 1000)) (Gives.entry (.c rfl (.c rfl .n)) (.c rfl .n)) ?_
  refine W.seq ?_
  refine W.pk ?_
  refine .v rfl rfl (OpL.move (.inr rfl) rfl) ?_
  refine .nil ?_
  refine W.seq ?_
  refine W.pk ?_
  refine .v rfl rfl (OpL.move (.inl rfl) rfl) ?_
  refine .v rfl rfl (OpL.nilP rfl rfl rfl) ?_
  refine .v rfl rfl (O.fld fld63_1 rfl rfl rfl) ?_
  refine .v rfl rfl (O.ld ty3 rfl rfl rfl) ?_
  refine .v rfl rfl (OpL.move (.inr rfl) rfl) ?_
  refine .nil ?_
  refine W.seq ?_
  obtain ⟨t1, b2, h⟩ := bnd1 h
  refine W.pk ?_
  refine .v rfl rfl (OpL.move (.inl rfl) rfl) ?_
  refine .call (.imm (.val (.int .u64 t1.1))) [(0, some (.box [.imm (.val (.string (tx t1.2.s))), .imm (.val (.int .i64 t1.2.at')), .imm (.val (.int .i64 t1.2.e))])), (0, none)] 0 (wire_Reader_Uint.ok b2) rfl rfl rfl ca16 rfl rfl (cC (.ptr _ _ _ _ _ rfl (cC (.imm _) (cC (.imm _) (cC (.imm _) .nil)))) .nil) rfl rfl rfl rfl rfl ?_
  refine .v rfl rfl (OpL.move (.inr rfl) rfl) ?_
  refine .nil ?_
  refine W.seq ?_
  refine W.block ?_
  refine W.seq ?_
  refine W.pk ?_
  refine .v rfl rfl (OpL.move (.inl rfl) rfl) ?_
  refine .v rfl rfl (OpL.nilP rfl rfl rfl) ?_
  refine .v rfl rfl (O.fld fld63_2 rfl rfl rfl) ?_
  refine .v rfl rfl (O.ld ty38 rfl rfl rfl) ?_
  refine .v rfl rfl (OpL.binI rfl rfl rfl rfl) ?_
  refine .v rfl rfl (OpL.move (.inr rfl) rfl) ?_
  refine .nil ?_
  refine W.cond rfl (fun q3 => ?_) (fun q3 => ?_)
  · have h := ifT q3 h
    refine W.seq ?_
    refine W.pk ?_
    refine .v rfl rfl (OpL.move (.inr rfl) rfl) ?_
    refine .nil ?_
    refine W.ret ?_
    cases h
    exact leaves (.inr rfl) rfl (.imm _) (cS (.ptr _ _ _ _ _ rfl (cC (.imm _) (cC (.imm _) (cC (.imm _) .nil)))) (cN .nil)) rfl rfl
  · have h := ifF q3 h
    refine W.seq ?_
    refine W.fork (mkSt [(0, some (.ptr 0 0)), (5, some (.imm (.val (.int .i64 x0.at')))), (6, some (.imm (.val (.int .u64 t1.1)))), (20, some (.imm (.val (.bool ((decide (x1 < 0)) || (decide (t1.1 > (IntKind.wrap .u64 x1))))))))] [(0, some (.box [.imm (.val (.string (tx t1.2.s))), .imm (.val (.int .i64 t1.2.at')), .imm (.val (.int .i64 t1.2.e))]))] 1000) ?_ ?_
    · refine W.cond rfl (fun q5 => ?_) (fun q5 => ?_)
      · have h := ifT q5 h
        refine W.seq ?_
        refine W.pk ?_
        refine .v rfl rfl (OpL.move (.inl rfl) rfl) ?_
        refine .v rfl rfl (OpL.move (.inl rfl) rfl) ?_
        refine .v rfl rfl (OpL.nilP rfl rfl rfl) ?_
        refine .v rfl rfl (O.fld fld63_1 rfl rfl rfl) ?_
        refine .s rfl rfl (O.st ty3 rfl rfl rfl rfl rfl rfl rfl rfl rfl rfl (all' := [.imm (.val (.string (tx t1.2.s))), .imm (.val (.int .i64 x0.at')), .imm (.val (.int .i64 t1.2.e))]) rfl) ?_
        refine .nil ?_
        refine W.seq ?_
        obtain ⟨t6, b7, h⟩ := bnd1 h
        refine W.pk ?_
        refine .v rfl rfl (OpL.move (.inl rfl) rfl) ?_
        refine .call (.tup []) [(0, some (.box [.imm (.val (.string (tx t6.s))), .imm (.val (.int .i64 t6.at')), .imm (.val (.int .i64 t6.e))])), (0, none)] 0 (wire_Reader_Fail.ok b7) rfl rfl rfl ca28 rfl rfl (cC (.ptr _ _ _ _ _ rfl (cC (.imm _) (cC (.imm _) (cC (.imm _) .nil)))) (cC (.imm _) .nil)) rfl rfl rfl rfl rfl ?_
        refine .nil ?_
        refine W.seq ?_
        refine W.pk ?_
        refine .v rfl rfl (OpL.move (.inr rfl) rfl) ?_
        refine .nil ?_
        refine W.ret ?_
        cases h
        exact leaves (.inr rfl) rfl (.imm _) (cS (.ptr _ _ _ _ _ rfl (cC (.imm _) (cC (.imm _) (cC (.imm _) .nil)))) (cN .nil)) rfl rfl
      · have h := ifF q5 h
        refine W.seq ?_
        refine W.dk [[], [], [1], [1, 2], [1, 2, 3], [1, 2, 3, 4], [], [6], [6, 7], [6, 7, 8], [1, 2, 3, 4, 5, 6, 7, 8, 9], [1, 2, 3, 4, 5, 6, 7, 8, 9, 10], [0, 1, 2, 3, 4, 5, 6, 7, 8, 9, 10, 11], [0, 1, 2, 3, 4, 5, 6, 7, 8, 9, 10, 11, 12]] rfl (by kernel_rfl) ?_
        refine .v rfl rfl (OpL.move (.inl rfl) rfl) ?_
        refine .v rfl rfl (OpL.move (.inl rfl) rfl) ?_
        refine .v rfl rfl (OpL.nilP rfl rfl rfl) ?_
        refine .v rfl rfl (O.fld fld63_0 rfl rfl rfl) ?_
        refine .v rfl rfl (O.ld ty9 rfl rfl rfl) ?_
        refine .v rfl rfl (O.lenS u9 rfl rfl) ?_
        refine .v rfl rfl (OpL.move (.inl rfl) rfl) ?_
        refine .v rfl rfl (OpL.nilP rfl rfl rfl) ?_
        refine .v rfl rfl (O.fld fld63_1 rfl rfl rfl) ?_
        refine .v rfl rfl (O.ld ty3 rfl rfl rfl) ?_
        refine .v rfl rfl (OpL.binI rfl rfl rfl rfl) ?_
        refine .v rfl rfl (O.conv h3 u25 rfl rfl) ?_
        refine .v rfl rfl (OpL.binI rfl rfl rfl rfl) ?_
        refine .v rfl rfl (OpL.move (.inr rfl) rfl) ?_
        refine .nil ?_
        refine ⟨by kernel_rfl, by kernel_rfl, ?_⟩
        refine W.cond rfl (fun q8 => ?_) (fun q8 => ?_)
        · have h := ifT q8 h
          refine W.seq ?_
          refine W.pk ?_
          refine .v rfl rfl (OpL.move (.inl rfl) rfl) ?_
          refine .v rfl rfl (OpL.move (.inl rfl) rfl) ?_
          refine .v rfl rfl (OpL.nilP rfl rfl rfl) ?_
          refine .v rfl rfl (O.fld fld63_1 rfl rfl rfl) ?_
          refine .s rfl rfl (O.st ty3 rfl rfl rfl rfl rfl rfl rfl rfl rfl rfl (all' := [.imm (.val (.string (tx t1.2.s))), .imm (.val (.int .i64 x0.at')), .imm (.val (.int .i64 t1.2.e))]) rfl) ?_
          refine .nil ?_
          refine W.seq ?_
          obtain ⟨t9, b10, h⟩ := bnd1 h
          refine W.pk ?_
          refine .v rfl rfl (OpL.move (.inl rfl) rfl) ?_
          refine .call (.tup []) [(0, some (.box [.imm (.val (.string (tx t9.s))), .imm (.val (.int .i64 t9.at')), .imm (.val (.int .i64 t9.e))])), (0, none)] 0 (wire_Reader_Fail.ok b10) rfl rfl rfl ca28 rfl rfl (cC (.ptr _ _ _ _ _ rfl (cC (.imm _) (cC (.imm _) (cC (.imm _) .nil)))) (cC (.imm _) .nil)) rfl rfl rfl rfl rfl ?_
          refine .nil ?_
          refine W.seq ?_
          refine W.pk ?_
          refine .v rfl rfl (OpL.move (.inr rfl) rfl) ?_
          refine .nil ?_
          refine W.ret ?_
          cases h
          exact leaves (.inr rfl) rfl (.imm _) (cS (.ptr _ _ _ _ _ rfl (cC (.imm _) (cC (.imm _) (cC (.imm _) .nil)))) (cN .nil)) rfl rfl
        · have h := ifF q8 h
          refine W.skip ?_
          refine W.seq ?_
          obtain ⟨c11, h⟩ := chk h
          refine W.dk [[], [0], [0, 1], [0, 1, 2], [], [4], [4, 5], [4, 5, 6], [], [8], [8, 9], [8, 9, 10], [], [12], [8, 9, 10, 11, 12, 13], [0, 1, 2, 3, 4, 5, 6, 7, 8, 9, 10, 11, 12, 13, 14], [0, 1, 2, 3, 4, 5, 6, 7, 8, 9, 10, 11, 12, 13, 14, 15]] rfl (by kernel_rfl) ?_
          refine .v rfl rfl (OpL.move (.inl rfl) rfl) ?_
          refine .v rfl rfl (OpL.nilP rfl rfl rfl) ?_
          refine .v rfl rfl (O.fld fld63_0 rfl rfl rfl) ?_
          refine .v rfl rfl (O.ld ty9 rfl rfl rfl) ?_
          refine .v rfl rfl (OpL.move (.inl rfl) rfl) ?_
          refine .v rfl rfl (OpL.nilP rfl rfl rfl) ?_
          refine .v rfl rfl (O.fld fld63_1 rfl rfl rfl) ?_
          refine .v rfl rfl (O.ld ty3 rfl rfl rfl) ?_
          refine .v rfl rfl (OpL.move (.inl rfl) rfl) ?_
          refine .v rfl rfl (OpL.nilP rfl rfl rfl) ?_
          refine .v rfl rfl (O.fld fld63_1 rfl rfl rfl) ?_
          refine .v rfl rfl (O.ld ty3 rfl rfl rfl) ?_
          refine .v rfl rfl (OpL.move (.inl rfl) rfl) ?_
          refine .v rfl rfl (O.conv h25 u3 rfl rfl) ?_
          refine .v rfl rfl (OpL.binI rfl rfl rfl rfl) ?_
          refine .v rfl rfl (O.partS u9 c11 rfl rfl rfl rfl) ?_
          refine .v rfl rfl (OpL.move (.inr rfl) rfl) ?_
          refine .nil ?_
          refine ⟨by kernel_rfl, by kernel_rfl, ?_⟩
          refine W.seq ?_
          refine W.pk ?_
          refine .v rfl rfl (OpL.move (.inl rfl) rfl) ?_
          refine .v rfl rfl (OpL.nilP rfl rfl rfl) ?_
          refine .v rfl rfl (O.fld fld63_1 rfl rfl rfl) ?_
          refine .v rfl rfl (O.ld ty3 rfl rfl rfl) ?_
          refine .v rfl rfl (OpL.move (.inl rfl) rfl) ?_
          refine .v rfl rfl (O.conv h25 u3 rfl rfl) ?_
          refine .v rfl rfl (OpL.binI rfl rfl rfl rfl) ?_
          refine .v rfl rfl (OpL.nilP rfl rfl rfl) ?_
          refine .v rfl rfl (O.fld fld63_1 rfl rfl rfl) ?_
          refine .s rfl rfl (O.st ty3 rfl rfl rfl rfl rfl rfl rfl rfl rfl rfl (all' := [.imm (.val (.string (tx t1.2.s))), .imm (.val (.int .i64 (IntKind.wrap .i64 (t1.2.at' + (IntKind.wrap .i64 t1.1))))), .imm (.val (.int .i64 t1.2.e))]) rfl) ?_
          refine .nil ?_
          refine W.seq ?_
          refine W.pk ?_
          refine .v rfl rfl (OpL.move (.inl rfl) rfl) ?_
          refine .v rfl rfl (OpL.move (.inr rfl) rfl) ?_
          refine .nil ?_
          refine W.ret ?_
          cases h
          exact leaves (.inr rfl) rfl (.imm _) (cS (.ptr _ _ _ _ _ rfl (cC (.imm _) (cC (.imm _) (cC (.imm _) .nil)))) (cN .nil)) rfl rfl
    · clear h
      rcases tf (decide (x1 < 0)) with g4 | g4
      · refine W.pk ?_
        refine .v rfl rfl (OpL.move (.inl rfl) rfl) ?_
        refine .v rfl rfl (OpL.binI rfl rfl rfl rfl) ?_
        refine .v rfl rfl (OpL.move (.inl rfl) rfl) ?_
        refine .x rfl (unmet rfl rfl rfl g4) ?_
        refine .x rfl (unmet rfl rfl rfl g4) ?_
        refine .x rfl (unmet rfl rfl rfl g4) ?_
        refine .x rfl (unmet rfl rfl rfl g4) ?_
        refine .v rfl rfl (O.pickT g4 rfl rfl rfl) ?_
        refine .v rfl rfl (OpL.move (.inr rfl) rfl) ?_
        refine .nil ?_
        exact toN (Gives.mkR [] (.c rfl (.rfl _) rfl (.c rfl (.rfl _) rfl (.c rfl (.rfl _) rfl (.c rfl (sbb (by simp only [g4, Bool.true_or, Bool.or_true, Bool.false_or, Bool.or_false, Bool.true_and, Bool.and_true, Bool.false_and, Bool.and_false, Bool.not_true, Bool.not_false, cond_true, cond_false])) rfl .n)))) (.c rfl (.rfl _) rfl rfl .n) rfl rfl rfl)
      · refine W.pk ?_
        refine .v rfl rfl (OpL.move (.inl rfl) rfl) ?_
        refine .v rfl rfl (OpL.binI rfl rfl rfl rfl) ?_
        refine .v rfl rfl (OpL.move (.inl rfl) rfl) ?_
        refine .v rfl (met rfl rfl rfl g4) (OpL.move (.inl rfl) rfl) ?_
        refine .v rfl (met rfl rfl rfl g4) (OpL.move (.inl rfl) rfl) ?_
        refine .v rfl (met rfl rfl rfl g4) (O.conv h3 u25 rfl rfl) ?_
        refine .v rfl (met rfl rfl rfl g4) (OpL.binI rfl rfl rfl rfl) ?_
        refine .v rfl rfl (O.pickF g4 rfl rfl rfl) ?_
        refine .v rfl rfl (OpL.move (.inr rfl) rfl) ?_
        refine .nil ?_
        exact toN (Gives.mkR [] (.c rfl (.rfl _) rfl (.c rfl (.rfl _) rfl (.c rfl (.rfl _) rfl (.c rfl (sbb (by simp only [g4, Bool.true_or, Bool.or_true, Bool.false_or, Bool.or_false, Bool.true_and, Bool.and_true, Bool.false_and, Bool.and_false, Bool.not_true, Bool.not_false, cond_true, cond_false])) rfl .n)))) (.c rfl (.rfl _) rfl rfl .n) rfl rfl rfl)

noncomputable def wire_Reader_Bool.f (x0 : wire_Reader) : Option (Bool × wire_Reader) :=
  if (x0.e != 0) = true then
    some (false, x0)
  else
    if (decide (x0.at' ≥ (List.length x0.s : Int))) = true then
      (wire_Reader_Fail.f x0 14).bind fun t3 =>
      some (false, t3)
    else
      if (0 : Int) ≤ x0.at' ∧ x0.at' < (List.length x0.s : Int) then
      if (decide ((byte x0.s x0.at') > 1)) = true then
        (wire_Reader_Fail.f x0 15).bind fun t7 =>
        some (false, t7)
      else
        if (0 : Int) ≤ (IntKind.wrap .i64 ((IntKind.wrap .i64 (x0.at' + 1)) - 1)) ∧ (IntKind.wrap .i64 ((IntKind.wrap .i64 (x0.at' + 1)) - 1)) < (List.length x0.s : Int) then
        some (((byte x0.s (IntKind.wrap .i64 ((IntKind.wrap .i64 (x0.at' + 1)) - 1))) == 1), (⟨x0.s, (IntKind.wrap .i64 (x0.at' + 1)), x0.e⟩ : wire_Reader))
        else none
      else none
set_option maxRecDepth 100000 in
set_option maxHeartbeats 4000000 in
theorem wire_Reader_Bool.ok {x0 : wire_Reader} {r : Bool × wire_Reader} (h : wire_Reader_Bool.f x0 = some r) : Pm.Spec prog 23 [.xbox [.imm (.val (.string (tx x0.s))), .imm (.val (.int .i64 x0.at')), .imm (.val (.int .i64 x0.e))]] (.imm (.val (.bool r.1))) [some (.xbox [.imm (.val (.string (tx r.2.s))), .imm (.val (.int .i64 r.2.at')), .imm (.val (.int .i64 r.2.e))])] := by
  unfold wire_Reader_Bool.f at h
  refine Pm.Spec.of_body Try.func23 rfl (by kernel_rfl) (Nat.le_of_ble_eq_true rfl) (Nat.le_of_ble_eq_true rfl) ?_
  refine W.ghost (σ' := (mkSt [(0, some (.ptr 0 0))] [(0, some (.box [.imm (.val (.string (tx x0.s))), .imm (.val (.int .i64 x0.at')), .imm (.val (.int .i64 x0.e))]))] 1000)) (Gives.entry (.c rfl .n) (.c rfl .n)) ?_
  refine W.seq ?_
  refine W.pk ?_
  refine .v rfl rfl (OpL.move (.inr rfl) rfl) ?_
  refine .nil ?_
  refine W.seq ?_
  refine W.block ?_
  refine W.seq ?_
  refine W.pk ?_
  refine .v rfl rfl (OpL.move (.inl rfl) rfl) ?_
  refine .v rfl rfl (OpL.nilP rfl rfl rfl) ?_
  refine .v rfl rfl (O.fld fld63_2 rfl rfl rfl) ?_
  refine .v rfl rfl (O.ld ty38 rfl rfl rfl) ?_
  refine .v rfl rfl (OpL.binI rfl rfl rfl rfl) ?_
  refine .v rfl rfl (OpL.move (.inr rfl) rfl) ?_
  refine .nil ?_
  refine W.cond rfl (fun q1 => ?_) (fun q1 => ?_)
  · have h := ifT q1 h
    refine W.seq ?_
    refine W.pk ?_
    refine .v rfl rfl (OpL.move (.inr rfl) rfl) ?_
    refine .nil ?_
    refine W.ret ?_
    cases h
    exact leaves (.inr rfl) rfl (.imm _) (cS (.ptr _ _ _ _ _ rfl (cC (.imm _) (cC (.imm _) (cC (.imm _) .nil)))) .nil) rfl rfl
  · have h := ifF q1 h
    refine W.seq ?_
    refine W.dk [[], [0], [0, 1], [0, 1, 2], [], [4], [4, 5], [4, 5, 6], [4, 5, 6, 7], [0, 1, 2, 3, 4, 5, 6, 7, 8], [0, 1, 2, 3, 4, 5, 6, 7, 8, 9]] rfl (by kernel_rfl) ?_
    refine .v rfl rfl (OpL.move (.inl rfl) rfl) ?_
    refine .v rfl rfl (OpL.nilP rfl rfl rfl) ?_
    refine .v rfl rfl (O.fld fld63_1 rfl rfl rfl) ?_
    refine .v rfl rfl (O.ld ty3 rfl rfl rfl) ?_
    refine .v rfl rfl (OpL.move (.inl rfl) rfl) ?_
    refine .v rfl rfl (OpL.nilP rfl rfl rfl) ?_
    refine .v rfl rfl (O.fld fld63_0 rfl rfl rfl) ?_
    refine .v rfl rfl (O.ld ty9 rfl rfl rfl) ?_
    refine .v rfl rfl (O.lenS u9 rfl rfl) ?_
    refine .v rfl rfl (OpL.binI rfl rfl rfl rfl) ?_
    refine .v rfl rfl (OpL.move (.inr rfl) rfl) ?_
    refine .nil ?_
    refine ⟨by kernel_rfl, by kernel_rfl, ?_⟩
    refine W.cond rfl (fun q2 => ?_) (fun q2 => ?_)
    · have h := ifT q2 h
      refine W.seq ?_
      obtain ⟨t3, b4, h⟩ := bnd1 h
      refine W.pk ?_
      refine .v rfl rfl (OpL.move (.inl rfl) rfl) ?_
      refine .call (.tup []) [(0, some (.box [.imm (.val (.string (tx t3.s))), .imm (.val (.int .i64 t3.at')), .imm (.val (.int .i64 t3.e))])), (0, none)] 0 (wire_Reader_Fail.ok b4) rfl rfl rfl ca28 rfl rfl (cC (.ptr _ _ _ _ _ rfl (cC (.imm _) (cC (.imm _) (cC (.imm _) .nil)))) (cC (.imm _) .nil)) rfl rfl rfl rfl rfl ?_
      refine .nil ?_
      refine W.seq ?_
      refine W.pk ?_
      refine .v rfl rfl (OpL.move (.inr rfl) rfl) ?_
      refine .nil ?_
      refine W.ret ?_
      cases h
      exact leaves (.inr rfl) rfl (.imm _) (cS (.ptr _ _ _ _ _ rfl (cC (.imm _) (cC (.imm _) (cC (.imm _) .nil)))) .nil) rfl rfl
    · have h := ifF q2 h
      refine W.seq ?_
      obtain ⟨c5, h⟩ := chk h
      refine W.dk [[], [0], [0, 1], [0, 1, 2], [], [4], [4, 5], [4, 5, 6], [0, 1, 2, 3, 4, 5, 6, 7], [0, 1, 2, 3, 4, 5, 6, 7, 8], [0, 1, 2, 3, 4, 5, 6, 7, 8, 9]] rfl (by kernel_rfl) ?_
      refine .v rfl rfl (OpL.move (.inl rfl) rfl) ?_
      refine .v rfl rfl (OpL.nilP rfl rfl rfl) ?_
      refine .v rfl rfl (O.fld fld63_0 rfl rfl rfl) ?_
      refine .v rfl rfl (O.ld ty9 rfl rfl rfl) ?_
      refine .v rfl rfl (OpL.move (.inl rfl) rfl) ?_
      refine .v rfl rfl (OpL.nilP rfl rfl rfl) ?_
      refine .v rfl rfl (O.fld fld63_1 rfl rfl rfl) ?_
      refine .v rfl rfl (O.ld ty3 rfl rfl rfl) ?_
      refine .v rfl rfl (O.idxS u9 c5 rfl rfl rfl) ?_
      refine .v rfl rfl (OpL.binI rfl rfl rfl rfl) ?_
      refine .v rfl rfl (OpL.move (.inr rfl) rfl) ?_
      refine .nil ?_
      refine ⟨by kernel_rfl, by kernel_rfl, ?_⟩
      refine W.cond rfl (fun q6 => ?_) (fun q6 => ?_)
      · have h := ifT q6 h
        refine W.seq ?_
        obtain ⟨t7, b8, h⟩ := bnd1 h
        refine W.pk ?_
        refine .v rfl rfl (OpL.move (.inl rfl) rfl) ?_
        refine .call (.tup []) [(0, some (.box [.imm (.val (.string (tx t7.s))), .imm (.val (.int .i64 t7.at')), .imm (.val (.int .i64 t7.e))])), (0, none)] 0 (wire_Reader_Fail.ok b8) rfl rfl rfl ca28 rfl rfl (cC (.ptr _ _ _ _ _ rfl (cC (.imm _) (cC (.imm _) (cC (.imm _) .nil)))) (cC (.imm _) .nil)) rfl rfl rfl rfl rfl ?_
        refine .nil ?_
        refine W.seq ?_
        refine W.pk ?_
        refine .v rfl rfl (OpL.move (.inr rfl) rfl) ?_
        refine .nil ?_
        refine W.ret ?_
        cases h
        exact leaves (.inr rfl) rfl (.imm _) (cS (.ptr _ _ _ _ _ rfl (cC (.imm _) (cC (.imm _) (cC (.imm _) .nil)))) .nil) rfl rfl
      · have h := ifF q6 h
        refine W.skip ?_
        refine W.seq ?_
        refine W.pk ?_
        refine .v rfl rfl (OpL.move (.inl rfl) rfl) ?_
        refine .v rfl rfl (OpL.nilP rfl rfl rfl) ?_
        refine .v rfl rfl (O.fld fld63_1 rfl rfl rfl) ?_
        refine .v rfl rfl (O.ld ty3 rfl rfl rfl) ?_
        refine .v rfl rfl (OpL.binI rfl rfl rfl rfl) ?_
        refine .v rfl rfl (OpL.nilP rfl rfl rfl) ?_
        refine .v rfl rfl (O.fld fld63_1 rfl rfl rfl) ?_
        refine .s rfl rfl (O.st ty3 rfl rfl rfl rfl rfl rfl rfl rfl rfl rfl (all' := [.imm (.val (.string (tx x0.s))), .imm (.val (.int .i64 (IntKind.wrap .i64 (x0.at' + 1)))), .imm (.val (.int .i64 x0.e))]) rfl) ?_
        refine .nil ?_
        refine W.seq ?_
        obtain ⟨c9, h⟩ := chk h
        refine W.dk [[], [0], [0, 1], [0, 1, 2], [], [4], [4, 5], [4, 5, 6], [4, 5, 6, 7], [0, 1, 2, 3, 4, 5, 6, 7, 8], [0, 1, 2, 3, 4, 5, 6, 7, 8, 9], [0, 1, 2, 3, 4, 5, 6, 7, 8, 9, 10]] rfl (by kernel_rfl) ?_
        refine .v rfl rfl (OpL.move (.inl rfl) rfl) ?_
        refine .v rfl rfl (OpL.nilP rfl rfl rfl) ?_
        refine .v rfl rfl (O.fld fld63_0 rfl rfl rfl) ?_
        refine .v rfl rfl (O.ld ty9 rfl rfl rfl) ?_
        refine .v rfl rfl (OpL.move (.inl rfl) rfl) ?_
        refine .v rfl rfl (OpL.nilP rfl rfl rfl) ?_
        refine .v rfl rfl (O.fld fld63_1 rfl rfl rfl) ?_
        refine .v rfl rfl (O.ld ty3 rfl rfl rfl) ?_
        refine .v rfl rfl (OpL.binI rfl rfl rfl rfl) ?_
        refine .v rfl rfl (O.idxS u9 c9 rfl rfl rfl) ?_
        refine .v rfl rfl (OpL.binI rfl rfl rfl rfl) ?_
        refine .v rfl rfl (OpL.move (.inr rfl) rfl) ?_
        refine .nil ?_
        refine ⟨by kernel_rfl, by kernel_rfl, ?_⟩
        refine W.ret ?_
        cases h
        exact leaves (.inr rfl) rfl (.imm _) (cS (.ptr _ _ _ _ _ rfl (cC (.imm _) (cC (.imm _) (cC (.imm _) .nil)))) .nil) rfl rfl

noncomputable def wire_Reader_Count.f (x0 : wire_Reader) (x1 : Int) : Option (Int × wire_Reader) :=
  (wire_Reader_Uint.f x0).bind fun t1 =>
  ((
    if ((t1.2.e == 0) && ((decide (x1 < 0)) || (decide (t1.1 > (IntKind.wrap .u64 x1))))) = true then
      (wire_Reader_Fail.f (⟨t1.2.s, x0.at', t1.2.e⟩ : wire_Reader) 2).bind fun t14 =>
      some (t14.s, t14.at', t14.e)
    else
      some (t1.2.s, t1.2.at', t1.2.e) : Option (Bs × Int × Int))).bind fun o11 =>
  if (o11.2.2 != 0) = true then
    some (0, (⟨o11.1, o11.2.1, o11.2.2⟩ : wire_Reader))
  else
    some ((IntKind.wrap .i64 t1.1), (⟨o11.1, o11.2.1, o11.2.2⟩ : wire_Reader))
set_option maxRecDepth 100000 in
set_option maxHeartbeats 4000000 in
theorem wire_Reader_Count.ok {x0 : wire_Reader} {x1 : Int} {r : Int × wire_Reader} (h : wire_Reader_Count.f x0 x1 = some r) : Pm.Spec prog 29 [.xbox [.imm (.val (.string (tx x0.s))), .imm (.val (.int .i64 x0.at')), .imm (.val (.int .i64 x0.e))], .imm (.val (.int .i64 x1))] (.imm (.val (.int .i64 r.1))) [some (.xbox [.imm (.val (.string (tx r.2.s))), .imm (.val (.int .i64 r.2.at')), .imm (.val (.int .i64 r.2.e))]), none] := by
  unfold wire_Reader_Count.f at h
  refine Pm.Spec.of_body Try.func29 rfl (by kernel_rfl) (Nat.le_of_ble_eq_true rfl) (Nat.le_of_ble_eq_true rfl) ?_
  refine W.ghost (σ' := (mkSt [(0, some (.ptr 0 0)), (1, some (.imm (.val (.int .i64 x1))))] [(0, some (.box [.imm (.val (.string (tx x0.s))), .imm (.val (.int .i64 x0.at')), .imm (.val (.int .i64 x0.e))]))] 1000)) (Gives.entry (.c rfl (.c rfl .n)) (.c rfl .n)) ?_
  refine W.seq ?_
  refine W.pk ?_
  refine .v rfl rfl (OpL.move (.inr rfl) rfl) ?_
  refine .nil ?_
  refine W.seq ?_
  refine W.pk ?_
  refine .v rfl rfl (OpL.move (.inl rfl) rfl) ?_
  refine .v rfl rfl (OpL.nilP rfl rfl rfl) ?_
  refine .v rfl rfl (O.fld fld63_1 rfl rfl rfl) ?_
  refine .v rfl rfl (O.ld ty3 rfl rfl rfl) ?_
  refine .v rfl rfl (OpL.move (.inr rfl) rfl) ?_
  refine .nil ?_
  refine W.seq ?_
  obtain ⟨t1, b2, h⟩ := bnd1 h
  refine W.pk ?_
  refine .v rfl rfl (OpL.move (.inl rfl) rfl) ?_
  refine .call (.imm (.val (.int .u64 t1.1))) [(0, some (.box [.imm (.val (.string (tx t1.2.s))), .imm (.val (.int .i64 t1.2.at')), .imm (.val (.int .i64 t1.2.e))])), (0, none)] 0 (wire_Reader_Uint.ok b2) rfl rfl rfl ca16 rfl rfl (cC (.ptr _ _ _ _ _ rfl (cC (.imm _) (cC (.imm _) (cC (.imm _) .nil)))) .nil) rfl rfl rfl rfl rfl ?_
  refine .v rfl rfl (OpL.move (.inr rfl) rfl) ?_
  refine .nil ?_
  refine W.seq ?_
  refine W.seq ?_
  refine W.fork (mkSt [(0, some (.ptr 0 0)), (5, some (.imm (.val (.int .i64 x0.at')))), (6, some (.imm (.val (.int .u64 t1.1)))), (27, some (.imm (.val (.bool ((t1.2.e == 0) && ((decide (x1 < 0)) || (decide (t1.1 > (IntKind.wrap .u64 x1)))))))))] [(0, some (.box [.imm (.val (.string (tx t1.2.s))), .imm (.val (.int .i64 t1.2.at')), .imm (.val (.int .i64 t1.2.e))]))] 1000) ?_ ?_
  · obtain ⟨o11, b12, h⟩ := bnd1 h
    refine W.fork (mkSt [(0, some (.ptr 0 0)), (6, some (.imm (.val (.int .u64 t1.1))))] [(0, some (.box [.imm (.val (.string (tx o11.1))), .imm (.val (.int .i64 o11.2.1)), .imm (.val (.int .i64 o11.2.2))]))] 1000) ?_ ?_
    · refine W.seq ?_
      refine W.seq ?_
      refine W.pk ?_
      refine .v rfl rfl (OpL.move (.inl rfl) rfl) ?_
      refine .v rfl rfl (OpL.nilP rfl rfl rfl) ?_
      refine .v rfl rfl (O.fld fld63_2 rfl rfl rfl) ?_
      refine .v rfl rfl (O.ld ty38 rfl rfl rfl) ?_
      refine .v rfl rfl (OpL.binI rfl rfl rfl rfl) ?_
      refine .nil ?_
      refine W.cond rfl (fun q16 => ?_) (fun q16 => ?_)
      · have h := ifT q16 h
        refine W.seq ?_
        refine W.pk ?_
        refine .v rfl rfl (OpL.move (.inr rfl) rfl) ?_
        refine .nil ?_
        refine W.ret ?_
        cases h
        exact leaves (.inr rfl) rfl (.imm _) (cS (.ptr _ _ _ _ _ rfl (cC (.imm _) (cC (.imm _) (cC (.imm _) .nil)))) (cN .nil)) rfl rfl
      · have h := ifF q16 h
        refine W.skip ?_
        refine W.seq ?_
        refine W.pk ?_
        refine .v rfl rfl (OpL.move (.inl rfl) rfl) ?_
        refine .v rfl rfl (O.conv h25 u3 rfl rfl) ?_
        refine .v rfl rfl (OpL.move (.inr rfl) rfl) ?_
        refine .nil ?_
        refine W.ret ?_
        cases h
        exact leaves (.inr rfl) rfl (.imm _) (cS (.ptr _ _ _ _ _ rfl (cC (.imm _) (cC (.imm _) (cC (.imm _) .nil)))) (cN .nil)) rfl rfl
    · clear h
      have h := b12
      refine W.cond rfl (fun q13 => ?_) (fun q13 => ?_)
      · have h := ifT q13 h
        refine W.seq ?_
        refine W.pk ?_
        refine .v rfl rfl (OpL.move (.inl rfl) rfl) ?_
        refine .v rfl rfl (OpL.move (.inl rfl) rfl) ?_
        refine .v rfl rfl (OpL.nilP rfl rfl rfl) ?_
        refine .v rfl rfl (O.fld fld63_1 rfl rfl rfl) ?_
        refine .s rfl rfl (O.st ty3 rfl rfl rfl rfl rfl rfl rfl rfl rfl rfl (all' := [.imm (.val (.string (tx t1.2.s))), .imm (.val (.int .i64 x0.at')), .imm (.val (.int .i64 t1.2.e))]) rfl) ?_
        refine .nil ?_
        obtain ⟨t14, b15, h⟩ := bnd1 h
        refine W.pk ?_
        refine .v rfl rfl (OpL.move (.inl rfl) rfl) ?_
        refine .call (.tup []) [(0, some (.box [.imm (.val (.string (tx t14.s))), .imm (.val (.int .i64 t14.at')), .imm (.val (.int .i64 t14.e))])), (0, none)] 0 (wire_Reader_Fail.ok b15) rfl rfl rfl ca28 rfl rfl (cC (.ptr _ _ _ _ _ rfl (cC (.imm _) (cC (.imm _) (cC (.imm _) .nil)))) (cC (.imm _) .nil)) rfl rfl rfl rfl rfl ?_
        refine .nil ?_
        cases h
        exact toN (Gives.mkR [] (.c rfl (.rfl _) rfl (.c rfl (.rfl _) rfl .n)) (.c rfl (.rfl _) rfl rfl .n) rfl rfl rfl)
      · have h := ifF q13 h
        refine W.skip ?_
        cases h
        exact toN (Gives.mkR [] (.c rfl (.rfl _) rfl (.c rfl (.rfl _) rfl .n)) (.c rfl (.rfl _) rfl rfl .n) rfl rfl rfl)
  · clear h
    rcases tf (t1.2.e == 0) with g3 | g3
    · rcases tf (decide (x1 < 0)) with g4 | g4
      · refine W.pk ?_
        refine .v rfl rfl (OpL.move (.inl rfl) rfl) ?_
        refine .v rfl rfl (OpL.nilP rfl rfl rfl) ?_
        refine .v rfl rfl (O.fld fld63_2 rfl rfl rfl) ?_
        refine .v rfl rfl (O.ld ty38 rfl rfl rfl) ?_
        refine .v rfl rfl (OpL.binI rfl rfl rfl rfl) ?_
        refine .v rfl rfl (OpL.move (.inl rfl) rfl) ?_
        refine .v rfl (met rfl rfl rfl g3) (OpL.move (.inl rfl) rfl) ?_
        refine .v rfl (met rfl rfl rfl g3) (OpL.binI rfl rfl rfl rfl) ?_
        refine .v rfl (met rfl rfl rfl g3) (OpL.move (.inl rfl) rfl) ?_
        refine .x rfl (unmet rfl rfl rfl g4) ?_
        refine .x rfl (unmet rfl rfl rfl g4) ?_
        refine .x rfl (unmet rfl rfl rfl g4) ?_
        refine .x rfl (unmet rfl rfl rfl g4) ?_
        refine .v rfl (met rfl rfl rfl g3) (O.pickT g4 rfl rfl rfl) ?_
        refine .v rfl rfl (O.pickT g3 rfl rfl rfl) ?_
        refine .nil ?_
        exact toN (Gives.mkR [] (.c rfl (.rfl _) rfl (.c rfl (.rfl _) rfl (.c rfl (.rfl _) rfl (.c rfl (sbb (by first | (simp only [g3, g4, Bool.true_or, Bool.or_true, Bool.false_or, Bool.or_false, Bool.true_and, Bool.and_true, Bool.false_and, Bool.and_false, Bool.not_true, Bool.not_false, cond_true, cond_false]; done) | (repeat (first | rw [g3] | rw [g4])) <;> simp only [Bool.true_or, Bool.or_true, Bool.false_or, Bool.or_false, Bool.true_and, Bool.and_true, Bool.false_and, Bool.and_false, Bool.not_true, Bool.not_false, cond_true, cond_false])) rfl .n)))) (.c rfl (.rfl _) rfl rfl .n) rfl rfl rfl)
      · refine W.pk ?_
        refine .v rfl rfl (OpL.move (.inl rfl) rfl) ?_
        refine .v rfl rfl (OpL.nilP rfl rfl rfl) ?_
        refine .v rfl rfl (O.fld fld63_2 rfl rfl rfl) ?_
        refine .v rfl rfl (O.ld ty38 rfl rfl rfl) ?_
        refine .v rfl rfl (OpL.binI rfl rfl rfl rfl) ?_
        refine .v rfl rfl (OpL.move (.inl rfl) rfl) ?_
        refine .v rfl (met rfl rfl rfl g3) (OpL.move (.inl rfl) rfl) ?_
        refine .v rfl (met rfl rfl rfl g3) (OpL.binI rfl rfl rfl rfl) ?_
        refine .v rfl (met rfl rfl rfl g3) (OpL.move (.inl rfl) rfl) ?_
        refine .v rfl (met rfl rfl rfl g4) (OpL.move (.inl rfl) rfl) ?_
        refine .v rfl (met rfl rfl rfl g4) (OpL.move (.inl rfl) rfl) ?_
        refine .v rfl (met rfl rfl rfl g4) (O.conv h3 u25 rfl rfl) ?_
        refine .v rfl (met rfl rfl rfl g4) (OpL.binI rfl rfl rfl rfl) ?_
        refine .v rfl (met rfl rfl rfl g3) (O.pickF g4 rfl rfl rfl) ?_
        refine .v rfl rfl (O.pickT g3 rfl rfl rfl) ?_
        refine .nil ?_
        exact toN (Gives.mkR [] (.c rfl (.rfl _) rfl (.c rfl (.rfl _) rfl (.c rfl (.rfl _) rfl (.c rfl (sbb (by first | (simp only [g3, g4, Bool.true_or, Bool.or_true, Bool.false_or, Bool.or_false, Bool.true_and, Bool.and_true, Bool.false_and, Bool.and_false, Bool.not_true, Bool.not_false, cond_true, cond_false]; done) | (repeat (first | rw [g3] | rw [g4])) <;> simp only [Bool.true_or, Bool.or_true, Bool.false_or, Bool.or_false, Bool.true_and, Bool.and_true, Bool.false_and, Bool.and_false, Bool.not_true, Bool.not_false, cond_true, cond_false])) rfl .n)))) (.c rfl (.rfl _) rfl rfl .n) rfl rfl rfl)
    · refine W.pk ?_
      refine .v rfl rfl (OpL.move (.inl rfl) rfl) ?_
      refine .v rfl rfl (OpL.nilP rfl rfl rfl) ?_
      refine .v rfl rfl (O.fld fld63_2 rfl rfl rfl) ?_
      refine .v rfl rfl (O.ld ty38 rfl rfl rfl) ?_
      refine .v rfl rfl (OpL.binI rfl rfl rfl rfl) ?_
      refine .v rfl rfl (OpL.move (.inl rfl) rfl) ?_
      refine .x rfl (unmet rfl rfl rfl g3) ?_
      refine .x rfl (unmet rfl rfl rfl g3) ?_
      refine .x rfl (unmet rfl rfl rfl g3) ?_
      refine .x rfl (unmetU rfl rfl rfl) ?_
      refine .x rfl (unmetU rfl rfl rfl) ?_
      refine .x rfl (unmetU rfl rfl rfl) ?_
      refine .x rfl (unmetU rfl rfl rfl) ?_
      refine .x rfl (unmet rfl rfl rfl g3) ?_
      refine .v rfl rfl (O.pickF g3 rfl rfl rfl) ?_
      refine .nil ?_
      exact toN (Gives.mkR [] (.c rfl (.rfl _) rfl (.c rfl (.rfl _) rfl (.c rfl (.rfl _) rfl (.c rfl (sbb (by simp only [g3, Bool.true_or, Bool.or_true, Bool.false_or, Bool.or_false, Bool.true_and, Bool.and_true, Bool.false_and, Bool.and_false, Bool.not_true, Bool.not_false, cond_true, cond_false])) rfl .n)))) (.c rfl (.rfl _) rfl rfl .n) rfl rfl rfl)
end Go.Proofs.Ytoongmdkndbppaa
