/- Shows what functions of the program come to, each as a plain function: written by a program of the author's for this claim. -/
import Derived.Test.YtlgfdldonoaahaaGx10
namespace Go.Proofs.Ytlgfdldonoaahaa
open Go Go.Pm
set_option linter.unusedVariables false
set_option linter.unusedSimpArgs false
noncomputable def leg_Of.b0 (x0 : List api_Leg) (x1 : Int) (v10 : Int) (v11 : List api_Leg) : Option ((Int × (List api_Leg)) ⊕ (List api_Leg)) :=
  if (decide (v10 < (List.length x0 : Int))) = true then
    if (0 : Int) ≤ v10 ∧ v10 < (List.length x0 : Int) then
    if (((nth x0 v10).Member) == x1) = true then
      if (List.length v11 + List.length [(nth x0 v10)]) * 56 ≤ 140737488355328 then
      some (.inl ((IntKind.wrap .i64 (v10 + 1)), (v11 ++ [(nth x0 v10)])))
      else none
    else
      some (.inl ((IntKind.wrap .i64 (v10 + 1)), v11))
    else none
  else
    some (.inr v11)
noncomputable def leg_Of.r0 (x0 : List api_Leg) (x1 : Int) (s : Int × (List api_Leg)) : Option ((Int × (List api_Leg)) ⊕ (List api_Leg)) := leg_Of.b0 x0 x1 s.1 s.2
noncomputable def leg_Of.f (x0 : List api_Leg) (x1 : Int) : Option (List api_Leg) :=
  (loop (leg_Of.r0 x0 x1) (0, [])).bind fun o21 =>
  some o21
set_option maxRecDepth 100000 in
set_option maxHeartbeats 4000000 in
theorem leg_Of.ok {x0 : List api_Leg} {x1 : Int} {r : List api_Leg} (h : leg_Of.f x0 x1 = some r) : Pm.Spec prog 24 [.xown 31 5 (List.map api_Leg.enc x0), .imm (.val (.int .i64 x1))] (.xown 31 5 (List.map api_Leg.enc r)) [some (.xown 31 5 (List.map api_Leg.enc x0)), none] := by
 unfold leg_Of.f at h; refine Pm.Spec.of_body Try.func24 rfl (by kernel_rfl) (Nat.le_of_ble_eq_true rfl) (Nat.le_of_ble_eq_true rfl) ?_; refine W.ghost (σ' := (mkSt [(0, some (.own 0)), (1, some (.i x1))] [(0, some (.rows 31 5 (List.map api_Leg.enc x0) false))] 1000)) (Gives.entry (.c rfl (.c rfl .n)) (.c rfl .n)) ?_; refine W.seq ?_; refine W.pk ?_; refine .a rfl rfl rfl rfl ?_; refine .nil ?_; refine W.seq ?_; refine W.pk ?_; refine .a rfl rfl rfl rfl ?_; refine .nil ?_; (iterate 2 refine W.seq ?_); refine W.pk ?_; refine .m rfl rfl rfl rfl ?_; refine .v rfl rfl (O.lenO sl45 rfl rfl rfl) ?_; refine .m rfl rfl rfl rfl ?_; refine .nil ?_; refine W.ghost (Gives.mintS 5 31 5 rfl) ?_; obtain ⟨o21, b22, h⟩ := bnd1 h; refine W.fork (mkSt [(5, some (.own 1000))] [(0, some (.rows 31 5 (List.map api_Leg.enc x0) false)), (1000, some (.rows 31 5 (List.map api_Leg.enc o21) false))] 1001) ?_ ?_
 ·refine W.seq ?_; refine W.pk ?_; refine .m rfl rfl rfl rfl ?_; refine .a rfl rfl rfl rfl ?_; refine .nil ?_; refine W.ret ?_; cases h; exact leaves (.inr rfl) rfl (.own _ _ _ _ rfl) (cS (.own _ _ _ _ rfl) (cN .nil)) rfl rfl
 ·clear h; refine W.block ?_; refine W.loopF (fun (s_ : Int × (List api_Leg)) => mkSt [(1, some (.i x1)), (5, some (.own 1000)), (8, some (.own 0)), (9, some (.i (List.length x0 : Int))), (10, some (.i s_.1))] [(0, some (.rows 31 5 (List.map api_Leg.enc x0) false)), (1000, some (.rows 31 5 (List.map api_Leg.enc s_.2) false))] 1001) b22 (Gives.mkR [] (.e rfl rfl) (.e rfl rfl) rfl rfl rfl) ?_; rintro ⟨v10, v11⟩ s_ hr; have h : leg_Of.b0 x0 x1 v10 v11 = some s_ := hr; unfold leg_Of.b0 at h; refine W.seq ?_; refine W.pk ?_; refine .v rfl rfl (OpL.binI rfl rfl rfl rfl) ?_; refine .nil ?_; refine W.seq ?_; refine W.cond rfl (fun q24 => ?_) (fun q24 => ?_)
  ·have h := ifT q24 h; refine W.skip ?_; refine W.seq ?_; refine W.block ?_; refine W.seq ?_; obtain ⟨c25, h⟩ := chk h; refine W.pk ?_; refine .v rfl rfl (O.idxO sl45 c25 rfl rfl rfl rfl) ?_; refine .v rfl rfl (O.ldEN ty31 c25 rfl rfl rfl rfl rfl) ?_; refine .t rfl rfl (O.alloc z31 rfl) ?_; refine .s rfl rfl (O.st ty31 rfl rfl rfl rfl rfl rfl rfl rfl rfl rfl (all' := [.i ((nth x0 v10).Day), .i ((nth x0 v10).Member), .i ((nth x0 v10).Trade), .i ((nth x0 v10).Cash), .imm (.row 2 (List.map api_Lot.enc ((nth x0 v10).Lots)))]) rfl) ?_; refine .nil ?_; refine W.seq ?_; refine W.pk ?_; refine .v rfl rfl (O.fld fld31_1 rfl rfl rfl) ?_; refine .v rfl rfl (O.ld (y := .i ((nth x0 v10).Member)) ty3 rfl rfl rfl) ?_; refine .m rfl rfl rfl rfl ?_; refine .v rfl rfl (OpL.binI rfl rfl rfl rfl) ?_; refine .nil ?_; refine W.cond rfl (fun q26 => ?_) (fun q26 => ?_)
   ·have h := ifT q26 h; obtain ⟨c27, h⟩ := chk h; refine W.pk ?_; refine .m rfl rfl rfl rfl ?_; refine .v rfl rfl (O.ldN ty31 rfl rfl rfl) ?_; refine .t rfl rfl (O.lit (enc := api_Leg.enc) (l := [(nth x0 v10)]) sl45 rfl rfl rfl rfl rfl rfl rfl rfl rfl) ?_; refine .t rfl rfl (O.appO sl45 api_Leg.ok c27 rfl rfl rfl rfl rfl) ?_; refine .a rfl rfl rfl rfl ?_; refine .nil ?_; refine W.pk ?_; refine .v rfl rfl (OpL.binI rfl rfl rfl rfl) ?_; refine .m rfl rfl rfl rfl ?_; refine .nil ?_; cases h; exact rdN (Gives.mkR [(1000, 1003)] (.e rfl rfl) (.e rfl rfl) rfl rfl rfl)
   ·have h := ifF q26 h; refine W.skip ?_; refine W.pk ?_; refine .v rfl rfl (OpL.binI rfl rfl rfl rfl) ?_; refine .m rfl rfl rfl rfl ?_; refine .nil ?_; cases h; exact rdN (Gives.mkR [] (.e rfl rfl) (.e rfl rfl) rfl rfl rfl)
  ·have h := ifF q24 h; refine W.exit ?_; cases h; refine rdX fun e_ => ?_; subst e_; (repeat with_reducible refine thru ?_); refine hit ?_; exact toN (Gives.mkR [] (.r rfl rfl .n) (.e rfl rfl) rfl rfl rfl)

noncomputable def lombardref25_Of.b0 (x0 : List api_Leg) (x1 : Int) (v12 : Int) (v13 : List api_Leg) : Option ((Int × (List api_Leg)) ⊕ (List api_Leg)) :=
  if (decide (v12 < (List.length x0 : Int))) = true then
    if (0 : Int) ≤ v12 ∧ v12 < (List.length x0 : Int) then
    if (((nth x0 v12).Member) == x1) = true then
      if (0 : Int) ≤ v12 ∧ v12 < (List.length x0 : Int) then
      if (List.length v13 + List.length [(nth x0 v12)]) * 56 ≤ 140737488355328 then
      some (.inl ((IntKind.wrap .i64 (v12 + 1)), (v13 ++ [(nth x0 v12)])))
      else none
      else none
    else
      some (.inl ((IntKind.wrap .i64 (v12 + 1)), v13))
    else none
  else
    some (.inr v13)
noncomputable def lombardref25_Of.r0 (x0 : List api_Leg) (x1 : Int) (s : Int × (List api_Leg)) : Option ((Int × (List api_Leg)) ⊕ (List api_Leg)) := lombardref25_Of.b0 x0 x1 s.1 s.2
noncomputable def lombardref25_Of.f (x0 : List api_Leg) (x1 : Int) : Option (List api_Leg) :=
  (loop (lombardref25_Of.r0 x0 x1) (0, [])).bind fun o25 =>
  some o25
set_option maxRecDepth 100000 in
set_option maxHeartbeats 4000000 in
theorem lombardref25_Of.ok {x0 : List api_Leg} {x1 : Int} {r : List api_Leg} (h : lombardref25_Of.f x0 x1 = some r) : Pm.Spec prog 25 [.xown 31 5 (List.map api_Leg.enc x0), .imm (.val (.int .i64 x1))] (.xown 31 5 (List.map api_Leg.enc r)) [some (.xown 31 5 (List.map api_Leg.enc x0)), none] := by
 unfold lombardref25_Of.f at h; refine Pm.Spec.of_body Try.func25 rfl (by kernel_rfl) (Nat.le_of_ble_eq_true rfl) (Nat.le_of_ble_eq_true rfl) ?_; refine W.ghost (σ' := (mkSt [(0, some (.own 0)), (1, some (.i x1))] [(0, some (.rows 31 5 (List.map api_Leg.enc x0) false))] 1000)) (Gives.entry (.c rfl (.c rfl .n)) (.c rfl .n)) ?_; refine W.seq ?_; refine W.pk ?_; refine .a rfl rfl rfl rfl ?_; refine .nil ?_; refine W.seq ?_; refine W.pk ?_; refine .a rfl rfl rfl rfl ?_; refine .nil ?_; (iterate 2 refine W.seq ?_); refine W.pk ?_; refine .a rfl rfl rfl rfl ?_; refine .nil ?_; refine W.ghost (Gives.mintS 5 31 5 rfl) ?_; obtain ⟨o25, b26, h⟩ := bnd1 h; refine W.fork (mkSt [(5, some (.own 1000))] [(0, some (.rows 31 5 (List.map api_Leg.enc x0) false)), (1000, some (.rows 31 5 (List.map api_Leg.enc o25) false))] 1001) ?_ ?_
 ·refine W.seq ?_; refine W.pk ?_; refine .m rfl rfl rfl rfl ?_; refine .a rfl rfl rfl rfl ?_; refine .nil ?_; refine W.ret ?_; cases h; exact leaves (.inr rfl) rfl (.own _ _ _ _ rfl) (cS (.own _ _ _ _ rfl) (cN .nil)) rfl rfl
 ·clear h; refine W.block ?_; refine W.loopF (fun (s_ : Int × (List api_Leg)) => mkSt [(0, some (.own 0)), (1, some (.i x1)), (5, some (.own 1000)), (6, some (.i s_.1))] [(0, some (.rows 31 5 (List.map api_Leg.enc x0) false)), (1000, some (.rows 31 5 (List.map api_Leg.enc s_.2) false))] 1001) b26 (Gives.mkR [] (.e rfl rfl) (.e rfl rfl) rfl rfl rfl) ?_; rintro ⟨v12, v13⟩ s_ hr; have h : lombardref25_Of.b0 x0 x1 v12 v13 = some s_ := hr; unfold lombardref25_Of.b0 at h; (iterate 2 refine W.seq ?_); refine W.pk ?_; (iterate 2 refine .m rfl rfl rfl rfl ?_); refine .v rfl rfl (O.lenO sl45 rfl rfl rfl) ?_; refine .v rfl rfl (OpL.binI rfl rfl rfl rfl) ?_; refine .nil ?_; refine W.cond rfl (fun q28 => ?_) (fun q28 => ?_)
  ·have h := ifT q28 h; refine W.skip ?_; refine W.seq ?_; refine W.block ?_; refine W.seq ?_; obtain ⟨c29, h⟩ := chk h; refine W.pk ?_; (iterate 2 refine .m rfl rfl rfl rfl ?_); refine .v rfl rfl (O.idxO sl45 c29 rfl rfl rfl rfl) ?_; refine .v rfl rfl (O.fld fld31_1 rfl rfl rfl) ?_; refine .v rfl rfl (O.ldE (c := (.val (.int .i64 ((nth x0 v12).Member)))) ty3 c29 rfl rfl rfl rfl rfl) ?_; refine .m rfl rfl rfl rfl ?_; refine .v rfl rfl (OpL.binI rfl rfl rfl rfl) ?_; refine .nil ?_; refine W.cond rfl (fun q30 => ?_) (fun q30 => ?_)
   ·have h := ifT q30 h; obtain ⟨c31, h⟩ := chk h; obtain ⟨c32, h⟩ := chk h; refine W.pk ?_; (iterate 3 refine .m rfl rfl rfl rfl ?_); refine .v rfl rfl (O.idxO sl45 c31 rfl rfl rfl rfl) ?_; refine .v rfl rfl (O.ldEN ty31 c31 rfl rfl rfl rfl rfl) ?_; refine .t rfl rfl (O.lit (enc := api_Leg.enc) (l := [(nth x0 v12)]) sl45 rfl rfl rfl rfl rfl rfl rfl rfl rfl) ?_; refine .t rfl rfl (O.appO sl45 api_Leg.ok c32 rfl rfl rfl rfl rfl) ?_; refine .a rfl rfl rfl rfl ?_; refine .nil ?_; refine W.pk ?_; refine .m rfl rfl rfl rfl ?_; refine .v rfl rfl (OpL.binI rfl rfl rfl rfl) ?_; refine .a rfl rfl rfl rfl ?_; refine .nil ?_; cases h; exact rdN (Gives.mkR [(1000, 1002)] (.e rfl rfl) (.e rfl rfl) rfl rfl rfl)
   ·have h := ifF q30 h; refine W.skip ?_; refine W.pk ?_; refine .m rfl rfl rfl rfl ?_; refine .v rfl rfl (OpL.binI rfl rfl rfl rfl) ?_; refine .a rfl rfl rfl rfl ?_; refine .nil ?_; cases h; exact rdN (Gives.mkR [] (.e rfl rfl) (.e rfl rfl) rfl rfl rfl)
  ·have h := ifF q28 h; refine W.exit ?_; cases h; refine rdX fun e_ => ?_; subst e_; (repeat with_reducible refine thru ?_); refine hit ?_; exact toN (Gives.mkR [] (.r rfl rfl .n) (.e rfl rfl) rfl rfl rfl)

set_option maxRecDepth 100000 in
theorem slices_Clone_api_Leg_v2.ok {x0 r : List api_Leg} (h : slices_Clone_api_Leg.f x0 = some r) : Pm.Spec prog 38 [.xown 31 5 (List.map api_Leg.enc x0)] (.xown 31 5 (List.map api_Leg.enc r)) [some (.xown 31 5 (List.map api_Leg.enc x0))] := by
 obtain ⟨h1, rfl⟩ : (List.length x0) * 56 ≤ 140737488355328 ∧ x0 = r := by
   unfold slices_Clone_api_Leg.f at h
   split at h
   · rename_i h1; cases h; exact ⟨h1, rfl⟩
   · cases h
 refine Pm.Spec.of_body Try.func38 rfl (by kernel_rfl) (Nat.le_of_ble_eq_true rfl) (Nat.le_of_ble_eq_true rfl) ?_
 refine W.ghost (σ' := (mkSt [(0, some (.own 0))] [(0, some (.rows 31 5 (List.map api_Leg.enc x0) false))] 1000)) (Gives.entry (.c rfl .n) (.c rfl .n)) ?_
 cases x0 with
 | cons x1 l1 =>
  refine W.seq ?_
  refine W.pk ?_
  refine .v rfl rfl (OpL.move (.inr rfl) rfl) ?_
  refine .nil ?_
  refine W.seq ?_
  refine W.seq ?_
  refine W.pk ?_
  refine .v rfl rfl (OpL.move (.inl rfl) rfl) ?_
  refine .v rfl rfl (O.eqOwn sl45 rfl rfl rfl rfl) ?_
  refine .nil ?_
  refine W.cond rfl (fun q => by cases q) (fun _ => ?_)
  refine W.skip ?_
  refine W.seq ?_
  refine W.pk ?_
  refine .t rfl rfl (O.lit (enc := api_Leg.enc) (l := []) sl45 rfl rfl rfl rfl rfl rfl rfl rfl rfl) ?_
  refine .v rfl rfl (OpL.move (.inl rfl) rfl) ?_
  have h2 : (List.length ([] : List api_Leg) + List.length (x1 :: l1 : List api_Leg)) * 56 ≤ 140737488355328 := by simpa using h1
  refine .t rfl rfl (O.appO (l := []) sl45 api_Leg.ok h2 rfl rfl rfl rfl rfl) ?_
  refine .v rfl rfl (OpL.move (.inr rfl) rfl) ?_
  refine .nil ?_
  refine W.ret ?_
  exact leaves (.inr rfl) rfl (.own _ _ _ _ rfl) (cS (.own _ _ _ _ rfl) .nil) rfl rfl
 | nil =>
  refine W.emptyO 0 rfl rfl fun A c => ?_
  cases A with
  | none =>
   refine W.seq ?_
   refine W.pk ?_
   refine .v rfl rfl (OpL.move (.inr rfl) rfl) ?_
   refine .nil ?_
   refine W.seq ?_
   refine W.seq ?_
   refine W.pk ?_
   refine .v rfl rfl (OpL.move (.inl rfl) rfl) ?_
   refine .v rfl rfl (O.eqSl sl45 rfl rfl rfl) ?_
   refine .nil ?_
   refine W.cond rfl (fun _ => ?_) (fun q => by cases q)
   refine W.seq ?_
   refine W.pk ?_
   refine .v rfl rfl (OpL.move (.inr rfl) rfl) ?_
   refine .nil ?_
   refine W.ret ?_
   exact leaves (.inr rfl) rfl (.nilown _ _) (cS (.own _ _ _ _ rfl) .nil) rfl rfl
  | some p =>
   refine W.seq ?_
   refine W.pk ?_
   refine .v rfl rfl (OpL.move (.inr rfl) rfl) ?_
   refine .nil ?_
   refine W.seq ?_
   refine W.seq ?_
   refine W.pk ?_
   refine .v rfl rfl (OpL.move (.inl rfl) rfl) ?_
   refine .v rfl rfl (O.eqSl sl45 rfl rfl rfl) ?_
   refine .nil ?_
   refine W.cond rfl (fun q => by cases q) (fun _ => ?_)
   refine W.skip ?_
   refine W.ghost (Gives.emptyS 0 5 rfl) ?_
   refine W.seq ?_
   refine W.pk ?_
   refine .t rfl rfl (O.lit (enc := api_Leg.enc) (l := []) sl45 rfl rfl rfl rfl rfl rfl rfl rfl rfl) ?_
   refine .v rfl rfl (OpL.move (.inl rfl) rfl) ?_
   have h2 : (List.length ([] : List api_Leg) + List.length ([] : List api_Leg)) * 56 ≤ 140737488355328 := by simp
   refine .t rfl rfl (O.app (l := []) sl45 api_Leg.ok h2 rfl rfl rfl rfl) ?_
   refine .v rfl rfl (OpL.move (.inr rfl) rfl) ?_
   refine .nil ?_
   refine W.ret ?_
   exact leaves (.inr rfl) rfl (.own _ _ _ _ rfl) (cS (.own _ _ _ _ rfl) .nil) rfl rfl

set_option maxRecDepth 100000 in
set_option maxHeartbeats 4000000 in
theorem leg_Order_v2.ok {x0 : List api_Leg} {r : List api_Leg} (h : leg_Order.f x0 = some r) : Pm.Spec prog 19 [.xown 31 5 (List.map api_Leg.enc x0)] (.xown 31 5 (List.map api_Leg.enc r)) [some (.xown 31 5 (List.map api_Leg.enc x0))] := by
 unfold leg_Order.f at h; refine Pm.Spec.of_body Try.func19 rfl (by kernel_rfl) (Nat.le_of_ble_eq_true rfl) (Nat.le_of_ble_eq_true rfl) ?_; refine W.ghost (σ' := (mkSt [(0, some (.own 0))] [(0, some (.rows 31 5 (List.map api_Leg.enc x0) false))] 1000)) (Gives.entry (.c rfl .n) (.c rfl .n)) ?_; refine W.seq ?_; refine W.pk ?_; refine .a rfl rfl rfl rfl ?_; refine .nil ?_; refine W.seq ?_; obtain ⟨t1, b2, h⟩ := bnd1 h; refine W.pk ?_; refine .m rfl rfl rfl rfl ?_; refine .call (.own 1000) [(1000, some (.rows 31 5 (List.map api_Leg.enc t1) false)), (0, some (.rows 31 5 (List.map api_Leg.enc x0) false)), (0, none)] 1 (slices_Clone_api_Leg_v2.ok b2) rfl rfl rfl ca38 rfl rfl (cC (.own _ _ _ _ rfl) .nil) rfl rfl rfl rfl rfl ?_; refine .a rfl rfl rfl rfl ?_; refine .nil ?_; refine W.seq ?_; obtain ⟨t3, b4, h⟩ := bnd1 h; refine W.pk ?_; refine .m rfl rfl rfl rfl ?_; refine .call (.tup []) [(1000, some (.rows 31 5 (List.map api_Leg.enc t3) false)), (1000, none)] 0 (slices_SortStableFunc_api_Leg__leg_Order_1.ok b4) rfl rfl rfl ca39 rfl rfl (cC (.own _ _ _ _ rfl) (cC (.fn _ _ _ _ _ .nil) .nil)) rfl rfl rfl rfl rfl ?_; refine .nil ?_; refine W.seq ?_; refine W.pk ?_; refine .m rfl rfl rfl rfl ?_; refine .a rfl rfl rfl rfl ?_; refine .nil ?_; refine W.ret ?_; cases h; exact leaves (.inr rfl) rfl (.own _ _ _ _ rfl) (cS (.own _ _ _ _ rfl) .nil) rfl rfl

set_option maxRecDepth 100000 in
set_option maxHeartbeats 4000000 in
theorem lombardref25_Order_v2.ok {x0 : List api_Leg} {r : List api_Leg} (h : lombardref25_Order.f x0 = some r) : Pm.Spec prog 20 [.xown 31 5 (List.map api_Leg.enc x0)] (.xown 31 5 (List.map api_Leg.enc r)) [some (.xown 31 5 (List.map api_Leg.enc x0))] := by
 unfold lombardref25_Order.f at h; refine Pm.Spec.of_body Try.func20 rfl (by kernel_rfl) (Nat.le_of_ble_eq_true rfl) (Nat.le_of_ble_eq_true rfl) ?_; refine W.ghost (σ' := (mkSt [(0, some (.own 0))] [(0, some (.rows 31 5 (List.map api_Leg.enc x0) false))] 1000)) (Gives.entry (.c rfl .n) (.c rfl .n)) ?_; refine W.seq ?_; refine W.pk ?_; refine .a rfl rfl rfl rfl ?_; refine .nil ?_; refine W.seq ?_; refine W.pk ?_; refine .a rfl rfl rfl rfl ?_; refine .nil ?_; (iterate 2 refine W.seq ?_); refine W.pk ?_; refine .a rfl rfl rfl rfl ?_; refine .nil ?_; refine W.ghost (Gives.mintS 3 31 5 rfl) ?_; obtain ⟨o149, b150, h⟩ := bnd1 h; refine W.fork (mkSt [(3, some (.own 1000))] [(0, some (.rows 31 5 (List.map api_Leg.enc x0) false)), (1000, some (.rows 31 5 (List.map api_Leg.enc o149) false))] 1001) ?_ ?_
 ·refine W.seq ?_; refine W.pk ?_; refine .m rfl rfl rfl rfl ?_; refine .a rfl rfl rfl rfl ?_; refine .nil ?_; refine W.ret ?_; cases h; exact leaves (.inr rfl) rfl (.own _ _ _ _ rfl) (cS (.own _ _ _ _ rfl) .nil) rfl rfl
 ·clear h; refine W.block ?_; refine W.loopF (fun (s_ : Int × (List api_Leg)) => mkSt [(0, some (.own 0)), (3, some (.own 1000)), (4, some (.i s_.1))] [(0, some (.rows 31 5 (List.map api_Leg.enc x0) false)), (1000, some (.rows 31 5 (List.map api_Leg.enc s_.2) false))] 1001) b150 (Gives.mkR [] (.e rfl rfl) (.e rfl rfl) rfl rfl rfl) ?_; rintro ⟨v74, v75⟩ s_ hr; have h : lombardref25_Order.b0 x0 v74 v75 = some s_ := hr; unfold lombardref25_Order.b0 at h; (iterate 2 refine W.seq ?_); refine W.pk ?_; (iterate 2 refine .m rfl rfl rfl rfl ?_); refine .v rfl rfl (O.lenO sl45 rfl rfl rfl) ?_; refine .v rfl rfl (OpL.binI rfl rfl rfl rfl) ?_; refine .nil ?_; refine W.cond rfl (fun q152 => ?_) (fun q152 => ?_)
  ·have h := ifT q152 h; refine W.skip ?_; refine W.seq ?_; refine W.block ?_; refine W.seq ?_; refine W.pk ?_; refine .m rfl rfl rfl rfl ?_; refine .v rfl rfl (O.lenO sl45 rfl rfl rfl) ?_; refine .a rfl rfl rfl rfl ?_; refine .nil ?_; refine W.seq ?_; obtain ⟨o173, b174, h⟩ := bnd1 h; refine W.fork (mkSt [(0, some (.own 0)), (3, some (.own 1000)), (4, some (.i v74)), (5, some (.i o173))] [(0, some (.rows 31 5 (List.map api_Leg.enc x0) false)), (1000, some (.rows 31 5 (List.map api_Leg.enc v75) false))] 1001) ?_ ?_
   ·refine W.seq ?_; obtain ⟨c182, h⟩ := chk h; obtain ⟨c183, h⟩ := chk h; refine W.pk ?_; refine .t rfl rfl (O.lit (enc := api_Leg.enc) (l := ([] : List api_Leg)) sl45 rfl rfl rfl rfl rfl rfl rfl rfl rfl) ?_; (iterate 2 refine .m rfl rfl rfl rfl ?_); refine .v rfl rfl (O.partO sl45 c182 rfl rfl rfl rfl rfl) ?_; refine .t rfl rfl (O.appW sl45 api_Leg.ok (viewB c182) c183 rfl rfl rfl rfl rfl) ?_; refine .a rfl rfl rfl rfl ?_; refine .nil ?_; refine W.seq ?_; obtain ⟨c184, h⟩ := chk h; obtain ⟨c185, h⟩ := chk h; refine W.pk ?_; (iterate 3 refine .m rfl rfl rfl rfl ?_); refine .v rfl rfl (O.idxO sl45 c184 rfl rfl rfl rfl) ?_; refine .v rfl rfl (O.ldEN ty31 c184 rfl rfl rfl rfl rfl) ?_; refine .t rfl rfl (O.lit (enc := api_Leg.enc) (l := [(nth x0 v74)]) sl45 rfl rfl rfl rfl rfl rfl rfl rfl rfl) ?_; refine .t rfl rfl (O.appO sl45 api_Leg.ok c185 rfl rfl rfl rfl rfl) ?_; refine .a rfl rfl rfl rfl ?_; refine .nil ?_; obtain ⟨c186, h⟩ := chk h; obtain ⟨c187, h⟩ := chk h; refine W.pk ?_; (iterate 3 refine .m rfl rfl rfl rfl ?_); refine .v rfl rfl (O.partO sl45 c186 rfl rfl rfl rfl rfl) ?_; refine .t rfl rfl (O.appW sl45 api_Leg.ok (viewB c186) c187 rfl rfl rfl rfl rfl) ?_; refine .a rfl rfl rfl rfl ?_; refine .nil ?_; refine W.pk ?_; refine .m rfl rfl rfl rfl ?_; refine .v rfl rfl (OpL.binI rfl rfl rfl rfl) ?_; refine .a rfl rfl rfl rfl ?_; refine .nil ?_; cases h; exact rdN (Gives.mkR [(1000, 1005)] (.e rfl rfl) (.e rfl rfl) rfl rfl rfl)
   ·clear h; refine W.block ?_; refine W.loopF (fun (s_ : Int) => mkSt [(0, some (.own 0)), (3, some (.own 1000)), (4, some (.i v74)), (5, some (.i s_))] [(0, some (.rows 31 5 (List.map api_Leg.enc x0) false)), (1000, some (.rows 31 5 (List.map api_Leg.enc v75) false))] 1001) b174 (Gives.mkR [] (.e rfl rfl) (.e rfl rfl) rfl rfl rfl) ?_; rintro v159 s_ hr; have h : lombardref25_Order.b1 x0 v74 v75 v159 = some s_ := hr; unfold lombardref25_Order.b1 at h; (iterate 2 refine W.seq ?_); obtain ⟨c176, h⟩ := chk h; obtain ⟨c177, h⟩ := chk h; obtain ⟨t178, b179, h⟩ := bnd1 h; refine W.fork (mkSt [(0, some (.own 0)), (3, some (.own 1000)), (4, some (.i v74)), (5, some (.i v159)), (28, some (.b ((decide (v159 > 0)) && t178)))] [(0, some (.rows 31 5 (List.map api_Leg.enc x0) false)), (1000, some (.rows 31 5 (List.map api_Leg.enc v75) false))] 1001) ?_ ?_
    ·refine W.cond rfl (fun q181 => ?_) (fun q181 => ?_)
     ·have h := ifT q181 h; refine W.skip ?_; refine W.block ?_; refine W.pk ?_; refine .m rfl rfl rfl rfl ?_; refine .v rfl rfl (OpL.binI rfl rfl rfl rfl) ?_; refine .a rfl rfl rfl rfl ?_; refine .nil ?_; cases h; exact rdN (Gives.mkR [] (.e rfl rfl) (.e rfl rfl) rfl rfl rfl)
     ·have h := ifF q181 h; refine W.exit ?_; cases h; refine rdX fun e_ => ?_; subst e_; (repeat with_reducible refine thru ?_); refine hit ?_; exact toN (Gives.mkR [] (.e rfl rfl) (.e rfl rfl) rfl rfl rfl)
    ·clear h; refine W.dk (unm 14 [0, 1, 3, 7, 7, 31, 63, 7, 7, 263, 903, 1927, 4095, 8191]) rfl (by kernel_rfl) ?_; refine .m rfl rfl rfl rfl ?_; refine .v rfl rfl (OpL.binI rfl rfl rfl rfl) ?_; refine .m rfl rfl rfl rfl ?_; rcases tf (decide (v159 > 0)) with g180 | g180
     ·(iterate 2 refine .m rfl (met rfl rfl rfl g180) rfl rfl ?_); refine .v rfl (met rfl rfl rfl g180) (O.idxO sl45 (c176 (by simp only [g180, BL])) rfl rfl rfl rfl) ?_; refine .v rfl (met rfl rfl rfl g180) (O.ldEN ty31 (c176 (by simp only [g180, BL])) rfl rfl rfl rfl rfl) ?_; (iterate 2 refine .m rfl (met rfl rfl rfl g180) rfl rfl ?_); refine .v rfl (met rfl rfl rfl g180) (OpL.binI rfl rfl rfl rfl) ?_; refine .v rfl (met rfl rfl rfl g180) (O.idxO sl45 (c177 (by simp only [g180, BL])) rfl rfl rfl rfl) ?_; refine .v rfl (met rfl rfl rfl g180) (O.ldEN ty31 (c177 (by simp only [g180, BL])) rfl rfl rfl rfl rfl) ?_; refine .call (.b t178) [] 0 (lombardref25_ahead.ok ((if_pos (by simp only [g180, BL])).symm.trans b179)) rfl (met rfl rfl rfl g180) rfl ca43 rfl rfl (cC (.agg _ _ _ _ (cC (.imm _) (cC (.imm _) (cC (.imm _) (cC (.imm _) (cC (.imm _) .nil)))))) (cC (.agg _ _ _ _ (cC (.imm _) (cC (.imm _) (cC (.imm _) (cC (.imm _) (cC (.imm _) .nil)))))) .nil)) rfl rfl rfl rfl rfl ?_; refine .v rfl rfl (O.pickT g180 rfl rfl rfl) ?_; refine .nil ?_; refine ⟨by kernel_rfl, by kernel_rfl, ?_⟩; exact toN (Gives.mkR [] (.r rfl rfl (.r rfl rfl (.r rfl rfl (.r rfl rfl (.c rfl (sbb (by simp only [g180, BL])) rfl .n))))) (.e rfl rfl) rfl rfl rfl)
     ·(iterate 10 refine .x rfl (unmet rfl rfl rfl g180) ?_); refine .v rfl rfl (O.pickF g180 rfl rfl rfl) ?_; refine .nil ?_; refine ⟨by kernel_rfl, by kernel_rfl, ?_⟩; exact toN (Gives.mkR [] (.r rfl rfl (.r rfl rfl (.r rfl rfl (.r rfl rfl (.c rfl (sbb (by simp only [g180, BL])) rfl .n))))) (.e rfl rfl) rfl rfl rfl)
  ·have h := ifF q152 h; refine W.exit ?_; cases h; refine rdX fun e_ => ?_; subst e_; (repeat with_reducible refine thru ?_); refine hit ?_; exact toN (Gives.mkR [] (.r rfl rfl .n) (.e rfl rfl) rfl rfl rfl)

noncomputable def lombardlaw25_LegDays.b0 (x0 : List lombardref25_Covered) (v27 : Int) (v28 : List leg_Covered) : Option ((Int × (List leg_Covered)) ⊕ (Bool ⊕ (List leg_Covered))) :=
  if (decide (v27 < (List.length x0 : Int))) = true then
    if (0 : Int) ≤ v27 ∧ v27 < (List.length x0 : Int) then
    (lombardlaw25_short.f (⟨((nth x0 v27).Trade), (nth x0 v27).Lots⟩ : lombardref25_Covered)).bind fun t57 =>
    if (!t57) = true then
      (lombardlaw25_awake.f).bind fun t60 =>
      some (.inr (.inl t60))
    else
      if (0 : Int) ≤ v27 ∧ v27 < (List.length x0 : Int) then
      (lombardlaw25_of.f (⟨((nth x0 v27).Trade), (nth x0 v27).Lots⟩ : lombardref25_Covered)).bind fun t63 =>
      if (List.length v28 + List.length [t63]) * 128 ≤ 140737488355328 then
      some (.inl ((IntKind.wrap .i64 (v27 + 1)), (v28 ++ [t63])))
      else none
      else none
    else none
  else
    some (.inr (.inr v28))
noncomputable def lombardlaw25_LegDays.r0 (x0 : List lombardref25_Covered) (s : Int × (List leg_Covered)) : Option ((Int × (List leg_Covered)) ⊕ (Bool ⊕ (List leg_Covered))) := lombardlaw25_LegDays.b0 x0 s.1 s.2
noncomputable def lombardlaw25_LegDays.f (x0 : List lombardref25_Covered) (x1 : Int) (x2 : Int) : Option (Bool) :=
  if (decide ((List.length x0 : Int) > 80)) = true then
    (lombardlaw25_awake.f).bind fun t2 =>
    some t2
  else
    (loop (lombardlaw25_LegDays.r0 x0) (0, [])).bind fun o52 =>
    match o52 with
    | .inl r66 => some r66
    | .inr w51 =>
      (leg_On.f w51 x1).bind fun t67 =>
      (lombardref25_On.f x0 x1).bind fun t69 =>
      (lombardref25_All.f t67.1 t69.1).bind fun t71 =>
      (if (t71 && (t67.2 == t69.2)) = true then leg_Of.f t69.1 x2 else some default).bind fun t73 =>
      (if (t71 && (t67.2 == t69.2)) = true then lombardref25_Of.f t69.1 x2 else some default).bind fun t75 =>
      (if (t71 && (t67.2 == t69.2)) = true then lombardref25_All.f t73 t75 else some default).bind fun t77 =>
      (if ((t71 && (t67.2 == t69.2)) && t77) = true then leg_Order.f t69.1 else some default).bind fun t79 =>
      (if ((t71 && (t67.2 == t69.2)) && t77) = true then lombardref25_Order.f t69.1 else some default).bind fun t81 =>
      (if ((t71 && (t67.2 == t69.2)) && t77) = true then lombardref25_All.f t79 t81 else some default).bind fun t83 =>
      (if (((t71 && (t67.2 == t69.2)) && t77) && t83) = true then lombardlaw25_awake.f else some default).bind fun t85 =>
      some ((((t71 && (t67.2 == t69.2)) && t77) && t83) && t85)
set_option maxRecDepth 100000 in
set_option maxHeartbeats 4000000 in
theorem lombardlaw25_LegDays.ok {x0 : List lombardref25_Covered} {x1 : Int} {x2 : Int} {r : Bool} (h : lombardlaw25_LegDays.f x0 x1 x2 = some r) : Pm.Spec prog 7 [.imm (.row 12 (List.map lombardref25_Covered.enc x0)), .imm (.val (.int .i64 x1)), .imm (.val (.int .i64 x2))] (.imm (.val (.bool r))) [none, none, none] := by
 unfold lombardlaw25_LegDays.f at h; refine Pm.Spec.of_body Try.func7 rfl (by kernel_rfl) (Nat.le_of_ble_eq_true rfl) (Nat.le_of_ble_eq_true rfl) ?_; refine W.ghost (σ' := (mkSt [(0, some (.imm (.row 12 (List.map lombardref25_Covered.enc x0)))), (1, some (.i x1)), (2, some (.i x2))] [] 1000)) (Gives.entry (.c rfl (.c rfl (.c rfl .n))) .n) ?_; refine W.seq ?_; refine W.pk ?_; refine .a rfl rfl rfl rfl ?_; refine .nil ?_; (iterate 2 refine W.seq ?_); refine W.pk ?_; refine .m rfl rfl rfl rfl ?_; refine .v rfl rfl (O.lenR sl49 rfl rfl) ?_; refine .v rfl rfl (OpL.binI rfl rfl rfl rfl) ?_; refine .nil ?_; refine W.cond rfl (fun q1 => ?_) (fun q1 => ?_)
 ·have h := ifT q1 h; refine W.seq ?_; obtain ⟨t2, b3, h⟩ := bnd1 h; refine W.pk ?_; refine .call (.b t2) [] 0 (lombardlaw25_awake.ok b3) rfl rfl rfl ca9 rfl rfl .nil rfl rfl rfl rfl rfl ?_; refine .a rfl rfl rfl rfl ?_; refine .nil ?_; refine W.ret ?_; cases h; exact leaves (.inr rfl) rfl (.imm _) (cN (cN (cN .nil))) rfl rfl
 ·have h := ifF q1 h; refine W.skip ?_; refine W.seq ?_; refine W.pk ?_; refine .a rfl rfl rfl rfl ?_; refine .nil ?_; (iterate 2 refine W.seq ?_); refine W.pk ?_; refine .a rfl rfl rfl rfl ?_; refine .nil ?_; refine W.ghost (Gives.mintS 7 34 12 rfl) ?_; obtain ⟨o52, b53, z54⟩ := bnd1 h; refine W.fork2 (out := o52) (fun (w51 : List leg_Covered) => mkSt [(0, some (.imm (.row 12 (List.map lombardref25_Covered.enc x0)))), (1, some (.i x1)), (2, some (.i x2)), (7, some (.own 1000))] [(1000, some (.rows 34 12 (List.map leg_Covered.enc w51) false))] 1001) ?_ ?_
  ·clear h; refine W.block ?_; refine W.loopF (fun (s_ : Int × (List leg_Covered)) => mkSt [(0, some (.imm (.row 12 (List.map lombardref25_Covered.enc x0)))), (1, some (.i x1)), (2, some (.i x2)), (7, some (.own 1000)), (8, some (.i s_.1))] [(1000, some (.rows 34 12 (List.map leg_Covered.enc s_.2) false))] 1001) b53 (Gives.mkR [] (.e rfl rfl) (.r rfl rfl rfl .n) rfl rfl rfl) ?_; rintro ⟨v27, v28⟩ s_ hr; have h : lombardlaw25_LegDays.b0 x0 v27 v28 = some s_ := hr; unfold lombardlaw25_LegDays.b0 at h; (iterate 2 refine W.seq ?_); refine W.pk ?_; (iterate 2 refine .m rfl rfl rfl rfl ?_); refine .v rfl rfl (O.lenR sl49 rfl rfl) ?_; refine .v rfl rfl (OpL.binI rfl rfl rfl rfl) ?_; refine .nil ?_; refine W.cond rfl (fun q55 => ?_) (fun q55 => ?_)
   ·have h := ifT q55 h; refine W.skip ?_; refine W.seq ?_; refine W.block ?_; (iterate 2 refine W.seq ?_); obtain ⟨c56, h⟩ := chk h; obtain ⟨t57, b58, h⟩ := bnd1 h; refine W.pk ?_; (iterate 2 refine .m rfl rfl rfl rfl ?_); refine .v rfl rfl (O.idx sl49 c56 rfl rfl rfl) ?_; refine .v rfl rfl (O.ldN ty27 rfl rfl rfl) ?_; refine .call (.b t57) [] 0 (lombardlaw25_short.ok b58) rfl rfl rfl ca8 rfl rfl (cC (.agg _ _ _ _ (cC (.imm _) (cC (.imm _) (cC (.imm _) (cC (.imm _) (cC (.imm _) (cC (.imm _) (cC (.imm _) (cC (.imm _) (cC (.imm _) (cC (.imm _) (cC (.imm _) (cC (.imm _) .nil))))))))))))) .nil) rfl rfl rfl rfl rfl ?_; refine .v rfl rfl (OpL.unV rfl rfl rfl) ?_; refine .nil ?_; refine W.cond rfl (fun q59 => ?_) (fun q59 => ?_)
    ·have h := ifT q59 h; refine W.seq ?_; obtain ⟨t60, b61, h⟩ := bnd1 h; refine W.pk ?_; refine .call (.b t60) [] 0 (lombardlaw25_awake.ok b61) rfl rfl rfl ca9 rfl rfl .nil rfl rfl rfl rfl rfl ?_; refine .a rfl rfl rfl rfl ?_; refine .nil ?_; refine W.ret ?_; cases h; refine rdR fun e_ => ?_; subst e_; have h := z54; dsimp only at h; refine fkR ?_; cases h; exact leaves (.inr rfl) rfl (.imm _) (cN (cN (cN .nil))) rfl rfl
    ·have h := ifF q59 h; refine W.skip ?_; obtain ⟨c62, h⟩ := chk h; obtain ⟨t63, b64, h⟩ := bnd1 h; obtain ⟨c65, h⟩ := chk h; refine W.pk ?_; (iterate 3 refine .m rfl rfl rfl rfl ?_); refine .v rfl rfl (O.idx sl49 c62 rfl rfl rfl) ?_; refine .v rfl rfl (O.ldN ty27 rfl rfl rfl) ?_; refine .call (.agg (leg_Covered.av t63)) [] 0 (lombardlaw25_of.ok b64) rfl rfl rfl ca10 rfl rfl (cC (.agg _ _ _ _ (cC (.imm _) (cC (.imm _) (cC (.imm _) (cC (.imm _) (cC (.imm _) (cC (.imm _) (cC (.imm _) (cC (.imm _) (cC (.imm _) (cC (.imm _) (cC (.imm _) (cC (.imm _) .nil))))))))))))) .nil) rfl rfl rfl rfl rfl ?_; refine .t rfl rfl (O.lit (enc := leg_Covered.enc) (l := [t63]) sl50 rfl rfl rfl rfl rfl rfl rfl rfl rfl) ?_; refine .t rfl rfl (O.appO sl50 leg_Covered.ok c65 rfl rfl rfl rfl rfl) ?_; refine .a rfl rfl rfl rfl ?_; refine .nil ?_; refine W.pk ?_; refine .m rfl rfl rfl rfl ?_; refine .v rfl rfl (OpL.binI rfl rfl rfl rfl) ?_; refine .a rfl rfl rfl rfl ?_; refine .nil ?_; cases h; exact rdN (Gives.mkR [(1000, 1002)] (.e rfl rfl) (.r rfl rfl rfl .n) rfl rfl rfl)
   ·have h := ifF q55 h; refine W.exit ?_; cases h; refine rdX fun e_ => ?_; subst e_; (repeat with_reducible refine thru ?_); refine hit ?_; exact fkN (Gives.mkR [] (.e rfl rfl) (.r rfl rfl rfl .n) rfl rfl rfl)
  ·intro w51 e_; subst e_; clear h; have h := z54; dsimp only at h; refine W.seq ?_; obtain ⟨t67, b68, h⟩ := bnd1 h; refine W.pk ?_; (iterate 2 refine .m rfl rfl rfl rfl ?_); refine .call (.tup [.own 1001, .i t67.2]) [(1001, some (.rows 31 5 (List.map api_Leg.enc t67.1) false)), (1000, some (.rows 34 12 (List.map leg_Covered.enc w51) false)), (1000, none)] 1 (leg_On.ok b68) rfl rfl rfl ca22 rfl rfl (cC (.own _ _ _ _ rfl) (cC (.imm _) .nil)) rfl rfl rfl rfl rfl ?_; refine .m rfl rfl rfl rfl ?_; (iterate 2 refine .v rfl rfl (OpL.extract rfl rfl rfl) ?_); (iterate 2 refine .a rfl rfl rfl rfl ?_); refine .nil ?_; refine W.seq ?_; obtain ⟨t69, b70, h⟩ := bnd1 h; refine W.pk ?_; (iterate 2 refine .m rfl rfl rfl rfl ?_); refine .call (.tup [.own 1002, .i t69.2]) [(1002, some (.rows 31 5 (List.map api_Leg.enc t69.1) false))] 1 (lombardref25_On.ok b70) rfl rfl rfl ca23 rfl rfl (cC (.imm _) (cC (.imm _) .nil)) rfl rfl rfl rfl rfl ?_; refine .m rfl rfl rfl rfl ?_; (iterate 2 refine .v rfl rfl (OpL.extract rfl rfl rfl) ?_); (iterate 2 refine .a rfl rfl rfl rfl ?_); refine .nil ?_; refine W.seq ?_; obtain ⟨t71, b72, h⟩ := bnd1 h; obtain ⟨t73, b74, h⟩ := bnd1 h; obtain ⟨t75, b76, h⟩ := bnd1 h; obtain ⟨t77, b78, h⟩ := bnd1 h; obtain ⟨t79, b80, h⟩ := bnd1 h; obtain ⟨t81, b82, h⟩ := bnd1 h; obtain ⟨t83, b84, h⟩ := bnd1 h; obtain ⟨t85, b86, h⟩ := bnd1 h; refine W.fork (mkSt [(6, some (.b ((((t71 && (t67.2 == t69.2)) && t77) && t83) && t85)))] [] 1007) ?_ ?_
   ·refine W.ret ?_; cases h; exact leaves (.inr rfl) rfl (.imm _) (cN (cN (cN .nil))) rfl rfl
   ·clear h; refine W.pk ?_; (iterate 2 refine .m rfl rfl rfl rfl ?_); refine .call (.b t71) [(1001, some (.rows 31 5 (List.map api_Leg.enc t67.1) false)), (1002, some (.rows 31 5 (List.map api_Leg.enc t69.1) false)), (1001, none), (1002, none)] 0 (lombardref25_All.ok b72) rfl rfl rfl ca18 rfl rfl (cC (.own _ _ _ _ rfl) (cC (.own _ _ _ _ rfl) .nil)) rfl rfl rfl rfl rfl ?_; refine .m rfl rfl rfl rfl ?_; rcases tf t71 with g87 | g87
    ·(iterate 2 refine .m rfl (met rfl rfl rfl g87) rfl rfl ?_); refine .v rfl (met rfl rfl rfl g87) (OpL.binI rfl rfl rfl rfl) ?_; refine .v rfl rfl (O.pickT g87 rfl rfl rfl) ?_; refine .m rfl rfl rfl rfl ?_; rcases tf (t67.2 == t69.2) with g88 | g88
     ·(iterate 2 refine .m rfl (met rfl rfl rfl g88) rfl rfl ?_); refine .call (.own 1003) [(1003, some (.rows 31 5 (List.map api_Leg.enc t73) false)), (1002, some (.rows 31 5 (List.map api_Leg.enc t69.1) false)), (1002, none)] 1 (leg_Of.ok ((if_pos (by first | (simp only [g87, g88, BL]; done) | (repeat (first | rw [g87] | rw [g88])) <;> simp only [BL])).symm.trans b74)) rfl (met rfl rfl rfl g88) rfl ca24 rfl rfl (cC (.own _ _ _ _ rfl) (cC (.imm _) .nil)) rfl rfl rfl rfl rfl ?_; (iterate 2 refine .m rfl (met rfl rfl rfl g88) rfl rfl ?_); refine .call (.own 1004) [(1004, some (.rows 31 5 (List.map api_Leg.enc t75) false)), (1002, some (.rows 31 5 (List.map api_Leg.enc t69.1) false)), (1002, none)] 1 (lombardref25_Of.ok ((if_pos (by first | (simp only [g87, g88, BL]; done) | (repeat (first | rw [g87] | rw [g88])) <;> simp only [BL])).symm.trans b76)) rfl (met rfl rfl rfl g88) rfl ca25 rfl rfl (cC (.own _ _ _ _ rfl) (cC (.imm _) .nil)) rfl rfl rfl rfl rfl ?_; refine .call (.b t77) [(1003, some (.rows 31 5 (List.map api_Leg.enc t73) false)), (1004, some (.rows 31 5 (List.map api_Leg.enc t75) false)), (1003, none), (1004, none)] 0 (lombardref25_All.ok ((if_pos (by first | (simp only [g87, g88, BL]; done) | (repeat (first | rw [g87] | rw [g88])) <;> simp only [BL])).symm.trans b78)) rfl (met rfl rfl rfl g88) rfl ca18 rfl rfl (cC (.own _ _ _ _ rfl) (cC (.own _ _ _ _ rfl) .nil)) rfl rfl rfl rfl rfl ?_; refine .v rfl rfl (O.pickT g88 rfl rfl rfl) ?_; refine .m rfl rfl rfl rfl ?_; rcases tf t77 with g89 | g89
      ·refine .m rfl (met rfl rfl rfl g89) rfl rfl ?_; refine .call (.own 1005) [(1005, some (.rows 31 5 (List.map api_Leg.enc t79) false)), (1002, some (.rows 31 5 (List.map api_Leg.enc t69.1) false)), (1002, none)] 1 (leg_Order_v2.ok ((if_pos (by first | (simp only [g87, g88, g89, BL]; done) | (repeat (first | rw [g87] | rw [g88] | rw [g89])) <;> simp only [BL])).symm.trans b80)) rfl (met rfl rfl rfl g89) rfl ca19 rfl rfl (cC (.own _ _ _ _ rfl) .nil) rfl rfl rfl rfl rfl ?_; refine .m rfl (met rfl rfl rfl g89) rfl rfl ?_; refine .call (.own 1006) [(1006, some (.rows 31 5 (List.map api_Leg.enc t81) false)), (1002, some (.rows 31 5 (List.map api_Leg.enc t69.1) false)), (1002, none)] 1 (lombardref25_Order_v2.ok ((if_pos (by first | (simp only [g87, g88, g89, BL]; done) | (repeat (first | rw [g87] | rw [g88] | rw [g89])) <;> simp only [BL])).symm.trans b82)) rfl (met rfl rfl rfl g89) rfl ca20 rfl rfl (cC (.own _ _ _ _ rfl) .nil) rfl rfl rfl rfl rfl ?_; refine .call (.b t83) [(1005, some (.rows 31 5 (List.map api_Leg.enc t79) false)), (1006, some (.rows 31 5 (List.map api_Leg.enc t81) false)), (1005, none), (1006, none)] 0 (lombardref25_All.ok ((if_pos (by first | (simp only [g87, g88, g89, BL]; done) | (repeat (first | rw [g87] | rw [g88] | rw [g89])) <;> simp only [BL])).symm.trans b84)) rfl (met rfl rfl rfl g89) rfl ca18 rfl rfl (cC (.own _ _ _ _ rfl) (cC (.own _ _ _ _ rfl) .nil)) rfl rfl rfl rfl rfl ?_; refine .v rfl rfl (O.pickT g89 rfl rfl rfl) ?_; refine .m rfl rfl rfl rfl ?_; rcases tf t83 with g90 | g90
       ·refine .call (.b t85) [] 0 (lombardlaw25_awake.ok ((if_pos (by first | (simp only [g87, g88, g89, g90, BL]; done) | (repeat (first | rw [g87] | rw [g88] | rw [g89] | rw [g90])) <;> simp only [BL])).symm.trans b86)) rfl (met rfl rfl rfl g90) rfl ca9 rfl rfl .nil rfl rfl rfl rfl rfl ?_; refine .v rfl rfl (O.pickT g90 rfl rfl rfl) ?_; refine .a rfl rfl rfl rfl ?_; refine .nil ?_; exact toN (Gives.mkR [] (.c rfl (sbb (by first | (simp only [g87, g88, g89, g90, BL]; done) | (repeat (first | rw [g87] | rw [g88] | rw [g89] | rw [g90])) <;> simp only [BL])) rfl .n) .n rfl rfl rfl)
       ·refine .x rfl (unmet rfl rfl rfl g90) ?_; refine .v rfl rfl (O.pickF g90 rfl rfl rfl) ?_; refine .a rfl rfl rfl rfl ?_; refine .nil ?_; exact toN (Gives.mkR [] (.c rfl (sbb (by first | (simp only [g87, g88, g89, g90, BL]; done) | (repeat (first | rw [g87] | rw [g88] | rw [g89] | rw [g90])) <;> simp only [BL])) rfl .n) .n rfl rfl rfl)
      ·(iterate 5 refine .x rfl (unmet rfl rfl rfl g89) ?_); refine .v rfl rfl (O.pickF g89 rfl rfl rfl) ?_; refine .m rfl rfl rfl rfl ?_; refine .x rfl (unmet rfl rfl rfl rfl) ?_; refine .v rfl rfl (O.pickF rfl rfl rfl rfl) ?_; refine .a rfl rfl rfl rfl ?_; refine .nil ?_; exact toN (Gives.mkR [] (.c rfl (sbb (by first | (simp only [g87, g88, g89, BL]; done) | (repeat (first | rw [g87] | rw [g88] | rw [g89])) <;> simp only [BL])) rfl .n) .n rfl rfl rfl)
     ·(iterate 7 refine .x rfl (unmet rfl rfl rfl g88) ?_); refine .v rfl rfl (O.pickF g88 rfl rfl rfl) ?_; refine .m rfl rfl rfl rfl ?_; (iterate 5 refine .x rfl (unmet rfl rfl rfl rfl) ?_); refine .v rfl rfl (O.pickF rfl rfl rfl rfl) ?_; refine .m rfl rfl rfl rfl ?_; refine .x rfl (unmet rfl rfl rfl rfl) ?_; refine .v rfl rfl (O.pickF rfl rfl rfl rfl) ?_; refine .a rfl rfl rfl rfl ?_; refine .nil ?_; exact toN (Gives.mkR [] (.c rfl (sbb (by first | (simp only [g87, g88, BL]; done) | (repeat (first | rw [g87] | rw [g88])) <;> simp only [BL])) rfl .n) .n rfl rfl rfl)
    ·(iterate 3 refine .x rfl (unmet rfl rfl rfl g87) ?_); refine .v rfl rfl (O.pickF g87 rfl rfl rfl) ?_; refine .m rfl rfl rfl rfl ?_; (iterate 7 refine .x rfl (unmet rfl rfl rfl rfl) ?_); refine .v rfl rfl (O.pickF rfl rfl rfl rfl) ?_; refine .m rfl rfl rfl rfl ?_; (iterate 5 refine .x rfl (unmet rfl rfl rfl rfl) ?_); refine .v rfl rfl (O.pickF rfl rfl rfl rfl) ?_; refine .m rfl rfl rfl rfl ?_; refine .x rfl (unmet rfl rfl rfl rfl) ?_; refine .v rfl rfl (O.pickF rfl rfl rfl rfl) ?_; refine .a rfl rfl rfl rfl ?_; refine .nil ?_; exact toN (Gives.mkR [] (.c rfl (sbb (by simp only [g87, BL])) rfl .n) .n rfl rfl rfl)
end Go.Proofs.Ytlgfdldonoaahaa
