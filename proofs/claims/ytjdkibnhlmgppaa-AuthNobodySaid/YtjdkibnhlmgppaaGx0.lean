/- Shows what functions of the program come to, each as a plain function: written by a program of the author's for this claim. -/
import Derived.Test.YtjdkibnhlmgppaaTy
import Derived.Test.YtjdkibnhlmgppaaFoldW
import Derived.Test.YtjdkibnhlmgppaaPmAC
namespace Go.Proofs.Ytjdkibnhlmgppaa
open Go Go.Pm
set_option linter.unusedVariables false
set_option linter.unusedSimpArgs false
noncomputable def auth_List_Get.f (x1 : Int) : Option (auth_Member × Bool) :=
  some ((⟨0, [], 0, 0, false⟩ : auth_Member), false)
set_option maxRecDepth 100000 in
set_option maxHeartbeats 4000000 in
theorem auth_List_Get.ok {x1 : Int} {r : auth_Member × Bool} (h : auth_List_Get.f x1 = some r) : Pm.Spec prog 4 [.imm (.val (.pointer none)), .imm (.val (.int .i64 x1))] (.tup [.agg [.imm (.val (.int .i64 r.1.ID)), .imm (.val (.string (tx r.1.Name))), .imm (.val (.int .i64 r.1.State)), .imm (.val (.int .i64 r.1.Bound)), .imm (.val (.bool r.1.Late))], .imm (.val (.bool r.2))]) [none, none] := by
 unfold auth_List_Get.f at h; refine Pm.Spec.of_body Try.func4 rfl (by kernel_rfl) (Nat.le_of_ble_eq_true rfl) (Nat.le_of_ble_eq_true rfl) ?_; refine W.ghost (σ' := (mkSt [(0, some (.imm (.val (.pointer none)))), (1, some (.i x1))] [] 1000)) (Gives.entry (.c rfl (.c rfl .n)) .n) ?_; refine W.seq ?_; refine W.pk ?_; refine .t rfl rfl (O.alloc z28 rfl) ?_; refine .a rfl rfl rfl rfl ?_; refine .nil ?_; (iterate 2 refine W.seq ?_); refine W.pk ?_; refine .m rfl rfl rfl rfl ?_; refine .v rfl rfl (O.eqPnn rfl u22 rfl rfl) ?_; refine .nil ?_; refine W.cond rfl (fun _ => ?_) (fun q => by cases q)
 refine W.seq ?_; refine W.pk ?_; refine .v rfl rfl (O.build (out := [.i 0, .s [], .i 0, .i 0, .b false]) bl28 rfl rfl rfl rfl (by kernel_rfl)) ?_; refine .s rfl rfl (O.st ty28 rfl rfl rfl rfl rfl rfl rfl rfl rfl rfl (all' := [.i 0, .s [], .i 0, .i 0, .b false]) rfl) ?_; refine .a rfl rfl rfl rfl ?_; refine .nil ?_; refine W.ret ?_; cases h; exact leaves (.inr rfl) rfl (.tup _ _ _ _ (cC (.agg _ _ _ _ (cC (.imm _) (cC (.imm _) (cC (.imm _) (cC (.imm _) (cC (.imm _) .nil)))))) (cC (.imm _) .nil))) (cN (cN .nil)) rfl rfl

noncomputable def auth_List_Find.f (x1 : Bs) : Option (auth_Member × Bool) :=
  some ((⟨0, [], 0, 0, false⟩ : auth_Member), false)
set_option maxRecDepth 100000 in
set_option maxHeartbeats 4000000 in
theorem auth_List_Find.ok {x1 : Bs} {r : auth_Member × Bool} (h : auth_List_Find.f x1 = some r) : Pm.Spec prog 5 [.imm (.val (.pointer none)), .imm (.val (.string (tx x1)))] (.tup [.agg [.imm (.val (.int .i64 r.1.ID)), .imm (.val (.string (tx r.1.Name))), .imm (.val (.int .i64 r.1.State)), .imm (.val (.int .i64 r.1.Bound)), .imm (.val (.bool r.1.Late))], .imm (.val (.bool r.2))]) [none, none] := by
 unfold auth_List_Find.f at h; refine Pm.Spec.of_body Try.func5 rfl (by kernel_rfl) (Nat.le_of_ble_eq_true rfl) (Nat.le_of_ble_eq_true rfl) ?_; refine W.ghost (σ' := (mkSt [(0, some (.imm (.val (.pointer none)))), (1, some (.s x1))] [] 1000)) (Gives.entry (.c rfl (.c rfl .n)) .n) ?_; refine W.seq ?_; refine W.pk ?_; refine .t rfl rfl (O.box rfl rfl rfl rfl rfl) ?_; refine .t rfl rfl (O.alloc z28 rfl) ?_; refine .a rfl rfl rfl rfl ?_; refine .nil ?_; (iterate 2 refine W.seq ?_); refine W.pk ?_; refine .m rfl rfl rfl rfl ?_; refine .v rfl rfl (O.eqPnn rfl u22 rfl rfl) ?_; refine .nil ?_; refine W.cond rfl (fun _ => ?_) (fun q => by cases q)
 refine W.seq ?_; refine W.pk ?_; refine .v rfl rfl (O.build (out := [.i 0, .s [], .i 0, .i 0, .b false]) bl28 rfl rfl rfl rfl (by kernel_rfl)) ?_; refine .s rfl rfl (O.st ty28 rfl rfl rfl rfl rfl rfl rfl rfl rfl rfl (all' := [.i 0, .s [], .i 0, .i 0, .b false]) rfl) ?_; refine .a rfl rfl rfl rfl ?_; refine .nil ?_; refine W.ret ?_; cases h; exact leaves (.inr rfl) rfl (.tup _ _ _ _ (cC (.agg _ _ _ _ (cC (.imm _) (cC (.imm _) (cC (.imm _) (cC (.imm _) (cC (.imm _) .nil)))))) (cC (.imm _) .nil))) (cN (cN .nil)) rfl rfl

noncomputable def auth_List_Join.f (x1 : Int) (x2 : Bs) : Option (Int) :=
  some 3
set_option maxRecDepth 100000 in
set_option maxHeartbeats 4000000 in
theorem auth_List_Join.ok {x1 : Int} {x2 : Bs} {r : Int} (h : auth_List_Join.f x1 x2 = some r) : Pm.Spec prog 6 [.imm (.val (.pointer none)), .imm (.val (.int .i64 x1)), .imm (.val (.string (tx x2)))] (.imm (.val (.int .i64 r))) [none, none, none] := by
 unfold auth_List_Join.f at h; refine Pm.Spec.of_body Try.func6 rfl (by kernel_rfl) (Nat.le_of_ble_eq_true rfl) (Nat.le_of_ble_eq_true rfl) ?_; refine W.ghost (σ' := (mkSt [(0, some (.imm (.val (.pointer none)))), (1, some (.i x1)), (2, some (.s x2))] [] 1000)) (Gives.entry (.c rfl (.c rfl (.c rfl .n))) .n) ?_; refine W.seq ?_; refine W.pk ?_; refine .t rfl rfl (O.box rfl rfl rfl rfl rfl) ?_; refine .a rfl rfl rfl rfl ?_; refine .nil ?_; (iterate 2 refine W.seq ?_); refine W.pk ?_; refine .m rfl rfl rfl rfl ?_; refine .v rfl rfl (O.eqPnn rfl u22 rfl rfl) ?_; refine .m rfl rfl rfl rfl ?_; (iterate 5 refine .x rfl (unmet rfl rfl rfl rfl) ?_); refine .v rfl rfl (O.pickT rfl rfl rfl rfl) ?_; refine .nil ?_; refine W.cond rfl (fun _ => ?_) (fun q => by cases q)
 refine W.seq ?_; refine W.pk ?_; refine .a rfl rfl rfl rfl ?_; refine .nil ?_; refine W.ret ?_; cases h; exact leaves (.inr rfl) rfl (.imm _) (cN (cN (cN .nil))) rfl rfl

noncomputable def auth_List_All.f  : Option (List auth_Member) :=
  some []
set_option maxRecDepth 100000 in
set_option maxHeartbeats 4000000 in
theorem auth_List_All.ok  {r : List auth_Member} (h : auth_List_All.f  = some r) : Pm.Spec prog 7 [.imm (.val (.pointer none))] (.imm (.row 5 (List.map auth_Member.enc r))) [none] := by
 unfold auth_List_All.f at h; refine Pm.Spec.of_body Try.func7 rfl (by kernel_rfl) (Nat.le_of_ble_eq_true rfl) (Nat.le_of_ble_eq_true rfl) ?_; refine W.ghost (σ' := (mkSt [(0, some (.imm (.val (.pointer none))))] [] 1000)) (Gives.entry (.c rfl .n) .n) ?_; refine W.seq ?_; refine W.pk ?_; refine .a rfl rfl rfl rfl ?_; refine .nil ?_; (iterate 2 refine W.seq ?_); refine W.pk ?_; refine .m rfl rfl rfl rfl ?_; refine .v rfl rfl (O.eqPnn rfl u22 rfl rfl) ?_; refine .nil ?_; refine W.cond rfl (fun _ => ?_) (fun q => by cases q)
 refine W.seq ?_; refine W.pk ?_; refine .a rfl rfl rfl rfl ?_; refine .nil ?_; refine W.ret ?_; cases h; exact leaves (.inr rfl) rfl (.nilrow _) (cN .nil) rfl rfl

noncomputable def auth_List_change__auth_List_Bound_1.f (x1 : Int) (x2c0 : Int) : Option (Int) :=
  some 3
set_option maxRecDepth 100000 in
set_option maxHeartbeats 4000000 in
theorem auth_List_change__auth_List_Bound_1.ok {x1 : Int} {x2c0 : Int} {r : Int} (h : auth_List_change__auth_List_Bound_1.f x1 x2c0 = some r) : Pm.Spec prog 25 [.imm (.val (.pointer none)), .imm (.val (.int .i64 x1)), .fn 26 [.xbox [.imm (.val (.int .i64 x2c0))]]] (.imm (.val (.int .i64 r))) [none, none, some (.fn 26 [.xbox [.imm (.val (.int .i64 x2c0))]])] := by
 unfold auth_List_change__auth_List_Bound_1.f at h; refine Pm.Spec.of_body Try.func25 rfl (by kernel_rfl) (Nat.le_of_ble_eq_true rfl) (Nat.le_of_ble_eq_true rfl) ?_; refine W.ghost (σ' := (mkSt [(0, some (.imm (.val (.pointer none)))), (1, some (.i x1)), (2, some (.fn 26 [.ptr 0 0]))] [(0, some (.box [.i x2c0]))] 1000)) (Gives.entry (.c rfl (.c rfl (.c rfl .n))) (.c rfl .n)) ?_; refine W.seq ?_; refine W.pk ?_; refine .a rfl rfl rfl rfl ?_; refine .nil ?_; (iterate 2 refine W.seq ?_); refine W.pk ?_; refine .m rfl rfl rfl rfl ?_; refine .v rfl rfl (O.eqPnn rfl u22 rfl rfl) ?_; refine .m rfl rfl rfl rfl ?_; (iterate 5 refine .x rfl (unmet rfl rfl rfl rfl) ?_); refine .v rfl rfl (O.pickT rfl rfl rfl rfl) ?_; refine .nil ?_; refine W.cond rfl (fun _ => ?_) (fun q => by cases q)
 refine W.seq ?_; refine W.pk ?_; refine .a rfl rfl rfl rfl ?_; refine .nil ?_; refine W.ret ?_; cases h; exact leaves (.inr rfl) rfl (.imm _) (cN (cN (cS (.fn _ _ _ _ _ (cC (.ptr _ _ _ _ _ rfl (cC (.imm _) .nil)) .nil)) .nil))) rfl rfl

noncomputable def auth_List_Bound.f (x1 : Int) (x2 : Int) : Option (Int) :=
  if ((decide (x2 < 0)) || (decide (x2 > 1125899906842624))) = true then
    some 1
  else
    (auth_List_change__auth_List_Bound_1.f x1 x2).bind fun t3 =>
    some t3
set_option maxRecDepth 100000 in
set_option maxHeartbeats 4000000 in
theorem auth_List_Bound.ok {x1 : Int} {x2 : Int} {r : Int} (h : auth_List_Bound.f x1 x2 = some r) : Pm.Spec prog 8 [.imm (.val (.pointer none)), .imm (.val (.int .i64 x1)), .imm (.val (.int .i64 x2))] (.imm (.val (.int .i64 r))) [none, none, none] := by
 unfold auth_List_Bound.f at h; refine Pm.Spec.of_body Try.func8 rfl (by kernel_rfl) (Nat.le_of_ble_eq_true rfl) (Nat.le_of_ble_eq_true rfl) ?_; refine W.ghost (σ' := (mkSt [(0, some (.imm (.val (.pointer none)))), (1, some (.i x1)), (2, some (.i x2))] [] 1000)) (Gives.entry (.c rfl (.c rfl (.c rfl .n))) .n) ?_; refine W.seq ?_; refine W.pk ?_; refine .t rfl rfl (O.box rfl rfl rfl rfl rfl) ?_; refine .a rfl rfl rfl rfl ?_; refine .nil ?_; (iterate 2 refine W.seq ?_); refine W.fork (mkSt [(0, some (.imm (.val (.pointer none)))), (1, some (.i x1)), (5, some (.ptr 1000 0)), (12, some (.b ((decide (x2 < 0)) || (decide (x2 > 1125899906842624)))))] [(1000, some (.box [.i x2]))] 1001) ?_ ?_
 ·refine W.cond rfl (fun q2 => ?_) (fun q2 => ?_)
  ·have h := ifT q2 h; refine W.seq ?_; refine W.pk ?_; refine .a rfl rfl rfl rfl ?_; refine .nil ?_; refine W.ret ?_; cases h; exact leaves (.inr rfl) rfl (.imm _) (cN (cN (cN .nil))) rfl rfl
  ·have h := ifF q2 h; refine W.skip ?_; refine W.seq ?_; obtain ⟨t3, b4, h⟩ := bnd1 h; refine W.pk ?_; (iterate 2 refine .m rfl rfl rfl rfl ?_); refine .v rfl rfl (OpL.mkfn rfl rfl) ?_; refine .call (.i t3) [(1000, some (.box [.i x2])), (1000, none)] 0 (auth_List_change__auth_List_Bound_1.ok b4) rfl rfl rfl ca25 rfl rfl (cC (.imm _) (cC (.imm _) (cC (.fn _ _ _ _ _ (cC (.ptr _ _ _ _ _ rfl (cC (.imm _) .nil)) .nil)) .nil))) rfl rfl rfl rfl rfl ?_; refine .a rfl rfl rfl rfl ?_; refine .nil ?_; refine W.ret ?_; cases h; exact leaves (.inr rfl) rfl (.imm _) (cN (cN (cN .nil))) rfl rfl
 ·clear h; refine W.pk ?_; refine .v rfl rfl (O.ld (y := .i x2) ty3 rfl rfl rfl) ?_; refine .v rfl rfl (OpL.binI rfl rfl rfl rfl) ?_; refine .m rfl rfl rfl rfl ?_; rcases tf (decide (x2 < 0)) with g1 | g1
  ·(iterate 2 refine .x rfl (unmet rfl rfl rfl g1) ?_); refine .v rfl rfl (O.pickT g1 rfl rfl rfl) ?_; refine .nil ?_; exact toN (Gives.mkR [] (.r rfl rfl (.r rfl rfl (.r rfl rfl (.c rfl (sbb (by simp only [g1, BL])) rfl .n)))) (.r rfl rfl rfl .n) rfl rfl rfl)
  ·refine .v rfl (met rfl rfl rfl g1) (O.ld (y := .i x2) ty3 rfl rfl rfl) ?_; refine .v rfl (met rfl rfl rfl g1) (OpL.binI rfl rfl rfl rfl) ?_; refine .v rfl rfl (O.pickF g1 rfl rfl rfl) ?_; refine .nil ?_; exact toN (Gives.mkR [] (.r rfl rfl (.r rfl rfl (.r rfl rfl (.c rfl (sbb (by simp only [g1, BL])) rfl .n)))) (.r rfl rfl rfl .n) rfl rfl rfl)

noncomputable def auth_List_change__auth_List_Late_1.f (x1 : Int) (x2c0 : Bool) : Option (Int) :=
  some 3
set_option maxRecDepth 100000 in
set_option maxHeartbeats 4000000 in
theorem auth_List_change__auth_List_Late_1.ok {x1 : Int} {x2c0 : Bool} {r : Int} (h : auth_List_change__auth_List_Late_1.f x1 x2c0 = some r) : Pm.Spec prog 25 [.imm (.val (.pointer none)), .imm (.val (.int .i64 x1)), .fn 27 [.xbox [.imm (.val (.bool x2c0))]]] (.imm (.val (.int .i64 r))) [none, none, some (.fn 27 [.xbox [.imm (.val (.bool x2c0))]])] := by
 unfold auth_List_change__auth_List_Late_1.f at h; refine Pm.Spec.of_body Try.func25 rfl (by kernel_rfl) (Nat.le_of_ble_eq_true rfl) (Nat.le_of_ble_eq_true rfl) ?_; refine W.ghost (σ' := (mkSt [(0, some (.imm (.val (.pointer none)))), (1, some (.i x1)), (2, some (.fn 27 [.ptr 0 0]))] [(0, some (.box [.b x2c0]))] 1000)) (Gives.entry (.c rfl (.c rfl (.c rfl .n))) (.c rfl .n)) ?_; refine W.seq ?_; refine W.pk ?_; refine .a rfl rfl rfl rfl ?_; refine .nil ?_; (iterate 2 refine W.seq ?_); refine W.pk ?_; refine .m rfl rfl rfl rfl ?_; refine .v rfl rfl (O.eqPnn rfl u22 rfl rfl) ?_; refine .m rfl rfl rfl rfl ?_; (iterate 5 refine .x rfl (unmet rfl rfl rfl rfl) ?_); refine .v rfl rfl (O.pickT rfl rfl rfl rfl) ?_; refine .nil ?_; refine W.cond rfl (fun _ => ?_) (fun q => by cases q)
 refine W.seq ?_; refine W.pk ?_; refine .a rfl rfl rfl rfl ?_; refine .nil ?_; refine W.ret ?_; cases h; exact leaves (.inr rfl) rfl (.imm _) (cN (cN (cS (.fn _ _ _ _ _ (cC (.ptr _ _ _ _ _ rfl (cC (.imm _) .nil)) .nil)) .nil))) rfl rfl

noncomputable def auth_List_Late.f (x1 : Int) (x2 : Bool) : Option (Int) :=
  (auth_List_change__auth_List_Late_1.f x1 x2).bind fun t1 =>
  some t1
set_option maxRecDepth 100000 in
set_option maxHeartbeats 4000000 in
theorem auth_List_Late.ok {x1 : Int} {x2 : Bool} {r : Int} (h : auth_List_Late.f x1 x2 = some r) : Pm.Spec prog 9 [.imm (.val (.pointer none)), .imm (.val (.int .i64 x1)), .imm (.val (.bool x2))] (.imm (.val (.int .i64 r))) [none, none, none] := by
 unfold auth_List_Late.f at h; refine Pm.Spec.of_body Try.func9 rfl (by kernel_rfl) (Nat.le_of_ble_eq_true rfl) (Nat.le_of_ble_eq_true rfl) ?_; refine W.ghost (σ' := (mkSt [(0, some (.imm (.val (.pointer none)))), (1, some (.i x1)), (2, some (.b x2))] [] 1000)) (Gives.entry (.c rfl (.c rfl (.c rfl .n))) .n) ?_; refine W.seq ?_; refine W.pk ?_; refine .t rfl rfl (O.box rfl rfl rfl rfl rfl) ?_; refine .a rfl rfl rfl rfl ?_; refine .nil ?_; refine W.seq ?_; obtain ⟨t1, b2, h⟩ := bnd1 h; refine W.pk ?_; (iterate 2 refine .m rfl rfl rfl rfl ?_); refine .v rfl rfl (OpL.mkfn rfl rfl) ?_; refine .call (.i t1) [(1000, some (.box [.b x2])), (1000, none)] 0 (auth_List_change__auth_List_Late_1.ok b2) rfl rfl rfl ca25 rfl rfl (cC (.imm _) (cC (.imm _) (cC (.fn _ _ _ _ _ (cC (.ptr _ _ _ _ _ rfl (cC (.imm _) .nil)) .nil)) .nil))) rfl rfl rfl rfl rfl ?_; refine .a rfl rfl rfl rfl ?_; refine .nil ?_; refine W.ret ?_; cases h; exact leaves (.inr rfl) rfl (.imm _) (cN (cN (cN .nil))) rfl rfl

set_option maxRecDepth 100000 in
set_option maxHeartbeats 4000000 in
theorem auth_List_change__auth_List_Call_1.ok {x1 : Int} {x2c0 : Bool} {r : Int} (h : auth_List_change__auth_List_Late_1.f x1 x2c0 = some r) : Pm.Spec prog 25 [.imm (.val (.pointer none)), .imm (.val (.int .i64 x1)), .fn 28 [.xbox [.imm (.val (.bool x2c0))]]] (.imm (.val (.int .i64 r))) [none, none, some (.fn 28 [.xbox [.imm (.val (.bool x2c0))]])] := by
 unfold auth_List_change__auth_List_Late_1.f at h; refine Pm.Spec.of_body Try.func25 rfl (by kernel_rfl) (Nat.le_of_ble_eq_true rfl) (Nat.le_of_ble_eq_true rfl) ?_; refine W.ghost (σ' := (mkSt [(0, some (.imm (.val (.pointer none)))), (1, some (.i x1)), (2, some (.fn 28 [.ptr 0 0]))] [(0, some (.box [.b x2c0]))] 1000)) (Gives.entry (.c rfl (.c rfl (.c rfl .n))) (.c rfl .n)) ?_; refine W.seq ?_; refine W.pk ?_; refine .a rfl rfl rfl rfl ?_; refine .nil ?_; (iterate 2 refine W.seq ?_); refine W.pk ?_; refine .m rfl rfl rfl rfl ?_; refine .v rfl rfl (O.eqPnn rfl u22 rfl rfl) ?_; refine .m rfl rfl rfl rfl ?_; (iterate 5 refine .x rfl (unmet rfl rfl rfl rfl) ?_); refine .v rfl rfl (O.pickT rfl rfl rfl rfl) ?_; refine .nil ?_; refine W.cond rfl (fun _ => ?_) (fun q => by cases q)
 refine W.seq ?_; refine W.pk ?_; refine .a rfl rfl rfl rfl ?_; refine .nil ?_; refine W.ret ?_; cases h; exact leaves (.inr rfl) rfl (.imm _) (cN (cN (cS (.fn _ _ _ _ _ (cC (.ptr _ _ _ _ _ rfl (cC (.imm _) .nil)) .nil)) .nil))) rfl rfl

noncomputable def auth_List_Call.f (x1 : Int) (x2 : Bool) : Option (Int) :=
  (auth_List_change__auth_List_Late_1.f x1 x2).bind fun t1 =>
  some t1
set_option maxRecDepth 100000 in
set_option maxHeartbeats 4000000 in
theorem auth_List_Call.ok {x1 : Int} {x2 : Bool} {r : Int} (h : auth_List_Call.f x1 x2 = some r) : Pm.Spec prog 10 [.imm (.val (.pointer none)), .imm (.val (.int .i64 x1)), .imm (.val (.bool x2))] (.imm (.val (.int .i64 r))) [none, none, none] := by
 unfold auth_List_Call.f at h; refine Pm.Spec.of_body Try.func10 rfl (by kernel_rfl) (Nat.le_of_ble_eq_true rfl) (Nat.le_of_ble_eq_true rfl) ?_; refine W.ghost (σ' := (mkSt [(0, some (.imm (.val (.pointer none)))), (1, some (.i x1)), (2, some (.b x2))] [] 1000)) (Gives.entry (.c rfl (.c rfl (.c rfl .n))) .n) ?_; refine W.seq ?_; refine W.pk ?_; refine .t rfl rfl (O.box rfl rfl rfl rfl rfl) ?_; refine .a rfl rfl rfl rfl ?_; refine .nil ?_; refine W.seq ?_; obtain ⟨t1, b2, h⟩ := bnd1 h; refine W.pk ?_; (iterate 2 refine .m rfl rfl rfl rfl ?_); refine .v rfl rfl (OpL.mkfn rfl rfl) ?_; refine .call (.i t1) [(1000, some (.box [.b x2])), (1000, none)] 0 (auth_List_change__auth_List_Call_1.ok b2) rfl rfl rfl ca25 rfl rfl (cC (.imm _) (cC (.imm _) (cC (.fn _ _ _ _ _ (cC (.ptr _ _ _ _ _ rfl (cC (.imm _) .nil)) .nil)) .nil))) rfl rfl rfl rfl rfl ?_; refine .a rfl rfl rfl rfl ?_; refine .nil ?_; refine W.ret ?_; cases h; exact leaves (.inr rfl) rfl (.imm _) (cN (cN (cN .nil))) rfl rfl

noncomputable def auth_List_change__auth_List_Default_1.f (x1 : Int) : Option (Int) :=
  some 3
set_option maxRecDepth 100000 in
set_option maxHeartbeats 4000000 in
theorem auth_List_change__auth_List_Default_1.ok {x1 : Int} {r : Int} (h : auth_List_change__auth_List_Default_1.f x1 = some r) : Pm.Spec prog 25 [.imm (.val (.pointer none)), .imm (.val (.int .i64 x1)), .fn 29 []] (.imm (.val (.int .i64 r))) [none, none, none] := by
 unfold auth_List_change__auth_List_Default_1.f at h; refine Pm.Spec.of_body Try.func25 rfl (by kernel_rfl) (Nat.le_of_ble_eq_true rfl) (Nat.le_of_ble_eq_true rfl) ?_; refine W.ghost (σ' := (mkSt [(0, some (.imm (.val (.pointer none)))), (1, some (.i x1)), (2, some (.fn 29 []))] [] 1000)) (Gives.entry (.c rfl (.c rfl (.c rfl .n))) .n) ?_; refine W.seq ?_; refine W.pk ?_; refine .a rfl rfl rfl rfl ?_; refine .nil ?_; (iterate 2 refine W.seq ?_); refine W.pk ?_; refine .m rfl rfl rfl rfl ?_; refine .v rfl rfl (O.eqPnn rfl u22 rfl rfl) ?_; refine .m rfl rfl rfl rfl ?_; (iterate 5 refine .x rfl (unmet rfl rfl rfl rfl) ?_); refine .v rfl rfl (O.pickT rfl rfl rfl rfl) ?_; refine .nil ?_; refine W.cond rfl (fun _ => ?_) (fun q => by cases q)
 refine W.seq ?_; refine W.pk ?_; refine .a rfl rfl rfl rfl ?_; refine .nil ?_; refine W.ret ?_; cases h; exact leaves (.inr rfl) rfl (.imm _) (cN (cN (cN .nil))) rfl rfl

noncomputable def auth_List_Default.f (x1 : Int) : Option (Int) :=
  (auth_List_change__auth_List_Default_1.f x1).bind fun t1 =>
  some t1
set_option maxRecDepth 100000 in
set_option maxHeartbeats 4000000 in
theorem auth_List_Default.ok {x1 : Int} {r : Int} (h : auth_List_Default.f x1 = some r) : Pm.Spec prog 11 [.imm (.val (.pointer none)), .imm (.val (.int .i64 x1))] (.imm (.val (.int .i64 r))) [none, none] := by
 unfold auth_List_Default.f at h; refine Pm.Spec.of_body Try.func11 rfl (by kernel_rfl) (Nat.le_of_ble_eq_true rfl) (Nat.le_of_ble_eq_true rfl) ?_; refine W.ghost (σ' := (mkSt [(0, some (.imm (.val (.pointer none)))), (1, some (.i x1))] [] 1000)) (Gives.entry (.c rfl (.c rfl .n)) .n) ?_; refine W.seq ?_; refine W.pk ?_; refine .a rfl rfl rfl rfl ?_; refine .nil ?_; refine W.seq ?_; obtain ⟨t1, b2, h⟩ := bnd1 h; refine W.pk ?_; (iterate 2 refine .m rfl rfl rfl rfl ?_); refine .call (.i t1) [] 0 (auth_List_change__auth_List_Default_1.ok b2) rfl rfl rfl ca25 rfl rfl (cC (.imm _) (cC (.imm _) (cC (.fn _ _ _ _ _ .nil) .nil))) rfl rfl rfl rfl rfl ?_; refine .a rfl rfl rfl rfl ?_; refine .nil ?_; refine W.ret ?_; cases h; exact leaves (.inr rfl) rfl (.imm _) (cN (cN .nil)) rfl rfl

noncomputable def auth_List_Able.f (x1 : Int) : Option (Bool) :=
  (auth_List_Get.f x1).bind fun t1 =>
  some (t1.2 && (t1.1.State != 3))
set_option maxRecDepth 100000 in
set_option maxHeartbeats 4000000 in
theorem auth_List_Able.ok {x1 : Int} {r : Bool} (h : auth_List_Able.f x1 = some r) : Pm.Spec prog 12 [.imm (.val (.pointer none)), .imm (.val (.int .i64 x1))] (.imm (.val (.bool r))) [none, none] := by
 unfold auth_List_Able.f at h; refine Pm.Spec.of_body Try.func12 rfl (by kernel_rfl) (Nat.le_of_ble_eq_true rfl) (Nat.le_of_ble_eq_true rfl) ?_; refine W.ghost (σ' := (mkSt [(0, some (.imm (.val (.pointer none)))), (1, some (.i x1))] [] 1000)) (Gives.entry (.c rfl (.c rfl .n)) .n) ?_; refine W.seq ?_; refine W.pk ?_; refine .a rfl rfl rfl rfl ?_; refine .nil ?_; refine W.seq ?_; obtain ⟨t1, b2, h⟩ := bnd1 h; refine W.pk ?_; (iterate 2 refine .m rfl rfl rfl rfl ?_); refine .call (.tup [.agg (auth_Member.av t1.1), .b t1.2]) [] 0 (auth_List_Get.ok b2) rfl rfl rfl ca4 rfl rfl (cC (.imm _) (cC (.imm _) .nil)) rfl rfl rfl rfl rfl ?_; refine .m rfl rfl rfl rfl ?_; (iterate 2 refine .v rfl rfl (OpL.extract rfl rfl rfl) ?_); refine .t rfl rfl (O.alloc z28 rfl) ?_; refine .s rfl rfl (O.st ty28 rfl rfl rfl rfl rfl rfl rfl rfl rfl rfl (all' := [.i t1.1.ID, .s t1.1.Name, .i t1.1.State, .i t1.1.Bound, .b t1.1.Late]) rfl) ?_; refine .a rfl rfl rfl rfl ?_; refine .nil ?_; refine W.seq ?_; refine W.fork (mkSt [(4, some (.b (t1.2 && (t1.1.State != 3))))] [] 1001) ?_ ?_
 ·refine W.ret ?_; cases h; exact leaves (.inr rfl) rfl (.imm _) (cN (cN .nil)) rfl rfl
 ·clear h; refine W.pk ?_; (iterate 2 refine .m rfl rfl rfl rfl ?_); rcases tf t1.2 with g3 | g3
  ·refine .v rfl (met rfl rfl rfl g3) (O.fld fld28_2 rfl rfl rfl) ?_; refine .v rfl (met rfl rfl rfl g3) (O.ld (y := .i t1.1.State) ty3 rfl rfl rfl) ?_; refine .v rfl (met rfl rfl rfl g3) (OpL.binI rfl rfl rfl rfl) ?_; refine .v rfl rfl (O.pickT g3 rfl rfl rfl) ?_; refine .a rfl rfl rfl rfl ?_; refine .nil ?_; exact toN (Gives.mkR [] (.c rfl (sbb (by simp only [g3, BL])) rfl .n) .n rfl rfl rfl)
  ·(iterate 3 refine .x rfl (unmet rfl rfl rfl g3) ?_); refine .v rfl rfl (O.pickF g3 rfl rfl rfl) ?_; refine .a rfl rfl rfl rfl ?_; refine .nil ?_; exact toN (Gives.mkR [] (.c rfl (sbb (by simp only [g3, BL])) rfl .n) .n rfl rfl rfl)

noncomputable def auth_List_May.f (x1 : msg_Message) : Option (Int) :=
  some 3
set_option maxRecDepth 100000 in
set_option maxHeartbeats 4000000 in
theorem auth_List_May.ok {x1 : msg_Message} {r : Int} (h : auth_List_May.f x1 = some r) : Pm.Spec prog 13 [.imm (.val (.pointer none)), .imm (msg_Message.enc x1)] (.imm (.val (.int .i64 r))) [none, none] := by
 unfold auth_List_May.f at h; refine Pm.Spec.of_body Try.func13 rfl (by kernel_rfl) (Nat.le_of_ble_eq_true rfl) (Nat.le_of_ble_eq_true rfl) ?_; refine W.ghost (σ' := (mkSt [(0, some (.imm (.val (.pointer none)))), (1, some (.imm (msg_Message.enc x1)))] [] 1000)) (Gives.entry (.c rfl (.c rfl .n)) .n) ?_; refine W.seq ?_; refine W.pk ?_; refine .a rfl rfl rfl rfl ?_; refine .nil ?_; (iterate 2 refine W.seq ?_); refine W.pk ?_; refine .m rfl rfl rfl rfl ?_; refine .v rfl rfl (O.eqPnn rfl u22 rfl rfl) ?_; refine .m rfl rfl rfl rfl ?_; (iterate 5 refine .x rfl (unmet rfl rfl rfl rfl) ?_); refine .v rfl rfl (O.pickT rfl rfl rfl rfl) ?_; refine .nil ?_; refine W.cond rfl (fun _ => ?_) (fun q => by cases q)
 refine W.seq ?_; refine W.pk ?_; refine .a rfl rfl rfl rfl ?_; refine .nil ?_; refine W.ret ?_; cases h; exact leaves (.inr rfl) rfl (.imm _) (cN (cN .nil)) rfl rfl

noncomputable def auth_List_Clone.f  : Option (Unit) :=
  some ()
set_option maxRecDepth 100000 in
set_option maxHeartbeats 4000000 in
theorem auth_List_Clone.ok  {r : Unit} (h : auth_List_Clone.f  = some r) : Pm.Spec prog 14 [.imm (.val (.pointer none))] (.imm (.val (.pointer none))) [none] := by
 unfold auth_List_Clone.f at h; refine Pm.Spec.of_body Try.func14 rfl (by kernel_rfl) (Nat.le_of_ble_eq_true rfl) (Nat.le_of_ble_eq_true rfl) ?_; refine W.ghost (σ' := (mkSt [(0, some (.imm (.val (.pointer none))))] [] 1000)) (Gives.entry (.c rfl .n) .n) ?_; refine W.seq ?_; refine W.pk ?_; refine .a rfl rfl rfl rfl ?_; refine .nil ?_; (iterate 2 refine W.seq ?_); refine W.pk ?_; refine .m rfl rfl rfl rfl ?_; refine .v rfl rfl (O.eqPnn rfl u22 rfl rfl) ?_; refine .m rfl rfl rfl rfl ?_; (iterate 5 refine .x rfl (unmet rfl rfl rfl rfl) ?_); refine .v rfl rfl (O.pickT rfl rfl rfl rfl) ?_; refine .nil ?_; refine W.cond rfl (fun _ => ?_) (fun q => by cases q)
 refine W.seq ?_; refine W.pk ?_; refine .a rfl rfl rfl rfl ?_; refine .nil ?_; refine W.ret ?_; cases h; exact leaves (.inr rfl) rfl (.imm _) (cN .nil) rfl rfl

noncomputable def cmp_isNaN_int.f (x0 : Int) : Option (Bool) :=
  some (x0 != x0)
set_option maxRecDepth 100000 in
set_option maxHeartbeats 4000000 in
theorem cmp_isNaN_int.ok {x0 : Int} {r : Bool} (h : cmp_isNaN_int.f x0 = some r) : Pm.Spec prog 52 [.imm (.val (.int .i64 x0))] (.imm (.val (.bool r))) [none] := by
 unfold cmp_isNaN_int.f at h; refine Pm.Spec.of_body Try.func52 rfl (by kernel_rfl) (Nat.le_of_ble_eq_true rfl) (Nat.le_of_ble_eq_true rfl) ?_; refine W.ghost (σ' := (mkSt [(0, some (.i x0))] [] 1000)) (Gives.entry (.c rfl .n) .n) ?_; refine W.seq ?_; refine W.pk ?_; refine .a rfl rfl rfl rfl ?_; refine .nil ?_; refine W.seq ?_; refine W.pk ?_; (iterate 2 refine .m rfl rfl rfl rfl ?_); refine .v rfl rfl (OpL.binI rfl rfl rfl rfl) ?_; refine .a rfl rfl rfl rfl ?_; refine .nil ?_; refine W.ret ?_; cases h; exact leaves (.inr rfl) rfl (.imm _) (cN .nil) rfl rfl

noncomputable def cmp_Compare_int.f (x0 : Int) (x1 : Int) : Option (Int) :=
  (cmp_isNaN_int.f x0).bind fun t1 =>
  (cmp_isNaN_int.f x1).bind fun t3 =>
  if t1 = true then
    if t3 = true then
      some 0
    else
      some (-1)
  else
    if t3 = true then
      some 1
    else
      if (decide (x0 < x1)) = true then
        some (-1)
      else
        if (decide (x0 > x1)) = true then
          some 1
        else
          some 0
set_option maxRecDepth 100000 in
set_option maxHeartbeats 4000000 in
theorem cmp_Compare_int.ok {x0 : Int} {x1 : Int} {r : Int} (h : cmp_Compare_int.f x0 x1 = some r) : Pm.Spec prog 34 [.imm (.val (.int .i64 x0)), .imm (.val (.int .i64 x1))] (.imm (.val (.int .i64 r))) [none, none] := by
 unfold cmp_Compare_int.f at h; refine Pm.Spec.of_body Try.func34 rfl (by kernel_rfl) (Nat.le_of_ble_eq_true rfl) (Nat.le_of_ble_eq_true rfl) ?_; refine W.ghost (σ' := (mkSt [(0, some (.i x0)), (1, some (.i x1))] [] 1000)) (Gives.entry (.c rfl (.c rfl .n)) .n) ?_; refine W.seq ?_; refine W.pk ?_; refine .a rfl rfl rfl rfl ?_; refine .nil ?_; refine W.seq ?_; obtain ⟨t1, b2, h⟩ := bnd1 h; refine W.pk ?_; refine .m rfl rfl rfl rfl ?_; refine .call (.b t1) [] 0 (cmp_isNaN_int.ok b2) rfl rfl rfl ca52 rfl rfl (cC (.imm _) .nil) rfl rfl rfl rfl rfl ?_; refine .a rfl rfl rfl rfl ?_; refine .nil ?_; refine W.seq ?_; obtain ⟨t3, b4, h⟩ := bnd1 h; refine W.pk ?_; refine .m rfl rfl rfl rfl ?_; refine .call (.b t3) [] 0 (cmp_isNaN_int.ok b4) rfl rfl rfl ca52 rfl rfl (cC (.imm _) .nil) rfl rfl rfl rfl rfl ?_; refine .a rfl rfl rfl rfl ?_; refine .nil ?_; (iterate 2 refine W.seq ?_); refine W.pk ?_; refine .m rfl rfl rfl rfl ?_; refine .nil ?_; refine W.cond rfl (fun q5 => ?_) (fun q5 => ?_)
 ·have h := ifT q5 h; (iterate 2 refine W.seq ?_); refine W.pk ?_; refine .m rfl rfl rfl rfl ?_; refine .nil ?_; refine W.cond rfl (fun q6 => ?_) (fun q6 => ?_)
  ·have h := ifT q6 h; refine W.seq ?_; refine W.pk ?_; refine .a rfl rfl rfl rfl ?_; refine .nil ?_; refine W.ret ?_; cases h; exact leaves (.inr rfl) rfl (.imm _) (cN (cN .nil)) rfl rfl
  ·have h := ifF q6 h; refine W.skip ?_; refine W.seq ?_; refine W.pk ?_; refine .a rfl rfl rfl rfl ?_; refine .nil ?_; refine W.ret ?_; cases h; exact leaves (.inr rfl) rfl (.imm _) (cN (cN .nil)) rfl rfl
 ·have h := ifF q5 h; refine W.skip ?_; (iterate 2 refine W.seq ?_); refine W.pk ?_; refine .m rfl rfl rfl rfl ?_; refine .nil ?_; refine W.cond rfl (fun q7 => ?_) (fun q7 => ?_)
  ·have h := ifT q7 h; refine W.seq ?_; refine W.pk ?_; refine .a rfl rfl rfl rfl ?_; refine .nil ?_; refine W.ret ?_; cases h; exact leaves (.inr rfl) rfl (.imm _) (cN (cN .nil)) rfl rfl
  ·have h := ifF q7 h; refine W.skip ?_; (iterate 2 refine W.seq ?_); refine W.pk ?_; (iterate 2 refine .m rfl rfl rfl rfl ?_); refine .v rfl rfl (OpL.binI rfl rfl rfl rfl) ?_; refine .nil ?_; refine W.cond rfl (fun q8 => ?_) (fun q8 => ?_)
   ·have h := ifT q8 h; refine W.seq ?_; refine W.pk ?_; refine .a rfl rfl rfl rfl ?_; refine .nil ?_; refine W.ret ?_; cases h; exact leaves (.inr rfl) rfl (.imm _) (cN (cN .nil)) rfl rfl
   ·have h := ifF q8 h; refine W.skip ?_; (iterate 2 refine W.seq ?_); refine W.pk ?_; (iterate 2 refine .m rfl rfl rfl rfl ?_); refine .v rfl rfl (OpL.binI rfl rfl rfl rfl) ?_; refine .nil ?_; refine W.cond rfl (fun q9 => ?_) (fun q9 => ?_)
    ·have h := ifT q9 h; refine W.seq ?_; refine W.pk ?_; refine .a rfl rfl rfl rfl ?_; refine .nil ?_; refine W.ret ?_; cases h; exact leaves (.inr rfl) rfl (.imm _) (cN (cN .nil)) rfl rfl
    ·have h := ifF q9 h; refine W.skip ?_; refine W.seq ?_; refine W.pk ?_; refine .a rfl rfl rfl rfl ?_; refine .nil ?_; refine W.ret ?_; cases h; exact leaves (.inr rfl) rfl (.imm _) (cN (cN .nil)) rfl rfl

noncomputable def auth_List_place_1_v2.f (x0 : auth_Member) (x1 : Int) : Option (Int) :=
  (cmp_Compare_int.f x0.ID x1).bind fun t1 =>
  some t1
set_option maxRecDepth 100000 in
set_option maxHeartbeats 4000000 in
theorem auth_List_place_1_v2.ok {x0 : auth_Member} {x1 : Int} {r : Int} (h : auth_List_place_1_v2.f x0 x1 = some r) : Pm.Spec prog 33 [.agg [.imm (.val (.int .i64 x0.ID)), .imm (.val (.string (tx x0.Name))), .imm (.val (.int .i64 x0.State)), .imm (.val (.int .i64 x0.Bound)), .imm (.val (.bool x0.Late))], .imm (.val (.int .i64 x1))] (.imm (.val (.int .i64 r))) [none, none] := by
 unfold auth_List_place_1_v2.f at h; refine Pm.Spec.of_body Try.func33 rfl (by kernel_rfl) (Nat.le_of_ble_eq_true rfl) (Nat.le_of_ble_eq_true rfl) ?_; refine W.ghost (σ' := (mkSt [(0, some (.agg (auth_Member.av x0))), (1, some (.i x1))] [] 1000)) (Gives.entry (.c rfl (.c rfl .n)) .n) ?_; refine W.seq ?_; refine W.pk ?_; refine .t rfl rfl (O.box rfl rfl rfl rfl rfl) ?_; refine .a rfl rfl rfl rfl ?_; refine .nil ?_; refine W.seq ?_; obtain ⟨t1, b2, h⟩ := bnd1 h; refine W.pk ?_; refine .v rfl rfl (O.fld fld28_0 rfl rfl rfl) ?_; refine .v rfl rfl (O.ld (y := .i x0.ID) ty3 rfl rfl rfl) ?_; refine .m rfl rfl rfl rfl ?_; refine .call (.i t1) [] 0 (cmp_Compare_int.ok b2) rfl rfl rfl ca34 rfl rfl (cC (.imm _) (cC (.imm _) .nil)) rfl rfl rfl rfl rfl ?_; refine .a rfl rfl rfl rfl ?_; refine .nil ?_; refine W.ret ?_; cases h; exact leaves (.inr rfl) rfl (.imm _) (cN (cN .nil)) rfl rfl

noncomputable def slices_BinarySearchFunc_int__auth_List_place_1.b0 (x0 : List auth_Member) (x1 : Int) (v6 : Int) (v7 : Int) : Option ((Int × Int) ⊕ Int) :=
  if (decide (v6 < v7)) = true then
    if (0 : Int) ≤ (IntKind.wrap .i64 (shrI .u64 (IntKind.wrap .u64 (IntKind.wrap .i64 (v6 + v7))) 1)) ∧ (IntKind.wrap .i64 (shrI .u64 (IntKind.wrap .u64 (IntKind.wrap .i64 (v6 + v7))) 1)) < (List.length x0 : Int) then
    (auth_List_place_1_v2.f (nth x0 (IntKind.wrap .i64 (shrI .u64 (IntKind.wrap .u64 (IntKind.wrap .i64 (v6 + v7))) 1))) x1).bind fun t24 =>
    if (decide (t24 < 0)) = true then
      some (.inl ((IntKind.wrap .i64 ((IntKind.wrap .i64 (shrI .u64 (IntKind.wrap .u64 (IntKind.wrap .i64 (v6 + v7))) 1)) + 1)), v7))
    else
      some (.inl (v6, (IntKind.wrap .i64 (shrI .u64 (IntKind.wrap .u64 (IntKind.wrap .i64 (v6 + v7))) 1))))
    else none
  else
    some (.inr v6)
noncomputable def slices_BinarySearchFunc_int__auth_List_place_1.r0 (x0 : List auth_Member) (x1 : Int) (s : Int × Int) : Option ((Int × Int) ⊕ Int) := slices_BinarySearchFunc_int__auth_List_place_1.b0 x0 x1 s.1 s.2
noncomputable def slices_BinarySearchFunc_int__auth_List_place_1.f (x0 : List auth_Member) (x1 : Int) : Option (Int × Bool) :=
  (loop (slices_BinarySearchFunc_int__auth_List_place_1.r0 x0 x1) (0, (List.length x0 : Int))).bind fun o19 =>
  if ((decide (o19 < (List.length x0 : Int))) = true → (0 : Int) ≤ o19 ∧ o19 < (List.length x0 : Int)) then
  (if (decide (o19 < (List.length x0 : Int))) = true then auth_List_place_1_v2.f (nth x0 o19) x1 else some default).bind fun t28 =>
  some (o19, ((decide (o19 < (List.length x0 : Int))) && (t28 == 0)))
  else none
set_option maxRecDepth 100000 in
set_option maxHeartbeats 4000000 in
theorem slices_BinarySearchFunc_int__auth_List_place_1.ok {x0 : List auth_Member} {x1 : Int} {r : Int × Bool} (h : slices_BinarySearchFunc_int__auth_List_place_1.f x0 x1 = some r) : Pm.Spec prog 32 [.imm (.row 5 (List.map auth_Member.enc x0)), .imm (.val (.int .i64 x1)), .fn 33 []] (.tup [.imm (.val (.int .i64 r.1)), .imm (.val (.bool r.2))]) [none, none, none] := by
 unfold slices_BinarySearchFunc_int__auth_List_place_1.f at h; refine Pm.Spec.of_body Try.func32 rfl (by kernel_rfl) (Nat.le_of_ble_eq_true rfl) (Nat.le_of_ble_eq_true rfl) ?_; refine W.ghost (σ' := (mkSt [(0, some (.imm (.row 5 (List.map auth_Member.enc x0)))), (1, some (.i x1)), (2, some (.fn 33 []))] [] 1000)) (Gives.entry (.c rfl (.c rfl (.c rfl .n))) .n) ?_; refine W.seq ?_; refine W.pk ?_; (iterate 2 refine .a rfl rfl rfl rfl ?_); refine .nil ?_; refine W.seq ?_; refine W.pk ?_; refine .m rfl rfl rfl rfl ?_; refine .v rfl rfl (O.lenR sl23 rfl rfl) ?_; refine .a rfl rfl rfl rfl ?_; refine .nil ?_; refine W.seq ?_; refine W.pk ?_; refine .m rfl rfl rfl rfl ?_; (iterate 2 refine .a rfl rfl rfl rfl ?_); refine .nil ?_; refine W.seq ?_; obtain ⟨o19, b20, h⟩ := bnd1 h; refine W.fork (mkSt [(0, some (.imm (.row 5 (List.map auth_Member.enc x0)))), (1, some (.i x1)), (2, some (.fn 33 [])), (8, some (.i (List.length x0 : Int))), (9, some (.i o19))] [] 1000) ?_ ?_
 ·refine W.seq ?_; obtain ⟨c27, h⟩ := chk h; obtain ⟨t28, b29, h⟩ := bnd1 h; refine W.fork (mkSt [(6, some (.i o19)), (7, some (.b ((decide (o19 < (List.length x0 : Int))) && (t28 == 0))))] [] 1000) ?_ ?_
  ·refine W.ret ?_; cases h; exact leaves (.inr rfl) rfl (.tup _ _ _ _ (cC (.imm _) (cC (.imm _) .nil))) (cN (cN (cN .nil))) rfl rfl
  ·clear h; refine W.pk ?_; (iterate 3 refine .m rfl rfl rfl rfl ?_); refine .v rfl rfl (OpL.binI rfl rfl rfl rfl) ?_; refine .m rfl rfl rfl rfl ?_; rcases tf (decide (o19 < (List.length x0 : Int))) with g30 | g30
   ·(iterate 3 refine .m rfl (met rfl rfl rfl g30) rfl rfl ?_); refine .v rfl (met rfl rfl rfl g30) (O.idx sl23 (c27 (by simp only [g30, BL])) rfl rfl rfl) ?_; refine .v rfl (met rfl rfl rfl g30) (O.ldN ty28 rfl rfl rfl) ?_; refine .m rfl (met rfl rfl rfl g30) rfl rfl ?_; refine .call (.i t28) [] 0 (auth_List_place_1_v2.ok ((if_pos (by simp only [g30, BL])).symm.trans b29)) rfl (met rfl rfl rfl g30) rfl ca33 rfl rfl (cC (.agg _ _ _ _ (cC (.imm _) (cC (.imm _) (cC (.imm _) (cC (.imm _) (cC (.imm _) .nil)))))) (cC (.imm _) .nil)) rfl rfl rfl rfl rfl ?_; refine .v rfl (met rfl rfl rfl g30) (OpL.binI rfl rfl rfl rfl) ?_; refine .v rfl rfl (O.pickT g30 rfl rfl rfl) ?_; (iterate 2 refine .a rfl rfl rfl rfl ?_); refine .nil ?_; exact toN (Gives.mkR [] (.r rfl rfl (.c rfl (sbb (by simp only [g30, BL])) rfl .n)) .n rfl rfl rfl)
   ·(iterate 8 refine .x rfl (unmet rfl rfl rfl g30) ?_); refine .v rfl rfl (O.pickF g30 rfl rfl rfl) ?_; (iterate 2 refine .a rfl rfl rfl rfl ?_); refine .nil ?_; exact toN (Gives.mkR [] (.r rfl rfl (.c rfl (sbb (by simp only [g30, BL])) rfl .n)) .n rfl rfl rfl)
 ·clear h; refine W.block ?_; refine W.loopF (fun (s_ : Int × Int) => mkSt [(0, some (.imm (.row 5 (List.map auth_Member.enc x0)))), (1, some (.i x1)), (2, some (.fn 33 [])), (8, some (.i (List.length x0 : Int))), (9, some (.i s_.1)), (10, some (.i s_.2))] [] 1000) b20 (Gives.mkR [] (.e rfl rfl) .n rfl rfl rfl) ?_; rintro ⟨v6, v7⟩ s_ hr; have h : slices_BinarySearchFunc_int__auth_List_place_1.b0 x0 x1 v6 v7 = some s_ := hr; unfold slices_BinarySearchFunc_int__auth_List_place_1.b0 at h; (iterate 2 refine W.seq ?_); refine W.pk ?_; (iterate 2 refine .m rfl rfl rfl rfl ?_); refine .v rfl rfl (OpL.binI rfl rfl rfl rfl) ?_; refine .nil ?_; refine W.cond rfl (fun q22 => ?_) (fun q22 => ?_)
  ·have h := ifT q22 h; refine W.skip ?_; refine W.block ?_; refine W.seq ?_; refine W.pk ?_; (iterate 2 refine .m rfl rfl rfl rfl ?_); refine .v rfl rfl (OpL.binI rfl rfl rfl rfl) ?_; refine .v rfl rfl (O.conv h3 u106 rfl rfl) ?_; refine .v rfl rfl (O.shr (by decide) rfl rfl rfl) ?_; refine .v rfl rfl (O.conv h106 u3 rfl rfl) ?_; refine .a rfl rfl rfl rfl ?_; refine .nil ?_; refine W.seq ?_; obtain ⟨c23, h⟩ := chk h; obtain ⟨t24, b25, h⟩ := bnd1 h; refine W.pk ?_; (iterate 3 refine .m rfl rfl rfl rfl ?_); refine .v rfl rfl (O.idx sl23 c23 rfl rfl rfl) ?_; refine .v rfl rfl (O.ldN ty28 rfl rfl rfl) ?_; refine .m rfl rfl rfl rfl ?_; refine .call (.i t24) [] 0 (auth_List_place_1_v2.ok b25) rfl rfl rfl ca33 rfl rfl (cC (.agg _ _ _ _ (cC (.imm _) (cC (.imm _) (cC (.imm _) (cC (.imm _) (cC (.imm _) .nil)))))) (cC (.imm _) .nil)) rfl rfl rfl rfl rfl ?_; refine .v rfl rfl (OpL.binI rfl rfl rfl rfl) ?_; refine .nil ?_; refine W.cond rfl (fun q26 => ?_) (fun q26 => ?_)
   ·have h := ifT q26 h; refine W.pk ?_; refine .m rfl rfl rfl rfl ?_; refine .v rfl rfl (OpL.binI rfl rfl rfl rfl) ?_; refine .a rfl rfl rfl rfl ?_; refine .nil ?_; cases h; exact rdN (Gives.mkR [] (.e rfl rfl) .n rfl rfl rfl)
   ·have h := ifF q26 h; refine W.pk ?_; refine .m rfl rfl rfl rfl ?_; refine .a rfl rfl rfl rfl ?_; refine .nil ?_; cases h; exact rdN (Gives.mkR [] (.e rfl rfl) .n rfl rfl rfl)
  ·have h := ifF q22 h; refine W.exit ?_; cases h; refine rdX fun e_ => ?_; subst e_; (repeat with_reducible refine thru ?_); refine hit ?_; exact toN (Gives.mkR [] (.e rfl rfl) .n rfl rfl rfl)

noncomputable def auth_List_place.f (x0 : auth_List) (x1 : Int) : Option (Int × Bool) :=
  (slices_BinarySearchFunc_int__auth_List_place_1.f x0.l x1).bind fun t1 =>
  some (t1.1, t1.2)
set_option maxRecDepth 100000 in
set_option maxHeartbeats 4000000 in
theorem auth_List_place.ok {x0 : auth_List} {x1 : Int} {r : Int × Bool} (h : auth_List_place.f x0 x1 = some r) : Pm.Spec prog 16 [.imm (.fp (auth_List.enc x0)), .imm (.val (.int .i64 x1))] (.tup [.imm (.val (.int .i64 r.1)), .imm (.val (.bool r.2))]) [none, none] := by
 unfold auth_List_place.f at h; refine Pm.Spec.of_body Try.func16 rfl (by kernel_rfl) (Nat.le_of_ble_eq_true rfl) (Nat.le_of_ble_eq_true rfl) ?_; refine W.ghost (σ' := (mkSt [(0, some (.imm (.fp (auth_List.enc x0)))), (1, some (.i x1))] [] 1000)) (Gives.entry (.c rfl (.c rfl .n)) .n) ?_; refine W.seq ?_; refine W.pk ?_; (iterate 2 refine .a rfl rfl rfl rfl ?_); refine .nil ?_; refine W.seq ?_; obtain ⟨t1, b2, h⟩ := bnd1 h; refine W.pk ?_; refine .m rfl rfl rfl rfl ?_; refine .v rfl rfl (OpL.nilP rfl rfl rfl) ?_; refine .v rfl rfl (O.fld fld25_0 rfl rfl rfl) ?_; refine .v rfl rfl (O.ld (y := .imm (.row 5 (List.map auth_Member.enc x0.l))) ty23 rfl rfl rfl) ?_; refine .m rfl rfl rfl rfl ?_; refine .call (.tup [.i t1.1, .b t1.2]) [] 0 (slices_BinarySearchFunc_int__auth_List_place_1.ok b2) rfl rfl rfl ca32 rfl rfl (cC (.imm _) (cC (.imm _) (cC (.fn _ _ _ _ _ .nil) .nil))) rfl rfl rfl rfl rfl ?_; (iterate 2 refine .v rfl rfl (OpL.extract rfl rfl rfl) ?_); (iterate 2 refine .a rfl rfl rfl rfl ?_); refine .nil ?_; refine W.ret ?_; cases h; exact leaves (.inr rfl) rfl (.tup _ _ _ _ (cC (.imm _) (cC (.imm _) .nil))) (cN (cN .nil)) rfl rfl

noncomputable def auth_List_Get_v2.f (x0 : auth_List) (x1 : Int) : Option (auth_Member × Bool) :=
  (auth_List_place.f x0 x1).bind fun t1 =>
  if (!t1.2) = true then
    some ((⟨0, [], 0, 0, false⟩ : auth_Member), false)
  else
    if (0 : Int) ≤ t1.1 ∧ t1.1 < (List.length x0.l : Int) then
    some ((nth x0.l t1.1), true)
    else none
set_option maxRecDepth 100000 in
set_option maxHeartbeats 4000000 in
theorem auth_List_Get_v2.ok {x0 : auth_List} {x1 : Int} {r : auth_Member × Bool} (h : auth_List_Get_v2.f x0 x1 = some r) : Pm.Spec prog 4 [.imm (.fp (auth_List.enc x0)), .imm (.val (.int .i64 x1))] (.tup [.agg [.imm (.val (.int .i64 r.1.ID)), .imm (.val (.string (tx r.1.Name))), .imm (.val (.int .i64 r.1.State)), .imm (.val (.int .i64 r.1.Bound)), .imm (.val (.bool r.1.Late))], .imm (.val (.bool r.2))]) [none, none] := by
 unfold auth_List_Get_v2.f at h; refine Pm.Spec.of_body Try.func4 rfl (by kernel_rfl) (Nat.le_of_ble_eq_true rfl) (Nat.le_of_ble_eq_true rfl) ?_; refine W.ghost (σ' := (mkSt [(0, some (.imm (.fp (auth_List.enc x0)))), (1, some (.i x1))] [] 1000)) (Gives.entry (.c rfl (.c rfl .n)) .n) ?_; refine W.seq ?_; refine W.pk ?_; refine .t rfl rfl (O.alloc z28 rfl) ?_; refine .a rfl rfl rfl rfl ?_; refine .nil ?_; (iterate 2 refine W.seq ?_); refine W.pk ?_; refine .m rfl rfl rfl rfl ?_; refine .v rfl rfl (OpL.eqP rfl u22 rfl rfl rfl) ?_; refine .nil ?_; refine W.cond rfl (fun q => by cases q) (fun _ => ?_)
 refine W.skip ?_; refine W.seq ?_; obtain ⟨t1, b2, h⟩ := bnd1 h; refine W.pk ?_; (iterate 2 refine .m rfl rfl rfl rfl ?_); refine .call (.tup [.i t1.1, .b t1.2]) [] 0 (auth_List_place.ok b2) rfl rfl rfl ca16 rfl rfl (cC (.imm _) (cC (.imm _) .nil)) rfl rfl rfl rfl rfl ?_; refine .m rfl rfl rfl rfl ?_; (iterate 2 refine .v rfl rfl (OpL.extract rfl rfl rfl) ?_); (iterate 2 refine .a rfl rfl rfl rfl ?_); refine .nil ?_; (iterate 2 refine W.seq ?_); refine W.pk ?_; refine .m rfl rfl rfl rfl ?_; refine .v rfl rfl (OpL.unV rfl rfl rfl) ?_; refine .nil ?_; refine W.cond rfl (fun q3 => ?_) (fun q3 => ?_)
 ·have h := ifT q3 h; refine W.seq ?_; refine W.pk ?_; refine .v rfl rfl (O.build (out := [.i 0, .s [], .i 0, .i 0, .b false]) bl28 rfl rfl rfl rfl (by kernel_rfl)) ?_; refine .s rfl rfl (O.st ty28 rfl rfl rfl rfl rfl rfl rfl rfl rfl rfl (all' := [.i 0, .s [], .i 0, .i 0, .b false]) rfl) ?_; refine .a rfl rfl rfl rfl ?_; refine .nil ?_; refine W.ret ?_; cases h; exact leaves (.inr rfl) rfl (.tup _ _ _ _ (cC (.agg _ _ _ _ (cC (.imm _) (cC (.imm _) (cC (.imm _) (cC (.imm _) (cC (.imm _) .nil)))))) (cC (.imm _) .nil))) (cN (cN .nil)) rfl rfl
 ·have h := ifF q3 h; refine W.skip ?_; refine W.seq ?_; obtain ⟨c4, h⟩ := chk h; refine W.pk ?_; refine .m rfl rfl rfl rfl ?_; refine .v rfl rfl (OpL.nilP rfl rfl rfl) ?_; refine .v rfl rfl (O.fld fld25_0 rfl rfl rfl) ?_; refine .v rfl rfl (O.ld (y := .imm (.row 5 (List.map auth_Member.enc x0.l))) ty23 rfl rfl rfl) ?_; refine .m rfl rfl rfl rfl ?_; refine .v rfl rfl (O.idx sl23 c4 rfl rfl rfl) ?_; refine .v rfl rfl (O.ldN ty28 rfl rfl rfl) ?_; refine .s rfl rfl (O.st ty28 rfl rfl rfl rfl rfl rfl rfl rfl rfl rfl (all' := [.i ((nth x0.l t1.1).ID), .s ((nth x0.l t1.1).Name), .i ((nth x0.l t1.1).State), .i ((nth x0.l t1.1).Bound), .b ((nth x0.l t1.1).Late)]) rfl) ?_; refine .a rfl rfl rfl rfl ?_; refine .nil ?_; refine W.ret ?_; cases h; exact leaves (.inr rfl) rfl (.tup _ _ _ _ (cC (.agg _ _ _ _ (cC (.imm _) (cC (.imm _) (cC (.imm _) (cC (.imm _) (cC (.imm _) .nil)))))) (cC (.imm _) .nil))) (cN (cN .nil)) rfl rfl

noncomputable def name_low.f (x0 : Int) : Option (Int) :=
  ((
    if ((decide (x0 ≥ 65)) && (decide (x0 ≤ 90))) = true then
      some ((decide (x0 ≥ 65)) && (decide (x0 ≤ 90)))
    else
      some (((decide (x0 ≥ 192)) && (decide (x0 ≤ 222))) && (x0 != 215)) : Option (Bool))).bind fun o6 =>
  if o6 = true then
    some (IntKind.wrap .i32 (x0 + 32))
  else
    if (x0 == 376) = true then
      some 255
    else
      ((
        if ((decide (x0 ≥ 256)) && (decide (x0 ≤ 311))) = true then
          some ((decide (x0 ≥ 256)) && (decide (x0 ≤ 311)))
        else
          some ((decide (x0 ≥ 330)) && (decide (x0 ≤ 375))) : Option (Bool))).bind fun o17 =>
      if o17 = true then
        some (bits .or .i32 x0 1)
      else
        ((
          if ((decide (x0 ≥ 313)) && (decide (x0 ≤ 328))) = true then
            some ((decide (x0 ≥ 313)) && (decide (x0 ≤ 328)))
          else
            some ((decide (x0 ≥ 377)) && (decide (x0 ≤ 382))) : Option (Bool))).bind fun o26 =>
        if o26 = true then
          some (IntKind.wrap .i32 (x0 + (bits .and .i32 x0 1)))
        else
          some x0
set_option maxRecDepth 100000 in
set_option maxHeartbeats 4000000 in
theorem name_low.ok {x0 : Int} {r : Int} (h : name_low.f x0 = some r) : Pm.Spec prog 54 [.imm (.val (.int .i32 x0))] (.imm (.val (.int .i32 r))) [none] := by
 unfold name_low.f at h; refine Pm.Spec.of_body Try.func54 rfl (by kernel_rfl) (Nat.le_of_ble_eq_true rfl) (Nat.le_of_ble_eq_true rfl) ?_; refine W.ghost (σ' := (mkSt [(0, some (.imm (.val (.int .i32 x0))))] [] 1000)) (Gives.entry (.c rfl .n) .n) ?_; refine W.seq ?_; refine W.pk ?_; refine .a rfl rfl rfl rfl ?_; refine .nil ?_; refine W.seq ?_; refine W.block ?_; (iterate 2 refine W.seq ?_); refine W.fork (mkSt [(0, some (.imm (.val (.int .i32 x0)))), (3, some (.b ((decide (x0 ≥ 65)) && (decide (x0 ≤ 90)))))] [] 1000) ?_ ?_
 ·obtain ⟨o6, b7, h⟩ := bnd1 h; refine W.fork (mkSt [(0, some (.imm (.val (.int .i32 x0)))), (3, some (.b o6))] [] 1000) ?_ ?_
  ·refine W.cond rfl (fun q11 => ?_) (fun q11 => ?_)
   ·have h := ifT q11 h; refine W.seq ?_; refine W.pk ?_; refine .m rfl rfl rfl rfl ?_; refine .v rfl rfl (OpL.binI rfl rfl rfl rfl) ?_; refine .a rfl rfl rfl rfl ?_; refine .nil ?_; refine W.ret ?_; cases h; exact leaves (.inr rfl) rfl (.imm _) (cN .nil) rfl rfl
   ·have h := ifF q11 h; refine W.seq ?_; refine W.pk ?_; refine .m rfl rfl rfl rfl ?_; refine .v rfl rfl (OpL.binI rfl rfl rfl rfl) ?_; refine .a rfl rfl rfl rfl ?_; refine .nil ?_; refine W.cond rfl (fun q12 => ?_) (fun q12 => ?_)
    ·have h := ifT q12 h; refine W.seq ?_; refine W.pk ?_; refine .a rfl rfl rfl rfl ?_; refine .nil ?_; refine W.ret ?_; cases h; exact leaves (.inr rfl) rfl (.imm _) (cN .nil) rfl rfl
    ·have h := ifF q12 h; (iterate 2 refine W.seq ?_); refine W.fork (mkSt [(0, some (.imm (.val (.int .i32 x0)))), (25, some (.b ((decide (x0 ≥ 256)) && (decide (x0 ≤ 311)))))] [] 1000) ?_ ?_
     ·obtain ⟨o17, b18, h⟩ := bnd1 h; refine W.fork (mkSt [(0, some (.imm (.val (.int .i32 x0)))), (25, some (.b o17))] [] 1000) ?_ ?_
      ·refine W.cond rfl (fun q21 => ?_) (fun q21 => ?_)
       ·have h := ifT q21 h; refine W.seq ?_; refine W.pk ?_; refine .m rfl rfl rfl rfl ?_; refine .v rfl rfl (OpL.binI rfl rfl rfl rfl) ?_; refine .a rfl rfl rfl rfl ?_; refine .nil ?_; refine W.ret ?_; cases h; exact leaves (.inr rfl) rfl (.imm _) (cN .nil) rfl rfl
       ·have h := ifF q21 h; (iterate 2 refine W.seq ?_); refine W.fork (mkSt [(0, some (.imm (.val (.int .i32 x0)))), (40, some (.b ((decide (x0 ≥ 313)) && (decide (x0 ≤ 328)))))] [] 1000) ?_ ?_
        ·obtain ⟨o26, b27, h⟩ := bnd1 h; refine W.fork (mkSt [(0, some (.imm (.val (.int .i32 x0)))), (40, some (.b o26))] [] 1000) ?_ ?_
         ·refine W.cond rfl (fun q30 => ?_) (fun q30 => ?_)
          ·have h := ifT q30 h; refine W.seq ?_; refine W.pk ?_; (iterate 2 refine .m rfl rfl rfl rfl ?_); (iterate 2 refine .v rfl rfl (OpL.binI rfl rfl rfl rfl) ?_); refine .a rfl rfl rfl rfl ?_; refine .nil ?_; refine W.ret ?_; cases h; exact leaves (.inr rfl) rfl (.imm _) (cN .nil) rfl rfl
          ·have h := ifF q30 h; refine W.skip ?_; refine W.seq ?_; refine W.pk ?_; refine .m rfl rfl rfl rfl ?_; refine .a rfl rfl rfl rfl ?_; refine .nil ?_; refine W.ret ?_; cases h; exact leaves (.inr rfl) rfl (.imm _) (cN .nil) rfl rfl
         ·clear h; have h := b27; refine W.cond rfl (fun q28 => ?_) (fun q28 => ?_)
          ·have h := ifT q28 h; refine W.skip ?_; cases h; exact toN (Gives.mkR [] (.e rfl rfl) .n rfl rfl rfl)
          ·have h := ifF q28 h; refine W.fork (mkSt [(0, some (.imm (.val (.int .i32 x0)))), (40, some (.b ((decide (x0 ≥ 377)) && (decide (x0 ≤ 382)))))] [] 1000) ?_ ?_
           ·cases h; exact toN (Gives.mkR [] (.e rfl rfl) .n rfl rfl rfl)
           ·clear h; refine W.pk ?_; refine .m rfl rfl rfl rfl ?_; refine .v rfl rfl (OpL.binI rfl rfl rfl rfl) ?_; refine .m rfl rfl rfl rfl ?_; rcases tf (decide (x0 ≥ 377)) with g29 | g29
            ·refine .m rfl (met rfl rfl rfl g29) rfl rfl ?_; refine .v rfl (met rfl rfl rfl g29) (OpL.binI rfl rfl rfl rfl) ?_; refine .v rfl rfl (O.pickT g29 rfl rfl rfl) ?_; refine .a rfl rfl rfl rfl ?_; refine .nil ?_; exact toN (Gives.mkR [] (.r rfl rfl (.c rfl (sbb (by simp only [g29, BL])) rfl .n)) .n rfl rfl rfl)
            ·(iterate 2 refine .x rfl (unmet rfl rfl rfl g29) ?_); refine .v rfl rfl (O.pickF g29 rfl rfl rfl) ?_; refine .a rfl rfl rfl rfl ?_; refine .nil ?_; exact toN (Gives.mkR [] (.r rfl rfl (.c rfl (sbb (by simp only [g29, BL])) rfl .n)) .n rfl rfl rfl)
        ·clear h; refine W.pk ?_; refine .m rfl rfl rfl rfl ?_; refine .v rfl rfl (OpL.binI rfl rfl rfl rfl) ?_; refine .m rfl rfl rfl rfl ?_; rcases tf (decide (x0 ≥ 313)) with g22 | g22
         ·refine .m rfl (met rfl rfl rfl g22) rfl rfl ?_; refine .v rfl (met rfl rfl rfl g22) (OpL.binI rfl rfl rfl rfl) ?_; refine .v rfl rfl (O.pickT g22 rfl rfl rfl) ?_; refine .a rfl rfl rfl rfl ?_; refine .nil ?_; exact toN (Gives.mkR [] (.r rfl rfl (.c rfl (sbb (by simp only [g22, BL])) rfl .n)) .n rfl rfl rfl)
         ·(iterate 2 refine .x rfl (unmet rfl rfl rfl g22) ?_); refine .v rfl rfl (O.pickF g22 rfl rfl rfl) ?_; refine .a rfl rfl rfl rfl ?_; refine .nil ?_; exact toN (Gives.mkR [] (.r rfl rfl (.c rfl (sbb (by simp only [g22, BL])) rfl .n)) .n rfl rfl rfl)
      ·clear h; have h := b18; refine W.cond rfl (fun q19 => ?_) (fun q19 => ?_)
       ·have h := ifT q19 h; refine W.skip ?_; cases h; exact toN (Gives.mkR [] (.e rfl rfl) .n rfl rfl rfl)
       ·have h := ifF q19 h; refine W.fork (mkSt [(0, some (.imm (.val (.int .i32 x0)))), (25, some (.b ((decide (x0 ≥ 330)) && (decide (x0 ≤ 375)))))] [] 1000) ?_ ?_
        ·cases h; exact toN (Gives.mkR [] (.e rfl rfl) .n rfl rfl rfl)
        ·clear h; refine W.pk ?_; refine .m rfl rfl rfl rfl ?_; refine .v rfl rfl (OpL.binI rfl rfl rfl rfl) ?_; refine .m rfl rfl rfl rfl ?_; rcases tf (decide (x0 ≥ 330)) with g20 | g20
         ·refine .m rfl (met rfl rfl rfl g20) rfl rfl ?_; refine .v rfl (met rfl rfl rfl g20) (OpL.binI rfl rfl rfl rfl) ?_; refine .v rfl rfl (O.pickT g20 rfl rfl rfl) ?_; refine .a rfl rfl rfl rfl ?_; refine .nil ?_; exact toN (Gives.mkR [] (.r rfl rfl (.c rfl (sbb (by simp only [g20, BL])) rfl .n)) .n rfl rfl rfl)
         ·(iterate 2 refine .x rfl (unmet rfl rfl rfl g20) ?_); refine .v rfl rfl (O.pickF g20 rfl rfl rfl) ?_; refine .a rfl rfl rfl rfl ?_; refine .nil ?_; exact toN (Gives.mkR [] (.r rfl rfl (.c rfl (sbb (by simp only [g20, BL])) rfl .n)) .n rfl rfl rfl)
     ·clear h; refine W.pk ?_; refine .m rfl rfl rfl rfl ?_; refine .v rfl rfl (OpL.binI rfl rfl rfl rfl) ?_; refine .m rfl rfl rfl rfl ?_; rcases tf (decide (x0 ≥ 256)) with g13 | g13
      ·refine .m rfl (met rfl rfl rfl g13) rfl rfl ?_; refine .v rfl (met rfl rfl rfl g13) (OpL.binI rfl rfl rfl rfl) ?_; refine .v rfl rfl (O.pickT g13 rfl rfl rfl) ?_; refine .a rfl rfl rfl rfl ?_; refine .nil ?_; exact toN (Gives.mkR [] (.r rfl rfl (.c rfl (sbb (by simp only [g13, BL])) rfl .n)) .n rfl rfl rfl)
      ·(iterate 2 refine .x rfl (unmet rfl rfl rfl g13) ?_); refine .v rfl rfl (O.pickF g13 rfl rfl rfl) ?_; refine .a rfl rfl rfl rfl ?_; refine .nil ?_; exact toN (Gives.mkR [] (.r rfl rfl (.c rfl (sbb (by simp only [g13, BL])) rfl .n)) .n rfl rfl rfl)
  ·clear h; have h := b7; refine W.cond rfl (fun q8 => ?_) (fun q8 => ?_)
   ·have h := ifT q8 h; refine W.skip ?_; cases h; exact toN (Gives.mkR [] (.e rfl rfl) .n rfl rfl rfl)
   ·have h := ifF q8 h; refine W.fork (mkSt [(0, some (.imm (.val (.int .i32 x0)))), (3, some (.b (((decide (x0 ≥ 192)) && (decide (x0 ≤ 222))) && (x0 != 215))))] [] 1000) ?_ ?_
    ·cases h; exact toN (Gives.mkR [] (.e rfl rfl) .n rfl rfl rfl)
    ·clear h; refine W.pk ?_; refine .m rfl rfl rfl rfl ?_; refine .v rfl rfl (OpL.binI rfl rfl rfl rfl) ?_; refine .m rfl rfl rfl rfl ?_; rcases tf (decide (x0 ≥ 192)) with g9 | g9
     ·refine .m rfl (met rfl rfl rfl g9) rfl rfl ?_; refine .v rfl (met rfl rfl rfl g9) (OpL.binI rfl rfl rfl rfl) ?_; refine .v rfl rfl (O.pickT g9 rfl rfl rfl) ?_; refine .m rfl rfl rfl rfl ?_; rcases tf (decide (x0 ≤ 222)) with g10 | g10
      ·refine .m rfl (met rfl rfl rfl g10) rfl rfl ?_; refine .v rfl (met rfl rfl rfl g10) (OpL.binI rfl rfl rfl rfl) ?_; refine .v rfl rfl (O.pickT g10 rfl rfl rfl) ?_; refine .a rfl rfl rfl rfl ?_; refine .nil ?_; exact toN (Gives.mkR [] (.r rfl rfl (.c rfl (sbb (by first | (simp only [g9, g10, BL]; done) | (repeat (first | rw [g9] | rw [g10])) <;> simp only [BL])) rfl .n)) .n rfl rfl rfl)
      ·(iterate 2 refine .x rfl (unmet rfl rfl rfl g10) ?_); refine .v rfl rfl (O.pickF g10 rfl rfl rfl) ?_; refine .a rfl rfl rfl rfl ?_; refine .nil ?_; exact toN (Gives.mkR [] (.r rfl rfl (.c rfl (sbb (by first | (simp only [g9, g10, BL]; done) | (repeat (first | rw [g9] | rw [g10])) <;> simp only [BL])) rfl .n)) .n rfl rfl rfl)
     ·(iterate 2 refine .x rfl (unmet rfl rfl rfl g9) ?_); refine .v rfl rfl (O.pickF g9 rfl rfl rfl) ?_; refine .m rfl rfl rfl rfl ?_; (iterate 2 refine .x rfl (unmet rfl rfl rfl rfl) ?_); refine .v rfl rfl (O.pickF rfl rfl rfl rfl) ?_; refine .a rfl rfl rfl rfl ?_; refine .nil ?_; exact toN (Gives.mkR [] (.r rfl rfl (.c rfl (sbb (by simp only [g9, BL])) rfl .n)) .n rfl rfl rfl)
 ·clear h; refine W.pk ?_; refine .m rfl rfl rfl rfl ?_; refine .v rfl rfl (OpL.binI rfl rfl rfl rfl) ?_; refine .m rfl rfl rfl rfl ?_; rcases tf (decide (x0 ≥ 65)) with g1 | g1
  ·refine .m rfl (met rfl rfl rfl g1) rfl rfl ?_; refine .v rfl (met rfl rfl rfl g1) (OpL.binI rfl rfl rfl rfl) ?_; refine .v rfl rfl (O.pickT g1 rfl rfl rfl) ?_; refine .a rfl rfl rfl rfl ?_; refine .nil ?_; exact toN (Gives.mkR [] (.r rfl rfl (.c rfl (sbb (by simp only [g1, BL])) rfl .n)) .n rfl rfl rfl)
  ·(iterate 2 refine .x rfl (unmet rfl rfl rfl g1) ?_); refine .v rfl rfl (O.pickF g1 rfl rfl rfl) ?_; refine .a rfl rfl rfl rfl ?_; refine .nil ?_; exact toN (Gives.mkR [] (.r rfl rfl (.c rfl (sbb (by simp only [g1, BL])) rfl .n)) .n rfl rfl rfl)

noncomputable def name_Fold.low (c : Int) : Option (Int) := (name_low.f c).bind fun r => if -2147483648 ≤ r ∧ r ≤ 2147483647 then some r else none
noncomputable def name_Fold.f (x0 : Bs) : Option (Bs) :=
  if List.length x0 ≤ 35184372088832 then foldFrom name_Fold.low (tx x0) (tx x0).size 0 else none
theorem name_Fold.ok {x0 r : Bs} (h : name_Fold.f x0 = some r) : Pm.Spec prog 35 [.imm (.val (.string (tx x0)))] (.imm (.val (.string (tx r)))) [none] := by
  obtain ⟨h1, h2⟩ : List.length x0 ≤ 35184372088832 ∧ foldFrom name_Fold.low (tx x0) (tx x0).size 0 = some r := by
    unfold name_Fold.f at h; split at h
    · rename_i h1; exact ⟨h1, h⟩
    · cases h
  refine spec_fold (fun w => fold_walk name_Fold.low (fun c r w hc => ?_) (tx x0) w r (by simpa [tx, ByteArray.size] using h1) h2)
  unfold name_Fold.low at hc
  obtain ⟨r', h3, h4⟩ := Option.bind_eq_some_iff.1 hc
  split at h4
  · rename_i h5; cases h4; exact ⟨h5, fold_low (name_low.ok h3) w⟩
  · cases h4

noncomputable def name_Same.f (x0 : Bs) (x1 : Bs) : Option (Bool) :=
  (name_Fold.f x0).bind fun t1 =>
  (name_Fold.f x1).bind fun t3 =>
  some (t1 == t3)
set_option maxRecDepth 100000 in
set_option maxHeartbeats 4000000 in
theorem name_Same.ok {x0 : Bs} {x1 : Bs} {r : Bool} (h : name_Same.f x0 x1 = some r) : Pm.Spec prog 19 [.imm (.val (.string (tx x0))), .imm (.val (.string (tx x1)))] (.imm (.val (.bool r))) [none, none] := by
 unfold name_Same.f at h; refine Pm.Spec.of_body Try.func19 rfl (by kernel_rfl) (Nat.le_of_ble_eq_true rfl) (Nat.le_of_ble_eq_true rfl) ?_; refine W.ghost (σ' := (mkSt [(0, some (.s x0)), (1, some (.s x1))] [] 1000)) (Gives.entry (.c rfl (.c rfl .n)) .n) ?_; refine W.seq ?_; refine W.pk ?_; refine .a rfl rfl rfl rfl ?_; refine .nil ?_; refine W.seq ?_; obtain ⟨t1, b2, h⟩ := bnd1 h; obtain ⟨t3, b4, h⟩ := bnd1 h; refine W.pk ?_; refine .m rfl rfl rfl rfl ?_; refine .call (.s t1) [] 0 (name_Fold.ok b2) rfl rfl rfl ca35 rfl rfl (cC (.imm _) .nil) rfl rfl rfl rfl rfl ?_; refine .m rfl rfl rfl rfl ?_; refine .call (.s t3) [] 0 (name_Fold.ok b4) rfl rfl rfl ca35 rfl rfl (cC (.imm _) .nil) rfl rfl rfl rfl rfl ?_; refine .v rfl rfl (O.cmpS rfl rfl rfl rfl) ?_; refine .a rfl rfl rfl rfl ?_; refine .nil ?_; refine W.ret ?_; cases h; exact leaves (.inr rfl) rfl (.imm _) (cN (cN .nil)) rfl rfl

noncomputable def auth_List_Find_1_v2.f (x0 : auth_Member) (x1 : Bs) : Option (Bool) :=
  (name_Same.f x0.Name x1).bind fun t1 =>
  some t1
set_option maxRecDepth 100000 in
set_option maxHeartbeats 4000000 in
theorem auth_List_Find_1_v2.ok {x0 : auth_Member} {x1 : Bs} {r : Bool} (h : auth_List_Find_1_v2.f x0 x1 = some r) : Pm.Spec prog 18 [.agg [.imm (.val (.int .i64 x0.ID)), .imm (.val (.string (tx x0.Name))), .imm (.val (.int .i64 x0.State)), .imm (.val (.int .i64 x0.Bound)), .imm (.val (.bool x0.Late))], .xbox [.imm (.val (.string (tx x1)))]] (.imm (.val (.bool r))) [none, some (.xbox [.imm (.val (.string (tx x1)))])] := by
 unfold auth_List_Find_1_v2.f at h; refine Pm.Spec.of_body Try.func18 rfl (by kernel_rfl) (Nat.le_of_ble_eq_true rfl) (Nat.le_of_ble_eq_true rfl) ?_; refine W.ghost (σ' := (mkSt [(0, some (.agg (auth_Member.av x0))), (1, some (.ptr 0 0))] [(0, some (.box [.s x1]))] 1000)) (Gives.entry (.c rfl (.c rfl .n)) (.c rfl .n)) ?_; refine W.seq ?_; refine W.pk ?_; refine .t rfl rfl (O.box rfl rfl rfl rfl rfl) ?_; refine .a rfl rfl rfl rfl ?_; refine .nil ?_; refine W.seq ?_; obtain ⟨t1, b2, h⟩ := bnd1 h; refine W.pk ?_; refine .v rfl rfl (O.fld fld28_1 rfl rfl rfl) ?_; refine .v rfl rfl (O.ld (y := .s x0.Name) ty9 rfl rfl rfl) ?_; refine .v rfl rfl (O.ld (y := .s x1) ty9 rfl rfl rfl) ?_; refine .call (.b t1) [] 0 (name_Same.ok b2) rfl rfl rfl ca19 rfl rfl (cC (.imm _) (cC (.imm _) .nil)) rfl rfl rfl rfl rfl ?_; refine .a rfl rfl rfl rfl ?_; refine .nil ?_; refine W.ret ?_; cases h; exact leaves (.inr rfl) rfl (.imm _) (cN (cS (.ptr _ _ _ _ _ rfl (cC (.imm _) .nil)) .nil)) rfl rfl

noncomputable def auth_first_auth_Member__auth_List_Find_1.b0 (x0 : List auth_Member) (x1c0 : Bs) (v6 : Int) : Option (Int ⊕ ((auth_Member × Bool) ⊕ Unit)) :=
  if (decide (v6 < (List.length x0 : Int))) = true then
    if (0 : Int) ≤ v6 ∧ v6 < (List.length x0 : Int) then
    (auth_List_Find_1_v2.f (nth x0 v6) x1c0).bind fun t23 =>
    if t23 = true then
      some (.inr (.inl ((nth x0 v6), true)))
    else
      some (.inl (IntKind.wrap .i64 (v6 + 1)))
    else none
  else
    some (.inr (.inr ()))
noncomputable def auth_first_auth_Member__auth_List_Find_1.r0 (x0 : List auth_Member) (x1c0 : Bs) (s : Int) : Option (Int ⊕ ((auth_Member × Bool) ⊕ Unit)) := auth_first_auth_Member__auth_List_Find_1.b0 x0 x1c0 s
noncomputable def auth_first_auth_Member__auth_List_Find_1.f (x0 : List auth_Member) (x1c0 : Bs) : Option (auth_Member × Bool) :=
  (loop (auth_first_auth_Member__auth_List_Find_1.r0 x0 x1c0) 0).bind fun o18 =>
  match o18 with
  | .inl r26 => some r26
  | .inr w17 =>
    some ((⟨0, [], 0, 0, false⟩ : auth_Member), false)
set_option maxRecDepth 100000 in
set_option maxHeartbeats 4000000 in
theorem auth_first_auth_Member__auth_List_Find_1.ok {x0 : List auth_Member} {x1c0 : Bs} {r : auth_Member × Bool} (h : auth_first_auth_Member__auth_List_Find_1.f x0 x1c0 = some r) : Pm.Spec prog 17 [.imm (.row 5 (List.map auth_Member.enc x0)), .fn 18 [.xbox [.imm (.val (.string (tx x1c0)))]]] (.tup [.agg [.imm (.val (.int .i64 r.1.ID)), .imm (.val (.string (tx r.1.Name))), .imm (.val (.int .i64 r.1.State)), .imm (.val (.int .i64 r.1.Bound)), .imm (.val (.bool r.1.Late))], .imm (.val (.bool r.2))]) [none, some (.fn 18 [.xbox [.imm (.val (.string (tx x1c0)))]])] := by
 unfold auth_first_auth_Member__auth_List_Find_1.f at h; refine Pm.Spec.of_body Try.func17 rfl (by kernel_rfl) (Nat.le_of_ble_eq_true rfl) (Nat.le_of_ble_eq_true rfl) ?_; refine W.ghost (σ' := (mkSt [(0, some (.imm (.row 5 (List.map auth_Member.enc x0)))), (1, some (.fn 18 [.ptr 0 0]))] [(0, some (.box [.s x1c0]))] 1000)) (Gives.entry (.c rfl (.c rfl .n)) (.c rfl .n)) ?_; refine W.seq ?_; refine W.pk ?_; refine .t rfl rfl (O.alloc z28 rfl) ?_; refine .a rfl rfl rfl rfl ?_; refine .nil ?_; (iterate 2 refine W.seq ?_); refine W.pk ?_; refine .m rfl rfl rfl rfl ?_; refine .v rfl rfl (O.lenR sl23 rfl rfl) ?_; refine .m rfl rfl rfl rfl ?_; refine .nil ?_; obtain ⟨o18, b19, z20⟩ := bnd1 h; refine W.fork2 (out := o18) (fun (w17 : Unit) => mkSt [(4, some (.ptr 1000 0))] [(0, some (.box [.s x1c0])), (1000, some (.box [.i 0, .s [], .i 0, .i 0, .b false]))] 1001) ?_ ?_
 ·clear h; refine W.block ?_; refine W.loopF (fun (s_ : Int) => mkSt [(1, some (.fn 18 [.ptr 0 0])), (4, some (.ptr 1000 0)), (9, some (.imm (.row 5 (List.map auth_Member.enc x0)))), (10, some (.i (List.length x0 : Int))), (11, some (.i s_))] [(0, some (.box [.s x1c0])), (1000, some (.box [.i 0, .s [], .i 0, .i 0, .b false]))] 1001) b19 (Gives.mkR [] (.e rfl rfl) (.e rfl rfl) rfl rfl rfl) ?_; rintro v6 s_ hr; have h : auth_first_auth_Member__auth_List_Find_1.b0 x0 x1c0 v6 = some s_ := hr; unfold auth_first_auth_Member__auth_List_Find_1.b0 at h; refine W.seq ?_; refine W.pk ?_; refine .v rfl rfl (OpL.binI rfl rfl rfl rfl) ?_; refine .nil ?_; refine W.seq ?_; refine W.cond rfl (fun q21 => ?_) (fun q21 => ?_)
  ·have h := ifT q21 h; refine W.skip ?_; refine W.seq ?_; refine W.block ?_; refine W.seq ?_; obtain ⟨c22, h⟩ := chk h; refine W.pk ?_; refine .v rfl rfl (O.idx sl23 c22 rfl rfl rfl) ?_; refine .v rfl rfl (O.ldN ty28 rfl rfl rfl) ?_; refine .t rfl rfl (O.alloc z28 rfl) ?_; refine .s rfl rfl (O.st ty28 rfl rfl rfl rfl rfl rfl rfl rfl rfl rfl (all' := [.i ((nth x0 v6).ID), .s ((nth x0 v6).Name), .i ((nth x0 v6).State), .i ((nth x0 v6).Bound), .b ((nth x0 v6).Late)]) rfl) ?_; refine .nil ?_; refine W.seq ?_; obtain ⟨t23, b24, h⟩ := bnd1 h; refine W.pk ?_; refine .m rfl rfl rfl rfl ?_; refine .v rfl rfl (O.ldN ty28 rfl rfl rfl) ?_; refine .call (.b t23) [(0, some (.box [.s x1c0])), (0, none)] 0 (auth_List_Find_1_v2.ok b24) rfl rfl rfl ca18 rfl rfl (cC (.agg _ _ _ _ (cC (.imm _) (cC (.imm _) (cC (.imm _) (cC (.imm _) (cC (.imm _) .nil)))))) (cC (.ptr _ _ _ _ _ rfl (cC (.imm _) .nil)) .nil)) rfl rfl rfl rfl rfl ?_; refine .nil ?_; refine W.cond rfl (fun q25 => ?_) (fun q25 => ?_)
   ·have h := ifT q25 h; refine W.seq ?_; refine W.pk ?_; refine .v rfl rfl (O.ldN ty28 rfl rfl rfl) ?_; refine .s rfl rfl (O.st ty28 rfl rfl rfl rfl rfl rfl rfl rfl rfl rfl (all' := [.i ((nth x0 v6).ID), .s ((nth x0 v6).Name), .i ((nth x0 v6).State), .i ((nth x0 v6).Bound), .b ((nth x0 v6).Late)]) rfl) ?_; refine .a rfl rfl rfl rfl ?_; refine .nil ?_; refine W.ret ?_; cases h; refine rdR fun e_ => ?_; subst e_; have h := z20; dsimp only at h; refine fkR ?_; cases h; exact leaves (.inr rfl) rfl (.tup _ _ _ _ (cC (.agg _ _ _ _ (cC (.imm _) (cC (.imm _) (cC (.imm _) (cC (.imm _) (cC (.imm _) .nil)))))) (cC (.imm _) .nil))) (cN (cS (.fn _ _ _ _ _ (cC (.ptr _ _ _ _ _ rfl (cC (.imm _) .nil)) .nil)) .nil)) rfl rfl
   ·have h := ifF q25 h; refine W.skip ?_; refine W.pk ?_; refine .v rfl rfl (OpL.binI rfl rfl rfl rfl) ?_; refine .m rfl rfl rfl rfl ?_; refine .nil ?_; cases h; exact rdN (Gives.mkR [] (.e rfl rfl) (.e rfl rfl) rfl rfl rfl)
  ·have h := ifF q21 h; refine W.exit ?_; cases h; refine rdX fun e_ => ?_; subst e_; (repeat with_reducible refine thru ?_); refine hit ?_; exact fkN (Gives.mkR [] (.r rfl rfl .n) (.e rfl rfl) rfl rfl rfl)
 ·intro w17 e_; subst e_; clear h; have h := z20; dsimp only at h; refine W.seq ?_; refine W.pk ?_; refine .t rfl rfl (O.alloc z28 rfl) ?_; refine .nil ?_; refine W.seq ?_; refine W.pk ?_; refine .v rfl rfl (O.ldN ty28 rfl rfl rfl) ?_; refine .s rfl rfl (O.st ty28 rfl rfl rfl rfl rfl rfl rfl rfl rfl rfl (all' := [.i 0, .s [], .i 0, .i 0, .b false]) rfl) ?_; refine .a rfl rfl rfl rfl ?_; refine .nil ?_; refine W.ret ?_; cases h; exact leaves (.inr rfl) rfl (.tup _ _ _ _ (cC (.agg _ _ _ _ (cC (.imm _) (cC (.imm _) (cC (.imm _) (cC (.imm _) (cC (.imm _) .nil)))))) (cC (.imm _) .nil))) (cN (cS (.fn _ _ _ _ _ (cC (.ptr _ _ _ _ _ rfl (cC (.imm _) .nil)) .nil)) .nil)) rfl rfl

noncomputable def auth_List_Find_v2.f (x0 : auth_List) (x1 : Bs) : Option (auth_Member × Bool) :=
  (auth_first_auth_Member__auth_List_Find_1.f x0.l x1).bind fun t1 =>
  some (t1.1, t1.2)
set_option maxRecDepth 100000 in
set_option maxHeartbeats 4000000 in
theorem auth_List_Find_v2.ok {x0 : auth_List} {x1 : Bs} {r : auth_Member × Bool} (h : auth_List_Find_v2.f x0 x1 = some r) : Pm.Spec prog 5 [.imm (.fp (auth_List.enc x0)), .imm (.val (.string (tx x1)))] (.tup [.agg [.imm (.val (.int .i64 r.1.ID)), .imm (.val (.string (tx r.1.Name))), .imm (.val (.int .i64 r.1.State)), .imm (.val (.int .i64 r.1.Bound)), .imm (.val (.bool r.1.Late))], .imm (.val (.bool r.2))]) [none, none] := by
 unfold auth_List_Find_v2.f at h; refine Pm.Spec.of_body Try.func5 rfl (by kernel_rfl) (Nat.le_of_ble_eq_true rfl) (Nat.le_of_ble_eq_true rfl) ?_; refine W.ghost (σ' := (mkSt [(0, some (.imm (.fp (auth_List.enc x0)))), (1, some (.s x1))] [] 1000)) (Gives.entry (.c rfl (.c rfl .n)) .n) ?_; refine W.seq ?_; refine W.pk ?_; refine .t rfl rfl (O.box rfl rfl rfl rfl rfl) ?_; refine .t rfl rfl (O.alloc z28 rfl) ?_; refine .a rfl rfl rfl rfl ?_; refine .nil ?_; (iterate 2 refine W.seq ?_); refine W.pk ?_; refine .m rfl rfl rfl rfl ?_; refine .v rfl rfl (OpL.eqP rfl u22 rfl rfl rfl) ?_; refine .nil ?_; refine W.cond rfl (fun q => by cases q) (fun _ => ?_)
 refine W.skip ?_; refine W.seq ?_; obtain ⟨t1, b2, h⟩ := bnd1 h; refine W.pk ?_; refine .m rfl rfl rfl rfl ?_; refine .v rfl rfl (OpL.nilP rfl rfl rfl) ?_; refine .v rfl rfl (O.fld fld25_0 rfl rfl rfl) ?_; refine .v rfl rfl (O.ld (y := .imm (.row 5 (List.map auth_Member.enc x0.l))) ty23 rfl rfl rfl) ?_; refine .v rfl rfl (OpL.mkfn rfl rfl) ?_; refine .call (.tup [.agg (auth_Member.av t1.1), .b t1.2]) [(1000, some (.box [.s x1])), (1000, none)] 0 (auth_first_auth_Member__auth_List_Find_1.ok b2) rfl rfl rfl ca17 rfl rfl (cC (.imm _) (cC (.fn _ _ _ _ _ (cC (.ptr _ _ _ _ _ rfl (cC (.imm _) .nil)) .nil)) .nil)) rfl rfl rfl rfl rfl ?_; (iterate 2 refine .v rfl rfl (OpL.extract rfl rfl rfl) ?_); refine .s rfl rfl (O.st ty28 rfl rfl rfl rfl rfl rfl rfl rfl rfl rfl (all' := [.i t1.1.ID, .s t1.1.Name, .i t1.1.State, .i t1.1.Bound, .b t1.1.Late]) rfl) ?_; refine .a rfl rfl rfl rfl ?_; refine .nil ?_; refine W.ret ?_; cases h; exact leaves (.inr rfl) rfl (.tup _ _ _ _ (cC (.agg _ _ _ _ (cC (.imm _) (cC (.imm _) (cC (.imm _) (cC (.imm _) (cC (.imm _) .nil)))))) (cC (.imm _) .nil))) (cN (cN .nil)) rfl rfl

noncomputable def name_letter.f (x0 : Int) : Option (Bool) :=
  ((
    if ((decide (x0 ≥ 97)) && (decide (x0 ≤ 122))) = true then
      some ((decide (x0 ≥ 97)) && (decide (x0 ≤ 122)))
    else
      some ((decide (x0 ≥ 65)) && (decide (x0 ≤ 90))) : Option (Bool))).bind fun o5 =>
  if o5 = true then
    some true
  else
    if ((x0 == 215) || (x0 == 247)) = true then
      some false
    else
      some ((decide (x0 ≥ 192)) && (decide (x0 ≤ 383)))
set_option maxRecDepth 100000 in
set_option maxHeartbeats 4000000 in
theorem name_letter.ok {x0 : Int} {r : Bool} (h : name_letter.f x0 = some r) : Pm.Spec prog 56 [.imm (.val (.int .i32 x0))] (.imm (.val (.bool r))) [none] := by
 unfold name_letter.f at h; refine Pm.Spec.of_body Try.func56 rfl (by kernel_rfl) (Nat.le_of_ble_eq_true rfl) (Nat.le_of_ble_eq_true rfl) ?_; refine W.ghost (σ' := (mkSt [(0, some (.imm (.val (.int .i32 x0))))] [] 1000)) (Gives.entry (.c rfl .n) .n) ?_; refine W.seq ?_; refine W.pk ?_; refine .a rfl rfl rfl rfl ?_; refine .nil ?_; refine W.seq ?_; refine W.block ?_; (iterate 2 refine W.seq ?_); refine W.fork (mkSt [(0, some (.imm (.val (.int .i32 x0)))), (3, some (.b ((decide (x0 ≥ 97)) && (decide (x0 ≤ 122)))))] [] 1000) ?_ ?_
 ·obtain ⟨o5, b6, h⟩ := bnd1 h; refine W.fork (mkSt [(0, some (.imm (.val (.int .i32 x0)))), (3, some (.b o5))] [] 1000) ?_ ?_
  ·refine W.cond rfl (fun q9 => ?_) (fun q9 => ?_)
   ·have h := ifT q9 h; refine W.seq ?_; refine W.pk ?_; refine .a rfl rfl rfl rfl ?_; refine .nil ?_; refine W.ret ?_; cases h; exact leaves (.inr rfl) rfl (.imm _) (cN .nil) rfl rfl
   ·have h := ifF q9 h; refine W.seq ?_; refine W.fork (mkSt [(0, some (.imm (.val (.int .i32 x0)))), (16, some (.b ((x0 == 215) || (x0 == 247))))] [] 1000) ?_ ?_
    ·refine W.cond rfl (fun q11 => ?_) (fun q11 => ?_)
     ·have h := ifT q11 h; refine W.seq ?_; refine W.pk ?_; refine .a rfl rfl rfl rfl ?_; refine .nil ?_; refine W.ret ?_; cases h; exact leaves (.inr rfl) rfl (.imm _) (cN .nil) rfl rfl
     ·have h := ifF q11 h; refine W.skip ?_; refine W.seq ?_; refine W.fork (mkSt [(2, some (.b ((decide (x0 ≥ 192)) && (decide (x0 ≤ 383)))))] [] 1000) ?_ ?_
      ·refine W.ret ?_; cases h; exact leaves (.inr rfl) rfl (.imm _) (cN .nil) rfl rfl
      ·clear h; refine W.pk ?_; refine .m rfl rfl rfl rfl ?_; refine .v rfl rfl (OpL.binI rfl rfl rfl rfl) ?_; refine .m rfl rfl rfl rfl ?_; rcases tf (decide (x0 ≥ 192)) with g12 | g12
       ·refine .m rfl (met rfl rfl rfl g12) rfl rfl ?_; refine .v rfl (met rfl rfl rfl g12) (OpL.binI rfl rfl rfl rfl) ?_; refine .v rfl rfl (O.pickT g12 rfl rfl rfl) ?_; refine .a rfl rfl rfl rfl ?_; refine .nil ?_; exact toN (Gives.mkR [] (.c rfl (sbb (by simp only [g12, BL])) rfl .n) .n rfl rfl rfl)
       ·(iterate 2 refine .x rfl (unmet rfl rfl rfl g12) ?_); refine .v rfl rfl (O.pickF g12 rfl rfl rfl) ?_; refine .a rfl rfl rfl rfl ?_; refine .nil ?_; exact toN (Gives.mkR [] (.c rfl (sbb (by simp only [g12, BL])) rfl .n) .n rfl rfl rfl)
    ·clear h; refine W.pk ?_; refine .m rfl rfl rfl rfl ?_; refine .v rfl rfl (OpL.binI rfl rfl rfl rfl) ?_; refine .m rfl rfl rfl rfl ?_; rcases tf (x0 == 215) with g10 | g10
     ·(iterate 2 refine .x rfl (unmet rfl rfl rfl g10) ?_); refine .v rfl rfl (O.pickT g10 rfl rfl rfl) ?_; refine .a rfl rfl rfl rfl ?_; refine .nil ?_; exact toN (Gives.mkR [] (.r rfl rfl (.c rfl (sbb (by simp only [g10, BL])) rfl .n)) .n rfl rfl rfl)
     ·refine .m rfl (met rfl rfl rfl g10) rfl rfl ?_; refine .v rfl (met rfl rfl rfl g10) (OpL.binI rfl rfl rfl rfl) ?_; refine .v rfl rfl (O.pickF g10 rfl rfl rfl) ?_; refine .a rfl rfl rfl rfl ?_; refine .nil ?_; exact toN (Gives.mkR [] (.r rfl rfl (.c rfl (sbb (by simp only [g10, BL])) rfl .n)) .n rfl rfl rfl)
  ·clear h; have h := b6; refine W.cond rfl (fun q7 => ?_) (fun q7 => ?_)
   ·have h := ifT q7 h; refine W.skip ?_; cases h; exact toN (Gives.mkR [] (.e rfl rfl) .n rfl rfl rfl)
   ·have h := ifF q7 h; refine W.fork (mkSt [(0, some (.imm (.val (.int .i32 x0)))), (3, some (.b ((decide (x0 ≥ 65)) && (decide (x0 ≤ 90)))))] [] 1000) ?_ ?_
    ·cases h; exact toN (Gives.mkR [] (.e rfl rfl) .n rfl rfl rfl)
    ·clear h; refine W.pk ?_; refine .m rfl rfl rfl rfl ?_; refine .v rfl rfl (OpL.binI rfl rfl rfl rfl) ?_; refine .m rfl rfl rfl rfl ?_; rcases tf (decide (x0 ≥ 65)) with g8 | g8
     ·refine .m rfl (met rfl rfl rfl g8) rfl rfl ?_; refine .v rfl (met rfl rfl rfl g8) (OpL.binI rfl rfl rfl rfl) ?_; refine .v rfl rfl (O.pickT g8 rfl rfl rfl) ?_; refine .a rfl rfl rfl rfl ?_; refine .nil ?_; exact toN (Gives.mkR [] (.r rfl rfl (.c rfl (sbb (by simp only [g8, BL])) rfl .n)) .n rfl rfl rfl)
     ·(iterate 2 refine .x rfl (unmet rfl rfl rfl g8) ?_); refine .v rfl rfl (O.pickF g8 rfl rfl rfl) ?_; refine .a rfl rfl rfl rfl ?_; refine .nil ?_; exact toN (Gives.mkR [] (.r rfl rfl (.c rfl (sbb (by simp only [g8, BL])) rfl .n)) .n rfl rfl rfl)
 ·clear h; refine W.pk ?_; refine .m rfl rfl rfl rfl ?_; refine .v rfl rfl (OpL.binI rfl rfl rfl rfl) ?_; refine .m rfl rfl rfl rfl ?_; rcases tf (decide (x0 ≥ 97)) with g1 | g1
  ·refine .m rfl (met rfl rfl rfl g1) rfl rfl ?_; refine .v rfl (met rfl rfl rfl g1) (OpL.binI rfl rfl rfl rfl) ?_; refine .v rfl rfl (O.pickT g1 rfl rfl rfl) ?_; refine .a rfl rfl rfl rfl ?_; refine .nil ?_; exact toN (Gives.mkR [] (.r rfl rfl (.c rfl (sbb (by simp only [g1, BL])) rfl .n)) .n rfl rfl rfl)
  ·(iterate 2 refine .x rfl (unmet rfl rfl rfl g1) ?_); refine .v rfl rfl (O.pickF g1 rfl rfl rfl) ?_; refine .a rfl rfl rfl rfl ?_; refine .nil ?_; exact toN (Gives.mkR [] (.r rfl rfl (.c rfl (sbb (by simp only [g1, BL])) rfl .n)) .n rfl rfl rfl)

noncomputable def name_digit.f (x0 : Int) : Option (Bool) :=
  some ((decide (x0 ≥ 48)) && (decide (x0 ≤ 57)))
set_option maxRecDepth 100000 in
set_option maxHeartbeats 4000000 in
theorem name_digit.ok {x0 : Int} {r : Bool} (h : name_digit.f x0 = some r) : Pm.Spec prog 57 [.imm (.val (.int .i32 x0))] (.imm (.val (.bool r))) [none] := by
 unfold name_digit.f at h; refine Pm.Spec.of_body Try.func57 rfl (by kernel_rfl) (Nat.le_of_ble_eq_true rfl) (Nat.le_of_ble_eq_true rfl) ?_; refine W.ghost (σ' := (mkSt [(0, some (.imm (.val (.int .i32 x0))))] [] 1000)) (Gives.entry (.c rfl .n) .n) ?_; refine W.seq ?_; refine W.pk ?_; refine .a rfl rfl rfl rfl ?_; refine .nil ?_; refine W.seq ?_; refine W.fork (mkSt [(2, some (.b ((decide (x0 ≥ 48)) && (decide (x0 ≤ 57)))))] [] 1000) ?_ ?_
 ·refine W.ret ?_; cases h; exact leaves (.inr rfl) rfl (.imm _) (cN .nil) rfl rfl
 ·clear h; refine W.pk ?_; refine .m rfl rfl rfl rfl ?_; refine .v rfl rfl (OpL.binI rfl rfl rfl rfl) ?_; refine .m rfl rfl rfl rfl ?_; rcases tf (decide (x0 ≥ 48)) with g1 | g1
  ·refine .m rfl (met rfl rfl rfl g1) rfl rfl ?_; refine .v rfl (met rfl rfl rfl g1) (OpL.binI rfl rfl rfl rfl) ?_; refine .v rfl rfl (O.pickT g1 rfl rfl rfl) ?_; refine .a rfl rfl rfl rfl ?_; refine .nil ?_; exact toN (Gives.mkR [] (.c rfl (sbb (by simp only [g1, BL])) rfl .n) .n rfl rfl rfl)
  ·(iterate 2 refine .x rfl (unmet rfl rfl rfl g1) ?_); refine .v rfl rfl (O.pickF g1 rfl rfl rfl) ?_; refine .a rfl rfl rfl rfl ?_; refine .nil ?_; exact toN (Gives.mkR [] (.c rfl (sbb (by simp only [g1, BL])) rfl .n) .n rfl rfl rfl)

noncomputable def name_joint.f (x0 : Int) : Option (Bool) :=
  if (x0 == 32) = true then
    if (x0 == 32) = true then
      some true
    else
      some false
  else
    if (x0 == 45) = true then
      if (x0 == 45) = true then
        some true
      else
        some false
    else
      if (x0 == 46) = true then
        if (x0 == 46) = true then
          some true
        else
          some false
      else
        if (x0 == 38) = true then
          if (x0 == 38) = true then
            some true
          else
            some false
        else
          if (x0 == 39) = true then
            some true
          else
            some false
set_option maxRecDepth 100000 in
set_option maxHeartbeats 4000000 in
theorem name_joint.ok {x0 : Int} {r : Bool} (h : name_joint.f x0 = some r) : Pm.Spec prog 58 [.imm (.val (.int .i32 x0))] (.imm (.val (.bool r))) [none] := by
 unfold name_joint.f at h; refine Pm.Spec.of_body Try.func58 rfl (by kernel_rfl) (Nat.le_of_ble_eq_true rfl) (Nat.le_of_ble_eq_true rfl) ?_; refine W.ghost (σ' := (mkSt [(0, some (.imm (.val (.int .i32 x0))))] [] 1000)) (Gives.entry (.c rfl .n) .n) ?_; refine W.seq ?_; refine W.pk ?_; refine .a rfl rfl rfl rfl ?_; refine .nil ?_; (iterate 2 refine W.seq ?_); refine W.pk ?_; refine .m rfl rfl rfl rfl ?_; refine .nil ?_; refine W.block ?_; (iterate 2 refine W.seq ?_); refine W.pk ?_; refine .v rfl rfl (OpL.binI rfl rfl rfl rfl) ?_; refine .a rfl rfl rfl rfl ?_; refine .nil ?_; refine W.cond rfl (fun q1 => ?_) (fun q1 => ?_)
 ·have h := ifT q1 h; refine W.skip ?_; refine W.cond rfl (fun q2 => ?_) (fun q2 => ?_)
  ·have h := ifT q2 h; refine W.seq ?_; refine W.pk ?_; refine .a rfl rfl rfl rfl ?_; refine .nil ?_; refine W.ret ?_; cases h; exact leaves (.inr rfl) rfl (.imm _) (cN .nil) rfl rfl
  ·have h := ifF q2 h; refine W.skip ?_; refine W.seq ?_; refine W.pk ?_; refine .a rfl rfl rfl rfl ?_; refine .nil ?_; refine W.ret ?_; cases h; exact leaves (.inr rfl) rfl (.imm _) (cN .nil) rfl rfl
 ·have h := ifF q1 h; refine W.seq ?_; refine W.pk ?_; refine .v rfl rfl (OpL.binI rfl rfl rfl rfl) ?_; refine .a rfl rfl rfl rfl ?_; refine .nil ?_; refine W.cond rfl (fun q3 => ?_) (fun q3 => ?_)
  ·have h := ifT q3 h; refine W.skip ?_; refine W.cond rfl (fun q4 => ?_) (fun q4 => ?_)
   ·have h := ifT q4 h; refine W.seq ?_; refine W.pk ?_; refine .a rfl rfl rfl rfl ?_; refine .nil ?_; refine W.ret ?_; cases h; exact leaves (.inr rfl) rfl (.imm _) (cN .nil) rfl rfl
   ·have h := ifF q4 h; refine W.skip ?_; refine W.seq ?_; refine W.pk ?_; refine .a rfl rfl rfl rfl ?_; refine .nil ?_; refine W.ret ?_; cases h; exact leaves (.inr rfl) rfl (.imm _) (cN .nil) rfl rfl
  ·have h := ifF q3 h; refine W.seq ?_; refine W.pk ?_; refine .v rfl rfl (OpL.binI rfl rfl rfl rfl) ?_; refine .a rfl rfl rfl rfl ?_; refine .nil ?_; refine W.cond rfl (fun q5 => ?_) (fun q5 => ?_)
   ·have h := ifT q5 h; refine W.skip ?_; refine W.cond rfl (fun q6 => ?_) (fun q6 => ?_)
    ·have h := ifT q6 h; refine W.seq ?_; refine W.pk ?_; refine .a rfl rfl rfl rfl ?_; refine .nil ?_; refine W.ret ?_; cases h; exact leaves (.inr rfl) rfl (.imm _) (cN .nil) rfl rfl
    ·have h := ifF q6 h; refine W.skip ?_; refine W.seq ?_; refine W.pk ?_; refine .a rfl rfl rfl rfl ?_; refine .nil ?_; refine W.ret ?_; cases h; exact leaves (.inr rfl) rfl (.imm _) (cN .nil) rfl rfl
   ·have h := ifF q5 h; refine W.seq ?_; refine W.pk ?_; refine .v rfl rfl (OpL.binI rfl rfl rfl rfl) ?_; refine .a rfl rfl rfl rfl ?_; refine .nil ?_; refine W.cond rfl (fun q7 => ?_) (fun q7 => ?_)
    ·have h := ifT q7 h; refine W.skip ?_; refine W.cond rfl (fun q8 => ?_) (fun q8 => ?_)
     ·have h := ifT q8 h; refine W.seq ?_; refine W.pk ?_; refine .a rfl rfl rfl rfl ?_; refine .nil ?_; refine W.ret ?_; cases h; exact leaves (.inr rfl) rfl (.imm _) (cN .nil) rfl rfl
     ·have h := ifF q8 h; refine W.skip ?_; refine W.seq ?_; refine W.pk ?_; refine .a rfl rfl rfl rfl ?_; refine .nil ?_; refine W.ret ?_; cases h; exact leaves (.inr rfl) rfl (.imm _) (cN .nil) rfl rfl
    ·have h := ifF q7 h; refine W.pk ?_; refine .v rfl rfl (OpL.binI rfl rfl rfl rfl) ?_; refine .a rfl rfl rfl rfl ?_; refine .nil ?_; refine W.cond rfl (fun q9 => ?_) (fun q9 => ?_)
     ·have h := ifT q9 h; refine W.seq ?_; refine W.pk ?_; refine .a rfl rfl rfl rfl ?_; refine .nil ?_; refine W.ret ?_; cases h; exact leaves (.inr rfl) rfl (.imm _) (cN .nil) rfl rfl
     ·have h := ifF q9 h; refine W.skip ?_; refine W.seq ?_; refine W.pk ?_; refine .a rfl rfl rfl rfl ?_; refine .nil ?_; refine W.ret ?_; cases h; exact leaves (.inr rfl) rfl (.imm _) (cN .nil) rfl rfl

noncomputable def name_Check.b0 (x0 : Bs) (v34 : Int) (v35 : Int) (v36 : Nat) : Option ((Int × Int × Nat) ⊕ ((Int × Int) ⊕ (Int × Int))) :=
  if (nextOk x0 v36) = true then
    if nextOk x0 v36 = true then
    if nextOk x0 v36 = true then
    if (v34 == 40) = true then
      some (.inr (.inl (((v36 : Nat) : Int), 2)))
    else
      (name_letter.f (nextC x0 v36)).bind fun t109 =>
      (if (!t109) = true then name_digit.f (nextC x0 v36) else some default).bind fun t111 =>
      (if ((!t109) && (!t111)) = true then name_joint.f (nextC x0 v36) else some default).bind fun t113 =>
      if (((!t109) && (!t111)) && (!t113)) = true then
        some (.inr (.inl (((v36 : Nat) : Int), 11)))
      else
        (if (v34 == 0) = true then name_letter.f (nextC x0 v36) else some default).bind fun t118 =>
        ((
          if ((v34 == 0) && (!t118)) = true then
            some ((v34 == 0) && (!t118))
          else
            (if ((nextC x0 v36) == 32) = true then name_joint.f v35 else some default).bind fun t131 =>
            some (((((nextC x0 v36) == 32) && t131) && (v35 != 46)) && (v35 != 38)) : Option (Bool))).bind fun o128 =>
        if o128 = true then
          some (.inr (.inl (((v36 : Nat) : Int), 11)))
        else
          some (.inl ((IntKind.wrap .i64 (v34 + 1)), (nextC x0 v36), (nextP x0 v36)))
    else none
    else none
  else
    some (.inr (.inr (v34, v35)))
noncomputable def name_Check.r0 (x0 : Bs) (s : Int × Int × Nat) : Option ((Int × Int × Nat) ⊕ ((Int × Int) ⊕ (Int × Int))) := name_Check.b0 x0 s.1 s.2.1 s.2.2
noncomputable def name_Check.f (x0 : Bs) : Option (Int × Int) :=
  if (decide ((List.length x0 : Int) > 160)) = true then
    some (0, 2)
  else
    (loop (name_Check.r0 x0) (0, 32, 0)).bind fun o102 =>
    match o102 with
    | .inl r137 => some r137
    | .inr w101 =>
      if ((w101.1 == 0) || (w101.2 == 32)) = true then
        some ((List.length x0 : Int), 11)
      else
        some ((List.length x0 : Int), 0)
set_option maxRecDepth 100000 in
set_option maxHeartbeats 4000000 in
theorem name_Check.ok {x0 : Bs} {r : Int × Int} (h : name_Check.f x0 = some r) : Pm.Spec prog 36 [.imm (.val (.string (tx x0)))] (.tup [.imm (.val (.int .i64 r.1)), .imm (.val (.int .i64 r.2))]) [none] := by
 unfold name_Check.f at h; refine Pm.Spec.of_body Try.func36 rfl (by kernel_rfl) (Nat.le_of_ble_eq_true rfl) (Nat.le_of_ble_eq_true rfl) ?_; refine W.ghost (σ' := (mkSt [(0, some (.s x0))] [] 1000)) (Gives.entry (.c rfl .n) .n) ?_; refine W.seq ?_; refine W.pk ?_; (iterate 2 refine .a rfl rfl rfl rfl ?_); refine .nil ?_; (iterate 2 refine W.seq ?_); refine W.pk ?_; refine .m rfl rfl rfl rfl ?_; refine .v rfl rfl (O.lenS u9 rfl rfl) ?_; refine .v rfl rfl (OpL.binI rfl rfl rfl rfl) ?_; refine .nil ?_; refine W.cond rfl (fun q1 => ?_) (fun q1 => ?_)
 ·have h := ifT q1 h; refine W.seq ?_; refine W.pk ?_; (iterate 2 refine .a rfl rfl rfl rfl ?_); refine .nil ?_; refine W.ret ?_; cases h; exact leaves (.inr rfl) rfl (.tup _ _ _ _ (cC (.imm _) (cC (.imm _) .nil))) (cN .nil) rfl rfl
 ·have h := ifF q1 h; refine W.skip ?_; refine W.seq ?_; refine W.pk ?_; refine .a rfl rfl rfl rfl ?_; refine .nil ?_; refine W.seq ?_; refine W.pk ?_; refine .a rfl rfl rfl rfl ?_; refine .nil ?_; (iterate 2 refine W.seq ?_); refine W.pk ?_; refine .m rfl rfl rfl rfl ?_; refine .t rfl rfl (O.range u9 rfl rfl) ?_; refine .nil ?_; obtain ⟨o102, b103, z104⟩ := bnd1 h; refine W.fork2 (out := o102) (fun (w101 : Int × Int) => mkSt [(0, some (.s x0)), (4, some (.i w101.1)), (5, some (.imm (.val (.int .i32 w101.2))))] [] 1001) ?_ ?_
  ·clear h; refine W.block ?_; refine W.loopF (fun (s_ : Int × Int × Nat) => mkSt [(0, some (.s x0)), (4, some (.i s_.1)), (5, some (.imm (.val (.int .i32 s_.2.1)))), (12, some (.ptr 1000 0))] [(1000, some (.iter (tx x0) s_.2.2))] 1001) b103 (Gives.mkR [] (.e rfl rfl) (.r rfl rfl rfl .n) rfl rfl rfl) ?_; rintro ⟨v34, v35, v36⟩ s_ hr; have h : name_Check.b0 x0 v34 v35 v36 = some s_ := hr; unfold name_Check.b0 at h; refine W.seq ?_; refine W.pk ?_; refine .k rfl rfl (O.next rfl rfl rfl) ?_; refine .v rfl rfl (O.nx0 rfl rfl) ?_; refine .nil ?_; refine W.seq ?_; refine W.cond rfl (fun q105 => ?_) (fun q105 => ?_)
   ·have h := ifT q105 h; refine W.skip ?_; refine W.block ?_; refine W.seq ?_; obtain ⟨c106, h⟩ := chk h; obtain ⟨c107, h⟩ := chk h; refine W.pk ?_; refine .v rfl rfl (O.nx1 c106 rfl rfl) ?_; refine .v rfl rfl (O.nx2 c107 rfl rfl) ?_; (iterate 2 refine .a rfl rfl rfl rfl ?_); refine .nil ?_; refine W.seq ?_; refine W.block ?_; refine W.seq ?_; refine W.pk ?_; refine .m rfl rfl rfl rfl ?_; refine .v rfl rfl (OpL.binI rfl rfl rfl rfl) ?_; refine .a rfl rfl rfl rfl ?_; refine .nil ?_; refine W.cond rfl (fun q108 => ?_) (fun q108 => ?_)
    ·have h := ifT q108 h; refine W.seq ?_; refine W.pk ?_; refine .m rfl rfl rfl rfl ?_; (iterate 2 refine .a rfl rfl rfl rfl ?_); refine .nil ?_; refine W.ret ?_; cases h; refine rdR fun e_ => ?_; subst e_; have h := z104; dsimp only at h; refine fkR ?_; cases h; exact leaves (.inr rfl) rfl (.tup _ _ _ _ (cC (.imm _) (cC (.imm _) .nil))) (cN .nil) rfl rfl
    ·have h := ifF q108 h; refine W.seq ?_; obtain ⟨t109, b110, h⟩ := bnd1 h; obtain ⟨t111, b112, h⟩ := bnd1 h; obtain ⟨t113, b114, h⟩ := bnd1 h; refine W.fork (mkSt [(0, some (.s x0)), (4, some (.i v34)), (5, some (.imm (.val (.int .i32 v35)))), (6, some (.i ((v36 : Nat) : Int))), (7, some (.imm (.val (.int .i32 (nextC x0 v36))))), (12, some (.ptr 1000 0)), (21, some (.b (((!t109) && (!t111)) && (!t113))))] [(1000, some (.iter (tx x0) (nextP x0 v36)))] 1001) ?_ ?_
     ·refine W.cond rfl (fun q117 => ?_) (fun q117 => ?_)
      ·have h := ifT q117 h; refine W.seq ?_; refine W.pk ?_; refine .m rfl rfl rfl rfl ?_; (iterate 2 refine .a rfl rfl rfl rfl ?_); refine .nil ?_; refine W.ret ?_; cases h; refine rdR fun e_ => ?_; subst e_; have h := z104; dsimp only at h; refine fkR ?_; cases h; exact leaves (.inr rfl) rfl (.tup _ _ _ _ (cC (.imm _) (cC (.imm _) .nil))) (cN .nil) rfl rfl
      ·have h := ifF q117 h; (iterate 2 refine W.seq ?_); obtain ⟨t118, b119, h⟩ := bnd1 h; refine W.fork (mkSt [(0, some (.s x0)), (4, some (.i v34)), (5, some (.imm (.val (.int .i32 v35)))), (6, some (.i ((v36 : Nat) : Int))), (7, some (.imm (.val (.int .i32 (nextC x0 v36))))), (12, some (.ptr 1000 0)), (36, some (.b ((v34 == 0) && (!t118))))] [(1000, some (.iter (tx x0) (nextP x0 v36)))] 1001) ?_ ?_
       ·obtain ⟨o128, b129, h⟩ := bnd1 h; refine W.fork (mkSt [(0, some (.s x0)), (4, some (.i v34)), (6, some (.i ((v36 : Nat) : Int))), (7, some (.imm (.val (.int .i32 (nextC x0 v36))))), (12, some (.ptr 1000 0)), (36, some (.b o128))] [(1000, some (.iter (tx x0) (nextP x0 v36)))] 1001) ?_ ?_
        ·refine W.cond rfl (fun q136 => ?_) (fun q136 => ?_)
         ·have h := ifT q136 h; refine W.seq ?_; refine W.pk ?_; refine .m rfl rfl rfl rfl ?_; (iterate 2 refine .a rfl rfl rfl rfl ?_); refine .nil ?_; refine W.ret ?_; cases h; refine rdR fun e_ => ?_; subst e_; have h := z104; dsimp only at h; refine fkR ?_; cases h; exact leaves (.inr rfl) rfl (.tup _ _ _ _ (cC (.imm _) (cC (.imm _) .nil))) (cN .nil) rfl rfl
         ·have h := ifF q136 h; refine W.skip ?_; refine W.seq ?_; refine W.pk ?_; refine .m rfl rfl rfl rfl ?_; refine .a rfl rfl rfl rfl ?_; refine .nil ?_; refine W.pk ?_; refine .m rfl rfl rfl rfl ?_; refine .v rfl rfl (OpL.binI rfl rfl rfl rfl) ?_; refine .a rfl rfl rfl rfl ?_; refine .nil ?_; cases h; exact rdN (Gives.mkR [] (.e rfl rfl) (.r rfl rfl rfl .n) rfl rfl rfl)
        ·clear h; have h := b129; refine W.cond rfl (fun q130 => ?_) (fun q130 => ?_)
         ·have h := ifT q130 h; refine W.skip ?_; cases h; exact toN (Gives.mkR [] (.e rfl rfl) (.r rfl rfl rfl .n) rfl rfl rfl)
         ·have h := ifF q130 h; obtain ⟨t131, b132, h⟩ := bnd1 h; refine W.fork (mkSt [(0, some (.s x0)), (4, some (.i v34)), (6, some (.i ((v36 : Nat) : Int))), (7, some (.imm (.val (.int .i32 (nextC x0 v36))))), (12, some (.ptr 1000 0)), (36, some (.b (((((nextC x0 v36) == 32) && t131) && (v35 != 46)) && (v35 != 38))))] [(1000, some (.iter (tx x0) (nextP x0 v36)))] 1001) ?_ ?_
          ·cases h; exact toN (Gives.mkR [] (.e rfl rfl) (.r rfl rfl rfl .n) rfl rfl rfl)
          ·clear h; refine W.pk ?_; refine .m rfl rfl rfl rfl ?_; refine .v rfl rfl (OpL.binI rfl rfl rfl rfl) ?_; refine .m rfl rfl rfl rfl ?_; rcases tf ((nextC x0 v36) == 32) with g133 | g133
           ·refine .m rfl (met rfl rfl rfl g133) rfl rfl ?_; refine .call (.b t131) [] 0 (name_joint.ok ((if_pos (by simp only [g133, BL])).symm.trans b132)) rfl (met rfl rfl rfl g133) rfl ca58 rfl rfl (cC (.imm _) .nil) rfl rfl rfl rfl rfl ?_; refine .v rfl rfl (O.pickT g133 rfl rfl rfl) ?_; refine .m rfl rfl rfl rfl ?_; rcases tf t131 with g134 | g134
            ·refine .m rfl (met rfl rfl rfl g134) rfl rfl ?_; refine .v rfl (met rfl rfl rfl g134) (OpL.binI rfl rfl rfl rfl) ?_; refine .v rfl rfl (O.pickT g134 rfl rfl rfl) ?_; refine .m rfl rfl rfl rfl ?_; rcases tf (v35 != 46) with g135 | g135
             ·refine .m rfl (met rfl rfl rfl g135) rfl rfl ?_; refine .v rfl (met rfl rfl rfl g135) (OpL.binI rfl rfl rfl rfl) ?_; refine .v rfl rfl (O.pickT g135 rfl rfl rfl) ?_; refine .a rfl rfl rfl rfl ?_; refine .nil ?_; exact toN (Gives.mkR [] (.r rfl rfl (.r rfl rfl (.r rfl rfl (.r rfl rfl (.r rfl rfl (.c rfl (sbb (by first | (simp only [g133, g134, g135, BL]; done) | (repeat (first | rw [g133] | rw [g134] | rw [g135])) <;> simp only [BL])) rfl .n)))))) (.r rfl rfl rfl .n) rfl rfl rfl)
             ·(iterate 2 refine .x rfl (unmet rfl rfl rfl g135) ?_); refine .v rfl rfl (O.pickF g135 rfl rfl rfl) ?_; refine .a rfl rfl rfl rfl ?_; refine .nil ?_; exact toN (Gives.mkR [] (.r rfl rfl (.r rfl rfl (.r rfl rfl (.r rfl rfl (.r rfl rfl (.c rfl (sbb (by first | (simp only [g133, g134, g135, BL]; done) | (repeat (first | rw [g133] | rw [g134] | rw [g135])) <;> simp only [BL])) rfl .n)))))) (.r rfl rfl rfl .n) rfl rfl rfl)
            ·(iterate 2 refine .x rfl (unmet rfl rfl rfl g134) ?_); refine .v rfl rfl (O.pickF g134 rfl rfl rfl) ?_; refine .m rfl rfl rfl rfl ?_; (iterate 2 refine .x rfl (unmet rfl rfl rfl rfl) ?_); refine .v rfl rfl (O.pickF rfl rfl rfl rfl) ?_; refine .a rfl rfl rfl rfl ?_; refine .nil ?_; exact toN (Gives.mkR [] (.r rfl rfl (.r rfl rfl (.r rfl rfl (.r rfl rfl (.r rfl rfl (.c rfl (sbb (by first | (simp only [g133, g134, BL]; done) | (repeat (first | rw [g133] | rw [g134])) <;> simp only [BL])) rfl .n)))))) (.r rfl rfl rfl .n) rfl rfl rfl)
           ·(iterate 2 refine .x rfl (unmet rfl rfl rfl g133) ?_); refine .v rfl rfl (O.pickF g133 rfl rfl rfl) ?_; refine .m rfl rfl rfl rfl ?_; (iterate 2 refine .x rfl (unmet rfl rfl rfl rfl) ?_); refine .v rfl rfl (O.pickF rfl rfl rfl rfl) ?_; refine .m rfl rfl rfl rfl ?_; (iterate 2 refine .x rfl (unmet rfl rfl rfl rfl) ?_); refine .v rfl rfl (O.pickF rfl rfl rfl rfl) ?_; refine .a rfl rfl rfl rfl ?_; refine .nil ?_; exact toN (Gives.mkR [] (.r rfl rfl (.r rfl rfl (.r rfl rfl (.r rfl rfl (.r rfl rfl (.c rfl (sbb (by simp only [g133, BL])) rfl .n)))))) (.r rfl rfl rfl .n) rfl rfl rfl)
       ·clear h; refine W.pk ?_; refine .m rfl rfl rfl rfl ?_; refine .v rfl rfl (OpL.binI rfl rfl rfl rfl) ?_; refine .m rfl rfl rfl rfl ?_; rcases tf (v34 == 0) with g120 | g120
        ·refine .m rfl (met rfl rfl rfl g120) rfl rfl ?_; refine .call (.b t118) [] 0 (name_letter.ok ((if_pos (by simp only [g120, BL])).symm.trans b119)) rfl (met rfl rfl rfl g120) rfl ca56 rfl rfl (cC (.imm _) .nil) rfl rfl rfl rfl rfl ?_; refine .v rfl (met rfl rfl rfl g120) (OpL.unV rfl rfl rfl) ?_; refine .v rfl rfl (O.pickT g120 rfl rfl rfl) ?_; refine .a rfl rfl rfl rfl ?_; refine .nil ?_; exact toN (Gives.mkR [] (.r rfl rfl (.r rfl rfl (.r rfl rfl (.r rfl rfl (.r rfl rfl (.r rfl rfl (.c rfl (sbb (by simp only [g120, BL])) rfl .n))))))) (.r rfl rfl rfl .n) rfl rfl rfl)
        ·(iterate 3 refine .x rfl (unmet rfl rfl rfl g120) ?_); refine .v rfl rfl (O.pickF g120 rfl rfl rfl) ?_; refine .a rfl rfl rfl rfl ?_; refine .nil ?_; exact toN (Gives.mkR [] (.r rfl rfl (.r rfl rfl (.r rfl rfl (.r rfl rfl (.r rfl rfl (.r rfl rfl (.c rfl (sbb (by simp only [g120, BL])) rfl .n))))))) (.r rfl rfl rfl .n) rfl rfl rfl)
     ·clear h; refine W.pk ?_; refine .m rfl rfl rfl rfl ?_; refine .call (.b t109) [] 0 (name_letter.ok b110) rfl rfl rfl ca56 rfl rfl (cC (.imm _) .nil) rfl rfl rfl rfl rfl ?_; refine .v rfl rfl (OpL.unV rfl rfl rfl) ?_; refine .m rfl rfl rfl rfl ?_; rcases tf t109 with g115 | g115
      ·(iterate 3 refine .x rfl (unmet rfl rfl rfl (notT g115)) ?_); refine .v rfl rfl (O.pickF (notT g115) rfl rfl rfl) ?_; refine .m rfl rfl rfl rfl ?_; (iterate 3 refine .x rfl (unmet rfl rfl rfl rfl) ?_); refine .v rfl rfl (O.pickF rfl rfl rfl rfl) ?_; refine .a rfl rfl rfl rfl ?_; refine .nil ?_; exact toN (Gives.mkR [] (.r rfl rfl (.r rfl rfl (.r rfl rfl (.r rfl rfl (.r rfl rfl (.r rfl rfl (.c rfl (sbb (by simp only [g115, BL])) rfl .n))))))) (.r rfl rfl rfl .n) rfl rfl rfl)
      ·refine .m rfl (met rfl rfl rfl (notF g115)) rfl rfl ?_; refine .call (.b t111) [] 0 (name_digit.ok ((if_pos (by simp only [g115, BL])).symm.trans b112)) rfl (met rfl rfl rfl (notF g115)) rfl ca57 rfl rfl (cC (.imm _) .nil) rfl rfl rfl rfl rfl ?_; refine .v rfl (met rfl rfl rfl (notF g115)) (OpL.unV rfl rfl rfl) ?_; refine .v rfl rfl (O.pickT (notF g115) rfl rfl rfl) ?_; refine .m rfl rfl rfl rfl ?_; rcases tf t111 with g116 | g116
       ·(iterate 3 refine .x rfl (unmet rfl rfl rfl (notT g116)) ?_); refine .v rfl rfl (O.pickF (notT g116) rfl rfl rfl) ?_; refine .a rfl rfl rfl rfl ?_; refine .nil ?_; exact toN (Gives.mkR [] (.r rfl rfl (.r rfl rfl (.r rfl rfl (.r rfl rfl (.r rfl rfl (.r rfl rfl (.c rfl (sbb (by first | (simp only [g115, g116, BL]; done) | (repeat (first | rw [g115] | rw [g116])) <;> simp only [BL])) rfl .n))))))) (.r rfl rfl rfl .n) rfl rfl rfl)
       ·refine .m rfl (met rfl rfl rfl (notF g116)) rfl rfl ?_; refine .call (.b t113) [] 0 (name_joint.ok ((if_pos (by first | (simp only [g115, g116, BL]; done) | (repeat (first | rw [g115] | rw [g116])) <;> simp only [BL])).symm.trans b114)) rfl (met rfl rfl rfl (notF g116)) rfl ca58 rfl rfl (cC (.imm _) .nil) rfl rfl rfl rfl rfl ?_; refine .v rfl (met rfl rfl rfl (notF g116)) (OpL.unV rfl rfl rfl) ?_; refine .v rfl rfl (O.pickT (notF g116) rfl rfl rfl) ?_; refine .a rfl rfl rfl rfl ?_; refine .nil ?_; exact toN (Gives.mkR [] (.r rfl rfl (.r rfl rfl (.r rfl rfl (.r rfl rfl (.r rfl rfl (.r rfl rfl (.c rfl (sbb (by first | (simp only [g115, g116, BL]; done) | (repeat (first | rw [g115] | rw [g116])) <;> simp only [BL])) rfl .n))))))) (.r rfl rfl rfl .n) rfl rfl rfl)
   ·have h := ifF q105 h; refine W.exit ?_; cases h; refine rdX fun e_ => ?_; subst e_; (repeat with_reducible refine thru ?_); refine hit ?_; exact fkN (Gives.mkR [] (.e rfl rfl) .n rfl rfl rfl)
  ·intro w101 e_; subst e_; clear h; have h := z104; dsimp only at h; (iterate 2 refine W.seq ?_); refine W.fork (mkSt [(0, some (.s x0)), (67, some (.b ((w101.1 == 0) || (w101.2 == 32))))] [] 1001) ?_ ?_
   ·refine W.cond rfl (fun q139 => ?_) (fun q139 => ?_)
    ·have h := ifT q139 h; refine W.seq ?_; refine W.pk ?_; refine .m rfl rfl rfl rfl ?_; refine .v rfl rfl (O.lenS u9 rfl rfl) ?_; (iterate 2 refine .a rfl rfl rfl rfl ?_); refine .nil ?_; refine W.ret ?_; cases h; exact leaves (.inr rfl) rfl (.tup _ _ _ _ (cC (.imm _) (cC (.imm _) .nil))) (cN .nil) rfl rfl
    ·have h := ifF q139 h; refine W.skip ?_; refine W.seq ?_; refine W.pk ?_; refine .m rfl rfl rfl rfl ?_; refine .v rfl rfl (O.lenS u9 rfl rfl) ?_; (iterate 2 refine .a rfl rfl rfl rfl ?_); refine .nil ?_; refine W.ret ?_; cases h; exact leaves (.inr rfl) rfl (.tup _ _ _ _ (cC (.imm _) (cC (.imm _) .nil))) (cN .nil) rfl rfl
   ·clear h; refine W.pk ?_; refine .m rfl rfl rfl rfl ?_; refine .v rfl rfl (OpL.binI rfl rfl rfl rfl) ?_; refine .m rfl rfl rfl rfl ?_; rcases tf (w101.1 == 0) with g138 | g138
    ·(iterate 2 refine .x rfl (unmet rfl rfl rfl g138) ?_); refine .v rfl rfl (O.pickT g138 rfl rfl rfl) ?_; refine .nil ?_; exact toN (Gives.mkR [] (.r rfl rfl (.c rfl (sbb (by simp only [g138, BL])) rfl .n)) .n rfl rfl rfl)
    ·refine .m rfl (met rfl rfl rfl g138) rfl rfl ?_; refine .v rfl (met rfl rfl rfl g138) (OpL.binI rfl rfl rfl rfl) ?_; refine .v rfl rfl (O.pickF g138 rfl rfl rfl) ?_; refine .nil ?_; exact toN (Gives.mkR [] (.r rfl rfl (.c rfl (sbb (by simp only [g138, BL])) rfl .n)) .n rfl rfl rfl)

noncomputable def msg_member.f (x0 : Int) : Option (Bool) :=
  some ((decide (x0 ≥ 1)) && (decide (x0 ≤ 32)))
set_option maxRecDepth 100000 in
set_option maxHeartbeats 4000000 in
theorem msg_member.ok {x0 : Int} {r : Bool} (h : msg_member.f x0 = some r) : Pm.Spec prog 37 [.imm (.val (.int .i64 x0))] (.imm (.val (.bool r))) [none] := by
 unfold msg_member.f at h; refine Pm.Spec.of_body Try.func37 rfl (by kernel_rfl) (Nat.le_of_ble_eq_true rfl) (Nat.le_of_ble_eq_true rfl) ?_; refine W.ghost (σ' := (mkSt [(0, some (.i x0))] [] 1000)) (Gives.entry (.c rfl .n) .n) ?_; refine W.seq ?_; refine W.pk ?_; refine .a rfl rfl rfl rfl ?_; refine .nil ?_; refine W.seq ?_; refine W.fork (mkSt [(2, some (.b ((decide (x0 ≥ 1)) && (decide (x0 ≤ 32)))))] [] 1000) ?_ ?_
 ·refine W.ret ?_; cases h; exact leaves (.inr rfl) rfl (.imm _) (cN .nil) rfl rfl
 ·clear h; refine W.pk ?_; refine .m rfl rfl rfl rfl ?_; refine .v rfl rfl (OpL.binI rfl rfl rfl rfl) ?_; refine .m rfl rfl rfl rfl ?_; rcases tf (decide (x0 ≥ 1)) with g1 | g1
  ·refine .m rfl (met rfl rfl rfl g1) rfl rfl ?_; refine .v rfl (met rfl rfl rfl g1) (OpL.binI rfl rfl rfl rfl) ?_; refine .v rfl rfl (O.pickT g1 rfl rfl rfl) ?_; refine .a rfl rfl rfl rfl ?_; refine .nil ?_; exact toN (Gives.mkR [] (.c rfl (sbb (by simp only [g1, BL])) rfl .n) .n rfl rfl rfl)
  ·(iterate 2 refine .x rfl (unmet rfl rfl rfl g1) ?_); refine .v rfl rfl (O.pickF g1 rfl rfl rfl) ?_; refine .a rfl rfl rfl rfl ?_; refine .nil ?_; exact toN (Gives.mkR [] (.c rfl (sbb (by simp only [g1, BL])) rfl .n) .n rfl rfl rfl)

noncomputable def isin_digit.f (x0 : Int) : Option (Bool) :=
  some ((decide (x0 ≥ 48)) && (decide (x0 ≤ 57)))
set_option maxRecDepth 100000 in
set_option maxHeartbeats 4000000 in
theorem isin_digit.ok {x0 : Int} {r : Bool} (h : isin_digit.f x0 = some r) : Pm.Spec prog 60 [.imm (.val (.int .u8 x0))] (.imm (.val (.bool r))) [none] := by
 unfold isin_digit.f at h; refine Pm.Spec.of_body Try.func60 rfl (by kernel_rfl) (Nat.le_of_ble_eq_true rfl) (Nat.le_of_ble_eq_true rfl) ?_; refine W.ghost (σ' := (mkSt [(0, some (.imm (.val (.int .u8 x0))))] [] 1000)) (Gives.entry (.c rfl .n) .n) ?_; refine W.seq ?_; refine W.pk ?_; refine .a rfl rfl rfl rfl ?_; refine .nil ?_; refine W.seq ?_; refine W.fork (mkSt [(2, some (.b ((decide (x0 ≥ 48)) && (decide (x0 ≤ 57)))))] [] 1000) ?_ ?_
 ·refine W.ret ?_; cases h; exact leaves (.inr rfl) rfl (.imm _) (cN .nil) rfl rfl
 ·clear h; refine W.pk ?_; refine .m rfl rfl rfl rfl ?_; refine .v rfl rfl (OpL.binI rfl rfl rfl rfl) ?_; refine .m rfl rfl rfl rfl ?_; rcases tf (decide (x0 ≥ 48)) with g1 | g1
  ·refine .m rfl (met rfl rfl rfl g1) rfl rfl ?_; refine .v rfl (met rfl rfl rfl g1) (OpL.binI rfl rfl rfl rfl) ?_; refine .v rfl rfl (O.pickT g1 rfl rfl rfl) ?_; refine .a rfl rfl rfl rfl ?_; refine .nil ?_; exact toN (Gives.mkR [] (.c rfl (sbb (by simp only [g1, BL])) rfl .n) .n rfl rfl rfl)
  ·(iterate 2 refine .x rfl (unmet rfl rfl rfl g1) ?_); refine .v rfl rfl (O.pickF g1 rfl rfl rfl) ?_; refine .a rfl rfl rfl rfl ?_; refine .nil ?_; exact toN (Gives.mkR [] (.c rfl (sbb (by simp only [g1, BL])) rfl .n) .n rfl rfl rfl)

noncomputable def isin_upper.f (x0 : Int) : Option (Bool) :=
  some ((decide (x0 ≥ 65)) && (decide (x0 ≤ 90)))
set_option maxRecDepth 100000 in
set_option maxHeartbeats 4000000 in
theorem isin_upper.ok {x0 : Int} {r : Bool} (h : isin_upper.f x0 = some r) : Pm.Spec prog 72 [.imm (.val (.int .u8 x0))] (.imm (.val (.bool r))) [none] := by
 unfold isin_upper.f at h; refine Pm.Spec.of_body Try.func72 rfl (by kernel_rfl) (Nat.le_of_ble_eq_true rfl) (Nat.le_of_ble_eq_true rfl) ?_; refine W.ghost (σ' := (mkSt [(0, some (.imm (.val (.int .u8 x0))))] [] 1000)) (Gives.entry (.c rfl .n) .n) ?_; refine W.seq ?_; refine W.pk ?_; refine .a rfl rfl rfl rfl ?_; refine .nil ?_; refine W.seq ?_; refine W.fork (mkSt [(2, some (.b ((decide (x0 ≥ 65)) && (decide (x0 ≤ 90)))))] [] 1000) ?_ ?_
 ·refine W.ret ?_; cases h; exact leaves (.inr rfl) rfl (.imm _) (cN .nil) rfl rfl
 ·clear h; refine W.pk ?_; refine .m rfl rfl rfl rfl ?_; refine .v rfl rfl (OpL.binI rfl rfl rfl rfl) ?_; refine .m rfl rfl rfl rfl ?_; rcases tf (decide (x0 ≥ 65)) with g1 | g1
  ·refine .m rfl (met rfl rfl rfl g1) rfl rfl ?_; refine .v rfl (met rfl rfl rfl g1) (OpL.binI rfl rfl rfl rfl) ?_; refine .v rfl rfl (O.pickT g1 rfl rfl rfl) ?_; refine .a rfl rfl rfl rfl ?_; refine .nil ?_; exact toN (Gives.mkR [] (.c rfl (sbb (by simp only [g1, BL])) rfl .n) .n rfl rfl rfl)
  ·(iterate 2 refine .x rfl (unmet rfl rfl rfl g1) ?_); refine .v rfl rfl (O.pickF g1 rfl rfl rfl) ?_; refine .a rfl rfl rfl rfl ?_; refine .nil ?_; exact toN (Gives.mkR [] (.c rfl (sbb (by simp only [g1, BL])) rfl .n) .n rfl rfl rfl)

noncomputable def isin_shape.b0 (x0 : Bs) (v11 : Int) : Option (Int ⊕ (Bool ⊕ Unit)) :=
  if (decide (v11 < (List.length x0 : Int))) = true then
    if (0 : Int) ≤ v11 ∧ v11 < (List.length x0 : Int) then
    (isin_upper.f (byte x0 v11)).bind fun t38 =>
    if ((!t38) = true ∧ (decide (v11 < 2)) = false → (0 : Int) ≤ v11 ∧ v11 < (List.length x0 : Int)) then
    (if (!t38) = true ∧ (decide (v11 < 2)) = false then isin_digit.f (byte x0 v11) else some default).bind fun t41 =>
    if ((!t38) && ((decide (v11 < 2)) || (!t41))) = true then
      some (.inr (.inl false))
    else
      some (.inl (IntKind.wrap .i64 (v11 + 1)))
    else none
    else none
  else
    some (.inr (.inr ()))
noncomputable def isin_shape.r0 (x0 : Bs) (s : Int) : Option (Int ⊕ (Bool ⊕ Unit)) := isin_shape.b0 x0 s
noncomputable def isin_shape.f (x0 : Bs) : Option (Bool) :=
  (loop (isin_shape.r0 x0) 0).bind fun o33 =>
  match o33 with
  | .inl r46 => some r46
  | .inr w32 =>
    some ((List.length x0 : Int) == 11)
set_option maxRecDepth 100000 in
set_option maxHeartbeats 4000000 in
theorem isin_shape.ok {x0 : Bs} {r : Bool} (h : isin_shape.f x0 = some r) : Pm.Spec prog 66 [.imm (.val (.string (tx x0)))] (.imm (.val (.bool r))) [none] := by
 unfold isin_shape.f at h; refine Pm.Spec.of_body Try.func66 rfl (by kernel_rfl) (Nat.le_of_ble_eq_true rfl) (Nat.le_of_ble_eq_true rfl) ?_; refine W.ghost (σ' := (mkSt [(0, some (.s x0))] [] 1000)) (Gives.entry (.c rfl .n) .n) ?_; refine W.seq ?_; refine W.pk ?_; refine .a rfl rfl rfl rfl ?_; refine .nil ?_; (iterate 2 refine W.seq ?_); refine W.pk ?_; refine .m rfl rfl rfl rfl ?_; refine .v rfl rfl (O.lenS u9 rfl rfl) ?_; refine .m rfl rfl rfl rfl ?_; refine .nil ?_; obtain ⟨o33, b34, z35⟩ := bnd1 h; refine W.fork2 (out := o33) (fun (w32 : Unit) => mkSt [(0, some (.s x0))] [] 1000) ?_ ?_
 ·clear h; refine W.block ?_; refine W.loopF (fun (s_ : Int) => mkSt [(0, some (.s x0)), (5, some (.i (List.length x0 : Int))), (6, some (.i s_))] [] 1000) b34 (Gives.mkR [] (.e rfl rfl) .n rfl rfl rfl) ?_; rintro v11 s_ hr; have h : isin_shape.b0 x0 v11 = some s_ := hr; unfold isin_shape.b0 at h; refine W.seq ?_; refine W.pk ?_; refine .v rfl rfl (OpL.binI rfl rfl rfl rfl) ?_; refine .nil ?_; refine W.seq ?_; refine W.cond rfl (fun q36 => ?_) (fun q36 => ?_)
  ·have h := ifT q36 h; refine W.skip ?_; refine W.seq ?_; refine W.block ?_; refine W.seq ?_; refine W.pk ?_; refine .m rfl rfl rfl rfl ?_; refine .a rfl rfl rfl rfl ?_; refine .nil ?_; refine W.seq ?_; obtain ⟨c37, h⟩ := chk h; obtain ⟨t38, b39, h⟩ := bnd1 h; obtain ⟨c40, h⟩ := chk h; obtain ⟨t41, b42, h⟩ := bnd1 h; refine W.fork (mkSt [(0, some (.s x0)), (5, some (.i (List.length x0 : Int))), (6, some (.i v11)), (24, some (.b ((!t38) && ((decide (v11 < 2)) || (!t41)))))] [] 1000) ?_ ?_
   ·refine W.cond rfl (fun q45 => ?_) (fun q45 => ?_)
    ·have h := ifT q45 h; refine W.seq ?_; refine W.pk ?_; refine .a rfl rfl rfl rfl ?_; refine .nil ?_; refine W.ret ?_; cases h; refine rdR fun e_ => ?_; subst e_; have h := z35; dsimp only at h; refine fkR ?_; cases h; exact leaves (.inr rfl) rfl (.imm _) (cN .nil) rfl rfl
    ·have h := ifF q45 h; refine W.skip ?_; refine W.pk ?_; refine .v rfl rfl (OpL.binI rfl rfl rfl rfl) ?_; refine .m rfl rfl rfl rfl ?_; refine .nil ?_; cases h; exact rdN (Gives.mkR [] (.e rfl rfl) .n rfl rfl rfl)
   ·clear h; refine W.pk ?_; (iterate 2 refine .m rfl rfl rfl rfl ?_); refine .v rfl rfl (O.idxS u9 c37 rfl rfl rfl) ?_; refine .call (.b t38) [] 0 (isin_upper.ok b39) rfl rfl rfl ca72 rfl rfl (cC (.imm _) .nil) rfl rfl rfl rfl rfl ?_; refine .v rfl rfl (OpL.unV rfl rfl rfl) ?_; refine .m rfl rfl rfl rfl ?_; rcases tf t38 with g43 | g43
    ·(iterate 3 refine .x rfl (unmet rfl rfl rfl (notT g43)) ?_); (iterate 5 refine .x rfl (unmetU rfl rfl rfl) ?_); refine .x rfl (unmet rfl rfl rfl (notT g43)) ?_; refine .v rfl rfl (O.pickF (notT g43) rfl rfl rfl) ?_; refine .nil ?_; exact toN (Gives.mkR [] (.r rfl rfl (.r rfl rfl (.r rfl rfl (.c rfl (sbb (by simp only [g43, BL])) rfl .n)))) .n rfl rfl rfl)
    ·refine .m rfl (met rfl rfl rfl (notF g43)) rfl rfl ?_; refine .v rfl (met rfl rfl rfl (notF g43)) (OpL.binI rfl rfl rfl rfl) ?_; refine .m rfl (met rfl rfl rfl (notF g43)) rfl rfl ?_; rcases tf (decide (v11 < 2)) with g44 | g44
     ·(iterate 5 refine .x rfl (unmet rfl rfl rfl g44) ?_); refine .v rfl (met rfl rfl rfl (notF g43)) (O.pickT g44 rfl rfl rfl) ?_; refine .v rfl rfl (O.pickT (notF g43) rfl rfl rfl) ?_; refine .nil ?_; exact toN (Gives.mkR [] (.r rfl rfl (.r rfl rfl (.r rfl rfl (.c rfl (sbb (by first | (simp only [g43, g44, BL]; done) | (repeat (first | rw [g43] | rw [g44])) <;> simp only [BL])) rfl .n)))) .n rfl rfl rfl)
     ·(iterate 2 refine .m rfl (met rfl rfl rfl g44) rfl rfl ?_); refine .v rfl (met rfl rfl rfl g44) (O.idxS u9 (c40 ⟨(by first | (simp only [g43, g44, BL]; done) | (repeat (first | rw [g43] | rw [g44])) <;> simp only [BL]), (by first | (simp only [g43, g44, BL]; done) | (repeat (first | rw [g43] | rw [g44])) <;> simp only [BL])⟩) rfl rfl rfl) ?_; refine .call (.b t41) [] 0 (isin_digit.ok ((if_pos ⟨(by first | (simp only [g43, g44, BL]; done) | (repeat (first | rw [g43] | rw [g44])) <;> simp only [BL]), (by first | (simp only [g43, g44, BL]; done) | (repeat (first | rw [g43] | rw [g44])) <;> simp only [BL])⟩).symm.trans b42)) rfl (met rfl rfl rfl g44) rfl ca60 rfl rfl (cC (.imm _) .nil) rfl rfl rfl rfl rfl ?_; refine .v rfl (met rfl rfl rfl g44) (OpL.unV rfl rfl rfl) ?_; refine .v rfl (met rfl rfl rfl (notF g43)) (O.pickF g44 rfl rfl rfl) ?_; refine .v rfl rfl (O.pickT (notF g43) rfl rfl rfl) ?_; refine .nil ?_; exact toN (Gives.mkR [] (.r rfl rfl (.r rfl rfl (.r rfl rfl (.c rfl (sbb (by first | (simp only [g43, g44, BL]; done) | (repeat (first | rw [g43] | rw [g44])) <;> simp only [BL])) rfl .n)))) .n rfl rfl rfl)
  ·have h := ifF q36 h; refine W.exit ?_; cases h; refine rdX fun e_ => ?_; subst e_; (repeat with_reducible refine thru ?_); refine hit ?_; exact fkN (Gives.mkR [] (.r rfl rfl .n) .n rfl rfl rfl)
 ·intro w32 e_; subst e_; clear h; have h := z35; dsimp only at h; refine W.seq ?_; refine W.pk ?_; refine .m rfl rfl rfl rfl ?_; refine .v rfl rfl (O.lenS u9 rfl rfl) ?_; refine .v rfl rfl (OpL.binI rfl rfl rfl rfl) ?_; refine .a rfl rfl rfl rfl ?_; refine .nil ?_; refine W.ret ?_; cases h; exact leaves (.inr rfl) rfl (.imm _) (cN .nil) rfl rfl

noncomputable def isin_total_1.f (x0 : Int) (x1 : Bool) (x2 : Int) : Option (Bool × Int) :=
  if x1 = true then
    some ((!x1), (IntKind.wrap .i64 (x2 + (IntKind.wrap .i64 ((IntKind.wrap .i64 (Int.tdiv (IntKind.wrap .i64 (x0 * 2)) 10)) + (Int.tmod (IntKind.wrap .i64 (x0 * 2)) 10))))))
  else
    some ((!x1), (IntKind.wrap .i64 (x2 + x0)))
set_option maxRecDepth 100000 in
set_option maxHeartbeats 4000000 in
theorem isin_total_1.ok {x0 : Int} {x1 : Bool} {x2 : Int} {r : Bool × Int} (h : isin_total_1.f x0 x1 x2 = some r) : Pm.Spec prog 73 [.imm (.val (.int .i64 x0)), .xbox [.imm (.val (.bool x1))], .xbox [.imm (.val (.int .i64 x2))]] (.tup []) [none, some (.xbox [.imm (.val (.bool r.1))]), some (.xbox [.imm (.val (.int .i64 r.2))])] := by
 unfold isin_total_1.f at h; refine Pm.Spec.of_body Try.func73 rfl (by kernel_rfl) (Nat.le_of_ble_eq_true rfl) (Nat.le_of_ble_eq_true rfl) ?_; refine W.ghost (σ' := (mkSt [(0, some (.i x0)), (1, some (.ptr 0 0)), (2, some (.ptr 1 0))] [(0, some (.box [.b x1])), (1, some (.box [.i x2]))] 1000)) (Gives.entry (.c rfl (.c rfl (.c rfl .n))) (.c rfl (.c rfl .n))) ?_; (iterate 2 refine W.seq ?_); refine W.pk ?_; refine .v rfl rfl (O.ld (y := .b x1) ty4 rfl rfl rfl) ?_; refine .nil ?_; refine W.cond rfl (fun q1 => ?_) (fun q1 => ?_)
 ·have h := ifT q1 h; refine W.seq ?_; refine W.pk ?_; refine .m rfl rfl rfl rfl ?_; refine .v rfl rfl (OpL.binI rfl rfl rfl rfl) ?_; refine .a rfl rfl rfl rfl ?_; refine .nil ?_; refine W.pk ?_; refine .m rfl rfl rfl rfl ?_; refine .v rfl rfl (O.quo rfl rfl rfl (by decide)) ?_; refine .m rfl rfl rfl rfl ?_; refine .v rfl rfl (O.rem rfl rfl rfl (by decide)) ?_; refine .v rfl rfl (OpL.binI rfl rfl rfl rfl) ?_; refine .a rfl rfl rfl rfl ?_; refine .nil ?_; refine W.seq ?_; refine W.pk ?_; refine .v rfl rfl (O.ld (y := .i x2) ty3 rfl rfl rfl) ?_; refine .m rfl rfl rfl rfl ?_; refine .v rfl rfl (OpL.binI rfl rfl rfl rfl) ?_; refine .s rfl rfl (O.st ty3 rfl rfl rfl rfl rfl rfl rfl rfl rfl rfl (all' := [.i (IntKind.wrap .i64 (x2 + (IntKind.wrap .i64 ((IntKind.wrap .i64 (Int.tdiv (IntKind.wrap .i64 (x0 * 2)) 10)) + (Int.tmod (IntKind.wrap .i64 (x0 * 2)) 10)))))]) rfl) ?_; refine .nil ?_; refine W.pk ?_; refine .v rfl rfl (O.ld (y := .b x1) ty4 rfl rfl rfl) ?_; refine .v rfl rfl (OpL.unV rfl rfl rfl) ?_; refine .s rfl rfl (O.st ty4 rfl rfl rfl rfl rfl rfl rfl rfl rfl rfl (all' := [.b (!x1)]) rfl) ?_; refine .nil ?_; cases h; exact leaves (.inl rfl) rfl (.tup _ _ _ _ .nil) (cN (cS (.ptr _ _ _ _ _ rfl (cC (.imm _) .nil)) (cS (.ptr _ _ _ _ _ rfl (cC (.imm _) .nil)) .nil))) rfl rfl
 ·have h := ifF q1 h; refine W.skip ?_; refine W.seq ?_; refine W.pk ?_; refine .v rfl rfl (O.ld (y := .i x2) ty3 rfl rfl rfl) ?_; refine .m rfl rfl rfl rfl ?_; refine .v rfl rfl (OpL.binI rfl rfl rfl rfl) ?_; refine .s rfl rfl (O.st ty3 rfl rfl rfl rfl rfl rfl rfl rfl rfl rfl (all' := [.i (IntKind.wrap .i64 (x2 + x0))]) rfl) ?_; refine .nil ?_; refine W.pk ?_; refine .v rfl rfl (O.ld (y := .b x1) ty4 rfl rfl rfl) ?_; refine .v rfl rfl (OpL.unV rfl rfl rfl) ?_; refine .s rfl rfl (O.st ty4 rfl rfl rfl rfl rfl rfl rfl rfl rfl rfl (all' := [.b (!x1)]) rfl) ?_; refine .nil ?_; cases h; exact leaves (.inl rfl) rfl (.tup _ _ _ _ .nil) (cN (cS (.ptr _ _ _ _ _ rfl (cC (.imm _) .nil)) (cS (.ptr _ _ _ _ _ rfl (cC (.imm _) .nil)) .nil))) rfl rfl

noncomputable def isin_total.b0 (x0 : Bs) (v14 : Int) (v15 : Bool) (v16 : Int) : Option ((Int × Bool × Int) ⊕ Int) :=
  if (decide (v14 ≥ 0)) = true then
    if (0 : Int) ≤ v14 ∧ v14 < (List.length x0 : Int) then
    (isin_digit.f (byte x0 v14)).bind fun t49 =>
    if t49 = true then
      if (0 : Int) ≤ v14 ∧ v14 < (List.length x0 : Int) then
      (isin_total_1.f (IntKind.wrap .i64 (IntKind.wrap .u8 ((byte x0 v14) - 48))) v15 v16).bind fun t53 =>
      some (.inl ((IntKind.wrap .i64 (v14 - 1)), t53.1, t53.2))
      else none
    else
      if (0 : Int) ≤ v14 ∧ v14 < (List.length x0 : Int) then
      (isin_total_1.f (Int.tmod (IntKind.wrap .i64 ((IntKind.wrap .i64 (IntKind.wrap .u8 ((byte x0 v14) - 65))) + 10)) 10) v15 v16).bind fun t56 =>
      (isin_total_1.f (IntKind.wrap .i64 (Int.tdiv (IntKind.wrap .i64 ((IntKind.wrap .i64 (IntKind.wrap .u8 ((byte x0 v14) - 65))) + 10)) 10)) t56.1 t56.2).bind fun t58 =>
      some (.inl ((IntKind.wrap .i64 (v14 - 1)), t58.1, t58.2))
      else none
    else none
  else
    some (.inr v16)
noncomputable def isin_total.r0 (x0 : Bs) (s : Int × Bool × Int) : Option ((Int × Bool × Int) ⊕ Int) := isin_total.b0 x0 s.1 s.2.1 s.2.2
noncomputable def isin_total.f (x0 : Bs) (x1 : Bool) : Option (Int) :=
  (loop (isin_total.r0 x0) ((IntKind.wrap .i64 ((List.length x0 : Int) - 1)), x1, 0)).bind fun o44 =>
  some o44
set_option maxRecDepth 100000 in
set_option maxHeartbeats 4000000 in
theorem isin_total.ok {x0 : Bs} {x1 : Bool} {r : Int} (h : isin_total.f x0 x1 = some r) : Pm.Spec prog 67 [.imm (.val (.string (tx x0))), .imm (.val (.bool x1))] (.imm (.val (.int .i64 r))) [none, none] := by
 unfold isin_total.f at h; refine Pm.Spec.of_body Try.func67 rfl (by kernel_rfl) (Nat.le_of_ble_eq_true rfl) (Nat.le_of_ble_eq_true rfl) ?_; refine W.ghost (σ' := (mkSt [(0, some (.s x0)), (1, some (.b x1))] [] 1000)) (Gives.entry (.c rfl (.c rfl .n)) .n) ?_; refine W.seq ?_; refine W.pk ?_; refine .t rfl rfl (O.box rfl rfl rfl rfl rfl) ?_; refine .a rfl rfl rfl rfl ?_; refine .nil ?_; refine W.seq ?_; refine W.pk ?_; refine .t rfl rfl (O.alloc z3 rfl) ?_; refine .s rfl rfl (O.st ty3 rfl rfl rfl rfl rfl rfl rfl rfl rfl rfl (all' := [.i 0]) rfl) ?_; refine .nil ?_; refine W.seq ?_; refine W.pk ?_; refine .v rfl rfl (OpL.mkfn rfl rfl) ?_; refine .a rfl rfl rfl rfl ?_; refine .nil ?_; (iterate 2 refine W.seq ?_); refine W.pk ?_; refine .m rfl rfl rfl rfl ?_; refine .v rfl rfl (O.lenS u9 rfl rfl) ?_; refine .v rfl rfl (OpL.binI rfl rfl rfl rfl) ?_; refine .a rfl rfl rfl rfl ?_; refine .nil ?_; obtain ⟨o44, b45, h⟩ := bnd1 h; refine W.fork (mkSt [(5, some (.ptr 1001 0))] [(1001, some (.box [.i o44]))] 1002) ?_ ?_
 ·refine W.seq ?_; refine W.pk ?_; refine .v rfl rfl (O.ld (y := .i o44) ty3 rfl rfl rfl) ?_; refine .a rfl rfl rfl rfl ?_; refine .nil ?_; refine W.ret ?_; cases h; exact leaves (.inr rfl) rfl (.imm _) (cN (cN .nil)) rfl rfl
 ·clear h; refine W.block ?_; refine W.loopF (fun (s_ : Int × Bool × Int) => mkSt [(0, some (.s x0)), (5, some (.ptr 1001 0)), (6, some (.fn 73 [.ptr 1000 0, .ptr 1001 0])), (7, some (.i s_.1))] [(1000, some (.box [.b s_.2.1])), (1001, some (.box [.i s_.2.2]))] 1002) b45 (Gives.mkR [] (.e rfl rfl) (.e rfl rfl) rfl rfl rfl) ?_; rintro ⟨v14, v15, v16⟩ s_ hr; have h : isin_total.b0 x0 v14 v15 v16 = some s_ := hr; unfold isin_total.b0 at h; (iterate 2 refine W.seq ?_); refine W.pk ?_; refine .m rfl rfl rfl rfl ?_; refine .v rfl rfl (OpL.binI rfl rfl rfl rfl) ?_; refine .nil ?_; refine W.cond rfl (fun q47 => ?_) (fun q47 => ?_)
  ·have h := ifT q47 h; refine W.skip ?_; refine W.seq ?_; refine W.block ?_; (iterate 2 refine W.seq ?_); obtain ⟨c48, h⟩ := chk h; obtain ⟨t49, b50, h⟩ := bnd1 h; refine W.pk ?_; (iterate 2 refine .m rfl rfl rfl rfl ?_); refine .v rfl rfl (O.idxS u9 c48 rfl rfl rfl) ?_; refine .call (.b t49) [] 0 (isin_digit.ok b50) rfl rfl rfl ca60 rfl rfl (cC (.imm _) .nil) rfl rfl rfl rfl rfl ?_; refine .nil ?_; refine W.cond rfl (fun q51 => ?_) (fun q51 => ?_)
   ·have h := ifT q51 h; refine W.seq ?_; obtain ⟨c52, h⟩ := chk h; obtain ⟨t53, b54, h⟩ := bnd1 h; refine W.pk ?_; (iterate 3 refine .m rfl rfl rfl rfl ?_); refine .v rfl rfl (O.idxS u9 c52 rfl rfl rfl) ?_; refine .v rfl rfl (OpL.binI rfl rfl rfl rfl) ?_; refine .v rfl rfl (O.conv h5 u3 rfl rfl) ?_; refine .call (.tup []) [(1000, some (.box [.b t53.1])), (1001, some (.box [.i t53.2])), (1000, none), (1001, none)] 0 (isin_total_1.ok b54) rfl rfl rfl ca73 rfl rfl (cC (.imm _) (cC (.ptr _ _ _ _ _ rfl (cC (.imm _) .nil)) (cC (.ptr _ _ _ _ _ rfl (cC (.imm _) .nil)) .nil))) rfl rfl rfl rfl rfl ?_; refine .nil ?_; refine W.exit ?_; (repeat with_reducible refine thru ?_); refine hit ?_; refine W.pk ?_; refine .m rfl rfl rfl rfl ?_; refine .v rfl rfl (OpL.binI rfl rfl rfl rfl) ?_; refine .a rfl rfl rfl rfl ?_; refine .nil ?_; cases h; exact rdN (Gives.mkR [] (.e rfl rfl) (.e rfl rfl) rfl rfl rfl)
   ·have h := ifF q51 h; refine W.skip ?_; refine W.seq ?_; obtain ⟨c55, h⟩ := chk h; refine W.pk ?_; (iterate 2 refine .m rfl rfl rfl rfl ?_); refine .v rfl rfl (O.idxS u9 c55 rfl rfl rfl) ?_; refine .v rfl rfl (OpL.binI rfl rfl rfl rfl) ?_; refine .v rfl rfl (O.conv h5 u3 rfl rfl) ?_; refine .v rfl rfl (OpL.binI rfl rfl rfl rfl) ?_; refine .a rfl rfl rfl rfl ?_; refine .nil ?_; refine W.seq ?_; obtain ⟨t56, b57, h⟩ := bnd1 h; refine W.pk ?_; (iterate 2 refine .m rfl rfl rfl rfl ?_); refine .v rfl rfl (O.rem rfl rfl rfl (by decide)) ?_; refine .call (.tup []) [(1000, some (.box [.b t56.1])), (1001, some (.box [.i t56.2])), (1000, none), (1001, none)] 0 (isin_total_1.ok b57) rfl rfl rfl ca73 rfl rfl (cC (.imm _) (cC (.ptr _ _ _ _ _ rfl (cC (.imm _) .nil)) (cC (.ptr _ _ _ _ _ rfl (cC (.imm _) .nil)) .nil))) rfl rfl rfl rfl rfl ?_; refine .nil ?_; obtain ⟨t58, b59, h⟩ := bnd1 h; refine W.pk ?_; (iterate 2 refine .m rfl rfl rfl rfl ?_); refine .v rfl rfl (O.quo rfl rfl rfl (by decide)) ?_; refine .call (.tup []) [(1000, some (.box [.b t58.1])), (1001, some (.box [.i t58.2])), (1000, none), (1001, none)] 0 (isin_total_1.ok b59) rfl rfl rfl ca73 rfl rfl (cC (.imm _) (cC (.ptr _ _ _ _ _ rfl (cC (.imm _) .nil)) (cC (.ptr _ _ _ _ _ rfl (cC (.imm _) .nil)) .nil))) rfl rfl rfl rfl rfl ?_; refine .nil ?_; refine W.pk ?_; refine .m rfl rfl rfl rfl ?_; refine .v rfl rfl (OpL.binI rfl rfl rfl rfl) ?_; refine .a rfl rfl rfl rfl ?_; refine .nil ?_; cases h; exact rdN (Gives.mkR [] (.e rfl rfl) (.e rfl rfl) rfl rfl rfl)
  ·have h := ifF q47 h; refine W.exit ?_; cases h; refine rdX fun e_ => ?_; subst e_; (repeat with_reducible refine thru ?_); refine hit ?_; exact toN (Gives.mkR [] (.r rfl rfl .n) (.r rfl rfl rfl .n) rfl rfl rfl)

noncomputable def isin_Digit.f (x0 : Bs) : Option (Int × Int) :=
  (isin_shape.f x0).bind fun t1 =>
  if (!t1) = true then
    some (0, 11)
  else
    (isin_total.f x0 true).bind fun t4 =>
    some ((IntKind.wrap .u8 (IntKind.wrap .i64 (48 + (Int.tmod (IntKind.wrap .i64 (10 - (Int.tmod t4 10))) 10)))), 0)
set_option maxRecDepth 100000 in
set_option maxHeartbeats 4000000 in
theorem isin_Digit.ok {x0 : Bs} {r : Int × Int} (h : isin_Digit.f x0 = some r) : Pm.Spec prog 61 [.imm (.val (.string (tx x0)))] (.tup [.imm (.val (.int .u8 r.1)), .imm (.val (.int .i64 r.2))]) [none] := by
 unfold isin_Digit.f at h; refine Pm.Spec.of_body Try.func61 rfl (by kernel_rfl) (Nat.le_of_ble_eq_true rfl) (Nat.le_of_ble_eq_true rfl) ?_; refine W.ghost (σ' := (mkSt [(0, some (.s x0))] [] 1000)) (Gives.entry (.c rfl .n) .n) ?_; refine W.seq ?_; refine W.pk ?_; (iterate 2 refine .a rfl rfl rfl rfl ?_); refine .nil ?_; (iterate 2 refine W.seq ?_); obtain ⟨t1, b2, h⟩ := bnd1 h; refine W.pk ?_; refine .m rfl rfl rfl rfl ?_; refine .call (.b t1) [] 0 (isin_shape.ok b2) rfl rfl rfl ca66 rfl rfl (cC (.imm _) .nil) rfl rfl rfl rfl rfl ?_; refine .v rfl rfl (OpL.unV rfl rfl rfl) ?_; refine .nil ?_; refine W.cond rfl (fun q3 => ?_) (fun q3 => ?_)
 ·have h := ifT q3 h; refine W.seq ?_; refine W.pk ?_; (iterate 2 refine .a rfl rfl rfl rfl ?_); refine .nil ?_; refine W.ret ?_; cases h; exact leaves (.inr rfl) rfl (.tup _ _ _ _ (cC (.imm _) (cC (.imm _) .nil))) (cN .nil) rfl rfl
 ·have h := ifF q3 h; refine W.skip ?_; refine W.seq ?_; obtain ⟨t4, b5, h⟩ := bnd1 h; refine W.pk ?_; refine .m rfl rfl rfl rfl ?_; refine .call (.i t4) [] 0 (isin_total.ok b5) rfl rfl rfl ca67 rfl rfl (cC (.imm _) (cC (.imm _) .nil)) rfl rfl rfl rfl rfl ?_; refine .v rfl rfl (O.rem rfl rfl rfl (by decide)) ?_; refine .v rfl rfl (OpL.binI rfl rfl rfl rfl) ?_; refine .v rfl rfl (O.rem rfl rfl rfl (by decide)) ?_; refine .v rfl rfl (OpL.binI rfl rfl rfl rfl) ?_; refine .v rfl rfl (O.conv h3 u5 rfl rfl) ?_; (iterate 2 refine .a rfl rfl rfl rfl ?_); refine .nil ?_; refine W.ret ?_; cases h; exact leaves (.inr rfl) rfl (.tup _ _ _ _ (cC (.imm _) (cC (.imm _) .nil))) (cN .nil) rfl rfl

noncomputable def isin_Check.f (x0 : Bs) : Option (Int) :=
  if (((List.length x0 : Int) != 12) = false → (0 : Int) ≤ 11 ∧ 11 < (List.length x0 : Int)) then
  (if ((List.length x0 : Int) != 12) = false then isin_digit.f (byte x0 11) else some default).bind fun t2 =>
  if (((List.length x0 : Int) != 12) || (!t2)) = true then
    some 11
  else
    if (0 : Int) ≤ 0 ∧ (0 : Int) ≤ 11 ∧ 11 ≤ (List.length x0 : Int) then
    (isin_Digit.f (List.take (Int.toNat 11 - Int.toNat 0) (List.drop (Int.toNat 0) x0))).bind fun t7 =>
    if ((t7.2 == 0) = true → (0 : Int) ≤ 11 ∧ 11 < (List.length x0 : Int)) then
    if ((t7.2 == 0) && (t7.1 != (byte x0 11))) = true then
      some 12
    else
      some t7.2
    else none
    else none
  else none
set_option maxRecDepth 100000 in
set_option maxHeartbeats 4000000 in
theorem isin_Check.ok {x0 : Bs} {r : Int} (h : isin_Check.f x0 = some r) : Pm.Spec prog 45 [.imm (.val (.string (tx x0)))] (.imm (.val (.int .i64 r))) [none] := by
 unfold isin_Check.f at h; refine Pm.Spec.of_body Try.func45 rfl (by kernel_rfl) (Nat.le_of_ble_eq_true rfl) (Nat.le_of_ble_eq_true rfl) ?_; refine W.ghost (σ' := (mkSt [(0, some (.s x0))] [] 1000)) (Gives.entry (.c rfl .n) .n) ?_; refine W.seq ?_; refine W.pk ?_; refine .a rfl rfl rfl rfl ?_; refine .nil ?_; (iterate 2 refine W.seq ?_); obtain ⟨c1, h⟩ := chk h; obtain ⟨t2, b3, h⟩ := bnd1 h; refine W.fork (mkSt [(0, some (.s x0)), (13, some (.b (((List.length x0 : Int) != 12) || (!t2))))] [] 1000) ?_ ?_
 ·refine W.cond rfl (fun q5 => ?_) (fun q5 => ?_)
  ·have h := ifT q5 h; refine W.seq ?_; refine W.pk ?_; refine .a rfl rfl rfl rfl ?_; refine .nil ?_; refine W.ret ?_; cases h; exact leaves (.inr rfl) rfl (.imm _) (cN .nil) rfl rfl
  ·have h := ifF q5 h; refine W.skip ?_; refine W.seq ?_; obtain ⟨c6, h⟩ := chk h; obtain ⟨t7, b8, h⟩ := bnd1 h; refine W.pk ?_; refine .m rfl rfl rfl rfl ?_; refine .v rfl rfl (O.partS u9 c6 rfl rfl rfl rfl) ?_; refine .call (.tup [.imm (.val (.int .u8 t7.1)), .i t7.2]) [] 0 (isin_Digit.ok b8) rfl rfl rfl ca61 rfl rfl (cC (.imm _) .nil) rfl rfl rfl rfl rfl ?_; refine .m rfl rfl rfl rfl ?_; (iterate 2 refine .v rfl rfl (OpL.extract rfl rfl rfl) ?_); (iterate 2 refine .a rfl rfl rfl rfl ?_); refine .nil ?_; (iterate 2 refine W.seq ?_); obtain ⟨c9, h⟩ := chk h; refine W.fork (mkSt [(4, some (.i t7.2)), (27, some (.b ((t7.2 == 0) && (t7.1 != (byte x0 11)))))] [] 1000) ?_ ?_
   ·refine W.cond rfl (fun q11 => ?_) (fun q11 => ?_)
    ·have h := ifT q11 h; refine W.pk ?_; refine .a rfl rfl rfl rfl ?_; refine .nil ?_; refine W.seq ?_; refine W.pk ?_; refine .m rfl rfl rfl rfl ?_; refine .a rfl rfl rfl rfl ?_; refine .nil ?_; refine W.ret ?_; cases h; exact leaves (.inr rfl) rfl (.imm _) (cN .nil) rfl rfl
    ·have h := ifF q11 h; refine W.skip ?_; refine W.seq ?_; refine W.pk ?_; refine .m rfl rfl rfl rfl ?_; refine .a rfl rfl rfl rfl ?_; refine .nil ?_; refine W.ret ?_; cases h; exact leaves (.inr rfl) rfl (.imm _) (cN .nil) rfl rfl
   ·clear h; refine W.pk ?_; refine .m rfl rfl rfl rfl ?_; refine .v rfl rfl (OpL.binI rfl rfl rfl rfl) ?_; refine .m rfl rfl rfl rfl ?_; rcases tf (t7.2 == 0) with g10 | g10
    ·(iterate 2 refine .m rfl (met rfl rfl rfl g10) rfl rfl ?_); refine .v rfl (met rfl rfl rfl g10) (O.idxS u9 (c9 (by simp only [g10, BL])) rfl rfl rfl) ?_; refine .v rfl (met rfl rfl rfl g10) (OpL.binI rfl rfl rfl rfl) ?_; refine .v rfl rfl (O.pickT g10 rfl rfl rfl) ?_; refine .nil ?_; exact toN (Gives.mkR [] (.r rfl rfl (.c rfl (sbb (by simp only [g10, BL])) rfl .n)) .n rfl rfl rfl)
    ·(iterate 4 refine .x rfl (unmet rfl rfl rfl g10) ?_); refine .v rfl rfl (O.pickF g10 rfl rfl rfl) ?_; refine .nil ?_; exact toN (Gives.mkR [] (.r rfl rfl (.c rfl (sbb (by simp only [g10, BL])) rfl .n)) .n rfl rfl rfl)
 ·clear h; refine W.pk ?_; refine .m rfl rfl rfl rfl ?_; refine .v rfl rfl (O.lenS u9 rfl rfl) ?_; refine .v rfl rfl (OpL.binI rfl rfl rfl rfl) ?_; refine .m rfl rfl rfl rfl ?_; rcases tf ((List.length x0 : Int) != 12) with g4 | g4
  ·(iterate 4 refine .x rfl (unmet rfl rfl rfl g4) ?_); refine .v rfl rfl (O.pickT g4 rfl rfl rfl) ?_; refine .nil ?_; exact toN (Gives.mkR [] (.r rfl rfl (.c rfl (sbb (by simp only [g4, BL])) rfl .n)) .n rfl rfl rfl)
  ·refine .m rfl (met rfl rfl rfl g4) rfl rfl ?_; refine .v rfl (met rfl rfl rfl g4) (O.idxS u9 (c1 (by simp only [g4, BL])) rfl rfl rfl) ?_; refine .call (.b t2) [] 0 (isin_digit.ok ((if_pos (by simp only [g4, BL])).symm.trans b3)) rfl (met rfl rfl rfl g4) rfl ca60 rfl rfl (cC (.imm _) .nil) rfl rfl rfl rfl rfl ?_; refine .v rfl (met rfl rfl rfl g4) (OpL.unV rfl rfl rfl) ?_; refine .v rfl rfl (O.pickF g4 rfl rfl rfl) ?_; refine .nil ?_; exact toN (Gives.mkR [] (.r rfl rfl (.c rfl (sbb (by simp only [g4, BL])) rfl .n)) .n rfl rfl rfl)

noncomputable def isin_Currency.f (x0 : Bs) : Option (Bool) :=
  if (x0 == [69, 85, 82]) = true then
    if (x0 == [69, 85, 82]) = true then
      some true
    else
      some false
  else
    if (x0 == [85, 83, 68]) = true then
      if (x0 == [85, 83, 68]) = true then
        some true
      else
        some false
    else
      if (x0 == [71, 66, 80]) = true then
        if (x0 == [71, 66, 80]) = true then
          some true
        else
          some false
      else
        if (x0 == [67, 72, 70]) = true then
          if (x0 == [67, 72, 70]) = true then
            some true
          else
            some false
        else
          if (x0 == [74, 80, 89]) = true then
            if (x0 == [74, 80, 89]) = true then
              some true
            else
              some false
          else
            if (x0 == [83, 69, 75]) = true then
              if (x0 == [83, 69, 75]) = true then
                some true
              else
                some false
            else
              if (x0 == [78, 79, 75]) = true then
                if (x0 == [78, 79, 75]) = true then
                  some true
                else
                  some false
              else
                if (x0 == [68, 75, 75]) = true then
                  some true
                else
                  some false
set_option maxRecDepth 100000 in
set_option maxHeartbeats 4000000 in
theorem isin_Currency.ok {x0 : Bs} {r : Bool} (h : isin_Currency.f x0 = some r) : Pm.Spec prog 43 [.imm (.val (.string (tx x0)))] (.imm (.val (.bool r))) [none] := by
 unfold isin_Currency.f at h; refine Pm.Spec.of_body Try.func43 rfl (by kernel_rfl) (Nat.le_of_ble_eq_true rfl) (Nat.le_of_ble_eq_true rfl) ?_; refine W.ghost (σ' := (mkSt [(0, some (.s x0))] [] 1000)) (Gives.entry (.c rfl .n) .n) ?_; refine W.seq ?_; refine W.pk ?_; refine .a rfl rfl rfl rfl ?_; refine .nil ?_; (iterate 2 refine W.seq ?_); refine W.pk ?_; refine .m rfl rfl rfl rfl ?_; refine .nil ?_; refine W.block ?_; (iterate 2 refine W.seq ?_); refine W.pk ?_; refine .v rfl rfl (O.cmpS rfl rfl rfl rfl) ?_; refine .a rfl rfl rfl rfl ?_; refine .nil ?_; refine W.cond rfl (fun q1 => ?_) (fun q1 => ?_)
 ·have h := ifT q1 h; refine W.skip ?_; refine W.cond rfl (fun q2 => ?_) (fun q2 => ?_)
  ·have h := ifT q2 h; refine W.seq ?_; refine W.pk ?_; refine .a rfl rfl rfl rfl ?_; refine .nil ?_; refine W.ret ?_; cases h; exact leaves (.inr rfl) rfl (.imm _) (cN .nil) rfl rfl
  ·have h := ifF q2 h; refine W.skip ?_; refine W.seq ?_; refine W.pk ?_; refine .a rfl rfl rfl rfl ?_; refine .nil ?_; refine W.ret ?_; cases h; exact leaves (.inr rfl) rfl (.imm _) (cN .nil) rfl rfl
 ·have h := ifF q1 h; refine W.seq ?_; refine W.pk ?_; refine .v rfl rfl (O.cmpS rfl rfl rfl rfl) ?_; refine .a rfl rfl rfl rfl ?_; refine .nil ?_; refine W.cond rfl (fun q3 => ?_) (fun q3 => ?_)
  ·have h := ifT q3 h; refine W.skip ?_; refine W.cond rfl (fun q4 => ?_) (fun q4 => ?_)
   ·have h := ifT q4 h; refine W.seq ?_; refine W.pk ?_; refine .a rfl rfl rfl rfl ?_; refine .nil ?_; refine W.ret ?_; cases h; exact leaves (.inr rfl) rfl (.imm _) (cN .nil) rfl rfl
   ·have h := ifF q4 h; refine W.skip ?_; refine W.seq ?_; refine W.pk ?_; refine .a rfl rfl rfl rfl ?_; refine .nil ?_; refine W.ret ?_; cases h; exact leaves (.inr rfl) rfl (.imm _) (cN .nil) rfl rfl
  ·have h := ifF q3 h; refine W.seq ?_; refine W.pk ?_; refine .v rfl rfl (O.cmpS rfl rfl rfl rfl) ?_; refine .a rfl rfl rfl rfl ?_; refine .nil ?_; refine W.cond rfl (fun q5 => ?_) (fun q5 => ?_)
   ·have h := ifT q5 h; refine W.skip ?_; refine W.cond rfl (fun q6 => ?_) (fun q6 => ?_)
    ·have h := ifT q6 h; refine W.seq ?_; refine W.pk ?_; refine .a rfl rfl rfl rfl ?_; refine .nil ?_; refine W.ret ?_; cases h; exact leaves (.inr rfl) rfl (.imm _) (cN .nil) rfl rfl
    ·have h := ifF q6 h; refine W.skip ?_; refine W.seq ?_; refine W.pk ?_; refine .a rfl rfl rfl rfl ?_; refine .nil ?_; refine W.ret ?_; cases h; exact leaves (.inr rfl) rfl (.imm _) (cN .nil) rfl rfl
   ·have h := ifF q5 h; refine W.seq ?_; refine W.pk ?_; refine .v rfl rfl (O.cmpS rfl rfl rfl rfl) ?_; refine .a rfl rfl rfl rfl ?_; refine .nil ?_; refine W.cond rfl (fun q7 => ?_) (fun q7 => ?_)
    ·have h := ifT q7 h; refine W.skip ?_; refine W.cond rfl (fun q8 => ?_) (fun q8 => ?_)
     ·have h := ifT q8 h; refine W.seq ?_; refine W.pk ?_; refine .a rfl rfl rfl rfl ?_; refine .nil ?_; refine W.ret ?_; cases h; exact leaves (.inr rfl) rfl (.imm _) (cN .nil) rfl rfl
     ·have h := ifF q8 h; refine W.skip ?_; refine W.seq ?_; refine W.pk ?_; refine .a rfl rfl rfl rfl ?_; refine .nil ?_; refine W.ret ?_; cases h; exact leaves (.inr rfl) rfl (.imm _) (cN .nil) rfl rfl
    ·have h := ifF q7 h; refine W.seq ?_; refine W.pk ?_; refine .v rfl rfl (O.cmpS rfl rfl rfl rfl) ?_; refine .a rfl rfl rfl rfl ?_; refine .nil ?_; refine W.cond rfl (fun q9 => ?_) (fun q9 => ?_)
     ·have h := ifT q9 h; refine W.skip ?_; refine W.cond rfl (fun q10 => ?_) (fun q10 => ?_)
      ·have h := ifT q10 h; refine W.seq ?_; refine W.pk ?_; refine .a rfl rfl rfl rfl ?_; refine .nil ?_; refine W.ret ?_; cases h; exact leaves (.inr rfl) rfl (.imm _) (cN .nil) rfl rfl
      ·have h := ifF q10 h; refine W.skip ?_; refine W.seq ?_; refine W.pk ?_; refine .a rfl rfl rfl rfl ?_; refine .nil ?_; refine W.ret ?_; cases h; exact leaves (.inr rfl) rfl (.imm _) (cN .nil) rfl rfl
     ·have h := ifF q9 h; refine W.seq ?_; refine W.pk ?_; refine .v rfl rfl (O.cmpS rfl rfl rfl rfl) ?_; refine .a rfl rfl rfl rfl ?_; refine .nil ?_; refine W.cond rfl (fun q11 => ?_) (fun q11 => ?_)
      ·have h := ifT q11 h; refine W.skip ?_; refine W.cond rfl (fun q12 => ?_) (fun q12 => ?_)
       ·have h := ifT q12 h; refine W.seq ?_; refine W.pk ?_; refine .a rfl rfl rfl rfl ?_; refine .nil ?_; refine W.ret ?_; cases h; exact leaves (.inr rfl) rfl (.imm _) (cN .nil) rfl rfl
       ·have h := ifF q12 h; refine W.skip ?_; refine W.seq ?_; refine W.pk ?_; refine .a rfl rfl rfl rfl ?_; refine .nil ?_; refine W.ret ?_; cases h; exact leaves (.inr rfl) rfl (.imm _) (cN .nil) rfl rfl
      ·have h := ifF q11 h; refine W.seq ?_; refine W.pk ?_; refine .v rfl rfl (O.cmpS rfl rfl rfl rfl) ?_; refine .a rfl rfl rfl rfl ?_; refine .nil ?_; refine W.cond rfl (fun q13 => ?_) (fun q13 => ?_)
       ·have h := ifT q13 h; refine W.skip ?_; refine W.cond rfl (fun q14 => ?_) (fun q14 => ?_)
        ·have h := ifT q14 h; refine W.seq ?_; refine W.pk ?_; refine .a rfl rfl rfl rfl ?_; refine .nil ?_; refine W.ret ?_; cases h; exact leaves (.inr rfl) rfl (.imm _) (cN .nil) rfl rfl
        ·have h := ifF q14 h; refine W.skip ?_; refine W.seq ?_; refine W.pk ?_; refine .a rfl rfl rfl rfl ?_; refine .nil ?_; refine W.ret ?_; cases h; exact leaves (.inr rfl) rfl (.imm _) (cN .nil) rfl rfl
       ·have h := ifF q13 h; refine W.pk ?_; refine .v rfl rfl (O.cmpS rfl rfl rfl rfl) ?_; refine .a rfl rfl rfl rfl ?_; refine .nil ?_; refine W.cond rfl (fun q15 => ?_) (fun q15 => ?_)
        ·have h := ifT q15 h; refine W.seq ?_; refine W.pk ?_; refine .a rfl rfl rfl rfl ?_; refine .nil ?_; refine W.ret ?_; cases h; exact leaves (.inr rfl) rfl (.imm _) (cN .nil) rfl rfl
        ·have h := ifF q15 h; refine W.skip ?_; refine W.seq ?_; refine W.pk ?_; refine .a rfl rfl rfl rfl ?_; refine .nil ?_; refine W.ret ?_; cases h; exact leaves (.inr rfl) rfl (.imm _) (cN .nil) rfl rfl

noncomputable def isin_Asset.f (x0 : api_Asset) : Option (Int) :=
  (isin_Check.f x0.ISIN).bind fun t1 =>
  if (t1 != 0) = true then
    some t1
  else
    (isin_Currency.f x0.Currency).bind fun t4 =>
    if (!t4) = true then
      some 11
    else
      if ((((decide (x0.Issuer < 0)) || (decide (x0.Issuer > 9999))) || (decide (x0.Rating < 0))) || (decide (x0.Rating > 20))) = true then
        some 1
      else
        if ((decide (x0.Maturity < 0)) || (decide (x0.Maturity > 200000))) = true then
          some 10
        else
          some 0
set_option maxRecDepth 100000 in
set_option maxHeartbeats 4000000 in
theorem isin_Asset.ok {x0 : api_Asset} {r : Int} (h : isin_Asset.f x0 = some r) : Pm.Spec prog 38 [.agg [.imm (.val (.string (tx x0.ISIN))), .imm (.val (.int .i64 x0.Issuer)), .imm (.val (.int .i64 x0.Rating)), .imm (.val (.int .i64 x0.Maturity)), .imm (.val (.string (tx x0.Currency)))]] (.imm (.val (.int .i64 r))) [none] := by
 unfold isin_Asset.f at h; refine Pm.Spec.of_body Try.func38 rfl (by kernel_rfl) (Nat.le_of_ble_eq_true rfl) (Nat.le_of_ble_eq_true rfl) ?_; refine W.ghost (σ' := (mkSt [(0, some (.agg (api_Asset.av x0)))] [] 1000)) (Gives.entry (.c rfl .n) .n) ?_; refine W.seq ?_; refine W.pk ?_; refine .t rfl rfl (O.box rfl rfl rfl rfl rfl) ?_; refine .a rfl rfl rfl rfl ?_; refine .nil ?_; (iterate 2 refine W.seq ?_); obtain ⟨t1, b2, h⟩ := bnd1 h; refine W.pk ?_; refine .v rfl rfl (O.fld fld72_0 rfl rfl rfl) ?_; refine .v rfl rfl (O.ld (y := .s x0.ISIN) ty9 rfl rfl rfl) ?_; refine .call (.i t1) [] 0 (isin_Check.ok b2) rfl rfl rfl ca45 rfl rfl (cC (.imm _) .nil) rfl rfl rfl rfl rfl ?_; refine .a rfl rfl rfl rfl ?_; refine .nil ?_; refine W.seq ?_; refine W.pk ?_; refine .m rfl rfl rfl rfl ?_; refine .v rfl rfl (OpL.binI rfl rfl rfl rfl) ?_; refine .nil ?_; refine W.cond rfl (fun q3 => ?_) (fun q3 => ?_)
 ·have h := ifT q3 h; refine W.seq ?_; refine W.pk ?_; refine .m rfl rfl rfl rfl ?_; refine .a rfl rfl rfl rfl ?_; refine .nil ?_; refine W.ret ?_; cases h; exact leaves (.inr rfl) rfl (.imm _) (cN .nil) rfl rfl
 ·have h := ifF q3 h; refine W.skip ?_; refine W.seq ?_; refine W.block ?_; refine W.seq ?_; obtain ⟨t4, b5, h⟩ := bnd1 h; refine W.pk ?_; refine .v rfl rfl (O.fld fld72_4 rfl rfl rfl) ?_; refine .v rfl rfl (O.ld (y := .s x0.Currency) ty9 rfl rfl rfl) ?_; refine .call (.b t4) [] 0 (isin_Currency.ok b5) rfl rfl rfl ca43 rfl rfl (cC (.imm _) .nil) rfl rfl rfl rfl rfl ?_; refine .v rfl rfl (OpL.unV rfl rfl rfl) ?_; refine .a rfl rfl rfl rfl ?_; refine .nil ?_; refine W.cond rfl (fun q6 => ?_) (fun q6 => ?_)
  ·have h := ifT q6 h; refine W.seq ?_; refine W.pk ?_; refine .a rfl rfl rfl rfl ?_; refine .nil ?_; refine W.ret ?_; cases h; exact leaves (.inr rfl) rfl (.imm _) (cN .nil) rfl rfl
  ·have h := ifF q6 h; refine W.seq ?_; refine W.fork (mkSt [(1, some (.ptr 1000 0)), (15, some (.b ((((decide (x0.Issuer < 0)) || (decide (x0.Issuer > 9999))) || (decide (x0.Rating < 0))) || (decide (x0.Rating > 20)))))] [(1000, some (.box [.s x0.ISIN, .i x0.Issuer, .i x0.Rating, .i x0.Maturity, .s x0.Currency]))] 1001) ?_ ?_
   ·refine W.cond rfl (fun q10 => ?_) (fun q10 => ?_)
    ·have h := ifT q10 h; refine W.seq ?_; refine W.pk ?_; refine .a rfl rfl rfl rfl ?_; refine .nil ?_; refine W.ret ?_; cases h; exact leaves (.inr rfl) rfl (.imm _) (cN .nil) rfl rfl
    ·have h := ifF q10 h; refine W.seq ?_; refine W.fork (mkSt [(34, some (.b ((decide (x0.Maturity < 0)) || (decide (x0.Maturity > 200000)))))] [] 1001) ?_ ?_
     ·refine W.cond rfl (fun q12 => ?_) (fun q12 => ?_)
      ·have h := ifT q12 h; refine W.seq ?_; refine W.pk ?_; refine .a rfl rfl rfl rfl ?_; refine .nil ?_; refine W.ret ?_; cases h; exact leaves (.inr rfl) rfl (.imm _) (cN .nil) rfl rfl
      ·have h := ifF q12 h; refine W.skip ?_; refine W.seq ?_; refine W.pk ?_; refine .a rfl rfl rfl rfl ?_; refine .nil ?_; refine W.ret ?_; cases h; exact leaves (.inr rfl) rfl (.imm _) (cN .nil) rfl rfl
     ·clear h; refine W.pk ?_; refine .v rfl rfl (O.fld fld72_3 rfl rfl rfl) ?_; refine .v rfl rfl (O.ld (y := .i x0.Maturity) ty3 rfl rfl rfl) ?_; refine .v rfl rfl (OpL.binI rfl rfl rfl rfl) ?_; refine .m rfl rfl rfl rfl ?_; rcases tf (decide (x0.Maturity < 0)) with g11 | g11
      ·(iterate 3 refine .x rfl (unmet rfl rfl rfl g11) ?_); refine .v rfl rfl (O.pickT g11 rfl rfl rfl) ?_; refine .a rfl rfl rfl rfl ?_; refine .nil ?_; exact toN (Gives.mkR [] (.c rfl (sbb (by simp only [g11, BL])) rfl .n) .n rfl rfl rfl)
      ·refine .v rfl (met rfl rfl rfl g11) (O.fld fld72_3 rfl rfl rfl) ?_; refine .v rfl (met rfl rfl rfl g11) (O.ld (y := .i x0.Maturity) ty3 rfl rfl rfl) ?_; refine .v rfl (met rfl rfl rfl g11) (OpL.binI rfl rfl rfl rfl) ?_; refine .v rfl rfl (O.pickF g11 rfl rfl rfl) ?_; refine .a rfl rfl rfl rfl ?_; refine .nil ?_; exact toN (Gives.mkR [] (.c rfl (sbb (by simp only [g11, BL])) rfl .n) .n rfl rfl rfl)
   ·clear h; refine W.pk ?_; refine .v rfl rfl (O.fld fld72_1 rfl rfl rfl) ?_; refine .v rfl rfl (O.ld (y := .i x0.Issuer) ty3 rfl rfl rfl) ?_; refine .v rfl rfl (OpL.binI rfl rfl rfl rfl) ?_; refine .m rfl rfl rfl rfl ?_; rcases tf (decide (x0.Issuer < 0)) with g7 | g7
    ·(iterate 3 refine .x rfl (unmet rfl rfl rfl g7) ?_); refine .v rfl rfl (O.pickT g7 rfl rfl rfl) ?_; refine .m rfl rfl rfl rfl ?_; (iterate 3 refine .x rfl (unmet rfl rfl rfl rfl) ?_); refine .v rfl rfl (O.pickT rfl rfl rfl rfl) ?_; refine .m rfl rfl rfl rfl ?_; (iterate 3 refine .x rfl (unmet rfl rfl rfl rfl) ?_); refine .v rfl rfl (O.pickT rfl rfl rfl rfl) ?_; refine .a rfl rfl rfl rfl ?_; refine .nil ?_; exact toN (Gives.mkR [] (.r rfl rfl (.c rfl (sbb (by simp only [g7, BL])) rfl .n)) (.r rfl rfl rfl .n) rfl rfl rfl)
    ·refine .v rfl (met rfl rfl rfl g7) (O.fld fld72_1 rfl rfl rfl) ?_; refine .v rfl (met rfl rfl rfl g7) (O.ld (y := .i x0.Issuer) ty3 rfl rfl rfl) ?_; refine .v rfl (met rfl rfl rfl g7) (OpL.binI rfl rfl rfl rfl) ?_; refine .v rfl rfl (O.pickF g7 rfl rfl rfl) ?_; refine .m rfl rfl rfl rfl ?_; rcases tf (decide (x0.Issuer > 9999)) with g8 | g8
     ·(iterate 3 refine .x rfl (unmet rfl rfl rfl g8) ?_); refine .v rfl rfl (O.pickT g8 rfl rfl rfl) ?_; refine .m rfl rfl rfl rfl ?_; (iterate 3 refine .x rfl (unmet rfl rfl rfl rfl) ?_); refine .v rfl rfl (O.pickT rfl rfl rfl rfl) ?_; refine .a rfl rfl rfl rfl ?_; refine .nil ?_; exact toN (Gives.mkR [] (.r rfl rfl (.c rfl (sbb (by first | (simp only [g7, g8, BL]; done) | (repeat (first | rw [g7] | rw [g8])) <;> simp only [BL])) rfl .n)) (.r rfl rfl rfl .n) rfl rfl rfl)
     ·refine .v rfl (met rfl rfl rfl g8) (O.fld fld72_2 rfl rfl rfl) ?_; refine .v rfl (met rfl rfl rfl g8) (O.ld (y := .i x0.Rating) ty3 rfl rfl rfl) ?_; refine .v rfl (met rfl rfl rfl g8) (OpL.binI rfl rfl rfl rfl) ?_; refine .v rfl rfl (O.pickF g8 rfl rfl rfl) ?_; refine .m rfl rfl rfl rfl ?_; rcases tf (decide (x0.Rating < 0)) with g9 | g9
      ·(iterate 3 refine .x rfl (unmet rfl rfl rfl g9) ?_); refine .v rfl rfl (O.pickT g9 rfl rfl rfl) ?_; refine .a rfl rfl rfl rfl ?_; refine .nil ?_; exact toN (Gives.mkR [] (.r rfl rfl (.c rfl (sbb (by first | (simp only [g7, g8, g9, BL]; done) | (repeat (first | rw [g7] | rw [g8] | rw [g9])) <;> simp only [BL])) rfl .n)) (.r rfl rfl rfl .n) rfl rfl rfl)
      ·refine .v rfl (met rfl rfl rfl g9) (O.fld fld72_2 rfl rfl rfl) ?_; refine .v rfl (met rfl rfl rfl g9) (O.ld (y := .i x0.Rating) ty3 rfl rfl rfl) ?_; refine .v rfl (met rfl rfl rfl g9) (OpL.binI rfl rfl rfl rfl) ?_; refine .v rfl rfl (O.pickF g9 rfl rfl rfl) ?_; refine .a rfl rfl rfl rfl ?_; refine .nil ?_; exact toN (Gives.mkR [] (.r rfl rfl (.c rfl (sbb (by first | (simp only [g7, g8, g9, BL]; done) | (repeat (first | rw [g7] | rw [g8] | rw [g9])) <;> simp only [BL])) rfl .n)) (.r rfl rfl rfl .n) rfl rfl rfl)

noncomputable def msg_Basket_1.f (x0 : Int) : Option (Bool) :=
  some ((decide (x0 ≥ 0)) && (decide (x0 ≤ 1000000)))
set_option maxRecDepth 100000 in
set_option maxHeartbeats 4000000 in
theorem msg_Basket_1.ok {x0 : Int} {r : Bool} (h : msg_Basket_1.f x0 = some r) : Pm.Spec prog 59 [.imm (.val (.int .i64 x0))] (.imm (.val (.bool r))) [none] := by
 unfold msg_Basket_1.f at h; refine Pm.Spec.of_body Try.func59 rfl (by kernel_rfl) (Nat.le_of_ble_eq_true rfl) (Nat.le_of_ble_eq_true rfl) ?_; refine W.ghost (σ' := (mkSt [(0, some (.i x0))] [] 1000)) (Gives.entry (.c rfl .n) .n) ?_; refine W.seq ?_; refine W.pk ?_; refine .a rfl rfl rfl rfl ?_; refine .nil ?_; refine W.seq ?_; refine W.fork (mkSt [(2, some (.b ((decide (x0 ≥ 0)) && (decide (x0 ≤ 1000000)))))] [] 1000) ?_ ?_
 ·refine W.ret ?_; cases h; exact leaves (.inr rfl) rfl (.imm _) (cN .nil) rfl rfl
 ·clear h; refine W.pk ?_; refine .m rfl rfl rfl rfl ?_; refine .v rfl rfl (OpL.binI rfl rfl rfl rfl) ?_; refine .m rfl rfl rfl rfl ?_; rcases tf (decide (x0 ≥ 0)) with g1 | g1
  ·refine .m rfl (met rfl rfl rfl g1) rfl rfl ?_; refine .v rfl (met rfl rfl rfl g1) (OpL.binI rfl rfl rfl rfl) ?_; refine .v rfl rfl (O.pickT g1 rfl rfl rfl) ?_; refine .a rfl rfl rfl rfl ?_; refine .nil ?_; exact toN (Gives.mkR [] (.c rfl (sbb (by simp only [g1, BL])) rfl .n) .n rfl rfl rfl)
  ·(iterate 2 refine .x rfl (unmet rfl rfl rfl g1) ?_); refine .v rfl rfl (O.pickF g1 rfl rfl rfl) ?_; refine .a rfl rfl rfl rfl ?_; refine .nil ?_; exact toN (Gives.mkR [] (.c rfl (sbb (by simp only [g1, BL])) rfl .n) .n rfl rfl rfl)

noncomputable def msg_Basket.b0 (x0 : api_Basket) (v30 : Int) : Option (Int ⊕ (Int ⊕ Unit)) :=
  if (decide (v30 < (List.length x0.Cuts : Int))) = true then
    if (0 : Int) ≤ v30 ∧ v30 < (List.length x0.Cuts : Int) then
    if ((((((decide (((nth x0.Cuts v30).Days) < 0)) || (decide (((nth x0.Cuts v30).Days) > 200000))) || (decide (((nth x0.Cuts v30).Rating) < 0))) || (decide (((nth x0.Cuts v30).Rating) > 20))) || (decide (((nth x0.Cuts v30).Cut) < 0))) || (decide (((nth x0.Cuts v30).Cut) ≥ 1000000))) = true then
      some (.inr (.inl 1))
    else
      some (.inl (IntKind.wrap .i64 (v30 + 1)))
    else none
  else
    some (.inr (.inr ()))
noncomputable def msg_Basket.r0 (x0 : api_Basket) (s : Int) : Option (Int ⊕ (Int ⊕ Unit)) := msg_Basket.b0 x0 s
noncomputable def msg_Basket.b1 (x0 : api_Basket) (v67 : Int) : Option (Int ⊕ (Int ⊕ Unit)) :=
  if (decide (v67 < (List.length x0.Barred : Int))) = true then
    if (0 : Int) ≤ v67 ∧ v67 < (List.length x0.Barred : Int) then
    if (((decide ((nth x0.Barred v67) < 0)) || (decide ((nth x0.Barred v67) > 9999))) = false ∧ (decide (v67 > 0)) = true → (0 : Int) ≤ (IntKind.wrap .i64 (v67 - 1)) ∧ (IntKind.wrap .i64 (v67 - 1)) < (List.length x0.Barred : Int)) then
    if (((decide ((nth x0.Barred v67) < 0)) || (decide ((nth x0.Barred v67) > 9999))) || ((decide (v67 > 0)) && (decide ((nth x0.Barred v67) ≤ (nth x0.Barred (IntKind.wrap .i64 (v67 - 1))))))) = true then
      some (.inr (.inl 1))
    else
      some (.inl (IntKind.wrap .i64 (v67 + 1)))
    else none
    else none
  else
    some (.inr (.inr ()))
noncomputable def msg_Basket.r1 (x0 : api_Basket) (s : Int) : Option (Int ⊕ (Int ⊕ Unit)) := msg_Basket.b1 x0 s
noncomputable def msg_Basket.f (x0 : api_Basket) : Option (Int) :=
  if ((((((decide (x0.ID < 1)) || (decide (x0.ID > 64))) || (decide (x0.Version < 1))) || (decide (x0.Version > 1125899906842624))) || (decide (x0.Rating < 0))) || (decide (x0.Rating > 20))) = true then
    some 1
  else
    (msg_Basket_1.f x0.Issuer).bind fun t7 =>
    (if (!t7) = false then msg_Basket_1.f x0.Asset else some default).bind fun t9 =>
    if (((((!t7) || (!t9)) || ((List.length x0.Cuts : Int) == 0)) || (decide ((List.length x0.Cuts : Int) > 64))) || (decide ((List.length x0.Barred : Int) > 64))) = true then
      some 1
    else
      if (((decide (x0.Least < 0)) || (decide (x0.Most < x0.Least))) || (decide (x0.Most > 200000))) = true then
        some 10
      else
        (isin_Currency.f x0.Currency).bind fun t19 =>
        if (!t19) = true then
          some 11
        else
          (loop (msg_Basket.r0 x0) 0).bind fun o48 =>
          match o48 with
          | .inl r59 => some r59
          | .inr w47 =>
            (loop (msg_Basket.r1 x0) 0).bind fun o83 =>
            match o83 with
            | .inl r93 => some r93
            | .inr w82 =>
              some 0
set_option maxRecDepth 100000 in
set_option maxHeartbeats 4000000 in
theorem msg_Basket.ok {x0 : api_Basket} {r : Int} (h : msg_Basket.f x0 = some r) : Pm.Spec prog 39 [.agg [.imm (.val (.int .i64 x0.ID)), .imm (.val (.int .i64 x0.Version)), .imm (.val (.string (tx x0.Currency))), .imm (.val (.int .i64 x0.Rating)), .imm (.val (.int .i64 x0.Least)), .imm (.val (.int .i64 x0.Most)), .imm (.row 3 (List.map api_Cut.enc x0.Cuts)), .imm (.val (.int .i64 x0.Issuer)), .imm (.val (.int .i64 x0.Asset)), .imm (.row 1 (List.map (encI .i64) x0.Barred))]] (.imm (.val (.int .i64 r))) [none] := by
 unfold msg_Basket.f at h; refine Pm.Spec.of_body Try.func39 rfl (by kernel_rfl) (Nat.le_of_ble_eq_true rfl) (Nat.le_of_ble_eq_true rfl) ?_; refine W.ghost (σ' := (mkSt [(0, some (.agg (api_Basket.av x0)))] [] 1000)) (Gives.entry (.c rfl .n) .n) ?_; refine W.seq ?_; refine W.pk ?_; refine .t rfl rfl (O.box rfl rfl rfl rfl rfl) ?_; refine .a rfl rfl rfl rfl ?_; refine .nil ?_; refine W.seq ?_; refine W.pk ?_; refine .a rfl rfl rfl rfl ?_; refine .nil ?_; refine W.seq ?_; refine W.block ?_; refine W.seq ?_; refine W.fork (mkSt [(1, some (.ptr 1000 0)), (3, some (.fn 59 [])), (8, some (.b ((((((decide (x0.ID < 1)) || (decide (x0.ID > 64))) || (decide (x0.Version < 1))) || (decide (x0.Version > 1125899906842624))) || (decide (x0.Rating < 0))) || (decide (x0.Rating > 20)))))] [(1000, some (.box [.i x0.ID, .i x0.Version, .s x0.Currency, .i x0.Rating, .i x0.Least, .i x0.Most, .imm (.row 3 (List.map api_Cut.enc x0.Cuts)), .i x0.Issuer, .i x0.Asset, .imm (.row 1 (List.map (encI .i64) x0.Barred))]))] 1001) ?_ ?_
 ·refine W.cond rfl (fun q6 => ?_) (fun q6 => ?_)
  ·have h := ifT q6 h; refine W.seq ?_; refine W.pk ?_; refine .a rfl rfl rfl rfl ?_; refine .nil ?_; refine W.ret ?_; cases h; exact leaves (.inr rfl) rfl (.imm _) (cN .nil) rfl rfl
  ·have h := ifF q6 h; refine W.seq ?_; obtain ⟨t7, b8, h⟩ := bnd1 h; obtain ⟨t9, b10, h⟩ := bnd1 h; refine W.fork (mkSt [(1, some (.ptr 1000 0)), (37, some (.b (((((!t7) || (!t9)) || ((List.length x0.Cuts : Int) == 0)) || (decide ((List.length x0.Cuts : Int) > 64))) || (decide ((List.length x0.Barred : Int) > 64)))))] [(1000, some (.box [.i x0.ID, .i x0.Version, .s x0.Currency, .i x0.Rating, .i x0.Least, .i x0.Most, .imm (.row 3 (List.map api_Cut.enc x0.Cuts)), .i x0.Issuer, .i x0.Asset, .imm (.row 1 (List.map (encI .i64) x0.Barred))]))] 1001) ?_ ?_
   ·refine W.cond rfl (fun q15 => ?_) (fun q15 => ?_)
    ·have h := ifT q15 h; refine W.seq ?_; refine W.pk ?_; refine .a rfl rfl rfl rfl ?_; refine .nil ?_; refine W.ret ?_; cases h; exact leaves (.inr rfl) rfl (.imm _) (cN .nil) rfl rfl
    ·have h := ifF q15 h; refine W.seq ?_; refine W.fork (mkSt [(1, some (.ptr 1000 0)), (68, some (.b (((decide (x0.Least < 0)) || (decide (x0.Most < x0.Least))) || (decide (x0.Most > 200000)))))] [(1000, some (.box [.i x0.ID, .i x0.Version, .s x0.Currency, .i x0.Rating, .i x0.Least, .i x0.Most, .imm (.row 3 (List.map api_Cut.enc x0.Cuts)), .i x0.Issuer, .i x0.Asset, .imm (.row 1 (List.map (encI .i64) x0.Barred))]))] 1001) ?_ ?_
     ·refine W.cond rfl (fun q18 => ?_) (fun q18 => ?_)
      ·have h := ifT q18 h; refine W.seq ?_; refine W.pk ?_; refine .a rfl rfl rfl rfl ?_; refine .nil ?_; refine W.ret ?_; cases h; exact leaves (.inr rfl) rfl (.imm _) (cN .nil) rfl rfl
      ·have h := ifF q18 h; refine W.seq ?_; obtain ⟨t19, b20, h⟩ := bnd1 h; refine W.pk ?_; refine .v rfl rfl (O.fld fld78_2 rfl rfl rfl) ?_; refine .v rfl rfl (O.ld (y := .s x0.Currency) ty9 rfl rfl rfl) ?_; refine .call (.b t19) [] 0 (isin_Currency.ok b20) rfl rfl rfl ca43 rfl rfl (cC (.imm _) .nil) rfl rfl rfl rfl rfl ?_; refine .v rfl rfl (OpL.unV rfl rfl rfl) ?_; refine .a rfl rfl rfl rfl ?_; refine .nil ?_; refine W.cond rfl (fun q21 => ?_) (fun q21 => ?_)
       ·have h := ifT q21 h; refine W.seq ?_; refine W.pk ?_; refine .a rfl rfl rfl rfl ?_; refine .nil ?_; refine W.ret ?_; cases h; exact leaves (.inr rfl) rfl (.imm _) (cN .nil) rfl rfl
       ·have h := ifF q21 h; refine W.skip ?_; (iterate 2 refine W.seq ?_); refine W.pk ?_; refine .v rfl rfl (O.fld fld78_6 rfl rfl rfl) ?_; refine .v rfl rfl (O.ld (y := .imm (.row 3 (List.map api_Cut.enc x0.Cuts))) ty76 rfl rfl rfl) ?_; refine .v rfl rfl (O.lenR sl76 rfl rfl) ?_; refine .m rfl rfl rfl rfl ?_; refine .nil ?_; obtain ⟨o48, b49, z50⟩ := bnd1 h; refine W.fork2 (out := o48) (fun (w47 : Unit) => mkSt [(1, some (.ptr 1000 0))] [(1000, some (.box [.i x0.ID, .i x0.Version, .s x0.Currency, .i x0.Rating, .i x0.Least, .i x0.Most, .imm (.row 3 (List.map api_Cut.enc x0.Cuts)), .i x0.Issuer, .i x0.Asset, .imm (.row 1 (List.map (encI .i64) x0.Barred))]))] 1001) ?_ ?_
        ·clear h; refine W.block ?_; refine W.loopF (fun (s_ : Int) => mkSt [(1, some (.ptr 1000 0)), (90, some (.imm (.row 3 (List.map api_Cut.enc x0.Cuts)))), (91, some (.i (List.length x0.Cuts : Int))), (92, some (.i s_))] [(1000, some (.box [.i x0.ID, .i x0.Version, .s x0.Currency, .i x0.Rating, .i x0.Least, .i x0.Most, .imm (.row 3 (List.map api_Cut.enc x0.Cuts)), .i x0.Issuer, .i x0.Asset, .imm (.row 1 (List.map (encI .i64) x0.Barred))]))] 1001) b49 (Gives.mkR [] (.e rfl rfl) (.r rfl rfl rfl .n) rfl rfl rfl) ?_; rintro v30 s_ hr; have h : msg_Basket.b0 x0 v30 = some s_ := hr; unfold msg_Basket.b0 at h; refine W.seq ?_; refine W.pk ?_; refine .v rfl rfl (OpL.binI rfl rfl rfl rfl) ?_; refine .nil ?_; refine W.seq ?_; refine W.cond rfl (fun q51 => ?_) (fun q51 => ?_)
         ·have h := ifT q51 h; refine W.skip ?_; refine W.seq ?_; refine W.block ?_; refine W.seq ?_; obtain ⟨c52, h⟩ := chk h; refine W.pk ?_; refine .v rfl rfl (O.idx sl76 c52 rfl rfl rfl) ?_; refine .v rfl rfl (O.ldN ty119 rfl rfl rfl) ?_; refine .t rfl rfl (O.alloc z119 rfl) ?_; refine .s rfl rfl (O.st ty119 rfl rfl rfl rfl rfl rfl rfl rfl rfl rfl (all' := [.i ((nth x0.Cuts v30).Days), .i ((nth x0.Cuts v30).Rating), .i ((nth x0.Cuts v30).Cut)]) rfl) ?_; refine .nil ?_; refine W.seq ?_; refine W.fork (mkSt [(1, some (.ptr 1000 0)), (90, some (.imm (.row 3 (List.map api_Cut.enc x0.Cuts)))), (91, some (.i (List.length x0.Cuts : Int))), (92, some (.i v30)), (123, some (.b ((((((decide (((nth x0.Cuts v30).Days) < 0)) || (decide (((nth x0.Cuts v30).Days) > 200000))) || (decide (((nth x0.Cuts v30).Rating) < 0))) || (decide (((nth x0.Cuts v30).Rating) > 20))) || (decide (((nth x0.Cuts v30).Cut) < 0))) || (decide (((nth x0.Cuts v30).Cut) ≥ 1000000)))))] [(1000, some (.box [.i x0.ID, .i x0.Version, .s x0.Currency, .i x0.Rating, .i x0.Least, .i x0.Most, .imm (.row 3 (List.map api_Cut.enc x0.Cuts)), .i x0.Issuer, .i x0.Asset, .imm (.row 1 (List.map (encI .i64) x0.Barred))]))] 1002) ?_ ?_
          ·refine W.cond rfl (fun q58 => ?_) (fun q58 => ?_)
           ·have h := ifT q58 h; refine W.seq ?_; refine W.pk ?_; refine .a rfl rfl rfl rfl ?_; refine .nil ?_; refine W.ret ?_; cases h; refine rdR fun e_ => ?_; subst e_; have h := z50; dsimp only at h; refine fkR ?_; cases h; exact leaves (.inr rfl) rfl (.imm _) (cN .nil) rfl rfl
           ·have h := ifF q58 h; refine W.skip ?_; refine W.pk ?_; refine .v rfl rfl (OpL.binI rfl rfl rfl rfl) ?_; refine .m rfl rfl rfl rfl ?_; refine .nil ?_; cases h; exact rdN (Gives.mkR [] (.e rfl rfl) (.r rfl rfl rfl .n) rfl rfl rfl)
          ·clear h; refine W.pk ?_; refine .v rfl rfl (O.fld fld119_0 rfl rfl rfl) ?_; refine .v rfl rfl (O.ld (y := .i ((nth x0.Cuts v30).Days)) ty3 rfl rfl rfl) ?_; refine .v rfl rfl (OpL.binI rfl rfl rfl rfl) ?_; refine .m rfl rfl rfl rfl ?_; rcases tf (decide (((nth x0.Cuts v30).Days) < 0)) with g53 | g53
           ·(iterate 3 refine .x rfl (unmet rfl rfl rfl g53) ?_); refine .v rfl rfl (O.pickT g53 rfl rfl rfl) ?_; refine .m rfl rfl rfl rfl ?_; (iterate 3 refine .x rfl (unmet rfl rfl rfl rfl) ?_); refine .v rfl rfl (O.pickT rfl rfl rfl rfl) ?_; refine .m rfl rfl rfl rfl ?_; (iterate 3 refine .x rfl (unmet rfl rfl rfl rfl) ?_); refine .v rfl rfl (O.pickT rfl rfl rfl rfl) ?_; refine .m rfl rfl rfl rfl ?_; (iterate 3 refine .x rfl (unmet rfl rfl rfl rfl) ?_); refine .v rfl rfl (O.pickT rfl rfl rfl rfl) ?_; refine .m rfl rfl rfl rfl ?_; (iterate 3 refine .x rfl (unmet rfl rfl rfl rfl) ?_); refine .v rfl rfl (O.pickT rfl rfl rfl rfl) ?_; refine .nil ?_; exact toN (Gives.mkR [] (.r rfl rfl (.r rfl rfl (.r rfl rfl (.r rfl rfl (.c rfl (sbb (by simp only [g53, BL])) rfl .n))))) (.r rfl rfl rfl .n) rfl rfl rfl)
           ·refine .v rfl (met rfl rfl rfl g53) (O.fld fld119_0 rfl rfl rfl) ?_; refine .v rfl (met rfl rfl rfl g53) (O.ld (y := .i ((nth x0.Cuts v30).Days)) ty3 rfl rfl rfl) ?_; refine .v rfl (met rfl rfl rfl g53) (OpL.binI rfl rfl rfl rfl) ?_; refine .v rfl rfl (O.pickF g53 rfl rfl rfl) ?_; refine .m rfl rfl rfl rfl ?_; rcases tf (decide (((nth x0.Cuts v30).Days) > 200000)) with g54 | g54
            ·(iterate 3 refine .x rfl (unmet rfl rfl rfl g54) ?_); refine .v rfl rfl (O.pickT g54 rfl rfl rfl) ?_; refine .m rfl rfl rfl rfl ?_; (iterate 3 refine .x rfl (unmet rfl rfl rfl rfl) ?_); refine .v rfl rfl (O.pickT rfl rfl rfl rfl) ?_; refine .m rfl rfl rfl rfl ?_; (iterate 3 refine .x rfl (unmet rfl rfl rfl rfl) ?_); refine .v rfl rfl (O.pickT rfl rfl rfl rfl) ?_; refine .m rfl rfl rfl rfl ?_; (iterate 3 refine .x rfl (unmet rfl rfl rfl rfl) ?_); refine .v rfl rfl (O.pickT rfl rfl rfl rfl) ?_; refine .nil ?_; exact toN (Gives.mkR [] (.r rfl rfl (.r rfl rfl (.r rfl rfl (.r rfl rfl (.c rfl (sbb (by first | (simp only [g53, g54, BL]; done) | (repeat (first | rw [g53] | rw [g54])) <;> simp only [BL])) rfl .n))))) (.r rfl rfl rfl .n) rfl rfl rfl)
            ·refine .v rfl (met rfl rfl rfl g54) (O.fld fld119_1 rfl rfl rfl) ?_; refine .v rfl (met rfl rfl rfl g54) (O.ld (y := .i ((nth x0.Cuts v30).Rating)) ty3 rfl rfl rfl) ?_; refine .v rfl (met rfl rfl rfl g54) (OpL.binI rfl rfl rfl rfl) ?_; refine .v rfl rfl (O.pickF g54 rfl rfl rfl) ?_; refine .m rfl rfl rfl rfl ?_; rcases tf (decide (((nth x0.Cuts v30).Rating) < 0)) with g55 | g55
             ·(iterate 3 refine .x rfl (unmet rfl rfl rfl g55) ?_); refine .v rfl rfl (O.pickT g55 rfl rfl rfl) ?_; refine .m rfl rfl rfl rfl ?_; (iterate 3 refine .x rfl (unmet rfl rfl rfl rfl) ?_); refine .v rfl rfl (O.pickT rfl rfl rfl rfl) ?_; refine .m rfl rfl rfl rfl ?_; (iterate 3 refine .x rfl (unmet rfl rfl rfl rfl) ?_); refine .v rfl rfl (O.pickT rfl rfl rfl rfl) ?_; refine .nil ?_; exact toN (Gives.mkR [] (.r rfl rfl (.r rfl rfl (.r rfl rfl (.r rfl rfl (.c rfl (sbb (by first | (simp only [g53, g54, g55, BL]; done) | (repeat (first | rw [g53] | rw [g54] | rw [g55])) <;> simp only [BL])) rfl .n))))) (.r rfl rfl rfl .n) rfl rfl rfl)
             ·refine .v rfl (met rfl rfl rfl g55) (O.fld fld119_1 rfl rfl rfl) ?_; refine .v rfl (met rfl rfl rfl g55) (O.ld (y := .i ((nth x0.Cuts v30).Rating)) ty3 rfl rfl rfl) ?_; refine .v rfl (met rfl rfl rfl g55) (OpL.binI rfl rfl rfl rfl) ?_; refine .v rfl rfl (O.pickF g55 rfl rfl rfl) ?_; refine .m rfl rfl rfl rfl ?_; rcases tf (decide (((nth x0.Cuts v30).Rating) > 20)) with g56 | g56
              ·(iterate 3 refine .x rfl (unmet rfl rfl rfl g56) ?_); refine .v rfl rfl (O.pickT g56 rfl rfl rfl) ?_; refine .m rfl rfl rfl rfl ?_; (iterate 3 refine .x rfl (unmet rfl rfl rfl rfl) ?_); refine .v rfl rfl (O.pickT rfl rfl rfl rfl) ?_; refine .nil ?_; exact toN (Gives.mkR [] (.r rfl rfl (.r rfl rfl (.r rfl rfl (.r rfl rfl (.c rfl (sbb (by first | (simp only [g53, g54, g55, g56, BL]; done) | (repeat (first | rw [g53] | rw [g54] | rw [g55] | rw [g56])) <;> simp only [BL])) rfl .n))))) (.r rfl rfl rfl .n) rfl rfl rfl)
              ·refine .v rfl (met rfl rfl rfl g56) (O.fld fld119_2 rfl rfl rfl) ?_; refine .v rfl (met rfl rfl rfl g56) (O.ld (y := .i ((nth x0.Cuts v30).Cut)) ty3 rfl rfl rfl) ?_; refine .v rfl (met rfl rfl rfl g56) (OpL.binI rfl rfl rfl rfl) ?_; refine .v rfl rfl (O.pickF g56 rfl rfl rfl) ?_; refine .m rfl rfl rfl rfl ?_; rcases tf (decide (((nth x0.Cuts v30).Cut) < 0)) with g57 | g57
               ·(iterate 3 refine .x rfl (unmet rfl rfl rfl g57) ?_); refine .v rfl rfl (O.pickT g57 rfl rfl rfl) ?_; refine .nil ?_; exact toN (Gives.mkR [] (.r rfl rfl (.r rfl rfl (.r rfl rfl (.r rfl rfl (.c rfl (sbb (by first | (simp only [g53, g54, g55, g56, g57, BL]; done) | (repeat (first | rw [g53] | rw [g54] | rw [g55] | rw [g56] | rw [g57])) <;> simp only [BL])) rfl .n))))) (.r rfl rfl rfl .n) rfl rfl rfl)
               ·refine .v rfl (met rfl rfl rfl g57) (O.fld fld119_2 rfl rfl rfl) ?_; refine .v rfl (met rfl rfl rfl g57) (O.ld (y := .i ((nth x0.Cuts v30).Cut)) ty3 rfl rfl rfl) ?_; refine .v rfl (met rfl rfl rfl g57) (OpL.binI rfl rfl rfl rfl) ?_; refine .v rfl rfl (O.pickF g57 rfl rfl rfl) ?_; refine .nil ?_; exact toN (Gives.mkR [] (.r rfl rfl (.r rfl rfl (.r rfl rfl (.r rfl rfl (.c rfl (sbb (by first | (simp only [g53, g54, g55, g56, g57, BL]; done) | (repeat (first | rw [g53] | rw [g54] | rw [g55] | rw [g56] | rw [g57])) <;> simp only [BL])) rfl .n))))) (.r rfl rfl rfl .n) rfl rfl rfl)
         ·have h := ifF q51 h; refine W.exit ?_; cases h; refine rdX fun e_ => ?_; subst e_; (repeat with_reducible refine thru ?_); refine hit ?_; exact fkN (Gives.mkR [] (.r rfl rfl .n) (.r rfl rfl rfl .n) rfl rfl rfl)
        ·intro w47 e_; subst e_; clear h; have h := z50; dsimp only at h; (iterate 2 refine W.seq ?_); refine W.pk ?_; refine .v rfl rfl (O.fld fld78_9 rfl rfl rfl) ?_; refine .v rfl rfl (O.ld (y := .imm (.row 1 (List.map (encI .i64) x0.Barred))) ty58 rfl rfl rfl) ?_; refine .v rfl rfl (O.lenR sl58 rfl rfl) ?_; refine .m rfl rfl rfl rfl ?_; refine .nil ?_; obtain ⟨o83, b84, z85⟩ := bnd1 h; refine W.fork2 (out := o83) (fun (w82 : Unit) => mkSt [] [] 1001) ?_ ?_
         ·clear h; refine W.block ?_; refine W.loopF (fun (s_ : Int) => mkSt [(1, some (.ptr 1000 0)), (126, some (.imm (.row 1 (List.map (encI .i64) x0.Barred)))), (127, some (.i (List.length x0.Barred : Int))), (128, some (.i s_))] [(1000, some (.box [.i x0.ID, .i x0.Version, .s x0.Currency, .i x0.Rating, .i x0.Least, .i x0.Most, .imm (.row 3 (List.map api_Cut.enc x0.Cuts)), .i x0.Issuer, .i x0.Asset, .imm (.row 1 (List.map (encI .i64) x0.Barred))]))] 1001) b84 (Gives.mkR [] (.e rfl rfl) (.r rfl rfl rfl .n) rfl rfl rfl) ?_; rintro v67 s_ hr; have h : msg_Basket.b1 x0 v67 = some s_ := hr; unfold msg_Basket.b1 at h; refine W.seq ?_; refine W.pk ?_; refine .v rfl rfl (OpL.binI rfl rfl rfl rfl) ?_; refine .nil ?_; refine W.seq ?_; refine W.cond rfl (fun q86 => ?_) (fun q86 => ?_)
          ·have h := ifT q86 h; refine W.skip ?_; refine W.seq ?_; refine W.block ?_; refine W.seq ?_; obtain ⟨c87, h⟩ := chk h; refine W.pk ?_; refine .m rfl rfl rfl rfl ?_; refine .v rfl rfl (O.idx sl58 c87 rfl rfl rfl) ?_; refine .v rfl rfl (O.ld (y := .i (nth x0.Barred v67)) ty3 rfl rfl rfl) ?_; (iterate 2 refine .a rfl rfl rfl rfl ?_); refine .nil ?_; refine W.seq ?_; obtain ⟨c88, h⟩ := chk h; refine W.fork (mkSt [(1, some (.ptr 1000 0)), (126, some (.imm (.row 1 (List.map (encI .i64) x0.Barred)))), (127, some (.i (List.length x0.Barred : Int))), (128, some (.i v67)), (152, some (.b (((decide ((nth x0.Barred v67) < 0)) || (decide ((nth x0.Barred v67) > 9999))) || ((decide (v67 > 0)) && (decide ((nth x0.Barred v67) ≤ (nth x0.Barred (IntKind.wrap .i64 (v67 - 1)))))))))] [(1000, some (.box [.i x0.ID, .i x0.Version, .s x0.Currency, .i x0.Rating, .i x0.Least, .i x0.Most, .imm (.row 3 (List.map api_Cut.enc x0.Cuts)), .i x0.Issuer, .i x0.Asset, .imm (.row 1 (List.map (encI .i64) x0.Barred))]))] 1001) ?_ ?_
           ·refine W.cond rfl (fun q92 => ?_) (fun q92 => ?_)
            ·have h := ifT q92 h; refine W.seq ?_; refine W.pk ?_; refine .a rfl rfl rfl rfl ?_; refine .nil ?_; refine W.ret ?_; cases h; refine rdR fun e_ => ?_; subst e_; have h := z85; dsimp only at h; refine fkR ?_; cases h; exact leaves (.inr rfl) rfl (.imm _) (cN .nil) rfl rfl
            ·have h := ifF q92 h; refine W.skip ?_; refine W.pk ?_; refine .v rfl rfl (OpL.binI rfl rfl rfl rfl) ?_; refine .m rfl rfl rfl rfl ?_; refine .nil ?_; cases h; exact rdN (Gives.mkR [] (.e rfl rfl) (.r rfl rfl rfl .n) rfl rfl rfl)
           ·clear h; refine W.pk ?_; refine .m rfl rfl rfl rfl ?_; refine .v rfl rfl (OpL.binI rfl rfl rfl rfl) ?_; refine .m rfl rfl rfl rfl ?_; rcases tf (decide ((nth x0.Barred v67) < 0)) with g89 | g89
            ·(iterate 2 refine .x rfl (unmet rfl rfl rfl g89) ?_); refine .v rfl rfl (O.pickT g89 rfl rfl rfl) ?_; refine .m rfl rfl rfl rfl ?_; (iterate 3 refine .x rfl (unmet rfl rfl rfl rfl) ?_); (iterate 8 refine .x rfl (unmetU rfl rfl rfl) ?_); refine .x rfl (unmet rfl rfl rfl rfl) ?_; refine .v rfl rfl (O.pickT rfl rfl rfl rfl) ?_; refine .nil ?_; exact toN (Gives.mkR [] (.r rfl rfl (.r rfl rfl (.r rfl rfl (.r rfl rfl (.c rfl (sbb (by simp only [g89, BL])) rfl .n))))) (.r rfl rfl rfl .n) rfl rfl rfl)
            ·refine .m rfl (met rfl rfl rfl g89) rfl rfl ?_; refine .v rfl (met rfl rfl rfl g89) (OpL.binI rfl rfl rfl rfl) ?_; refine .v rfl rfl (O.pickF g89 rfl rfl rfl) ?_; refine .m rfl rfl rfl rfl ?_; rcases tf (decide ((nth x0.Barred v67) > 9999)) with g90 | g90
             ·(iterate 3 refine .x rfl (unmet rfl rfl rfl g90) ?_); (iterate 8 refine .x rfl (unmetU rfl rfl rfl) ?_); refine .x rfl (unmet rfl rfl rfl g90) ?_; refine .v rfl rfl (O.pickT g90 rfl rfl rfl) ?_; refine .nil ?_; exact toN (Gives.mkR [] (.r rfl rfl (.r rfl rfl (.r rfl rfl (.r rfl rfl (.c rfl (sbb (by first | (simp only [g89, g90, BL]; done) | (repeat (first | rw [g89] | rw [g90])) <;> simp only [BL])) rfl .n))))) (.r rfl rfl rfl .n) rfl rfl rfl)
             ·refine .m rfl (met rfl rfl rfl g90) rfl rfl ?_; refine .v rfl (met rfl rfl rfl g90) (OpL.binI rfl rfl rfl rfl) ?_; refine .m rfl (met rfl rfl rfl g90) rfl rfl ?_; rcases tf (decide (v67 > 0)) with g91 | g91
              ·refine .m rfl (met rfl rfl rfl g91) rfl rfl ?_; refine .v rfl (met rfl rfl rfl g91) (O.fld fld78_9 rfl rfl rfl) ?_; refine .v rfl (met rfl rfl rfl g91) (O.ld (y := .imm (.row 1 (List.map (encI .i64) x0.Barred))) ty58 rfl rfl rfl) ?_; refine .m rfl (met rfl rfl rfl g91) rfl rfl ?_; refine .v rfl (met rfl rfl rfl g91) (OpL.binI rfl rfl rfl rfl) ?_; refine .v rfl (met rfl rfl rfl g91) (O.idx sl58 (c88 ⟨(by first | (simp only [g89, g90, g91, BL]; done) | (repeat (first | rw [g89] | rw [g90] | rw [g91])) <;> simp only [BL]), (by first | (simp only [g89, g90, g91, BL]; done) | (repeat (first | rw [g89] | rw [g90] | rw [g91])) <;> simp only [BL])⟩) rfl rfl rfl) ?_; refine .v rfl (met rfl rfl rfl g91) (O.ld (y := .i (nth x0.Barred (IntKind.wrap .i64 (v67 - 1)))) ty3 rfl rfl rfl) ?_; refine .v rfl (met rfl rfl rfl g91) (OpL.binI rfl rfl rfl rfl) ?_; refine .v rfl (met rfl rfl rfl g90) (O.pickT g91 rfl rfl rfl) ?_; refine .v rfl rfl (O.pickF g90 rfl rfl rfl) ?_; refine .nil ?_; exact toN (Gives.mkR [] (.r rfl rfl (.r rfl rfl (.r rfl rfl (.r rfl rfl (.c rfl (sbb (by first | (simp only [g89, g90, g91, BL]; done) | (repeat (first | rw [g89] | rw [g90] | rw [g91])) <;> simp only [BL])) rfl .n))))) (.r rfl rfl rfl .n) rfl rfl rfl)
              ·(iterate 8 refine .x rfl (unmet rfl rfl rfl g91) ?_); refine .v rfl (met rfl rfl rfl g90) (O.pickF g91 rfl rfl rfl) ?_; refine .v rfl rfl (O.pickF g90 rfl rfl rfl) ?_; refine .nil ?_; exact toN (Gives.mkR [] (.r rfl rfl (.r rfl rfl (.r rfl rfl (.r rfl rfl (.c rfl (sbb (by first | (simp only [g89, g90, g91, BL]; done) | (repeat (first | rw [g89] | rw [g90] | rw [g91])) <;> simp only [BL])) rfl .n))))) (.r rfl rfl rfl .n) rfl rfl rfl)
          ·have h := ifF q86 h; refine W.exit ?_; cases h; refine rdX fun e_ => ?_; subst e_; (repeat with_reducible refine thru ?_); refine hit ?_; exact fkN (Gives.mkR [] .n .n rfl rfl rfl)
         ·intro w82 e_; subst e_; clear h; have h := z85; dsimp only at h; refine W.seq ?_; refine W.pk ?_; refine .a rfl rfl rfl rfl ?_; refine .nil ?_; refine W.ret ?_; cases h; exact leaves (.inr rfl) rfl (.imm _) (cN .nil) rfl rfl
     ·clear h; refine W.pk ?_; refine .v rfl rfl (O.fld fld78_4 rfl rfl rfl) ?_; refine .v rfl rfl (O.ld (y := .i x0.Least) ty3 rfl rfl rfl) ?_; refine .v rfl rfl (OpL.binI rfl rfl rfl rfl) ?_; refine .m rfl rfl rfl rfl ?_; rcases tf (decide (x0.Least < 0)) with g16 | g16
      ·(iterate 5 refine .x rfl (unmet rfl rfl rfl g16) ?_); refine .v rfl rfl (O.pickT g16 rfl rfl rfl) ?_; refine .m rfl rfl rfl rfl ?_; (iterate 3 refine .x rfl (unmet rfl rfl rfl rfl) ?_); refine .v rfl rfl (O.pickT rfl rfl rfl rfl) ?_; refine .a rfl rfl rfl rfl ?_; refine .nil ?_; exact toN (Gives.mkR [] (.r rfl rfl (.c rfl (sbb (by simp only [g16, BL])) rfl .n)) (.r rfl rfl rfl .n) rfl rfl rfl)
      ·refine .v rfl (met rfl rfl rfl g16) (O.fld fld78_5 rfl rfl rfl) ?_; refine .v rfl (met rfl rfl rfl g16) (O.ld (y := .i x0.Most) ty3 rfl rfl rfl) ?_; refine .v rfl (met rfl rfl rfl g16) (O.fld fld78_4 rfl rfl rfl) ?_; refine .v rfl (met rfl rfl rfl g16) (O.ld (y := .i x0.Least) ty3 rfl rfl rfl) ?_; refine .v rfl (met rfl rfl rfl g16) (OpL.binI rfl rfl rfl rfl) ?_; refine .v rfl rfl (O.pickF g16 rfl rfl rfl) ?_; refine .m rfl rfl rfl rfl ?_; rcases tf (decide (x0.Most < x0.Least)) with g17 | g17
       ·(iterate 3 refine .x rfl (unmet rfl rfl rfl g17) ?_); refine .v rfl rfl (O.pickT g17 rfl rfl rfl) ?_; refine .a rfl rfl rfl rfl ?_; refine .nil ?_; exact toN (Gives.mkR [] (.r rfl rfl (.c rfl (sbb (by first | (simp only [g16, g17, BL]; done) | (repeat (first | rw [g16] | rw [g17])) <;> simp only [BL])) rfl .n)) (.r rfl rfl rfl .n) rfl rfl rfl)
       ·refine .v rfl (met rfl rfl rfl g17) (O.fld fld78_5 rfl rfl rfl) ?_; refine .v rfl (met rfl rfl rfl g17) (O.ld (y := .i x0.Most) ty3 rfl rfl rfl) ?_; refine .v rfl (met rfl rfl rfl g17) (OpL.binI rfl rfl rfl rfl) ?_; refine .v rfl rfl (O.pickF g17 rfl rfl rfl) ?_; refine .a rfl rfl rfl rfl ?_; refine .nil ?_; exact toN (Gives.mkR [] (.r rfl rfl (.c rfl (sbb (by first | (simp only [g16, g17, BL]; done) | (repeat (first | rw [g16] | rw [g17])) <;> simp only [BL])) rfl .n)) (.r rfl rfl rfl .n) rfl rfl rfl)
   ·clear h; refine W.pk ?_; refine .m rfl rfl rfl rfl ?_; refine .v rfl rfl (O.fld fld78_7 rfl rfl rfl) ?_; refine .v rfl rfl (O.ld (y := .i x0.Issuer) ty3 rfl rfl rfl) ?_; refine .call (.b t7) [] 0 (msg_Basket_1.ok b8) rfl rfl rfl ca59 rfl rfl (cC (.imm _) .nil) rfl rfl rfl rfl rfl ?_; refine .v rfl rfl (OpL.unV rfl rfl rfl) ?_; refine .m rfl rfl rfl rfl ?_; rcases tf t7 with g11 | g11
    ·refine .m rfl (met rfl rfl rfl (notT g11)) rfl rfl ?_; refine .v rfl (met rfl rfl rfl (notT g11)) (O.fld fld78_8 rfl rfl rfl) ?_; refine .v rfl (met rfl rfl rfl (notT g11)) (O.ld (y := .i x0.Asset) ty3 rfl rfl rfl) ?_; refine .call (.b t9) [] 0 (msg_Basket_1.ok ((if_pos (by simp only [g11, BL])).symm.trans b10)) rfl (met rfl rfl rfl (notT g11)) rfl ca59 rfl rfl (cC (.imm _) .nil) rfl rfl rfl rfl rfl ?_; refine .v rfl (met rfl rfl rfl (notT g11)) (OpL.unV rfl rfl rfl) ?_; refine .v rfl rfl (O.pickF (notT g11) rfl rfl rfl) ?_; refine .m rfl rfl rfl rfl ?_; rcases tf t9 with g12 | g12
     ·refine .v rfl (met rfl rfl rfl (notT g12)) (O.fld fld78_6 rfl rfl rfl) ?_; refine .v rfl (met rfl rfl rfl (notT g12)) (O.ld (y := .imm (.row 3 (List.map api_Cut.enc x0.Cuts))) ty76 rfl rfl rfl) ?_; refine .v rfl (met rfl rfl rfl (notT g12)) (O.lenR sl76 rfl rfl) ?_; refine .v rfl (met rfl rfl rfl (notT g12)) (OpL.binI rfl rfl rfl rfl) ?_; refine .v rfl rfl (O.pickF (notT g12) rfl rfl rfl) ?_; refine .m rfl rfl rfl rfl ?_; rcases tf ((List.length x0.Cuts : Int) == 0) with g13 | g13
      ·(iterate 4 refine .x rfl (unmet rfl rfl rfl g13) ?_); refine .v rfl rfl (O.pickT g13 rfl rfl rfl) ?_; refine .m rfl rfl rfl rfl ?_; (iterate 4 refine .x rfl (unmet rfl rfl rfl rfl) ?_); refine .v rfl rfl (O.pickT rfl rfl rfl rfl) ?_; refine .a rfl rfl rfl rfl ?_; refine .nil ?_; exact toN (Gives.mkR [] (.r rfl rfl (.c rfl (sbb (by first | (simp only [g11, g12, g13, BL]; done) | (repeat (first | rw [g11] | rw [g12] | rw [g13])) <;> simp only [BL])) rfl .n)) (.r rfl rfl rfl .n) rfl rfl rfl)
      ·refine .v rfl (met rfl rfl rfl g13) (O.fld fld78_6 rfl rfl rfl) ?_; refine .v rfl (met rfl rfl rfl g13) (O.ld (y := .imm (.row 3 (List.map api_Cut.enc x0.Cuts))) ty76 rfl rfl rfl) ?_; refine .v rfl (met rfl rfl rfl g13) (O.lenR sl76 rfl rfl) ?_; refine .v rfl (met rfl rfl rfl g13) (OpL.binI rfl rfl rfl rfl) ?_; refine .v rfl rfl (O.pickF g13 rfl rfl rfl) ?_; refine .m rfl rfl rfl rfl ?_; rcases tf (decide ((List.length x0.Cuts : Int) > 64)) with g14 | g14
       ·(iterate 4 refine .x rfl (unmet rfl rfl rfl g14) ?_); refine .v rfl rfl (O.pickT g14 rfl rfl rfl) ?_; refine .a rfl rfl rfl rfl ?_; refine .nil ?_; exact toN (Gives.mkR [] (.r rfl rfl (.c rfl (sbb (by first | (simp only [g11, g12, g13, g14, BL]; done) | (repeat (first | rw [g11] | rw [g12] | rw [g13] | rw [g14])) <;> simp only [BL])) rfl .n)) (.r rfl rfl rfl .n) rfl rfl rfl)
       ·refine .v rfl (met rfl rfl rfl g14) (O.fld fld78_9 rfl rfl rfl) ?_; refine .v rfl (met rfl rfl rfl g14) (O.ld (y := .imm (.row 1 (List.map (encI .i64) x0.Barred))) ty58 rfl rfl rfl) ?_; refine .v rfl (met rfl rfl rfl g14) (O.lenR sl58 rfl rfl) ?_; refine .v rfl (met rfl rfl rfl g14) (OpL.binI rfl rfl rfl rfl) ?_; refine .v rfl rfl (O.pickF g14 rfl rfl rfl) ?_; refine .a rfl rfl rfl rfl ?_; refine .nil ?_; exact toN (Gives.mkR [] (.r rfl rfl (.c rfl (sbb (by first | (simp only [g11, g12, g13, g14, BL]; done) | (repeat (first | rw [g11] | rw [g12] | rw [g13] | rw [g14])) <;> simp only [BL])) rfl .n)) (.r rfl rfl rfl .n) rfl rfl rfl)
     ·(iterate 4 refine .x rfl (unmet rfl rfl rfl (notF g12)) ?_); refine .v rfl rfl (O.pickT (notF g12) rfl rfl rfl) ?_; refine .m rfl rfl rfl rfl ?_; (iterate 4 refine .x rfl (unmet rfl rfl rfl rfl) ?_); refine .v rfl rfl (O.pickT rfl rfl rfl rfl) ?_; refine .m rfl rfl rfl rfl ?_; (iterate 4 refine .x rfl (unmet rfl rfl rfl rfl) ?_); refine .v rfl rfl (O.pickT rfl rfl rfl rfl) ?_; refine .a rfl rfl rfl rfl ?_; refine .nil ?_; exact toN (Gives.mkR [] (.r rfl rfl (.c rfl (sbb (by first | (simp only [g11, g12, BL]; done) | (repeat (first | rw [g11] | rw [g12])) <;> simp only [BL])) rfl .n)) (.r rfl rfl rfl .n) rfl rfl rfl)
    ·(iterate 5 refine .x rfl (unmet rfl rfl rfl (notF g11)) ?_); refine .v rfl rfl (O.pickT (notF g11) rfl rfl rfl) ?_; refine .m rfl rfl rfl rfl ?_; (iterate 4 refine .x rfl (unmet rfl rfl rfl rfl) ?_); refine .v rfl rfl (O.pickT rfl rfl rfl rfl) ?_; refine .m rfl rfl rfl rfl ?_; (iterate 4 refine .x rfl (unmet rfl rfl rfl rfl) ?_); refine .v rfl rfl (O.pickT rfl rfl rfl rfl) ?_; refine .m rfl rfl rfl rfl ?_; (iterate 4 refine .x rfl (unmet rfl rfl rfl rfl) ?_); refine .v rfl rfl (O.pickT rfl rfl rfl rfl) ?_; refine .a rfl rfl rfl rfl ?_; refine .nil ?_; exact toN (Gives.mkR [] (.r rfl rfl (.c rfl (sbb (by simp only [g11, BL])) rfl .n)) (.r rfl rfl rfl .n) rfl rfl rfl)
 ·clear h; refine W.pk ?_; refine .v rfl rfl (O.fld fld78_0 rfl rfl rfl) ?_; refine .v rfl rfl (O.ld (y := .i x0.ID) ty3 rfl rfl rfl) ?_; refine .v rfl rfl (OpL.binI rfl rfl rfl rfl) ?_; refine .m rfl rfl rfl rfl ?_; rcases tf (decide (x0.ID < 1)) with g1 | g1
  ·(iterate 3 refine .x rfl (unmet rfl rfl rfl g1) ?_); refine .v rfl rfl (O.pickT g1 rfl rfl rfl) ?_; refine .m rfl rfl rfl rfl ?_; (iterate 3 refine .x rfl (unmet rfl rfl rfl rfl) ?_); refine .v rfl rfl (O.pickT rfl rfl rfl rfl) ?_; refine .m rfl rfl rfl rfl ?_; (iterate 3 refine .x rfl (unmet rfl rfl rfl rfl) ?_); refine .v rfl rfl (O.pickT rfl rfl rfl rfl) ?_; refine .m rfl rfl rfl rfl ?_; (iterate 3 refine .x rfl (unmet rfl rfl rfl rfl) ?_); refine .v rfl rfl (O.pickT rfl rfl rfl rfl) ?_; refine .m rfl rfl rfl rfl ?_; (iterate 3 refine .x rfl (unmet rfl rfl rfl rfl) ?_); refine .v rfl rfl (O.pickT rfl rfl rfl rfl) ?_; refine .a rfl rfl rfl rfl ?_; refine .nil ?_; exact toN (Gives.mkR [] (.r rfl rfl (.r rfl rfl (.c rfl (sbb (by simp only [g1, BL])) rfl .n))) (.r rfl rfl rfl .n) rfl rfl rfl)
  ·refine .v rfl (met rfl rfl rfl g1) (O.fld fld78_0 rfl rfl rfl) ?_; refine .v rfl (met rfl rfl rfl g1) (O.ld (y := .i x0.ID) ty3 rfl rfl rfl) ?_; refine .v rfl (met rfl rfl rfl g1) (OpL.binI rfl rfl rfl rfl) ?_; refine .v rfl rfl (O.pickF g1 rfl rfl rfl) ?_; refine .m rfl rfl rfl rfl ?_; rcases tf (decide (x0.ID > 64)) with g2 | g2
   ·(iterate 3 refine .x rfl (unmet rfl rfl rfl g2) ?_); refine .v rfl rfl (O.pickT g2 rfl rfl rfl) ?_; refine .m rfl rfl rfl rfl ?_; (iterate 3 refine .x rfl (unmet rfl rfl rfl rfl) ?_); refine .v rfl rfl (O.pickT rfl rfl rfl rfl) ?_; refine .m rfl rfl rfl rfl ?_; (iterate 3 refine .x rfl (unmet rfl rfl rfl rfl) ?_); refine .v rfl rfl (O.pickT rfl rfl rfl rfl) ?_; refine .m rfl rfl rfl rfl ?_; (iterate 3 refine .x rfl (unmet rfl rfl rfl rfl) ?_); refine .v rfl rfl (O.pickT rfl rfl rfl rfl) ?_; refine .a rfl rfl rfl rfl ?_; refine .nil ?_; exact toN (Gives.mkR [] (.r rfl rfl (.r rfl rfl (.c rfl (sbb (by first | (simp only [g1, g2, BL]; done) | (repeat (first | rw [g1] | rw [g2])) <;> simp only [BL])) rfl .n))) (.r rfl rfl rfl .n) rfl rfl rfl)
   ·refine .v rfl (met rfl rfl rfl g2) (O.fld fld78_1 rfl rfl rfl) ?_; refine .v rfl (met rfl rfl rfl g2) (O.ld (y := .i x0.Version) ty3 rfl rfl rfl) ?_; refine .v rfl (met rfl rfl rfl g2) (OpL.binI rfl rfl rfl rfl) ?_; refine .v rfl rfl (O.pickF g2 rfl rfl rfl) ?_; refine .m rfl rfl rfl rfl ?_; rcases tf (decide (x0.Version < 1)) with g3 | g3
    ·(iterate 3 refine .x rfl (unmet rfl rfl rfl g3) ?_); refine .v rfl rfl (O.pickT g3 rfl rfl rfl) ?_; refine .m rfl rfl rfl rfl ?_; (iterate 3 refine .x rfl (unmet rfl rfl rfl rfl) ?_); refine .v rfl rfl (O.pickT rfl rfl rfl rfl) ?_; refine .m rfl rfl rfl rfl ?_; (iterate 3 refine .x rfl (unmet rfl rfl rfl rfl) ?_); refine .v rfl rfl (O.pickT rfl rfl rfl rfl) ?_; refine .a rfl rfl rfl rfl ?_; refine .nil ?_; exact toN (Gives.mkR [] (.r rfl rfl (.r rfl rfl (.c rfl (sbb (by first | (simp only [g1, g2, g3, BL]; done) | (repeat (first | rw [g1] | rw [g2] | rw [g3])) <;> simp only [BL])) rfl .n))) (.r rfl rfl rfl .n) rfl rfl rfl)
    ·refine .v rfl (met rfl rfl rfl g3) (O.fld fld78_1 rfl rfl rfl) ?_; refine .v rfl (met rfl rfl rfl g3) (O.ld (y := .i x0.Version) ty3 rfl rfl rfl) ?_; refine .v rfl (met rfl rfl rfl g3) (OpL.binI rfl rfl rfl rfl) ?_; refine .v rfl rfl (O.pickF g3 rfl rfl rfl) ?_; refine .m rfl rfl rfl rfl ?_; rcases tf (decide (x0.Version > 1125899906842624)) with g4 | g4
     ·(iterate 3 refine .x rfl (unmet rfl rfl rfl g4) ?_); refine .v rfl rfl (O.pickT g4 rfl rfl rfl) ?_; refine .m rfl rfl rfl rfl ?_; (iterate 3 refine .x rfl (unmet rfl rfl rfl rfl) ?_); refine .v rfl rfl (O.pickT rfl rfl rfl rfl) ?_; refine .a rfl rfl rfl rfl ?_; refine .nil ?_; exact toN (Gives.mkR [] (.r rfl rfl (.r rfl rfl (.c rfl (sbb (by first | (simp only [g1, g2, g3, g4, BL]; done) | (repeat (first | rw [g1] | rw [g2] | rw [g3] | rw [g4])) <;> simp only [BL])) rfl .n))) (.r rfl rfl rfl .n) rfl rfl rfl)
     ·refine .v rfl (met rfl rfl rfl g4) (O.fld fld78_3 rfl rfl rfl) ?_; refine .v rfl (met rfl rfl rfl g4) (O.ld (y := .i x0.Rating) ty3 rfl rfl rfl) ?_; refine .v rfl (met rfl rfl rfl g4) (OpL.binI rfl rfl rfl rfl) ?_; refine .v rfl rfl (O.pickF g4 rfl rfl rfl) ?_; refine .m rfl rfl rfl rfl ?_; rcases tf (decide (x0.Rating < 0)) with g5 | g5
      ·(iterate 3 refine .x rfl (unmet rfl rfl rfl g5) ?_); refine .v rfl rfl (O.pickT g5 rfl rfl rfl) ?_; refine .a rfl rfl rfl rfl ?_; refine .nil ?_; exact toN (Gives.mkR [] (.r rfl rfl (.r rfl rfl (.c rfl (sbb (by first | (simp only [g1, g2, g3, g4, g5, BL]; done) | (repeat (first | rw [g1] | rw [g2] | rw [g3] | rw [g4] | rw [g5])) <;> simp only [BL])) rfl .n))) (.r rfl rfl rfl .n) rfl rfl rfl)
      ·refine .v rfl (met rfl rfl rfl g5) (O.fld fld78_3 rfl rfl rfl) ?_; refine .v rfl (met rfl rfl rfl g5) (O.ld (y := .i x0.Rating) ty3 rfl rfl rfl) ?_; refine .v rfl (met rfl rfl rfl g5) (OpL.binI rfl rfl rfl rfl) ?_; refine .v rfl rfl (O.pickF g5 rfl rfl rfl) ?_; refine .a rfl rfl rfl rfl ?_; refine .nil ?_; exact toN (Gives.mkR [] (.r rfl rfl (.r rfl rfl (.c rfl (sbb (by first | (simp only [g1, g2, g3, g4, g5, BL]; done) | (repeat (first | rw [g1] | rw [g2] | rw [g3] | rw [g4] | rw [g5])) <;> simp only [BL])) rfl .n))) (.r rfl rfl rfl .n) rfl rfl rfl)
end Go.Proofs.Ytjdkibnhlmgppaa
